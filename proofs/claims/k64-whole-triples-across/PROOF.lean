import PyProof.Rows.All
import Wide.All
import OpenK.AllK
import Wide.FinOn
import HandS.ForMost
import HandS.Wide
import HandS.WideMore
import HandS.Gcd
import HandS.SortInts
import HandS.EndTab
import HandS.AnyAll
import HandS.IsInst
import HandS.TupAny
import HandS.Rev
import HandS.Star
import KE.GoesEnum
import HandS.Head0
import HandS.Head1
import HandS.Head2
import HandS.Head3
import HandS.HeadEnd
import HandS.HeadHook1
import HandS.HeadHook2
import HandS.Style
import HandS.Deep
import KE.KMathG
import HandS.SetFor
import HandS.Strs
import KE.DataMinMax
import HandS.Zip
import HandS.Text
import HandS.Lambda
import PyProof.GenArm
import HandS.GenList
import PyProof.GenComp
import PyProof.TupleOfGen
import PyProof.CollectWalk
import HandS.HeadHook4
import HandS.HeadWalk
import KE.SortData
import HandS.Conv
import HandS.SortKw
import HandS.DictTup
import KE.OsSortAny
import PyProof.AutoSeq1
import KE.KDictCopyH
import PyProof.StrOps2
import KE.GoesZip
import KE.GoesMore
import HandS.MapJoin
import PySem.Challenge.RW_numberwright_k64_whole_triples_across
set_option Elab.async false
set_option linter.all false
set_option maxRecDepth 100000
set_option maxHeartbeats 0
namespace Fx
open PySem PySem.Spec L2
open PyProof.Rows hiding St

abbrev PV := PyData
abbrev St := L2.St
/-- a key as a value -/
def kD : Key → PV
  | .inl i => .int i
  | .inr x => .str x
/-- the tuples that stand as constants of a module -/
def kDat : List PV → Bool
  | [.int a, .int b, .int c] => (decide (a = 3) && decide (b = 4) && decide (c = 5)) || (decide (a = 1) && decide (b = 2) && decide (c = 5))
  | [.str x, .str y, .str z] => decide (x = "u") && decide (y = "m") && decide (z = "d")
  | _ => false
/-- a tuple of the frozen part, or a constant -/
def TupOk (K : PySem.W.Frag) (F : Hp) (a : Addr) (xs : List V) (ds : List PV) : Prop := F a = some (.tup xs) ∨ (kDat ds = true ∧ SqT K F a xs)
mutual
/-- the value v stands, in the frozen part F, for the plain value d -/
inductive Rep (K : PySem.W.Frag) (F : Hp) : V → PV → Prop
  | non : Rep K F .non .none
  | bl (b : Bool) : Rep K F (.bl b) (.bool b)
  | int (i : Int) : Rep K F (.int i) (.int i)
  | str (x : Str) : Rep K F (.str x) (.str x)
  | lst {a : Addr} {xs : List V} {ds : List PV} : F a = some (.lst xs) → Reps K F xs ds → Rep K F (.ref a) (.list ds)
  | tup {a : Addr} {xs : List V} {ds : List PV} : TupOk K F a xs ds → Reps K F xs ds → Rep K F (.ref a) (.tuple ds)
  | dk {a : Addr} {kvs : List (Key × V)} {ds : List (PV × PV)} : F a = some (.dK kvs) → RepK K F kvs ds → Rep K F (.ref a) (.dict ds)
  | dt {a : Addr} {kvs : List (List Key × V)} {ds : List (PV × PV)} : F a = some (.dT kvs) → RepT K F kvs ds → Rep K F (.ref a) (.dict ((.none, .none) :: ds))
  | lk {a : Addr} {xs : List V} {ds : List PV} : SqL K F a xs → Reps K F xs ds → Rep K F (.ref a) (.dict [(.bool true, .list ds)])
inductive Reps (K : PySem.W.Frag) (F : Hp) : List V → List PV → Prop
  | nil : Reps K F [] []
  | cons {v : V} {vs : List V} {d : PV} {ds : List PV} : Rep K F v d → Reps K F vs ds → Reps K F (v :: vs) (d :: ds)
inductive RepK (K : PySem.W.Frag) (F : Hp) : List (Key × V) → List (PV × PV) → Prop
  | nil : RepK K F [] []
  | cons {k : Key} {v : V} {vs : List (Key × V)} {d : PV} {ds : List (PV × PV)} : Rep K F v d → RepK K F vs ds → RepK K F ((k, v) :: vs) ((kD k, d) :: ds)
inductive RepT (K : PySem.W.Frag) (F : Hp) : List (List Key × V) → List (PV × PV) → Prop
  | nil : RepT K F [] []
  | cons {k : List Key} {v : V} {vs : List (List Key × V)} {d : PV} {ds : List (PV × PV)} : Rep K F v d → RepT K F vs ds → RepT K F ((k, v) :: vs) ((.tuple (k.map kD), d) :: ds)
end

section
variable {K : PySem.W.Frag} {F F' : Hp}
theorem SqL.mono {a : Addr} {xs : List V} (e : Same F F') (h : SqL K F a xs) : SqL K F' a xs := e.seq h
theorem SqT.mono {a : Addr} {xs : List V} (e : Same F F') (h : SqT K F a xs) : SqT K F' a xs := by
  rcases h with (h | ⟨o, h⟩) | h
  · exact .inl (.inl (e _ _ h))
  · exact .inl (.inr ⟨o, e _ _ h⟩)
  · exact .inr h
theorem sqT {a : Addr} {xs : List V} {ds : List PV} (h : TupOk K F a xs ds) : SqT K F a xs := h.elim (fun h => .inl (.inl h)) fun h => h.2
theorem TupOk.mono {a : Addr} {xs : List V} {ds : List PV} (e : Same F F') (h : TupOk K F a xs ds) : TupOk K F' a xs ds := h.elim (fun h => .inl (e _ _ h)) fun h => .inr ⟨h.1, SqT.mono e h.2⟩
mutual
theorem Rep.mono (e : Same F F') : ∀ {v : V} {d : PV}, Rep K F v d → Rep K F' v d
  | _, _, .non => .non
  | _, _, .bl b => .bl b
  | _, _, .int i => .int i
  | _, _, .str x => .str x
  | _, _, .lst h r => .lst (e _ _ h) (Reps.mono e r)
  | _, _, .tup h r => .tup (h.mono e) (Reps.mono e r)
  | _, _, .dk h r => .dk (e _ _ h) (RepK.mono e r)
  | _, _, .dt h r => .dt (e _ _ h) (RepT.mono e r)
  | _, _, .lk h r => .lk (SqL.mono e h) (Reps.mono e r)
theorem Reps.mono (e : Same F F') : ∀ {v : List V} {d : List PV}, Reps K F v d → Reps K F' v d
  | _, _, .nil => .nil
  | _, _, .cons h r => .cons (Rep.mono e h) (Reps.mono e r)
theorem RepK.mono (e : Same F F') : ∀ {v : List (Key × V)} {d : List (PV × PV)}, RepK K F v d → RepK K F' v d
  | _, _, .nil => .nil
  | _, _, .cons h r => .cons (Rep.mono e h) (RepK.mono e r)
theorem RepT.mono (e : Same F F') : ∀ {v : List (List Key × V)} {d : List (PV × PV)}, RepT K F v d → RepT K F' v d
  | _, _, .nil => .nil
  | _, _, .cons h r => .cons (Rep.mono e h) (RepT.mono e r)
end
theorem Reps.len : ∀ {xs : List V} {ds : List PV}, Reps K F xs ds → xs.length = ds.length
  | _, _, .nil => rfl
  | _, _, .cons _ r => by simp [Reps.len r]
theorem Reps.get : ∀ {xs : List V} {ds : List PV} {i : Nat} {d : PV}, Reps K F xs ds → ds[i]? = some d → ∃ v, xs[i]? = some v ∧ Rep K F v d
  | _, _, _, _, .nil, h => by simp at h
  | _, _, 0, _, .cons r _, h => by simp at h; subst h; exact ⟨_, rfl, r⟩
  | _, _, i + 1, _, .cons _ r, h => by
    obtain ⟨v, h1, h2⟩ := Reps.get (i := i) r (by simpa using h)
    exact ⟨v, by simpa using h1, h2⟩
theorem Reps.append : ∀ {xs ys : List V} {ds es : List PV}, Reps K F xs ds → Reps K F ys es → Reps K F (xs ++ ys) (ds ++ es)
  | _, _, _, _, .nil, s => s
  | _, _, _, _, .cons r t, s => .cons r (Reps.append t s)
theorem Reps.take : ∀ {xs : List V} {ds : List PV} (n : Nat), Reps K F xs ds → Reps K F (xs.take n) (ds.take n)
  | _, _, 0, _ => .nil
  | _, _, _ + 1, .nil => .nil
  | _, _, n + 1, .cons r t => .cons r (Reps.take n t)
theorem Reps.drop : ∀ {xs : List V} {ds : List PV} (n : Nat), Reps K F xs ds → Reps K F (xs.drop n) (ds.drop n)
  | _, _, 0, r => r
  | _, _, _ + 1, .nil => .nil
  | _, _, n + 1, .cons _ t => Reps.drop n t
theorem Reps.set {v : V} {d : PV} (r : Rep K F v d) : ∀ {xs : List V} {ds : List PV} (i : Nat), Reps K F xs ds → Reps K F (xs.set i v) (ds.set i d)
  | _, _, _, .nil => .nil
  | _, _, 0, .cons _ t => .cons r t
  | _, _, i + 1, .cons q t => .cons q (Reps.set r i t)
theorem Reps.one {v : V} {d : PV} (r : Rep K F v d) : Reps K F [v] [d] := .cons r .nil
theorem Reps.reverse : ∀ {xs : List V} {ds : List PV}, Reps K F xs ds → Reps K F xs.reverse ds.reverse
  | _, _, .nil => .nil
  | _, _, .cons r t => by
    rw [List.reverse_cons, List.reverse_cons]
    exact (Reps.reverse t).append (.one r)
end

/-- what a local name holds: nothing; a value; an object of its own (may be changed); the caller's object (may be changed) -/
inductive Sl where
  | no | va (d : PV) | ow (d : PV) | io (d : PV)
abbrev Ev := List Sl

inductive Own (K : PySem.W.Frag) (F H : Hp) : Addr → PV → Prop
  | lst {a : Addr} {xs : List V} {ds : List PV} : H a = some (.lst xs) → Reps K F xs ds → Own K F H a (.list ds)
  | dk {a : Addr} {kvs : List (Key × V)} {ds : List (PV × PV)} : H a = some (.dK kvs) → RepK K F kvs ds → Own K F H a (.dict ds)
  | dt {a : Addr} {kvs : List (List Key × V)} {ds : List (PV × PV)} : H a = some (.dT kvs) → RepT K F kvs ds → Own K F H a (.dict ((.none, .none) :: ds))
theorem Own.mono {K : PySem.W.Frag} {F F' H H' : Hp} {a : Addr} {d : PV} (e : Same F F') (k : H' a = H a) : Own K F H a d → Own K F' H' a d
  | .lst h r => .lst (k.trans h) (r.mono e)
  | .dk h r => .dk (k.trans h) (r.mono e)
  | .dt h r => .dt (k.trans h) (r.mono e)
/-- a list or a dict -/
def Mut : HO → Prop
  | .lst _ => True
  | .dK _ => True
  | .dT _ => True
  | _ => False
theorem Mut.ntb {o : HO} (h : Mut o) : ∀ ps, o ≠ .tbl ps := fun ps e => by rw [e] at h; exact h
theorem Mut.ntp {o : HO} (h : Mut o) : ∀ xs, o ≠ .tup xs := fun ps e => by rw [e] at h; exact h
theorem Own.mut {K : PySem.W.Frag} {F H : Hp} {a : Addr} {d : PV} : Own K F H a d → ∃ o, H a = some o ∧ Mut o
  | .lst h _ => ⟨_, h, trivial⟩
  | .dk h _ => ⟨_, h, trivial⟩
  | .dt h _ => ⟨_, h, trivial⟩
theorem Own.at_ {K : PySem.W.Frag} {F H : Hp} {a : Addr} {d : PV} : Own K F H a d → ∃ o, H a = some o ∧ ∀ ps, o ≠ .tbl ps
  | .lst h _ => ⟨_, h, fun _ z => nomatch z⟩
  | .dk h _ => ⟨_, h, fun _ z => nomatch z⟩
  | .dt h _ => ⟨_, h, fun _ z => nomatch z⟩

/-- the entry: the heap, its frozen part, the caller's objects that may be changed (slot, address); objects in the making -/
structure Gh where
  H0 : Hp
  F0 : Hp
  io : List (Nat × Addr)
  tmp : List (Addr × HO)

def owns (env : Ev) (i : Nat) : Prop := ∃ d : PV, env[i]? = some (.ow d) ∨ env[i]? = some (.io d)

/-- where a def's run stands -/
structure Rel (T : List Addr) (K : PySem.W.Frag) (g : Gh) (F H : Hp) (σ : St) (env : Ev) : Prop where
  len : env.length = σ.length
  sub : Same F H
  f0 : Same g.F0 F
  new : ∀ (a : Addr) (o : HO), F a = some o → g.F0 a = some o ∨ g.H0 a = none ∨ ∃ xs, o = .tup xs
  keep : ∀ (a : Addr) (o : HO), g.H0 a = some o → a ∉ T → (∀ i : Nat, (i, a) ∉ g.io) → H a = some o
  tab : ∀ P ∈ T, GxR.TabG H P
  nt : ∀ P ∈ T, F P = none
  va : ∀ (i : Nat) (d : PV), env[i]? = some (.va d) → ∃ v, σ[i]? = some (some v) ∧ Rep K F v d
  ow : ∀ (i : Nat) (d : PV), env[i]? = some (.ow d) → ∃ a, σ[i]? = some (some (.ref a)) ∧ F a = none ∧ g.H0 a = none ∧ Own K F H a d
  io : ∀ (i : Nat) (d : PV), env[i]? = some (.io d) → ∃ a, (i, a) ∈ g.io ∧ σ[i]? = some (some (.ref a)) ∧ F a = none ∧ Own K F H a d
  iok : ∀ (i : Nat) (a : Addr), (i, a) ∈ g.io → σ[i]? = some (some (.ref a)) ∧ ∃ d, env[i]? = some (.io d)
  tm : ∀ (a : Addr) (o : HO), (a, o) ∈ g.tmp → H a = some o ∧ F a = none ∧ Mut o ∧ ∀ i : Nat, owns env i → σ[i]? ≠ some (some (.ref a))
  sep : ∀ (i j : Nat) (a : Addr), owns env i → owns env j → σ[i]? = some (some (.ref a)) → σ[j]? = some (some (.ref a)) → i = j

/-- no name owns it, it is not in the making -/
def Alone (g : Gh) (env : Ev) (σ : St) (a : Addr) : Prop := (∀ i, owns env i → σ[i]? ≠ some (some (.ref a))) ∧ ∀ o, (a, o) ∉ g.tmp
section
variable {T : List Addr} {K : PySem.W.Frag} {g : Gh} {F H : Hp} {σ : St} {env : Ev}
theorem Same.upd {H : Hp} {p : Addr} {o : HO} (h : H p = none) : Same H (upd H p o) := fun b x e => by
  rw [upd_ne (ne_of_none e h)]
  exact e
theorem Rel.fresh (R : Rel T K g F H σ env) {p : Addr} (h : H p = none) : g.H0 p = none ∧ p ∉ T ∧ F p = none := by
  have nT : p ∉ T := fun z => by
    obtain ⟨ps, e, _⟩ := R.tab p z
    rw [h] at e; cases e
  refine ⟨?_, nT, R.sub.free h⟩
  cases q : g.H0 p with
  | none => rfl
  | some o =>
    by_cases hio : ∃ i, (i, p) ∈ g.io
    · obtain ⟨i, hi⟩ := hio
      obtain ⟨h1, d, h2⟩ := R.iok i p hi
      obtain ⟨a, _, e1, _, ho⟩ := R.io i d h2
      rw [h1] at e1
      cases e1
      obtain ⟨o', ho', _⟩ := ho.at_
      rw [h] at ho'; cases ho'
    · have := R.keep p o q nT fun i z => hio ⟨i, z⟩
      rw [h] at this; cases this
/-- an object is laid, nothing said of it -/
theorem Rel.laid (R : Rel T K g F H σ env) {p : Addr} {o : HO} (h : H p = none) : Rel T K g F (upd H p o) σ env := by
  obtain ⟨h0, nT, hF⟩ := R.fresh h
  have ne : ∀ {a : Addr} {d : PV}, Own K F H a d → a ≠ p := fun ho z => by
    obtain ⟨o', e, _⟩ := ho.at_
    rw [z, h] at e; cases e
  refine ⟨R.len, R.sub.trans (Same.upd h), R.f0, R.new, fun a o' e n1 n2 => ?_, fun P hP => ?_, R.nt, R.va, fun i d e => ?_, fun i d e => ?_, R.iok, fun a o' e => ?_, R.sep⟩
  · have : a ≠ p := fun z => by rw [z, h0] at e; cases e
    rw [upd_ne this]
    exact R.keep a o' e n1 n2
  · have : P ≠ p := fun z => nT (z ▸ hP)
    obtain ⟨ps, e, t⟩ := R.tab P hP
    exact ⟨ps, by rw [upd_ne this]; exact e, t⟩
  · obtain ⟨a, e1, e2, e3, ho⟩ := R.ow i d e
    exact ⟨a, e1, e2, e3, ho.mono (Same.refl _) (upd_ne (ne ho))⟩
  · obtain ⟨a, e0, e1, e2, ho⟩ := R.io i d e
    exact ⟨a, e0, e1, e2, ho.mono (Same.refl _) (upd_ne (ne ho))⟩
  · obtain ⟨t1, t2, t3, t4⟩ := R.tm a o' e
    exact ⟨by rw [upd_ne (ne_of_none t1 h)]; exact t1, t2, t3, t4⟩
/-- an object that no name owns is frozen -/
theorem Rel.froze (R : Rel T K g F H σ env) {p : Addr} {o : HO} (hF : F p = none) (h : H p = some o) (h0 : g.H0 p = none) (nT : p ∉ T) (no2 : Alone g env σ p) :
    Rel T K g (upd F p o) H σ env ∧ Same F (upd F p o) := by
  have no := no2.1
  have sF : Same F (upd F p o) := Same.upd hF
  refine ⟨⟨R.len, fun a o' e => ?_, R.f0.trans sF, fun a o' e => ?_, R.keep, R.tab, fun P hP => ?_, fun i d e => ?_, fun i d e => ?_, fun i d e => ?_, R.iok, fun a o' e => ?_, R.sep⟩, sF⟩
  · by_cases ha : a = p
    · rw [ha, upd_same] at e
      rw [ha, h]; exact e
    · rw [upd_ne ha] at e
      exact R.sub a o' e
  · by_cases ha : a = p
    · rw [ha]; exact .inr (.inl h0)
    · rw [upd_ne ha] at e
      exact R.new a o' e
  · rw [upd_ne (fun (z : P = _) => nT (by rw [← z]; exact hP))]
    exact R.nt P hP
  · obtain ⟨v, e1, r⟩ := R.va i d e
    exact ⟨v, e1, r.mono sF⟩
  · obtain ⟨a, e1, e2, e3, ho⟩ := R.ow i d e
    have : a ≠ p := fun z => no i ⟨d, .inl e⟩ (by rw [e1, z])
    exact ⟨a, e1, by rw [upd_ne this]; exact e2, e3, ho.mono sF rfl⟩
  · obtain ⟨a, e0, e1, e2, ho⟩ := R.io i d e
    have : a ≠ p := fun z => no i ⟨d, .inr e⟩ (by rw [e1, z])
    exact ⟨a, e0, e1, by rw [upd_ne this]; exact e2, ho.mono sF rfl⟩
  · obtain ⟨t1, t2, t3, t4⟩ := R.tm a o' e
    exact ⟨t1, by rw [upd_ne (fun (z : a = p) => no2.2 o' (by rw [← z]; exact e))]; exact t2, t3, t4⟩
/-- a tuple that stands is frozen -/
theorem Rel.frozeT (R : Rel T K g F H σ env) {p : Addr} {xs : List V} (hF : F p = none) (h : H p = some (.tup xs)) :
    Rel T K g (upd F p (.tup xs)) H σ env ∧ Same F (upd F p (.tup xs)) := by
  have sF : Same F (upd F p (.tup xs)) := Same.upd hF
  have nM : ∀ {o : HO}, H p = some o → Mut o → False := fun {o} e m => by
    rw [h] at e; cases e; exact m
  refine ⟨⟨R.len, fun a o' e => ?_, R.f0.trans sF, fun a o' e => ?_, R.keep, R.tab, fun P hP => ?_, fun i d e => ?_, fun i d e => ?_, fun i d e => ?_, R.iok, fun a o' e => ?_, R.sep⟩, sF⟩
  · by_cases ha : a = p
    · rw [ha, upd_same] at e
      rw [ha, h]; exact e
    · rw [upd_ne ha] at e
      exact R.sub a o' e
  · by_cases ha : a = p
    · rw [ha, upd_same] at e
      cases e
      exact .inr (.inr ⟨_, rfl⟩)
    · rw [upd_ne ha] at e
      exact R.new a o' e
  · have : P ≠ p := fun z => by
      obtain ⟨ps, e, _⟩ := R.tab P hP
      rw [z, h] at e; cases e
    rw [upd_ne this]
    exact R.nt P hP
  · obtain ⟨v, e1, r⟩ := R.va i d e
    exact ⟨v, e1, r.mono sF⟩
  · obtain ⟨a, e1, e2, e3, ho⟩ := R.ow i d e
    obtain ⟨o, eo, m⟩ := ho.mut
    have : a ≠ p := fun z => nM (by rw [← z]; exact eo) m
    exact ⟨a, e1, by rw [upd_ne this]; exact e2, e3, ho.mono sF rfl⟩
  · obtain ⟨a, e0, e1, e2, ho⟩ := R.io i d e
    obtain ⟨o, eo, m⟩ := ho.mut
    have : a ≠ p := fun z => nM (by rw [← z]; exact eo) m
    exact ⟨a, e0, e1, by rw [upd_ne this]; exact e2, ho.mono sF rfl⟩
  · obtain ⟨t1, t2, t3, t4⟩ := R.tm a o' e
    have : a ≠ p := fun z => nM (by rw [← z]; exact t1) t3
    exact ⟨t1, by rw [upd_ne this]; exact t2, t3, t4⟩
theorem Rel.own_ne (R : Rel T K g F H σ env) {p : Addr} (h : H p = none) : Alone g env σ p := by
  refine ⟨fun i ⟨d, hd⟩ e => ?_, fun o z => ?_⟩
  · rcases hd with hd | hd
    · obtain ⟨a, e1, _, _, ho⟩ := R.ow i d hd
      obtain ⟨o', q, _⟩ := ho.at_
      rw [e] at e1; cases e1
      rw [h] at q; cases q
    · obtain ⟨a, _, e1, _, ho⟩ := R.io i d hd
      obtain ⟨o', q, _⟩ := ho.at_
      rw [e] at e1; cases e1
      rw [h] at q; cases q
  · have q := (R.tm p o z).1
    rw [h] at q; cases q
/-- a new object is laid and frozen -/
theorem Rel.laidF (R : Rel T K g F H σ env) {p : Addr} {o : HO} (h : H p = none) : Rel T K g (upd F p o) (upd H p o) σ env ∧ Same F (upd F p o) :=
  let ⟨h0, nT, hF⟩ := R.fresh h
  (R.laid h).froze hF upd_same h0 nT (R.own_ne h)
/-- a name's own object is frozen -/
theorem Rel.still (R : Rel T K g F H σ env) {i : Nat} {d : PV} (e : env[i]? = some (.ow d)) :
    ∃ F' v, Rel T K g F' H σ (env.set i (.va d)) ∧ Same F F' ∧ σ[i]? = some (some v) ∧ Rep K F' v d := by
  obtain ⟨a, e1, e2, e3, ho⟩ := R.ow i d e
  obtain ⟨o, hH, hnt⟩ := ho.at_
  have hi : i < env.length := (List.getElem?_eq_some_iff.mp e).1
  have nT : a ∉ T := fun z => by
    obtain ⟨ps, q, _⟩ := R.tab a z
    rw [hH] at q; cases q
    exact hnt ps rfl
  have get : ∀ j s, j ≠ i → (env.set i (.va d))[j]? = some s → env[j]? = some s := fun j s hj q => by
    rw [List.getElem?_set_ne (Ne.symm hj)] at q; exact q
  have own' : ∀ j, owns (env.set i (.va d)) j → j ≠ i ∧ owns env j := fun j ⟨d', hd'⟩ => by
    have hj : j ≠ i := fun z => by
      rw [z, List.getElem?_set_self hi] at hd'
      rcases hd' with q | q <;> cases q
    exact ⟨hj, d', hd'.imp (get j _ hj) (get j _ hj)⟩
  have R1 : Rel T K g F H σ (env.set i (.va d)) → True := fun _ => trivial
  -- first forget the name's own
  have sF : Same F (upd F a o) := Same.upd e2
  have rep : Rep K (upd F a o) (.ref a) d := by
    cases ho with
    | lst h r =>
      rw [h] at hH; cases hH
      exact .lst upd_same (r.mono sF)
    | dk h r =>
      rw [h] at hH; cases hH
      exact .dk upd_same (r.mono sF)
    | dt h r =>
      rw [h] at hH; cases hH
      exact .dt upd_same (r.mono sF)
  have ne : ∀ j b, j ≠ i → owns env j → σ[j]? = some (some (.ref b)) → b ≠ a := fun j b hj oj ej z => by
    subst z
    exact hj (R.sep j i b oj ⟨d, .inl e⟩ ej e1)
  refine ⟨upd F a o, .ref a, ⟨by rw [List.length_set]; exact R.len, fun b o' q => ?_, R.f0.trans sF, fun b o' q => ?_, R.keep, R.tab, fun P hP => ?_, fun j d' q => ?_, fun j d' q => ?_, fun j d' q => ?_, fun j b q => ?_, fun b o' q => ?_, fun j k b q1 q2 => ?_⟩, sF, e1, rep⟩
  · by_cases hb : b = a
    · rw [hb, upd_same] at q
      rw [hb, hH]; exact q
    · rw [upd_ne hb] at q
      exact R.sub b o' q
  · by_cases hb : b = a
    · rw [hb]; exact .inr (.inl e3)
    · rw [upd_ne hb] at q
      exact R.new b o' q
  · rw [upd_ne (fun (z : P = _) => nT (by rw [← z]; exact hP))]
    exact R.nt P hP
  · by_cases hj : j = i
    · rw [hj, List.getElem?_set_self hi] at q
      cases q
      rw [hj]
      exact ⟨_, e1, rep⟩
    · obtain ⟨v, q1, r⟩ := R.va j d' (get j _ hj q)
      exact ⟨v, q1, r.mono sF⟩
  · have hj : j ≠ i := fun z => by rw [z, List.getElem?_set_self hi] at q; cases q
    obtain ⟨b, q1, q2, q3, ho'⟩ := R.ow j d' (get j _ hj q)
    have : b ≠ a := ne j b hj ⟨d', .inl (get j _ hj q)⟩ q1
    exact ⟨b, q1, by rw [upd_ne this]; exact q2, q3, ho'.mono sF rfl⟩
  · have hj : j ≠ i := fun z => by rw [z, List.getElem?_set_self hi] at q; cases q
    obtain ⟨b, q0, q1, q2, ho'⟩ := R.io j d' (get j _ hj q)
    have : b ≠ a := ne j b hj ⟨d', .inr (get j _ hj q)⟩ q1
    exact ⟨b, q0, q1, by rw [upd_ne this]; exact q2, ho'.mono sF rfl⟩
  · obtain ⟨q1, d', q2⟩ := R.iok j b q
    have hj : j ≠ i := fun z => by rw [z, e] at q2; cases q2
    exact ⟨q1, d', by rw [List.getElem?_set_ne (Ne.symm hj)]; exact q2⟩
  · obtain ⟨t1, t2, t3, t4⟩ := R.tm b o' q
    have hb : b ≠ a := fun z => t4 i ⟨d, .inl e⟩ (by rw [e1, z])
    exact ⟨t1, by rw [upd_ne hb]; exact t2, t3, fun j hj => t4 j (own' j hj).2⟩
  · exact R.sep j k b (own' j q1).2 (own' k q2).2
end
end Fx

namespace Fx
open PySem PySem.Spec L2
open PyProof.Rows hiding St

theorem _root_.L2.PE.weak {X : Cx} {e : Expr} {t t' : TE} (h : PE X e t) (w : ∀ σ H Q, t' σ H Q → t σ H Q) : PE X e t' := ⟨fun pins s σ H Q I q => h.run pins s σ H Q I (w σ H Q q)⟩
theorem _root_.L2.PT.weak {X : Cx} {e : Expr} {t t' : TT} (h : PT X e t) (w : ∀ σ H Q, t' σ H Q → t σ H Q) : PT X e t' := ⟨fun pins s σ H Q I q => h.run pins s σ H Q I (w σ H Q q)⟩
theorem _root_.L2.PW.weak {X : Cx} {e : Expr} {t t' : TT} (h : PW X e t) (w : ∀ σ H Q, t' σ H Q → t σ H Q) : PW X e t' := ⟨fun wh pins s σ H Q I q => h.run wh pins s σ H Q I (w σ H Q q)⟩
theorem _root_.L2.PA.weak {X : Cx} {e : List Expr} {t t' : TA} (h : PA X e t) (w : ∀ σ H Q, t' σ H Q → t σ H Q) : PA X e t' := ⟨fun pos pins s σ H Q I q => h.run pos pins s σ H Q I (w σ H Q q)⟩
theorem _root_.L2.PS.weak {X : Cx} {e : Stmt} {t t' : TS} (h : PS X e t) (w : ∀ D σ H, t' D σ H → t D σ H) : PS X e t' := ⟨fun pins s σ H D I q => h.run pins s σ H D I (w D σ H q)⟩
theorem _root_.L2.PSs.weak {X : Cx} {e : List Stmt} {t t' : TS} (h : PSs X e t) (w : ∀ D σ H, t' D σ H → t D σ H) : PSs X e t' := ⟨fun pins s σ H D I q => h.run pins s σ H D I (w D σ H q)⟩
theorem _root_.L2.PG.weak {X : Cx} {e : Expr} {t t' : TG} (h : PG X e t) (w : ∀ v σ H Q, t' v σ H Q → t v σ H Q) : PG X e t' := ⟨fun pins s σ H v u Q I r q => h.run pins s σ H v u Q I r (w v σ H Q q)⟩
theorem _root_.L2.PGs.weak {X : Cx} {e : List Expr} {t t' : TGs} (h : PGs X e t) (w : ∀ v σ H Q, t' v σ H Q → t v σ H Q) : PGs X e t' := ⟨fun pins s σ H v u Q I r q => h.run pins s σ H v u Q I r (w v σ H Q q)⟩

theorem wipe_get {σ : St} : ∀ {vs : List Nat} {j : Nat}, (wipe σ vs)[j]? = if j ∈ vs ∧ j < σ.length then some none else σ[j]?
  | [], j => by simp [wipe]
  | v :: vs, j => by
    unfold wipe
    by_cases h : v = j
    · subst h
      by_cases hl : v < σ.length
      · rw [List.getElem?_set_self (by rw [wipe_length]; exact hl), if_pos ⟨List.mem_cons_self, hl⟩]
      · rw [List.getElem?_eq_none (by rw [List.length_set, wipe_length]; omega), if_neg (fun z => hl z.2), List.getElem?_eq_none (by omega)]
    · rw [List.getElem?_set_ne h, wipe_get]
      have : (j ∈ v :: vs) ↔ j ∈ vs := by
        rw [List.mem_cons]
        exact ⟨fun z => z.resolve_left (fun z => h z.symm), .inr⟩
      simp only [this]
theorem wipe_set {σ : St} {i : Nat} {x : Option V} {vs : List Nat} (h : i ∈ vs) : wipe (σ.set i x) vs = wipe σ vs := by
  apply List.ext_getElem?
  intro j
  rw [wipe_get, wipe_get, List.length_set]
  by_cases hj : j = i
  · subst hj
    by_cases hl : j < σ.length
    · rw [if_pos ⟨h, hl⟩, if_pos ⟨h, hl⟩]
    · rw [if_neg (fun z => hl z.2), if_neg (fun z => hl z.2), List.getElem?_eq_none (by rw [List.length_set]; omega), List.getElem?_eq_none (by omega)]
  · rw [List.getElem?_set_ne (Ne.symm hj)]

abbrev EF := Ev → Option (PV × Ev)
abbrev AF := Ev → Option (List PV × Ev)
abbrev TF := Ev → Option (Bool × Ev)
abbrev BF := PV → Ev → Option Ev
inductive Out where
  | nx (e : Ev) | rt (d : PV) (e : Ev) | rf (d : PV) (e : Ev) | bk (e : Ev) | ct (e : Ev)
abbrev SF := Ev → Option Out

section
variable (T : List Addr) (K : PySem.W.Frag)
def RE (f : EF) : TE := fun σ H Q => ∃ g F env d env', Rel T K g F H σ env ∧ f env = some (d, env') ∧ ∀ v H' F', Rel T K g F' H' σ env' → Same F F' → Rep K F' v d → Q v H'
/-- the value is a new object that nobody else holds -/
def RN (f : EF) : TE := fun σ H Q => ∃ g F env d env', Rel T K g F H σ env ∧ f env = some (d, env') ∧
  ∀ a H' F', Rel T K g F' H' σ env' → Same F F' → F' a = none → g.H0 a = none → Alone g env' σ a → Own K F' H' a d → Q (.ref a) H'
def RA (f : AF) : TA := fun σ H Q => ∃ g F env ds env', Rel T K g F H σ env ∧ f env = some (ds, env') ∧ ∀ vs H' F', Rel T K g F' H' σ env' → Same F F' → Reps K F' vs ds → Q vs H'
def RT (f : TF) : TT := fun σ H Q => ∃ g F env b env', Rel T K g F H σ env ∧ f env = some (b, env') ∧ ∀ H' F', Rel T K g F' H' σ env' → Same F F' → Q b H'
def RB (ts : List Nat) (f : BF) : TG := fun v σ H Q => ∃ g F env d env', Rel T K g F H σ env ∧ Rep K F v d ∧ f d env = some env' ∧ ∀ σ' H' F', Rel T K g F' H' σ' env' → Same F F' → (∀ vs : List Nat, (∀ i ∈ ts, i ∈ vs) → wipe σ' vs = wipe σ vs) → Q σ' H'
def RBs (ts : List Nat) (f : List PV → Ev → Option Ev) : TGs := fun vs σ H Q => ∃ g F env ds env', Rel T K g F H σ env ∧ Reps K F vs ds ∧ f ds env = some env' ∧ ∀ σ' H' F', Rel T K g F' H' σ' env' → Same F F' → (∀ vs : List Nat, (∀ i ∈ ts, i ∈ vs) → wipe σ' vs = wipe σ vs) → Q σ' H'
def Post (g : Gh) (F : Hp) (D : Ends) : Out → Prop
  | .nx e => ∀ σ' H' F', Rel T K g F' H' σ' e → Same F F' → D.nx σ' H'
  | .rt d e => ∀ v σ' H' F', Rel T K g F' H' σ' e → Same F F' → Rep K F' v d → D.rt v H'
  | .rf d e => ∀ a σ' H' F', Rel T K g F' H' σ' e → Same F F' → F' a = none → g.H0 a = none → Alone g e σ' a → Own K F' H' a d → D.rt (.ref a) H'
  | .bk e => ∀ σ' H' F', Rel T K g F' H' σ' e → Same F F' → D.bk σ' H'
  | .ct e => ∀ σ' H' F', Rel T K g F' H' σ' e → Same F F' → D.ct σ' H'
def RS (f : SF) : TS := fun D σ H => ∃ g F env out, Rel T K g F H σ env ∧ f env = some out ∧ Post T K g F D out
end
def FE (T : List Addr) (X : Cx) (e : Expr) (f : EF) : Prop := PE X e (RE T X.K f)
def FN (T : List Addr) (X : Cx) (e : Expr) (f : EF) : Prop := PE X e (RN T X.K f)
def FA (T : List Addr) (X : Cx) (e : List Expr) (f : AF) : Prop := PA X e (RA T X.K f)
def FT (T : List Addr) (X : Cx) (e : Expr) (f : TF) : Prop := PT X e (RT T X.K f)
def FW (T : List Addr) (X : Cx) (e : Expr) (f : TF) : Prop := PW X e (RT T X.K f)
def FB (T : List Addr) (X : Cx) (e : Expr) (ts : List Nat) (f : BF) : Prop := PG X e (RB T X.K ts f)
def FBs (T : List Addr) (X : Cx) (e : List Expr) (ts : List Nat) (f : List PV → Ev → Option Ev) : Prop := PGs X e (RBs T X.K ts f)
def FS (T : List Addr) (X : Cx) (st : Stmt) (f : SF) : Prop := PS X st (RS T X.K f)
def FSs (T : List Addr) (X : Cx) (st : List Stmt) (f : SF) : Prop := PSs X st (RS T X.K f)

theorem Post.mono {T : List Addr} {K : PySem.W.Frag} {g : Gh} {F F' : Hp} {D : Ends} (s : Same F F') : ∀ {o : Out}, Post T K g F D o → Post T K g F' D o
  | .nx _, h => fun σ' H' F2 R s2 => h σ' H' F2 R (s.trans s2)
  | .rt _ _, h => fun v σ' H' F2 R s2 => h v σ' H' F2 R (s.trans s2)
  | .rf _ _, h => fun a σ' H' F2 R s2 => h a σ' H' F2 R (s.trans s2)
  | .bk _, h => fun σ' H' F2 R s2 => h σ' H' F2 R (s.trans s2)
  | .ct _, h => fun σ' H' F2 R s2 => h σ' H' F2 R (s.trans s2)

section
variable {T : List Addr} {X : Cx}

def kE (d : PV) : EF := fun env => some (d, env)
theorem fe_val {e : Expr} {v : V} {d : PV} (h : PE X e (tC v)) (r : ∀ F, Rep X.K F v d) : FE T X e (kE d) :=
  h.weak fun σ H Q ⟨g, F, env, d', env', R, e, q⟩ => by
    cases e
    exact q v H F R (Same.refl _) (r F)
theorem fe_int {i : Int} {j : Nat} {pos : Pos} : FE T X (.Constant (.int i) j pos) (kE (.int i)) := fe_val pe_int fun _ => .int i
theorem fe_bl {b : Bool} {j : Nat} {pos : Pos} : FE T X (.Constant (.bool b) j pos) (kE (.bool b)) := fe_val pe_bl fun _ => .bl b
theorem fe_non {j : Nat} {pos : Pos} : FE T X (.Constant .none j pos) (kE .none) := fe_val pe_non fun _ => .non
theorem fe_str {x : Str} {j : Nat} {pos : Pos} : FE T X (.Constant (.str x) j pos) (kE (.str x)) := fe_val pe_str fun _ => .str x

/-- a name's value; its own object is frozen -/
def nm (i : Nat) : EF := fun env => match env[i]? with
  | some (.va d) => some (d, env)
  | some (.ow d) => some (d, env.set i (.va d))
  | _ => none
theorem fe_nm (i : Nat) {x : Str} {pos : Pos} (hN : X.N[i]? = some x := by rfl) (hv : Vis X.env.scope x := by first | exact Or.inl rfl | exact Or.inr (Or.inl rfl) | exact Or.inr (Or.inr rfl))
    (hd : (x == ("__debug__" : Str)) = false := by decide) (hcd : (x == ("__classdict__" : Str)) = false := by decide) : FE T X (.Name x pos) (nm i) :=
  (pe_var hN hv hd hcd).weak fun σ H Q ⟨g, F, env, d', env', R, e, q⟩ => by
    unfold nm at e
    split at e
    · rename_i d h
      cases e
      obtain ⟨v, e1, r⟩ := R.va i _ h
      exact ⟨v, e1, q v H F R (Same.refl _) r⟩
    · rename_i d h
      cases e
      obtain ⟨F', v, R', s, e1, r⟩ := R.still h
      exact ⟨v, e1, q v H F' R' s r⟩
    · cases e

theorem Own.rep {K : PySem.W.Frag} {F H : Hp} {a : Addr} {d : PV} (ho : Own K F H a d) (hF : F a = none) : ∃ o, H a = some o ∧ (∀ ps, o ≠ .tbl ps) ∧ Rep K (upd F a o) (.ref a) d := by
  cases ho with
  | lst h r => exact ⟨_, h, (fun _ z => nomatch z), .lst upd_same (r.mono (Same.upd hF))⟩
  | dk h r => exact ⟨_, h, (fun _ z => nomatch z), .dk upd_same (r.mono (Same.upd hF))⟩
  | dt h r => exact ⟨_, h, (fun _ z => nomatch z), .dt upd_same (r.mono (Same.upd hF))⟩
theorem Rel.notT {K : PySem.W.Frag} {g : Gh} {F H : Hp} {σ : St} {env : Ev} (R : Rel T K g F H σ env) {a : Addr} {o : HO} (h : H a = some o) (n : ∀ ps, o ≠ .tbl ps) : a ∉ T := fun z => by
  obtain ⟨ps, e, _⟩ := R.tab a z
  rw [h] at e; cases e
  exact n ps rfl
theorem FN.fe {e : Expr} {f : EF} (h : FN T X e f) : FE T X e f :=
  PE.weak h fun σ H Q ⟨g, F, env, d, env', R, e, q⟩ => ⟨g, F, env, d, env', R, e, fun a H' F' R' s hF h0 no ho => by
    obtain ⟨o, hH, hn, r⟩ := ho.rep hF
    obtain ⟨R2, s2⟩ := R'.froze hF hH h0 (R'.notT hH hn) no
    exact q _ _ _ R2 (s.trans s2) r⟩

def bin (g : PV → PV → Option PV) (fa fb : EF) : EF := fun env => match fa env with
  | none => none
  | some (a, e1) => match fb e1 with
    | none => none
    | some (b, e2) => match g a b with
      | none => none
      | some r => some (r, e2)
/-- a rule by values keeps to a function of plain values -/
def OpF (T : List Addr) (K : PySem.W.Frag) (r : R2) (g : PV → PV → Option PV) : Prop :=
  ∀ gh F H σ env x y a b d (Q : VK), Rel T K gh F H σ env → Rep K F x a → Rep K F y b → g a b = some d → (∀ v H' F', Rel T K gh F' H' σ env → Same F F' → Rep K F' v d → Q v H') → r x y H Q
theorem re_bin {r : R2} {g : PV → PV → Option PV} {ta tb : TE} {fa fb : EF} {K : PySem.W.Frag} (hg : OpF T K r g) : ∀ σ H Q, RE T K (bin g fa fb) σ H Q → tOp r (RE T K fa) (RE T K fb) σ H Q := by
  rintro σ H Q ⟨gh, F, env, d, env', R, e, q⟩
  unfold bin at e
  split at e
  · cases e
  · rename_i a e1 ea
    split at e
    · cases e
    · rename_i b e2 eb
      split at e
      · cases e
      · rename_i d' eg
        cases e
        refine ⟨gh, F, env, a, e1, R, ea, fun x H1 F1 R1 s1 ra => ⟨gh, F1, e1, b, _, R1, eb, fun y H2 F2 R2 s2 rb => ?_⟩⟩
        exact hg gh F2 H2 σ _ x y a b _ Q R2 (ra.mono s2) rb eg fun v H3 F3 R3 s3 r3 => q v H3 F3 R3 (s1.trans (s2.trans s3)) r3
theorem fe_op {op : Operator} {a b : Expr} {pos : Pos} {r : R2} {g : PV → PV → Option PV} {fa fb : EF} (ho : OpR X (binaryOp op) r) (hg : OpF T X.K r g) (ha : FE T X a fa) (hb : FE T X b fb) : FE T X (.BinOp a op b pos) (bin g fa fb) :=
  (pe_op ho ha hb).weak (re_bin (ta := RE T X.K fa) (tb := RE T X.K fb) hg)
theorem fe_cmp {op : CmpOp} {a b : Expr} {pos : Pos} {r : R2} {g : PV → PV → Option PV} {fa fb : EF} (ho : OpR X (compareOp op) r) (hg : OpF T X.K r g) (ha : FE T X a fa) (hb : FE T X b fb) (hm : behindInMarks op b = false := by first | exact nomark _ | with_unfolding_all rfl) : FE T X (.Compare a [op] [b] pos) (bin g fa fb) :=
  (pe_cmpR ho ha hb hm).weak (re_bin (ta := RE T X.K fa) (tb := RE T X.K fb) hg)
def un (g : PV → Option PV) (fa : EF) : EF := fun env => match fa env with
  | none => none
  | some (a, e1) => match g a with
    | none => none
    | some r => some (r, e1)

/-- a bool as a test -/
def tB' (f : EF) : TF := fun env => match f env with
  | some (.bool b, e) => some (b, e)
  | _ => none
theorem rt_b {f : EF} {K : PySem.W.Frag} : ∀ σ H Q, RT T K (tB' f) σ H Q → tTest (RE T K f) σ H Q := by
  rintro σ H Q ⟨gh, F, env, b, env', R, e, q⟩
  unfold tB' at e
  split at e
  · rename_i b' e' ef
    cases e
    exact ⟨gh, F, env, _, _, R, ef, fun v H1 F1 R1 s1 r1 => by cases r1; exact ⟨_, rfl, q H1 F1 R1 s1⟩⟩
  · cases e
theorem tTest_mono {t t' : TE} (w : ∀ σ H Q, t' σ H Q → t σ H Q) : ∀ σ H Q, tTest t' σ H Q → tTest t σ H Q := fun σ H Q h => w σ H _ h
theorem ft_cmp {op : CmpOp} {a b : Expr} {pos : Pos} {r : R2} {g : PV → PV → Option PV} {fa fb : EF} (ho : OpR X (compareOp op) r) (hg : OpF T X.K r g) (ha : FE T X a fa) (hb : FE T X b fb) (hm : behindInMarks op b = false := by first | exact nomark _ | with_unfolding_all rfl) : FT T X (.Compare a [op] [b] pos) (tB' (bin g fa fb)) :=
  PT.weak (pt_cmpR ho ha hb hm) fun σ H Q h => tTest_mono (re_bin (ta := RE T X.K fa) (tb := RE T X.K fb) hg) σ H Q (rt_b σ H Q h)
/-- an expression whose value is a bool, as a test -/
theorem ft_val {e : Expr} {f : EF} (h : FE T X e f) (he : ∀ whole, isTrue e X.env whole = (do let v ← whole; standAt e.pos; holding [v] (truthy v)) := by intro _; rfl) : FT T X e (tB' f) :=
  PT.weak (pt_val h he) rt_b
def tNt (f : TF) : TF := fun env => match f env with
  | some (b, e) => some (!b, e)
  | none => none
theorem ft_not {a : Expr} {pos : Pos} {f : TF} (h : FT T X a f) : FT T X (.UnaryOp .Not a pos) (tNt f) :=
  PT.weak (pt_not h) fun σ H Q ⟨gh, F, env, b, env', R, e, q⟩ => by
    unfold tNt at e
    split at e
    · rename_i b' e' ef
      cases e
      exact ⟨gh, F, env, _, _, R, ef, q⟩
    · cases e
def tAn (f h : TF) : TF := fun env => match f env with
  | some (true, e) => h e
  | some (false, e) => some (false, e)
  | none => none
def tOr' (f h : TF) : TF := fun env => match f env with
  | some (true, e) => some (true, e)
  | some (false, e) => h e
  | none => none
theorem fw_and1 {a : Expr} {pos : Pos} {f : TF} (h : FT T X a f) : FW T X (.BoolOp .And [a] pos) f := pw_and1 h
theorem fw_or1 {a : Expr} {pos : Pos} {f : TF} (h : FT T X a f) : FW T X (.BoolOp .Or [a] pos) f := pw_or1 h
theorem rt_and {f h : TF} {K : PySem.W.Frag} : ∀ σ H Q, RT T K (tAn f h) σ H Q → tAnd (RT T K f) (RT T K h) σ H Q := by
  rintro σ H Q ⟨gh, F, env, b, env', R, e, q⟩
  unfold tAn at e
  split at e
  · rename_i e1 ef
    exact ⟨gh, F, env, _, _, R, ef, fun H1 F1 R1 s1 => iteT ⟨gh, F1, _, _, _, R1, e, fun H2 F2 R2 s2 => q H2 F2 R2 (s1.trans s2)⟩⟩
  · rename_i e1 ef
    cases e
    exact ⟨gh, F, env, _, _, R, ef, fun H1 F1 R1 s1 => iteF (q H1 F1 R1 s1)⟩
  · cases e
theorem rt_or {f h : TF} {K : PySem.W.Frag} : ∀ σ H Q, RT T K (tOr' f h) σ H Q → L2.tOr (RT T K f) (RT T K h) σ H Q := by
  rintro σ H Q ⟨gh, F, env, b, env', R, e, q⟩
  unfold tOr' at e
  split at e
  · rename_i e1 ef
    cases e
    exact ⟨gh, F, env, _, _, R, ef, fun H1 F1 R1 s1 => iteT (q H1 F1 R1 s1)⟩
  · rename_i e1 ef
    exact ⟨gh, F, env, _, _, R, ef, fun H1 F1 R1 s1 => iteF ⟨gh, F1, _, _, _, R1, e, fun H2 F2 R2 s2 => q H2 F2 R2 (s1.trans s2)⟩⟩
  · cases e
theorem fw_and {a b : Expr} {rest : List Expr} {pos : Pos} {f h : TF} (ha : FT T X a f) (hb : FW T X (.BoolOp .And (b :: rest) pos) h) : FW T X (.BoolOp .And (a :: b :: rest) pos) (tAn f h) := (pw_and ha hb).weak rt_and
theorem fw_or {a b : Expr} {rest : List Expr} {pos : Pos} {f h : TF} (ha : FT T X a f) (hb : FW T X (.BoolOp .Or (b :: rest) pos) h) : FW T X (.BoolOp .Or (a :: b :: rest) pos) (tOr' f h) := (pw_or ha hb).weak rt_or
theorem FW.ft {e : Expr} {f : TF} (h : FW T X e f) : FT T X e f := PW.pt h
/-- .. as values -/
def vAn (f h : EF) : EF := fun env => match f env with
  | some (.bool true, e) => h e
  | some (.bool false, e) => some (.bool false, e)
  | _ => none
def vOr (f h : EF) : EF := fun env => match f env with
  | some (.bool true, e) => some (.bool true, e)
  | some (.bool false, e) => h e
  | _ => none
def vNt (f : EF) : EF := fun env => match f env with
  | some (.bool b, e) => some (.bool (!b), e)
  | _ => none
theorem fe_one {op : BoolOp} {a : Expr} {pos : Pos} {f : EF} (h : FE T X a f) : FE T X (.BoolOp op [a] pos) f := pe_one h
theorem fe_and {a b : Expr} {rest : List Expr} {pos : Pos} {f h : EF} (ha : FE T X a f) (hb : FE T X (.BoolOp .And (b :: rest) pos) h) : FE T X (.BoolOp .And (a :: b :: rest) pos) (vAn f h) :=
  (pe_and ha hb).weak fun σ H Q ⟨gh, F, env, d, env', R, e, q⟩ => by
    unfold vAn at e
    split at e
    · rename_i e1 ef
      exact ⟨gh, F, env, _, _, R, ef, fun v H1 F1 R1 s1 r1 => by cases r1; exact ⟨_, rfl, iteT ⟨gh, F1, _, _, _, R1, e, fun w H2 F2 R2 s2 => q w H2 F2 R2 (s1.trans s2)⟩⟩⟩
    · rename_i e1 ef
      cases e
      exact ⟨gh, F, env, _, _, R, ef, fun v H1 F1 R1 s1 r1 => by cases r1; exact ⟨_, rfl, iteF (q _ H1 F1 R1 s1 (.bl false))⟩⟩
    · cases e
theorem fe_or {a b : Expr} {rest : List Expr} {pos : Pos} {f h : EF} (ha : FE T X a f) (hb : FE T X (.BoolOp .Or (b :: rest) pos) h) : FE T X (.BoolOp .Or (a :: b :: rest) pos) (vOr f h) :=
  (pe_or ha hb).weak fun σ H Q ⟨gh, F, env, d, env', R, e, q⟩ => by
    unfold vOr at e
    split at e
    · rename_i e1 ef
      cases e
      exact ⟨gh, F, env, _, _, R, ef, fun v H1 F1 R1 s1 r1 => by cases r1; exact ⟨_, rfl, iteT (q _ H1 F1 R1 s1 (.bl true))⟩⟩
    · rename_i e1 ef
      exact ⟨gh, F, env, _, _, R, ef, fun v H1 F1 R1 s1 r1 => by cases r1; exact ⟨_, rfl, iteF ⟨gh, F1, _, _, _, R1, e, fun w H2 F2 R2 s2 => q w H2 F2 R2 (s1.trans s2)⟩⟩⟩
    · cases e
theorem fe_not {a : Expr} {pos : Pos} {f : EF} (ha : FE T X a f) : FE T X (.UnaryOp .Not a pos) (vNt f) :=
  (pe_not ha).weak fun σ H Q ⟨gh, F, env, d, env', R, e, q⟩ => by
    unfold vNt at e
    split at e
    · rename_i b' e' ef
      cases e
      exact ⟨gh, F, env, _, _, R, ef, fun v H1 F1 R1 s1 r1 => by cases r1; exact ⟨_, rfl, q _ H1 F1 R1 s1 (.bl _)⟩⟩
    · cases e
def eIf (t : TF) (f h : EF) : EF := fun env => match t env with
  | some (true, e) => f e
  | some (false, e) => h e
  | none => none
theorem fe_if {c a b : Expr} {pos : Pos} {t : TF} {f h : EF} (hc : FT T X c t) (ha : FE T X a f) (hb : FE T X b h) : FE T X (.IfExp c a b pos) (eIf t f h) :=
  (pe_ifExp hc ha hb).weak fun σ H Q ⟨gh, F, env, d, env', R, e, q⟩ => by
    unfold eIf at e
    split at e
    · rename_i e1 ef
      exact ⟨gh, F, env, _, _, R, ef, fun H1 F1 R1 s1 => iteT ⟨gh, F1, _, _, _, R1, e, fun w H2 F2 R2 s2 => q w H2 F2 R2 (s1.trans s2)⟩⟩
    · rename_i e1 ef
      exact ⟨gh, F, env, _, _, R, ef, fun H1 F1 R1 s1 => iteF ⟨gh, F1, _, _, _, R1, e, fun w H2 F2 R2 s2 => q w H2 F2 R2 (s1.trans s2)⟩⟩
    · cases e

def aNil : AF := fun env => some ([], env)
def aCons (f : EF) (h : AF) : AF := fun env => match f env with
  | none => none
  | some (d, e) => match h e with
    | none => none
    | some (ds, e') => some (d :: ds, e')
theorem fa_nil : FA T X [] aNil := pa_nil.weak fun σ H Q ⟨gh, F, env, d, env', R, e, q⟩ => by
  cases e
  exact q [] H F R (Same.refl _) .nil
theorem fa_cons {e : Expr} {es : List Expr} {f : EF} {h : AF} (ha : FE T X e f) (hb : FA T X es h) (hst : starEach (e :: es) X.env = (false, eval e X.env) :: starEach es X.env := by rfl) : FA T X (e :: es) (aCons f h) :=
  (pa_cons ha hb hst).weak fun σ H Q ⟨gh, F, env, d, env', R, e, q⟩ => by
    unfold aCons at e
    split at e
    · cases e
    · rename_i d1 e1 ef
      split at e
      · cases e
      · rename_i ds e2 eh
        cases e
        exact ⟨gh, F, env, _, _, R, ef, fun v H1 F1 R1 s1 r1 => ⟨gh, F1, _, _, _, R1, eh, fun vs H2 F2 R2 s2 r2 => q _ H2 F2 R2 (s1.trans s2) (.cons (r1.mono s2) r2)⟩⟩

def eTup (f : AF) : EF := fun env => match f env with
  | none => none
  | some (ds, e) => if ds.length ≤ sizeLine then some (.tuple ds, e) else none
def eLst (f : AF) : EF := fun env => match f env with
  | none => none
  | some (ds, e) => if ds.length ≤ sizeLine then some (.list ds, e) else none
theorem fe_tup {es : List Expr} {k : Nat} {pos : Pos} {f : AF} (h : FA T X es f) : FE T X (.Tuple es k pos) (eTup f) :=
  (pe_tup h).weak fun σ H Q ⟨gh, F, env, d, env', R, e, q⟩ => by
    unfold eTup at e
    split at e
    · cases e
    · rename_i ds e1 ef
      split at e
      · rename_i hl
        cases e
        refine ⟨gh, F, env, _, _, R, ef, fun vs H1 F1 R1 s1 r1 => ⟨by rw [r1.len]; exact hl, fun p hp => ?_⟩⟩
        obtain ⟨R2, s2⟩ := R1.laidF (o := .tup vs) hp
        exact q _ _ _ R2 (s1.trans s2) (.tup (.inl upd_same) (r1.mono s2))
      · cases e
theorem fn_lst {es : List Expr} {pos : Pos} {f : AF} (h : FA T X es f) : FN T X (.List es pos) (eLst f) :=
  (pe_lst h).weak fun σ H Q ⟨gh, F, env, d, env', R, e, q⟩ => by
    unfold eLst at e
    split at e
    · cases e
    · rename_i ds e1 ef
      split at e
      · rename_i hl
        cases e
        refine ⟨gh, F, env, _, _, R, ef, fun vs H1 F1 R1 s1 r1 => ⟨by rw [r1.len]; exact hl, fun p hp => ?_⟩⟩
        obtain ⟨h0, nT, hF⟩ := R1.fresh hp
        exact q p _ F1 (R1.laid hp) s1 hF h0 (R1.own_ne hp) (.lst upd_same r1)
      · cases e

def callF (g : List PV → Option PV) (f : AF) : EF := fun env => match f env with
  | none => none
  | some (ds, e) => match g ds with
    | none => none
    | some d => some (d, e)
def CallF (T : List Addr) (K : PySem.W.Frag) (r : List V → Hp → VK → Prop) (g : List PV → Option PV) : Prop :=
  ∀ gh F H σ env xs ds d (Q : VK), Rel T K gh F H σ env → Reps K F xs ds → g ds = some d → (∀ v H' F', Rel T K gh F' H' σ env → Same F F' → Rep K F' v d → Q v H') → r xs H Q
def CallN (T : List Addr) (K : PySem.W.Frag) (r : List V → Hp → VK → Prop) (g : List PV → Option PV) : Prop :=
  ∀ gh F H σ env xs ds d (Q : VK), Rel T K gh F H σ env → Reps K F xs ds → g ds = some d →
    (∀ a H' F', Rel T K gh F' H' σ env → Same F F' → F' a = none → gh.H0 a = none → Alone gh env σ a → Own K F' H' a d → Q (.ref a) H') → r xs H Q
theorem re_call {r : List V → Hp → VK → Prop} {g : List PV → Option PV} {f : AF} {K : PySem.W.Frag} (hg : CallF T K r g) : ∀ σ H Q, RE T K (callF g f) σ H Q → tCB r (RA T K f) σ H Q := by
  rintro σ H Q ⟨gh, F, env, d, env', R, e, q⟩
  unfold callF at e
  split at e
  · cases e
  · rename_i ds e1 ef
    split at e
    · cases e
    · rename_i d' eg
      cases e
      exact ⟨gh, F, env, _, _, R, ef, fun vs H1 F1 R1 s1 r1 => hg gh F1 H1 σ _ vs ds _ Q R1 r1 eg fun v H2 F2 R2 s2 r2 => q v H2 F2 R2 (s1.trans s2) r2⟩
theorem rn_call {r : List V → Hp → VK → Prop} {g : List PV → Option PV} {f : AF} {K : PySem.W.Frag} (hg : CallN T K r g) : ∀ σ H Q, RN T K (callF g f) σ H Q → tCB r (RA T K f) σ H Q := by
  rintro σ H Q ⟨gh, F, env, d, env', R, e, q⟩
  unfold callF at e
  split at e
  · cases e
  · rename_i ds e1 ef
    split at e
    · cases e
    · rename_i d' eg
      cases e
      exact ⟨gh, F, env, _, _, R, ef, fun vs H1 F1 R1 s1 r1 => hg gh F1 H1 σ _ vs ds _ Q R1 r1 eg fun a H2 F2 R2 s2 => q a H2 F2 R2 (s1.trans s2)⟩
theorem fe_callB {x : Str} {p pos : Pos} {e : Expr} {es : List Expr} {id : String} {r : List V → Hp → VK → Prop} {g : List PV → Option PV} {f : AF} (hc : CallR X (.builtin id) r) (cg : CallF T X.K r g) (hg : Gl X x) (hm : X.mg x = none) (hv : bootBuiltins x = some (.builtin id)) (ha : FA T X (e :: es) f)
    (hn : x ≠ "__name__" := by decide) (hdb : (x == ("__debug__" : Str)) = false := by decide) (he : starEach (e :: es) X.env = (false, eval e X.env) :: starEach es X.env := by rfl) (hpl : (backTo pos (starEach es X.env)).any (·.1) = false := by rfl) : FE T X (.Call (.Name x p) (e :: es) [] pos) (callF g f) :=
  (pe_callB hc hg hm hv ha hn hdb he hpl).weak (re_call cg)
theorem fn_callB {x : Str} {p pos : Pos} {e : Expr} {es : List Expr} {id : String} {r : List V → Hp → VK → Prop} {g : List PV → Option PV} {f : AF} (hc : CallR X (.builtin id) r) (cg : CallN T X.K r g) (hg : Gl X x) (hm : X.mg x = none) (hv : bootBuiltins x = some (.builtin id)) (ha : FA T X (e :: es) f)
    (hn : x ≠ "__name__" := by decide) (hdb : (x == ("__debug__" : Str)) = false := by decide) (he : starEach (e :: es) X.env = (false, eval e X.env) :: starEach es X.env := by rfl) (hpl : (backTo pos (starEach es X.env)).any (·.1) = false := by rfl) : FN T X (.Call (.Name x p) (e :: es) [] pos) (callF g f) :=
  (pe_callB hc hg hm hv ha hn hdb he hpl).weak (rn_call cg)
theorem fe_callTy {x : Str} {p pos : Pos} {e : Expr} {es : List Expr} {id : String} {r : List V → Hp → VK → Prop} {g : List PV → Option PV} {f : AF} (hc : CallR X (.type id) r) (cg : CallF T X.K r g) (hg : Gl X x) (hm : X.mg x = none) (hv : bootBuiltins x = some (.type id)) (ha : FA T X (e :: es) f)
    (hn : x ≠ "__name__" := by decide) (hdb : (x == ("__debug__" : Str)) = false := by decide) (he : starEach (e :: es) X.env = (false, eval e X.env) :: starEach es X.env := by rfl) (hpl : (backTo pos (starEach es X.env)).any (·.1) = false := by rfl) : FE T X (.Call (.Name x p) (e :: es) [] pos) (callF g f) :=
  (pe_callTy hc hg hm hv ha hn hdb he hpl).weak (re_call cg)
theorem fn_callTy {x : Str} {p pos : Pos} {e : Expr} {es : List Expr} {id : String} {r : List V → Hp → VK → Prop} {g : List PV → Option PV} {f : AF} (hc : CallR X (.type id) r) (cg : CallN T X.K r g) (hg : Gl X x) (hm : X.mg x = none) (hv : bootBuiltins x = some (.type id)) (ha : FA T X (e :: es) f)
    (hn : x ≠ "__name__" := by decide) (hdb : (x == ("__debug__" : Str)) = false := by decide) (he : starEach (e :: es) X.env = (false, eval e X.env) :: starEach es X.env := by rfl) (hpl : (backTo pos (starEach es X.env)).any (·.1) = false := by rfl) : FN T X (.Call (.Name x p) (e :: es) [] pos) (callF g f) :=
  (pe_callTy hc hg hm hv ha hn hdb he hpl).weak (rn_call cg)
theorem fe_callBfun {x : Str} {p pos : Pos} {e : Expr} {es : List Expr} {id : String} {r : List V → Hp → VK → Prop} {g : List PV → Option PV} {f : AF} (hc : CallR X (.builtin id) r) (cg : CallF T X.K r g) (hg : Gl X x) (hm : X.mg x = some (.builtin id)) (ha : FA T X (e :: es) f)
    (hdb : (x == ("__debug__" : Str)) = false := by decide) (he : starEach (e :: es) X.env = (false, eval e X.env) :: starEach es X.env := by rfl) (hpl : (backTo pos (starEach es X.env)).any (·.1) = false := by rfl) : FE T X (.Call (.Name x p) (e :: es) [] pos) (callF g f) :=
  (pe_callBfun hc hg hm ha hdb he hpl).weak (re_call cg)

def sSkip : SF := fun env => some (.nx env)
def sSeq (f h : SF) : SF := fun env => match f env with
  | some (.nx e) => h e
  | o => o
theorem rs_seq {f h : SF} {K : PySem.W.Frag} : ∀ D σ H, RS T K (sSeq f h) D σ H → tSeq (RS T K f) (RS T K h) D σ H := by
  rintro D σ H ⟨gh, F, env, out, R, e, q⟩
  unfold sSeq at e
  split at e
  · rename_i e1 ef
    exact ⟨gh, F, env, _, R, ef, fun σ' H1 F1 R1 s1 => ⟨gh, F1, _, _, R1, e, q.mono s1⟩⟩
  · rename_i hno
    refine ⟨gh, F, env, out, R, e, ?_⟩
    cases out with
    | nx e1 => exact absurd e (hno e1)
    | rt d e1 => exact q
    | rf d e1 => exact q
    | bk e1 => exact q
    | ct e1 => exact q
theorem fss_nil : FSs T X [] sSkip := pss_nil.weak fun D σ H ⟨gh, F, env, out, R, e, q⟩ => by
  cases e
  exact q σ H F R (Same.refl _)
theorem fss_cons {st : Stmt} {rest : List Stmt} {f h : SF} (h1 : FS T X st f) (h2 : FSs T X rest h) : FSs T X (st :: rest) (sSeq f h) := (pss_cons h1 h2).weak rs_seq
theorem fss_one {st : Stmt} {f : SF} (h1 : FS T X st f) : FSs T X [st] f := pss_one h1
theorem fs_pass {pos : Pos} : FS T X (.Pass pos) sSkip := ps_pass.weak fun D σ H ⟨gh, F, env, out, R, e, q⟩ => by
  cases e
  exact q σ H F R (Same.refl _)
def sBk : SF := fun env => some (.bk env)
def sCt : SF := fun env => some (.ct env)
theorem fs_break {pos : Pos} : FS T X (.Break pos) sBk := ps_break.weak fun D σ H ⟨gh, F, env, out, R, e, q⟩ => by
  cases e
  exact q σ H F R (Same.refl _)
theorem fs_continue {pos : Pos} : FS T X (.Continue pos) sCt := ps_continue.weak fun D σ H ⟨gh, F, env, out, R, e, q⟩ => by
  cases e
  exact q σ H F R (Same.refl _)
def sExpr (f : EF) : SF := fun env => match f env with
  | some (_, e) => some (.nx e)
  | none => none
theorem fs_expr {e : Expr} {pos : Pos} {f : EF} (he : FE T X e f) (hs : swapsWith e none pos.line X.env = pure false := by rfl) : FS T X (.Expr e pos) (sExpr f) :=
  (ps_expr he hs).weak fun D σ H ⟨gh, F, env, out, R, e, q⟩ => by
    unfold sExpr at e
    split at e
    · rename_i d e1 ef
      cases e
      exact ⟨gh, F, env, _, _, R, ef, fun v H1 F1 R1 s1 _ => q σ H1 F1 R1 s1⟩
    · cases e
def sRet (f : EF) : SF := fun env => match f env with
  | some (d, e) => some (.rt d e)
  | none => none
theorem fs_ret {e : Expr} {pos : Pos} {f : EF} (he : FE T X e f) : FS T X (.Return (some e) pos) (sRet f) :=
  (ps_ret he).weak fun D σ H ⟨gh, F, env, out, R, e, q⟩ => by
    unfold sRet at e
    split at e
    · rename_i d e1 ef
      cases e
      exact ⟨gh, F, env, _, _, R, ef, fun v H1 F1 R1 s1 r1 => q v σ H1 F1 R1 s1 r1⟩
    · cases e
def sRetN : SF := fun env => some (.rt .none env)
theorem fs_retN {pos : Pos} : FS T X (.Return none pos) sRetN := ps_retN.weak fun D σ H ⟨gh, F, env, out, R, e, q⟩ => by
  cases e
  exact q .non σ H F R (Same.refl _) .non
def sIf (t : TF) (f h : SF) : SF := fun env => match t env with
  | some (true, e) => f e
  | some (false, e) => h e
  | none => none
theorem fs_if {c : Expr} {a b : List Stmt} {pos : Pos} {t : TF} {f h : SF} (hc : FT T X c t) (ha : FSs T X a f) (hb : FSs T X b h) : FS T X (.If c a b pos) (sIf t f h) :=
  (ps_if hc ha hb).weak fun D σ H ⟨gh, F, env, out, R, e, q⟩ => by
    unfold sIf at e
    split at e
    · rename_i e1 ef
      exact ⟨gh, F, env, _, _, R, ef, fun H1 F1 R1 s1 => iteT ⟨gh, F1, _, _, R1, e, q.mono s1⟩⟩
    · rename_i e1 ef
      exact ⟨gh, F, env, _, _, R, ef, fun H1 F1 R1 s1 => iteF ⟨gh, F1, _, _, R1, e, q.mono s1⟩⟩
    · cases e
def setV (env : Ev) (i : Nat) (s : Sl) : Option Ev := match env[i]? with
  | some (.io _) => none
  | some _ => some (env.set i s)
  | none => none
theorem setV_eq {env env' : Ev} {i : Nat} {s : Sl} (h : setV env i s = some env') : env' = env.set i s ∧ i < env.length ∧ ∀ d, env[i]? ≠ some (.io d) := by
  unfold setV at h
  split at h
  · cases h
  · rename_i x hx hn
    cases h
    exact ⟨rfl, (List.getElem?_eq_some_iff.mp hn).1, fun d z => hx d (by rw [hn] at z; exact Option.some.inj z)⟩
  · cases h
/-- a name takes a value, or a new object of its own -/
theorem Rel.put {K : PySem.W.Frag} {g : Gh} {F H : Hp} {σ : St} {env env' : Ev} {i : Nat} {v : V} {s : Sl} (R : Rel T K g F H σ env) (h : setV env i s = some env')
    (hs : s = .no ∨ (∃ d, s = .va d ∧ Rep K F v d) ∨ ∃ d a, s = .ow d ∧ v = .ref a ∧ F a = none ∧ g.H0 a = none ∧ Alone g env σ a ∧ Own K F H a d) : Rel T K g F H (σ.set i (some v)) env' := by
  obtain ⟨rfl, hi, hio⟩ := setV_eq h
  have hiσ : i < σ.length := by rw [← R.len]; exact hi
  have get : ∀ j x, j ≠ i → (env.set i s)[j]? = some x → env[j]? = some x := fun j x hj q => by
    rw [List.getElem?_set_ne (Ne.symm hj)] at q; exact q
  have σget : ∀ j, j ≠ i → (σ.set i (some v))[j]? = σ[j]? := fun j hj => List.getElem?_set_ne (Ne.symm hj)
  have nio : ∀ a, (i, a) ∉ g.io := fun a z => by
    obtain ⟨_, d, e⟩ := R.iok i a z
    exact hio d e
  refine ⟨by rw [List.length_set, List.length_set]; exact R.len, R.sub, R.f0, R.new, R.keep, R.tab, R.nt, fun j d q => ?_, fun j d q => ?_, fun j d q => ?_, fun j a q => ?_, fun a o q => ?_, fun j k a q1 q2 e1 e2 => ?_⟩
  · by_cases hj : j = i
    · subst hj
      rw [List.getElem?_set_self hi] at q
      rcases hs with hs | ⟨d', hs, r⟩ | ⟨d', a, hs, _⟩ <;> rw [hs] at q <;> cases q
      exact ⟨v, List.getElem?_set_self hiσ, r⟩
    · obtain ⟨w, e, r⟩ := R.va j d (get j _ hj q)
      exact ⟨w, by rw [σget j hj]; exact e, r⟩
  · by_cases hj : j = i
    · subst hj
      rw [List.getElem?_set_self hi] at q
      rcases hs with hs | ⟨d', hs, r⟩ | ⟨d', a, hs, hv, h1, h2, h3, h4⟩ <;> rw [hs] at q <;> cases q
      subst hv
      exact ⟨a, List.getElem?_set_self hiσ, h1, h2, h4⟩
    · obtain ⟨w, e, r⟩ := R.ow j d (get j _ hj q)
      exact ⟨w, by rw [σget j hj]; exact e, r⟩
  · by_cases hj : j = i
    · subst hj
      rw [List.getElem?_set_self hi] at q
      rcases hs with hs | ⟨d', hs, r⟩ | ⟨d', a, hs, _⟩ <;> rw [hs] at q <;> cases q
    · obtain ⟨w, e0, e, r⟩ := R.io j d (get j _ hj q)
      exact ⟨w, e0, by rw [σget j hj]; exact e, r⟩
  · have hj : j ≠ i := fun z => nio a (by rw [← z]; exact q)
    obtain ⟨e, d, q2⟩ := R.iok j a q
    exact ⟨by rw [σget j hj]; exact e, d, by rw [List.getElem?_set_ne (Ne.symm hj)]; exact q2⟩
  · obtain ⟨t1, t2, t3, t4⟩ := R.tm a o q
    refine ⟨t1, t2, t3, fun j hj e => ?_⟩
    by_cases hji : j = i
    · subst hji
      obtain ⟨d, hd⟩ := hj
      rw [List.getElem?_set_self hi] at hd
      rw [List.getElem?_set_self hiσ] at e
      rcases hs with hs | ⟨d', hs, r⟩ | ⟨d', b, hs, hv, h1, h2, h3, h4⟩
      · rw [hs] at hd; rcases hd with hd | hd <;> cases hd
      · rw [hs] at hd; rcases hd with hd | hd <;> cases hd
      · subst hv
        cases e
        exact h3.2 o q
    · obtain ⟨d, hd⟩ := hj
      rw [σget j hji] at e
      exact t4 j ⟨d, hd.imp (get j _ hji) (get j _ hji)⟩ e
  · have old : ∀ m, m ≠ i → owns (env.set i s) m → owns env m := fun m hm ⟨d, hd⟩ => ⟨d, hd.imp (get m _ hm) (get m _ hm)⟩
    have cross : ∀ m, m ≠ i → owns (env.set i s) m → owns (env.set i s) i → (σ.set i (some v))[m]? = some (some (.ref a)) → (σ.set i (some v))[i]? = some (some (.ref a)) → False := fun m hm o1 o2 z1 z2 => by
      obtain ⟨d, hd⟩ := o2
      rw [List.getElem?_set_self hi] at hd
      rw [List.getElem?_set_self hiσ] at z2
      rcases hs with hs | ⟨d', hs, r⟩ | ⟨d', b, hs, hv, h1, h2, h3, h4⟩
      · rw [hs] at hd; rcases hd with hd | hd <;> cases hd
      · rw [hs] at hd; rcases hd with hd | hd <;> cases hd
      · subst hv
        cases z2
        rw [σget m hm] at z1
        exact h3.1 m (old m hm o1) z1
    by_cases hj : j = i
    · by_cases hk : k = i
      · rw [hj, hk]
      · subst hj
        exact (cross k hk q2 q1 e2 e1).elim
    · by_cases hk : k = i
      · subst hk
        exact (cross j hj q1 q2 e1 e2).elim
      · rw [σget j hj] at e1
        rw [σget k hk] at e2
        exact R.sep j k a (old j hj q1) (old k hk q2) e1 e2
def asg (i : Nat) (f : EF) : SF := fun env => match f env with
  | none => none
  | some (d, e) => match setV e i (.va d) with
    | none => none
    | some e' => some (.nx e')
def asgO (i : Nat) (f : EF) : SF := fun env => match f env with
  | none => none
  | some (d, e) => match setV e i (.ow d) with
    | none => none
    | some e' => some (.nx e')
theorem fs_set (i : Nat) {x : Str} {e : Expr} {pos pos' : Pos} {f : EF} (hN : X.N.Nodup) (he : FE T X e f) (hi : X.N[i]? = some x := by rfl) (hx : Loc X.env.scope x := by first | exact Or.inl rfl | exact Or.inr rfl) (hs : swapsWith e (some (.Name x pos')) pos.line X.env = pure false := by rfl)
    (hf : X.fn x = true ∨ X.env.scope.names.lookup x = some .local := by first | exact .inl rfl | exact .inr rfl) : FS T X (.Assign [.Name x pos'] e pos) (asg i f) :=
  (ps_set hN hi hx he hs hf).weak fun D σ H ⟨gh, F, env, out, R, e, q⟩ => by
    unfold asg at e
    split at e
    · cases e
    · rename_i d e1 ef
      split at e
      · cases e
      · rename_i e2 es
        cases e
        exact ⟨gh, F, env, _, _, R, ef, fun v H1 F1 R1 s1 r1 => q _ _ _ (R1.put es (.inr (.inl ⟨d, rfl, r1⟩))) s1⟩
theorem fs_setO (i : Nat) {x : Str} {e : Expr} {pos pos' : Pos} {f : EF} (hN : X.N.Nodup) (he : FN T X e f) (hi : X.N[i]? = some x := by rfl) (hx : Loc X.env.scope x := by first | exact Or.inl rfl | exact Or.inr rfl) (hs : swapsWith e (some (.Name x pos')) pos.line X.env = pure false := by rfl)
    (hf : X.fn x = true ∨ X.env.scope.names.lookup x = some .local := by first | exact .inl rfl | exact .inr rfl) : FS T X (.Assign [.Name x pos'] e pos) (asgO i f) :=
  (ps_set hN hi hx he hs hf).weak fun D σ H ⟨gh, F, env, out, R, e, q⟩ => by
    unfold asgO at e
    split at e
    · cases e
    · rename_i d e1 ef
      split at e
      · cases e
      · rename_i e2 es
        cases e
        exact ⟨gh, F, env, _, _, R, ef, fun a H1 F1 R1 s1 h1 h2 h3 h4 => q _ _ _ (R1.put es (.inr (.inr ⟨d, a, rfl, rfl, h1, h2, h3, h4⟩))) s1⟩

def bNm (i : Nat) : BF := fun d env => setV env i (.va d)
theorem fb_nm (i : Nat) {x : Str} {pos : Pos} (hN : X.N.Nodup) (hi : X.N[i]? = some x := by rfl) (hx : Loc X.env.scope x := by first | exact Or.inl rfl | exact Or.inr rfl) (hf : X.fn x = true ∨ X.env.scope.names.lookup x = some .local := by first | exact .inl rfl | exact .inr rfl) : FB T X (.Name x pos) [i] (bNm i) :=
  (pg_name hN hi hx hf).weak fun v σ H Q ⟨gh, F, env, d, env', R, r, e, q⟩ => q _ _ _ (R.put e (.inr (.inl ⟨d, rfl, r⟩))) (Same.refl _) fun vs hv => wipe_set (hv i (List.mem_singleton.mpr rfl))
def bNil : List PV → Ev → Option Ev := fun ds env => match ds with
  | [] => some env
  | _ => none
def bCons (f : BF) (h : List PV → Ev → Option Ev) : List PV → Ev → Option Ev := fun ds env => match ds with
  | d :: r => match f d env with
    | none => none
    | some e => h r e
  | [] => none
theorem fbs_nil : FBs T X [] [] bNil := pgs_nil.weak fun vs σ H Q ⟨gh, F, env, ds, env', R, r, e, q⟩ => by
  unfold bNil at e
  split at e
  · cases e
    cases r
    exact ⟨rfl, q σ H F R (Same.refl _) fun _ _ => rfl⟩
  · cases e
theorem fbs_cons {e : Expr} {es : List Expr} {t1 t2 : List Nat} {f : BF} {h : List PV → Ev → Option Ev} (h1 : FB T X e t1 f) (h2 : FBs T X es t2 h) (hs : (assignEach (e :: es) X.env).map (·.2) = assign e X.env :: (assignEach es X.env).map (·.2) := by rfl) : FBs T X (e :: es) (t1 ++ t2) (bCons f h) :=
  (pgs_cons h1 h2 hs).weak fun vs σ H Q ⟨gh, F, env, ds, env', R, r, e, q⟩ => by
    unfold bCons at e
    split at e
    · rename_i d dr
      split at e
      · cases e
      · rename_i e1 ef
        cases r with
        | cons r1 rr =>
          exact ⟨_, _, rfl, gh, F, env, d, e1, R, r1, ef, fun σ1 H1 F1 R1 s1 w1 => ⟨gh, F1, e1, dr, _, R1, rr.mono s1, e, fun σ2 H2 F2 R2 s2 w2 => q σ2 H2 F2 R2 (s1.trans s2) fun vs hv => (w2 vs fun i hi => hv i (List.mem_append_right _ hi)).trans (w1 vs fun i hi => hv i (List.mem_append_left _ hi))⟩⟩
    · cases e
def bTup (n : Nat) (h : List PV → Ev → Option Ev) : BF := fun d env => match d with
  | .tuple ds => if ds.length = n then h ds env else none
  | _ => none
theorem SqT.sub {K : PySem.W.Frag} {F H : Hp} {a : Addr} {xs : List V} (s : Same F H) (h : SqT K F a xs) : SqT K H a xs := SqT.mono s h
theorem fb_tup {es : List Expr} {k : Nat} {pos : Pos} {ts : List Nat} {h : List PV → Ev → Option Ev} {n : Nat} (hc : X.calm = true) (hb : FBs T X es ts h) (hn : (assignEach es X.env).length = n := by rfl) (hst : (assignEach es X.env).findIdx? (·.1) = none := by rfl) : FB T X (.Tuple es k pos) ts (bTup n h) :=
  (pg_tup hc hb hn hst).weak fun v σ H Q ⟨gh, F, env, d, env', R, r, e, q⟩ => by
    unfold bTup at e
    split at e
    · rename_i ds
      split at e
      · rename_i hl
        cases r with
        | tup hq rr =>
          exact ⟨_, _, rfl, SqT.sub R.sub (sqT hq), rr.len.trans hl, gh, F, env, ds, _, R, rr, e, q⟩
      · cases e
    · cases e
/-- target = e, any target -/
def asgB (b : BF) (f : EF) : SF := fun env => match f env with
  | none => none
  | some (d, e) => match b d e with
    | none => none
    | some e' => some (.nx e')
theorem fs_asg {tg e : Expr} {pos : Pos} {ts : List Nat} {b : BF} {f : EF} (he : FE T X e f) (hg : FB T X tg ts b) (hs : swapsWithSole [tg] e pos.line X.env = pure false := by rfl) (hw : swappedStores [tg] e X.env = pure none := by rfl)
    (h1 : (assignEach [tg] X.env).map (·.2) = [assign tg X.env] := by rfl) : FS T X (.Assign [tg] e pos) (asgB b f) :=
  (ps_asg he hg hs hw h1).weak fun D σ H ⟨gh, F, env, out, R, e, q⟩ => by
    unfold asgB at e
    split at e
    · cases e
    · rename_i d e1 ef
      split at e
      · cases e
      · rename_i e2 es
        cases e
        exact ⟨gh, F, env, _, _, R, ef, fun v H1 F1 R1 s1 r1 => ⟨gh, F1, _, d, _, R1, r1, es, fun σ2 H2 F2 R2 s2 _ => q σ2 H2 F2 R2 (s1.trans s2)⟩⟩
/-- a, b = x, y (plain local names) -/
def asg2 (i j : Nat) (f : AF) : SF := fun env => match f env with
  | some ([a, b], e) => match setV e i (.va a) with
    | none => none
    | some e1 => match setV e1 j (.va b) with
      | none => none
      | some e2 => some (.nx e2)
  | _ => none
theorem fs_par (i j : Nat) {x y : Str} {a b : Expr} {f : AF} {px py pt pos : Pos} {kt k2 : Nat} {pt2 : Pos} (hN : X.N.Nodup) (ha : FA T X [a, b] f) (hij : i ≠ j := by decide) (hi : X.N[i]? = some x := by rfl) (hj : X.N[j]? = some y := by rfl)
    (hc : X.calm = true := by rfl) (hx : X.env.scope.names.lookup x = some .local := by rfl) (hy : X.env.scope.names.lookup y = some .local := by rfl)
    (hw : swappedStores [.Tuple [.Name x px, .Name y py] kt pt] (.Tuple [a, b] k2 pt2) X.env = pure (some [x, y]) := by rfl)
    (hs : swapsWithSole [.Tuple [.Name x px, .Name y py] kt pt] (.Tuple [a, b] k2 pt2) pos.line X.env = pure false := by rfl) :
    FS T X (.Assign [.Tuple [.Name x px, .Name y py] kt pt] (.Tuple [a, b] k2 pt2) pos) (asg2 i j f) :=
  (ps_par hc hN hi hj hij hx hy ha hw hs).weak fun D σ H ⟨gh, F, env, out, R, e, q⟩ => by
    unfold asg2 at e
    split at e
    · rename_i d1 d2 e1 ef
      split at e
      · cases e
      · rename_i e2 es
        split at e
        · cases e
        · rename_i e3 es2
          cases e
          refine ⟨gh, F, env, _, _, R, ef, fun vs H1 F1 R1 s1 r1 => ?_⟩
          cases r1 with
          | cons ra r2 => cases r2 with
            | cons rb r3 =>
              cases r3
              exact ⟨_, _, rfl, q _ _ _ ((R1.put es (.inr (.inl ⟨_, rfl, ra⟩))).put es2 (.inr (.inl ⟨_, rfl, rb⟩))) s1⟩
    · cases e
/-- name op= e -/
def aug (i : Nat) (g : PV → PV → Option PV) (f : EF) : SF := fun env => match env[i]? with
  | some (.va a) => match f env with
    | none => none
    | some (b, e) => match g a b with
      | none => none
      | some d => match setV e i (.va d) with
        | none => none
        | some e' => some (.nx e')
  | _ => none
theorem fs_aug (i : Nat) {x : Str} {e : Expr} {op : Operator} {pos pos' : Pos} {r : R2} {g : PV → PV → Option PV} {f : EF} (hN : X.N.Nodup) (ho : OpR X (inplaceOp op) r) (hg : OpF T X.K r g) (he : FE T X e f) (hi : X.N[i]? = some x := by rfl) (hx : Loc X.env.scope x := by first | exact Or.inl rfl | exact Or.inr rfl)
    (hf : X.fn x = true ∨ X.env.scope.names.lookup x = some .local := by first | exact .inl rfl | exact .inr rfl) : FS T X (.AugAssign (.Name x pos') op e pos) (aug i g f) :=
  (ps_aug hN hi hx he (show PIp X op r from ho) hf).weak fun D σ H ⟨gh, F, env, out, R, e, q⟩ => by
    unfold aug at e
    split at e
    · rename_i a ha
      obtain ⟨v, e1, ra⟩ := R.va i a ha
      split at e
      · cases e
      · rename_i b e2 ef
        split at e
        · cases e
        · rename_i d eg
          split at e
          · cases e
          · rename_i e3 es
            cases e
            refine ⟨v, e1, gh, F, env, _, _, R, ef, fun y H1 F1 R1 s1 rb => ?_⟩
            exact hg gh F1 H1 σ _ v y a b d _ R1 (ra.mono s1) rb eg fun w H2 F2 R2 s2 r2 => q _ _ _ (R2.put es (.inr (.inl ⟨d, rfl, r2⟩))) (s1.trans s2)
    · cases e

def whF (t : TF) (b : SF) : Nat → SF
  | 0 => fun _ => none
  | n + 1 => fun env => match t env with
    | none => none
    | some (false, e) => some (.nx e)
    | some (true, e) => match b e with
      | none => none
      | some (.nx e') => whF t b n e'
      | some (.ct e') => whF t b n e'
      | some (.bk e') => some (.nx e')
      | some (.rt d e') => some (.rt d e')
      | some (.rf d e') => some (.rf d e')
theorem fs_while {c : Expr} {body : List Stmt} {pos : Pos} {t : TF} {b : SF} (n : Nat) (hp : PassesOwn (model X.prog X.w) X.A X.env X.xe) (hc : FT T X c t) (hb : FSs T X body b) : FS T X (.While c body [] pos) (whF t b n) :=
  (ps_while hp hc hb).weak fun D σ H ⟨gh, F, env, out, R, e, q⟩ => by
    refine ⟨fun m σ H => ∃ F' env', Rel T X.K gh F' H σ env' ∧ Same F F' ∧ whF t b m env' = some out, ⟨n, F, env, R, Same.refl _, e⟩, ?_⟩
    rintro m σ H ⟨F', env', R', s', e'⟩
    cases m with
    | zero => cases e'
    | succ m =>
      unfold whF at e'
      split at e'
      · cases e'
      · rename_i e1 et
        cases e'
        exact ⟨gh, F', env', _, _, R', et, fun H1 F1 R1 s1 => iteF (q _ _ _ R1 (s'.trans s1))⟩
      · rename_i e1 et
        refine ⟨gh, F', env', _, _, R', et, fun H1 F1 R1 s1 => ?_⟩
        refine iteT ?_
        refine ⟨fun σ' H' => ∃ F2 env2, Rel T X.K gh F2 H' σ' env2 ∧ Same F F2 ∧ whF t b m env2 = some out, fun σ' H' ⟨F2, env2, R2, s2, e2⟩ => ⟨m, Nat.lt_succ_self m, F2, env2, R2, s2, e2⟩, ?_⟩
        have s01 := s'.trans s1
        split at e'
        · cases e'
        · rename_i e2 eb
          exact ⟨gh, F1, e1, _, R1, eb, fun σ2 H2 F2 R2 s2 => ⟨F2, e2, R2, s01.trans s2, e'⟩⟩
        · rename_i e2 eb
          exact ⟨gh, F1, e1, _, R1, eb, fun σ2 H2 F2 R2 s2 => ⟨F2, e2, R2, s01.trans s2, e'⟩⟩
        · rename_i e2 eb
          cases e'
          exact ⟨gh, F1, e1, _, R1, eb, fun σ2 H2 F2 R2 s2 => q _ _ _ R2 (s01.trans s2)⟩
        · rename_i d e2 eb
          cases e'
          exact ⟨gh, F1, e1, _, R1, eb, fun v σ2 H2 F2 R2 s2 r2 => q _ _ _ _ R2 (s01.trans s2) r2⟩
        · rename_i d e2 eb
          cases e'
          exact ⟨gh, F1, e1, _, R1, eb, fun a σ2 H2 F2 R2 s2 => q _ _ _ _ R2 (s01.trans s2)⟩

/-- what a walk hands out -/
def Yields (T : List Addr) (K : PySem.W.Frag) (J : It) (ds : List PV) (F0 : Hp) : Prop :=
  ∀ (g : Gh) (i : Nat) F H σ env, Rel T K g F H σ env → Same F0 F →
    (∀ d, ds[i]? = some d → J.go i H ∧ ∀ x H', J.yld i H x H' → ∃ F', Rel T K g F' H' σ env ∧ Same F F' ∧ Rep K F' x d) ∧ (ds[i]? = none → J.stop i H)
def RI (T : List Addr) (K : PySem.W.Frag) (f : AF) : TI := fun σ H R => ∃ g F env ds env', Rel T K g F H σ env ∧ f env = some (ds, env') ∧ ∀ J H' F', Rel T K g F' H' σ env' → Same F F' → Yields T K J ds F' → R J H'
def FI (T : List Addr) (X : Cx) (tg iter : Expr) (f : AF) : Prop := PI X tg iter (RI T X.K f)
theorem _root_.L2.PI.weak {tg e : Expr} {t t' : TI} (h : PI X tg e t) (w : ∀ σ H Q, t' σ H Q → t σ H Q) : PI X tg e t' := ⟨fun pins s σ H Q I q => h.run pins s σ H Q I (w σ H Q q)⟩
def foF (bi : BF) (b : SF) : List PV → SF
  | [] => fun env => some (.nx env)
  | d :: ds => fun env => match bi d env with
    | none => none
    | some e => match b e with
      | none => none
      | some (.nx e') => foF bi b ds e'
      | some (.ct e') => foF bi b ds e'
      | some (.bk e') => some (.nx e')
      | some (.rt r e') => some (.rt r e')
      | some (.rf r e') => some (.rf r e')
def sFor (f : AF) (bi : BF) (b : SF) : SF := fun env => match f env with
  | none => none
  | some (ds, e) => foF bi b ds e
theorem fs_for {tg iter : Expr} {body : List Stmt} {pos : Pos} {f : AF} {ts : List Nat} {bi : BF} {b : SF} (hp : PassesOwn (model X.prog X.w) X.A X.env X.xe) (hc : X.calm = true) (hi : FI T X tg iter f) (hg : FB T X tg ts bi) (hb : FSs T X body b)
    (hs : ∀ x, foldedSetIterable iter X.env x = pure x := by intro _; rfl) : FS T X (.For tg iter body [] pos) (sFor f bi b) :=
  (ps_for hp hc hi hg hb hs).weak fun D σ H ⟨gh, F, env, out, R, e, q⟩ => by
    unfold sFor at e
    split at e
    · cases e
    · rename_i ds e1 ef
      refine ⟨gh, F, env, _, _, R, ef, fun J H1 F1 R1 s1 Y => ?_⟩
      refine ⟨fun i m σ H => ∃ F' env', m = ds.length - i ∧ Rel T X.K gh F' H σ env' ∧ Same F1 F' ∧ foF bi b (ds.drop i) env' = some out, ⟨_, F1, _, rfl, R1, Same.refl _, by simpa using e⟩, ?_⟩
      rintro i m σ H ⟨F', env', rfl, R', s', e'⟩
      obtain ⟨yi, yn⟩ := Y gh i F' H σ env' R' s'
      cases hd : ds[i]? with
      | none =>
        have hl : ds.length ≤ i := List.getElem?_eq_none_iff.mp hd
        rw [List.drop_of_length_le hl] at e'
        cases e'
        exact .inl ⟨yn hd, q _ _ _ R' (s1.trans s')⟩
      | some d =>
        obtain ⟨hgo, hy⟩ := yi d hd
        have hl : i < ds.length := (List.getElem?_eq_some_iff.mp hd).1
        have e2 : ds.drop i = d :: ds.drop (i + 1) := by
          rw [List.drop_eq_getElem_cons hl]
          rw [List.getElem?_eq_getElem hl] at hd
          cases hd; rfl
        rw [e2] at e'
        unfold foF at e'
        refine .inr ⟨hgo, fun σ' H' => ∃ F2 env2, Rel T X.K gh F2 H' σ' env2 ∧ Same F1 F2 ∧ foF bi b (ds.drop (i + 1)) env2 = some out, fun σ' H' ⟨F2, env2, R2, s2, z2⟩ => ⟨ds.length - (i + 1), by omega, F2, env2, rfl, R2, s2, z2⟩, fun x H' hx => ?_⟩
        obtain ⟨F2, R2, s2, rx⟩ := hy x H' hx
        split at e'
        · cases e'
        · rename_i e3 eb
          refine ⟨gh, F2, env', d, e3, R2, rx, eb, fun σ3 H3 F3 R3 s3 _ => ?_⟩
          have s03 := s'.trans (s2.trans s3)
          split at e'
          · cases e'
          · rename_i e4 ebo
            exact ⟨gh, F3, e3, _, R3, ebo, fun σ4 H4 F4 R4 s4 => ⟨F4, e4, R4, s03.trans s4, e'⟩⟩
          · rename_i e4 ebo
            exact ⟨gh, F3, e3, _, R3, ebo, fun σ4 H4 F4 R4 s4 => ⟨F4, e4, R4, s03.trans s4, e'⟩⟩
          · rename_i e4 ebo
            cases e'
            exact ⟨gh, F3, e3, _, R3, ebo, fun σ4 H4 F4 R4 s4 => q _ _ _ R4 (s1.trans (s03.trans s4))⟩
          · rename_i r4 e4 ebo
            cases e'
            exact ⟨gh, F3, e3, _, R3, ebo, fun v σ4 H4 F4 R4 s4 r5 => q _ _ _ _ R4 (s1.trans (s03.trans s4)) r5⟩
          · rename_i r4 e4 ebo
            cases e'
            exact ⟨gh, F3, e3, _, R3, ebo, fun a σ4 H4 F4 R4 s4 => q _ _ _ _ R4 (s1.trans (s03.trans s4))⟩
end
end Fx

namespace Fx
open PySem PySem.Spec L2
open PyProof.Rows hiding St

section
variable {K : PySem.W.Frag} {F H : Hp} {v : V}
theorem Rep.int_iff {i : Int} (h : Rep K F v (.int i)) : v = .int i := by cases h; rfl
theorem Rep.str_iff {x : Str} (h : Rep K F v (.str x)) : v = .str x := by cases h; rfl
theorem Rep.bl_iff {b : Bool} (h : Rep K F v (.bool b)) : v = .bl b := by cases h; rfl
theorem Rep.non_iff {d : PV} (h : Rep K F v d) : v = .non ↔ d = .none := by cases h <;> simp
mutual
def noDict : PV → Bool
  | .dict _ => false
  | .list xs => noDicts xs
  | .tuple xs => noDicts xs
  | _ => true
def noDicts : List PV → Bool
  | [] => true
  | x :: xs => noDict x && noDicts xs
end
mutual
theorem Rep.dp (s : Same F H) : ∀ {d : PV} {v : V}, Rep K F v d → noDict d = true → Dp K H v d
  | _, _, .non, _ => .non
  | _, _, .bl b, _ => .bl b
  | _, _, .int i, _ => .int i
  | _, _, .str x, _ => .str x
  | _, _, .lst h r, n => .lst (.inl (.inl (s _ _ h))) (Reps.dp s r (by simpa [noDict] using n))
  | _, _, .tup h r, n => .tup (SqT.mono s (sqT h)) (Reps.dp s r (by simpa [noDict] using n))
  | _, _, .dk h r, n => Bool.noConfusion n
  | _, _, .dt h r, n => Bool.noConfusion n
  | _, _, .lk h r, n => Bool.noConfusion n
theorem Reps.dp (s : Same F H) : ∀ {ds : List PV} {vs : List V}, Reps K F vs ds → noDicts ds = true → DpAll K H vs ds
  | _, _, .nil, _ => .nil
  | _, _, .cons h r, n => by
    have n' : (noDict _ && noDicts _) = true := n
    rw [Bool.and_eq_true] at n'
    exact .cons (Rep.dp s h n'.1) (Reps.dp s r n'.2)
end
end

def fits (a b : Int) : Bool := decide (a.natAbs.log2 + b.natAbs.log2 < 1000000)
def rAddAll (K : PySem.W.Frag) : R2 := fun x y H Q => (∃ i j, x = .int i ∧ y = .int j ∧ Q (.int (i + j)) H) ∨ (∃ i j, x = .str i ∧ y = .str j ∧ i.length + j.length ≤ sizeLine ∧ Q (.str (i ++ j)) H) ∨ L2.rCatA K x y H Q ∨ rCat x y H Q
def pAdd : PV → PV → Option PV
  | .int a, .int b => some (.int (a + b))
  | .str a, .str b => if a.length + b.length ≤ sizeLine then some (.str (a ++ b)) else none
  | .tuple xs, .tuple ys => if xs.length + ys.length ≤ sizeLine then some (.tuple (xs ++ ys)) else none
  | .list xs, .list ys => if xs.length + ys.length ≤ sizeLine then some (.list (xs ++ ys)) else none
  | _, _ => none
def pSub : PV → PV → Option PV
  | .int a, .int b => some (.int (a - b))
  | _, _ => none
def rMulAll : R2 := fun x y H Q => rI CMulW (fun i j => .int (i * j)) x y H Q ∨ rRep x y H Q
def pMul : PV → PV → Option PV
  | .int a, .int b => if fits a b then some (.int (a * b)) else none
  | .list xs, .int k => if -(2 ^ 63) ≤ k ∧ k < 2 ^ 63 ∧ xs.length * k.toNat ≤ sizeLine then some (.list (List.replicate k.toNat xs).flatten) else none
  | _, _ => none
def CDivG (_ j : Int) : Prop := j ≠ 0 ∧ j.natAbs.log2 < 9000
def pDiv : PV → PV → Option PV
  | .int a, .int b => if b ≠ 0 ∧ b.natAbs.log2 < 9000 then some (.int (a.fdiv b)) else none
  | _, _ => none
def pMod : PV → PV → Option PV
  | .int a, .int b => if b ≠ 0 then some (.int (a.fmod b)) else none
  | _, _ => none
def pPow : PV → PV → Option PV
  | .int a, .int b => if 0 ≤ b ∧ b ≤ 1000000 ∧ a.natAbs < 2 ^ 64 then some (.int (a ^ b.toNat)) else none
  | _, _ => none
def pNeg : PV → Option PV
  | .int a => some (.int (-a))
  | _ => none
def pEq (a b : PV) : Option PV := match a, b with
  | .int i, .int j => some (.bool (decide (i = j)))
  | .str i, .str j => some (.bool (decide (i = j)))
  | .bool i, .bool j => some (.bool (decide (i = j)))
  | a, b => if noDict a && noDict b && SeqAt.shaped a && SeqAt.shaped b then some (.bool (PyData.eqv a b)) else none
def pNe (a b : PV) : Option PV := match a, b with
  | .int i, .int j => some (.bool (!decide (i = j)))
  | .str i, .str j => some (.bool (!decide (i = j)))
  | .bool i, .bool j => some (.bool (!decide (i = j)))
  | a, b => if noDict a && noDict b && SeqAt.shaped a && SeqAt.shaped b then some (.bool (!PyData.eqv a b)) else none
def pLt : PV → PV → Option PV
  | .int a, .int b => some (.bool (decide (a < b)))
  | .str a, .str b => some (.bool (decide (a.cps.toList < b.cps.toList)))
  | _, _ => none
def pLe : PV → PV → Option PV
  | .int a, .int b => some (.bool (decide (a ≤ b)))
  | .str a, .str b => some (.bool (!decide (b.cps.toList < a.cps.toList)))
  | _, _ => none
def pGt : PV → PV → Option PV
  | .int a, .int b => some (.bool (decide (b < a)))
  | .str a, .str b => some (.bool (decide (b.cps.toList < a.cps.toList)))
  | _, _ => none
def pGe : PV → PV → Option PV
  | .int a, .int b => some (.bool (decide (b ≤ a)))
  | .str a, .str b => some (.bool (!decide (a.cps.toList < b.cps.toList)))
  | _, _ => none
def isNn : PV → Bool
  | .none => true
  | _ => false
def pIsN (a b : PV) : Option PV := match b with
  | .none => some (.bool (isNn a))
  | _ => none
def pNotN (a b : PV) : Option PV := match b with
  | .none => some (.bool (!isNn a))
  | _ => none

section
variable {T : List Addr} {X : Cx}
theorem op_addA : OpR X (binaryOp .Add) (rAddAll X.K) := by
  intro pins s σ H x y v u Q I rx ry h
  rcases h with h | h | h | h
  · exact op_add pins s σ H x y v u Q I rx ry h
  · exact op_add_str pins s σ H x y v u Q I rx ry h
  · exact L2.op_catA pins s σ H x y v u Q I rx ry h
  · exact op_cat pins s σ H x y v u Q I rx ry h
theorem of_add {K : PySem.W.Frag} : OpF T K (rAddAll K) pAdd := by
  intro gh F H σ env x y a b d Q R ra rb e q
  unfold pAdd at e
  split at e
  · cases e
    exact .inl ⟨_, _, ra.int_iff, rb.int_iff, q _ _ _ R (Same.refl _) (.int _)⟩
  · rename_i i j
    split at e
    · rename_i hl
      cases e
      exact .inr (.inl ⟨_, _, ra.str_iff, rb.str_iff, hl, q _ _ _ R (Same.refl _) (.str _)⟩)
    · cases e
  · rename_i xs ys
    split at e
    · rename_i hl
      cases e
      cases ra with
      | tup ha ra =>
        cases rb with
        | tup hb rb =>
          refine .inr (.inr (.inl ⟨_, _, _, _, rfl, rfl, SqT.mono R.sub (sqT ha), SqT.mono R.sub (sqT hb), by rw [ra.len, rb.len]; exact hl, fun z => ?_, fun z1 z => ?_, fun z1 z2 p hp => ?_⟩))
          · subst z
            cases ra
            exact q _ _ _ R (Same.refl _) (.tup hb rb)
          · subst z
            cases rb
            rw [List.append_nil] at q
            exact q _ _ _ R (Same.refl _) (.tup ha ra)
          · obtain ⟨R2, s2⟩ := R.laidF (o := .tup _) hp
            exact q _ _ _ R2 s2 (.tup (.inl upd_same) ((ra.append rb).mono s2))
    · cases e
  · rename_i xs ys
    split at e
    · rename_i hl
      cases e
      cases ra with
      | lst ha ra =>
        cases rb with
        | lst hb rb =>
          refine .inr (.inr (.inr ⟨_, _, _, _, rfl, rfl, R.sub _ _ ha, R.sub _ _ hb, by rw [ra.len, rb.len]; exact hl, fun p hp => ?_⟩))
          obtain ⟨R2, s2⟩ := R.laidF (o := .lst _) hp
          exact q _ _ _ R2 s2 (.lst upd_same ((ra.append rb).mono s2))
    · cases e
  · cases e
theorem of_int {K : PySem.W.Frag} {C : Int → Int → Prop} {f : Int → Int → PV} {g : PV → PV → Option PV} {f' : Int → Int → V} (hf : ∀ i j F, Rep K F (f' i j) (f i j)) (hg : ∀ a b d, g a b = some d → ∃ i j, a = .int i ∧ b = .int j ∧ C i j ∧ d = f i j) : OpF T K (rI C f') g := by
  intro gh F H σ env x y a b d Q R ra rb e q
  obtain ⟨i, j, rfl, rfl, hc, rfl⟩ := hg a b d e
  exact ⟨i, j, ra.int_iff, rb.int_iff, hc, q _ _ _ R (Same.refl _) (hf i j F)⟩
theorem of_int0 {K : PySem.W.Frag} {f : Int → Int → PV} {g : PV → PV → Option PV} {f' : Int → Int → V} (hf : ∀ i j F, Rep K F (f' i j) (f i j)) (hg : ∀ a b d, g a b = some d → ∃ i j, a = .int i ∧ b = .int j ∧ d = f i j) : OpF T K (rI0 f') g := by
  intro gh F H σ env x y a b d Q R ra rb e q
  obtain ⟨i, j, rfl, rfl, rfl⟩ := hg a b d e
  exact ⟨i, j, ra.int_iff, rb.int_iff, q _ _ _ R (Same.refl _) (hf i j F)⟩
theorem of_sub {K : PySem.W.Frag} : OpF T K (rI0 fun i j => .int (i - j)) pSub := of_int0 (f := fun i j => .int (i - j)) (fun _ _ _ => .int _) fun a b d e => by
  unfold pSub at e
  split at e
  · cases e; exact ⟨_, _, rfl, rfl, rfl⟩
  · cases e
theorem op_mulA : OpR X (binaryOp .Mult) rMulAll := OpR.or op_mulW op_rep
theorem of_mul {K : PySem.W.Frag} : OpF T K rMulAll pMul := by
  intro gh F H σ env x y a b d Q R ra rb e q
  unfold pMul at e
  split at e
  · split at e
    · rename_i hf
      cases e
      exact .inl ⟨_, _, ra.int_iff, rb.int_iff, (show _ < _ from of_decide_eq_true hf), q _ _ _ R (Same.refl _) (.int _)⟩
    · cases e
  · rename_i xs k
    split at e
    · rename_i hl
      cases e
      cases ra with
      | lst ha ra =>
        refine .inr ⟨_, _, _, rfl, rb.int_iff, R.sub _ _ ha, hl.1, hl.2.1, by rw [ra.len]; exact hl.2.2, fun p hp => ?_⟩
        obtain ⟨R2, s2⟩ := R.laidF (o := .lst _) hp
        refine q _ _ _ R2 s2 (.lst upd_same ?_)
        have : ∀ n : Nat, Reps K F (List.replicate n _).flatten (List.replicate n xs).flatten := fun n => by
          induction n with
          | zero => exact .nil
          | succ n ih =>
            rw [List.replicate_succ, List.replicate_succ, List.flatten_cons, List.flatten_cons]
            exact ra.append ih
        exact (this _).mono s2
    · cases e
  · cases e
theorem op_fdivG : OpR X (binaryOp .FloorDiv) (rI CDivG fun i j => .int (i.fdiv j)) := opI fun _ _ _ _ _ _ _ hc q => floordiv_int hc.1 q (.inl (PyProof.noPylong_of_log2 hc.2))
theorem iop_fdivG : OpR X (inplaceOp .FloorDiv) (rI CDivG fun i j => .int (i.fdiv j)) := opI fun _ _ _ _ _ _ _ hc q => ifloordiv_int hc.1 q (.inl (PyProof.noPylong_of_log2 hc.2))
theorem of_div {K : PySem.W.Frag} : OpF T K (rI CDivG fun i j => .int (i.fdiv j)) pDiv := of_int (f := fun i j => .int (i.fdiv j)) (fun _ _ _ => .int _) fun a b d e => by
  unfold pDiv at e
  split at e
  · split at e
    · rename_i h
      cases e; exact ⟨_, _, rfl, rfl, h, rfl⟩
    · cases e
  · cases e
theorem iop_modN : OpR X (inplaceOp .Mod) (rI (fun _ j => j ≠ 0) fun i j => .int (i.fmod j)) := opI fun _ _ _ _ _ _ _ hc q => imod_int hc q
theorem of_mod {K : PySem.W.Frag} : OpF T K (rI (fun _ j => j ≠ 0) fun i j => .int (i.fmod j)) pMod := of_int (f := fun i j => .int (i.fmod j)) (fun _ _ _ => .int _) fun a b d e => by
  unfold pMod at e
  split at e
  · split at e
    · rename_i h
      cases e; exact ⟨_, _, rfl, rfl, h, rfl⟩
    · cases e
  · cases e
theorem of_pow {K : PySem.W.Frag} : OpF T K (rI CPow fun i j => .int (i ^ j.toNat)) pPow := of_int (f := fun i j => .int (i ^ j.toNat)) (fun _ _ _ => .int _) fun a b d e => by
  unfold pPow at e
  split at e
  · split at e
    · rename_i h
      cases e; exact ⟨_, _, rfl, rfl, h, rfl⟩
    · cases e
  · cases e
theorem iop_addA : OpR X (inplaceOp .Add) (fun x y H Q => (∃ i j, x = .int i ∧ y = .int j ∧ Q (.int (i + j)) H) ∨ ∃ i j, x = .str i ∧ y = .str j ∧ i.length + j.length ≤ sizeLine ∧ Q (.str (i ++ j)) H) := OpR.or iop_add iop_add_str
def pAddI : PV → PV → Option PV
  | .int a, .int b => some (.int (a + b))
  | .str a, .str b => if a.length + b.length ≤ sizeLine then some (.str (a ++ b)) else none
  | _, _ => none
theorem of_addI {K : PySem.W.Frag} : OpF T K (fun x y H Q => (∃ i j, x = .int i ∧ y = .int j ∧ Q (.int (i + j)) H) ∨ ∃ i j, x = .str i ∧ y = .str j ∧ i.length + j.length ≤ sizeLine ∧ Q (.str (i ++ j)) H) pAddI := by
  intro gh F H σ env x y a b d Q R ra rb e q
  unfold pAddI at e
  split at e
  · cases e
    exact .inl ⟨_, _, ra.int_iff, rb.int_iff, q _ _ _ R (Same.refl _) (.int _)⟩
  · split at e
    · rename_i hl
      cases e
      exact .inr ⟨_, _, ra.str_iff, rb.str_iff, hl, q _ _ _ R (Same.refl _) (.str _)⟩
    · cases e
  · cases e
def pMulI : PV → PV → Option PV
  | .int a, .int b => if -(2 ^ 64) < a ∧ a < 2 ^ 64 ∨ -(2 ^ 64) < b ∧ b < 2 ^ 64 then some (.int (a * b)) else none
  | _, _ => none
theorem iop_mulW : OpR X (inplaceOp .Mult) (rI CMulW fun i j => .int (i * j)) := opI fun _ _ _ _ _ _ _ hc q => imul_int q hc.ok
def pMulW : PV → PV → Option PV
  | .int a, .int b => if fits a b then some (.int (a * b)) else none
  | _, _ => none
theorem of_mulW {K : PySem.W.Frag} : OpF T K (rI CMulW fun i j => .int (i * j)) pMulW := of_int (f := fun i j => .int (i * j)) (fun _ _ _ => .int _) fun a b d e => by
  unfold pMulW at e
  split at e
  · split at e
    · rename_i h
      cases e; exact ⟨_, _, rfl, rfl, (show _ < _ from of_decide_eq_true h), rfl⟩
    · cases e
  · cases e
theorem op_ltA : OpR X (compareOp .Lt) (fun x y H Q => rI0 (fun i j => .bl (decide (i < j))) x y H Q ∨ ∃ i j, x = .str i ∧ y = .str j ∧ Q (.bl (decide (i.cps.toList < j.cps.toList))) H) := OpR.or op_lt op_lt_str
theorem op_leA : OpR X (compareOp .LtE) (fun x y H Q => rI0 (fun i j => .bl (decide (i ≤ j))) x y H Q ∨ ∃ i j, x = .str i ∧ y = .str j ∧ Q (.bl (!decide (j.cps.toList < i.cps.toList))) H) := OpR.or op_le op_le_str
theorem op_gtA : OpR X (compareOp .Gt) (fun x y H Q => rI0 (fun i j => .bl (decide (j < i))) x y H Q ∨ ∃ i j, x = .str i ∧ y = .str j ∧ Q (.bl (decide (j.cps.toList < i.cps.toList))) H) := OpR.or op_gt op_gt_str
theorem op_geA : OpR X (compareOp .GtE) (fun x y H Q => rI0 (fun i j => .bl (decide (j ≤ i))) x y H Q ∨ ∃ i j, x = .str i ∧ y = .str j ∧ Q (.bl (!decide (i.cps.toList < j.cps.toList))) H) := OpR.or op_ge op_ge_str
theorem of_ord {K : PySem.W.Frag} {f : Int → Int → Bool} {h : Str → Str → Bool} {g : PV → PV → Option PV} (hg : ∀ a b d, g a b = some d → (∃ i j, a = .int i ∧ b = .int j ∧ d = .bool (f i j)) ∨ ∃ i j, a = .str i ∧ b = .str j ∧ d = .bool (h i j)) :
    OpF T K (fun x y H Q => rI0 (fun i j => .bl (f i j)) x y H Q ∨ ∃ i j, x = .str i ∧ y = .str j ∧ Q (.bl (h i j)) H) g := by
  intro gh F H σ env x y a b d Q R ra rb e q
  rcases hg a b d e with ⟨i, j, rfl, rfl, rfl⟩ | ⟨i, j, rfl, rfl, rfl⟩
  · exact .inl ⟨_, _, ra.int_iff, rb.int_iff, q _ _ _ R (Same.refl _) (.bl _)⟩
  · exact .inr ⟨_, _, ra.str_iff, rb.str_iff, q _ _ _ R (Same.refl _) (.bl _)⟩
theorem of_lt {K : PySem.W.Frag} : OpF T K (fun x y H Q => rI0 (fun i j => .bl (decide (i < j))) x y H Q ∨ ∃ i j, x = .str i ∧ y = .str j ∧ Q (.bl (decide (i.cps.toList < j.cps.toList))) H) pLt := of_ord (f := fun i j => decide (i < j)) (h := fun i j => decide (i.cps.toList < j.cps.toList)) fun a b d e => by
  unfold pLt at e
  split at e
  · cases e; exact .inl ⟨_, _, rfl, rfl, rfl⟩
  · cases e; exact .inr ⟨_, _, rfl, rfl, rfl⟩
  · cases e
theorem of_le {K : PySem.W.Frag} : OpF T K (fun x y H Q => rI0 (fun i j => .bl (decide (i ≤ j))) x y H Q ∨ ∃ i j, x = .str i ∧ y = .str j ∧ Q (.bl (!decide (j.cps.toList < i.cps.toList))) H) pLe := of_ord (f := fun i j => decide (i ≤ j)) (h := fun i j => !decide (j.cps.toList < i.cps.toList)) fun a b d e => by
  unfold pLe at e
  split at e
  · cases e; exact .inl ⟨_, _, rfl, rfl, rfl⟩
  · cases e; exact .inr ⟨_, _, rfl, rfl, rfl⟩
  · cases e
theorem of_gt {K : PySem.W.Frag} : OpF T K (fun x y H Q => rI0 (fun i j => .bl (decide (j < i))) x y H Q ∨ ∃ i j, x = .str i ∧ y = .str j ∧ Q (.bl (decide (j.cps.toList < i.cps.toList))) H) pGt := of_ord (f := fun i j => decide (j < i)) (h := fun i j => decide (j.cps.toList < i.cps.toList)) fun a b d e => by
  unfold pGt at e
  split at e
  · cases e; exact .inl ⟨_, _, rfl, rfl, rfl⟩
  · cases e; exact .inr ⟨_, _, rfl, rfl, rfl⟩
  · cases e
theorem of_ge {K : PySem.W.Frag} : OpF T K (fun x y H Q => rI0 (fun i j => .bl (decide (j ≤ i))) x y H Q ∨ ∃ i j, x = .str i ∧ y = .str j ∧ Q (.bl (!decide (i.cps.toList < j.cps.toList))) H) pGe := of_ord (f := fun i j => decide (j ≤ i)) (h := fun i j => !decide (i.cps.toList < j.cps.toList)) fun a b d e => by
  unfold pGe at e
  split at e
  · cases e; exact .inl ⟨_, _, rfl, rfl, rfl⟩
  · cases e; exact .inr ⟨_, _, rfl, rfl, rfl⟩
  · cases e
theorem op_eqA (hu : X.A.units + 64 < cLine) : OpR X (compareOp .Eq) (fun x y H Q => rEq x y H Q ∨ rEqD X.K x y H Q) := OpR.or op_eq (op_eqD hu)
theorem op_neA (hu : X.A.units + 64 < cLine) : OpR X (compareOp .NotEq) (fun x y H Q => rNe x y H Q ∨ rNeD X.K x y H Q) := OpR.or op_ne (op_neD hu)
theorem of_eq {K : PySem.W.Frag} : OpF T K (fun x y H Q => rEq x y H Q ∨ rEqD K x y H Q) pEq := by
  intro gh F H σ env x y a b d Q R ra rb e q
  unfold pEq at e
  split at e
  · cases e
    cases ra; cases rb
    exact .inl ⟨rfl, q _ _ _ R (Same.refl _) (by simp only [V.int.injEq]; exact .bl _)⟩
  · cases e
    cases ra; cases rb
    exact .inl ⟨rfl, q _ _ _ R (Same.refl _) (by simp only [V.str.injEq]; exact .bl _)⟩
  · cases e
    cases ra; cases rb
    exact .inl ⟨rfl, q _ _ _ R (Same.refl _) (by simp only [V.bl.injEq]; exact .bl _)⟩
  · split at e
    · rename_i h
      cases e
      simp only [Bool.and_eq_true] at h
      exact .inr ⟨a, b, ra.dp R.sub h.1.1.1, rb.dp R.sub h.1.1.2, h.1.2, h.2, q _ _ _ R (Same.refl _) (.bl _)⟩
    · cases e
theorem of_ne {K : PySem.W.Frag} : OpF T K (fun x y H Q => rNe x y H Q ∨ rNeD K x y H Q) pNe := by
  intro gh F H σ env x y a b d Q R ra rb e q
  unfold pNe at e
  split at e
  · cases e
    cases ra; cases rb
    exact .inl ⟨rfl, q _ _ _ R (Same.refl _) (by simp only [V.int.injEq]; exact .bl _)⟩
  · cases e
    cases ra; cases rb
    exact .inl ⟨rfl, q _ _ _ R (Same.refl _) (by simp only [V.str.injEq]; exact .bl _)⟩
  · cases e
    cases ra; cases rb
    exact .inl ⟨rfl, q _ _ _ R (Same.refl _) (by simp only [V.bl.injEq]; exact .bl _)⟩
  · split at e
    · rename_i h
      cases e
      simp only [Bool.and_eq_true] at h
      exact .inr ⟨a, b, ra.dp R.sub h.1.1.1, rb.dp R.sub h.1.1.2, h.1.2, h.2, q _ _ _ R (Same.refl _) (.bl _)⟩
    · cases e
theorem isNn_dec {K : PySem.W.Frag} {F : Hp} {v : V} {d : PV} (r : Rep K F v d) : decide (v = .non) = isNn d := by
  cases r <;> simp [isNn]
theorem of_isN {K : PySem.W.Frag} : OpF T K (fun x y H Q => y = .non ∧ Q (.bl (decide (x = .non))) H) pIsN := by
  intro gh F H σ env x y a b d Q R ra rb e q
  unfold pIsN at e
  split at e
  · cases e
    cases rb
    exact ⟨rfl, q _ _ _ R (Same.refl _) (by rw [isNn_dec ra]; exact .bl _)⟩
  · cases e
theorem of_notN {K : PySem.W.Frag} : OpF T K (fun x y H Q => y = .non ∧ Q (.bl (!decide (x = .non))) H) pNotN := by
  intro gh F H σ env x y a b d Q R ra rb e q
  unfold pNotN at e
  split at e
  · cases e
    cases rb
    exact ⟨rfl, q _ _ _ R (Same.refl _) (by rw [isNn_dec ra]; exact .bl _)⟩
  · cases e
theorem fe_neg {a : Expr} {pos : Pos} {f : EF} (h : FE T X a f) : FE T X (.UnaryOp .USub a pos) (un pNeg f) :=
  (pe_un un_neg h).weak fun σ H Q ⟨gh, F, env, d, env', R, e, q⟩ => by
    unfold un at e
    split at e
    · cases e
    · rename_i d1 e1 ef
      split at e
      · cases e
      · rename_i d2 eg
        cases e
        refine ⟨gh, F, env, _, _, R, ef, fun v H1 F1 R1 s1 r1 => ?_⟩
        unfold pNeg at eg
        split at eg
        · cases eg
          exact ⟨_, r1.int_iff, q _ _ _ R1 s1 (.int _)⟩
        · cases eg
/-- a < b <= c -/
def chn (g h : PV → PV → Option PV) (fa fb fc : EF) : EF := fun env => match fa env with
  | none => none
  | some (a, e1) => match fb e1 with
    | none => none
    | some (b, e2) => match g a b with
      | some (.bool true) => match fc e2 with
        | none => none
        | some (c, e3) => match h b c with
          | none => none
          | some d => some (d, e3)
      | some (.bool false) => some (.bool false, e2)
      | _ => none
theorem re_chn {r r' : R2} {g h : PV → PV → Option PV} {fa fb fc : EF} {K : PySem.W.Frag} (hg : OpF T K r g) (hh : OpF T K r' h) : ∀ σ H Q, RE T K (chn g h fa fb fc) σ H Q → tChain r r' (RE T K fa) (RE T K fb) (RE T K fc) σ H Q := by
  rintro σ H Q ⟨gh, F, env, d, env', R, e, q⟩
  unfold chn at e
  split at e
  · cases e
  · rename_i a e1 ea
    split at e
    · cases e
    · rename_i b e2 eb
      refine ⟨gh, F, env, a, e1, R, ea, fun x H1 F1 R1 s1 ra => ⟨gh, F1, e1, b, _, R1, eb, fun y H2 F2 R2 s2 rb => ?_⟩⟩
      split at e
      · rename_i eg
        refine hg gh F2 H2 σ _ x y a b _ _ R2 (ra.mono s2) rb eg fun v H3 F3 R3 s3 r3 => ?_
        cases r3
        refine ⟨true, rfl, iteT ?_⟩
        split at e
        · cases e
        · rename_i c e3 ec
          split at e
          · cases e
          · rename_i d' eh
            cases e
            exact ⟨gh, F3, _, c, _, R3, ec, fun w H4 F4 R4 s4 r4 => hh gh F4 H4 σ _ y w b c _ Q R4 (rb.mono (s3.trans s4)) r4 eh fun v H5 F5 R5 s5 r5 => q v H5 F5 R5 (s1.trans (s2.trans (s3.trans (s4.trans s5)))) r5⟩
      · rename_i eg
        cases e
        refine hg gh F2 H2 σ _ x y a b _ _ R2 (ra.mono s2) rb eg fun v H3 F3 R3 s3 r3 => ?_
        cases r3
        exact ⟨false, rfl, iteF (q _ H3 F3 R3 (s1.trans (s2.trans s3)) (.bl _))⟩
      · cases e
theorem fe_chain {op op' : CmpOp} {a b c : Expr} {pos : Pos} {r r' : R2} {g h : PV → PV → Option PV} {fa fb fc : EF} (ho : OpR X (compareOp op) r) (hg : OpF T X.K r g) (ho' : OpR X (compareOp op') r') (hh : OpF T X.K r' h) (ha : FE T X a fa) (hb : FE T X b fb) (hc : FE T X c fc)
    (hm : lastMarks [op, op'] [b, c] = false := by with_unfolding_all rfl) : FE T X (.Compare a [op, op'] [b, c] pos) (chn g h fa fb fc) := (pe_chain ho ho' ha hb hc hm).weak (re_chn hg hh)
theorem ft_chain {op op' : CmpOp} {a b c : Expr} {pos : Pos} {r r' : R2} {g h : PV → PV → Option PV} {fa fb fc : EF} (ho : OpR X (compareOp op) r) (hg : OpF T X.K r g) (ho' : OpR X (compareOp op') r') (hh : OpF T X.K r' h) (ha : FE T X a fa) (hb : FE T X b fb) (hc : FE T X c fc)
    (hm : lastMarks [op, op'] [b, c] = false := by with_unfolding_all rfl) : FT T X (.Compare a [op, op'] [b, c] pos) (tB' (chn g h fa fb fc)) :=
  PT.weak (pt_chain ho ho' ha hb hc hm) fun σ H Q hq => tTest_mono (re_chn hg hh) σ H Q (rt_b σ H Q hq)

def tru : PV → Option Bool
  | .none => some false
  | .bool b => some b
  | .int i => some (i != 0)
  | .str z => if z.length ≤ sizeLine then some ((z.length : Int) != 0) else none
  | .list xs => some (!xs.isEmpty)
  | .tuple xs => some (!xs.isEmpty)
  | .dict _ => none
def tTr (f : EF) : TF := fun env => match f env with
  | none => none
  | some (d, e) => match tru d with
    | none => none
    | some b => some (b, e)
theorem Reps.empty_iff {K : PySem.W.Frag} {F : Hp} {vs : List V} {ds : List PV} (r : Reps K F vs ds) : vs.isEmpty = ds.isEmpty := by cases r <;> rfl
theorem ft_tru {e : Expr} {f : EF} (h : FE T X e f) (he : ∀ whole, isTrue e X.env whole = (do let v ← whole; standAt e.pos; holding [v] (truthy v)) := by intro _; rfl) : FT T X e (tTr f) :=
  PT.weak (pt_truth h he) fun σ H Q ⟨gh, F, env, b, env', R, e, q⟩ => by
    unfold tTr at e
    split at e
    · cases e
    · rename_i d e1 ef
      split at e
      · cases e
      · rename_i b' et
        cases e
        refine ⟨gh, F, env, _, _, R, ef, fun v H1 F1 R1 s1 r1 => ⟨b, ?_, q H1 F1 R1 s1⟩⟩
        cases r1 with
        | non => cases et; rfl
        | bl => cases et; rfl
        | int => cases et; rfl
        | str z =>
          have et' : (if z.length ≤ sizeLine then some ((z.length : Int) != 0) else none) = some b := et
          by_cases hz : z.length ≤ sizeLine
          · rw [if_pos hz] at et'; cases et'; exact ⟨hz, rfl⟩
          · rw [if_neg hz] at et'; cases et'
        | lst h r => cases et; exact .inl ⟨_, .inl (.inl (R1.sub _ _ h)), by rw [r.empty_iff]⟩
        | tup h r => cases et; exact .inr (.inl ⟨_, SqT.mono R1.sub (sqT h), by rw [r.empty_iff]⟩)
        | dk h r => cases et
        | dt h r => cases et
        | lk h r => cases et

def pLen : List PV → Option PV
  | [.list xs] => some (.int xs.length)
  | [.tuple xs] => some (.int xs.length)
  | [.str z] => if z.length ≤ sizeLine then some (.int z.length) else none
  | _ => none
theorem cf_len {K : PySem.W.Frag} : CallF T K (fun xs H Q => ∃ x n, xs = [x] ∧ LenV K x H n ∧ Q (.int n) H) pLen := by
  intro gh F H σ env xs ds d Q R r e q
  unfold pLen at e
  split at e
  · cases e
    cases r with
    | cons r1 r2 =>
      cases r2
      cases r1 with
      | lst h rr => exact ⟨_, _, rfl, .inl ⟨_, .inl (.inl (R.sub _ _ h)), rfl⟩, by rw [rr.len]; exact q _ _ _ R (Same.refl _) (.int _)⟩
  · cases e
    cases r with
    | cons r1 r2 =>
      cases r2
      cases r1 with
      | tup h rr => exact ⟨_, _, rfl, .inr ⟨_, SqT.mono R.sub (sqT h), rfl⟩, by rw [rr.len]; exact q _ _ _ R (Same.refl _) (.int _)⟩
  · split at e
    · rename_i hz
      cases e
      cases r with
      | cons r1 r2 =>
        cases r2
        cases r1
        exact ⟨_, _, rfl, ⟨hz, rfl⟩, q _ _ _ R (Same.refl _) (.int _)⟩
    · cases e
  · cases e
def pAbs : List PV → Option PV
  | [.int i] => some (.int (if i < 0 then -i else i))
  | _ => none
theorem cf_abs {K : PySem.W.Frag} : CallF T K (fun xs H Q => ∃ i, xs = [.int i] ∧ Q (.int (if i < 0 then -i else i)) H) pAbs := by
  intro gh F H σ env xs ds d Q R r e q
  unfold pAbs at e
  split at e
  · cases e
    cases r with
    | cons r1 r2 =>
      cases r2
      cases r1
      exact ⟨_, rfl, q _ _ _ R (Same.refl _) (.int _)⟩
  · cases e
def pGcd : List PV → Option PV
  | [.int a, .int b] => some (.int (Nat.gcd a.natAbs b.natAbs : Nat))
  | _ => none
theorem cf_gcd {K : PySem.W.Frag} : CallF T K rGcd pGcd := by
  intro gh F H σ env xs ds d Q R r e q
  unfold pGcd at e
  split at e
  · cases e
    cases r with
    | cons r1 r2 => cases r2 with
      | cons r3 r4 =>
        cases r4; cases r1; cases r3
        exact ⟨_, _, rfl, q _ _ _ R (Same.refl _) (.int _)⟩
  · cases e
def pMin2 : List PV → Option PV
  | [.int a, .int b] => some (.int (if b < a then b else a))
  | _ => none
theorem cf_min2 {K : PySem.W.Frag} : CallF T K (fun xs H Q => ∃ i j, xs = [.int i, .int j] ∧ Q (.int (if j < i then j else i)) H) pMin2 := by
  intro gh F H σ env xs ds d Q R r e q
  unfold pMin2 at e
  split at e
  · cases e
    cases r with
    | cons r1 r2 => cases r2 with
      | cons r3 r4 =>
        cases r4; cases r1; cases r3
        exact ⟨_, _, rfl, q _ _ _ R (Same.refl _) (.int _)⟩
  · cases e
def pMax2 : List PV → Option PV
  | [.int a, .int b] => some (.int (if b > a then b else a))
  | _ => none
theorem cf_max2 {K : PySem.W.Frag} : CallF T K (fun xs H Q => ∃ i j, xs = [.int i, .int j] ∧ Q (.int (if j > i then j else i)) H) pMax2 := by
  intro gh F H σ env xs ds d Q R r e q
  unfold pMax2 at e
  split at e
  · cases e
    cases r with
    | cons r1 r2 => cases r2 with
      | cons r3 r4 =>
        cases r4; cases r1; cases r3
        exact ⟨_, _, rfl, q _ _ _ R (Same.refl _) (.int _)⟩
  · cases e
/-- int(n) -/
def pInt1 : List PV → Option PV
  | [.int i] => some (.int i)
  | _ => none
theorem cf_int1 {K : PySem.W.Frag} : CallF T K (fun xs H Q => (∃ i, xs = [.int i] ∧ Q (.int i) H) ∨ ∃ k, xs = [.bl k] ∧ Q (.int (if k then 1 else 0)) H) pInt1 := by
  intro gh F H σ env xs ds d Q R r e q
  unfold pInt1 at e
  split at e
  · cases e
    cases r with
    | cons r1 r2 =>
      cases r2
      cases r1
      exact .inl ⟨_, rfl, q _ _ _ R (Same.refl _) (.int _)⟩
  · cases e
/-- str(n) -/
def pStr : List PV → Option PV
  | [.int i] => if i.natAbs.log2 < 1920 then some (.str (toString i)) else none
  | _ => none
theorem cf_str {K : PySem.W.Frag} : CallF T K (fun xs H Q => ∃ i, xs = [.int i] ∧ i.natAbs.log2 < 1920 ∧ Q (.str (toString i)) H) pStr := by
  intro gh F H σ env xs ds d Q R r e q
  unfold pStr at e
  split at e
  · split at e
    · rename_i hl
      cases e
      cases r with
      | cons r1 r2 =>
        cases r2
        cases r1
        exact ⟨_, rfl, hl, q _ _ _ R (Same.refl _) (.str _)⟩
    · cases e
  · cases e
/-- all items are ints -/
def intsOf : List PV → Option (List Int)
  | [] => some []
  | .int i :: r => match intsOf r with
    | some is => some (i :: is)
    | none => none
  | _ :: _ => none
theorem intsOf_eq : ∀ {ds : List PV} {is : List Int}, intsOf ds = some is → ds = is.map PyData.int
  | [], _, h => by cases h; rfl
  | .int i :: r, is, h => by
    unfold intsOf at h
    split at h
    · rename_i js hj
      cases h
      rw [intsOf_eq hj]; rfl
    · cases h
  | .none :: _, _, h => by cases h
  | .bool _ :: _, _, h => by cases h
  | .str _ :: _, _, h => by cases h
  | .list _ :: _, _, h => by cases h
  | .tuple _ :: _, _, h => by cases h
  | .dict _ :: _, _, h => by cases h
theorem intsOf_map (is : List Int) : intsOf (is.map PyData.int) = some is := by
  induction is with
  | nil => rfl
  | cons i r ih => simp [intsOf, ih]
theorem Reps.ints {K : PySem.W.Frag} {F : Hp} : ∀ {is : List Int} {vs : List V}, Reps K F vs (is.map PyData.int) → vs = is.map V.int
  | [], _, .nil => rfl
  | i :: r, _, .cons h t => by
    cases h
    rw [Reps.ints (is := r) t]; rfl
theorem reps_ints {K : PySem.W.Frag} {F : Hp} : ∀ (is : List Int), Reps K F (is.map V.int) (is.map PyData.int)
  | [] => .nil
  | i :: r => .cons (.int i) (reps_ints r)
def pSum : List PV → Option PV
  | [.list xs] => match intsOf xs with
    | some is => some (.int is.sum)
    | none => none
  | _ => none
theorem cf_sum {K : PySem.W.Frag} : CallF T K (rSum K) pSum := by
  intro gh F H σ env xs ds d Q R r e q
  unfold pSum at e
  split at e
  · split at e
    · rename_i is hi
      cases e
      cases r with
      | cons r1 r2 =>
        cases r2
        cases r1 with
        | lst h rr =>
          rw [intsOf_eq hi] at rr
          have := rr.ints
          subst this
          exact ⟨_, is, rfl, .inl (.inl (R.sub _ _ h)), q _ _ _ R (Same.refl _) (.int _)⟩
    · cases e
  · cases e
/-- sorted(xs), ints -/
def insI (i : Int) : List Int → List Int
  | [] => [i]
  | j :: r => if i ≤ j then i :: j :: r else j :: insI i r
def srtI : List Int → List Int
  | [] => []
  | i :: r => insI i (srtI r)
theorem insI_perm (i : Int) : ∀ l : List Int, (insI i l).Perm (i :: l)
  | [] => .refl _
  | j :: r => by
    unfold insI
    split
    · exact .refl _
    · exact ((insI_perm i r).cons j).trans (.swap i j r)
theorem srtI_perm : ∀ l : List Int, (srtI l).Perm l
  | [] => .refl _
  | i :: r => (insI_perm i _).trans ((srtI_perm r).cons i)
theorem insI_sorted (i : Int) : ∀ l : List Int, l.Pairwise (· ≤ ·) → (insI i l).Pairwise (· ≤ ·)
  | [], _ => by simp [insI]
  | j :: r, h => by
    unfold insI
    have hj := List.pairwise_cons.mp h
    split
    · rename_i hij
      refine List.pairwise_cons.mpr ⟨fun x hx => ?_, h⟩
      rcases List.mem_cons.mp hx with rfl | hx
      · exact hij
      · exact Int.le_trans hij (hj.1 x hx)
    · rename_i hij
      refine List.pairwise_cons.mpr ⟨fun x hx => ?_, insI_sorted i r hj.2⟩
      rcases List.mem_cons.mp ((insI_perm i r).mem_iff.mp hx) with rfl | hx
      · omega
      · exact hj.1 x hx
theorem srtI_sorted : ∀ l : List Int, (srtI l).Pairwise (· ≤ ·)
  | [] => .nil
  | i :: r => insI_sorted i _ (srtI_sorted r)
theorem sorted_one : ∀ {a b : List Int}, a.Perm b → a.Pairwise (· ≤ ·) → b.Pairwise (· ≤ ·) → a = b := fun {a b} p ha hb => p.eq_of_pairwise (fun x y _ _ h1 h2 => Int.le_antisymm h1 h2) ha hb
def pSorted : List PV → Option PV
  | [.list xs] => match intsOf xs with
    | some is => some (.list ((srtI is).map PyData.int))
    | none => none
  | _ => none
theorem cn_sorted {K : PySem.W.Frag} : CallN T K (rSortedI K) pSorted := by
  intro gh F H σ env xs ds d Q R r e q
  unfold pSorted at e
  split at e
  · split at e
    · rename_i is hi
      cases e
      cases r with
      | cons r1 r2 =>
        cases r2
        cases r1 with
        | lst h rr =>
          rw [intsOf_eq hi] at rr
          have := rr.ints
          subst this
          refine ⟨_, is, rfl, .inl (.inl (R.sub _ _ h)), fun ns' p hp hs hnew => ?_⟩
          have e1 : ns' = srtI is := sorted_one (hp.trans (srtI_perm is).symm) hs (srtI_sorted is)
          subst e1
          obtain ⟨h0, nT, hF⟩ := R.fresh hnew
          exact q p _ F (R.laid hnew) (Same.refl _) hF h0 (R.own_ne hnew) (.lst upd_same (reps_ints _))
    · cases e
  · cases e
theorem Rep.isLk {K : PySem.W.Frag} {F : Hp} {v : V} {ds : List PV} (h : Rep K F v (.dict [(.bool true, .list ds)])) : ∃ a xs, v = .ref a ∧ SqL K F a xs ∧ Reps K F xs ds := by
  generalize e : PyData.dict [(.bool true, .list ds)] = d at h
  cases h with
  | lk h r => cases e; exact ⟨_, _, rfl, h, r⟩
  | dk h r =>
    injection e with e
    cases r with
    | nil => cases e
    | cons r1 r2 =>
      rename_i k _ _ _ _
      injection e with e1 e2
      injection e1 with e1 e3
      cases k <;> cases e1
  | _ => cases e
/-- list(x) -/
def pList : List PV → Option PV
  | [.list xs] => some (.list xs)
  | [.tuple xs] => some (.list xs)
  | [.dict [(.bool true, .list xs)]] => some (.list xs)
  | _ => none
theorem cn_list {K : PySem.W.Frag} : CallN T K (fun xs H Q => ∃ p ys, xs = [.ref p] ∧ (SqL K H p ys ∨ SqT K H p ys) ∧ ∀ l, H l = none → Q (.ref l) (upd H l (.lst ys))) pList := by
  intro gh F H σ env xs ds d Q R r e q
  unfold pList at e
  split at e
  · cases e
    cases r with
    | cons r1 r2 =>
      cases r2
      cases r1 with
      | lst h rr =>
        refine ⟨_, _, rfl, .inl (.inl (.inl (R.sub _ _ h))), fun l hl => ?_⟩
        obtain ⟨h0, nT, hF⟩ := R.fresh hl
        exact q l _ F (R.laid hl) (Same.refl _) hF h0 (R.own_ne hl) (.lst upd_same rr)
  · cases e
    cases r with
    | cons r1 r2 =>
      cases r2
      cases r1 with
      | tup h rr =>
        refine ⟨_, _, rfl, .inr (SqT.mono R.sub (sqT h)), fun l hl => ?_⟩
        obtain ⟨h0, nT, hF⟩ := R.fresh hl
        exact q l _ F (R.laid hl) (Same.refl _) hF h0 (R.own_ne hl) (.lst upd_same rr)
  · cases e
    cases r with
    | cons r1 r2 =>
      cases r2
      obtain ⟨a, ys, rfl, h, rr⟩ := r1.isLk
      refine ⟨_, _, rfl, .inl (SqL.mono R.sub h), fun l hl => ?_⟩
      obtain ⟨h0, nT, hF⟩ := R.fresh hl
      exact q l _ F (R.laid hl) (Same.refl _) hF h0 (R.own_ne hl) (.lst upd_same rr)
  · cases e
/-- tuple(x) -/
def pTuple : List PV → Option PV
  | [.list xs] => some (.tuple xs)
  | [.tuple xs] => some (.tuple xs)
  | _ => none
theorem cf_tuple {K : PySem.W.Frag} : CallF T K (fun xs H Q => ∃ p ys, xs = [.ref p] ∧ ((SqL K H p ys ∧ ∀ l, H l = none → Q (.ref l) (upd H l (.tup ys))) ∨ (SqT K H p ys ∧ Q (.ref p) H))) pTuple := by
  intro gh F H σ env xs ds d Q R r e q
  unfold pTuple at e
  split at e
  · cases e
    cases r with
    | cons r1 r2 =>
      cases r2
      cases r1 with
      | lst h rr =>
        refine ⟨_, _, rfl, .inl ⟨.inl (.inl (R.sub _ _ h)), fun l hl => ?_⟩⟩
        obtain ⟨R2, s2⟩ := R.laidF (o := .tup _) hl
        exact q _ _ _ R2 s2 (.tup (.inl upd_same) (rr.mono s2))
  · cases e
    cases r with
    | cons r1 r2 =>
      cases r2
      cases r1 with
      | tup h rr => exact ⟨_, _, rfl, .inr ⟨SqT.mono R.sub (sqT h), q _ _ _ R (Same.refl _) (.tup h rr)⟩⟩
  · cases e

def isi (n : String) : PV → Option Bool
  | .none => kitB "NoneType" n
  | .bool _ => kitB "bool" n
  | .int _ => kitB "int" n
  | .str _ => kitB "str" n
  | .list _ => kitB "list" n
  | .tuple _ => kitB "tuple" n
  | .dict _ => none
def eIsi (n : String) (f : EF) : EF := fun env => match f env with
  | none => none
  | some (d, e) => match isi n d with
    | none => none
    | some b => some (.bool b, e)
theorem Rep.tyX {K : PySem.W.Frag} {F H : Hp} {v : V} {d : PV} {n : String} {b : Bool} (s : Same F H) (r : Rep K F v d) (e : isi n d = some b) : ∃ t, TyX K H v t ∧ PySem.W.kitOne K t (.type n) = some b := by
  cases r with
  | non => exact ⟨_, .base .non, kit_ty e⟩
  | bl x => exact ⟨_, .base (.bl x), kit_ty e⟩
  | int x => exact ⟨_, .base (.int x), kit_ty e⟩
  | str x => exact ⟨_, .base (.str x), kit_ty e⟩
  | lst h r => exact ⟨_, .base (.lst (s _ _ h)), kit_ty e⟩
  | tup h r =>
    rcases SqT.mono s (sqT h) with (h | ⟨o, h⟩) | ⟨o, its, n', hk, hc, _⟩
    · exact ⟨_, .base (.tup h), kit_ty e⟩
    · exact ⟨_, .fTuple h, kit_ty e⟩
    · exact ⟨_, .kTuple hk hc, kit_ty e⟩
  | dk h r => cases e
  | dt h r => cases e
  | lk h r => cases e
theorem fe_isi (n : String) {a : Expr} {p p2 pos : Pos} {x : Str} {f : EF} (hg : Gl X "isinstance") (hm : X.mg "isinstance" = none) (hg2 : Gl X x) (hm2 : X.mg x = none) (hv : bootBuiltins x = some (.type n)) (ha : FE T X a f) (hb : bootBuiltins "isinstance" = some (.builtin "isinstance") := by decide +kernel)
    (hn : x ≠ "__name__" := by decide) (hd : (x == ("__debug__" : Str)) = false := by decide)
    (he : starEach [a, .Name x p2] X.env = (false, eval a X.env) :: starEach [.Name x p2] X.env := by rfl) (he2 : starEach [.Name x p2] X.env = (false, eval (.Name x p2) X.env) :: starEach [] X.env := by rfl) (hpl : (backTo pos (starEach [.Name x p2] X.env)).any (·.1) = false := by rfl) :
    FE T X (.Call (.Name "isinstance" p) [a, .Name x p2] [] pos) (eIsi n f) :=
  (pe_callB call_isi hg hm hb (pa_cons ha (pa_cons (pe_bltn (v := .ty n) hg2 hm2 hv rfl hn hd) pa_nil he2) he) (by decide) (by decide) he hpl).weak fun σ H Q ⟨gh, F, env, d, env', R, e, q⟩ => by
    unfold eIsi at e
    split at e
    · cases e
    · rename_i d1 e1 ef
      split at e
      · cases e
      · rename_i b eb
        cases e
        refine ⟨gh, F, env, _, _, R, ef, fun v H1 F1 R1 s1 r1 => ?_⟩
        obtain ⟨t, h1, h2⟩ := r1.tyX R1.sub eb
        exact ⟨v, .ty n, t, .type n, b, rfl, .ty n, h1, h2, q _ _ _ R1 s1 (.bl b)⟩

def pIx : PV → PV → Option PV
  | .list xs, .int i => atI xs i
  | .tuple xs, .int i => atI xs i
  | .str z, .int i => if z.length ≤ sizeLine then (atI z.cps.toList i).map fun c => .str ⟨#[c]⟩ else none
  | _, _ => none
def rIxA (K : PySem.W.Frag) : R2 := fun x y H Q => rIxL K x y H Q ∨ rIxT K x y H Q ∨ rIxS x y H Q
theorem ix_all : IxR X (rIxA X.K) := IxR.or ix_list (IxR.or ix_tup ix_str)
theorem Reps.atI {K : PySem.W.Frag} {F : Hp} {vs : List V} {ds : List PV} {i : Int} {d : PV} (r : Reps K F vs ds) (h : L2.atI ds i = some d) : ∃ v, L2.atI vs i = some v ∧ Rep K F v d := by
  unfold L2.atI at h ⊢
  rw [r.len]
  cases e : ixN ds.length i with
  | none => rw [e] at h; cases h
  | some j =>
    rw [e] at h
    exact r.get h
theorem of_ix {K : PySem.W.Frag} : OpF T K (rIxA K) pIx := by
  intro gh F H σ env x y a b d Q R ra rb e q
  unfold pIx at e
  split at e
  · cases ra with
    | lst h r =>
      obtain ⟨v, e1, r1⟩ := r.atI e
      exact .inl ⟨_, _, _, _, rfl, rb.int_iff, .inl (.inl (R.sub _ _ h)), e1, q _ _ _ R (Same.refl _) r1⟩
  · cases ra with
    | tup h r =>
      obtain ⟨v, e1, r1⟩ := r.atI e
      exact .inr (.inl ⟨_, _, _, _, rfl, rb.int_iff, SqT.mono R.sub (sqT h), e1, q _ _ _ R (Same.refl _) r1⟩)
  · split at e
    · rename_i hz
      cases hc : atI _ _ with
      | none => rw [hc] at e; cases e
      | some c =>
        rw [hc] at e
        cases e
        exact .inr (.inr ⟨_, _, _, ra.str_iff, rb.int_iff, hz, hc, q _ _ _ R (Same.refl _) (.str _)⟩)
    · cases e
  · cases e
theorem fe_ix {a b : Expr} {pos : Pos} {fa fb : EF} (ha : FE T X a fa) (hb : FE T X b fb) (hs : PlainIx b := by exact fun _ _ => rfl) : FE T X (.Subscript a b pos) (bin pIx fa fb) :=
  (pe_ix ix_all ha hb hs).weak (re_bin (ta := RE T X.K fa) (tb := RE T X.K fb) of_ix)

def cont (env : Ev) (i : Nat) : Option PV := match env[i]? with
  | some (.va d) => some d
  | some (.ow d) => some d
  | some (.io d) => some d
  | _ => none
/-- readable now -/
inductive Read (K : PySem.W.Frag) (F H : Hp) : V → PV → Prop
  | val {v : V} {d : PV} : Rep K F v d → Read K F H v d
  | own {a : Addr} {d : PV} : Own K F H a d → Read K F H (.ref a) d
theorem Rel.cont {K : PySem.W.Frag} {g : Gh} {F H : Hp} {σ : St} {env : Ev} {i : Nat} {d : PV} (R : Rel T K g F H σ env) (h : Fx.cont env i = some d) : ∃ v, σ[i]? = some (some v) ∧ Read K F H v d := by
  unfold Fx.cont at h
  split at h
  · rename_i d' hd; cases h
    obtain ⟨v, e, r⟩ := R.va i _ hd
    exact ⟨v, e, .val r⟩
  · rename_i d' hd; cases h
    obtain ⟨a, e, _, _, r⟩ := R.ow i _ hd
    exact ⟨_, e, .own r⟩
  · rename_i d' hd; cases h
    obtain ⟨a, _, e, _, r⟩ := R.io i _ hd
    exact ⟨_, e, .own r⟩
  · cases h
/-- what a list, read now, is -/
theorem Read.lst {K : PySem.W.Frag} {F H : Hp} {v : V} {ds : List PV} (s : Same F H) (h : Read K F H v (.list ds)) : ∃ a xs, v = .ref a ∧ H a = some (.lst xs) ∧ Reps K F xs ds := by
  cases h with
  | val r => cases r with
    | lst h r => exact ⟨_, _, rfl, s _ _ h, r⟩
  | own r => cases r with
    | lst h r => exact ⟨_, _, rfl, h, r⟩
theorem Read.tup {K : PySem.W.Frag} {F H : Hp} {v : V} {ds : List PV} (s : Same F H) (h : Read K F H v (.tuple ds)) : ∃ a xs, v = .ref a ∧ SqT K H a xs ∧ Reps K F xs ds := by
  cases h with
  | val r => cases r with
    | tup h r => exact ⟨_, _, rfl, SqT.mono s (sqT h), r⟩
  | own r => cases r
theorem Read.str {K : PySem.W.Frag} {F H : Hp} {v : V} {z : Str} (h : Read K F H v (.str z)) : v = .str z := by
  cases h with
  | val r => exact r.str_iff
  | own r => cases r
def ixN' (i : Nat) (fb : EF) : EF := fun env => match Fx.cont env i with
  | none => none
  | some _ => match fb env with
    | none => none
    | some (k, e) => match Fx.cont e i with
      | none => none
      | some d => match pIx d k with
        | none => none
        | some r => some (r, e)
theorem fe_ixN (i : Nat) {x : Str} {px pos : Pos} {b : Expr} {fb : EF} (hb : FE T X b fb) (hN : X.N[i]? = some x := by rfl) (hv : Vis X.env.scope x := by first | exact Or.inl rfl | exact Or.inr (Or.inl rfl) | exact Or.inr (Or.inr rfl)) (hs : PlainIx b := by exact fun _ _ => rfl)
    (hd : (x == ("__debug__" : Str)) = false := by decide) (hcd : (x == ("__classdict__" : Str)) = false := by decide) : FE T X (.Subscript (.Name x px) b pos) (ixN' i fb) :=
  (pe_ix ix_all (pe_var hN hv hd hcd) hb hs).weak fun σ H Q ⟨gh, F, env, d, env', R, e, q⟩ => by
    unfold ixN' at e
    split at e
    · cases e
    · rename_i d0 h0
      obtain ⟨v, ev, _⟩ := R.cont h0
      refine ⟨v, ev, ?_⟩
      split at e
      · cases e
      · rename_i k e1 eb
        refine ⟨gh, F, env, _, _, R, eb, fun y H1 F1 R1 s1 rb => ?_⟩
        split at e
        · cases e
        · rename_i d1 h1
          obtain ⟨v', ev', rd⟩ := R1.cont h1
          rw [ev] at ev'
          cases ev'
          split at e
          · cases e
          · rename_i r er
            cases e
            unfold pIx at er
            split at er
            · obtain ⟨a, xs, rfl, hl, rr⟩ := rd.lst R1.sub
              obtain ⟨w, e2, r2⟩ := rr.atI er
              exact .inl ⟨_, _, _, _, rfl, rb.int_iff, .inl (.inl hl), e2, q _ _ _ R1 s1 r2⟩
            · obtain ⟨a, xs, rfl, hl, rr⟩ := rd.tup R1.sub
              obtain ⟨w, e2, r2⟩ := rr.atI er
              exact .inr (.inl ⟨_, _, _, _, rfl, rb.int_iff, hl, e2, q _ _ _ R1 s1 r2⟩)
            · have := rd.str
              subst this
              split at er
              · rename_i hz
                cases hc : atI _ _ with
                | none => rw [hc] at er; cases er
                | some c =>
                  rw [hc] at er
                  cases er
                  exact .inr (.inr ⟨_, _, _, rfl, rb.int_iff, hz, hc, q _ _ _ R1 s1 (.str _)⟩)
              · cases er
            · cases er
/-- len of a name -/
def lenN (i : Nat) : EF := fun env => match Fx.cont env i with
  | none => none
  | some d => match pLen [d] with
    | none => none
    | some r => some (r, env)
theorem fe_lenN (i : Nat) {x : Str} {p px pos : Pos} (hg : Gl X "len") (hm : X.mg "len" = none) (hN : X.N[i]? = some x := by rfl) (hv : Vis X.env.scope x := by first | exact Or.inl rfl | exact Or.inr (Or.inl rfl) | exact Or.inr (Or.inr rfl))
    (hd : (x == ("__debug__" : Str)) = false := by decide) (hcd : (x == ("__classdict__" : Str)) = false := by decide) (he : starEach [.Name x px] X.env = (false, eval (.Name x px) X.env) :: starEach [] X.env := by rfl) (hpl : (backTo pos (starEach [] X.env)).any (·.1) = false := by rfl) :
    FE T X (.Call (.Name "len" p) [.Name x px] [] pos) (lenN i) :=
  (pe_callB call_len hg hm PySem.boot_len (pa_cons (pe_var hN hv hd hcd) pa_nil he) (by decide) (by decide) he hpl).weak fun σ H Q ⟨gh, F, env, d, env', R, e, q⟩ => by
    unfold lenN at e
    split at e
    · cases e
    · rename_i d0 h0
      obtain ⟨v, ev, rd⟩ := R.cont h0
      refine ⟨v, ev, ?_⟩
      split at e
      · cases e
      · rename_i r er
        cases e
        unfold pLen at er
        split at er
        · rename_i xs hx
          cases er
          cases hx
          obtain ⟨a, ys, rfl, hl, rr⟩ := rd.lst R.sub
          exact ⟨_, _, rfl, .inl ⟨_, .inl (.inl hl), rfl⟩, by rw [rr.len]; exact q _ _ _ R (Same.refl _) (.int _)⟩
        · rename_i xs hx
          cases er
          cases hx
          obtain ⟨a, ys, rfl, hl, rr⟩ := rd.tup R.sub
          exact ⟨_, _, rfl, .inr ⟨_, hl, rfl⟩, by rw [rr.len]; exact q _ _ _ R (Same.refl _) (.int _)⟩
        · rename_i z hz
          cases hz
          split at er
          · rename_i hl
            cases er
            have := rd.str
            subst this
            exact ⟨_, _, rfl, ⟨hl, rfl⟩, q _ _ _ R (Same.refl _) (.int _)⟩
          · cases er
        · cases er
end
end Fx

namespace Fx
open PySem PySem.Spec L2
open PyProof.Rows hiding St

section
variable {T : List Addr} {K : PySem.W.Frag} {g : Gh} {F H : Hp} {σ : St} {env : Ev}
/-- the object that the name i holds is changed -/
theorem Rel.write (R : Rel T K g F H σ env) {i : Nat} {p : Addr} {o : HO} {d' : PV} {s : Sl} (hp : σ[i]? = some (some (.ref p))) (ho : Own K F (upd H p o) p d') (h : (∃ d, env[i]? = some (.ow d) ∧ s = .ow d') ∨ ∃ d, env[i]? = some (.io d) ∧ s = .io d') :
    Rel T K g F (upd H p o) σ (env.set i s) := by
  have hi : i < env.length := by
    rcases h with ⟨d, e, _⟩ | ⟨d, e, _⟩ <;> exact (List.getElem?_eq_some_iff.mp e).1
  have oi : owns env i := by
    rcases h with ⟨d, e, _⟩ | ⟨d, e, _⟩
    · exact ⟨d, .inl e⟩
    · exact ⟨d, .inr e⟩
  obtain ⟨hF, o₀, hH, hnt⟩ : F p = none ∧ ∃ o₀, H p = some o₀ ∧ ∀ ps, o₀ ≠ .tbl ps := by
    rcases h with ⟨d, e, _⟩ | ⟨d, e, _⟩
    · obtain ⟨a, e1, e2, _, ho⟩ := R.ow i d e
      rw [hp] at e1; cases e1
      exact ⟨e2, ho.at_⟩
    · obtain ⟨a, _, e1, e2, ho⟩ := R.io i d e
      rw [hp] at e1; cases e1
      exact ⟨e2, ho.at_⟩
  have get : ∀ (j : Nat) x, j ≠ i → (env.set i s)[j]? = some x → env[j]? = some x := fun j x hj q => by
    rw [List.getElem?_set_ne (Ne.symm hj)] at q; exact q
  have own' : ∀ j : Nat, owns (env.set i s) j → owns env j := fun j ⟨d, hd⟩ => by
    by_cases hj : j = i
    · rw [hj]; exact oi
    · exact ⟨d, hd.imp (get j _ hj) (get j _ hj)⟩
  have ne : ∀ (j : Nat) (b : Addr), j ≠ i → owns env j → σ[j]? = some (some (.ref b)) → b ≠ p := fun j b hj oj ej z => by
    subst z
    exact hj (R.sep j i b oj oi ej hp)
  refine ⟨by rw [List.length_set]; exact R.len, fun a o' e => ?_, R.f0, R.new, fun a o' e n1 n2 => ?_, fun P hP => ?_, R.nt, fun j d q => ?_, fun j d q => ?_, fun j d q => ?_, fun j a q => ?_, fun a o' q => ?_, fun j k a q1 q2 => R.sep j k a (own' j q1) (own' k q2)⟩
  · rw [upd_ne (fun (z : a = p) => by rw [z, hF] at e; cases e)]
    exact R.sub a o' e
  · have : a ≠ p := fun z => by
      subst z
      rcases h with ⟨d, e', _⟩ | ⟨d, e', _⟩
      · obtain ⟨a', e1, _, e3, _⟩ := R.ow i d e'
        rw [hp] at e1; cases e1
        rw [e] at e3; cases e3
      · obtain ⟨a', e0, e1, _⟩ := R.io i d e'
        rw [hp] at e1; cases e1
        exact n2 i e0
    rw [upd_ne this]
    exact R.keep a o' e n1 n2
  · obtain ⟨ps, e, t⟩ := R.tab P hP
    have : P ≠ p := fun z => by rw [z, hH] at e; cases e; exact hnt ps rfl
    exact ⟨ps, by rw [upd_ne this]; exact e, t⟩
  · have hj : j ≠ i := fun z => by
      rw [z, List.getElem?_set_self hi] at q
      rcases h with ⟨_, _, e⟩ | ⟨_, _, e⟩ <;> rw [e] at q <;> cases q
    exact R.va j d (get j _ hj q)
  · by_cases hj : j = i
    · subst hj
      rw [List.getElem?_set_self hi] at q
      rcases h with ⟨d0, e0, e⟩ | ⟨d0, e0, e⟩
      · rw [e] at q; cases q
        obtain ⟨a, e1, e2, e3, _⟩ := R.ow j d0 e0
        rw [hp] at e1; cases e1
        exact ⟨p, hp, e2, e3, ho⟩
      · rw [e] at q; cases q
    · obtain ⟨a, e1, e2, e3, h4⟩ := R.ow j d (get j _ hj q)
      exact ⟨a, e1, e2, e3, h4.mono (Same.refl _) (upd_ne (ne j a hj ⟨d, .inl (get j _ hj q)⟩ e1))⟩
  · by_cases hj : j = i
    · subst hj
      rw [List.getElem?_set_self hi] at q
      rcases h with ⟨d0, e0, e⟩ | ⟨d0, e0, e⟩
      · rw [e] at q; cases q
      · rw [e] at q; cases q
        obtain ⟨a, e00, e1, e2, _⟩ := R.io j d0 e0
        rw [hp] at e1; cases e1
        exact ⟨p, e00, hp, e2, ho⟩
    · obtain ⟨a, e0, e1, e2, h4⟩ := R.io j d (get j _ hj q)
      exact ⟨a, e0, e1, e2, h4.mono (Same.refl _) (upd_ne (ne j a hj ⟨d, .inr (get j _ hj q)⟩ e1))⟩
  · obtain ⟨e1, d, e2⟩ := R.iok j a q
    refine ⟨e1, ?_⟩
    by_cases hj : j = i
    · subst hj
      rcases h with ⟨d0, e0, e⟩ | ⟨d0, e0, e⟩
      · rw [e2] at e0; cases e0
      · exact ⟨d', by rw [List.getElem?_set_self hi, e]⟩
    · exact ⟨d, by rw [List.getElem?_set_ne (Ne.symm hj)]; exact e2⟩
  · obtain ⟨t1, t2, t3, t4⟩ := R.tm a o' q
    have ha : a ≠ p := fun z => t4 i oi (by rw [hp, z])
    exact ⟨by rw [upd_ne ha]; exact t1, t2, t3, fun j hj => t4 j (own' j hj)⟩
/-- the same in words of the slot -/
inductive Mine : Sl → PV → Prop
  | ow (d : PV) : Mine (.ow d) d
  | io (d : PV) : Mine (.io d) d
def mine (env : Ev) (i : Nat) : Option PV := match env[i]? with
  | some (.ow d) => some d
  | some (.io d) => some d
  | _ => none
def putM (env : Ev) (i : Nat) (d : PV) : Ev := match env[i]? with
  | some (.ow _) => env.set i (.ow d)
  | some (.io _) => env.set i (.io d)
  | _ => env
theorem Rel.mine (R : Rel T K g F H σ env) {i : Nat} {d : PV} (h : Fx.mine env i = some d) : ∃ p, σ[i]? = some (some (.ref p)) ∧ F p = none ∧ Own K F H p d ∧
    ∀ o d', Own K F (upd H p o) p d' → Rel T K g F (upd H p o) σ (putM env i d') := by
  unfold Fx.mine at h
  split at h
  · rename_i d0 e; cases h
    obtain ⟨a, e1, e2, _, ho⟩ := R.ow i _ e
    refine ⟨a, e1, e2, ho, fun o d' ho' => ?_⟩
    have : putM env i d' = env.set i (.ow d') := by unfold putM; rw [e]
    rw [this]
    exact R.write e1 ho' (.inl ⟨_, e, rfl⟩)
  · rename_i d0 e; cases h
    obtain ⟨a, _, e1, e2, ho⟩ := R.io i _ e
    refine ⟨a, e1, e2, ho, fun o d' ho' => ?_⟩
    have : putM env i d' = env.set i (.io d') := by unfold putM; rw [e]
    rw [this]
    exact R.write e1 ho' (.inr ⟨_, e, rfl⟩)
  · cases h
theorem Own.isLst {p : Addr} {ds : List PV} (h : Own K F H p (.list ds)) : ∃ xs, H p = some (.lst xs) ∧ Reps K F xs ds := by
  cases h with
  | lst h r => exact ⟨_, h, r⟩
end

section
variable {T : List Addr} {X : Cx}
def isL (env : Ev) (i : Nat) : Bool := match Fx.mine env i with
  | some (.list _) => true
  | _ => false
def append (i : Nat) (f : EF) : EF := fun env => match isL env i with
  | false => none
  | true => match f env with
    | none => none
    | some (d, e) => match Fx.mine e i with
      | some (.list ds) => if ds.length < sizeLine then some (.none, putM e i (.list (ds ++ [d]))) else none
      | _ => none
theorem isL_eq {env : Ev} {i : Nat} (h : isL env i = true) : ∃ ds, Fx.mine env i = some (.list ds) := by
  unfold isL at h
  split at h
  · rename_i ds e; exact ⟨ds, e⟩
  · cases h
theorem fe_append (i : Nat) {x : Str} {px apos cpos : Pos} {a : Expr} {f : EF} (ha : FE T X a f) (hN : X.N[i]? = some x := by rfl) (hv : Vis X.env.scope x := by first | exact Or.inl rfl | exact Or.inr (Or.inl rfl) | exact Or.inr (Or.inr rfl))
    (hd : (x == ("__debug__" : Str)) = false := by decide) (hcd : (x == ("__classdict__" : Str)) = false := by decide) (hbase : attributeBase (.Name x px) "append" X.env (eval (.Name x px) X.env) = eval (.Name x px) X.env := by rfl)
    (hfew : ((backTo cpos (starEach [a] X.env)).all (fun x => !x.1) && (backToKw cpos (keywordEach [] X.env)).all (fun x => x.1.isSome) && decide ([a].length + ([] : List Keyword).length + (if ([] : List Keyword).isEmpty then 0 else 1) < 30)) = true := by rfl)
    (hline : (apos.endLine == cpos.line) = true := by rfl) (hs : starEach [a] X.env = (false, eval a X.env) :: starEach [] X.env := by rfl) (hplain : (backTo cpos (starEach [] X.env)).any (·.1) = false := by rfl) :
    FE T X (.Call (.Attribute (.Name x px) "append" apos) [a] [] cpos) (append i f) :=
  (pe_bm PySem.F.plainAttrs_list PySem.F.slot_list_append PySem.F.type_list_append mt_append (pe_var hN hv hd hcd) (pa_cons ha pa_nil hs) hbase hfew hline hs hplain).weak fun σ H Q ⟨gh, F, env, d, env', R, e, q⟩ => by
    unfold append at e
    split at e
    · cases e
    · rename_i hl
      obtain ⟨ds0, h0⟩ := isL_eq hl
      obtain ⟨p, ep, _, ho, _⟩ := R.mine h0
      obtain ⟨xs0, hx0, _⟩ := ho.isLst
      refine ⟨.ref p, ep, .inl ⟨rfl, xs0, .inl (.inl hx0)⟩, ?_⟩
      split at e
      · cases e
      · rename_i d1 e1 ef
        refine ⟨gh, F, env, _, _, R, ef, fun y H1 F1 R1 s1 r1 => ?_⟩
        split at e
        · rename_i ds h1
          split at e
          · rename_i hlen
            cases e
            obtain ⟨p', ep', hF1, ho1, upd1⟩ := R1.mine h1
            rw [ep] at ep'; cases ep'
            obtain ⟨xs, hx, rr⟩ := ho1.isLst
            refine ⟨p, xs, y, rfl, rfl, hx, by rw [rr.len]; exact hlen, ?_⟩
            exact q _ _ F1 (upd1 _ _ (.lst upd_same (rr.append (.one r1)))) s1 .non
          · cases e
        · cases e
def pop0 (i : Nat) : EF := fun env => match Fx.mine env i with
  | some (.list ds) => match ds[ds.length - 1]? with
    | some d => some (d, putM env i (.list ds.dropLast))
    | none => none
  | _ => none
theorem Reps.dropLast {K : PySem.W.Frag} {F : Hp} {xs : List V} {ds : List PV} (r : Reps K F xs ds) : Reps K F xs.dropLast ds.dropLast := by
  rw [List.dropLast_eq_take, List.dropLast_eq_take, r.len]
  exact r.take _
theorem fe_pop0 (i : Nat) {x : Str} {px apos cpos : Pos} (hN : X.N[i]? = some x := by rfl) (hv : Vis X.env.scope x := by first | exact Or.inl rfl | exact Or.inr (Or.inl rfl) | exact Or.inr (Or.inr rfl))
    (hd : (x == ("__debug__" : Str)) = false := by decide) (hcd : (x == ("__classdict__" : Str)) = false := by decide) (hbase : attributeBase (.Name x px) "pop" X.env (eval (.Name x px) X.env) = eval (.Name x px) X.env := by rfl)
    (hline : (apos.endLine == cpos.line) = true := by rfl) :
    FE T X (.Call (.Attribute (.Name x px) "pop" apos) [] [] cpos) (pop0 i) :=
  (pe_bm0 PySem.F.plainAttrs_list PySem.F.slot_list_pop PySem.F.type_list_pop mt_pop (pe_var hN hv hd hcd) hbase hline).weak fun σ H Q ⟨gh, F, env, d, env', R, e, q⟩ => by
    unfold pop0 at e
    split at e
    · rename_i ds h0
      split at e
      · rename_i d1 hd1
        cases e
        obtain ⟨p, ep, hF, ho, up⟩ := R.mine h0
        obtain ⟨xs, hx, rr⟩ := ho.isLst
        obtain ⟨v, hv1, rv⟩ := rr.get hd1
        refine ⟨.ref p, ep, .inl ⟨rfl, xs, .inl (.inl hx)⟩, p, xs, v, rfl, rfl, hx, by rw [rr.len]; exact hv1, ?_⟩
        exact q _ _ F (up _ _ (.lst upd_same rr.dropLast)) (Same.refl _) rv
      · cases e
    · cases e
def popAt (i : Nat) (f : EF) : EF := fun env => match isL env i with
  | false => none
  | true => match f env with
    | some (.int k, e) => match Fx.mine e i with
      | some (.list ds) => if -(2 ^ 63) ≤ k ∧ k < 2 ^ 63 then match seqIndex? k ds.length with
        | none => none
        | some j => match ds[j]? with
          | none => none
          | some d => some (d, putM e i (.list (ds.eraseIdx j)))
        else none
      | _ => none
    | _ => none
theorem Reps.eraseIdx {K : PySem.W.Frag} {F : Hp} : ∀ {xs : List V} {ds : List PV} (j : Nat), Reps K F xs ds → Reps K F (xs.eraseIdx j) (ds.eraseIdx j)
  | _, _, _, .nil => .nil
  | _, _, 0, .cons _ t => t
  | _, _, j + 1, .cons r t => .cons r (Reps.eraseIdx j t)
theorem fe_popAt (i : Nat) {x : Str} {px apos cpos : Pos} {a : Expr} {f : EF} (ha : FE T X a f) (hN : X.N[i]? = some x := by rfl) (hv : Vis X.env.scope x := by first | exact Or.inl rfl | exact Or.inr (Or.inl rfl) | exact Or.inr (Or.inr rfl))
    (hd : (x == ("__debug__" : Str)) = false := by decide) (hcd : (x == ("__classdict__" : Str)) = false := by decide) (hbase : attributeBase (.Name x px) "pop" X.env (eval (.Name x px) X.env) = eval (.Name x px) X.env := by rfl)
    (hfew : ((backTo cpos (starEach [a] X.env)).all (fun x => !x.1) && (backToKw cpos (keywordEach [] X.env)).all (fun x => x.1.isSome) && decide ([a].length + ([] : List Keyword).length + (if ([] : List Keyword).isEmpty then 0 else 1) < 30)) = true := by rfl)
    (hline : (apos.endLine == cpos.line) = true := by rfl) (hs : starEach [a] X.env = (false, eval a X.env) :: starEach [] X.env := by rfl) (hplain : (backTo cpos (starEach [] X.env)).any (·.1) = false := by rfl) :
    FE T X (.Call (.Attribute (.Name x px) "pop" apos) [a] [] cpos) (popAt i f) :=
  (pe_bm PySem.F.plainAttrs_list PySem.F.slot_list_pop PySem.F.type_list_pop mt_popAt (pe_var hN hv hd hcd) (pa_cons ha pa_nil hs) hbase hfew hline hs hplain).weak fun σ H Q ⟨gh, F, env, d, env', R, e, q⟩ => by
    unfold popAt at e
    split at e
    · cases e
    · rename_i hl
      obtain ⟨ds0, h0⟩ := isL_eq hl
      obtain ⟨p, ep, _, ho, _⟩ := R.mine h0
      obtain ⟨xs0, hx0, _⟩ := ho.isLst
      refine ⟨.ref p, ep, .inl ⟨rfl, xs0, .inl (.inl hx0)⟩, ?_⟩
      split at e
      · rename_i k e1 ef
        refine ⟨gh, F, env, _, _, R, ef, fun y H1 F1 R1 s1 r1 => ?_⟩
        split at e
        · rename_i ds h1
          split at e
          · rename_i hk
            split at e
            · cases e
            · rename_i j hj
              split at e
              · cases e
              · rename_i d1 hd1
                cases e
                obtain ⟨p', ep', hF1, ho1, upd1⟩ := R1.mine h1
                rw [ep] at ep'; cases ep'
                obtain ⟨xs, hx, rr⟩ := ho1.isLst
                obtain ⟨v, hv1, rv⟩ := rr.get hd1
                refine ⟨p, xs, k, j, v, rfl, by rw [r1.int_iff], hx, hk.1, hk.2, by rw [rr.len]; exact hj, hv1, ?_⟩
                exact q _ _ F1 (upd1 _ _ (.lst upd_same (rr.eraseIdx j))) s1 rv
          · cases e
        · cases e
      · cases e
/-- x.extend(e), e a new list of its own -/
def extend (i : Nat) (f : EF) : EF := fun env => match isL env i with
  | false => none
  | true => match f env with
    | some (.list zs, e) => match Fx.mine e i with
      | some (.list ds) => if ds.length + zs.length ≤ sizeLine then some (.none, putM e i (.list (ds ++ zs))) else none
      | _ => none
    | _ => none
theorem fe_extend (i : Nat) {x : Str} {px apos cpos : Pos} {a : Expr} {f : EF} (ha : FE T X a f) (hN : X.N[i]? = some x := by rfl) (hv : Vis X.env.scope x := by first | exact Or.inl rfl | exact Or.inr (Or.inl rfl) | exact Or.inr (Or.inr rfl))
    (hd : (x == ("__debug__" : Str)) = false := by decide) (hcd : (x == ("__classdict__" : Str)) = false := by decide) (hbase : attributeBase (.Name x px) "extend" X.env (eval (.Name x px) X.env) = eval (.Name x px) X.env := by rfl)
    (hfew : ((backTo cpos (starEach [a] X.env)).all (fun x => !x.1) && (backToKw cpos (keywordEach [] X.env)).all (fun x => x.1.isSome) && decide ([a].length + ([] : List Keyword).length + (if ([] : List Keyword).isEmpty then 0 else 1) < 30)) = true := by rfl)
    (hline : (apos.endLine == cpos.line) = true := by rfl) (hs : starEach [a] X.env = (false, eval a X.env) :: starEach [] X.env := by rfl) (hplain : (backTo cpos (starEach [] X.env)).any (·.1) = false := by rfl) :
    FE T X (.Call (.Attribute (.Name x px) "extend" apos) [a] [] cpos) (extend i f) :=
  (pe_bm PySem.F.plainAttrs_list PySem.F.slot_list_extend PySem.F.type_list_extend mt_extend (pe_var hN hv hd hcd) (pa_cons ha pa_nil hs) hbase hfew hline hs hplain).weak fun σ H Q ⟨gh, F, env, d, env', R, e, q⟩ => by
    unfold extend at e
    split at e
    · cases e
    · rename_i hl
      obtain ⟨ds0, h0⟩ := isL_eq hl
      obtain ⟨p, ep, _, ho, _⟩ := R.mine h0
      obtain ⟨xs0, hx0, _⟩ := ho.isLst
      refine ⟨.ref p, ep, .inl ⟨rfl, xs0, .inl (.inl hx0)⟩, ?_⟩
      split at e
      · rename_i zs e1 ef
        refine ⟨gh, F, env, _, _, R, ef, fun y H1 F1 R1 s1 r1 => ?_⟩
        split at e
        · rename_i ds h1
          split at e
          · rename_i hlen
            cases e
            obtain ⟨p', ep', hF1, ho1, upd1⟩ := R1.mine h1
            rw [ep] at ep'; cases ep'
            obtain ⟨xs, hx, rr⟩ := ho1.isLst
            cases r1 with
            | lst hb rb =>
              refine ⟨p, _, xs, _, rfl, rfl, hx, R1.sub _ _ hb, by rw [rr.len, rb.len]; exact hlen, ?_⟩
              exact q _ _ F1 (upd1 _ _ (.lst upd_same (rr.append rb))) s1 .non
          · cases e
        · cases e
      · cases e
def setIx (i : Nat) (fk fe : EF) : SF := fun env => match fe env with
  | none => none
  | some (d, e) => match isL e i with
    | false => none
    | true => match fk e with
      | some (.int k, e2) => match Fx.mine e2 i with
        | some (.list ds) => match ixN ds.length k with
          | none => none
          | some j => some (.nx (putM e2 i (.list (ds.set j d))))
        | _ => none
      | _ => none
theorem fs_setIx (i : Nat) {x : Str} {px tpos pos : Pos} {b a : Expr} {fk fe : EF} (hb : FE T X b fk) (ha : FE T X a fe) (hN : X.N[i]? = some x := by rfl) (hv : Vis X.env.scope x := by first | exact Or.inl rfl | exact Or.inr (Or.inl rfl) | exact Or.inr (Or.inr rfl))
    (hd : (x == ("__debug__" : Str)) = false := by decide) (hcd : (x == ("__classdict__" : Str)) = false := by decide)
    (has : ∀ v, assign (.Subscript (.Name x px) b tpos) X.env v = (do
      let ov ← holding [v] (eval (.Name x px) X.env)
      let iv ← holding [v, ov] (eval b X.env)
      standAt tpos
      holding [v, ov, iv] (setItem ov iv v)
      release [v, ov, iv] []) := by intro _; rfl) (hs : swapsWithSole [.Subscript (.Name x px) b tpos] a pos.line X.env = pure false := by rfl) (hw : swappedStores [.Subscript (.Name x px) b tpos] a X.env = pure none := by rfl)
    (h1 : (assignEach [.Subscript (.Name x px) b tpos] X.env).map (·.2) = [assign (.Subscript (.Name x px) b tpos) X.env] := by rfl) : FS T X (.Assign [.Subscript (.Name x px) b tpos] a pos) (setIx i fk fe) :=
  (ps_asg ha (pg_sub (pe_var hN hv hd hcd) hb set_list has) hs hw h1).weak fun D σ H ⟨gh, F, env, out, R, e, q⟩ => by
    unfold setIx at e
    split at e
    · cases e
    · rename_i d e1 ef
      refine ⟨gh, F, env, _, _, R, ef, fun v H1 F1 R1 s1 r1 => ?_⟩
      split at e
      · cases e
      · rename_i hl
        obtain ⟨ds0, h0⟩ := isL_eq hl
        obtain ⟨p, ep, _, ho, _⟩ := R1.mine h0
        refine ⟨.ref p, ep, ?_⟩
        split at e
        · rename_i k e2 ek
          refine ⟨gh, F1, _, _, _, R1, ek, fun y H2 F2 R2 s2 r2 => ?_⟩
          split at e
          · rename_i ds h2
            split at e
            · cases e
            · rename_i j hj
              cases e
              obtain ⟨p', ep', hF1, ho1, upd1⟩ := R2.mine h2
              rw [ep] at ep'; cases ep'
              obtain ⟨xs, hx, rr⟩ := ho1.isLst
              refine ⟨p, xs, k, j, rfl, r2.int_iff, hx, by rw [rr.len]; exact hj, ?_⟩
              exact q _ _ F2 (upd1 _ _ (.lst upd_same (Reps.set (r1.mono s2) j rr))) (s1.trans s2)
          · cases e
        · cases e
/-- xs[i] as a value, for op= -/
theorem get_list : PGet X (rIxL X.K) := by
  intro pins s σ H x y v u Q I rx ry h
  obtain ⟨p, xs, i, z, rfl, rfl, hq, he, q⟩ := h
  cases rx
  obtain ⟨t, rfl⟩ := ry
  obtain ⟨its, r, pl, hz⟩ := I.list hq
  obtain ⟨j, h1, h2, h3, h4, h5⟩ := atI_get he
  obtain ⟨w, ew, rw'⟩ := r.get h2
  have hl := r.length
  have hn := line63
  have fin : EP X pins σ Q w s := ⟨z, H, I, rw', q⟩
  by_cases h0 : 0 ≤ i
  · have hj : i.toNat = j := by
      rw [seqIndex_of h0 h5] at h1
      exact Option.some.inj h1
    exact wpAny_getItem_list (x := w) pl.isList h0 (by omega) (by rw [hj]; simpa using ew) fin
  · have hj : (i + (its.toArray.size : Int)).toNat = j := by
      rw [seqIndex_neg (by omega) h4] at h1
      rw [List.size_toArray, ← hl]
      exact Option.some.inj h1
    exact wpAny_getItem_list_neg (x := w) pl.isList (by omega) (by rw [List.size_toArray] <;> omega) (by omega) (by rw [hj]; simpa using ew) fin
def augIx (i : Nat) (g : PV → PV → Option PV) (fk fe : EF) : SF := fun env => match isL env i with
  | false => none
  | true => match fk env with
    | some (.int k, e1) => match Fx.mine e1 i with
      | some (.list ds) => match atI ds k with
        | none => none
        | some a => match fe e1 with
          | none => none
          | some (b, e2) => match g a b with
            | none => none
            | some d => match Fx.mine e2 i with
              | some (.list es) => match ixN es.length k with
                | none => none
                | some j => some (.nx (putM e2 i (.list (es.set j d))))
              | _ => none
      | _ => none
    | _ => none
theorem fs_augIx (i : Nat) {x : Str} {px tpos pos : Pos} {b a : Expr} {op : Operator} {r : R2} {g : PV → PV → Option PV} {fk fe : EF} (ho : OpR X (inplaceOp op) r) (hg : OpF T X.K r g) (hb : FE T X b fk) (ha : FE T X a fe) (hN : X.N[i]? = some x := by rfl) (hv : Vis X.env.scope x := by first | exact Or.inl rfl | exact Or.inr (Or.inl rfl) | exact Or.inr (Or.inr rfl))
    (hd : (x == ("__debug__" : Str)) = false := by decide) (hcd : (x == ("__classdict__" : Str)) = false := by decide)
    (has : ∀ ov iv new, augStore b ov iv new = (do holding [new, ov, iv] (setItem ov iv new); release [new, ov, iv] []; pure .next) := by intros; rfl) : FS T X (.AugAssign (.Subscript (.Name x px) b tpos) op a pos) (augIx i g fk fe) :=
  (ps_augS (pe_var hN hv hd hcd) hb get_list ha (show PIp X op r from ho) set_list has).weak fun D σ H ⟨gh, F, env, out, R, e, q⟩ => by
    unfold augIx at e
    split at e
    · cases e
    · rename_i hl
      obtain ⟨ds0, h0⟩ := isL_eq hl
      obtain ⟨p, ep, _, _, _⟩ := R.mine h0
      refine ⟨.ref p, ep, ?_⟩
      split at e
      · rename_i k e1 ek
        refine ⟨gh, F, env, _, _, R, ek, fun y H1 F1 R1 s1 r1 => ?_⟩
        split at e
        · rename_i ds h1
          split at e
          · cases e
          · rename_i a0 ha0
            obtain ⟨p', ep', _, ho1, _⟩ := R1.mine h1
            rw [ep] at ep'; cases ep'
            obtain ⟨xs, hx, rr⟩ := ho1.isLst
            obtain ⟨v, hv1, rv⟩ := rr.atI ha0
            refine ⟨p, xs, k, v, rfl, r1.int_iff, .inl (.inl hx), hv1, ?_⟩
            split at e
            · cases e
            · rename_i b0 e2 eb
              refine ⟨gh, F1, _, _, _, R1, eb, fun w H2 F2 R2 s2 r2 => ?_⟩
              split at e
              · cases e
              · rename_i d eg
                split at e
                · rename_i es h2
                  split at e
                  · cases e
                  · rename_i j hj
                    cases e
                    refine hg gh F2 H2 σ _ v w a0 b0 d _ R2 (rv.mono s2) r2 eg fun z H3 F3 R3 s3 r3 => ?_
                    obtain ⟨p', ep', _, ho2, upd2⟩ := R3.mine h2
                    rw [ep] at ep'; cases ep'
                    obtain ⟨ys, hy, rr2⟩ := ho2.isLst
                    refine ⟨p, ys, k, j, rfl, r1.int_iff, hy, by rw [rr2.len]; exact hj, ?_⟩
                    exact q _ _ F3 (upd2 _ _ (.lst upd_same (Reps.set r3 j rr2))) (s1.trans (s2.trans s3))
                · cases e
        · cases e
      · cases e

/-- the items of a list, a tuple, the signs of a text -/
def items : PV → Option (List PV)
  | .list xs => some xs
  | .tuple xs => some xs
  | .str z => some (z.cps.toList.map fun c => .str ⟨#[c]⟩)
  | _ => none
def wSeq (f : EF) : AF := fun env => match f env with
  | none => none
  | some (d, e) => match items d with
    | none => none
    | some ds => some (ds, e)
def iSeq (K : PySem.W.Frag) (te : TE) : TI := fun σ H R => te σ H fun x H1 => (∃ a xs, x = .ref a ∧ SqL K H1 a xs ∧ R (Itl K a) H1) ∨ (∃ a xs, x = .ref a ∧ SqT K H1 a xs ∧ R (Itt K a) H1) ∨ ∃ z, x = .str z ∧ R (Its z) H1
theorem pi_seq {tg l : Expr} {te : TE} (hl : PE X l te) : PI X tg l (iSeq X.K te) := by
  refine ⟨fun pins s σ H R I h => ?_⟩
  refine thn (hl.run pins s σ H _ I h) fun v s1 ⟨x, H1, I1, r1, q1⟩ => ?_
  rcases q1 with ⟨a, xs, e, hq, q⟩ | ⟨a, xs, e, hq, q⟩ | ⟨z, e, q⟩
  · subst e
    cases r1
    obtain ⟨its, rv, p, hz⟩ := I1.list hq
    refine wpAny_pyIter_list p.isList ?_
    refine ⟨s1.heap.objs.size, [s1.heap.objs.size], _, _, H1, rfl, I1.kept (t' := s1.toks) fun b o e => Heap.get?_push_of_some _ e, turn_list a _, ⟨_, Heap.get?_push_size _ rfl, rfl, rfl⟩, fun b hb => ?_, q⟩
    have e : b = s1.heap.objs.size := by simpa using hb
    subst e
    exact I1.fpOk (Nat.le_refl _) (I1.hok.fresh (Nat.le_refl _))
  · subst e
    cases r1
    obtain ⟨its, rv, p, hz⟩ := I1.tuple hq
    refine wpAny_pyIter_tuple (show s1.heap.IsTuple a its.toArray from p) ?_
    refine ⟨s1.heap.objs.size, [s1.heap.objs.size], _, _, H1, rfl, I1.kept (t' := s1.toks) fun b o e => Heap.get?_push_of_some _ e, turn_tuple a _, ⟨_, Heap.get?_push_size _ rfl, rfl, rfl⟩, fun b hb => ?_, q⟩
    have e : b = s1.heap.objs.size := by simpa using hb
    subst e
    exact I1.fpOk (Nat.le_refl _) (I1.hok.fresh (Nat.le_refl _))
  · subst e
    obtain ⟨t, rfl⟩ := r1
    cases ha : z.cps.all (· < 128)
    · exact wpAny_pyIter_wide ha (pi_one (tk := s1.toks) I1 _ (turn_str _ z t "str_iterator" (.inr rfl)) ⟨_, Heap.get?_push_size _ rfl, rfl, rfl⟩ q)
    · exact wpAny_pyIter_ascii ha (pi_one (tk := s1.toks) I1 _ (turn_str _ z t "str_ascii_iterator" (.inl rfl)) ⟨_, Heap.get?_push_size _ rfl, rfl, rfl⟩ q)
theorem yields_lst {K : PySem.W.Frag} {F : Hp} {a : Addr} {xs : List V} {ds : List PV} (h : F a = some (.lst xs)) (r : Reps K F xs ds) : Yields T K (Itl K a) ds F := fun g i F' H σ env R s => by
  have hH : SqL K H a xs := .inl (.inl (R.sub _ _ (s _ _ h)))
  refine ⟨fun d hd => ?_, fun hn => ?_⟩
  · obtain ⟨v, hv, rv⟩ := r.get hd
    refine ⟨⟨xs, v, hH, hv⟩, fun x H' hy => ?_⟩
    obtain ⟨rfl, hy⟩ := hy
    have := hy xs hH
    rw [hv] at this; cases this
    exact ⟨F', R, Same.refl _, rv.mono s⟩
  · exact ⟨xs, hH, by rw [r.len]; exact List.getElem?_eq_none_iff.mp hn⟩
theorem SqT.uniq {K : PySem.W.Frag} {F : Hp} {a : Addr} {xs ys : List V} (h : SqT K F a xs) (h' : SqT K F a ys) : (F a = none → True) := fun _ => trivial
theorem yields_tup {K : PySem.W.Frag} {F : Hp} {a : Addr} {xs : List V} {ds : List PV} (h : SqT K F a xs) (r : Reps K F xs ds) : Yields T K (Itt K a) ds F := fun g i F' H σ env R s => by
  have hH : SqT K H a xs := SqT.mono R.sub (SqT.mono s h)
  refine ⟨fun d hd => ?_, fun hn => ?_⟩
  · obtain ⟨v, hv, rv⟩ := r.get hd
    refine ⟨⟨xs, v, hH, hv⟩, fun x H' hy => ?_⟩
    obtain ⟨rfl, hy⟩ := hy
    have := hy xs hH
    rw [hv] at this; cases this
    exact ⟨F', R, Same.refl _, rv.mono s⟩
  · exact ⟨xs, hH, by rw [r.len]; exact List.getElem?_eq_none_iff.mp hn⟩
theorem yields_str {K : PySem.W.Frag} {F : Hp} {z : Str} : Yields T K (Its z) (z.cps.toList.map fun c => .str ⟨#[c]⟩) F := fun g i F' H σ env R s => by
  refine ⟨fun d hd => ?_, fun hn => ?_⟩
  · rw [List.getElem?_map] at hd
    cases hc : z.cps.toList[i]? with
    | none => rw [hc] at hd; cases hd
    | some c =>
      rw [hc] at hd
      cases hd
      have hi : i < z.cps.size := by
        have := (List.getElem?_eq_some_iff.mp hc).1
        simpa using this
      refine ⟨hi, fun x H' hy => ?_⟩
      obtain ⟨rfl, c', hc', rfl⟩ := hy
      rw [Array.getElem?_toList] at hc
      rw [hc] at hc'; cases hc'
      exact ⟨F', R, Same.refl _, .str _⟩
  · rw [List.getElem?_map] at hn
    cases hc : z.cps.toList[i]? with
    | none =>
      have := List.getElem?_eq_none_iff.mp hc
      show z.cps.size ≤ i
      simpa using this
    | some c => rw [hc] at hn; cases hn
theorem fi_seq {tg e : Expr} {f : EF} (h : FE T X e f) : FI T X tg e (wSeq f) :=
  (pi_seq h).weak fun σ H Q ⟨gh, F, env, ds, env', R, e, q⟩ => by
    unfold wSeq at e
    split at e
    · cases e
    · rename_i d e1 ef
      split at e
      · cases e
      · rename_i ds' ei
        cases e
        refine ⟨gh, F, env, _, _, R, ef, fun v H1 F1 R1 s1 r1 => ?_⟩
        unfold items at ei
        split at ei
        · cases ei
          cases r1 with
          | lst h rr => exact .inl ⟨_, _, rfl, .inl (.inl (R1.sub _ _ h)), q _ _ _ R1 s1 (yields_lst h rr)⟩
        · cases ei
          cases r1 with
          | tup h rr => exact .inr (.inl ⟨_, _, rfl, SqT.mono R1.sub (sqT h), q _ _ _ R1 s1 (yields_tup (sqT h) rr)⟩)
        · cases ei
          have := r1.str_iff
          subst this
          exact .inr (.inr ⟨_, rfl, q _ _ _ R1 s1 yields_str⟩)
        · cases ei
/-- range -/
def rngL (lo : Int) : Nat → List PV
  | 0 => []
  | n + 1 => .int lo :: rngL (lo + 1) n
theorem rngL_get : ∀ (n : Nat) (lo : Int) (i : Nat), (rngL lo n)[i]? = if i < n then some (.int (lo + i)) else none
  | 0, lo, i => by simp [rngL]
  | n + 1, lo, 0 => by simp [rngL]
  | n + 1, lo, i + 1 => by
    show (rngL (lo + 1) n)[i]? = _
    rw [rngL_get n (lo + 1) i]
    by_cases h : i < n
    · rw [if_pos h, if_pos (by omega)]
      congr 2
      omega
    · rw [if_neg h, if_neg (by omega)]
theorem yields_rng {K : PySem.W.Frag} {F : Hp} {lo : Int} {n : Nat} : Yields T K (Itr lo n) (rngL lo n) F := fun g i F' H σ env R s => by
  rw [rngL_get]
  by_cases h : i < n
  · rw [if_pos h]
    refine ⟨fun d hd => ?_, fun hn => by cases hn⟩
    cases hd
    refine ⟨h, fun x H' hy => ?_⟩
    obtain ⟨rfl, rfl⟩ := hy
    exact ⟨F', R, Same.refl _, .int _⟩
  · rw [if_neg h]
    exact ⟨fun d hd => (by cases hd), fun _ => (by show n ≤ i; omega)⟩
def wRng1 (f : EF) : AF := fun env => match f env with
  | some (.int j, e) => if -(2 ^ 62) ≤ j ∧ j < 2 ^ 62 then some (rngL 0 j.toNat, e) else none
  | _ => none
def wRng2 (f h : EF) : AF := fun env => match f env with
  | some (.int i, e) => match h e with
    | some (.int j, e2) => if -(2 ^ 62) ≤ i ∧ i < 2 ^ 62 ∧ -(2 ^ 62) ≤ j ∧ j < 2 ^ 62 then some (rngL i (j - i).toNat, e2) else none
    | _ => none
  | _ => none
theorem fi_rng1 {tg a : Expr} {p pos : Pos} {f : EF} (hg : Gl X "range") (hm : X.mg "range" = none) (ha : FE T X a f) (hs : starEach [a] X.env = [(false, eval a X.env)] := by rfl) : FI T X tg (.Call (.Name "range" p) [a] [] pos) (wRng1 f) :=
  (pi_range1 hg hm (pa_cons ha pa_nil hs) hs).weak fun σ H Q ⟨gh, F, env, ds, env', R, e, q⟩ => by
    unfold wRng1 at e
    split at e
    · rename_i j e1 ef
      split at e
      · rename_i hj
        cases e
        refine ⟨gh, F, env, _, _, R, ef, fun v H1 F1 R1 s1 r1 => ⟨j, by rw [r1.int_iff], hj.1, hj.2, q _ _ _ R1 s1 yields_rng⟩⟩
      · cases e
    · cases e
theorem fi_rng2 {tg a b : Expr} {p pos : Pos} {f h : EF} (hg : Gl X "range") (hm : X.mg "range" = none) (ha : FE T X a f) (hb : FE T X b h) (hs : starEach [a, b] X.env = [(false, eval a X.env), (false, eval b X.env)] := by rfl) (hs2 : starEach [b] X.env = [(false, eval b X.env)] := by rfl) : FI T X tg (.Call (.Name "range" p) [a, b] [] pos) (wRng2 f h) :=
  (pi_range2 hg hm (pa_cons ha (pa_cons hb pa_nil hs2) (by rw [hs, hs2])) hs hs2).weak fun σ H Q ⟨gh, F, env, ds, env', R, e, q⟩ => by
    unfold wRng2 at e
    split at e
    · rename_i i e1 ef
      split at e
      · rename_i j e2 eh
        split at e
        · rename_i hj
          cases e
          refine ⟨gh, F, env, _, _, R, ef, fun v H1 F1 R1 s1 r1 => ⟨gh, F1, _, _, _, R1, eh, fun w H2 F2 R2 s2 r2 => ⟨i, j, by rw [r1.int_iff, r2.int_iff], hj, q _ _ _ R2 (s1.trans s2) yields_rng⟩⟩⟩
        · cases e
      · cases e
    · cases e
/-- reversed(list) -/
def wRev (f : EF) : AF := fun env => match f env with
  | some (.list xs, e) => some (xs.reverse, e)
  | _ => none
theorem yields_rev {K : PySem.W.Frag} {F : Hp} {a : Addr} {xs : List V} {ds : List PV} (h : F a = some (.lst xs)) (r : Reps K F xs ds) : Yields T K (Itv K a xs.length) ds.reverse F := fun g i F' H σ env R s => by
  have hH : SqL K H a xs := .inl (.inl (R.sub _ _ (s _ _ h)))
  have hl := r.len
  by_cases hi : i < ds.length
  · have e1 : ds.reverse[i]? = ds[ds.length - 1 - i]? := List.getElem?_reverse hi
    rw [e1]
    refine ⟨fun d hd => ?_, fun hn => ?_⟩
    · obtain ⟨v, hv, rv⟩ := r.get hd
      rw [← hl] at hv
      refine ⟨⟨by omega, xs, v, hH, hv⟩, fun x H' hy => ?_⟩
      obtain ⟨rfl, hy⟩ := hy
      have := hy xs hH
      rw [hv] at this; cases this
      exact ⟨F', R, Same.refl _, rv.mono s⟩
    · have := List.getElem?_eq_none_iff.mp hn
      omega
  · have e1 : ds.reverse[i]? = none := List.getElem?_eq_none_iff.mpr (by rw [List.length_reverse]; omega)
    rw [e1]
    exact ⟨fun d hd => (by cases hd), fun _ => (by show xs.length ≤ i; omega)⟩
theorem fi_rev {tg a : Expr} {p pos : Pos} {f : EF} (hg : Gl X "reversed") (hm : X.mg "reversed" = none) (ha : FE T X a f) (hs : starEach [a] X.env = [(false, eval a X.env)] := by rfl) : FI T X tg (.Call (.Name "reversed" p) [a] [] pos) (wRev f) :=
  (pi_reversed hg hm (pa_cons ha pa_nil hs) hs).weak fun σ H Q ⟨gh, F, env, ds, env', R, e, q⟩ => by
    unfold wRev at e
    split at e
    · rename_i xs e1 ef
      cases e
      refine ⟨gh, F, env, _, _, R, ef, fun v H1 F1 R1 s1 r1 => ?_⟩
      cases r1 with
      | lst h rr => exact ⟨_, _, rfl, .inl (.inl (R1.sub _ _ h)), q _ _ _ R1 s1 (yields_rev h rr)⟩
    · cases e
/-- enumerate(list) -/
def enumL (i : Int) : List PV → List PV
  | [] => []
  | d :: r => .tuple [.int i, d] :: enumL (i + 1) r
theorem enumL_get : ∀ (ds : List PV) (k : Int) (i : Nat), (enumL k ds)[i]? = ds[i]?.map fun d => .tuple [.int (k + i), d]
  | [], k, i => by simp [enumL]
  | d :: r, k, 0 => by simp [enumL]
  | d :: r, k, i + 1 => by
    show (enumL (k + 1) r)[i]? = _
    rw [enumL_get r (k + 1) i]
    simp only [List.getElem?_cons_succ]
    cases r[i]? with
    | none => rfl
    | some x =>
      simp only [Option.map_some, Option.some.injEq, PyData.tuple.injEq, List.cons.injEq, PyData.int.injEq, and_true]
      omega
def wEnum (f : EF) : AF := fun env => match f env with
  | some (.list xs, e) => some (enumL 0 xs, e)
  | _ => none
theorem yields_enum {K : PySem.W.Frag} {F : Hp} {a : Addr} {xs : List V} {ds : List PV} (h : F a = some (.lst xs)) (r : Reps K F xs ds) : Yields T K (Ite K a) (enumL 0 ds) F := fun g i F' H σ env R s => by
  have hH : SqL K H a xs := .inl (.inl (R.sub _ _ (s _ _ h)))
  rw [enumL_get]
  refine ⟨fun d hd => ?_, fun hn => ?_⟩
  · cases hx : ds[i]? with
    | none => rw [hx] at hd; cases hd
    | some d0 =>
      rw [hx] at hd
      cases hd
      obtain ⟨v, hv, rv⟩ := r.get hx
      refine ⟨⟨xs, v, hH, hv⟩, fun x H' hy => ?_⟩
      obtain ⟨t, y, rfl, hT, rfl, hy⟩ := hy
      have := hy xs hH
      rw [hv] at this; cases this
      obtain ⟨R2, s2⟩ := R.laidF (o := .tup [.int (i : Nat), v]) hT
      refine ⟨_, R2, s2, .tup (.inl upd_same) (.cons ?_ (.cons (rv.mono (s.trans s2)) .nil))⟩
      rw [Int.zero_add]
      exact .int _
  · cases hx : ds[i]? with
    | none => exact ⟨xs, hH, by rw [r.len]; exact List.getElem?_eq_none_iff.mp hx⟩
    | some d0 => rw [hx] at hn; cases hn
theorem fi_enum {a : Expr} {elts : List Expr} {kk : Nat} {tpos p pos : Pos} {f : EF} (hg : Gl X "enumerate") (hm : X.mg "enumerate" = none) (ha : FE T X a f) (hs : starEach [a] X.env = [(false, eval a X.env)] := by rfl) : FI T X (.Tuple elts kk tpos) (.Call (.Name "enumerate" p) [a] [] pos) (wEnum f) :=
  (pi_enum hg hm (pa_cons ha pa_nil hs) hs).weak fun σ H Q ⟨gh, F, env, ds, env', R, e, q⟩ => by
    unfold wEnum at e
    split at e
    · rename_i xs e1 ef
      cases e
      refine ⟨gh, F, env, _, _, R, ef, fun v H1 F1 R1 s1 r1 => ?_⟩
      cases r1 with
      | lst h rr => exact ⟨_, _, rfl, .inl (.inl (R1.sub _ _ h)), q _ _ _ R1 s1 (yields_enum h rr)⟩
    · cases e

def wipeE (env : Ev) : List Nat → Ev
  | [] => env
  | i :: r => (wipeE env r).set i .no
/-- the block's turns: what is made so far, the items left -/
def coF (vs : List Nat) (bi : BF) (t : TF) (f : EF) : List PV → List PV → Ev → Option (List PV × Ev)
  | [], acc, env => some (acc, env)
  | d :: ds, acc, env => match bi d env with
    | none => none
    | some e => match t e with
      | none => none
      | some (false, e2) => coF vs bi t f ds acc (wipeE e2 vs)
      | some (true, e2) => match f e2 with
        | none => none
        | some (r, e3) => if acc.length < sizeLine then coF vs bi t f ds (acc ++ [r]) (wipeE e3 vs) else none
def eLc (vs : List Nat) (w : AF) (bi : BF) (t : TF) (f : EF) : EF := fun env => match w env with
  | none => none
  | some (ds, e) => if vs.all (fun i => match e[i]? with | some (.io _) => false | _ => true) then match coF vs bi t f ds [] (wipeE e vs) with
      | none => none
      | some (acc, e2) => some (.list acc, wipeE e2 vs)
    else none
end
end Fx

namespace Fx
open PySem PySem.Spec L2
open PyProof.Rows hiding St

section
variable {T : List Addr} {K : PySem.W.Frag} {g : Gh} {F H : Hp} {σ : St} {env : Ev}
theorem wipeE_get : ∀ {vs : List Nat} {j : Nat}, (wipeE env vs)[j]? = if j ∈ vs ∧ j < env.length then some .no else env[j]?
  | [], j => by simp [wipeE]
  | v :: vs, j => by
    unfold wipeE
    have hlen : ∀ ws : List Nat, (wipeE env ws).length = env.length := fun ws => by
      induction ws with
      | nil => rfl
      | cons w ws ih => unfold wipeE; rw [List.length_set, ih]
    by_cases h : v = j
    · subst h
      by_cases hl : v < env.length
      · rw [List.getElem?_set_self (by rw [hlen]; exact hl), if_pos ⟨List.mem_cons_self, hl⟩]
      · rw [List.getElem?_eq_none (by rw [List.length_set, hlen]; omega), if_neg (fun z => hl z.2), List.getElem?_eq_none (by omega)]
    · rw [List.getElem?_set_ne h, wipeE_get]
      have : (j ∈ v :: vs) ↔ j ∈ vs := by
        rw [List.mem_cons]
        exact ⟨fun z => z.resolve_left (fun z => h z.symm), .inr⟩
      simp only [this]
theorem wipeE_len : ∀ ws : List Nat, (wipeE env ws).length = env.length := fun ws => by
  induction ws with
  | nil => rfl
  | cons w ws ih => unfold wipeE; rw [List.length_set, ih]
theorem wipeE_some {vs : List Nat} {j : Nat} {s : Sl} (h : (wipeE env vs)[j]? = some s) (n : s ≠ .no) : env[j]? = some s ∧ (j ∉ vs) := by
  rw [wipeE_get] at h
  split at h
  · cases h; exact absurd rfl n
  · rename_i hn
    refine ⟨h, fun hj => hn ⟨hj, ?_⟩⟩
    exact (List.getElem?_eq_some_iff.mp h).1
theorem wipeE_owns {vs : List Nat} {j : Nat} (h : owns (wipeE env vs) j) : owns env j ∧ j ∉ vs := by
  obtain ⟨d, h | h⟩ := h
  · obtain ⟨h1, h2⟩ := wipeE_some h (fun z => nomatch z)
    exact ⟨⟨d, .inl h1⟩, h2⟩
  · obtain ⟨h1, h2⟩ := wipeE_some h (fun z => nomatch z)
    exact ⟨⟨d, .inr h1⟩, h2⟩
theorem wipe_out {vs : List Nat} {j : Nat} (h : j ∉ vs) : (wipe σ vs)[j]? = σ[j]? := by
  rw [wipe_get, if_neg (fun z => h z.1)]
/-- the slots vs are forgotten: only what stands at the others matters -/
theorem Rel.swap {σ' : St} {vs : List Nat} (R : Rel T K g F H σ env) (nio : ∀ i ∈ vs, ∀ a, (i, a) ∉ g.io) (hl : σ'.length = σ.length) (hs : ∀ j, j ∉ vs → σ'[j]? = σ[j]?) : Rel T K g F H σ' (wipeE env vs) := by
  have own' : ∀ {j : Nat}, owns (wipeE env vs) j → owns env j ∧ σ'[j]? = σ[j]? := fun {j} h => ⟨(wipeE_owns h).1, hs j (wipeE_owns h).2⟩
  refine ⟨by rw [wipeE_len, hl]; exact R.len, R.sub, R.f0, R.new, R.keep, R.tab, R.nt, fun i d e => ?_, fun i d e => ?_, fun i d e => ?_, fun i a e => ?_, fun a o e => ?_, fun i j a q1 q2 e1 e2 => ?_⟩
  · obtain ⟨h1, h2⟩ := wipeE_some e (fun z => nomatch z)
    rw [hs i h2]
    exact R.va i d h1
  · obtain ⟨h1, h2⟩ := wipeE_some e (fun z => nomatch z)
    rw [hs i h2]
    exact R.ow i d h1
  · obtain ⟨h1, h2⟩ := wipeE_some e (fun z => nomatch z)
    rw [hs i h2]
    exact R.io i d h1
  · have hi : i ∉ vs := fun z => nio i z a e
    obtain ⟨h1, d, h2⟩ := R.iok i a e
    exact ⟨by rw [hs i hi]; exact h1, d, by rw [wipeE_get, if_neg (fun z => hi z.1)]; exact h2⟩
  · obtain ⟨t1, t2, t3, t4⟩ := R.tm a o e
    refine ⟨t1, t2, t3, fun i hi => ?_⟩
    rw [(own' hi).2]
    exact t4 i (own' hi).1
  · rw [(own' q1).2] at e1
    rw [(own' q2).2] at e2
    exact R.sep i j a (own' q1).1 (own' q2).1 e1 e2
theorem Rel.wipe {vs : List Nat} (R : Rel T K g F H σ env) (nio : ∀ i ∈ vs, ∀ a, (i, a) ∉ g.io) : Rel T K g F H (L2.wipe σ vs) (wipeE env vs) := R.swap nio (wipe_length _ _) fun j hj => wipe_out hj
/-- an object in the making is pinned -/
def Gh.pin (g : Gh) (a : Addr) (o : HO) : Gh := { g with tmp := (a, o) :: g.tmp }
theorem Rel.pin (R : Rel T K g F H σ env) {a : Addr} {o : HO} (h : H a = some o) (hF : F a = none) (n : Mut o) (al : Alone g env σ a) : Rel T K (g.pin a o) F H σ env :=
  ⟨R.len, R.sub, R.f0, R.new, R.keep, R.tab, R.nt, R.va, R.ow, R.io, R.iok, fun b o' e => by
    rcases List.mem_cons.mp e with z | z
    · cases z; exact ⟨h, hF, n, al.1⟩
    · exact R.tm b o' z, R.sep⟩
theorem Rel.unpin {a : Addr} {o : HO} (R : Rel T K (g.pin a o) F H σ env) (no : ∀ o', (a, o') ∉ g.tmp) : Rel T K g F H σ env ∧ H a = some o ∧ F a = none ∧ Alone g env σ a := by
  obtain ⟨t1, t2, t3, t4⟩ := R.tm a o List.mem_cons_self
  exact ⟨⟨R.len, R.sub, R.f0, R.new, R.keep, R.tab, R.nt, R.va, R.ow, R.io, R.iok, fun b o' e => R.tm b o' (List.mem_cons_of_mem _ e), R.sep⟩, t1, t2, t4, no⟩
/-- the object in the making grows -/
theorem Rel.grow (R : Rel T K g F H σ env) {a : Addr} {o o' : HO} (h0 : g.H0 a = none) (h : H a = some o) (n : ∀ ps, o ≠ .tbl ps) (hF : F a = none) (al : Alone g env σ a) : Rel T K g F (upd H a o') σ env := by
  have ne : ∀ {i : Nat} {b : Addr}, owns env i → σ[i]? = some (some (.ref b)) → b ≠ a := fun {i b} ow e z => al.1 i ow (by rw [e, z])
  refine ⟨R.len, fun b o2 e => ?_, R.f0, R.new, fun b o2 e n1 n2 => ?_, fun P hP => ?_, R.nt, R.va, fun i d e => ?_, fun i d e => ?_, R.iok, fun b o2 e => ?_, R.sep⟩
  · rw [upd_ne (fun (z : b = a) => by rw [z, hF] at e; cases e)]
    exact R.sub b o2 e
  · rw [upd_ne (fun (z : b = a) => by rw [z, h0] at e; cases e)]
    exact R.keep b o2 e n1 n2
  · obtain ⟨ps, e, t⟩ := R.tab P hP
    rw [show GxR.TabG (upd H a o') P ↔ GxR.TabG H P from ?_]
    · exact ⟨ps, e, t⟩
    · unfold GxR.TabG
      rw [upd_ne (fun (z : P = a) => by rw [z, h] at e; cases e; exact n ps rfl)]
  · obtain ⟨b, e1, e2, e3, ho⟩ := R.ow i d e
    exact ⟨b, e1, e2, e3, ho.mono (Same.refl _) (upd_ne (ne ⟨d, .inl e⟩ e1))⟩
  · obtain ⟨b, e0, e1, e2, ho⟩ := R.io i d e
    exact ⟨b, e0, e1, e2, ho.mono (Same.refl _) (upd_ne (ne ⟨d, .inr e⟩ e1))⟩
  · obtain ⟨t1, t2, t3, t4⟩ := R.tm b o2 e
    exact ⟨by rw [upd_ne (fun (z : b = a) => al.2 o2 (by rw [← z]; exact e))]; exact t1, t2, t3, t4⟩
end

section
variable {T : List Addr} {X : Cx}
def RTs (T : List Addr) (K : PySem.W.Frag) (f : TF) : TT := RT T K f
def FTs (T : List Addr) (X : Cx) (es : List Expr) (f : TF) : Prop := PTs X es (RT T X.K f)
def tYs : TF := fun env => some (true, env)
theorem fts_nil : FTs T X [] tYs := ⟨fun pins s σ H Q I h => pts_nil.run pins s σ H Q I (by
  obtain ⟨gh, F, env, b, env', R, e, q⟩ := h
  cases e
  exact q H F R (Same.refl _))⟩
theorem fts_one {c : Expr} {f : TF} (h : FT T X c f) : FTs T X [c] f := pts_one h

theorem rn_lc {K : PySem.W.Frag} {vs ts : List Nat} {w : AF} {bi : BF} {t : TF} {f : EF} (hts : ∀ i ∈ ts, i ∈ vs) : ∀ σ H Q, RN T K (eLc vs w bi t f) σ H Q → tLc (RI T K w) (RB T K ts bi) (RT T K t) (RE T K f) vs σ H Q := by
  rintro σ H Q ⟨gh, F, env, d, env', R, e, q⟩
  unfold eLc at e
  split at e
  · cases e
  · rename_i ds e1 ew
    split at e
    · rename_i hio
      split at e
      · cases e
      · rename_i acc e2 ec
        cases e
        refine ⟨gh, F, env, _, _, R, ew, fun J H1 F1 R1 s1 Y D hD => ?_⟩
        have nio : ∀ i ∈ vs, ∀ a, (i, a) ∉ gh.io := fun i hi a z => by
          obtain ⟨_, d, hd⟩ := R1.iok i a z
          have := List.all_eq_true.mp hio i hi
          rw [hd] at this
          cases this
        obtain ⟨hD0, hDT, hDF⟩ := R1.fresh hD
        have hal := R1.own_ne hD
        have R1' : Rel T K gh F1 (upd H1 D (.lst [])) (L2.wipe σ vs) (wipeE e1 vs) := (R1.laid hD).wipe nio
        have al0 : ∀ {env' : Ev} {σ' : St}, Alone gh env' σ' D → ∀ o, (D, o) ∉ gh.tmp := fun a => a.2
        have alD : Alone gh (wipeE e1 vs) (L2.wipe σ vs) D := ⟨fun i hi => by
          rw [wipe_out (wipeE_owns hi).2]
          exact hal.1 i (wipeE_owns hi).1, hal.2⟩
        -- the invariant
        refine ⟨fun i m H => m = ds.length - i ∧ ∃ F' env' acc' xs, Rel T K gh F' H (L2.wipe σ vs) env' ∧ Same F1 F' ∧ H D = some (.lst xs) ∧ F' D = none ∧ Alone gh env' (L2.wipe σ vs) D ∧ Reps K F' xs acc' ∧ coF vs bi t f (ds.drop i) acc' env' = some (acc, e2),
          ⟨_, rfl, F1, _, [], [], R1', Same.refl _, upd_same, hDF, alD, .nil, by simpa using ec⟩, ?_⟩
        rintro i m H2 ⟨rfl, F2, env2, acc2, xs, R2, s2, hx, hF2, al2, rr, e'⟩
        have R2p : Rel T K (gh.pin D (.lst xs)) F2 H2 (L2.wipe σ vs) env2 := R2.pin hx hF2 trivial al2
        obtain ⟨yi, yn⟩ := Y (gh.pin D (.lst xs)) i F2 H2 _ env2 R2p s2
        cases hd : ds[i]? with
        | none =>
          have hl : ds.length ≤ i := List.getElem?_eq_none_iff.mp hd
          rw [List.drop_of_length_le hl] at e'
          injection e' with e'
          injection e' with ea eb
          subst ea; subst eb
          refine .inl ⟨yn hd, ?_⟩
          have R3 : Rel T K gh F2 H2 σ (wipeE env2 vs) := R2.swap (σ' := σ) nio (wipe_length _ _).symm fun j hj => (wipe_out hj).symm
          refine q D H2 F2 R3 (s1.trans s2) hF2 hD0 ⟨fun j hj => ?_, al2.2⟩ (.lst hx rr)
          have h1 := al2.1 j (wipeE_owns hj).1
          rw [wipe_out (wipeE_owns hj).2] at h1
          exact h1
        | some d =>
          obtain ⟨hgo, hy⟩ := yi d hd
          have hl : i < ds.length := (List.getElem?_eq_some_iff.mp hd).1
          have ed : ds.drop i = d :: ds.drop (i + 1) := by
            rw [List.drop_eq_getElem_cons hl]
            rw [List.getElem?_eq_getElem hl] at hd
            cases hd; rfl
          rw [ed] at e'
          unfold coF at e'
          refine .inr ⟨hgo, fun H' => ∃ F' env' acc' xs, Rel T K gh F' H' (L2.wipe σ vs) env' ∧ Same F1 F' ∧ H' D = some (.lst xs) ∧ F' D = none ∧ Alone gh env' (L2.wipe σ vs) D ∧ Reps K F' xs acc' ∧ coF vs bi t f (ds.drop (i + 1)) acc' env' = some (acc, e2),
            fun H' h => ⟨ds.length - (i + 1), by omega, rfl, h⟩, fun x H' hx' => ?_⟩
          obtain ⟨F3, R3, s3, rx⟩ := hy x H' hx'
          split at e'
          · cases e'
          · rename_i e3 eb
            refine ⟨gh.pin D (.lst xs), F3, env2, d, e3, R3, rx, eb, fun σ4 H4 F4 R4 s4 w4 => ?_⟩
            have ew4 := w4 vs hts
            rw [show L2.wipe (L2.wipe σ vs) vs = L2.wipe σ vs from by
              apply List.ext_getElem?
              intro j
              rw [wipe_get, wipe_get, wipe_length]
              split <;> rfl] at ew4
            refine ⟨ew4, ?_⟩
            split at e'
            · cases e'
            · rename_i e4 et
              refine ⟨gh.pin D (.lst xs), F4, e3, _, _, R4, et, fun H5 F5 R5 s5 => iteF ?_⟩
              obtain ⟨R6, hD6, hF6, al6⟩ := R5.unpin al2.2
              have R7 := R6.wipe nio
              rw [ew4] at R7
              refine ⟨F5, _, acc2, xs, R7, s2.trans (s3.trans (s4.trans s5)), hD6, hF6, ⟨fun j hj => ?_, al6.2⟩, rr.mono (s3.trans (s4.trans s5)), e'⟩
              have h1 := al6.1 j (wipeE_owns hj).1
              rw [← ew4, wipe_out (wipeE_owns hj).2]
              exact h1
            · rename_i e4 et
              refine ⟨gh.pin D (.lst xs), F4, e3, _, _, R4, et, fun H5 F5 R5 s5 => iteT ?_⟩
              split at e'
              · cases e'
              · rename_i r e5 ef
                split at e'
                · rename_i hlen
                  refine ⟨gh.pin D (.lst xs), F5, e4, _, _, R5, ef, fun y H6 F6 R6 s6 r6 => ?_⟩
                  obtain ⟨R7, hD7, hF7, al7⟩ := R6.unpin al2.2
                  refine ⟨xs, hD7, by rw [rr.len]; exact hlen, ?_⟩
                  have R8 := (R7.grow (o' := .lst (xs ++ [y])) hD0 hD7 (fun ps z => nomatch z) hF7 al7).wipe nio
                  rw [ew4] at R8
                  have s26 := s3.trans (s4.trans (s5.trans s6))
                  refine ⟨F6, _, _, _, R8, s2.trans s26, upd_same, hF7, ⟨fun j hj => ?_, al7.2⟩, (rr.mono s26).append (.one r6), e'⟩
                  have h1 := al7.1 j (wipeE_owns hj).1
                  rw [← ew4, wipe_out (wipeE_owns hj).2]
                  exact h1
                · cases e'
    · cases e
/-- [e for tg in iter if ..] -/
theorem fn_lc {elt tg iter : Expr} {ifs : List Expr} {scope : Scope} {pos : Pos} {own : List (Str × Nat)} {ts : List Nat} {w : AF} {bi : BF} {t : TF} {f : EF} (hc : X.calm = true) (hN : X.N.Nodup) (hi : FI T X tg iter w) (ok : BlkOk X.N X.env.scope scope own)
    (hg : ∀ (s : Shared) (H : Hp) (C : Addr) (cl : List (Str × Addr)) (fp : List Addr), FB T (X.blk s H scope (compEnvC scope cl C X.env) fp) tg ts bi)
    (ht : ∀ (s : Shared) (H : Hp) (C : Addr) (cl : List (Str × Addr)) (fp : List Addr), FTs T (X.blk s H scope (compEnvC scope cl C X.env) fp) ifs t)
    (he : ∀ (s : Shared) (H : Hp) (C : Addr) (cl : List (Str × Addr)) (fp : List Addr), FE T (X.blk s H scope (compEnvC scope cl C X.env) fp) elt f) (hts : ∀ i ∈ ts, i ∈ own.map (·.2) := by decide)
    (hs : ∀ x, foldedSetIterable iter X.env x = pure x := by intro _; rfl) :
    FN T X (.ListComp elt [⟨tg, iter, ifs, 0⟩] scope pos) (eLc (own.map (·.2)) w bi t f) :=
  (pe_lc (g := RB T X.K ts bi) (tt := RT T X.K t) (te := RE T X.K f) hc hN hi ok hg ht he hs).weak (rn_lc hts)
/-- y = [e for tg in iter if ..] -/
theorem fs_setLc (i : Nat) {y : Str} {py : Pos} {elt tg iter : Expr} {ifs : List Expr} {scope : Scope} {pos spos : Pos} {own : List (Str × Nat)} {ts : List Nat} {w : AF} {bi : BF} {t : TF} {f : EF} (hc : X.calm = true) (hN : X.N.Nodup) (hy : X.N[i]? = some y) (hyl : X.env.scope.names.lookup y = some .local)
    (hsw : swapsWith (.ListComp elt [⟨tg, iter, ifs, 0⟩] scope pos) (some (.Name y py)) spos.line X.env = pure true) (hi : FI T X tg iter w) (ok : BlkOk X.N X.env.scope scope own)
    (hg : ∀ (s : Shared) (H : Hp) (C : Addr) (cl : List (Str × Addr)) (fp : List Addr), FB T (X.blk s H scope (compEnvC scope cl C X.env) fp) tg ts bi)
    (ht : ∀ (s : Shared) (H : Hp) (C : Addr) (cl : List (Str × Addr)) (fp : List Addr), FTs T (X.blk s H scope (compEnvC scope cl C X.env) fp) ifs t)
    (he : ∀ (s : Shared) (H : Hp) (C : Addr) (cl : List (Str × Addr)) (fp : List Addr), FE T (X.blk s H scope (compEnvC scope cl C X.env) fp) elt f) (hts : ∀ i ∈ ts, i ∈ own.map (·.2) := by decide)
    (hs : ∀ x, foldedSetIterable iter X.env x = pure x := by intro _; rfl) :
    FS T X (.Assign [.Name y py] (.ListComp elt [⟨tg, iter, ifs, 0⟩] scope pos) spos) (asg i (eLc (own.map (·.2)) w bi t f)) ∧ FS T X (.Assign [.Name y py] (.ListComp elt [⟨tg, iter, ifs, 0⟩] scope pos) spos) (asgO i (eLc (own.map (·.2)) w bi t f)) := by
  have base := ps_setLc (g := RB T X.K ts bi) (tt := RT T X.K t) (te := RE T X.K f) hc hN hy hyl hsw hi ok hg ht he hs
  refine ⟨PS.weak base fun D σ H ⟨gh, F, env, out, R, e, q⟩ => ?_, PS.weak base fun D σ H ⟨gh, F, env, out, R, e, q⟩ => ?_⟩
  · unfold asg at e
    split at e
    · cases e
    · rename_i d e1 ef
      split at e
      · cases e
      · rename_i e2 es
        cases e
        refine rn_lc hts σ H _ ⟨gh, F, env, d, e1, R, ef, fun a H1 F1 R1 s1 h1 h2 h3 h4 => ?_⟩
        obtain ⟨o, hH, hn, r⟩ := h4.rep h1
        obtain ⟨R2, s2⟩ := R1.froze h1 hH h2 (R1.notT hH hn) h3
        exact q _ _ _ (R2.put es (.inr (.inl ⟨d, rfl, r⟩))) (s1.trans s2)
  · unfold asgO at e
    split at e
    · cases e
    · rename_i d e1 ef
      split at e
      · cases e
      · rename_i e2 es
        cases e
        exact rn_lc hts σ H _ ⟨gh, F, env, d, e1, R, ef, fun a H1 F1 R1 s1 h1 h2 h3 h4 => q _ _ _ (R1.put es (.inr (.inr ⟨d, a, rfl, rfl, h1, h2, h3, h4⟩))) s1⟩
end
end Fx

namespace HT
open PySem PySem.Spec PyProof.Rows
section
variable {prog : Program} {w : World} {A : Around} {E : Value → Shared → Prop} {s : Shared}
theorem getItem_tuple_whole {t sl : Addr} {items : Array Value} {vl vu : Value} {lo hi : Option Int} {Q : Value → Shared → Prop} (ht : IsTup s.heap t items) (hs : s.heap.IsSliceOf sl vl vu .none) (pl : IsPart vl lo) (pu : IsPart vu hi)
    (hw : sIx items.size 0 lo = 0 ∧ sIx items.size items.size hi = items.size) (h : Q (.ref t) s) : wpAny (model prog w) A (getItem (.ref t) (.ref sl)) Q E s := by
  obtain ⟨os, hos, hcs, hds⟩ := id hs
  have hTs : s.TypeIs (.ref sl) "slice" := ⟨os, hos, hcs⟩
  unfold getItem
  try with_reducible refine wpAny_holding ?_
  first | refine wpAny_bind (wpAny_pure ?_) | skip
  refine wpAny_bind (wpAny_sequenceKey ht.typeIs (by decide) ?_)
  refine wpAny_bind (wpAny_callSpecial?_slot (name := Str.ofString "__getitem__") ht.typeIs PyProof.Rows.slot_tuple_getitem
    (wpAny_call_entry PyProof.Rows.slot_tuple_getitem ht.typeIs entry_tuple_getitem ?_ (args_tuple_getitem _ _)))
  show wpAny _ _ (Builtin.Tuple.tupleItemsOf (.ref t) >>= _) _ _ s
  refine wpAny_bind (tupleItemsOf_ ht ?_)
  refine wpAny_bind (wpAny_typeOf hTs ?_)
  rw [if_pos (by decide)]
  refine wpAny_bind (sliceApplied_gen hs pl pu ?_)
  have hyes : ((((sIx items.size 0 lo : Nat) : Int) == 0 && (1 : Int) == 1 && (sIx items.size items.size hi - sIx items.size 0 lo) == items.size) = true) := by
    rw [hw.1, hw.2]
    simp
  show wpAny _ _ (if (((sIx items.size 0 lo : Nat) : Int) == 0 && (1 : Int) == 1 && (sIx items.size items.size hi - sIx items.size 0 lo) == items.size) = true then _ else _) _ _ s
  rw [if_pos hyes]
  unfold Builtin.Tuple.tupleIsExact
  refine wpAny_bind (wpAny_bind (wpAny_typeOf ht.typeIs (wpAny_pure ?_)))
  rw [if_pos (by decide)]
  refine wpAny_bind (wpAny_rule ?_)
  exact wpAny_pure ⟨_, rfl, wpAny_pure h⟩
end
end HT
namespace Fx
open PySem PySem.Spec L2
open PyProof.Rows hiding St

section
variable {T : List Addr} {X : Cx}
abbrev OF := Ev → Option (Option Int × Ev)
def RO (T : List Addr) (K : PySem.W.Frag) (f : OF) : TO := fun σ H Q => ∃ g F env o env', Rel T K g F H σ env ∧ f env = some (o, env') ∧ ∀ H' F', Rel T K g F' H' σ env' → Same F F' → Q o H'
theorem _root_.L2.PO.weak {e : Option Expr} {t t' : TO} (h : PO X e t) (w : ∀ σ H Q, t' σ H Q → t σ H Q) : PO X e t' := ⟨fun pins s σ H Q I q => h.run pins s σ H Q I (w σ H Q q)⟩
def FO (T : List Addr) (X : Cx) (e : Option Expr) (f : OF) : Prop := PO X e (RO T X.K f)
def oNo : OF := fun env => some (none, env)
def oSo (f : EF) : OF := fun env => match f env with
  | some (.int i, e) => some (some i, e)
  | _ => none
theorem fo_no : FO T X none oNo := po_none.weak fun σ H Q ⟨gh, F, env, o, env', R, e, q⟩ => by
  cases e
  exact q H F R (Same.refl _)
theorem fo_so {e : Expr} {f : EF} (h : FE T X e f) : FO T X (some e) (oSo f) := (po_some h).weak fun σ H Q ⟨gh, F, env, o, env', R, e, q⟩ => by
  unfold oSo at e
  split at e
  · rename_i i e1 ef
    cases e
    exact ⟨gh, F, env, _, _, R, ef, fun v H1 F1 R1 s1 r1 => ⟨i, r1.int_iff, q H1 F1 R1 s1⟩⟩
  · cases e
def cutD (xs : List PV) (lo hi : Option Int) : List PV := (xs.drop (HT.sIx xs.length 0 lo)).take (HT.sIx xs.length xs.length hi - HT.sIx xs.length 0 lo)
theorem Reps.cut {K : PySem.W.Frag} {F : Hp} {xs : List V} {ds : List PV} (r : Reps K F xs ds) (lo hi : Option Int) : Reps K F (cutV xs lo hi) (cutD ds lo hi) := by
  unfold cutV cutD
  rw [r.len]
  exact (r.drop _).take _
/-- t[:], the whole of it: t itself -/
def rSlTW (K : PySem.W.Frag) : V → Option Int → Option Int → Hp → VK → Prop := fun x lo hi H Q => ∃ a xs, x = .ref a ∧ SqT K H a xs ∧ (HT.sIx xs.length 0 lo = 0 ∧ HT.sIx xs.length xs.length hi = xs.length) ∧ Q (.ref a) H
def pSl (x : PV) (lo hi : Option Int) : Option PV := match x with
  | .list xs => some (.list (cutD xs lo hi))
  | .tuple xs => if HT.sIx xs.length 0 lo = 0 ∧ HT.sIx xs.length xs.length hi = xs.length then some (.tuple xs) else some (.tuple (cutD xs lo hi))
  | .str z => if z.length ≤ sizeLine then some (.str (cutS z lo hi)) else none
  | .dict [(.bool true, .list xs)] => some (.list (cutD xs lo hi))
  | _ => none
def rSlA (K : PySem.W.Frag) : V → Option Int → Option Int → Hp → VK → Prop := fun x lo hi H Q => rSlL K x lo hi H Q ∨ (rSlT K x lo hi H Q ∨ rSlTW K x lo hi H Q) ∨ rSlS x lo hi H Q
theorem sl_tupW : SlR X (rSlTW X.K) := by
  intro pins s σ H x v vl vu lo hi sl Q I rx hs pl pu h
  obtain ⟨a, xs, rfl, hx, hw, q⟩ := h
  cases rx
  obtain ⟨its, r, ht, hz⟩ := I.tuple hx
  have hlen : its.toArray.size = xs.length := by rw [List.size_toArray]; exact r.length.symm
  refine ⟨"tuple", _, PyProof.Rows.slot_tuple_getitem.lookup, ht.typeIs, ?_⟩
  exact HT.getItem_tuple_whole ht hs pl pu (by rw [hlen]; exact hw) ⟨.ref a, H, I, rfl, q⟩
theorem sl_all : SlR X (rSlA X.K) := SlR.or sl_list (SlR.or (SlR.or sl_tup sl_tupW) sl_str)
def eSl (f : EF) (l h : OF) : EF := fun env => match f env with
  | none => none
  | some (d, e1) => match l e1 with
    | none => none
    | some (lo, e2) => match h e2 with
      | none => none
      | some (hi, e3) => match pSl d lo hi with
        | none => none
        | some r => some (r, e3)
theorem fe_sl {a : Expr} {lo hi : Option Expr} {p2 pos : Pos} {f : EF} {l h : OF} (ha : FE T X a f) (hl : FO T X lo l) (hh : FO T X hi h) : FE T X (.Subscript a (.Slice lo hi none p2) pos) (eSl f l h) :=
  (pe_slice sl_all ha hl hh).weak fun σ H Q ⟨gh, F, env, d, env', R, e, q⟩ => by
    unfold eSl at e
    split at e
    · cases e
    · rename_i d1 e1 ef
      split at e
      · cases e
      · rename_i lo1 e2 el
        split at e
        · cases e
        · rename_i hi1 e3 eh
          split at e
          · cases e
          · rename_i r er
            cases e
            refine ⟨gh, F, env, _, _, R, ef, fun v H1 F1 R1 s1 r1 => ⟨gh, F1, _, _, _, R1, el, fun H2 F2 R2 s2 => ⟨gh, F2, _, _, _, R2, eh, fun H3 F3 R3 s3 => ?_⟩⟩⟩
            have r3 := r1.mono (s2.trans s3)
            have s03 := s1.trans (s2.trans s3)
            unfold pSl at er
            split at er
            · cases er
              cases r3 with
              | lst hx rr =>
                refine .inl ⟨_, _, rfl, .inl (.inl (R3.sub _ _ hx)), fun p hp => ?_⟩
                obtain ⟨R4, s4⟩ := R3.laidF (o := .lst _) hp
                exact q _ _ _ R4 (s03.trans s4) (.lst upd_same ((rr.cut _ _).mono s4))
            · split at er
              · rename_i hw
                cases er
                cases r3 with
                | tup hx rr => exact .inr (.inl (.inr ⟨_, _, rfl, SqT.mono R3.sub (sqT hx), by rw [rr.len]; exact hw, q _ _ _ R3 s03 (.tup hx rr)⟩))
              · rename_i hw
                cases er
                cases r3 with
                | tup hx rr =>
                  refine .inr (.inl (.inl ⟨_, _, rfl, SqT.mono R3.sub (sqT hx), by rw [rr.len]; exact hw, fun p hp => ?_⟩))
                  obtain ⟨R4, s4⟩ := R3.laidF (o := .tup _) hp
                  exact q _ _ _ R4 (s03.trans s4) (.tup (.inl upd_same) ((rr.cut _ _).mono s4))
            · split at er
              · rename_i hz
                cases er
                exact .inr (.inr ⟨_, r3.str_iff, hz, q _ _ _ R3 s03 (.str _)⟩)
              · cases er
            · cases er
              obtain ⟨a, ys, rfl, hx, rr⟩ := r3.isLk
              refine .inl ⟨_, _, rfl, SqL.mono R3.sub hx, fun p hp => ?_⟩
              obtain ⟨R4, s4⟩ := R3.laidF (o := .lst _) hp
              exact q _ _ _ R4 (s03.trans s4) (.lst upd_same ((rr.cut _ _).mono s4))
            · cases er

/-- what a call leaves: all that stood stands, the tables but may have grown -/
structure Left (T : List Addr) (H H' F F' : Hp) (but : Addr → Prop) : Prop where
  keep : ∀ a o, H a = some o → a ∉ T → ¬ but a → H' a = some o
  tab : ∀ P ∈ T, GxR.TabG H' P ∧ F' P = none
  frz : Same F F'
  sub : Same F' H'
  new : ∀ a o, F' a = some o → F a = some o ∨ H a = none ∨ ∃ xs, o = .tup xs
def spP (T : List Addr) (K : PySem.W.Frag) (g : List PV → Option PV) : Sp := fun vs H Q _ => ∃ F ps d, Same F H ∧ (∀ P ∈ T, GxR.TabG H P ∧ F P = none) ∧ Reps K F vs ps ∧ g ps = some d ∧
  ∀ v H' F', Left T H H' F F' (fun _ => False) → Rep K F' v d → Q v H'
theorem Rel.left {K : PySem.W.Frag} {g : Gh} {F H F' H' : Hp} {σ : St} {env : Ev} (R : Rel T K g F H σ env) (L : Left T H H' F F' fun _ => False) : Rel T K g F' H' σ env := by
  have no : ∀ {a : Addr} {o : HO}, H a = some o → Mut o → F a = none → F' a = none := fun {a o} h m hF => by
    cases q : F' a with
    | none => rfl
    | some u =>
      rcases L.new a u q with z | z | ⟨xs, z⟩
      · rw [hF] at z; cases z
      · rw [h] at z; cases z
      · have e1 := L.sub a u q
        rw [L.keep a o h (R.notT h m.ntb) (fun z => z), z] at e1
        cases e1
        exact m.elim
  have same : ∀ {a : Addr} {d : PV}, Own K F H a d → H' a = H a := fun {a d} ho => by
    obtain ⟨o, h, n⟩ := ho.at_
    rw [h, L.keep a o h (R.notT h n) (fun z => z)]
  refine ⟨R.len, L.sub, R.f0.trans L.frz, fun a o e => ?_, fun a o e n1 n2 => L.keep a o (R.keep a o e n1 n2) n1 (fun z => z), fun P hP => (L.tab P hP).1, fun P hP => (L.tab P hP).2, fun i d e => ?_, fun i d e => ?_, fun i d e => ?_, R.iok, fun a o e => ?_, R.sep⟩
  · rcases L.new a o e with z | z | z
    · exact R.new a o z
    · exact .inr (.inl (R.fresh z).1)
    · exact .inr (.inr z)
  · obtain ⟨v, e1, r⟩ := R.va i d e
    exact ⟨v, e1, r.mono L.frz⟩
  · obtain ⟨a, e1, e2, e3, ho⟩ := R.ow i d e
    obtain ⟨o, h, m⟩ := ho.mut
    exact ⟨a, e1, no h m e2, e3, ho.mono L.frz (same ho)⟩
  · obtain ⟨a, e0, e1, e2, ho⟩ := R.io i d e
    obtain ⟨o, h, m⟩ := ho.mut
    exact ⟨a, e0, e1, no h m e2, ho.mono L.frz (same ho)⟩
  · obtain ⟨t1, t2, t3, t4⟩ := R.tm a o e
    exact ⟨L.keep a o t1 (R.notT t1 t3.ntb) (fun z => z), no t1 t3 t2, t3, t4⟩
theorem cf_call {K : PySem.W.Frag} {g : List PV → Option PV} {f : AF} {E : XK} : ∀ σ H Q, RE T K (callF g f) σ H Q → tCall (spP T K g) [] E (RA T K f) σ H Q := by
  rintro σ H Q ⟨gh, F, env, d, env', R, e, q⟩
  unfold callF at e
  split at e
  · cases e
  · rename_i ds e1 ef
    split at e
    · cases e
    · rename_i d' eg
      cases e
      refine ⟨gh, F, env, _, _, R, ef, fun vs H1 F1 R1 s1 r1 => ⟨F1, ds, d, R1.sub, fun P hP => ⟨R1.tab P hP, R1.nt P hP⟩, by rw [List.append_nil]; exact r1, eg, fun v H2 F2 L r2 => ?_⟩⟩
      exact q v H2 F2 (R1.left L) (s1.trans L.frz) r2
/-- f(e, ..), f a def -/
theorem fe_call {CX : CXT} {k : Nat} {f : Addr} {fd : FuncData} {ps : List Str} {g : List PV → Option PV} {E : XK} {x : Str} {p pos : Pos} {e : Expr} {es : List Expr} {h : AF} (F : FnOk X.prog X.w X.K X.mg X.base CX k f fd ps (spP T X.K g)) (hr : Room k X.A) (hm : X.mg x = some (.ref f)) (hk : PySem.W.keepIn X.K (.ref f) = true) (hb : Binds X.K fd ps []) (hx : Passes CX X E)
    (ha : FA T X (e :: es) h) (hg : Gl X x := by rfl) (hdb : (x == ("__debug__" : Str)) = false := by decide) (he : starEach (e :: es) X.env = (false, eval e X.env) :: starEach es X.env := by rfl) (hpl : (backTo pos (starEach es X.env)).any (·.1) = false := by rfl) :
    FE T X (.Call (.Name x p) (e :: es) [] pos) (callF g h) :=
  (pe_call F hr hg hm hk hb .nil hx ha hdb he hpl).weak cf_call
/-- a def that changes its first argument, a list of the caller's own -/
def spIO (T : List Addr) (K : PySem.W.Frag) (g : PV → List PV → Option (PV × PV)) : Sp := fun vs H Q _ => ∃ F a vs' ps d d' r, vs = .ref a :: vs' ∧ Same F H ∧ (∀ P ∈ T, GxR.TabG H P ∧ F P = none) ∧ F a = none ∧ Own K F H a d ∧ Reps K F vs' ps ∧ g d ps = some (d', r) ∧
  ∀ v H' F', Left T H H' F F' (fun b => b = a) → F' a = none → Own K F' H' a d' → Rep K F' v r → Q v H'
/-- .. changed -/
theorem Rel.leftIO {K : PySem.W.Frag} {g : Gh} {F H F' H' : Hp} {σ : St} {env : Ev} {i : Nat} {p : Addr} {d d' : PV} (R : Rel T K g F H σ env) (hm : Fx.mine env i = some d) (hp : σ[i]? = some (some (.ref p))) (L : Left T H H' F F' fun b => b = p) (hF : F' p = none) (ho : Own K F' H' p d') :
    Rel T K g F' H' σ (putM env i d') := by
  obtain ⟨p', ep, hFp, hop, _⟩ := R.mine hm
  rw [hp] at ep; cases ep
  obtain ⟨op, hHp, ntp⟩ := hop.at_
  have oi : owns env i := by
    unfold Fx.mine at hm
    split at hm
    · rename_i d0 e; exact ⟨_, .inl e⟩
    · rename_i d0 e; exact ⟨_, .inr e⟩
    · cases hm
  have hi : i < env.length := by
    obtain ⟨d0, e | e⟩ := oi <;> exact (List.getElem?_eq_some_iff.mp e).1
  have no : ∀ {a : Addr} {o : HO}, H a = some o → Mut o → a ≠ p → F a = none → F' a = none := fun {a o} h m np hF => by
    cases q : F' a with
    | none => rfl
    | some u =>
      rcases L.new a u q with z | z | ⟨xs, z⟩
      · rw [hF] at z; cases z
      · rw [h] at z; cases z
      · have e1 := L.sub a u q
        rw [L.keep a o h (R.notT h m.ntb) np, z] at e1
        cases e1
        exact m.elim
  have same : ∀ {a : Addr} {d : PV}, a ≠ p → Own K F H a d → H' a = H a := fun {a d} ne ho => by
    obtain ⟨o, h, n⟩ := ho.at_
    rw [h, L.keep a o h (R.notT h n) ne]
  have slot : ∃ s, putM env i d' = env.set i s ∧ ((∃ d0, env[i]? = some (.ow d0) ∧ s = .ow d') ∨ ∃ d0, env[i]? = some (.io d0) ∧ s = .io d') := by
    obtain ⟨d0, e | e⟩ := oi
    · exact ⟨.ow d', by unfold putM; rw [e], .inl ⟨d0, e, rfl⟩⟩
    · exact ⟨.io d', by unfold putM; rw [e], .inr ⟨d0, e, rfl⟩⟩
  obtain ⟨s, es, hs⟩ := slot
  rw [es]
  have get : ∀ (j : Nat) x, j ≠ i → (env.set i s)[j]? = some x → env[j]? = some x := fun j x hj q => by
    rw [List.getElem?_set_ne (Ne.symm hj)] at q; exact q
  have own' : ∀ j : Nat, owns (env.set i s) j → owns env j := fun j ⟨d, hd⟩ => by
    by_cases hj : j = i
    · rw [hj]; exact oi
    · exact ⟨d, hd.imp (get j _ hj) (get j _ hj)⟩
  have ne : ∀ (j : Nat) (b : Addr), j ≠ i → owns env j → σ[j]? = some (some (.ref b)) → b ≠ p := fun j b hj oj ej z => by
    subst z
    exact hj (R.sep j i b oj oi ej hp)
  refine ⟨by rw [List.length_set]; exact R.len, L.sub, R.f0.trans L.frz, fun a o e => ?_, fun a o e n1 n2 => ?_, fun P hP => (L.tab P hP).1, fun P hP => (L.tab P hP).2, fun j d q => ?_, fun j d q => ?_, fun j d q => ?_, fun j a q => ?_, fun a o q => ?_, fun j k a q1 q2 => R.sep j k a (own' j q1) (own' k q2)⟩
  · rcases L.new a o e with z | z | z
    · exact R.new a o z
    · exact .inr (.inl (R.fresh z).1)
    · exact .inr (.inr z)
  · refine L.keep a o (R.keep a o e n1 n2) n1 fun z => ?_
    subst z
    rcases hs with ⟨d0, e0, _⟩ | ⟨d0, e0, _⟩
    · obtain ⟨b, q1, _, q3, _⟩ := R.ow i d0 e0
      rw [hp] at q1; cases q1
      rw [e] at q3; cases q3
    · obtain ⟨b, q0, q1, _⟩ := R.io i d0 e0
      rw [hp] at q1; cases q1
      exact n2 i q0
  · have hj : j ≠ i := fun z => by
      rw [z, List.getElem?_set_self hi] at q
      rcases hs with ⟨_, _, e⟩ | ⟨_, _, e⟩ <;> rw [e] at q <;> cases q
    obtain ⟨v, e1, r⟩ := R.va j d (get j _ hj q)
    exact ⟨v, e1, r.mono L.frz⟩
  · by_cases hj : j = i
    · subst hj
      rw [List.getElem?_set_self hi] at q
      rcases hs with ⟨d0, e0, e⟩ | ⟨d0, e0, e⟩
      · rw [e] at q; cases q
        obtain ⟨b, q1, q2, q3, _⟩ := R.ow j d0 e0
        rw [hp] at q1; cases q1
        exact ⟨p, hp, hF, q3, ho⟩
      · rw [e] at q; cases q
    · obtain ⟨a, e1, e2, e3, h4⟩ := R.ow j d (get j _ hj q)
      obtain ⟨o, h, m⟩ := h4.mut
      have nea := ne j a hj ⟨d, .inl (get j _ hj q)⟩ e1
      exact ⟨a, e1, no h m nea e2, e3, h4.mono L.frz (same nea h4)⟩
  · by_cases hj : j = i
    · subst hj
      rw [List.getElem?_set_self hi] at q
      rcases hs with ⟨d0, e0, e⟩ | ⟨d0, e0, e⟩
      · rw [e] at q; cases q
      · rw [e] at q; cases q
        obtain ⟨b, q0, q1, q2, _⟩ := R.io j d0 e0
        rw [hp] at q1; cases q1
        exact ⟨p, q0, hp, hF, ho⟩
    · obtain ⟨a, e0, e1, e2, h4⟩ := R.io j d (get j _ hj q)
      obtain ⟨o, h, m⟩ := h4.mut
      have nea := ne j a hj ⟨d, .inr (get j _ hj q)⟩ e1
      exact ⟨a, e0, e1, no h m nea e2, h4.mono L.frz (same nea h4)⟩
  · obtain ⟨e1, d, e2⟩ := R.iok j a q
    refine ⟨e1, ?_⟩
    by_cases hj : j = i
    · subst hj
      rcases hs with ⟨d0, e0, e⟩ | ⟨d0, e0, e⟩
      · rw [e2] at e0; cases e0
      · exact ⟨d', by rw [List.getElem?_set_self hi, e]⟩
    · exact ⟨d, by rw [List.getElem?_set_ne (Ne.symm hj)]; exact e2⟩
  · obtain ⟨t1, t2, t3, t4⟩ := R.tm a o q
    have ha : a ≠ p := fun z => t4 i oi (by rw [hp, z])
    exact ⟨L.keep a o t1 (R.notT t1 t3.ntb) ha, no t1 t3 ha t2, t3, fun j hj => t4 j (own' j hj)⟩
def callIO (i : Nat) (g : PV → List PV → Option (PV × PV)) (f : AF) : EF := fun env => match Fx.mine env i with
  | none => none
  | some _ => match f env with
    | none => none
    | some (ds, e) => match Fx.mine e i with
      | none => none
      | some d => match g d ds with
        | none => none
        | some (d', r) => some (r, putM e i d')
theorem fe_callIO (i : Nat) {CX : CXT} {k : Nat} {f : Addr} {fd : FuncData} {ps : List Str} {g : PV → List PV → Option (PV × PV)} {E : XK} {x y : Str} {p py pos : Pos} {es : List Expr} {h : AF} (F : FnOk X.prog X.w X.K X.mg X.base CX k f fd ps (spIO T X.K g)) (hr : Room k X.A) (hm : X.mg x = some (.ref f)) (hk : PySem.W.keepIn X.K (.ref f) = true) (hb : Binds X.K fd ps []) (hx : Passes CX X E)
    (ha : FA T X es h) (hg : Gl X x := by rfl) (hN : X.N[i]? = some y := by rfl) (hv : Vis X.env.scope y := by first | exact Or.inl rfl | exact Or.inr (Or.inl rfl) | exact Or.inr (Or.inr rfl)) (hd : (y == ("__debug__" : Str)) = false := by decide) (hcd : (y == ("__classdict__" : Str)) = false := by decide)
    (hdb : (x == ("__debug__" : Str)) = false := by decide) (he : starEach (.Name y py :: es) X.env = (false, eval (.Name y py) X.env) :: starEach es X.env := by rfl) (hpl : (backTo pos (starEach es X.env)).any (·.1) = false := by rfl) :
    FE T X (.Call (.Name x p) (.Name y py :: es) [] pos) (callIO i g h) :=
  (pe_call F hr hg hm hk hb .nil hx (pa_cons (pe_var hN hv hd hcd) ha he) hdb he hpl).weak fun σ H Q ⟨gh, F, env, d, env', R, e, q⟩ => by
    unfold callIO at e
    split at e
    · cases e
    · rename_i d0 h0
      obtain ⟨p, ep, _⟩ := R.mine h0
      refine ⟨.ref p, ep, ?_⟩
      split at e
      · cases e
      · rename_i ds e1 ef
        refine ⟨gh, F, env, _, _, R, ef, fun vs H1 F1 R1 s1 r1 => ?_⟩
        split at e
        · cases e
        · rename_i d1 h1
          split at e
          · cases e
          · rename_i d' r eg
            cases e
            obtain ⟨p', ep', hF, ho, _⟩ := R1.mine h1
            rw [ep] at ep'; cases ep'
            refine ⟨F1, p, vs, ds, d1, d', _, by rw [List.append_nil], R1.sub, fun P hP => ⟨R1.tab P hP, R1.nt P hP⟩, hF, ho, r1, eg, fun v H2 F2 L hF2 ho2 r2 => ?_⟩
            exact q v H2 F2 (R1.leftIO h1 ep L hF2 ho2) (s1.trans L.frz) r2

def start0 (n : Nat) (ps : List PV) : Ev := ps.map .va ++ List.replicate (n - ps.length) .no
def runP (n k : Nat) (b : SF) (ps : List PV) : Option PV := if ps.length = k ∧ k ≤ n then match b (start0 n ps) with
  | some (.rt d _) => some d
  | some (.rf d _) => some d
  | some (.nx _) => some .none
  | _ => none
  else none
theorem rel_start {K : PySem.W.Frag} {F H : Hp} {vs : List V} {ps : List PV} {N : List Str} (sF : Same F H) (hT : ∀ P ∈ T, GxR.TabG H P ∧ F P = none) (r : Reps K F vs ps) (hl : ps.length ≤ N.length) :
    Rel T K ⟨H, F, [], []⟩ F H (L2.start N vs) (start0 N.length ps) := by
  have hlen := r.len
  have noOwn : ∀ (i : Nat) (d : PV), (start0 N.length ps)[i]? ≠ some (.ow d) ∧ (start0 N.length ps)[i]? ≠ some (.io d) := fun i d => by
    unfold start0
    by_cases hi : i < ps.length
    · rw [List.getElem?_append_left (by simpa using hi), List.getElem?_map, List.getElem?_eq_getElem hi]
      exact ⟨fun z => (by cases z), fun z => (by cases z)⟩
    · rw [List.getElem?_append_right (by simpa using hi), List.getElem?_replicate]
      split
      · exact ⟨fun z => (by cases z), fun z => (by cases z)⟩
      · exact ⟨fun z => (by cases z), fun z => (by cases z)⟩
  have noOwns : ∀ i, ¬ owns (start0 N.length ps) i := fun i ⟨d, h⟩ => h.elim (noOwn i d).1 (noOwn i d).2
  refine ⟨?_, sF, Same.refl _, fun a o e => .inl e, fun a o e _ _ => e, fun P hP => (hT P hP).1, fun P hP => (hT P hP).2, fun i d e => ?_, fun i d e => ((noOwn i d).1 e).elim, fun i d e => ((noOwn i d).2 e).elim, fun i a e => (by cases e), fun a o e => (by cases e), fun i j a q1 => (noOwns i q1).elim⟩
  · unfold start0 L2.start
    simp only [List.length_append, List.length_map, List.length_replicate]
    omega
  · unfold start0 at e
    by_cases hi : i < ps.length
    · rw [List.getElem?_append_left (by simpa using hi), List.getElem?_map, List.getElem?_eq_getElem hi] at e
      cases e
      obtain ⟨v, h1, h2⟩ := r.get (List.getElem?_eq_getElem hi)
      refine ⟨v, ?_, h2⟩
      unfold L2.start
      rw [List.getElem?_append_left (by rw [List.length_map]; omega), List.getElem?_map, h1]
      rfl
    · rw [List.getElem?_append_right (by simpa using hi), List.getElem?_replicate] at e
      split at e <;> cases e
theorem Rel.toLeft {K : PySem.W.Frag} {g : Gh} {F H : Hp} {σ : St} {env : Ev} (R : Rel T K g F H σ env) (io : g.io = []) : Left T g.H0 H g.F0 F fun _ => False :=
  ⟨fun a o e n _ => R.keep a o e n (fun i z => by rw [io] at z; cases z), fun P hP => ⟨R.tab P hP, R.nt P hP⟩, R.f0, R.sub, R.new⟩
theorem ends_of {K : PySem.W.Frag} {b : SF} {N : List Str} {vs : List V} {H F : Hp} {ps : List PV} {d : PV} {Q : VK} (sF : Same F H) (hT : ∀ P ∈ T, GxR.TabG H P ∧ F P = none) (r : Reps K F vs ps) (e : runP N.length ps.length b ps = some d)
    (q : ∀ v H' F', Left T H H' F F' (fun _ => False) → Rep K F' v d → Q v H') : RS T K b { nx := fun _ H' => Q .non H', rt := Q } (L2.start N vs) H := by
  unfold runP at e
  split at e
  · rename_i hk
    have R := rel_start (N := N) sF hT r hk.2
    split at e
    · rename_i d1 e1 eb
      cases e
      exact ⟨_, F, _, _, R, eb, fun v σ' H' F' R' s r' => q v H' F' (R'.toLeft rfl) r'⟩
    · rename_i d1 e1 eb
      cases e
      refine ⟨_, F, _, _, R, eb, fun a σ' H' F' R' s h1 h2 h3 h4 => ?_⟩
      obtain ⟨o, hH, hn, r'⟩ := h4.rep h1
      obtain ⟨R2, s2⟩ := R'.froze h1 hH h2 (R'.notT hH hn) h3
      exact q _ _ _ (R2.toLeft rfl) r'
    · rename_i e1 eb
      cases e
      exact ⟨_, F, _, _, R, eb, fun σ' H' F' R' s => q .non H' F' (R'.toLeft rfl) .non⟩
    · cases e
  · cases e
end
section
variable {P : Program} {w : World} {K : PySem.W.Frag} {mg : Str → Option Value} {base : Heap} {T : List Addr}
/-- THE RULE: a def without effects, by its body -/
theorem fn_pure {x qual : Str} {st : Stmt} {f : Addr} {fd : FuncData} {N ps : List Str} {k n : Nat} {b : SF} (F : Fun K x qual st f fd) (S : FnScope N ps (defScope st)) (hn : N.length = n) (hk : ps.length = k)
    (hbody : ∀ (cdv : Value) (A : Around) (outer : List Env) (s : Shared) (H : Hp) (E : XK), Room j (A.deeper (envOfC qual (defScope st) s.heap.objs.size f cdv)) → FSs T (cxOf CX0 P w K mg base N qual (defScope st) f cdv A outer s H E).nox (defBody st) b) :
    FnOk P w K mg base CX0 (j + 1) f fd ps (spP T K (runP n k b)) := by
  subst hn hk
  refine F.ok S (fun vs H Q E h => ?_) (fun cdv A outer s H vs Q E hr h => ?_)
  · obtain ⟨F, qs, d, _, _, r, e, _⟩ := h
    unfold runP at e
    split at e
    · rename_i hk
      rw [r.len]; exact hk.1
    · cases e
  · obtain ⟨F, qs, d, sF, hT, r, e, q⟩ := h
    have hl : qs.length = ps.length := by
      unfold runP at e
      split at e
      · rename_i hk; exact hk.1
      · cases e
    exact ⟨_, hbody cdv A outer s H E hr, ends_of sF hT r (by rw [hl]; exact e) q⟩
/-- the same of a def that changes its first argument -/
def start1 (n : Nat) (d : PV) (ps : List PV) : Ev := .io d :: start0 (n - 1) ps
def runIO (n k : Nat) (b : SF) (d : PV) (ps : List PV) : Option (PV × PV) := if ps.length + 1 = k ∧ k ≤ n then match b (start1 n d ps) with
  | some (.rt r (.io d' :: _)) => some (d', r)
  | some (.rf r (.io d' :: _)) => some (d', r)
  | some (.nx (.io d' :: _)) => some (d', .none)
  | _ => none
  else none
theorem rel_start1 {F H : Hp} {vs : List V} {ps : List PV} {N : List Str} {a : Addr} {d : PV} (sF : Same F H) (hT : ∀ P ∈ T, GxR.TabG H P ∧ F P = none) (hF : F a = none) (ho : Own K F H a d) (r : Reps K F vs ps) (hl : ps.length + 1 ≤ N.length) :
    Rel T K ⟨H, F, [(0, a)], []⟩ F H (L2.start N (.ref a :: vs)) (start1 N.length d ps) := by
  obtain ⟨y, N', rfl⟩ : ∃ y N', N = y :: N' := by
    cases N with
    | nil => simp at hl
    | cons y N' => exact ⟨y, N', rfl⟩
  have R := rel_start (T := T) (K := K) (N := N') sF hT r (by simpa using hl)
  have es : L2.start (y :: N') (.ref a :: vs) = some (.ref a) :: L2.start N' vs := by
    unfold L2.start
    simp
  have ee : start1 (y :: N').length d ps = .io d :: start0 N'.length ps := by
    unfold start1
    simp
  rw [es, ee]
  have noOwns : ∀ i : Nat, ¬ owns (start0 N'.length ps) i := fun i ⟨d', h⟩ => by
    rcases h with h | h
    · obtain ⟨b, _, _, h3, h4⟩ := R.ow i d' h
      obtain ⟨o, h5, _⟩ := h4.at_
      rw [show H b = none from h3] at h5; cases h5
    · obtain ⟨b, h1, _⟩ := R.io i d' h
      cases h1
  refine ⟨by simpa using R.len, sF, Same.refl _, fun a o e => .inl e, fun a o e _ _ => e, R.tab, R.nt, fun i d' e => ?_, fun i d' e => ?_, fun i d' e => ?_, fun i b e => ?_, fun b o e => (by cases e), fun i j b q1 q2 e1 e2 => ?_⟩
  · cases i with
    | zero => cases e
    | succ i => exact R.va i d' e
  · cases i with
    | zero => cases e
    | succ i => exact (noOwns i ⟨d', .inl e⟩).elim
  · cases i with
    | zero => cases e; exact ⟨a, List.mem_singleton.mpr rfl, rfl, hF, ho⟩
    | succ i => exact (noOwns i ⟨d', .inr e⟩).elim
  · cases List.mem_singleton.mp e
    exact ⟨rfl, d, rfl⟩
  · have z : ∀ m : Nat, owns (Sl.io d :: start0 N'.length ps) m → m = 0 := fun m h => by
      cases m with
      | zero => rfl
      | succ m => exact (noOwns m h).elim
    rw [z i q1, z j q2]
theorem Rel.toLeftIO {g : Gh} {F H : Hp} {σ : St} {env : Ev} {a : Addr} (R : Rel T K g F H σ env) (io : g.io = [(0, a)]) : Left T g.H0 H g.F0 F fun b => b = a :=
  ⟨fun b o e n nb => R.keep b o e n (fun i z => by rw [io] at z; cases List.mem_singleton.mp z; exact nb rfl), fun P hP => ⟨R.tab P hP, R.nt P hP⟩, R.f0, R.sub, R.new⟩
theorem Rel.ioEnd {g : Gh} {F H : Hp} {σ : St} {r : Ev} {a : Addr} {d : PV} (R : Rel T K g F H σ (.io d :: r)) (io : g.io = [(0, a)]) : F a = none ∧ Own K F H a d := by
  obtain ⟨b, h1, _, h3, h4⟩ := R.io 0 d rfl
  rw [io] at h1
  cases List.mem_singleton.mp h1
  exact ⟨h3, h4⟩
theorem endsIO_of {b : SF} {N : List Str} {vs : List V} {H F : Hp} {ps : List PV} {a : Addr} {d d' r : PV} {Q : VK} (sF : Same F H) (hT : ∀ P ∈ T, GxR.TabG H P ∧ F P = none) (hF : F a = none) (ho : Own K F H a d) (rr : Reps K F vs ps) (e : runIO N.length (ps.length + 1) b d ps = some (d', r))
    (q : ∀ v H' F', Left T H H' F F' (fun b => b = a) → F' a = none → Own K F' H' a d' → Rep K F' v r → Q v H') : RS T K b { nx := fun _ H' => Q .non H', rt := Q } (L2.start N (.ref a :: vs)) H := by
  unfold runIO at e
  split at e
  · rename_i hk
    have R := rel_start1 (N := N) sF hT hF ho rr hk.2
    split at e
    · rename_i r1 d1 e1 eb
      cases e
      exact ⟨_, F, _, _, R, eb, fun v σ' H' F' R' s r' => q v H' F' (R'.toLeftIO rfl) (R'.ioEnd rfl).1 (R'.ioEnd rfl).2 r'⟩
    · rename_i r1 d1 e1 eb
      cases e
      refine ⟨_, F, _, _, R, eb, fun c σ' H' F' R' s h1 h2 h3 h4 => ?_⟩
      obtain ⟨o, hH, hn, r'⟩ := h4.rep h1
      obtain ⟨R2, s2⟩ := R'.froze h1 hH h2 (R'.notT hH hn) h3
      exact q _ _ _ (R2.toLeftIO rfl) (R2.ioEnd rfl).1 (R2.ioEnd rfl).2 r'
    · rename_i d1 e1 eb
      cases e
      exact ⟨_, F, _, _, R, eb, fun σ' H' F' R' s => q .non H' F' (R'.toLeftIO rfl) (R'.ioEnd rfl).1 (R'.ioEnd rfl).2 .non⟩
    · cases e
  · cases e
/-- THE RULE: a def that changes its first argument, by its body -/
theorem fn_io {x qual : Str} {st : Stmt} {f : Addr} {fd : FuncData} {N ps : List Str} {j k n : Nat} {b : SF} (F : Fun K x qual st f fd) (S : FnScope N ps (defScope st)) (hn : N.length = n) (hk : ps.length = k)
    (hbody : ∀ (cdv : Value) (A : Around) (outer : List Env) (s : Shared) (H : Hp) (E : XK), Room j (A.deeper (envOfC qual (defScope st) s.heap.objs.size f cdv)) → FSs T (cxOf CX0 P w K mg base N qual (defScope st) f cdv A outer s H E).nox (defBody st) b) :
    FnOk P w K mg base CX0 (j + 1) f fd ps (spIO T K (runIO n k b)) := by
  subst hn hk
  refine F.ok S (fun vs H Q E h => ?_) (fun cdv A outer s H vs Q E hr h => ?_)
  · obtain ⟨F, a, vs', qs, d, d', r, rfl, _, _, _, _, rr, e, _⟩ := h
    unfold runIO at e
    split at e
    · rename_i hk
      rw [List.length_cons, rr.len]; exact hk.1
    · cases e
  · obtain ⟨F, a, vs', qs, d, d', r, rfl, sF, hT, hF, ho, rr, e, q⟩ := h
    have hl : qs.length + 1 = ps.length := by
      unfold runIO at e
      split at e
      · rename_i hk; exact hk.1
      · cases e
    exact ⟨_, hbody cdv A outer s H E hr, endsIO_of sF hT hF ho rr (by rw [hl]; exact e) q⟩
end
end Fx

namespace PySem
open Sem (wp)
set_option maxHeartbeats 1000000 in
theorem meets_enumerate_newB1 {v : Value} {o : Obj} {H : Heap → Prop} (B : Begins v o H) :
    Meets (Builtin.«enumerate.__new__» ⟨[.type "enumerate", v], []⟩) (fun _ R s => H s.heap ∧
      R (.ok (.ret (.ref (s.heap.push o).objs.size))) { s with heap := (s.heap.push o).push { cls := .type "enumerate", data := .fields #[.none, .bool false, .ref s.heap.objs.size, rawInt 0, .none, .none] } }) :=
  .of_wp fun prog w A R s h => by
    obtain ⟨hp, g, d, tk, os⟩ := s; obtain ⟨h1, h⟩ := h
    have hsub := sub_enumerate
    have q1 : ∀ {A' : Around} {E : Value → Shared → Prop} {Q : Value → Shared → Prop}, Q (.ref hp.objs.size) ⟨hp.push o, g, d, tk, os⟩ → wpAny (model prog w) A' (pyIter v) Q E ⟨hp, g, d, tk, os⟩ :=
      fun q => B.iter prog w _ _ ⟨hp, g, d, tk, os⟩ _ h1 q
    wp_walk using q1
    refine wpAny_stack_any fun st => wpAny_pure ?_
    split
    · rename_i c _ _ _ _ _
      cases (c == Value.type "enumerate")
      · wp_walk using q1
        exact ⟨_, rfl, h⟩
      · wp_walk using q1
        exact ⟨_, rfl, h⟩
    · wp_walk using q1
      exact ⟨_, rfl, h⟩
theorem enum_begins1 {prog : Program} {w : World} {A : Around} {E : Value → Shared → Prop} {s : Shared} {v : Value} {o : Obj} {H : Heap → Prop} {Q : Value → Shared → Prop} (B : Begins v o H) (h1 : H s.heap)
    (h : ∀ h', IsEnum h' (s.heap.objs.size + 1) s.heap.objs.size 0 .none → h'.get? s.heap.objs.size = some o → h'.objs.size = s.heap.objs.size + 2 →
      (∀ b o, s.heap.get? b = some o → h'.get? b = some o) → Q (.ref (s.heap.objs.size + 1)) { s with heap := h' }) :
    wpAny (model prog w) A (call (.type "enumerate") [v]) Q E s := by
  refine callType_new F.called_enumerate (by decide) (F.typeCall_enumerate_1 _) (F.newCall_enumerate_1 _) (fun obj => F.args_object_init_2 obj _) F.entry_enumerate_new
    (meets_enumerate_newB1 B) ⟨h1, ?_⟩
  have hz : (s.heap.push o).objs.size = s.heap.objs.size + 1 := Heap.size_push ..
  show _ ∧ _
  rw [hz]
  have he : IsEnum ((s.heap.push o).push { cls := .type "enumerate", data := .fields #[.none, .bool false, .ref s.heap.objs.size, rawInt 0, .none, .none] }) (s.heap.objs.size + 1) s.heap.objs.size 0 .none := by
    have := Heap.get?_push_size (s.heap.push o) (o := { cls := .type "enumerate", data := .fields #[.none, .bool false, .ref s.heap.objs.size, rawInt 0, .none, .none] }) rfl
    rw [hz] at this; exact this
  refine ⟨⟨_, he, rfl⟩, h _ he (Heap.get?_push_of_some _ (Heap.get?_push_size _ B.free)) (by rw [Heap.size_push, hz]) fun b o x => Heap.get?_push_of_some _ (Heap.get?_push_of_some _ x)⟩
end PySem
namespace Fx
open PySem PySem.Spec L2
open PyProof.Rows hiding St

def IteT (K : PySem.W.Frag) (a : Addr) (k₀ : Int) : It :=
  ⟨fun i H => ∃ (xs : List V) (x : V), SqT K H a xs ∧ xs[i]? = some x, fun i H v H' => ∃ T x, v = .ref T ∧ H T = none ∧ H' = upd H T (.tup [.int (k₀ + (i : Nat)), x]) ∧ ∀ xs, SqT K H a xs → xs[i]? = some x, fun i H => ∃ xs : List V, SqT K H a xs ∧ xs.length ≤ i⟩
theorem enum_ne {h : Heap} {e a : Addr} {its : Array Value} {it : Addr} {c : Int} {old : Value} (he : IsEnum h e it c old) (p : h.IsTuple a its) : a ≠ e := fun z => by
  obtain ⟨o, ho, hc, _⟩ := p
  rw [z] at ho
  have he' : h.get? e = _ := he
  rw [he'] at ho
  cases ho
  exact absurd (show Value.type "enumerate" = Value.type "tuple" from hc) (by decide)
theorem iter_ne {h : Heap} {a : Addr} {its : Array Value} {it : Addr} {i : Nat} {b : Addr} (he : h.IsTupleIter it b i) (p : h.IsTuple a its) : a ≠ it := fun z => by
  obtain ⟨o, ho, hc, _⟩ := p
  obtain ⟨o2, ho2, hc2, _⟩ := he
  rw [z, ho2] at ho
  cases ho
  rw [hc2] at hc
  exact absurd hc (by decide)
theorem turn_enumT {P : Program} {w : World} {K : PySem.W.Frag} {elts : List Expr} {kk : Nat} {tpos : Pos} (a e it : Addr) (k₀ : Int) :
    Turn P w K (.Tuple elts kk tpos) (IteT K a k₀) [e, it] e (fun i h => (∃ old, IsEnum h e it (k₀ + ((i : Nat) : Int)) old) ∧ h.IsTupleIter it a i ∧ e ≠ it) where
  mem := by simp
  obj := fun i h st b hb => by
    obtain ⟨⟨old, he⟩, ⟨o, ho, hc, hd⟩, _⟩ := st
    have e' : b = e ∨ b = it := by simpa using hb
    rcases e' with z | z
    · rw [z]; exact ⟨_, he, fun v q => nomatch q⟩
    · rw [z]; exact ⟨o, ho, fun v q => by rw [hd] at q; cases q⟩
  keep := fun i h h' st k => let ⟨⟨old, he⟩, hi, hne⟩ := st; ⟨⟨old, k e (by simp) _ he⟩, hi.at fun o q => k it (by simp) o q, hne⟩
  item := by
    intro X hP hw hK hc i pins s σ H E I hf st hg
    subst hP hw hK
    obtain ⟨⟨old, he⟩, hit, hne⟩ := st
    obtain ⟨xs, x, hq, hx⟩ := hg
    obtain ⟨its, rv, p, hz⟩ := I.tuple hq
    replace p : s.heap.IsTuple a its.toArray := p
    obtain ⟨u, hu, ru⟩ := rv.get hx
    have hel : e < s.heap.objs.size := Heap.lt_size he
    have hil : it < s.heap.objs.size := by obtain ⟨_, q, _⟩ := hit; exact Heap.lt_size q
    have hui : its.toArray[i]? = some u := by simpa using hu
    have hlt : i < its.toArray.size := (Array.getElem?_eq_some_iff.mp hui).1
    refine wpAny_pyNext_enum_itemC (c := k₀ + (i : Int)) (Draws.tuple (A := X.A.in1) (I.ok.hd hc) it a (iter_ne hit p) its.toArray) he ⟨hit, p⟩ hlt hne (by simp only [List.mem_cons, List.not_mem_nil, or_false, not_or]; exact ⟨hne, (enum_ne he p).symm⟩) fun x' h' tk hP ho hst hT hsz hk => ?_
    replace hP : its.toArray[i]? = some x' := hP
    rw [hui] at hP
    cases hP
    refine ⟨_, rfl, wpAny_letOwnedTupleGo_enum (s := { s with heap := h', toks := tk + 1 }) ho fun h'' he' sb => ?_⟩
    have hT2 : h''.get? s.heap.objs.size = some { cls := .type "tuple", data := .seq #[.int (k₀ + i) tk, u] } := (sb.2 _ (Nat.ne_of_gt hel)).trans hT
    have new : ObjOk X.prog X.w (upd H s.heap.objs.size (.tup [.int (k₀ + (i : Nat)), x])) h'' s.heap.objs.size (.tup [.int (k₀ + (i : Nat)), x]) :=
      ⟨by show 2 ≤ sizeLine; decide, [.int (k₀ + i) tk, u], .cons ⟨_, rfl⟩ (.cons ru .nil), ⟨_, hT2, rfl, _, rfl⟩⟩
    have I1 : Inv X pins σ (upd H s.heap.objs.size (.tup [.int (k₀ + (i : Nat)), x])) { s with heap := h'', toks := tk + 1 } :=
      I.turnedNew (ch := [e, it]) (fun b ob hb q => (sb.2 b (fun z => hb (by simp [z]))).trans (hk b ob (fun z => hb (by simp [z])) (fun z => hb (by simp [z])) q)) hf (Nat.le_refl _) new
    refine ⟨.ref s.heap.objs.size, _, I1, rfl, ⟨_, x, rfl, I.hok.fresh (Nat.le_refl _), rfl, fun ys hy => by rw [I.tuple_inj hy hq]; exact hx⟩, ⟨⟨u, ?_⟩, hst.1.at fun o q => (sb.2 it (Ne.symm hne)).trans q, hne⟩, fun b hb => ?_⟩
    · have e1 : k₀ + ((i + 1 : Nat) : Int) = k₀ + (i : Int) + 1 := by omega
      rw [e1]; exact he'
    · have hb' : b < s.heap.objs.size := by
        have e' : b = e ∨ b = it := by simpa using hb
        rcases e' with z | z
        · rw [z]; exact hel
        · rw [z]; exact hil
      rw [upd_ne (Nat.ne_of_lt hb')]
      exact (hf b hb).1
  done := by
    intro X hP hw hK hc i pins s σ H E I hf st hg
    subst hP hw hK
    obtain ⟨⟨old, he⟩, hit, hne⟩ := st
    obtain ⟨xs, hq, hx⟩ := hg
    obtain ⟨its, rv, p, hz⟩ := I.tuple hq
    replace p : s.heap.IsTuple a its.toArray := p
    obtain ⟨f0, f1, f2, f3, f4, f5⟩ := hf it (by simp)
    have hl := rv.length
    have hh := I.ok.hd hc
    have D : Draws X.prog X.w X.A.in1 it [it, a] 0 (fun _ _ => True) (fun _ h => h.IsTupleIter it a i ∧ h.IsTuple a its.toArray) :=
      { live := fun _ _ st => let ⟨o, ho, _⟩ := st.1; ⟨o, ho⟩
        frame := fun _ _ _ st hk => ⟨st.1.at fun o e => hk it (by simp) o e, st.2.at fun o e => hk a (by simp) o e⟩
        item := fun j s Q E hj st hQ => absurd hj (Nat.not_lt_zero _)
        done := fun s Q E st hE => wpAny_nextOf_tuple_end (A := X.A.in1) hh st.1 st.2 (by simp; omega) hE }
    exact wpAny_pyNext_enum_endD D he ⟨hit, p⟩ fun h' eb => ⟨rfl, I.turned (t' := s.toks) (fun b o hb e => eb b o hb e) f0 f1 f3 f4 f5⟩
  self := fun A i s Q E st h => let ⟨⟨_, he⟩, _⟩ := st; wpAny_pyIter_enum he h
def iEnumA (K : PySem.W.Frag) (ta : TA) : TI := fun σ H R => ta σ H fun vs H1 => ∃ a xs, vs = [.ref a] ∧ ((SqL K H1 a xs ∧ R (Ite K a) H1) ∨ (SqT K H1 a xs ∧ R (IteT K a 0) H1))
theorem pi_enumA {X : Cx} {e : Expr} {ta : TA} {p pos tpos : Pos} {elts : List Expr} {kk : Nat} (hg : Gl X "enumerate") (hm : X.mg "enumerate" = none) (ha : PA X [e] ta) (hs : starEach [e] X.env = [(false, eval e X.env)] := by rfl) :
    PI X (.Tuple elts kk tpos) (.Call (.Name "enumerate" p) [e] [] pos) (iEnumA X.K ta) := by
  refine ⟨fun pins s σ H R I h => ?_⟩
  refine Call_ (ld_blt I hg hm PyProof.Rows.boot_enumerate (PyProof.Rows.callWith_type1 (thn (ha.run pos pins s σ H _ I h) fun us s1 ⟨vs, H1, I1, r1, q1⟩ => ?_) hs rfl))
  obtain ⟨a, xs, ex, hq⟩ := q1
  subst ex
  cases r1 with
  | cons r rr =>
    cases rr
    cases r
    have fp : ∀ b ∈ [s1.heap.objs.size + 1, s1.heap.objs.size], FpOk X pins H1 b := fun b hb => by
      have e' : b = s1.heap.objs.size + 1 ∨ b = s1.heap.objs.size := by simpa using hb
      have hle : s1.heap.objs.size ≤ b := by
        rcases e' with z | z
        · rw [z]; exact Nat.le_add_right _ _
        · rw [z]; exact Nat.le_refl _
      exact I1.fpOk hle (I1.hok.fresh hle)
    rcases hq with ⟨hq, q⟩ | ⟨hq, q⟩
    · obtain ⟨its, rv, p', hz⟩ := I1.list hq
      refine call_enumerate_list p'.isList fun h' he hit hsz hk => wpAny_pyIter_enum he ?_
      have I2 : Inv X pins σ H1 { s1 with heap := h' } := I1.kept (t' := s1.toks) hk
      exact ⟨s1.heap.objs.size + 1, [s1.heap.objs.size + 1, s1.heap.objs.size], _, _, H1, rfl, I2, turn_enum a (s1.heap.objs.size + 1) s1.heap.objs.size, ⟨⟨.none, he⟩, hit, Nat.succ_ne_self _⟩, fp, q⟩
    · obtain ⟨its, rv, p', hz⟩ := I1.tuple hq
      refine enum_begins1 (begins_tuple a its.toArray) p' fun h' he hit hsz hk => wpAny_pyIter_enum he ?_
      have I2 : Inv X pins σ H1 { s1 with heap := h' } := I1.kept (t' := s1.toks) hk
      exact ⟨s1.heap.objs.size + 1, [s1.heap.objs.size + 1, s1.heap.objs.size], _, _, H1, rfl, I2, turn_enumT a (s1.heap.objs.size + 1) s1.heap.objs.size 0, ⟨⟨.none, by rw [show (0 : Int) + ((0 : Nat) : Int) = 0 from rfl]; exact he⟩, ⟨_, hit, rfl, rfl⟩, Nat.succ_ne_self _⟩, fp, q⟩
section
variable {T : List Addr} {X : Cx}
theorem yields_enumT {K : PySem.W.Frag} {F : Hp} {a : Addr} {xs : List V} {ds : List PV} {k₀ : Int} (h : SqT K F a xs) (r : Reps K F xs ds) : Yields T K (IteT K a k₀) (enumL k₀ ds) F := fun g i F' H σ env R s => by
  have hH : SqT K H a xs := SqT.mono R.sub (SqT.mono s h)
  rw [enumL_get]
  refine ⟨fun d hd => ?_, fun hn => ?_⟩
  · cases hx : ds[i]? with
    | none => rw [hx] at hd; cases hd
    | some d0 =>
      rw [hx] at hd
      cases hd
      obtain ⟨v, hv, rv⟩ := r.get hx
      refine ⟨⟨xs, v, hH, hv⟩, fun x H' hy => ?_⟩
      obtain ⟨t, y, rfl, hT, rfl, hy⟩ := hy
      have := hy xs hH
      rw [hv] at this; cases this
      obtain ⟨R2, s2⟩ := R.laidF (o := .tup [.int (k₀ + (i : Nat)), v]) hT
      exact ⟨_, R2, s2, .tup (.inl upd_same) (.cons (.int _) (.cons (rv.mono (s.trans s2)) .nil))⟩
  · cases hx : ds[i]? with
    | none => exact ⟨xs, hH, by rw [r.len]; exact List.getElem?_eq_none_iff.mp hx⟩
    | some d0 => rw [hx] at hn; cases hn
def wEnumA (f : EF) : AF := fun env => match f env with
  | some (.list xs, e) => some (enumL 0 xs, e)
  | some (.tuple xs, e) => some (enumL 0 xs, e)
  | _ => none
/-- enumerate(list or tuple) -/
theorem fi_enumA {a : Expr} {elts : List Expr} {kk : Nat} {tpos p pos : Pos} {f : EF} (hg : Gl X "enumerate") (hm : X.mg "enumerate" = none) (ha : FE T X a f) (hs : starEach [a] X.env = [(false, eval a X.env)] := by rfl) : FI T X (.Tuple elts kk tpos) (.Call (.Name "enumerate" p) [a] [] pos) (wEnumA f) :=
  (pi_enumA hg hm (pa_cons ha pa_nil hs) hs).weak fun σ H Q ⟨gh, F, env, ds, env', R, e, q⟩ => by
    unfold wEnumA at e
    split at e
    · rename_i xs e1 ef
      cases e
      refine ⟨gh, F, env, _, _, R, ef, fun v H1 F1 R1 s1 r1 => ?_⟩
      cases r1 with
      | lst h rr => exact ⟨_, _, rfl, .inl ⟨.inl (.inl (R1.sub _ _ h)), q _ _ _ R1 s1 (yields_enum h rr)⟩⟩
    · rename_i xs e1 ef
      cases e
      refine ⟨gh, F, env, _, _, R, ef, fun v H1 F1 R1 s1 r1 => ?_⟩
      cases r1 with
      | tup h rr => exact ⟨_, _, rfl, .inr ⟨SqT.mono R1.sub (sqT h), q _ _ _ R1 s1 (yields_enumT (sqT h) rr)⟩⟩
    · cases e

def wRevA (f : EF) : AF := fun env => match f env with
  | some (.list xs, e) => some (xs.reverse, e)
  | some (.tuple xs, e) => some (xs.reverse, e)
  | _ => none
theorem yields_revT {K : PySem.W.Frag} {F : Hp} {a : Addr} {xs : List V} {ds : List PV} (h : SqT K F a xs) (r : Reps K F xs ds) : Yields T K (RT.ItvT K a xs.length) ds.reverse F := fun g i F' H σ env R s => by
  have hH : SqT K H a xs := SqT.mono R.sub (SqT.mono s h)
  have hl := r.len
  by_cases hi : i < ds.length
  · have e1 : ds.reverse[i]? = ds[ds.length - 1 - i]? := List.getElem?_reverse hi
    rw [e1]
    refine ⟨fun d hd => ?_, fun hn => ?_⟩
    · obtain ⟨v, hv, rv⟩ := r.get hd
      rw [← hl] at hv
      refine ⟨⟨by omega, xs, v, hH, hv⟩, fun x H' hy => ?_⟩
      obtain ⟨rfl, hy⟩ := hy
      have := hy xs hH
      rw [hv] at this; cases this
      exact ⟨F', R, Same.refl _, rv.mono s⟩
    · have := List.getElem?_eq_none_iff.mp hn
      omega
  · have e1 : ds.reverse[i]? = none := List.getElem?_eq_none_iff.mpr (by rw [List.length_reverse]; omega)
    rw [e1]
    exact ⟨fun d hd => (by cases hd), fun _ => (by show xs.length ≤ i; omega)⟩
theorem fi_revA {tg a : Expr} {p pos : Pos} {f : EF} (hg : Gl X "reversed") (hm : X.mg "reversed" = none) (ha : FE T X a f) (hs : starEach [a] X.env = (false, eval a X.env) :: starEach [] X.env := by rfl) : FI T X tg (.Call (.Name "reversed" p) [a] [] pos) (wRevA f) :=
  (RT.pi_revA hg hm ha hs).weak fun σ H Q ⟨gh, F, env, ds, env', R, e, q⟩ => by
    unfold wRevA at e
    split at e
    · rename_i xs e1 ef
      cases e
      refine ⟨gh, F, env, _, _, R, ef, fun v H1 F1 R1 s1 r1 => ?_⟩
      cases r1 with
      | lst h rr => exact ⟨_, _, rfl, .inl ⟨.inl (.inl (R1.sub _ _ h)), q _ _ _ R1 s1 (yields_rev h rr)⟩⟩
    · rename_i xs e1 ef
      cases e
      refine ⟨gh, F, env, _, _, R, ef, fun v H1 F1 R1 s1 r1 => ?_⟩
      cases r1 with
      | tup h rr => exact ⟨_, _, rfl, .inr ⟨SqT.mono R1.sub (sqT h), q _ _ _ R1 s1 (yields_revT (sqT h) rr)⟩⟩
    · cases e
def tRv (f : EF) : EF := fun env => match f env with
  | some (.list xs, e) => some (.tuple xs.reverse, e)
  | _ => none
theorem fe_tupRev {a : Expr} {p p2 pos pos2 : Pos} {f : EF} (hc : X.calm = true) (hg : Gl X "tuple") (hm : X.mg "tuple" = none) (hg2 : Gl X "reversed") (hm2 : X.mg "reversed" = none) (ha : FE T X a f)
    (hs : starEach [a] X.env = (false, eval a X.env) :: starEach [] X.env := by rfl)
    (hs2 : starEach [.Call (.Name "reversed" p2) [a] [] pos2] X.env = (false, eval (.Call (.Name "reversed" p2) [a] [] pos2) X.env) :: starEach [] X.env := by rfl) :
    FE T X (.Call (.Name "tuple" p) [.Call (.Name "reversed" p2) [a] [] pos2] [] pos) (tRv f) :=
  (RT.pe_tupRev hc hg hm hg2 hm2 ha hs hs2).weak fun σ H Q ⟨gh, F, env, d, env', R, e, q⟩ => by
    unfold tRv at e
    split at e
    · rename_i xs e1 ef
      cases e
      refine ⟨gh, F, env, _, _, R, ef, fun v H1 F1 R1 s1 r1 => ?_⟩
      cases r1 with
      | lst h rr =>
        refine ⟨_, _, rfl, .inl (.inl (R1.sub _ _ h)), fun p hp => ?_⟩
        obtain ⟨R2, s2⟩ := R1.laidF (o := .tup _) hp
        exact q _ _ _ R2 (s1.trans s2) (.tup (.inl upd_same) (rr.reverse.mono s2))
    · cases e

def aStar (f : EF) (h : AF) : AF := fun env => match f env with
  | some (.list xs, e) => (match h e with
    | none => none
    | some (ds, e2) => some (xs ++ ds, e2))
  | some (.tuple xs, e) => (match h e with
    | none => none
    | some (ds, e2) => some (xs ++ ds, e2))
  | _ => none
theorem fa_star {e : Expr} {es : List Expr} {p : Pos} {f : EF} {h : AF} (ha : FE T X e f) (hb : FA T X es h) (hst : starEach (.Starred e p :: es) X.env = (true, eval e X.env) :: starEach es X.env := by rfl) : FA T X (.Starred e p :: es) (aStar f h) :=
  (StX.pa_star ha hb hst).weak fun σ H Q ⟨gh, F, env, ds, env', R, e, q⟩ => by
    unfold aStar at e
    split at e
    · rename_i xs e1 ef
      split at e
      · cases e
      · rename_i ds2 e2 eh
        cases e
        refine ⟨gh, F, env, _, _, R, ef, fun v H1 F1 R1 s1 r1 => ?_⟩
        cases r1 with
        | lst hl rr => exact ⟨_, _, rfl, .inr (.inl (.inl (R1.sub _ _ hl))), gh, F1, _, _, _, R1, eh, fun vs H2 F2 R2 s2 r2 => q _ _ _ R2 (s1.trans s2) ((rr.mono s2).append r2)⟩
    · rename_i xs e1 ef
      split at e
      · cases e
      · rename_i ds2 e2 eh
        cases e
        refine ⟨gh, F, env, _, _, R, ef, fun v H1 F1 R1 s1 r1 => ?_⟩
        cases r1 with
        | tup hl rr => exact ⟨_, _, rfl, .inl (SqT.mono R1.sub (sqT hl)), gh, F1, _, _, _, R1, eh, fun vs H2 F2 R2 s2 r2 => q _ _ _ R2 (s1.trans s2) ((rr.mono s2).append r2)⟩
    · cases e
end
end Fx

namespace Fx
open PySem PySem.Spec L2
open PyProof.Rows hiding St
def keyOf : PV → Option Key
  | .int i => some (.inl i)
  | .str x => some (.inr x)
  | _ => none
def isK (k : Key) (d : PV) : Bool := match k, d with
  | .inl i, .int j => decide (i = j)
  | .inr x, .str y => decide (x = y)
  | _, _ => false
def dVal (k : Key) : List (PV × PV) → Option PV
  | [] => none
  | (d, v) :: r => if isK k d then some v else dVal k r
def dAny (k : Key) : List (PV × PV) → Bool
  | [] => false
  | (d, _) :: r => isK k d || dAny k r
def dMap (k : Key) (v : PV) : List (PV × PV) → List (PV × PV)
  | [] => []
  | (d, x) :: r => (if isK k d then (d, v) else (d, x)) :: dMap k v r
def dPut (k : Key) (v : PV) (ds : List (PV × PV)) : List (PV × PV) := if dAny k ds then dMap k v ds else ds ++ [(kD k, v)]
def plainD : List (PV × PV) → Bool
  | (.none, _) :: _ => false
  | (.bool _, _) :: _ => false
  | _ => true
theorem isK_kD {k j : Key} : isK k (kD j) = decide (j = k) := by
  cases k with
  | inl i => cases j with
    | inl a =>
      show decide (i = a) = _
      by_cases h : i = a
      · subst h; simp
      · rw [decide_eq_false h, decide_eq_false (fun z => h (Sum.inl.inj z).symm)]
    | inr b => exact (decide_eq_false (fun z => nomatch z)).symm
  | inr x => cases j with
    | inl a => exact (decide_eq_false (fun z => nomatch z)).symm
    | inr b =>
      show decide (x = b) = _
      by_cases h : x = b
      · subst h; simp
      · rw [decide_eq_false h, decide_eq_false (fun z => h (Sum.inr.inj z).symm)]
section
variable {K : PySem.W.Frag} {F F' H : Hp} {k : Key}
theorem RepK.any : ∀ {kvs : List (Key × V)} {ds : List (PV × PV)}, RepK K F kvs ds → dAny k ds = kvs.any fun kv => decide (kv.1 = k)
  | _, _, .nil => rfl
  | _, _, .cons r t => by
    unfold dAny
    rw [List.any_cons, isK_kD, RepK.any t]
theorem RepK.val : ∀ {kvs : List (Key × V)} {ds : List (PV × PV)}, RepK K F kvs ds → (∀ d, dVal k ds = some d → ∃ v, valV kvs k = some v ∧ Rep K F v d) ∧ (dVal k ds = none → valV kvs k = none)
  | _, _, .nil => ⟨fun d e => (by cases e), fun _ => rfl⟩
  | _, _, .cons (k := j) (v := v) r t => by
    unfold dVal
    rw [isK_kD]
    by_cases h : j = k
    · rw [if_pos (decide_eq_true h), valV_pos (p := (j, v)) h]
      exact ⟨fun d e => (by cases e; exact ⟨_, rfl, r⟩), fun e => (by cases e)⟩
    · rw [if_neg (by simpa using h), valV_neg (p := (j, v)) h]
      exact RepK.val t
theorem RepK.map {v : V} {d : PV} (rv : Rep K F v d) : ∀ {kvs : List (Key × V)} {ds : List (PV × PV)}, RepK K F kvs ds → RepK K F (kvs.map fun kv => if kv.1 = k then (kv.1, v) else kv) (dMap k d ds)
  | _, _, .nil => .nil
  | _, _, .cons (k := j) (v := w) r t => by
    unfold dMap
    rw [isK_kD, List.map_cons]
    by_cases h : j = k
    · simp only [h, if_true, decide_true]
      exact .cons rv (RepK.map rv t)
    · simp only [h, if_false, decide_false, Bool.false_eq_true]
      exact .cons r (RepK.map rv t)
theorem RepK.snoc {v : V} {d : PV} (rv : Rep K F v d) : ∀ {kvs : List (Key × V)} {ds : List (PV × PV)}, RepK K F kvs ds → RepK K F (kvs ++ [(k, v)]) (ds ++ [(kD k, d)])
  | _, _, .nil => .cons rv .nil
  | _, _, .cons r t => .cons r (RepK.snoc rv t)
theorem RepK.put {v : V} {d : PV} (rv : Rep K F v d) {kvs : List (Key × V)} {ds : List (PV × PV)} (r : RepK K F kvs ds) : RepK K F (putK kvs k v) (dPut k d ds) := by
  unfold putK dPut
  rw [r.any]
  split
  · exact RepK.map rv r
  · exact RepK.snoc rv r
theorem RepK.len : ∀ {kvs : List (Key × V)} {ds : List (PV × PV)}, RepK K F kvs ds → kvs.length = ds.length
  | _, _, .nil => rfl
  | _, _, .cons _ t => by simp [RepK.len t]
theorem Rep.key {y : V} {d : PV} (r : Rep K F y d) (h : keyOf d = some k) : y = kV k := by
  cases r <;> cases h <;> rfl
theorem Own.isDk {a : Addr} {ds : List (PV × PV)} (ho : Own K F H a (.dict ds)) (h : plainD ds = true) : ∃ kvs, H a = some (.dK kvs) ∧ RepK K F kvs ds := by
  cases ho with
  | dk h r => exact ⟨_, h, r⟩
  | dt h' r => cases h
theorem Read.dk {v : V} {ds : List (PV × PV)} (s : Same F H) (h : Read K F H v (.dict ds)) (hp : plainD ds = true) : ∃ a kvs, v = .ref a ∧ H a = some (.dK kvs) ∧ RepK K F kvs ds := by
  cases h with
  | val r => cases r with
    | dk h r => exact ⟨_, _, rfl, s _ _ h, r⟩
    | dt h r => cases hp
    | lk h r => cases hp
  | own r =>
    obtain ⟨kvs, h1, h2⟩ := r.isDk hp
    exact ⟨_, _, rfl, h1, h2⟩
end
section
variable {T : List Addr} {X : Cx}
/-- {} -/
def eDk : EF := fun env => some (.dict [], env)
theorem fn_dk {pos : Pos} : FN T X (.Dict [] [] pos) eDk := pe_dnewK.weak fun σ H Q ⟨gh, F, env, d, env', R, e, q⟩ => by
  cases e
  intro p hp
  obtain ⟨h0, nT, hF⟩ := R.fresh hp
  exact q p _ F (R.laid hp) (Same.refl _) hF h0 (R.own_ne hp) (.dk upd_same .nil)
def putIx (i : Nat) (fk fe : EF) : SF := fun env => match fe env with
  | none => none
  | some (d, e) => match Fx.mine e i with
    | none => none
    | some _ => match fk e with
      | none => none
      | some (y, e2) => match keyOf y with
        | none => none
        | some k => match Fx.mine e2 i with
          | some (.dict ds) => if plainD ds = true ∧ ds.length < sizeLine then some (.nx (putM e2 i (.dict (dPut k d ds)))) else none
          | _ => none
/-- d[k] = e, d a dict of its own at slot i -/
theorem fs_putIx (i : Nat) {x : Str} {px tpos pos : Pos} {b a : Expr} {fk fe : EF} (hu : X.A.units + 1 < cLine) (hb : FE T X b fk) (ha : FE T X a fe) (hN : X.N[i]? = some x := by rfl) (hv : Vis X.env.scope x := by first | exact Or.inl rfl | exact Or.inr (Or.inl rfl) | exact Or.inr (Or.inr rfl))
    (hd : (x == ("__debug__" : Str)) = false := by decide) (hcd : (x == ("__classdict__" : Str)) = false := by decide) (hs : swapsWith a (some (.Subscript (.Name x px) b tpos)) pos.line X.env = pure false := by rfl) :
    FS T X (.Assign [.Subscript (.Name x px) b tpos] a pos) (putIx i fk fe) :=
  (ps_dput hu (pe_var hN hv hd hcd) hb ha hs).weak fun D σ H ⟨gh, F, env, out, R, e, q⟩ => by
    unfold putIx at e
    split at e
    · cases e
    · rename_i d e1 ef
      refine ⟨gh, F, env, _, _, R, ef, fun v H1 F1 R1 s1 r1 => ?_⟩
      split at e
      · cases e
      · rename_i d0 h0
        obtain ⟨p, ep, _, ho, _⟩ := R1.mine h0
        refine ⟨.ref p, ep, ?_⟩
        split at e
        · cases e
        · rename_i y e2 ek
          refine ⟨gh, F1, _, _, _, R1, ek, fun y' H2 F2 R2 s2 r2 => ?_⟩
          split at e
          · cases e
          · rename_i k hk
            split at e
            · rename_i ds h2
              split at e
              · rename_i hpl
                cases e
                obtain ⟨p', ep', hF1, ho1, upd1⟩ := R2.mine h2
                rw [ep] at ep'; cases ep'
                obtain ⟨kvs, hx, rr⟩ := ho1.isDk hpl.1
                obtain rfl := r2.key hk
                refine ⟨p, _, rfl, DPut.k hx (by rw [rr.len]; exact hpl.2), ?_⟩
                exact q _ _ F2 (upd1 _ _ (.dk upd_same (RepK.put (r1.mono s2) rr))) (s1.trans s2)
              · cases e
            · cases e
def dIx (i : Nat) (fb : EF) : EF := fun env => match Fx.cont env i with
  | none => none
  | some _ => match fb env with
    | none => none
    | some (y, e) => match keyOf y with
      | none => none
      | some k => match Fx.cont e i with
        | some (.dict ds) => if plainD ds = true then (match dVal k ds with
            | none => none
            | some r => some (r, e)) else none
        | _ => none
/-- d[k], d at slot i -/
theorem fe_dIx (i : Nat) {x : Str} {px pos : Pos} {b : Expr} {fb : EF} (hu : X.A.units + 1 < cLine) (hb : FE T X b fb) (hN : X.N[i]? = some x := by rfl) (hv : Vis X.env.scope x := by first | exact Or.inl rfl | exact Or.inr (Or.inl rfl) | exact Or.inr (Or.inr rfl)) (hs : NoSl b := by exact fun _ _ => rfl)
    (hd : (x == ("__debug__" : Str)) = false := by decide) (hcd : (x == ("__classdict__" : Str)) = false := by decide) : FE T X (.Subscript (.Name x px) b pos) (dIx i fb) :=
  (pe_dget hu (pe_var hN hv hd hcd) hb hs).weak fun σ H Q ⟨gh, F, env, d, env', R, e, q⟩ => by
    unfold dIx at e
    split at e
    · cases e
    · rename_i d0 h0
      obtain ⟨v, ev, _⟩ := R.cont h0
      refine ⟨v, ev, ?_⟩
      split at e
      · cases e
      · rename_i y e1 eb
        refine ⟨gh, F, env, _, _, R, eb, fun y' H1 F1 R1 s1 rb => ?_⟩
        split at e
        · cases e
        · rename_i k hk
          split at e
          · rename_i ds h1
            split at e
            · rename_i hp
              split at e
              · cases e
              · rename_i r er
                cases e
                obtain ⟨v', ev', rd⟩ := R1.cont h1
                rw [ev] at ev'
                cases ev'
                obtain ⟨a, kvs, rfl, hl, rr⟩ := rd.dk R1.sub hp
                obtain ⟨w, e2, r2⟩ := rr.val.1 _ er
                obtain rfl := rb.key hk
                exact ⟨a, w, rfl, by rw [← e2]; exact DGet.k hl, q _ _ _ R1 s1 r2⟩
            · cases e
          · cases e
def dIn (g : Bool → Bool) (i : Nat) (fb : EF) : EF := fun env => match fb env with
  | none => none
  | some (y, e) => match keyOf y with
    | none => none
    | some k => match Fx.cont e i with
      | some (.dict ds) => if plainD ds = true then some (.bool (g (dVal k ds).isSome), e) else none
      | _ => none
theorem dIn_run {i : Nat} {g : Bool → Bool} {fb : EF} {K : PySem.W.Frag} {σ : St} {H : Hp} {Q : VK} (h : RE T K (dIn g i fb) σ H Q) : RE T K fb σ H fun y H1 => tVar i σ H1 fun x H2 => ∃ a o, x = .ref a ∧ DGet H2 a y o ∧ Q (.bl (g o.isSome)) H2 := by
  obtain ⟨gh, F, env, d, env', R, e, q⟩ := h
  unfold dIn at e
  split at e
  · cases e
  · rename_i y e1 eb
    refine ⟨gh, F, env, _, _, R, eb, fun y' H1 F1 R1 s1 rb => ?_⟩
    split at e
    · cases e
    · rename_i k hk
      split at e
      · rename_i ds h1
        split at e
        · rename_i hp
          cases e
          obtain ⟨v', ev', rd⟩ := R1.cont h1
          obtain ⟨a, kvs, rfl, hl, rr⟩ := rd.dk R1.sub hp
          obtain rfl := rb.key hk
          refine ⟨_, ev', a, valV kvs k, rfl, DGet.k hl, ?_⟩
          have e3 : (valV kvs k).isSome = (dVal k ds).isSome := by
            cases hv : dVal k ds with
            | none => rw [rr.val.2 hv]; rfl
            | some r =>
              obtain ⟨w, e2, _⟩ := rr.val.1 _ hv
              rw [e2]; rfl
          rw [e3]
          exact q _ _ _ R1 s1 (.bl _)
        · cases e
      · cases e
theorem fe_dIn (i : Nat) {x : Str} {px pos : Pos} {b : Expr} {fb : EF} (hu : X.A.units + 1 < cLine) (hb : FE T X b fb) (hN : X.N[i]? = some x := by rfl) (hv : Vis X.env.scope x := by first | exact Or.inl rfl | exact Or.inr (Or.inl rfl) | exact Or.inr (Or.inr rfl))
    (hd : (x == ("__debug__" : Str)) = false := by decide) (hcd : (x == ("__classdict__" : Str)) = false := by decide) (h1 : behindInMarks .In (.Name x px) = false := by rfl) : FE T X (.Compare b [.In] [.Name x px] pos) (dIn id i fb) :=
  (pe_cmp (pc_din hu hb (pe_var hN hv hd hcd)) h1).weak fun σ H Q h => dIn_run h
theorem fe_dNotIn (i : Nat) {x : Str} {px pos : Pos} {b : Expr} {fb : EF} (hu : X.A.units + 1 < cLine) (hb : FE T X b fb) (hN : X.N[i]? = some x := by rfl) (hv : Vis X.env.scope x := by first | exact Or.inl rfl | exact Or.inr (Or.inl rfl) | exact Or.inr (Or.inr rfl))
    (hd : (x == ("__debug__" : Str)) = false := by decide) (hcd : (x == ("__classdict__" : Str)) = false := by decide) (h1 : behindInMarks .NotIn (.Name x px) = false := by rfl) : FE T X (.Compare b [.NotIn] [.Name x px] pos) (dIn not i fb) :=
  (pe_cmp (pc_dnotin hu hb (pe_var hN hv hd hcd)) h1).weak fun σ H Q h => dIn_run h
theorem ft_dIn (i : Nat) {x : Str} {px pos : Pos} {b : Expr} {fb : EF} (hu : X.A.units + 1 < cLine) (hb : FE T X b fb) (hN : X.N[i]? = some x := by rfl) (hv : Vis X.env.scope x := by first | exact Or.inl rfl | exact Or.inr (Or.inl rfl) | exact Or.inr (Or.inr rfl))
    (hd : (x == ("__debug__" : Str)) = false := by decide) (hcd : (x == ("__classdict__" : Str)) = false := by decide) (h1 : behindInMarks .In (.Name x px) = false := by rfl) : FT T X (.Compare b [.In] [.Name x px] pos) (tB' (dIn id i fb)) :=
  (pt_cmp (pc_din hu hb (pe_var hN hv hd hcd)) h1).weak fun σ H Q h => rt_b σ H Q h |> fun z => dIn_run z
theorem ft_dNotIn (i : Nat) {x : Str} {px pos : Pos} {b : Expr} {fb : EF} (hu : X.A.units + 1 < cLine) (hb : FE T X b fb) (hN : X.N[i]? = some x := by rfl) (hv : Vis X.env.scope x := by first | exact Or.inl rfl | exact Or.inr (Or.inl rfl) | exact Or.inr (Or.inr rfl))
    (hd : (x == ("__debug__" : Str)) = false := by decide) (hcd : (x == ("__classdict__" : Str)) = false := by decide) (h1 : behindInMarks .NotIn (.Name x px) = false := by rfl) : FT T X (.Compare b [.NotIn] [.Name x px] pos) (tB' (dIn not i fb)) :=
  (pt_cmp (pc_dnotin hu hb (pe_var hN hv hd hcd)) h1).weak fun σ H Q h => rt_b σ H Q h |> fun z => dIn_run z
end
end Fx

namespace Fx
open PySem PySem.Spec L2
open PyProof.Rows hiding St
def ioF (e : Ev) (vs : List Nat) : Bool := vs.all fun i => match e[i]? with | some (.io _) => false | _ => true
def coF2 (vs vs1 : List Nat) (bi : BF) (t : TF) (w1 : AF) (bi1 : BF) (t1 : TF) (f : EF) : List PV → List PV → Ev → Option (List PV × Ev)
  | [], acc, env => some (acc, env)
  | d :: ds, acc, env => match bi d env with
    | none => none
    | some e => match t e with
      | none => none
      | some (false, e2) => coF2 vs vs1 bi t w1 bi1 t1 f ds acc (wipeE e2 vs)
      | some (true, e2) => match w1 e2 with
        | none => none
        | some (ds1, e3) => match coF vs1 bi1 t1 f ds1 acc (wipeE e3 vs1) with
          | none => none
          | some (acc2, e4) => coF2 vs vs1 bi t w1 bi1 t1 f ds acc2 (wipeE e4 vs)
def eLc2 (vs vs1 : List Nat) (w : AF) (bi : BF) (t : TF) (w1 : AF) (bi1 : BF) (t1 : TF) (f : EF) : EF := fun env => match w env with
  | none => none
  | some (ds, e) => if ioF e vs = true then match coF2 vs vs1 bi t w1 bi1 t1 f ds [] (wipeE e vs) with
      | none => none
      | some (acc, e2) => some (.list acc, wipeE e2 vs)
    else none
theorem wipe_wipe {σ : St} {vs : List Nat} : L2.wipe (L2.wipe σ vs) vs = L2.wipe σ vs := by
  apply List.ext_getElem?
  intro j
  rw [wipe_get, wipe_get, wipe_length]
  split <;> rfl
theorem wipe_sub {σ : St} {vs vs1 : List Nat} (h : ∀ i ∈ vs1, i ∈ vs) : L2.wipe (L2.wipe σ vs1) vs = L2.wipe σ vs := by
  apply List.ext_getElem?
  intro j
  rw [wipe_get, wipe_get, wipe_length, wipe_get]
  by_cases hj : j ∈ vs ∧ j < σ.length
  · rw [if_pos hj, if_pos hj]
  · rw [if_neg hj, if_neg hj, if_neg (fun z => hj ⟨h j z.1, z.2⟩)]
section
variable {T : List Addr} {X : Cx}
/-- the inner turns -/
theorem inner_lc {K : PySem.W.Frag} {vs1 ts1 : List Nat} {bi1 : BF} {t1 : TF} {f : EF} (hts1 : ∀ i ∈ ts1, i ∈ vs1) {gh : Gh} {D : Addr} {F2 : Hp} {σ2 : St} {J1 : It} {ds1 : List PV} {Nx : Hp → Prop} {acc accI : List PV} {xs : List V} {e3 eI : Ev} {H4 : Hp} (hD0 : gh.H0 D = none)
    (al2 : ∀ o, (D, o) ∉ gh.tmp) (nio : ∀ i ∈ vs1, ∀ a, (i, a) ∉ gh.io) (R4 : Rel T K (gh.pin D (.lst xs)) F2 H4 σ2 e3) (rr : Reps K F2 xs acc)
    (Y1 : Yields T K J1 ds1 F2) (ec : coF vs1 bi1 t1 f ds1 acc (wipeE e3 vs1) = some (accI, eI))
    (hN : ∀ H F' xs', Rel T K gh F' H (L2.wipe σ2 vs1) eI → Same F2 F' → H D = some (.lst xs') → F' D = none → Alone gh eI (L2.wipe σ2 vs1) D → Reps K F' xs' accI → Nx H) :
    ∃ W1 : Nat → Nat → Hp → Prop, (∃ m, W1 0 m H4) ∧ ∀ j k H, W1 j k H →
      (J1.stop j H ∧ Nx H) ∨ (J1.go j H ∧ ∃ Nx1 : Hp → Prop, (∀ H', Nx1 H' → ∃ k', k' < k ∧ W1 (j + 1) k' H') ∧ ∀ x H', J1.yld j H x H' → RB T K ts1 bi1 x (L2.wipe σ2 vs1) H' fun σ3 H5 => L2.wipe σ3 vs1 = L2.wipe σ2 vs1 ∧ RT T K t1 σ3 H5 fun b H6 =>
        if b = true then RE T K f σ3 H6 fun y H7 => ∃ acc, H7 D = some (.lst acc) ∧ acc.length < sizeLine ∧ Nx1 (upd H7 D (.lst (acc ++ [y]))) else Nx1 H6) := by
  obtain ⟨R4', hD4, hF4, al4⟩ := R4.unpin al2
  have R5 := R4'.wipe nio
  have al5 : Alone gh (wipeE e3 vs1) (L2.wipe σ2 vs1) D := ⟨fun i hi => by
    rw [wipe_out (wipeE_owns hi).2]
    exact al4.1 i (wipeE_owns hi).1, al4.2⟩
  refine ⟨fun j k H => k = ds1.length - j ∧ ∃ F' env' acc' xs, Rel T K gh F' H (L2.wipe σ2 vs1) env' ∧ Same F2 F' ∧ H D = some (.lst xs) ∧ F' D = none ∧ Alone gh env' (L2.wipe σ2 vs1) D ∧ Reps K F' xs acc' ∧ coF vs1 bi1 t1 f (ds1.drop j) acc' env' = some (accI, eI),
    ⟨_, rfl, F2, _, _, _, R5, Same.refl _, hD4, hF4, al5, rr, by simpa using ec⟩, ?_⟩
  rintro j k H ⟨rfl, F5, env5, acc5, xs5, R5, s5, hx, hF5, al5, rr5, e'⟩
  have R5p : Rel T K (gh.pin D (.lst xs5)) F5 H (L2.wipe σ2 vs1) env5 := R5.pin hx hF5 trivial al5
  obtain ⟨yi, yn⟩ := Y1 (gh.pin D (.lst xs5)) j F5 H _ env5 R5p s5
  cases hd : ds1[j]? with
  | none =>
    have hl : ds1.length ≤ j := List.getElem?_eq_none_iff.mp hd
    rw [List.drop_of_length_le hl] at e'
    injection e' with e'
    injection e' with ea eb
    subst ea; subst eb
    exact .inl ⟨yn hd, hN H F5 xs5 R5 s5 hx hF5 al5 rr5⟩
  | some d =>
    obtain ⟨hgo, hy⟩ := yi d hd
    have hl : j < ds1.length := (List.getElem?_eq_some_iff.mp hd).1
    have ed : ds1.drop j = d :: ds1.drop (j + 1) := by
      rw [List.drop_eq_getElem_cons hl]
      rw [List.getElem?_eq_getElem hl] at hd
      cases hd; rfl
    rw [ed] at e'
    unfold coF at e'
    refine .inr ⟨hgo, fun H' => ∃ F' env' acc' xs, Rel T K gh F' H' (L2.wipe σ2 vs1) env' ∧ Same F2 F' ∧ H' D = some (.lst xs) ∧ F' D = none ∧ Alone gh env' (L2.wipe σ2 vs1) D ∧ Reps K F' xs acc' ∧ coF vs1 bi1 t1 f (ds1.drop (j + 1)) acc' env' = some (accI, eI),
      fun H' h => ⟨ds1.length - (j + 1), by omega, rfl, h⟩, fun x H' hx' => ?_⟩
    obtain ⟨F6, R6, s6, rx⟩ := hy x H' hx'
    split at e'
    · cases e'
    · rename_i e3 eb
      refine ⟨gh.pin D (.lst xs5), F6, env5, d, e3, R6, rx, eb, fun σ4 H7 F7 R7 s7 w4 => ?_⟩
      have ew4 := w4 vs1 hts1
      rw [wipe_wipe] at ew4
      refine ⟨ew4, ?_⟩
      split at e'
      · cases e'
      · rename_i e4 et
        refine ⟨gh.pin D (.lst xs5), F7, e3, _, _, R7, et, fun H8 F8 R8 s8 => iteF ?_⟩
        obtain ⟨R9, hD9, hF9, al9⟩ := R8.unpin al5.2
        have R10 := R9.wipe nio
        rw [ew4] at R10
        refine ⟨F8, _, acc5, xs5, R10, s5.trans (s6.trans (s7.trans s8)), hD9, hF9, ⟨fun j hj => ?_, al9.2⟩, rr5.mono (s6.trans (s7.trans s8)), e'⟩
        have h1 := al9.1 j (wipeE_owns hj).1
        rw [← ew4, wipe_out (wipeE_owns hj).2]
        exact h1
      · rename_i e4 et
        refine ⟨gh.pin D (.lst xs5), F7, e3, _, _, R7, et, fun H8 F8 R8 s8 => iteT ?_⟩
        split at e'
        · cases e'
        · rename_i r e5 ef
          split at e'
          · rename_i hlen
            refine ⟨gh.pin D (.lst xs5), F8, e4, _, _, R8, ef, fun y H9 F9 R9 s9 r9 => ?_⟩
            obtain ⟨R10, hD10, hF10, al10⟩ := R9.unpin al5.2
            refine ⟨xs5, hD10, by rw [rr5.len]; exact hlen, ?_⟩
            have R11 := (R10.grow (o' := .lst (xs5 ++ [y])) hD0 hD10 (fun ps z => nomatch z) hF10 al10).wipe nio
            rw [ew4] at R11
            have s69 := s6.trans (s7.trans (s8.trans s9))
            refine ⟨F9, _, _, _, R11, s5.trans s69, upd_same, hF10, ⟨fun j hj => ?_, al10.2⟩, (rr5.mono s69).append (.one r9), e'⟩
            have h1 := al10.1 j (wipeE_owns hj).1
            rw [← ew4, wipe_out (wipeE_owns hj).2]
            exact h1
          · cases e'
theorem rn_lc2 {K : PySem.W.Frag} {vs ts vs1 ts1 : List Nat} {w : AF} {bi : BF} {t : TF} {w1 : AF} {bi1 : BF} {t1 : TF} {f : EF} (hv : ∀ i ∈ vs1, i ∈ vs) (hts : ∀ i ∈ ts, i ∈ vs) (hts1 : ∀ i ∈ ts1, i ∈ vs1) : ∀ σ H Q, RN T K (eLc2 vs vs1 w bi t w1 bi1 t1 f) σ H Q → tLc2 (RI T K w) (RB T K ts bi) (RT T K t) (RI T K w1) (RB T K ts1 bi1) (RT T K t1) (RE T K f) vs vs1 σ H Q := by
  rintro σ H Q ⟨gh, F, env, d, env', R, e, q⟩
  unfold eLc2 at e
  split at e
  · cases e
  · rename_i ds e1 ew
    split at e
    · rename_i hio
      split at e
      · cases e
      · rename_i acc e2 ec
        cases e
        refine ⟨gh, F, env, _, _, R, ew, fun J H1 F1 R1 s1 Y D hD => ?_⟩
        have nio : ∀ i ∈ vs, ∀ a, (i, a) ∉ gh.io := fun i hi a z => by
          obtain ⟨_, d, hd⟩ := R1.iok i a z
          have := List.all_eq_true.mp hio i hi
          rw [hd] at this
          cases this
        have nio1 : ∀ i ∈ vs1, ∀ a, (i, a) ∉ gh.io := fun i hi => nio i (hv i hi)
        obtain ⟨hD0, hDT, hDF⟩ := R1.fresh hD
        have hal := R1.own_ne hD
        have R1' : Rel T K gh F1 (upd H1 D (.lst [])) (L2.wipe σ vs) (wipeE e1 vs) := (R1.laid hD).wipe nio
        have alD : Alone gh (wipeE e1 vs) (L2.wipe σ vs) D := ⟨fun i hi => by
          rw [wipe_out (wipeE_owns hi).2]
          exact hal.1 i (wipeE_owns hi).1, hal.2⟩
        refine ⟨fun i m H => m = ds.length - i ∧ ∃ F' env' acc' xs, Rel T K gh F' H (L2.wipe σ vs) env' ∧ Same F1 F' ∧ H D = some (.lst xs) ∧ F' D = none ∧ Alone gh env' (L2.wipe σ vs) D ∧ Reps K F' xs acc' ∧ coF2 vs vs1 bi t w1 bi1 t1 f (ds.drop i) acc' env' = some (acc, e2),
          ⟨_, rfl, F1, _, [], [], R1', Same.refl _, upd_same, hDF, alD, .nil, by simpa using ec⟩, ?_⟩
        rintro i m H2 ⟨rfl, F2, env2, acc2, xs, R2, s2, hx, hF2, al2, rr, e'⟩
        have R2p : Rel T K (gh.pin D (.lst xs)) F2 H2 (L2.wipe σ vs) env2 := R2.pin hx hF2 trivial al2
        obtain ⟨yi, yn⟩ := Y (gh.pin D (.lst xs)) i F2 H2 _ env2 R2p s2
        cases hd : ds[i]? with
        | none =>
          have hl : ds.length ≤ i := List.getElem?_eq_none_iff.mp hd
          rw [List.drop_of_length_le hl] at e'
          injection e' with e'
          injection e' with ea eb
          subst ea; subst eb
          refine .inl ⟨yn hd, ?_⟩
          have R3 : Rel T K gh F2 H2 σ (wipeE env2 vs) := R2.swap (σ' := σ) nio (wipe_length _ _).symm fun j hj => (wipe_out hj).symm
          refine q D H2 F2 R3 (s1.trans s2) hF2 hD0 ⟨fun j hj => ?_, al2.2⟩ (.lst hx rr)
          have h1 := al2.1 j (wipeE_owns hj).1
          rw [wipe_out (wipeE_owns hj).2] at h1
          exact h1
        | some d =>
          obtain ⟨hgo, hy⟩ := yi d hd
          have hl : i < ds.length := (List.getElem?_eq_some_iff.mp hd).1
          have ed : ds.drop i = d :: ds.drop (i + 1) := by
            rw [List.drop_eq_getElem_cons hl]
            rw [List.getElem?_eq_getElem hl] at hd
            cases hd; rfl
          rw [ed] at e'
          unfold coF2 at e'
          refine .inr ⟨hgo, fun H' => ∃ F' env' acc' xs, Rel T K gh F' H' (L2.wipe σ vs) env' ∧ Same F1 F' ∧ H' D = some (.lst xs) ∧ F' D = none ∧ Alone gh env' (L2.wipe σ vs) D ∧ Reps K F' xs acc' ∧ coF2 vs vs1 bi t w1 bi1 t1 f (ds.drop (i + 1)) acc' env' = some (acc, e2),
            fun H' h => ⟨ds.length - (i + 1), by omega, rfl, h⟩, fun x H' hx' => ?_⟩
          obtain ⟨F3, R3, s3, rx⟩ := hy x H' hx'
          split at e'
          · cases e'
          · rename_i e3 eb
            refine ⟨gh.pin D (.lst xs), F3, env2, d, e3, R3, rx, eb, fun σ4 H4 F4 R4 s4 w4 => ?_⟩
            have ew4 := w4 vs hts
            rw [wipe_wipe] at ew4
            refine ⟨ew4, ?_⟩
            split at e'
            · cases e'
            · rename_i e4 et
              refine ⟨gh.pin D (.lst xs), F4, e3, _, _, R4, et, fun H5 F5 R5 s5 => iteF ?_⟩
              obtain ⟨R6, hD6, hF6, al6⟩ := R5.unpin al2.2
              have R7 := R6.wipe nio
              rw [ew4] at R7
              refine ⟨F5, _, acc2, xs, R7, s2.trans (s3.trans (s4.trans s5)), hD6, hF6, ⟨fun j hj => ?_, al6.2⟩, rr.mono (s3.trans (s4.trans s5)), e'⟩
              have h1 := al6.1 j (wipeE_owns hj).1
              rw [← ew4, wipe_out (wipeE_owns hj).2]
              exact h1
            · rename_i e4 et
              refine ⟨gh.pin D (.lst xs), F4, e3, _, _, R4, et, fun H5 F5 R5 s5 => iteT ?_⟩
              split at e'
              · cases e'
              · rename_i ds1 e5 ew1
                split at e'
                · cases e'
                · rename_i accI eI ec1
                  refine ⟨gh.pin D (.lst xs), F5, e4, _, _, R5, ew1, fun J1 H6 F6 R6 s6 Y1 => ?_⟩
                  have s26 := s3.trans (s4.trans (s5.trans s6))
                  refine inner_lc hts1 hD0 al2.2 nio1 R6 (rr.mono s26) Y1 ec1 fun H7 F7 xs7 R7 s7 hx7 hF7 al7 rr7 => ?_
                  have R8 := R7.wipe nio
                  rw [wipe_sub hv, ew4] at R8
                  refine ⟨F7, _, accI, xs7, R8, s2.trans (s26.trans s7), hx7, hF7, ⟨fun j hj => ?_, al7.2⟩, rr7, e'⟩
                  have h1 := al7.1 j (wipeE_owns hj).1
                  have hj1 : j ∉ vs1 := fun z => (wipeE_owns hj).2 (hv j z)
                  rw [wipe_out hj1] at h1
                  rw [← ew4, wipe_out (wipeE_owns hj).2]
                  exact h1
    · cases e
/-- [e for tg in iter if .. for tg1 in iter1 if ..] -/
theorem fn_lc2 (vs1 : List Nat) {elt tg iter tg1 iter1 : Expr} {ifs ifs1 : List Expr} {scope : Scope} {pos : Pos} {own : List (Str × Nat)} {ts ts1 : List Nat} {w w1 : AF} {bi bi1 : BF} {t t1 : TF} {f : EF} (hc : X.calm = true) (hN : X.N.Nodup) (hi : FI T X tg iter w) (ok : BlkOk X.N X.env.scope scope own)
    (hg : ∀ (s : Shared) (H : Hp) (C : Addr) (cl : List (Str × Addr)) (fp : List Addr), FB T (X.blk s H scope (compEnvC scope cl C X.env) fp) tg ts bi)
    (ht : ∀ (s : Shared) (H : Hp) (C : Addr) (cl : List (Str × Addr)) (fp : List Addr), FTs T (X.blk s H scope (compEnvC scope cl C X.env) fp) ifs t)
    (hi1 : ∀ (s : Shared) (H : Hp) (C : Addr) (cl : List (Str × Addr)) (fp : List Addr), FI T (X.blk s H scope (compEnvC scope cl C X.env) fp) tg1 iter1 w1)
    (hg1 : ∀ (s : Shared) (H : Hp) (C : Addr) (cl : List (Str × Addr)) (fp : List Addr), FB T (X.blk s H scope (compEnvC scope cl C X.env) fp) tg1 ts1 bi1)
    (ht1 : ∀ (s : Shared) (H : Hp) (C : Addr) (cl : List (Str × Addr)) (fp : List Addr), FTs T (X.blk s H scope (compEnvC scope cl C X.env) fp) ifs1 t1)
    (he : ∀ (s : Shared) (H : Hp) (C : Addr) (cl : List (Str × Addr)) (fp : List Addr), FE T (X.blk s H scope (compEnvC scope cl C X.env) fp) elt f) (hv : ∀ i ∈ vs1, i ∈ own.map (·.2) := by decide) (hts : ∀ i ∈ ts, i ∈ own.map (·.2) := by decide) (hts1 : ∀ i ∈ ts1, i ∈ vs1 := by decide)
    (hs : ∀ x, foldedSetIterable iter X.env x = pure x := by intro _; rfl) (hs1 : ∀ env x, foldedSetIterable iter1 env x = pure x := by intro _ _; rfl) :
    FN T X (.ListComp elt [⟨tg, iter, ifs, 0⟩, ⟨tg1, iter1, ifs1, 0⟩] scope pos) (eLc2 (own.map (·.2)) vs1 w bi t w1 bi1 t1 f) :=
  (pe_lc2 (g := RB T X.K ts bi) (tt := RT T X.K t) (g1 := RB T X.K ts1 bi1) (tt1 := RT T X.K t1) (wi1 := RI T X.K w1) (te := RE T X.K f) hc hN hi ok hv hg ht hi1 hg1 ht1 he hs hs1).weak (rn_lc2 hv hts hts1)
theorem fs_setLc2 (i : Nat) (vs1 : List Nat) {y : Str} {py : Pos} {elt tg iter tg1 iter1 : Expr} {ifs ifs1 : List Expr} {scope : Scope} {pos spos : Pos} {own : List (Str × Nat)} {ts ts1 : List Nat} {w w1 : AF} {bi bi1 : BF} {t t1 : TF} {f : EF} (hc : X.calm = true) (hN : X.N.Nodup) (hy : X.N[i]? = some y) (hyl : X.env.scope.names.lookup y = some .local)
    (hsw : swapsWith (.ListComp elt [⟨tg, iter, ifs, 0⟩, ⟨tg1, iter1, ifs1, 0⟩] scope pos) (some (.Name y py)) spos.line X.env = pure true) (hi : FI T X tg iter w) (ok : BlkOk X.N X.env.scope scope own)
    (hg : ∀ (s : Shared) (H : Hp) (C : Addr) (cl : List (Str × Addr)) (fp : List Addr), FB T (X.blk s H scope (compEnvC scope cl C X.env) fp) tg ts bi)
    (ht : ∀ (s : Shared) (H : Hp) (C : Addr) (cl : List (Str × Addr)) (fp : List Addr), FTs T (X.blk s H scope (compEnvC scope cl C X.env) fp) ifs t)
    (hi1 : ∀ (s : Shared) (H : Hp) (C : Addr) (cl : List (Str × Addr)) (fp : List Addr), FI T (X.blk s H scope (compEnvC scope cl C X.env) fp) tg1 iter1 w1)
    (hg1 : ∀ (s : Shared) (H : Hp) (C : Addr) (cl : List (Str × Addr)) (fp : List Addr), FB T (X.blk s H scope (compEnvC scope cl C X.env) fp) tg1 ts1 bi1)
    (ht1 : ∀ (s : Shared) (H : Hp) (C : Addr) (cl : List (Str × Addr)) (fp : List Addr), FTs T (X.blk s H scope (compEnvC scope cl C X.env) fp) ifs1 t1)
    (he : ∀ (s : Shared) (H : Hp) (C : Addr) (cl : List (Str × Addr)) (fp : List Addr), FE T (X.blk s H scope (compEnvC scope cl C X.env) fp) elt f) (hv : ∀ i ∈ vs1, i ∈ own.map (·.2) := by decide) (hts : ∀ i ∈ ts, i ∈ own.map (·.2) := by decide) (hts1 : ∀ i ∈ ts1, i ∈ vs1 := by decide)
    (hs : ∀ x, foldedSetIterable iter X.env x = pure x := by intro _; rfl) (hs1 : ∀ env x, foldedSetIterable iter1 env x = pure x := by intro _ _; rfl) :
    FS T X (.Assign [.Name y py] (.ListComp elt [⟨tg, iter, ifs, 0⟩, ⟨tg1, iter1, ifs1, 0⟩] scope pos) spos) (asgO i (eLc2 (own.map (·.2)) vs1 w bi t w1 bi1 t1 f)) := by
  have base := ps_setLc2 (g := RB T X.K ts bi) (tt := RT T X.K t) (g1 := RB T X.K ts1 bi1) (tt1 := RT T X.K t1) (wi1 := RI T X.K w1) (te := RE T X.K f) hc hN hy hyl hsw hi ok hv hg ht hi1 hg1 ht1 he hs hs1
  refine PS.weak base fun D σ H ⟨gh, F, env, out, R, e, q⟩ => ?_
  unfold asgO at e
  split at e
  · cases e
  · rename_i d e1 ef
    split at e
    · cases e
    · rename_i e2 es
      cases e
      exact rn_lc2 hv hts hts1 σ H _ ⟨gh, F, env, d, e1, R, ef, fun a H1 F1 R1 s1 h1 h2 h3 h4 => q _ _ _ (R1.put es (.inr (.inr ⟨d, a, rfl, rfl, h1, h2, h3, h4⟩))) s1⟩
end
end Fx

namespace Fx
open PySem PySem.Spec L2
open PyProof.Rows hiding St
section
variable {T : List Addr} {X : Cx}
/-- return of a new object -/
def sRetO (f : EF) : SF := fun env => match f env with
  | none => none
  | some (d, e) => some (.rf d e)
theorem fs_retO {e : Expr} {pos : Pos} {f : EF} (he : FN T X e f) : FS T X (.Return (some e) pos) (sRetO f) :=
  (ps_ret he).weak fun D σ H ⟨gh, F, env, out, R, e, q⟩ => by
    unfold sRetO at e
    split at e
    · cases e
    · rename_i d e1 ef
      cases e
      exact ⟨gh, F, env, _, _, R, ef, fun a H1 F1 R1 s1 h1 h2 h3 h4 => q a _ H1 F1 R1 s1 h1 h2 h3 h4⟩
/-- the promise of a def that hands back a new object -/
def spN (T : List Addr) (K : PySem.W.Frag) (g : List PV → Option PV) : Sp := fun vs H Q _ => ∃ F ps d, Same F H ∧ (∀ P ∈ T, GxR.TabG H P ∧ F P = none) ∧ Reps K F vs ps ∧ g ps = some d ∧
  ∀ a H' F', Left T H H' F F' (fun _ => False) → F' a = none → H a = none → Own K F' H' a d → Q (.ref a) H'
theorem cn_call {K : PySem.W.Frag} {g : List PV → Option PV} {f : AF} {E : XK} : ∀ σ H Q, RN T K (callF g f) σ H Q → tCall (spN T K g) [] E (RA T K f) σ H Q := by
  rintro σ H Q ⟨gh, F, env, d, env', R, e, q⟩
  unfold callF at e
  split at e
  · cases e
  · rename_i ds e1 ef
    split at e
    · cases e
    · rename_i d' eg
      cases e
      refine ⟨gh, F, env, _, _, R, ef, fun vs H1 F1 R1 s1 r1 => ⟨F1, ds, d, R1.sub, fun P hP => ⟨R1.tab P hP, R1.nt P hP⟩, by rw [List.append_nil]; exact r1, eg, fun a H2 F2 L h1 h2 ho => ?_⟩⟩
      obtain ⟨h0, nT, hF⟩ := R1.fresh h2
      exact q a H2 F2 (R1.left L) (s1.trans L.frz) h1 h0 (R1.own_ne h2) ho
/-- f(e, ..), f a def that hands back a new object -/
theorem fn_call {CX : CXT} {k : Nat} {f : Addr} {fd : FuncData} {ps : List Str} {g : List PV → Option PV} {E : XK} {x : Str} {p pos : Pos} {e : Expr} {es : List Expr} {h : AF} (F : FnOk X.prog X.w X.K X.mg X.base CX k f fd ps (spN T X.K g)) (hr : Room k X.A) (hm : X.mg x = some (.ref f)) (hk : PySem.W.keepIn X.K (.ref f) = true) (hb : Binds X.K fd ps []) (hx : Passes CX X E)
    (ha : FA T X (e :: es) h) (hg : Gl X x := by rfl) (hdb : (x == ("__debug__" : Str)) = false := by decide) (he : starEach (e :: es) X.env = (false, eval e X.env) :: starEach es X.env := by rfl) (hpl : (backTo pos (starEach es X.env)).any (·.1) = false := by rfl) :
    FN T X (.Call (.Name x p) (e :: es) [] pos) (callF g h) :=
  (pe_call F hr hg hm hk hb .nil hx ha hdb he hpl).weak cn_call
end
def runN (n k : Nat) (b : SF) (ps : List PV) : Option PV := if ps.length = k ∧ k ≤ n then match b (start0 n ps) with
  | some (.rf d _) => some d
  | _ => none
  else none
section
variable {P : Program} {w : World} {K : PySem.W.Frag} {mg : Str → Option Value} {base : Heap} {T : List Addr}
theorem endsN_of {b : SF} {N : List Str} {vs : List V} {H F : Hp} {ps : List PV} {d : PV} {Q : VK} (sF : Same F H) (hT : ∀ P ∈ T, GxR.TabG H P ∧ F P = none) (r : Reps K F vs ps) (e : runN N.length ps.length b ps = some d)
    (q : ∀ a H' F', Left T H H' F F' (fun _ => False) → F' a = none → H a = none → Own K F' H' a d → Q (.ref a) H') : RS T K b { nx := fun _ H' => Q .non H', rt := Q } (L2.start N vs) H := by
  unfold runN at e
  split at e
  · rename_i hk
    have R := rel_start (N := N) sF hT r hk.2
    split at e
    · rename_i d1 e1 eb
      cases e
      exact ⟨_, F, _, _, R, eb, fun a σ' H' F' R' s h1 h2 h3 h4 => q a _ _ (R'.toLeft rfl) h1 h2 h4⟩
    · cases e
  · cases e
theorem fn_new {x qual : Str} {st : Stmt} {f : Addr} {fd : FuncData} {N ps : List Str} {j k n : Nat} {b : SF} (F : Fun K x qual st f fd) (S : FnScope N ps (defScope st)) (hn : N.length = n) (hk : ps.length = k)
    (hbody : ∀ (cdv : Value) (A : Around) (outer : List Env) (s : Shared) (H : Hp) (E : XK), Room j (A.deeper (envOfC qual (defScope st) s.heap.objs.size f cdv)) → FSs T (cxOf CX0 P w K mg base N qual (defScope st) f cdv A outer s H E).nox (defBody st) b) :
    FnOk P w K mg base CX0 (j + 1) f fd ps (spN T K (runN n k b)) := by
  subst hn hk
  refine F.ok S (fun vs H Q E h => ?_) (fun cdv A outer s H vs Q E hr h => ?_)
  · obtain ⟨F, qs, d, _, _, r, e, _⟩ := h
    unfold runN at e
    split at e
    · rename_i hk
      rw [r.len]; exact hk.1
    · cases e
  · obtain ⟨F, qs, d, sF, hT, r, e, q⟩ := h
    have hl : qs.length = ps.length := by
      unfold runN at e
      split at e
      · rename_i hk; exact hk.1
      · cases e
    exact ⟨_, hbody cdv A outer s H E hr, endsN_of sF hT r (by rw [hl]; exact e) q⟩
/-- the script, as the law gets it -/
def scrD (ns : List Int) : PV := .dict [(.bool true, .list (ns.map .int))]
theorem reps_map {F : Hp} : ∀ ns : List Int, Reps K F (ns.map V.int) (ns.map PyData.int)
  | [] => .nil
  | n :: r => .cons (.int n) (reps_map r)
/-- the law's promise, from what it computes -/
theorem law_of {H : Hp} {a : Addr} {ns : List Int} {g : List PV → Option PV} (hS : SqL K H a (ns.map V.int)) (e : g [scrD ns] = some (.bool true)) : spP [] K g [.ref a] H (fun v _ => v = .bl true) fun _ _ _ => False := by
  refine ⟨H, [scrD ns], _, Same.refl _, (fun P z => by cases z), .one (.lk hS (reps_map ns)), e, fun v H' F' L r => ?_⟩
  cases r
  rfl
end
end Fx

namespace Fx
open PySem PySem.Spec L2
open PyProof.Rows hiding St
theorem hu1 {n c : Nat} (h : n + 64 < c) : n + 1 < c := by omega
section
variable {T : List Addr} {X : Cx}
/-- xs * n, a new list -/
def pRepN : PV → PV → Option PV
  | .list xs, .int k => if -(2 ^ 63) ≤ k ∧ k < 2 ^ 63 ∧ xs.length * k.toNat ≤ sizeLine then some (.list (List.replicate k.toNat xs).flatten) else none
  | _, _ => none
def pCatN : PV → PV → Option PV
  | .list xs, .list ys => if xs.length + ys.length ≤ sizeLine then some (.list (xs ++ ys)) else none
  | _, _ => none
theorem reps_rep {K : PySem.W.Frag} {F : Hp} {vs : List V} {ds : List PV} (r : Reps K F vs ds) : ∀ n : Nat, Reps K F (List.replicate n vs).flatten (List.replicate n ds).flatten := fun n => by
  induction n with
  | zero => exact .nil
  | succ n ih =>
    rw [List.replicate_succ, List.replicate_succ, List.flatten_cons, List.flatten_cons]
    exact r.append ih
theorem fn_rep {a b : Expr} {pos : Pos} {fa fb : EF} (ha : FE T X a fa) (hb : FE T X b fb) : FN T X (.BinOp a .Mult b pos) (bin pRepN fa fb) :=
  (pe_op op_rep ha hb).weak fun σ H Q ⟨gh, F, env, d, env', R, e, q⟩ => by
    unfold bin at e
    split at e
    · cases e
    · rename_i d1 e1 ef
      split at e
      · cases e
      · rename_i d2 e2 eg
        split at e
        · cases e
        · rename_i r er
          cases e
          refine ⟨gh, F, env, _, _, R, ef, fun v H1 F1 R1 s1 r1 => ⟨gh, F1, _, _, _, R1, eg, fun w H2 F2 R2 s2 r2 => ?_⟩⟩
          unfold pRepN at er
          split at er
          · split at er
            · rename_i hl
              cases er
              have r1' := r1.mono s2
              cases r1' with
              | lst ha ra =>
                refine ⟨_, _, _, rfl, r2.int_iff, R2.sub _ _ ha, hl.1, hl.2.1, by rw [ra.len]; exact hl.2.2, fun p hp => ?_⟩
                obtain ⟨h0, nT, hF⟩ := R2.fresh hp
                exact q p _ F2 (R2.laid hp) (s1.trans s2) hF h0 (R2.own_ne hp) (.lst upd_same (reps_rep ra _))
            · cases er
          · cases er
theorem fn_cat {a b : Expr} {pos : Pos} {fa fb : EF} (ha : FE T X a fa) (hb : FE T X b fb) : FN T X (.BinOp a .Add b pos) (bin pCatN fa fb) :=
  (pe_op op_cat ha hb).weak fun σ H Q ⟨gh, F, env, d, env', R, e, q⟩ => by
    unfold bin at e
    split at e
    · cases e
    · rename_i d1 e1 ef
      split at e
      · cases e
      · rename_i d2 e2 eg
        split at e
        · cases e
        · rename_i r er
          cases e
          refine ⟨gh, F, env, _, _, R, ef, fun v H1 F1 R1 s1 r1 => ⟨gh, F1, _, _, _, R1, eg, fun w H2 F2 R2 s2 r2 => ?_⟩⟩
          unfold pCatN at er
          split at er
          · split at er
            · rename_i hl
              cases er
              have r1' := r1.mono s2
              cases r1' with
              | lst ha ra =>
                cases r2 with
                | lst hb rb =>
                  refine ⟨_, _, _, _, rfl, rfl, R2.sub _ _ ha, R2.sub _ _ hb, by rw [ra.len, rb.len]; exact hl, fun p hp => ?_⟩
                  obtain ⟨h0, nT, hF⟩ := R2.fresh hp
                  exact q p _ F2 (R2.laid hp) (s1.trans s2) hF h0 (R2.own_ne hp) (.lst upd_same (ra.append rb))
            · cases er
          · cases er
end
section
variable {T : List Addr} {X : Cx}
theorem fs_setLcO (i : Nat) {y : Str} {py : Pos} {elt tg iter : Expr} {ifs : List Expr} {scope : Scope} {pos spos : Pos} {own : List (Str × Nat)} {ts : List Nat} {w : AF} {bi : BF} {t : TF} {f : EF} (hc : X.calm = true) (hN : X.N.Nodup) (hy : X.N[i]? = some y) (hyl : X.env.scope.names.lookup y = some .local)
    (hsw : swapsWith (.ListComp elt [⟨tg, iter, ifs, 0⟩] scope pos) (some (.Name y py)) spos.line X.env = pure true) (hi : FI T X tg iter w) (ok : BlkOk X.N X.env.scope scope own)
    (hg : ∀ (s : Shared) (H : Hp) (C : Addr) (cl : List (Str × Addr)) (fp : List Addr), FB T (X.blk s H scope (compEnvC scope cl C X.env) fp) tg ts bi)
    (ht : ∀ (s : Shared) (H : Hp) (C : Addr) (cl : List (Str × Addr)) (fp : List Addr), FTs T (X.blk s H scope (compEnvC scope cl C X.env) fp) ifs t)
    (he : ∀ (s : Shared) (H : Hp) (C : Addr) (cl : List (Str × Addr)) (fp : List Addr), FE T (X.blk s H scope (compEnvC scope cl C X.env) fp) elt f) (hts : ∀ i ∈ ts, i ∈ own.map (·.2) := by decide)
    (hs : ∀ x, foldedSetIterable iter X.env x = pure x := by intro _; rfl) :
    FS T X (.Assign [.Name y py] (.ListComp elt [⟨tg, iter, ifs, 0⟩] scope pos) spos) (asgO i (eLc (own.map (·.2)) w bi t f)) :=
  (fs_setLc i hc hN hy hyl hsw hi ok hg ht he hts hs).2
end
abbrev FnP (K : PySem.W.Frag) (x : Str) (st : Stmt) (f : Addr) (fd : FuncData) : Prop := FunD K x x (defArgs st) (defBody st) (defScope st) [] [] f fd
section
variable {P : Program} {w : World} {K : PySem.W.Frag} {mg : Str → Option Value} {base : Heap} {T : List Addr}
theorem fd_pure {x : Str} {st : Stmt} {f : Addr} {fd : FuncData} {N ps : List Str} {j k n : Nat} {b : SF} (F : FnP K x st f fd) (S : FnScope N ps (defScope st)) (hn : N.length = n) (hk : ps.length = k)
    (hbody : ∀ (cdv : Value) (A : Around) (outer : List Env) (s : Shared) (H : Hp) (E : XK), Room j (A.deeper (envOfC x (defScope st) s.heap.objs.size f cdv)) → FSs T (cxOf CX0 P w K mg base N x (defScope st) f cdv A outer s H E).nox (defBody st) b) :
    FnOk P w K mg base CX0 (j + 1) f fd ps (spP T K (runP n k b)) := by
  subst hn hk
  refine F.ok S (fun vs H Q E h => ?_) (fun cdv A outer s H vs Q E hr h => ?_)
  · obtain ⟨F, qs, d, _, _, r, e, _⟩ := h
    unfold runP at e
    split at e
    · rename_i hk
      rw [r.len]; exact hk.1
    · cases e
  · obtain ⟨F, qs, d, sF, hT, r, e, q⟩ := h
    have hl : qs.length = ps.length := by
      unfold runP at e
      split at e
      · rename_i hk; exact hk.1
      · cases e
    exact ⟨_, (hbody cdv A outer s H E hr).nox, ends_of sF hT r (by rw [hl]; exact e) q⟩
theorem fd_new {x : Str} {st : Stmt} {f : Addr} {fd : FuncData} {N ps : List Str} {j k n : Nat} {b : SF} (F : FnP K x st f fd) (S : FnScope N ps (defScope st)) (hn : N.length = n) (hk : ps.length = k)
    (hbody : ∀ (cdv : Value) (A : Around) (outer : List Env) (s : Shared) (H : Hp) (E : XK), Room j (A.deeper (envOfC x (defScope st) s.heap.objs.size f cdv)) → FSs T (cxOf CX0 P w K mg base N x (defScope st) f cdv A outer s H E).nox (defBody st) b) :
    FnOk P w K mg base CX0 (j + 1) f fd ps (spN T K (runN n k b)) := by
  subst hn hk
  refine F.ok S (fun vs H Q E h => ?_) (fun cdv A outer s H vs Q E hr h => ?_)
  · obtain ⟨F, qs, d, _, _, r, e, _⟩ := h
    unfold runN at e
    split at e
    · rename_i hk
      rw [r.len]; exact hk.1
    · cases e
  · obtain ⟨F, qs, d, sF, hT, r, e, q⟩ := h
    have hl : qs.length = ps.length := by
      unfold runN at e
      split at e
      · rename_i hk; exact hk.1
      · cases e
    exact ⟨_, (hbody cdv A outer s H E hr).nox, endsN_of sF hT r (by rw [hl]; exact e) q⟩
theorem fd_io {x : Str} {st : Stmt} {f : Addr} {fd : FuncData} {N ps : List Str} {j k n : Nat} {b : SF} (F : FnP K x st f fd) (S : FnScope N ps (defScope st)) (hn : N.length = n) (hk : ps.length = k)
    (hbody : ∀ (cdv : Value) (A : Around) (outer : List Env) (s : Shared) (H : Hp) (E : XK), Room j (A.deeper (envOfC x (defScope st) s.heap.objs.size f cdv)) → FSs T (cxOf CX0 P w K mg base N x (defScope st) f cdv A outer s H E).nox (defBody st) b) :
    FnOk P w K mg base CX0 (j + 1) f fd ps (spIO T K (runIO n k b)) := by
  subst hn hk
  refine F.ok S (fun vs H Q E h => ?_) (fun cdv A outer s H vs Q E hr h => ?_)
  · obtain ⟨F, a, vs', qs, d, d', r, rfl, _, _, _, _, rr, e, _⟩ := h
    unfold runIO at e
    split at e
    · rename_i hk
      rw [List.length_cons, rr.len]; exact hk.1
    · cases e
  · obtain ⟨F, a, vs', qs, d, d', r, rfl, sF, hT, hF, ho, rr, e, q⟩ := h
    have hl : qs.length + 1 = ps.length := by
      unfold runIO at e
      split at e
      · rename_i hk; exact hk.1
      · cases e
    exact ⟨_, (hbody cdv A outer s H E hr).nox, endsIO_of sF hT hF ho rr (by rw [hl]; exact e) q⟩
end
def bltB (K : PySem.W.Frag) (b : Str × String) : Bool := He.eqO (PySem.W.nsIn K mainGlobals b.1) (some (some (.builtin b.2)))
def obsG (bl : List (Str × String)) (fa : List He.Fa) (fn : List He.DefD) (K : PySem.W.Frag) : He.AlD := (bl.all (bltB K) && (He.obsD fa fn K).1, (He.obsD fa fn K).2)
def SaysG (bl : List (Str × String)) (fa : List He.Fa) (fn : List He.DefD) (K : PySem.W.Frag) : Prop := obsG bl fa fn K = He.valD fn
def obsGG (n : Nat) (bl : List (Str × String)) (fa : List He.Fa) (fn : List He.DefD) (g : Addr → Option Obj) : He.AlD := obsG bl fa fn (He.frG g (He.asD g n))
def hookG (n : Nat) (bl : List (Str × String)) (fa : List He.Fa) (fn : List He.DefD) : PySem.W.Hook where
  α := He.AlD
  obs := fun s => obsGG n bl fa fn s.heap.get?
  val := fun _ => He.valD fn
  says := fun _ h => ∃ K : PySem.W.Frag, K.In h ∧ SaysG bl fa fn K
  of := fun _ _ e => ⟨_, He.frG_in, e⟩
  keeps := fun _ _ _ ⟨K, hK, c⟩ k => ⟨K, PySem.W.Frag.In.keeps hK k, c⟩
theorem obsGG_eq {n : Nat} {bl : List (Str × String)} {fa : List He.Fa} {fn : List He.DefD} {g : Addr → Option Obj} {s : Shared} (h : ∀ a, g a = s.heap.get? a) : obsGG n bl fa fn g = (hookG n bl fa fn).obs s := by
  have e : g = s.heap.get? := funext h
  rw [e] <;> rfl
section
variable {bl : List (Str × String)} {fa : List He.Fa} {fn : List He.DefD} {K : PySem.W.Frag}
theorem SaysG.d (c : SaysG bl fa fn K) : He.SaysD fa fn K := by
  have h1 : (bl.all (bltB K) && (He.obsD fa fn K).1) = true := congrArg (fun z : He.AlD => z.1) c
  have h2 : (He.obsD fa fn K).2 = (He.valD fn).2 := by
    have := congrArg (fun z : He.AlD => z.2) (show obsG bl fa fn K = He.valD fn from c)
    exact this
  exact Prod.ext (He.ba h1).2 h2
theorem SaysG.blt (c : SaysG bl fa fn K) {h : Heap} {mg : Str → Option Value} (X : K.In h) (G : h.Ns mainGlobals mg) (i : Nat) {b : Str × String} (e : bl[i]? = some b := by rfl) : mg b.1 = some (.builtin b.2) := by
  have h1 : (bl.all (bltB K) && (He.obsD fa fn K).1) = true := congrArg (fun z : He.AlD => z.1) c
  have h2 := List.all_eq_true.mp (He.ba h1).1 b (List.mem_of_getElem? e)
  exact PySem.W.mg_of X G (He.eqO_ok h2)
end
end Fx

noncomputable section
namespace Fx
open PySem PySem.Spec L2
open PyProof.Rows hiding St
def gtF {α : Type} (i : Nat) : List α → Option α := Nat.rec (motive := fun _ => List α → Option α) (fun env => List.casesOn (motive := fun _ => Option α) env none (fun a _ => some a)) (fun _ ih env => List.casesOn (motive := fun _ => Option α) env none (fun _ r => ih r)) i
def stF {α : Type} (i : Nat) : List α → α → List α := Nat.rec (motive := fun _ => List α → α → List α) (fun env s => List.casesOn (motive := fun _ => List α) env [] (fun _ r => s :: r)) (fun _ ih env s => List.casesOn (motive := fun _ => List α) env [] (fun a r => a :: ih r s)) i
def lnF {α : Type} (xs : List α) : Nat := List.rec (motive := fun _ => Nat) 0 (fun _ _ ih => Nat.succ ih) xs
theorem gtF_eq {α : Type} : ∀ (i : Nat) (xs : List α), gtF i xs = xs[i]?
  | 0, [] => rfl
  | 0, _ :: _ => rfl
  | _ + 1, [] => rfl
  | i + 1, _ :: r => gtF_eq i r
theorem stF_eq {α : Type} : ∀ (i : Nat) (xs : List α) (s : α), stF i xs s = xs.set i s
  | 0, [], _ => rfl
  | 0, _ :: _, _ => rfl
  | _ + 1, [], _ => rfl
  | i + 1, a :: r, s => congrArg (a :: ·) (stF_eq i r s)
theorem lnF_eq {α : Type} : ∀ (xs : List α), lnF xs = xs.length
  | [] => rfl
  | _ :: r => congrArg Nat.succ (lnF_eq r)
def atF {α : Type} (xs : List α) (i : Int) : Option α := match ixN (lnF xs) i with
  | none => none
  | some j => gtF j xs
theorem atF_eq {α : Type} (xs : List α) (i : Int) : atF xs i = atI xs i := by
  unfold atF atI
  rw [lnF_eq]
  cases ixN xs.length i with
  | none => rfl
  | some j => exact gtF_eq j xs
def setVF (env : Ev) (i : Nat) (s : Sl) : Option Ev := match gtF i env with
  | some (.io _) => none
  | some _ => some (stF i env s)
  | none => none
theorem setVF_eq : @setVF = @setV := by
  funext a0 a1 a2
  simp only [setVF, gtF_eq, stF_eq, lnF_eq, atF_eq]
  rfl
def nmF (i : Nat) : EF := fun env => match gtF i env with
  | some (.va d) => some (d, env)
  | some (.ow d) => some (d, stF i env (.va d))
  | _ => none
theorem nmF_eq : @nmF = @nm := by
  funext a0 a1
  simp only [nmF, gtF_eq, stF_eq, lnF_eq, atF_eq, setVF_eq]
  rfl
def asgF (i : Nat) (f : EF) : SF := fun env => match f env with
  | none => none
  | some (d, e) => match setVF e i (.va d) with
    | none => none
    | some e' => some (.nx e')
theorem asgF_eq : @asgF = @asg := by
  funext a0 a1 a2
  simp only [asgF, gtF_eq, stF_eq, lnF_eq, atF_eq, setVF_eq, nmF_eq]
  rfl
def asgOF (i : Nat) (f : EF) : SF := fun env => match f env with
  | none => none
  | some (d, e) => match setVF e i (.ow d) with
    | none => none
    | some e' => some (.nx e')
theorem asgOF_eq : @asgOF = @asgO := by
  funext a0 a1 a2
  simp only [asgOF, gtF_eq, stF_eq, lnF_eq, atF_eq, setVF_eq, nmF_eq, asgF_eq]
  rfl
def bNmF (i : Nat) : BF := fun d env => setVF env i (.va d)
theorem bNmF_eq : @bNmF = @bNm := by
  funext a0 a1 a2
  simp only [bNmF, gtF_eq, stF_eq, lnF_eq, atF_eq, setVF_eq, nmF_eq, asgF_eq, asgOF_eq]
  rfl
def asg2F (i j : Nat) (f : AF) : SF := fun env => match f env with
  | some ([a, b], e) => match setVF e i (.va a) with
    | none => none
    | some e1 => match setVF e1 j (.va b) with
      | none => none
      | some e2 => some (.nx e2)
  | _ => none
theorem asg2F_eq : @asg2F = @asg2 := by
  funext a0 a1 a2 a3
  simp only [asg2F, gtF_eq, stF_eq, lnF_eq, atF_eq, setVF_eq, nmF_eq, asgF_eq, asgOF_eq, bNmF_eq]
  rfl
def augF (i : Nat) (g : PV → PV → Option PV) (f : EF) : SF := fun env => match gtF i env with
  | some (.va a) => match f env with
    | none => none
    | some (b, e) => match g a b with
      | none => none
      | some d => match setVF e i (.va d) with
        | none => none
        | some e' => some (.nx e')
  | _ => none
theorem augF_eq : @augF = @aug := by
  funext a0 a1 a2 a3
  simp only [augF, gtF_eq, stF_eq, lnF_eq, atF_eq, setVF_eq, nmF_eq, asgF_eq, asgOF_eq, bNmF_eq, asg2F_eq]
  rfl
def contF (env : Ev) (i : Nat) : Option PV := match gtF i env with
  | some (.va d) => some d
  | some (.ow d) => some d
  | some (.io d) => some d
  | _ => none
theorem contF_eq : @contF = @cont := by
  funext a0 a1
  simp only [contF, gtF_eq, stF_eq, lnF_eq, atF_eq, setVF_eq, nmF_eq, asgF_eq, asgOF_eq, bNmF_eq, asg2F_eq, augF_eq]
  rfl
def pLenF : List PV → Option PV
  | [.list xs] => some (.int (lnF xs))
  | [.tuple xs] => some (.int (lnF xs))
  | [.str z] => if z.length ≤ sizeLine then some (.int z.length) else none
  | _ => none
theorem pLenF_eq : @pLenF = @pLen := by
  funext a0
  simp only [pLenF, gtF_eq, stF_eq, lnF_eq, atF_eq, setVF_eq, nmF_eq, asgF_eq, asgOF_eq, bNmF_eq, asg2F_eq, augF_eq, contF_eq]
  rfl
def pIxF : PV → PV → Option PV
  | .list xs, .int i => atF xs i
  | .tuple xs, .int i => atF xs i
  | .str z, .int i => if z.length ≤ sizeLine then (atF z.cps.toList i).map fun c => .str ⟨#[c]⟩ else none
  | _, _ => none
theorem pIxF_eq : @pIxF = @pIx := by
  funext a0 a1
  simp only [pIxF, gtF_eq, stF_eq, lnF_eq, atF_eq, setVF_eq, nmF_eq, asgF_eq, asgOF_eq, bNmF_eq, asg2F_eq, augF_eq, contF_eq, pLenF_eq]
  rfl
def ixNPF (i : Nat) (fb : EF) : EF := fun env => match contF env i with
  | none => none
  | some _ => match fb env with
    | none => none
    | some (k, e) => match contF e i with
      | none => none
      | some d => match pIxF d k with
        | none => none
        | some r => some (r, e)
theorem ixNPF_eq : @ixNPF = @ixN' := by
  funext a0 a1 a2
  simp only [ixNPF, gtF_eq, stF_eq, lnF_eq, atF_eq, setVF_eq, nmF_eq, asgF_eq, asgOF_eq, bNmF_eq, asg2F_eq, augF_eq, contF_eq, pLenF_eq, pIxF_eq]
  rfl
def lenNF (i : Nat) : EF := fun env => match contF env i with
  | none => none
  | some d => match pLenF [d] with
    | none => none
    | some r => some (r, env)
theorem lenNF_eq : @lenNF = @lenN := by
  funext a0 a1
  simp only [lenNF, gtF_eq, stF_eq, lnF_eq, atF_eq, setVF_eq, nmF_eq, asgF_eq, asgOF_eq, bNmF_eq, asg2F_eq, augF_eq, contF_eq, pLenF_eq, pIxF_eq, ixNPF_eq]
  rfl
def mineF (env : Ev) (i : Nat) : Option PV := match gtF i env with
  | some (.ow d) => some d
  | some (.io d) => some d
  | _ => none
theorem mineF_eq : @mineF = @mine := by
  funext a0 a1
  simp only [mineF, gtF_eq, stF_eq, lnF_eq, atF_eq, setVF_eq, nmF_eq, asgF_eq, asgOF_eq, bNmF_eq, asg2F_eq, augF_eq, contF_eq, pLenF_eq, pIxF_eq, ixNPF_eq, lenNF_eq]
  rfl
def putMF (env : Ev) (i : Nat) (d : PV) : Ev := match gtF i env with
  | some (.ow _) => stF i env (.ow d)
  | some (.io _) => stF i env (.io d)
  | _ => env
theorem putMF_eq : @putMF = @putM := by
  funext a0 a1 a2
  simp only [putMF, gtF_eq, stF_eq, lnF_eq, atF_eq, setVF_eq, nmF_eq, asgF_eq, asgOF_eq, bNmF_eq, asg2F_eq, augF_eq, contF_eq, pLenF_eq, pIxF_eq, ixNPF_eq, lenNF_eq, mineF_eq]
  rfl
def isLF (env : Ev) (i : Nat) : Bool := match mineF env i with
  | some (.list _) => true
  | _ => false
theorem isLF_eq : @isLF = @isL := by
  funext a0 a1
  simp only [isLF, gtF_eq, stF_eq, lnF_eq, atF_eq, setVF_eq, nmF_eq, asgF_eq, asgOF_eq, bNmF_eq, asg2F_eq, augF_eq, contF_eq, pLenF_eq, pIxF_eq, ixNPF_eq, lenNF_eq, mineF_eq, putMF_eq]
  rfl
def appendF (i : Nat) (f : EF) : EF := fun env => match isLF env i with
  | false => none
  | true => match f env with
    | none => none
    | some (d, e) => match mineF e i with
      | some (.list ds) => if lnF ds < sizeLine then some (.none, putMF e i (.list (ds ++ [d]))) else none
      | _ => none
theorem appendF_eq : @appendF = @append := by
  funext a0 a1 a2
  simp only [appendF, gtF_eq, stF_eq, lnF_eq, atF_eq, setVF_eq, nmF_eq, asgF_eq, asgOF_eq, bNmF_eq, asg2F_eq, augF_eq, contF_eq, pLenF_eq, pIxF_eq, ixNPF_eq, lenNF_eq, mineF_eq, putMF_eq, isLF_eq]
  rfl
def pop0F (i : Nat) : EF := fun env => match mineF env i with
  | some (.list ds) => match gtF (lnF ds - 1) ds with
    | some d => some (d, putMF env i (.list ds.dropLast))
    | none => none
  | _ => none
theorem pop0F_eq : @pop0F = @pop0 := by
  funext a0 a1
  simp only [pop0F, gtF_eq, stF_eq, lnF_eq, atF_eq, setVF_eq, nmF_eq, asgF_eq, asgOF_eq, bNmF_eq, asg2F_eq, augF_eq, contF_eq, pLenF_eq, pIxF_eq, ixNPF_eq, lenNF_eq, mineF_eq, putMF_eq, isLF_eq, appendF_eq]
  rfl
def popAtF (i : Nat) (f : EF) : EF := fun env => match isLF env i with
  | false => none
  | true => match f env with
    | some (.int k, e) => match mineF e i with
      | some (.list ds) => if -(2 ^ 63) ≤ k ∧ k < 2 ^ 63 then match seqIndex? k (lnF ds) with
        | none => none
        | some j => match gtF j ds with
          | none => none
          | some d => some (d, putMF e i (.list (ds.eraseIdx j)))
        else none
      | _ => none
    | _ => none
theorem popAtF_eq : @popAtF = @popAt := by
  funext a0 a1 a2
  simp only [popAtF, gtF_eq, stF_eq, lnF_eq, atF_eq, setVF_eq, nmF_eq, asgF_eq, asgOF_eq, bNmF_eq, asg2F_eq, augF_eq, contF_eq, pLenF_eq, pIxF_eq, ixNPF_eq, lenNF_eq, mineF_eq, putMF_eq, isLF_eq, appendF_eq, pop0F_eq]
  rfl
def extendF (i : Nat) (f : EF) : EF := fun env => match isLF env i with
  | false => none
  | true => match f env with
    | some (.list zs, e) => match mineF e i with
      | some (.list ds) => if lnF ds + lnF zs ≤ sizeLine then some (.none, putMF e i (.list (ds ++ zs))) else none
      | _ => none
    | _ => none
theorem extendF_eq : @extendF = @extend := by
  funext a0 a1 a2
  simp only [extendF, gtF_eq, stF_eq, lnF_eq, atF_eq, setVF_eq, nmF_eq, asgF_eq, asgOF_eq, bNmF_eq, asg2F_eq, augF_eq, contF_eq, pLenF_eq, pIxF_eq, ixNPF_eq, lenNF_eq, mineF_eq, putMF_eq, isLF_eq, appendF_eq, pop0F_eq, popAtF_eq]
  rfl
def setIxF (i : Nat) (fk fe : EF) : SF := fun env => match fe env with
  | none => none
  | some (d, e) => match isLF e i with
    | false => none
    | true => match fk e with
      | some (.int k, e2) => match mineF e2 i with
        | some (.list ds) => match ixN (lnF ds) k with
          | none => none
          | some j => some (.nx (putMF e2 i (.list (stF j ds d))))
        | _ => none
      | _ => none
theorem setIxF_eq : @setIxF = @setIx := by
  funext a0 a1 a2 a3
  simp only [setIxF, gtF_eq, stF_eq, lnF_eq, atF_eq, setVF_eq, nmF_eq, asgF_eq, asgOF_eq, bNmF_eq, asg2F_eq, augF_eq, contF_eq, pLenF_eq, pIxF_eq, ixNPF_eq, lenNF_eq, mineF_eq, putMF_eq, isLF_eq, appendF_eq, pop0F_eq, popAtF_eq, extendF_eq]
  rfl
def augIxF (i : Nat) (g : PV → PV → Option PV) (fk fe : EF) : SF := fun env => match isLF env i with
  | false => none
  | true => match fk env with
    | some (.int k, e1) => match mineF e1 i with
      | some (.list ds) => match atF ds k with
        | none => none
        | some a => match fe e1 with
          | none => none
          | some (b, e2) => match g a b with
            | none => none
            | some d => match mineF e2 i with
              | some (.list es) => match ixN (lnF es) k with
                | none => none
                | some j => some (.nx (putMF e2 i (.list (stF j es d))))
              | _ => none
      | _ => none
    | _ => none
theorem augIxF_eq : @augIxF = @augIx := by
  funext a0 a1 a2 a3 a4
  simp only [augIxF, gtF_eq, stF_eq, lnF_eq, atF_eq, setVF_eq, nmF_eq, asgF_eq, asgOF_eq, bNmF_eq, asg2F_eq, augF_eq, contF_eq, pLenF_eq, pIxF_eq, ixNPF_eq, lenNF_eq, mineF_eq, putMF_eq, isLF_eq, appendF_eq, pop0F_eq, popAtF_eq, extendF_eq, setIxF_eq]
  rfl
def callIOF (i : Nat) (g : PV → List PV → Option (PV × PV)) (f : AF) : EF := fun env => match mineF env i with
  | none => none
  | some _ => match f env with
    | none => none
    | some (ds, e) => match mineF e i with
      | none => none
      | some d => match g d ds with
        | none => none
        | some (d', r) => some (r, putMF e i d')
theorem callIOF_eq : @callIOF = @callIO := by
  funext a0 a1 a2 a3
  simp only [callIOF, gtF_eq, stF_eq, lnF_eq, atF_eq, setVF_eq, nmF_eq, asgF_eq, asgOF_eq, bNmF_eq, asg2F_eq, augF_eq, contF_eq, pLenF_eq, pIxF_eq, ixNPF_eq, lenNF_eq, mineF_eq, putMF_eq, isLF_eq, appendF_eq, pop0F_eq, popAtF_eq, extendF_eq, setIxF_eq, augIxF_eq]
  rfl
def wipeEF (env : Ev) : List Nat → Ev
  | [] => env
  | i :: r => stF i (wipeEF env r) .no
theorem wipeEF_eq : @wipeEF = @wipeE := by
  funext env vs
  induction vs with
  | nil => rfl
  | cons i r ih => simp only [wipeEF, wipeE, ih, stF_eq]
def ioFF (e : Ev) (vs : List Nat) : Bool := vs.all fun i => match gtF i e with | some (.io _) => false | _ => true
theorem ioFF_eq : @ioFF = @ioF := by
  funext a0 a1
  simp only [ioFF, gtF_eq, stF_eq, lnF_eq, atF_eq, setVF_eq, nmF_eq, asgF_eq, asgOF_eq, bNmF_eq, asg2F_eq, augF_eq, contF_eq, pLenF_eq, pIxF_eq, ixNPF_eq, lenNF_eq, mineF_eq, putMF_eq, isLF_eq, appendF_eq, pop0F_eq, popAtF_eq, extendF_eq, setIxF_eq, augIxF_eq, callIOF_eq, wipeEF_eq]
  rfl
def putIxF (i : Nat) (fk fe : EF) : SF := fun env => match fe env with
  | none => none
  | some (d, e) => match mineF e i with
    | none => none
    | some _ => match fk e with
      | none => none
      | some (y, e2) => match keyOf y with
        | none => none
        | some k => match mineF e2 i with
          | some (.dict ds) => if plainD ds = true ∧ lnF ds < sizeLine then some (.nx (putMF e2 i (.dict (dPut k d ds)))) else none
          | _ => none
theorem putIxF_eq : @putIxF = @putIx := by
  funext a0 a1 a2 a3
  simp only [putIxF, gtF_eq, stF_eq, lnF_eq, atF_eq, setVF_eq, nmF_eq, asgF_eq, asgOF_eq, bNmF_eq, asg2F_eq, augF_eq, contF_eq, pLenF_eq, pIxF_eq, ixNPF_eq, lenNF_eq, mineF_eq, putMF_eq, isLF_eq, appendF_eq, pop0F_eq, popAtF_eq, extendF_eq, setIxF_eq, augIxF_eq, callIOF_eq, wipeEF_eq, ioFF_eq]
  rfl
def dIxF (i : Nat) (fb : EF) : EF := fun env => match contF env i with
  | none => none
  | some _ => match fb env with
    | none => none
    | some (y, e) => match keyOf y with
      | none => none
      | some k => match contF e i with
        | some (.dict ds) => if plainD ds = true then (match dVal k ds with
            | none => none
            | some r => some (r, e)) else none
        | _ => none
theorem dIxF_eq : @dIxF = @dIx := by
  funext a0 a1 a2
  simp only [dIxF, gtF_eq, stF_eq, lnF_eq, atF_eq, setVF_eq, nmF_eq, asgF_eq, asgOF_eq, bNmF_eq, asg2F_eq, augF_eq, contF_eq, pLenF_eq, pIxF_eq, ixNPF_eq, lenNF_eq, mineF_eq, putMF_eq, isLF_eq, appendF_eq, pop0F_eq, popAtF_eq, extendF_eq, setIxF_eq, augIxF_eq, callIOF_eq, wipeEF_eq, ioFF_eq, putIxF_eq]
  rfl
def dInF (g : Bool → Bool) (i : Nat) (fb : EF) : EF := fun env => match fb env with
  | none => none
  | some (y, e) => match keyOf y with
    | none => none
    | some k => match contF e i with
      | some (.dict ds) => if plainD ds = true then some (.bool (g (dVal k ds).isSome), e) else none
      | _ => none
theorem dInF_eq : @dInF = @dIn := by
  funext a0 a1 a2 a3
  simp only [dInF, gtF_eq, stF_eq, lnF_eq, atF_eq, setVF_eq, nmF_eq, asgF_eq, asgOF_eq, bNmF_eq, asg2F_eq, augF_eq, contF_eq, pLenF_eq, pIxF_eq, ixNPF_eq, lenNF_eq, mineF_eq, putMF_eq, isLF_eq, appendF_eq, pop0F_eq, popAtF_eq, extendF_eq, setIxF_eq, augIxF_eq, callIOF_eq, wipeEF_eq, ioFF_eq, putIxF_eq, dIxF_eq]
  rfl
def coFF (vs : List Nat) (bi : BF) (t : TF) (f : EF) : List PV → List PV → Ev → Option (List PV × Ev)
  | [], acc, env => some (acc, env)
  | d :: ds, acc, env => match bi d env with
    | none => none
    | some e => match t e with
      | none => none
      | some (false, e2) => coFF vs bi t f ds acc (wipeEF e2 vs)
      | some (true, e2) => match f e2 with
        | none => none
        | some (r, e3) => if lnF acc < sizeLine then coFF vs bi t f ds (acc ++ [r]) (wipeEF e3 vs) else none
theorem coFF_eq : @coFF = @coF := by
  funext vs bi t f ds
  induction ds with
  | nil => rfl
  | cons d ds ih => funext acc env; simp only [coFF, coF, ih, gtF_eq, lnF_eq, setVF_eq, nmF_eq, asgF_eq, asgOF_eq, bNmF_eq, asg2F_eq, augF_eq, contF_eq, pLenF_eq, pIxF_eq, ixNPF_eq, lenNF_eq, mineF_eq, putMF_eq, isLF_eq, appendF_eq, pop0F_eq, popAtF_eq, extendF_eq, setIxF_eq, augIxF_eq, callIOF_eq, wipeEF_eq, ioFF_eq, putIxF_eq, dIxF_eq, dInF_eq] <;> rfl
def coF2F (vs vs1 : List Nat) (bi : BF) (t : TF) (w1 : AF) (bi1 : BF) (t1 : TF) (f : EF) : List PV → List PV → Ev → Option (List PV × Ev)
  | [], acc, env => some (acc, env)
  | d :: ds, acc, env => match bi d env with
    | none => none
    | some e => match t e with
      | none => none
      | some (false, e2) => coF2F vs vs1 bi t w1 bi1 t1 f ds acc (wipeEF e2 vs)
      | some (true, e2) => match w1 e2 with
        | none => none
        | some (ds1, e3) => match coFF vs1 bi1 t1 f ds1 acc (wipeEF e3 vs1) with
          | none => none
          | some (acc2, e4) => coF2F vs vs1 bi t w1 bi1 t1 f ds acc2 (wipeEF e4 vs)
theorem coF2F_eq : @coF2F = @coF2 := by
  funext vs vs1 bi t w1 bi1 t1 f ds
  induction ds with
  | nil => rfl
  | cons d ds ih => funext acc env; simp only [coF2F, coF2, ih, gtF_eq, lnF_eq, coFF_eq, setVF_eq, nmF_eq, asgF_eq, asgOF_eq, bNmF_eq, asg2F_eq, augF_eq, contF_eq, pLenF_eq, pIxF_eq, ixNPF_eq, lenNF_eq, mineF_eq, putMF_eq, isLF_eq, appendF_eq, pop0F_eq, popAtF_eq, extendF_eq, setIxF_eq, augIxF_eq, callIOF_eq, wipeEF_eq, ioFF_eq, putIxF_eq, dIxF_eq, dInF_eq] <;> rfl
def eLcF (vs : List Nat) (w : AF) (bi : BF) (t : TF) (f : EF) : EF := fun env => match w env with
  | none => none
  | some (ds, e) => if vs.all (fun i => match gtF i e with | some (.io _) => false | _ => true) then match coFF vs bi t f ds [] (wipeEF e vs) with
      | none => none
      | some (acc, e2) => some (.list acc, wipeEF e2 vs)
    else none
theorem eLcF_eq : @eLcF = @eLc := by
  funext a0 a1 a2 a3 a4 a5
  simp only [eLcF, gtF_eq, lnF_eq, coFF_eq, coF2F_eq, setVF_eq, nmF_eq, asgF_eq, asgOF_eq, bNmF_eq, asg2F_eq, augF_eq, contF_eq, pLenF_eq, pIxF_eq, ixNPF_eq, lenNF_eq, mineF_eq, putMF_eq, isLF_eq, appendF_eq, pop0F_eq, popAtF_eq, extendF_eq, setIxF_eq, augIxF_eq, callIOF_eq, wipeEF_eq, ioFF_eq, putIxF_eq, dIxF_eq, dInF_eq]
  rfl
def eLc2F (vs vs1 : List Nat) (w : AF) (bi : BF) (t : TF) (w1 : AF) (bi1 : BF) (t1 : TF) (f : EF) : EF := fun env => match w env with
  | none => none
  | some (ds, e) => if ioFF e vs = true then match coF2F vs vs1 bi t w1 bi1 t1 f ds [] (wipeEF e vs) with
      | none => none
      | some (acc, e2) => some (.list acc, wipeEF e2 vs)
    else none
theorem eLc2F_eq : @eLc2F = @eLc2 := by
  funext a0 a1 a2 a3 a4 a5 a6 a7 a8 a9
  simp only [eLc2F, gtF_eq, lnF_eq, coFF_eq, coF2F_eq, setVF_eq, nmF_eq, asgF_eq, asgOF_eq, bNmF_eq, asg2F_eq, augF_eq, contF_eq, pLenF_eq, pIxF_eq, ixNPF_eq, lenNF_eq, mineF_eq, putMF_eq, isLF_eq, appendF_eq, pop0F_eq, popAtF_eq, extendF_eq, setIxF_eq, augIxF_eq, callIOF_eq, wipeEF_eq, ioFF_eq, putIxF_eq, dIxF_eq, dInF_eq]
  rfl
/-- the fast readings are the readings -/
theorem fast_all : True := trivial
end Fx

namespace Fx
open PySem PySem.Spec L2
open PyProof.Rows hiding St
theorem hu65 {k : Nat} {A : Around} (r : Room k A) : A.units + 65 < cLine := by have := r.un; omega
def nwR (n : Nat) : Nat → Nat → Nat
  | 0, x => x
  | f + 1, x => if (x + n / x) / 2 < x then nwR n f ((x + n / x) / 2) else x
def rootN (n : Nat) : Nat := nwR n 80 (2 ^ (n.log2 / 2 + 1))
theorem sq_uniq {n a b : Nat} (h1 : a * a ≤ n) (h2 : n < (a + 1) * (a + 1)) (h3 : b * b ≤ n) (h4 : n < (b + 1) * (b + 1)) : a = b := by
  rcases Nat.lt_trichotomy a b with h | h | h
  · have := Nat.mul_le_mul (show a + 1 ≤ b from h) (show a + 1 ≤ b from h); omega
  · exact h
  · have := Nat.mul_le_mul (show b + 1 ≤ a from h) (show b + 1 ≤ a from h); omega
/-- the root of a square's floor: by Newton where it is right, by halves otherwise -/
def rootC (n : Nat) : Nat := if rootN n * rootN n ≤ n ∧ n < (rootN n + 1) * (rootN n + 1) then rootN n else Float64.isqrt n
theorem rootC_eq (n : Nat) : Float64.isqrt n = rootC n := by
  unfold rootC
  split
  · rename_i h
    obtain ⟨h1, h2⟩ := Float64.isqrt_spec n
    exact sq_uniq h1 h2 h.1 h.2
  · rfl
theorem rootC_spec (n : Nat) : rootC n * rootC n ≤ n ∧ n < (rootC n + 1) * (rootC n + 1) := rootC_eq n ▸ Float64.isqrt_spec n
def pIsq : List PV → Option PV
  | [.int i] => if 0 ≤ i ∧ i < 2 ^ 1000 then some (.int (rootC i.toNat : Nat)) else none
  | _ => none
def rIsq : List V → Hp → VK → Prop := fun vs H Q => ∃ i : Int, vs = [.int i] ∧ 0 ≤ i ∧ i < 2 ^ 1000 ∧ Q (.int ((Float64.isqrt i.toNat : Nat) : Int)) H
theorem cr_isqrt {X : Cx} : CallR X (.builtin "math.isqrt") rIsq := by
  intro pins s σ H vs us Q I r h
  obtain ⟨i, rfl, h0, h1, q⟩ := h
  cases r with
  | cons r1 r2 =>
    cases r2
    obtain ⟨t, rfl⟩ := r1
    have hl : i.toNat.log2 ≤ 999 := PySem.W.mg_log (by show i.toNat < 2 ^ 1000; omega)
    exact call_function_meets PySem.W.MGF.kind_isqrt PySem.W.MGF.plain_isqrt PySem.W.MGF.entry_isqrt (PySem.W.MGF.args_isqrt _) (PySem.W.mg_run_isqrt i t (by omega) (by omega) (by omega)).meets ⟨.int _, H, I.tok _, ⟨_, rfl⟩, q⟩
theorem cf_isqrt {T : List Addr} {K : PySem.W.Frag} : CallF T K rIsq pIsq := by
  intro gh F H σ env xs ds d Q R r e q
  unfold pIsq at e
  split at e
  · split at e
    · rename_i i hc
      cases e
      cases r with
      | cons r1 r2 =>
        cases r2
        refine ⟨i, by rw [r1.int_iff], hc.1, hc.2, ?_⟩
        rw [rootC_eq]
        exact q _ _ _ R (Same.refl _) (.int _)
    · cases e
  · cases e
section
variable {T : List Addr} {X : Cx}
def asg3 (i j l : Nat) (f : AF) : SF := fun env => match f env with
  | some ([a, b, c], e) => match setV e i (.va a) with
    | none => none
    | some e1 => match setV e1 j (.va b) with
      | none => none
      | some e2 => match setV e2 l (.va c) with
        | none => none
        | some e3 => some (.nx e3)
  | _ => none
theorem fs_par3 (i j l : Nat) {x y z : Str} {a b c : Expr} {f : AF} {px py pz pt pos : Pos} {kt k2 : Nat} {pt2 : Pos} (hN : X.N.Nodup) (ha : FA T X [a, b, c] f) (hij : i ≠ j := by decide) (hil : i ≠ l := by decide) (hjl : j ≠ l := by decide) (hi : X.N[i]? = some x := by rfl) (hj : X.N[j]? = some y := by rfl) (hl : X.N[l]? = some z := by rfl)
    (hc : X.calm = true := by rfl) (hx : X.env.scope.names.lookup x = some .local := by rfl) (hy : X.env.scope.names.lookup y = some .local := by rfl) (hz : X.env.scope.names.lookup z = some .local := by rfl)
    (hw : swappedStores [.Tuple [.Name x px, .Name y py, .Name z pz] kt pt] (.Tuple [a, b, c] k2 pt2) X.env = pure (some [x, y, z]) := by rfl)
    (hs : swapsWithSole [.Tuple [.Name x px, .Name y py, .Name z pz] kt pt] (.Tuple [a, b, c] k2 pt2) pos.line X.env = pure false := by rfl) :
    FS T X (.Assign [.Tuple [.Name x px, .Name y py, .Name z pz] kt pt] (.Tuple [a, b, c] k2 pt2) pos) (asg3 i j l f) :=
  (ps_par3 hc hN hi hj hl hij hil hjl hx hy hz ha hw hs).weak fun D σ H ⟨gh, F, env, out, R, e, q⟩ => by
    unfold asg3 at e
    split at e
    · rename_i d1 d2 d3 e1 ef
      split at e
      · cases e
      · rename_i e2 es
        split at e
        · cases e
        · rename_i e3 es2
          split at e
          · cases e
          · rename_i e4 es3
            cases e
            refine ⟨gh, F, env, _, _, R, ef, fun vs H1 F1 R1 s1 r1 => ?_⟩
            cases r1 with
            | cons ra r2 => cases r2 with
              | cons rb r3 => cases r3 with
                | cons rc r4 =>
                  cases r4
                  exact ⟨_, _, _, rfl, q _ _ _ (((R1.put es (.inr (.inl ⟨_, rfl, ra⟩))).put es2 (.inr (.inl ⟨_, rfl, rb⟩))).put es3 (.inr (.inl ⟨_, rfl, rc⟩))) s1⟩
    · cases e
def pInB (g : Bool → Bool) : PV → PV → Option PV
  | d, .list ds => if noDict d && noDict (.list ds) && SeqAt.shaped d && SeqAt.shaped (.list ds) then some (.bool (g (ds.any fun z => PyData.eqv z d))) else none
  | _, _ => none
theorem of_inD {K : PySem.W.Frag} : OpF T K (rInD K) (pInB id) := by
  intro gh F H σ env x y a b d Q R ra rb e q
  unfold pInB at e
  split at e
  · split at e
    · rename_i hc
      cases e
      simp only [Bool.and_eq_true] at hc
      exact ⟨_, _, ra.dp R.sub hc.1.1.1, rb.dp R.sub hc.1.1.2, hc.1.2, hc.2, q _ _ _ R (Same.refl _) (.bl _)⟩
    · cases e
  · cases e
theorem of_notInD {K : PySem.W.Frag} : OpF T K (rNotInD K) (pInB not) := by
  intro gh F H σ env x y a b d Q R ra rb e q
  unfold pInB at e
  split at e
  · split at e
    · rename_i hc
      cases e
      simp only [Bool.and_eq_true] at hc
      exact ⟨_, _, ra.dp R.sub hc.1.1.1, rb.dp R.sub hc.1.1.2, hc.1.2, hc.2, q _ _ _ R (Same.refl _) (.bl _)⟩
    · cases e
  · cases e
end
end Fx

namespace Fx
open PySem PySem.Spec L2
open PyProof.Rows hiding St
def keysOf : List PV → Option (List Key)
  | [] => some []
  | d :: r => match keyOf d with
    | none => none
    | some k => match keysOf r with
      | none => none
      | some ks => some (k :: ks)
def keyT : PV → Option (List Key)
  | .tuple ds => if kDat ds = true then none else keysOf ds
  | _ => none
def eqKs : List Key → List PV → Bool
  | [], [] => true
  | k :: ks, d :: ds => isK k d && eqKs ks ds
  | _, _ => false
def isKT (k : List Key) : PV → Bool
  | .tuple ds => eqKs k ds
  | _ => false
def dValT (k : List Key) : List (PV × PV) → Option PV
  | [] => none
  | (d, v) :: r => if isKT k d then some v else dValT k r
def dAnyT (k : List Key) : List (PV × PV) → Bool
  | [] => false
  | (d, _) :: r => isKT k d || dAnyT k r
def dMapT (k : List Key) (v : PV) : List (PV × PV) → List (PV × PV)
  | [] => []
  | (d, x) :: r => (if isKT k d then (d, v) else (d, x)) :: dMapT k v r
def dPutT (k : List Key) (v : PV) (ds : List (PV × PV)) : List (PV × PV) := if dAnyT k ds then dMapT k v ds else ds ++ [(.tuple (k.map kD), v)]
theorem eqKs_kD : ∀ {k j : List Key}, eqKs k (j.map kD) = decide (j = k)
  | [], [] => rfl
  | [], _ :: _ => (decide_eq_false (fun z => nomatch z)).symm
  | _ :: _, [] => (decide_eq_false (fun z => nomatch z)).symm
  | a :: k, b :: j => by
    show (isK a (kD b) && eqKs k (j.map kD)) = _
    rw [isK_kD, eqKs_kD]
    by_cases h1 : b = a
    · by_cases h2 : j = k
      · subst h1; subst h2; simp
      · rw [decide_eq_false h2, Bool.and_false, decide_eq_false (fun z => h2 (List.cons.inj z).2)]
    · rw [decide_eq_false h1, Bool.false_and, decide_eq_false (fun z => h1 (List.cons.inj z).1)]
theorem isKT_kD {k j : List Key} : isKT k (.tuple (j.map kD)) = decide (j = k) := eqKs_kD
section
variable {K : PySem.W.Frag} {F F' H : Hp} {k : List Key}
theorem RepT.any : ∀ {kvs : List (List Key × V)} {ds : List (PV × PV)}, RepT K F kvs ds → dAnyT k ds = kvs.any fun kv => decide (kv.1 = k)
  | _, _, .nil => rfl
  | _, _, .cons r t => by
    unfold dAnyT
    rw [List.any_cons, isKT_kD, RepT.any t]
theorem RepT.val : ∀ {kvs : List (List Key × V)} {ds : List (PV × PV)}, RepT K F kvs ds → (∀ d, dValT k ds = some d → ∃ v, valV kvs k = some v ∧ Rep K F v d) ∧ (dValT k ds = none → valV kvs k = none)
  | _, _, .nil => ⟨fun d e => (by cases e), fun _ => rfl⟩
  | _, _, .cons (k := j) (v := v) r t => by
    unfold dValT
    rw [isKT_kD]
    by_cases h : j = k
    · rw [if_pos (decide_eq_true h), valV_pos (p := (j, v)) h]
      exact ⟨fun d e => (by cases e; exact ⟨_, rfl, r⟩), fun e => (by cases e)⟩
    · rw [if_neg (by simpa using h), valV_neg (p := (j, v)) h]
      exact RepT.val t
theorem RepT.map {v : V} {d : PV} (rv : Rep K F v d) : ∀ {kvs : List (List Key × V)} {ds : List (PV × PV)}, RepT K F kvs ds → RepT K F (kvs.map fun kv => if kv.1 = k then (kv.1, v) else kv) (dMapT k d ds)
  | _, _, .nil => .nil
  | _, _, .cons (k := j) (v := w) r t => by
    unfold dMapT
    rw [isKT_kD, List.map_cons]
    by_cases h : j = k
    · simp only [h, if_true, decide_true]
      exact .cons rv (RepT.map rv t)
    · simp only [h, if_false, decide_false, Bool.false_eq_true]
      exact .cons r (RepT.map rv t)
theorem RepT.snoc {v : V} {d : PV} (rv : Rep K F v d) : ∀ {kvs : List (List Key × V)} {ds : List (PV × PV)}, RepT K F kvs ds → RepT K F (kvs ++ [(k, v)]) (ds ++ [(.tuple (k.map kD), d)])
  | _, _, .nil => .cons rv .nil
  | _, _, .cons r t => .cons r (RepT.snoc rv t)
theorem RepT.put {v : V} {d : PV} (rv : Rep K F v d) {kvs : List (List Key × V)} {ds : List (PV × PV)} (r : RepT K F kvs ds) : RepT K F (putK kvs k v) (dPutT k d ds) := by
  unfold putK dPutT
  rw [r.any]
  split
  · exact RepT.map rv r
  · exact RepT.snoc rv r
theorem RepT.len : ∀ {kvs : List (List Key × V)} {ds : List (PV × PV)}, RepT K F kvs ds → kvs.length = ds.length
  | _, _, .nil => rfl
  | _, _, .cons _ t => by simp [RepT.len t]
theorem Reps.keys : ∀ {xs : List V} {ds : List PV} {ks : List Key}, Reps K F xs ds → keysOf ds = some ks → xs = ks.map kV
  | _, _, _, .nil, h => by cases h; rfl
  | _, _, _, .cons r t, h => by
    unfold keysOf at h
    split at h
    · cases h
    · rename_i k1 h1
      split at h
      · cases h
      · rename_i ks1 h2
        cases h
        rw [r.key h1, Reps.keys t h2]; rfl
theorem Rep.keyT {y : V} {d : PV} (s : Same F H) (r : Rep K F y d) (h : Fx.keyT d = some k) : ∃ b, y = .ref b ∧ H b = some (.tup (k.map kV)) := by
  cases r with
  | tup hF rr =>
    rename_i ds
    have h : (if kDat ds = true then none else keysOf ds) = some k := h
    split at h
    · cases h
    · rename_i nk
      rcases hF with hF | ⟨hk, _⟩
      · exact ⟨_, rfl, by rw [← rr.keys h]; exact s _ _ hF⟩
      · exact absurd hk nk
  | _ => cases h
theorem Own.isDt {a : Addr} {ds : List (PV × PV)} (ho : Own K F H a (.dict ((.none, .none) :: ds))) : ∃ kvs, H a = some (.dT kvs) ∧ RepT K F kvs ds := by
  generalize e : PyData.dict ((.none, .none) :: ds) = d at ho
  cases ho with
  | lst h r => cases e
  | dk h r =>
    injection e with e
    cases r with
    | nil => cases e
    | cons r1 r2 =>
      rename_i k _ _ _ _
      injection e with e1 e2
      injection e1 with e1 e3
      cases k <;> cases e1
  | dt h r => cases e; exact ⟨_, h, r⟩
theorem Rep.isDt {v : V} {ds : List (PV × PV)} (h : Rep K F v (.dict ((.none, .none) :: ds))) : ∃ a kvs, v = .ref a ∧ F a = some (.dT kvs) ∧ RepT K F kvs ds := by
  generalize e : PyData.dict ((.none, .none) :: ds) = d at h
  cases h with
  | dt h r => cases e; exact ⟨_, _, rfl, h, r⟩
  | dk h r =>
    injection e with e
    cases r with
    | nil => cases e
    | cons r1 r2 =>
      rename_i k _ _ _ _
      injection e with e1 e2
      injection e1 with e1 e3
      cases k <;> cases e1
  | lk h r =>
    injection e with e
    injection e with e1 e2
    injection e1 with e1 e3
    cases e1
  | _ => cases e
theorem Read.dt {v : V} {ds : List (PV × PV)} (s : Same F H) (h : Read K F H v (.dict ((.none, .none) :: ds))) : ∃ a kvs, v = .ref a ∧ H a = some (.dT kvs) ∧ RepT K F kvs ds := by
  cases h with
  | val r =>
    obtain ⟨a, kvs, e, h1, h2⟩ := r.isDt
    exact ⟨a, kvs, e, s _ _ h1, h2⟩
  | own r =>
    obtain ⟨kvs, h1, h2⟩ := r.isDt
    exact ⟨_, _, rfl, h1, h2⟩
end
section
variable {T : List Addr} {X : Cx}
/-- {}, to be keyed by tuples -/
def eDt : EF := fun env => some (.dict [(.none, .none)], env)
theorem fn_dt {pos : Pos} : FN T X (.Dict [] [] pos) eDt := pe_dnewT.weak fun σ H Q ⟨gh, F, env, d, env', R, e, q⟩ => by
  cases e
  intro p hp
  obtain ⟨h0, nT, hF⟩ := R.fresh hp
  exact q p _ F (R.laid hp) (Same.refl _) hF h0 (R.own_ne hp) (.dt upd_same .nil)
def putIxT (i : Nat) (fk fe : EF) : SF := fun env => match fe env with
  | none => none
  | some (d, e) => match Fx.mine e i with
    | none => none
    | some _ => match fk e with
      | none => none
      | some (y, e2) => match keyT y with
        | none => none
        | some k => match Fx.mine e2 i with
          | some (.dict ((.none, .none) :: ds)) => if ds.length < sizeLine then some (.nx (putM e2 i (.dict ((.none, .none) :: dPutT k d ds)))) else none
          | _ => none
theorem fs_putIxT (i : Nat) {x : Str} {px tpos pos : Pos} {b a : Expr} {fk fe : EF} (hu : X.A.units + 1 < cLine) (hb : FE T X b fk) (ha : FE T X a fe) (hN : X.N[i]? = some x := by rfl) (hv : Vis X.env.scope x := by first | exact Or.inl rfl | exact Or.inr (Or.inl rfl) | exact Or.inr (Or.inr rfl))
    (hd : (x == ("__debug__" : Str)) = false := by decide) (hcd : (x == ("__classdict__" : Str)) = false := by decide) (hs : swapsWith a (some (.Subscript (.Name x px) b tpos)) pos.line X.env = pure false := by rfl) :
    FS T X (.Assign [.Subscript (.Name x px) b tpos] a pos) (putIxT i fk fe) :=
  (ps_dput hu (pe_var hN hv hd hcd) hb ha hs).weak fun D σ H ⟨gh, F, env, out, R, e, q⟩ => by
    unfold putIxT at e
    split at e
    · cases e
    · rename_i d e1 ef
      refine ⟨gh, F, env, _, _, R, ef, fun v H1 F1 R1 s1 r1 => ?_⟩
      split at e
      · cases e
      · rename_i d0 h0
        obtain ⟨p, ep, _, ho, _⟩ := R1.mine h0
        refine ⟨.ref p, ep, ?_⟩
        split at e
        · cases e
        · rename_i y e2 ek
          refine ⟨gh, F1, _, _, _, R1, ek, fun y' H2 F2 R2 s2 r2 => ?_⟩
          split at e
          · cases e
          · rename_i k hk
            split at e
            · rename_i ds h2
              split at e
              · rename_i hpl
                cases e
                obtain ⟨p', ep', hF1, ho1, upd1⟩ := R2.mine h2
                rw [ep] at ep'; cases ep'
                obtain ⟨kvs, hx, rr⟩ := ho1.isDt
                obtain ⟨b, rfl, hb⟩ := r2.keyT R2.sub hk
                refine ⟨p, _, rfl, DPut.t hx hb (by rw [rr.len]; exact hpl), ?_⟩
                exact q _ _ F2 (upd1 _ _ (.dt upd_same (RepT.put (r1.mono s2) rr))) (s1.trans s2)
              · cases e
            · cases e
def dIxT (i : Nat) (fb : EF) : EF := fun env => match Fx.cont env i with
  | none => none
  | some _ => match fb env with
    | none => none
    | some (y, e) => match keyT y with
      | none => none
      | some k => match Fx.cont e i with
        | some (.dict ((.none, .none) :: ds)) => (match dValT k ds with
            | none => none
            | some r => some (r, e))
        | _ => none
theorem fe_dIxT (i : Nat) {x : Str} {px pos : Pos} {b : Expr} {fb : EF} (hu : X.A.units + 1 < cLine) (hb : FE T X b fb) (hN : X.N[i]? = some x := by rfl) (hv : Vis X.env.scope x := by first | exact Or.inl rfl | exact Or.inr (Or.inl rfl) | exact Or.inr (Or.inr rfl)) (hs : NoSl b := by exact fun _ _ => rfl)
    (hd : (x == ("__debug__" : Str)) = false := by decide) (hcd : (x == ("__classdict__" : Str)) = false := by decide) : FE T X (.Subscript (.Name x px) b pos) (dIxT i fb) :=
  (pe_dget hu (pe_var hN hv hd hcd) hb hs).weak fun σ H Q ⟨gh, F, env, d, env', R, e, q⟩ => by
    unfold dIxT at e
    split at e
    · cases e
    · rename_i d0 h0
      obtain ⟨v, ev, _⟩ := R.cont h0
      refine ⟨v, ev, ?_⟩
      split at e
      · cases e
      · rename_i y e1 eb
        refine ⟨gh, F, env, _, _, R, eb, fun y' H1 F1 R1 s1 rb => ?_⟩
        split at e
        · cases e
        · rename_i k hk
          split at e
          · rename_i ds h1
            split at e
            · cases e
            · rename_i r er
              cases e
              obtain ⟨v', ev', rd⟩ := R1.cont h1
              rw [ev] at ev'
              cases ev'
              obtain ⟨a, kvs, rfl, hl, rr⟩ := rd.dt R1.sub
              obtain ⟨w, e2, r2⟩ := rr.val.1 _ er
              obtain ⟨b, rfl, hbb⟩ := rb.keyT R1.sub hk
              exact ⟨a, w, rfl, by rw [← e2]; exact DGet.t hl hbb, q _ _ _ R1 s1 r2⟩
          · cases e
def dInT (g : Bool → Bool) (i : Nat) (fb : EF) : EF := fun env => match fb env with
  | none => none
  | some (y, e) => match keyT y with
    | none => none
    | some k => match Fx.cont e i with
      | some (.dict ((.none, .none) :: ds)) => some (.bool (g (dValT k ds).isSome), e)
      | _ => none
theorem dInT_run {i : Nat} {g : Bool → Bool} {fb : EF} {K : PySem.W.Frag} {σ : St} {H : Hp} {Q : VK} (h : RE T K (dInT g i fb) σ H Q) : RE T K fb σ H fun y H1 => tVar i σ H1 fun x H2 => ∃ a o, x = .ref a ∧ DGet H2 a y o ∧ Q (.bl (g o.isSome)) H2 := by
  obtain ⟨gh, F, env, d, env', R, e, q⟩ := h
  unfold dInT at e
  split at e
  · cases e
  · rename_i y e1 eb
    refine ⟨gh, F, env, _, _, R, eb, fun y' H1 F1 R1 s1 rb => ?_⟩
    split at e
    · cases e
    · rename_i k hk
      split at e
      · rename_i ds h1
        cases e
        obtain ⟨v', ev', rd⟩ := R1.cont h1
        obtain ⟨a, kvs, rfl, hl, rr⟩ := rd.dt R1.sub
        obtain ⟨b, rfl, hbb⟩ := rb.keyT R1.sub hk
        refine ⟨_, ev', a, valV kvs k, rfl, DGet.t hl hbb, ?_⟩
        have e3 : (valV kvs k).isSome = (dValT k ds).isSome := by
          cases hv : dValT k ds with
          | none => rw [rr.val.2 hv]; rfl
          | some r =>
            obtain ⟨w, e2, _⟩ := rr.val.1 _ hv
            rw [e2]; rfl
        rw [e3]
        exact q _ _ _ R1 s1 (.bl _)
      · cases e
theorem fe_dInT (i : Nat) {x : Str} {px pos : Pos} {b : Expr} {fb : EF} (hu : X.A.units + 1 < cLine) (hb : FE T X b fb) (hN : X.N[i]? = some x := by rfl) (hv : Vis X.env.scope x := by first | exact Or.inl rfl | exact Or.inr (Or.inl rfl) | exact Or.inr (Or.inr rfl))
    (hd : (x == ("__debug__" : Str)) = false := by decide) (hcd : (x == ("__classdict__" : Str)) = false := by decide) (h1 : behindInMarks .In (.Name x px) = false := by rfl) : FE T X (.Compare b [.In] [.Name x px] pos) (dInT id i fb) :=
  (pe_cmp (pc_din hu hb (pe_var hN hv hd hcd)) h1).weak fun σ H Q h => dInT_run h
theorem fe_dNotInT (i : Nat) {x : Str} {px pos : Pos} {b : Expr} {fb : EF} (hu : X.A.units + 1 < cLine) (hb : FE T X b fb) (hN : X.N[i]? = some x := by rfl) (hv : Vis X.env.scope x := by first | exact Or.inl rfl | exact Or.inr (Or.inl rfl) | exact Or.inr (Or.inr rfl))
    (hd : (x == ("__debug__" : Str)) = false := by decide) (hcd : (x == ("__classdict__" : Str)) = false := by decide) (h1 : behindInMarks .NotIn (.Name x px) = false := by rfl) : FE T X (.Compare b [.NotIn] [.Name x px] pos) (dInT not i fb) :=
  (pe_cmp (pc_dnotin hu hb (pe_var hN hv hd hcd)) h1).weak fun σ H Q h => dInT_run h
theorem ft_dInT (i : Nat) {x : Str} {px pos : Pos} {b : Expr} {fb : EF} (hu : X.A.units + 1 < cLine) (hb : FE T X b fb) (hN : X.N[i]? = some x := by rfl) (hv : Vis X.env.scope x := by first | exact Or.inl rfl | exact Or.inr (Or.inl rfl) | exact Or.inr (Or.inr rfl))
    (hd : (x == ("__debug__" : Str)) = false := by decide) (hcd : (x == ("__classdict__" : Str)) = false := by decide) (h1 : behindInMarks .In (.Name x px) = false := by rfl) : FT T X (.Compare b [.In] [.Name x px] pos) (tB' (dInT id i fb)) :=
  (pt_cmp (pc_din hu hb (pe_var hN hv hd hcd)) h1).weak fun σ H Q h => dInT_run (rt_b σ H Q h)
theorem ft_dNotInT (i : Nat) {x : Str} {px pos : Pos} {b : Expr} {fb : EF} (hu : X.A.units + 1 < cLine) (hb : FE T X b fb) (hN : X.N[i]? = some x := by rfl) (hv : Vis X.env.scope x := by first | exact Or.inl rfl | exact Or.inr (Or.inl rfl) | exact Or.inr (Or.inr rfl))
    (hd : (x == ("__debug__" : Str)) = false := by decide) (hcd : (x == ("__classdict__" : Str)) = false := by decide) (h1 : behindInMarks .NotIn (.Name x px) = false := by rfl) : FT T X (.Compare b [.NotIn] [.Name x px] pos) (tB' (dInT not i fb)) :=
  (pt_cmp (pc_dnotin hu hb (pe_var hN hv hd hcd)) h1).weak fun σ H Q h => dInT_run (rt_b σ H Q h)
end
end Fx

namespace Fx
open PySem PySem.Spec L2 PySem.W PySem.Calls
open PyProof.Rows hiding St
section
variable {P : Program} {w : World} {A : Around} {E : Value → Shared → Prop} {z : Shared}
theorem call_set_lstI {l : Addr} {itz : Array Value} (js : List Int) {Q : Value → Shared → Prop} (hh : A.handled = none) (hl : z.heap.IsList l itz) (hit : IntsAre itz.toList js) (hb : js.length + 1 < scanBound)
    (h : ∀ (h' : Heap) (tq c : Nat), SetR w h' z.heap.objs.size (fun j => decide (j ∈ js)) c → c ≤ js.length → (∀ b o, z.heap.get? b = some o → h'.get? b = some o) → Q (.ref z.heap.objs.size) { z with heap := h', toks := tq }) :
    wpAny (model P w) A (call (.type "set") [.ref l]) Q E z := by
  have hisz : itz.size = js.length := by
    have q := IntsAre.length hit
    rw [Array.length_toList] at q
    exact q
  obtain ⟨c, tl, gmro⟩ := F.called_set.mro
  have gmade := F.called_set.made
  have gsub := F.called_set.sub
  refine wpAny_call (codeAny_of_tree ?_)
  show wpAny _ _ (callAny (.type "set") _) _ _ _
  refine wpAny_pure ⟨Code.quiet_builtin _ (by decide +kernel), codeAny_builtin F.entry_type_call ?_⟩
  rw [Around.under_plain (weight_type_call_type "set" [.ref l] []) rfl]
  have h1 := F.called_set.notType
  have h2 := F.called_set.canCreate
  have gct := F.typeCall_set_1 (.ref l)
  repeat (any_goals (first | assumption | wp_step))

  refine codeAny_mono (code_set_led1 (.ref l) (E := E) (Q₁ := fun obj s₁ => obj = .ref z.heap.objs.size ∧ s₁ = { z with heap := z.heap.push { cls := .type "set", dict := none, data := .set #[] 0 (.fresh 0 0 (!w.params.followText "set-order")) } }) ⟨rfl, rfl⟩) fun r s₁ gr => ?_
  cases r with
  | error e => exact gr
  | ok fl =>
    cases fl with
    | ret obj =>
      obtain ⟨rfl, rfl⟩ := gr
      have gS : (z.heap.push { cls := .type "set", dict := none, data := .set #[] 0 (.fresh 0 0 (!w.params.followText "set-order")) }).get? z.heap.objs.size = some { cls := .type "set", dict := none, data := .set #[] 0 (.fresh 0 0 (!w.params.followText "set-order")) } := Heap.get?_push_size _ rfl
      have gT : Shared.TypeIs { z with heap := z.heap.push { cls := .type "set", dict := none, data := .set #[] 0 (.fresh 0 0 (!w.params.followText "set-order")) } } (.ref z.heap.objs.size) "set" := ⟨_, gS, rfl⟩
      have gli := F.called_set.init.lookup
      have gbi := F.called_set.init.bind (.ref z.heap.objs.size)
      repeat (any_goals (first | assumption | wp_step))

      refine codeAny_mono (codeAny_call_builtin (R := wants (fun r s₂ => r = .none ∧ ∃ h' tq c, s₂ = { z with heap := h', toks := tq } ∧ SetR w h' z.heap.objs.size (fun j => decide (j ∈ js)) c ∧ c ≤ js.length ∧
          (∀ b o, z.heap.get? b = some o → h'.get? b = some o)) E) F.called_set.init.plain F.entry_set_init (check_set_init_1 gT ?_)) fun r₂ s₂ hr₂ => ?_
      · obtain ⟨pl, gol, hcl, pn, hdl⟩ := hl
        obtain ⟨ocls, odict, odata, oslots⟩ := pl
        simp only at hcl hdl
        subst hcl; subst hdl
        have gol' : (z.heap.push { cls := .type "set", dict := none, data := .set #[] 0 (.fresh 0 0 (!w.params.followText "set-order")) }).get? l = some { cls := .type "list", dict := odict, data := .seq itz pn, slots := oslots } := Heap.get?_push_of_some _ gol
        have gsls := F.sub_list_set
        have gslf := F.sub_list_frozenset
        have gne : (Value.type "list" == Value.type "dict") = false := by decide
        have gl1 : (z.heap.push { cls := .type "set", dict := none, data := .set #[] 0 (.fresh 0 0 (!w.params.followText "set-order")) }).IsList l itz := ⟨_, gol', rfl, pn, rfl⟩
        unfold Builtin.«set.__init__» noKeywords Builtin.Frozenset.updateFrom
        generalize hPI : pyIter = PI
        wp_walk
        subst hPI

        refine wpAny_pyIter_list gl1 ?_
        refine wpAny_bind (wpAny_runValue ?_)
        have glS : l < z.heap.objs.size := Heap.lt_size gol
        have gh3 : A.in1.in1.in1.handled = none := by simp [hh]
        have gz1 : (z.heap.push { cls := .type "set", dict := none, data := .set #[] 0 (.fresh 0 0 (!w.params.followText "set-order")) }).objs.size = z.heap.objs.size + 1 := Heap.size_push ..
        have gneI : l ≠ (z.heap.push { cls := .type "set", dict := none, data := .set #[] 0 (.fresh 0 0 (!w.params.followText "set-order")) }).objs.size := by
          rw [Heap.size_push]; exact Nat.ne_of_lt (Nat.lt_succ_of_lt glS)
        have gSf : z.heap.objs.size ∉ [(z.heap.push { cls := .type "set", dict := none, data := .set #[] 0 (.fresh 0 0 (!w.params.followText "set-order")) }).objs.size, l] := by
          rw [Heap.size_push]; simp only [List.mem_cons, List.mem_singleton, List.not_mem_nil, or_false, not_or]
          exact ⟨Nat.ne_of_lt (Nat.lt_succ_self _), Nat.ne_of_gt glS⟩
        have gval : ∀ (i : Nat) (v : Value), itz[i]? = some v → ∃ k t, js[i]? = some k ∧ v = .int k t := fun i v hv => by
          have hi : i < js.length := by rw [← hisz]; exact (Array.getElem?_eq_some_iff.mp hv).1
          obtain ⟨t, e⟩ := PyProof.Rows.IntsAre.int_at hit i v (by rw [Array.getElem?_toList]; exact hv)
          refine ⟨js[i], t, List.getElem?_eq_getElem hi, ?_⟩
          rw [e, List.getD_eq_getElem?_getD, List.getElem?_eq_getElem hi] <;> rfl
        refine set_update_ints ((Walks.list gh3 _ l gneI itz).toS) z.heap.objs.size
          gSf js hisz hb gval (itz.size - 0) 0 _ (by omega) (Nat.zero_le _)
          ⟨⟨_, Heap.get?_push_size _ rfl, rfl, rfl⟩, (gl1.push _)⟩ ?hS0 ?hR
        case hS0 =>
          have gget : ((z.heap.push { cls := .type "set", dict := none, data := .set #[] 0 (.fresh 0 0 (!w.params.followText "set-order")) }).push { cls := .type "list_iterator", data := .fields #[.ref l, .int 0 0] }).get? z.heap.objs.size
              = some { cls := .type "set", dict := none, data := .set #[] 0 (.fresh 0 0 (!w.params.followText "set-order")) } := Heap.get?_push_of_some _ gS
          exact ⟨0, Nat.le_refl 0, setR_new_at gget⟩
        case hR =>
          intro z' c' gm gc' gS'
          obtain ⟨h', g2, d', tq', os'⟩ := z'
          have eg : g2 = z.gens := gm.gens
          have ed : d' = z.drawn := gm.drawn
          have eo : os' = z.os := gm.os
          subst eg; subst ed; subst eo
          show wpAny _ _ _ _ _ _
          refine wpAny_pure ?_
          show wpAny _ _ (ret Value.none) _ _ _
          rw [hisz] at gc'
          refine wpAny_pure ⟨rfl, h', tq', c', rfl, gS', gc', fun b o e => ?_⟩
          have gb0 : b < z.heap.objs.size := Heap.lt_size e
          have gb1 : b ≠ z.heap.objs.size := Nat.ne_of_lt gb0
          have gb2 : b ≠ (z.heap.push { cls := .type "set", dict := none, data := .set #[] 0 (.fresh 0 0 (!w.params.followText "set-order")) }).objs.size := by
            rw [Heap.size_push]; exact Nat.ne_of_lt (Nat.lt_succ_of_lt gb0)
          exact gm.heap b o (by simp only [List.mem_cons, List.mem_singleton, List.not_mem_nil, or_false, not_or]; exact ⟨gb1, gb2⟩) (Heap.get?_push_of_some _ (Heap.get?_push_of_some _ e))

      · cases r₂ with
        | error e => exact hr₂
        | ok fl₂ =>
          cases fl₂ with
          | ret r =>
            obtain ⟨rfl, h', tq, c', rfl, gS', gc', gk'⟩ := hr₂
            repeat (any_goals (first | assumption | wp_step))
            exact h _ _ _ gS' gc' gk'
          | _ => exact hr₂.elim
    | _ => exact gr.elim

end
end Fx

namespace Fx
open PySem PySem.Spec L2
open PyProof.Rows hiding St
def rSetL (K : PySem.W.Frag) (w : World) : List V → Hp → VK → Prop := fun vs H Q => ∃ (l : Addr) (ns : List Int), vs = [.ref l] ∧ SqL K H l (ns.map V.int) ∧ ns.length ≤ 1000 ∧ ∀ (a : Addr) (c : Nat), H a = none → c ≤ ns.length → Q (.ref a) (upd H a (SetO w a (fun j => decide (j ∈ ns)) c))
theorem cr_setL {X : Cx} (hc : X.calm = true) : CallR X (.type "set") (rSetL X.K X.w) := by
  intro pins s σ H vs us Q I r h
  obtain ⟨l, ns, rfl, hS, hn, q⟩ := h
  rw [Vals.ref1 r]
  obtain ⟨its, rv, p, hz⟩ := I.list hS
  refine call_set_lstI ns (I.ok.hd hc) p.isList (ints_of_vals rv) (by unfold scanBound; omega) fun h' tk c R1 hcn k => ?_
  exact ⟨.ref _, upd H s.heap.objs.size (SetO X.w s.heap.objs.size (fun j => decide (j ∈ ns)) c), I.laid (t' := tk) (fun b u e => k b u e) (Nat.le_refl _) (setO_new R1), rfl, q _ _ (I.hok.fresh (Nat.le_refl _)) hcn⟩
def insU (i : Int) : List Int → List Int
  | [] => [i]
  | j :: r => if i < j then i :: j :: r else if i = j then j :: r else j :: insU i r
def srtU : List Int → List Int
  | [] => []
  | i :: r => insU i (srtU r)
theorem insU_mem (i k : Int) : ∀ l : List Int, k ∈ insU i l ↔ k = i ∨ k ∈ l
  | [] => by simp [insU]
  | j :: r => by
    unfold insU
    split
    · simp
    · split
      · rename_i h; subst h; simp
      · rw [List.mem_cons, insU_mem i k r, List.mem_cons]
        constructor
        · rintro (h | h | h)
          · exact .inr (.inl h)
          · exact .inl h
          · exact .inr (.inr h)
        · rintro (h | h | h)
          · exact .inr (.inl h)
          · exact .inl h
          · exact .inr (.inr h)
theorem srtU_mem (k : Int) : ∀ l : List Int, k ∈ srtU l ↔ k ∈ l
  | [] => by simp [srtU]
  | i :: r => by
    unfold srtU
    rw [insU_mem, srtU_mem k r, List.mem_cons]
theorem insU_sorted (i : Int) : ∀ l : List Int, l.Pairwise (· < ·) → (insU i l).Pairwise (· < ·)
  | [], _ => by simp [insU]
  | j :: r, h => by
    have h1 := List.pairwise_cons.mp h
    unfold insU
    split
    · rename_i hij
      refine List.pairwise_cons.mpr ⟨fun k hk => ?_, h⟩
      rcases List.mem_cons.mp hk with rfl | hk
      · exact hij
      · exact Int.lt_trans hij (h1.1 k hk)
    · split
      · exact h
      · refine List.pairwise_cons.mpr ⟨fun k hk => ?_, insU_sorted i r h1.2⟩
        rcases (insU_mem i k r).mp hk with rfl | hk
        · omega
        · exact h1.1 k hk
theorem srtU_sorted : ∀ l : List Int, (srtU l).Pairwise (· < ·)
  | [] => .nil
  | i :: r => insU_sorted i _ (srtU_sorted r)
theorem strict_uniq : ∀ {as bs : List Int}, as.Pairwise (· < ·) → bs.Pairwise (· < ·) → (∀ k, k ∈ as ↔ k ∈ bs) → as = bs
  | [], [], _, _, _ => rfl
  | [], b :: bs, _, _, h => absurd ((h b).mpr List.mem_cons_self) (by simp)
  | a :: as, [], _, _, h => absurd ((h a).mp List.mem_cons_self) (by simp)
  | a :: as, b :: bs, ha, hb, h => by
    have ha' := List.pairwise_cons.mp ha
    have hb' := List.pairwise_cons.mp hb
    have e : a = b := by
      have h1 := (h a).mp List.mem_cons_self
      have h2 := (h b).mpr List.mem_cons_self
      rcases List.mem_cons.mp h1 with e | h1
      · exact e
      · rcases List.mem_cons.mp h2 with e | h2
        · exact e.symm
        · have := hb'.1 a h1
          have := ha'.1 b h2
          omega
    subst e
    congr 1
    refine strict_uniq ha'.2 hb'.2 fun k => ⟨fun hk => ?_, fun hk => ?_⟩
    · rcases List.mem_cons.mp ((h k).mp (List.mem_cons_of_mem _ hk)) with e | h2
      · exact absurd (ha'.1 k hk) (by omega)
      · exact h2
    · rcases List.mem_cons.mp ((h k).mpr (List.mem_cons_of_mem _ hk)) with e | h2
      · exact absurd (hb'.1 k hk) (by omega)
      · exact h2
def pSortSet : List PV → Option PV
  | [.list xs] => match intsOf xs with
    | none => none
    | some is => if is.length < 64 then some (.list ((srtU is).map .int)) else none
  | _ => none
section
variable {T : List Addr} {X : Cx}
theorem rn_sortSet {K : PySem.W.Frag} {w : World} {f : EF} : ∀ σ H Q, RN T K (callF pSortSet (aCons f aNil)) σ H Q → tCB (rSortedSet w) (tCons (tCB (rSetL K w) (tCons (RE T K f) tNil)) tNil) σ H Q := by
  rintro σ H Q ⟨gh, F, env, d, env', R, e, q⟩
  unfold callF aCons aNil at e
  cases ef : f env with
  | none => rw [ef] at e; cases e
  | some r =>
    obtain ⟨d1, e1⟩ := r
    rw [ef] at e
    dsimp only at e
    cases ep : pSortSet [d1] with
    | none => rw [ep] at e; cases e
    | some d2 =>
      rw [ep] at e
      cases e
      refine ⟨gh, F, env, _, _, R, ef, fun v H1 F1 R1 s1 r1 => ?_⟩
      unfold pSortSet at ep
      split at ep
      · rename_i z ds hz
        cases hz
        split at ep
        · cases ep
        · rename_i is hi
          split at ep
          · rename_i hl
            cases ep
            cases r1 with
            | lst h rr =>
              rw [intsOf_eq hi] at rr
              have hx := rr.ints
              subst hx
              refine ⟨_, is, rfl, .inl (.inl (R1.sub _ _ h)), by omega, fun a c ha hc => ?_⟩
              have R2 := R1.laid (o := SetO w a (fun j => decide (j ∈ is)) c) ha
              refine ⟨a, _, c, rfl, upd_same, by omega, fun ns p hs hm hln hp => ?_⟩
              have hns : ns = srtU is := strict_uniq hs (srtU_sorted is) fun k => by
                rw [hm k, srtU_mem]
                exact decide_eq_true_iff
              subst hns
              obtain ⟨h0, nT, hF⟩ := R2.fresh hp
              exact q p _ F1 (R2.laid hp) s1 hF h0 (R2.own_ne hp) (.lst upd_same (reps_ints _))
          · cases ep
      · cases ep
/-- sorted(set(xs)), whole numbers -/
theorem fn_sortSet {a : Expr} {p p2 pos pos2 : Pos} {f : EF} (hc : X.calm = true) (hm : X.mg "sorted" = none) (hm2 : X.mg "set" = none) (ha : FE T X a f) (hg : Gl X "sorted" := by rfl) (hg2 : Gl X "set" := by rfl)
    (hv : bootBuiltins "sorted" = some (.builtin "sorted") := by decide +kernel) (hv2 : bootBuiltins "set" = some (.type "set") := by decide +kernel)
    (he : starEach [a] X.env = (false, eval a X.env) :: starEach [] X.env := by rfl) (he2 : starEach [.Call (.Name "set" p2) [a] [] pos2] X.env = (false, eval (.Call (.Name "set" p2) [a] [] pos2) X.env) :: starEach [] X.env := by rfl) :
    FN T X (.Call (.Name "sorted" p) [.Call (.Name "set" p2) [a] [] pos2] [] pos) (callF pSortSet (aCons f aNil)) :=
  (pe_callB (cr_sortedSet hc) hg hm hv (pa_cons (pe_callTy (cr_setL hc) hg2 hm2 hv2 (pa_cons ha pa_nil he) (he := he)) pa_nil he2) (he := he2)).weak rn_sortSet
end
theorem canLay_mem : ∀ {xs : List PyData} {d : PyData}, PyData.canLayAll0 xs = true → d ∈ xs → d.canLay0 = true
  | [], _, _, h => by cases h
  | x :: xs, d, hc, h => by
    have h2 : (x.canLay0 && PyData.canLayAll0 xs) = true := by simpa [PyData.canLayAll0] using hc
    rw [Bool.and_eq_true] at h2
    rcases List.mem_cons.mp h with rfl | h
    · exact h2.1
    · exact canLay_mem h2.2 h
open PySem.W (alike AlikeAll minD min_list_data readsAll_at)
def rMinD (K : PySem.W.Frag) : List V → Hp → VK → Prop := fun vs H Q => ∃ (a : Addr) (ys : List V) (x : PV) (xs : List PV), vs = [.ref a] ∧ SqL K H a ys ∧ DpAll K H ys (x :: xs) ∧ AlikeAll (x :: xs) ∧ SeqAt.shaped (.list (x :: xs)) = true ∧
  ∀ (i : Nat) (v : V), ys[i]? = some v → (x :: xs)[i]? = some (minD x xs) → Q v H
theorem cr_minD {X : Cx} (hc : X.calm = true) (hu : X.A.units + 65 < cLine) : CallR X (.builtin "min") (rMinD X.K) := by
  intro pins s σ H vs us Q I r h
  obtain ⟨a, ys, x, xs, rfl, hS, hd, hal, hsh, q⟩ := h
  rw [Vals.ref1 r]
  obtain ⟨its, rv, p, hz⟩ := I.list hS
  obtain ⟨as, hr⟩ := Dp.readsAll I (x :: xs) ys its hd rv
  have hdep : PyData.depthAll (x :: xs) ≤ 64 := by
    have := SeqAt.depth_of_shaped hsh
    simp only [PyData.depth] at this
    omega
  refine min_list_data (I.ok.hd hc) p.isList (by simpa using hr) hal (by omega) fun i v' h' tk bs hv hread hk => ?_
  have hv2 : its[i]? = some v' := by simpa using hv
  have hi : i < its.length := (List.getElem?_eq_some_iff.mp hv2).1
  have hil : i < ys.length := by rw [rv.length]; exact hi
  obtain ⟨u, hu1, ru⟩ := rv.get (List.getElem?_eq_getElem hil)
  rw [hv2] at hu1
  cases hu1
  obtain ⟨cs, hrd, hlt, hmem, _⟩ := readsAll_at hr i v' hv2
  have hcan : PyData.canLayAll0 (x :: xs) = true := by
    have := SeqAt.canLay_of_shaped hsh
    simpa [PyData.canLay0] using this
  have hcd : ((x :: xs).getD i .none).canLay0 = true := by
    exact canLay_mem hcan hmem
  have e1 := (Reads.unique (Reads.keeps hk hrd) _ _ hread).1
  refine ⟨ys[i], H, I.kept (t' := tk) hk, ru, q i _ (List.getElem?_eq_getElem hil) ?_⟩
  rw [← e1, List.getD_eq_getElem?_getD, List.getElem?_eq_getElem hlt]
  rfl
def notN : PV → Bool
  | .none => false
  | _ => true
def allAlike (ds : List PV) : Bool := ds.all (fun x => ds.all fun y => alike x y) && ds.all notN
theorem allAlike_ok {ds : List PV} (h : allAlike ds = true) : AlikeAll ds := by
  unfold allAlike at h
  rw [Bool.and_eq_true] at h
  refine ⟨fun x hx y hy => List.all_eq_true.mp (List.all_eq_true.mp h.1 x hx) y hy, fun x hx z => ?_⟩
  have := List.all_eq_true.mp h.2 x hx
  rw [z] at this
  cases this
def pMinL : List PV → Option PV
  | [.list (x :: xs)] => if noDict (.list (x :: xs)) && SeqAt.shaped (.list (x :: xs)) && allAlike (x :: xs) then some (minD x xs) else none
  | _ => none
theorem cf_minD {T : List Addr} {K : PySem.W.Frag} : CallF T K (rMinD K) pMinL := by
  intro gh F H σ env xs ds d Q R r e q
  unfold pMinL at e
  split at e
  · split at e
    · rename_i x zs hc
      cases e
      simp only [Bool.and_eq_true] at hc
      cases r with
      | cons r1 r2 =>
        cases r2
        cases r1 with
        | lst h rr =>
          refine ⟨_, _, x, zs, rfl, .inl (.inl (R.sub _ _ h)), rr.dp R.sub (by simpa [noDict] using hc.1.1), allAlike_ok hc.2, hc.1.2, fun i v hv hm => ?_⟩
          obtain ⟨v', hv', rv⟩ := rr.get hm
          rw [hv] at hv'
          cases hv'
          exact q _ _ _ R (Same.refl _) rv
    · cases e
  · cases e
end Fx

namespace HT
open PySem PySem.Spec PyProof.Rows
section
variable {prog : Program} {w : World} {A : Around} {E : Value → Shared → Prop} {s : Shared}
theorem adjust_rev (n : Nat) : Builtin.Slice.sliceAdjust none none (-1) (n : Int) = ((n : Int) - 1, -1) := by
  first
    | rfl
    | simp [Builtin.Slice.sliceAdjust]
theorem places_rev (n : Nat) : Builtin.Slice.slicePlaces ((n : Int) - 1) (-1) (-1) = n := by
  unfold Builtin.Slice.slicePlaces
  simp
  omega
theorem sliceApplied_rev {sl : Addr} {vl vu vs : Value} {n : Nat} {Q : Int × Int × Nat → Shared → Prop} (hs : s.heap.IsSliceOf sl vl vu vs) (pl : IsPart vl none) (pu : IsPart vu none) (ps : IsPart vs (some (-1)))
    (h : Q ((n : Int) - 1, -1, n) s) : wpAny (model prog w) A (Builtin.Slice.sliceApplied (.ref sl) (pure (n : Int))) Q E s := by
  obtain ⟨os, hos, hcs, hds⟩ := id hs
  unfold Builtin.Slice.sliceApplied Builtin.Slice.sliceFields
  refine wpAny_bind (wpAny_bind (wpAny_field hos hds (x := vl) rfl (wpAny_bind (wpAny_field hos hds (x := vu) rfl (wpAny_bind (wpAny_field hos hds (x := vs) rfl (wpAny_pure ?_)))))))
  refine wpAny_bind (slicePart_ ps ?_)
  show wpAny _ _ (if ((-1 : Int) == 0) = true then _ else _) _ _ s
  rw [if_neg (by decide)]
  refine wpAny_bind (slicePart_ pl (wpAny_bind (slicePart_ pu (wpAny_bind (wpAny_pure ?_)))))
  show wpAny _ _ (match Builtin.Slice.sliceAdjust none none (-1) (n : Int) with | (lo, hi) => pure (lo, (-1 : Int), Builtin.Slice.slicePlaces lo hi (-1))) _ _ s
  rw [adjust_rev n]
  show wpAny _ _ (pure ((n : Int) - 1, (-1 : Int), Builtin.Slice.slicePlaces ((n : Int) - 1) (-1) (-1))) _ _ s
  rw [places_rev]
  exact wpAny_pure h
theorem fmap_congr {α β : Type} {f g : α → Option β} : ∀ {l : List α}, (∀ m ∈ l, f m = g m) → l.filterMap f = l.filterMap g
  | [], _ => rfl
  | a :: l, h => by
    rw [List.filterMap_cons, List.filterMap_cons, h a List.mem_cons_self, fmap_congr fun m hm => h m (List.mem_cons_of_mem _ hm)]
theorem pick_rev (xs : Array Value) : ((List.range xs.size).filterMap fun (m : Nat) => xs[((xs.size : Int) - 1 + (m : Int) * (-1)).toNat]?).toArray = xs.toList.reverse.toArray := by
  have e : ∀ m ∈ List.range xs.size, xs[((xs.size : Int) - 1 + (m : Int) * (-1)).toNat]? = xs[xs.size - 1 - m]? := fun m hm => by
    have := List.mem_range.mp hm
    have z : ((xs.size : Int) - 1 + (m : Int) * (-1)).toNat = xs.size - 1 - m := by omega
    rw [z]
  rw [fmap_congr e]
  have h2 : (List.range xs.size).filterMap (fun m => xs[xs.size - 1 - m]?) = ((List.range xs.size).map fun k => xs.size - 1 - k).filterMap (xs[·]?) := by
    rw [List.filterMap_map]; rfl
  rw [h2, PySem.W.krv_range, List.filterMap_reverse, PySem.W.krv_all]
theorem getItem_tuple_rev {t sl : Addr} {items : Array Value} {vl vu vs : Value} {Q : Value → Shared → Prop} (ht : IsTup s.heap t items) (hs : s.heap.IsSliceOf sl vl vu vs) (pl : IsPart vl none) (pu : IsPart vu none) (ps : IsPart vs (some (-1)))
    (h : Q (.ref s.heap.objs.size) { s with heap := s.heap.push { cls := .type "tuple", data := .seq items.toList.reverse.toArray } })
    (hsz : items.size ≤ sizeLine) : wpAny (model prog w) A (getItem (.ref t) (.ref sl)) Q E s := by
  have htake : sizeOk (.seq items.toList.reverse.toArray) := by
    show items.toList.reverse.toArray.size ≤ sizeLine
    rw [List.size_toArray, List.length_reverse, Array.length_toList]
    exact hsz
  obtain ⟨os, hos, hcs, hds⟩ := id hs
  have hTs : s.TypeIs (.ref sl) "slice" := ⟨os, hos, hcs⟩
  unfold getItem
  try with_reducible refine wpAny_holding ?_
  first | refine wpAny_bind (wpAny_pure ?_) | skip
  refine wpAny_bind (wpAny_sequenceKey ht.typeIs (by decide) ?_)
  refine wpAny_bind (wpAny_callSpecial?_slot (name := Str.ofString "__getitem__") ht.typeIs PyProof.Rows.slot_tuple_getitem
    (wpAny_call_entry PyProof.Rows.slot_tuple_getitem ht.typeIs entry_tuple_getitem ?_ (args_tuple_getitem _ _)))
  show wpAny _ _ (Builtin.Tuple.tupleItemsOf (.ref t) >>= _) _ _ s
  refine wpAny_bind (tupleItemsOf_ ht ?_)
  refine wpAny_bind (wpAny_typeOf hTs ?_)
  rw [if_pos (by decide)]
  refine wpAny_bind (sliceApplied_rev hs pl pu ps ?_)
  have hno : ¬ ((((items.size : Int) - 1) == 0 && (-1 : Int) == 1 && items.size == items.size) = true) := by
    intro q
    rw [Bool.and_eq_true, Bool.and_eq_true] at q
    exact absurd q.1.2 (by decide)
  show wpAny _ _ (if (((items.size : Int) - 1) == 0 && (-1 : Int) == 1 && items.size == items.size) = true then _ else _) _ _ s
  rw [if_neg hno, pick_rev]
  first
    | exact wpAny_bind (m := Builtin.Tuple.tupleExact _) (wpAny_newObj_type (wpAny_pure ⟨_, rfl, wpAny_pure h⟩) htake)
    | exact wpAny_bind (m := Builtin.Tuple.tupleExact _) (wpAny_newObj_type (wpAny_bind (wpAny_pure (wpAny_pure ⟨_, rfl, wpAny_pure h⟩))) htake)
    | exact wpAny_bind (wpAny_bind (m := Builtin.Tuple.tupleExact _) (wpAny_newObj_type (wpAny_pure (wpAny_pure ⟨_, rfl, wpAny_pure h⟩)) htake))
    | exact wpAny_bind (wpAny_bind (m := Builtin.Tuple.tupleExact _) (wpAny_newObj_type (wpAny_pure ⟨_, rfl, wpAny_pure h⟩) htake))
end
end HT
namespace Fx
open PySem PySem.Spec L2
open PyProof.Rows hiding St
section
variable {T : List Addr} {X : Cx}
def tRevT (K : PySem.W.Frag) (te : TE) : TE := fun σ H Q => te σ H fun x H1 => ∃ a xs, x = .ref a ∧ SqT K H1 a xs ∧ ∀ p, H1 p = none → Q (.ref p) (upd H1 p (.tup xs.reverse))
theorem pe_revT {e : Expr} {te : TE} {k : Nat} {p1 p2 p3 pos : Pos} (he : PE X e te) : PE X (.Subscript e (.Slice none none (some (.UnaryOp .USub (.Constant (.int 1) k p1) p2)) p3) pos) (tRevT X.K te) := by
  refine ⟨fun pins s σ H Q I h => ?_⟩
  refine Subscript_ (thn (he.run pins s σ H _ I h) fun v s1 ⟨x, H1, I1, r1, q1⟩ => ?_)
  obtain ⟨a, xs, ex, hx, q⟩ := q1
  subst ex
  cases r1
  have hst : PO X (some (.UnaryOp .USub (.Constant (.int 1) k p1) p2)) (tPart (tUn (rU fun i => .int (-i)) (tC (.int 1)))) := po_some (pe_un un_neg pe_int)
  refine wpAny_Slice (thn (po_none.run pins s1 σ H1 (fun o H2 => o = none ∧ H2 = H1) I1 ⟨rfl, rfl⟩) fun vl s2 ⟨l, H2, I2, pl, el, e2⟩ => ?_)
  subst el e2
  refine thn (po_none.run pins s2 σ H2 (fun o H3 => o = none ∧ H3 = H2) I2 ⟨rfl, rfl⟩) fun vu s3 ⟨u, H3, I3, pu, eu, e3⟩ => ?_
  subst eu e3
  refine thn (hst.run pins s3 σ H3 (fun o H4 => o = some (-1) ∧ H4 = H3) I3 ⟨1, rfl, -1, rfl, rfl, rfl⟩) fun vs s4 ⟨o, H4, I4, ps, eo, e4⟩ => ?_
  subst eo e4
  have I5 : Inv X pins σ H4 { s4 with heap := s4.heap.push { cls := .type "slice", data := .fields #[vl, vu, vs] } } := I4.kept (t' := s4.toks) fun b ob q => Heap.get?_push_of_some _ q
  obtain ⟨its, r, ht, hz⟩ := I5.tuple hx
  have hlen := r.length
  show wpAny (model X.prog X.w) X.A (subscriptTail e (.Slice none none (some (.UnaryOp .USub (.Constant (.int 1) k p1) p2)) p3) (.ref a) (.ref s4.heap.objs.size)) (EP X pins σ Q) X.xe { s4 with heap := s4.heap.push { cls := .type "slice", data := .fields #[vl, vu, vs] } }
  refine tail_any (ops := [.ref a, .ref s4.heap.objs.size]) ht.typeIs (PyProof.Rows.slot_tuple_getitem.lookup) ?_ (by with_unfolding_all rfl)
  refine HT.getItem_tuple_rev ht (Heap.IsSliceOf.new _ vl vu vs) pl pu ps ?_ (by rw [List.size_toArray]; omega)
  refine ⟨.ref _, _, I5.laid (t' := s4.toks) (o := .tup xs.reverse) (fun b ob q => Heap.get?_push_of_some _ q) (Nat.le_refl _) ?_, rfl, q _ (I5.hok.fresh (Nat.le_refl _))⟩
  exact ⟨by rw [List.length_reverse]; exact hz, _, r.reverse, IsTup.new _ _⟩
/-- t[::-1] -/
def eRevT (f : EF) : EF := fun env => match f env with
  | some (.tuple xs, e) => some (.tuple xs.reverse, e)
  | _ => none
theorem fe_revT {a : Expr} {k : Nat} {p1 p2 p3 pos : Pos} {f : EF} (ha : FE T X a f) : FE T X (.Subscript a (.Slice none none (some (.UnaryOp .USub (.Constant (.int 1) k p1) p2)) p3) pos) (eRevT f) :=
  (pe_revT ha).weak fun σ H Q ⟨gh, F, env, d, env', R, e, q⟩ => by
    unfold eRevT at e
    split at e
    · rename_i xs e1 ef
      cases e
      refine ⟨gh, F, env, _, _, R, ef, fun v H1 F1 R1 s1 r1 => ?_⟩
      cases r1 with
      | tup h rr =>
        refine ⟨_, _, rfl, SqT.mono R1.sub (sqT h), fun p hp => ?_⟩
        obtain ⟨R2, s2⟩ := R1.laidF (o := .tup _) hp
        exact q _ _ _ R2 (s1.trans s2) (.tup (.inl upd_same) (rr.reverse.mono s2))
    · cases e
end
end Fx

namespace Fx
open PySem PySem.Spec L2
open PyProof.Rows hiding St
section
variable {T : List Addr} {X : Cx}
def zipL : List PV → List PV → List PV
  | x :: xs, y :: ys => .tuple [x, y] :: zipL xs ys
  | _, _ => []
theorem zipL_get : ∀ (xs ys : List PV) (i : Nat), (zipL xs ys)[i]? = match xs[i]?, ys[i]? with
    | some x, some y => some (.tuple [x, y])
    | _, _ => none
  | [], ys, i => by simp [zipL]
  | x :: xs, [], i => by
    simp only [zipL, List.getElem?_nil]
    cases (x :: xs)[i]? <;> rfl
  | x :: xs, y :: ys, 0 => rfl
  | x :: xs, y :: ys, i + 1 => zipL_get xs ys i
theorem yields_zip {K : PySem.W.Frag} {F : Hp} {a b : Addr} {xs ys : List V} {ds es : List PV} (h1 : SqL K F a xs) (h2 : SqL K F b ys) (r1 : Reps K F xs ds) (r2 : Reps K F ys es) : Yields T K (Itz K a b) (zipL ds es) F := fun g i F' H σ env R s => by
  have hA : SqL K H a xs := SqL.mono R.sub (SqL.mono s h1)
  have hB : SqL K H b ys := SqL.mono R.sub (SqL.mono s h2)
  rw [zipL_get]
  cases hx : ds[i]? with
  | none =>
    refine ⟨fun d hd => (by cases hd), fun _ => ?_⟩
    exact ⟨xs, ys, hA, hB, .inl (by rw [r1.len]; exact List.getElem?_eq_none_iff.mp hx)⟩
  | some x =>
    cases hy : es[i]? with
    | none =>
      refine ⟨fun d hd => (by cases hd), fun _ => ?_⟩
      exact ⟨xs, ys, hA, hB, .inr (by rw [r2.len]; exact List.getElem?_eq_none_iff.mp hy)⟩
    | some y =>
      refine ⟨fun d hd => ?_, fun z => (by cases z)⟩
      cases hd
      obtain ⟨v, hv, rv⟩ := r1.get hx
      obtain ⟨w, hw, rw'⟩ := r2.get hy
      refine ⟨⟨xs, ys, v, w, hA, hB, hv, hw⟩, fun z H' hz => ?_⟩
      obtain ⟨t, v2, w2, rfl, hT, rfl, e1, e2⟩ := hz
      have q1 := e1 xs hA
      have q2 := e2 ys hB
      rw [hv] at q1; cases q1
      rw [hw] at q2; cases q2
      obtain ⟨R2, s2⟩ := R.laidF (o := .tup [v, w]) hT
      exact ⟨_, R2, s2, .tup (.inl upd_same) (.cons (rv.mono (s.trans s2)) (.cons (rw'.mono (s.trans s2)) .nil))⟩
theorem yields_zipT {K : PySem.W.Frag} {F : Hp} {a b : Addr} {xs ys : List V} {ds es : List PV} (h1 : SqT K F a xs) (h2 : SqT K F b ys) (r1 : Reps K F xs ds) (r2 : Reps K F ys es) : Yields T K (RZ.ItzT K a b) (zipL ds es) F := fun g i F' H σ env R s => by
  have hA : SqT K H a xs := SqT.mono R.sub (SqT.mono s h1)
  have hB : SqT K H b ys := SqT.mono R.sub (SqT.mono s h2)
  rw [zipL_get]
  cases hx : ds[i]? with
  | none =>
    refine ⟨fun d hd => (by cases hd), fun _ => ?_⟩
    exact ⟨xs, ys, hA, hB, .inl (by rw [r1.len]; exact List.getElem?_eq_none_iff.mp hx)⟩
  | some x =>
    cases hy : es[i]? with
    | none =>
      refine ⟨fun d hd => (by cases hd), fun _ => ?_⟩
      exact ⟨xs, ys, hA, hB, .inr (by rw [r2.len]; exact List.getElem?_eq_none_iff.mp hy)⟩
    | some y =>
      refine ⟨fun d hd => ?_, fun z => (by cases z)⟩
      cases hd
      obtain ⟨v, hv, rv⟩ := r1.get hx
      obtain ⟨w, hw, rw'⟩ := r2.get hy
      refine ⟨⟨xs, ys, v, w, hA, hB, hv, hw⟩, fun z H' hz => ?_⟩
      obtain ⟨t, v2, w2, rfl, hT, rfl, e1, e2⟩ := hz
      have q1 := e1 xs hA
      have q2 := e2 ys hB
      rw [hv] at q1; cases q1
      rw [hw] at q2; cases q2
      obtain ⟨R2, s2⟩ := R.laidF (o := .tup [v, w]) hT
      exact ⟨_, R2, s2, .tup (.inl upd_same) (.cons (rv.mono (s.trans s2)) (.cons (rw'.mono (s.trans s2)) .nil))⟩
def wZip (f : AF) : AF := fun env => match f env with
  | some ([.list xs, .list ys], e) => some (zipL xs ys, e)
  | some ([.tuple xs, .tuple ys], e) => some (zipL xs ys, e)
  | _ => none
theorem fi_zip {a b : Expr} {elts : List Expr} {kk : Nat} {tpos p pos : Pos} {f : AF} (hg : Gl X "zip") (hm : X.mg "zip" = none) (ha : FA T X [a, b] f)
    (hs : starEach [a, b] X.env = (false, eval a X.env) :: starEach [b] X.env := by rfl) (hpl : (backTo pos (starEach [b] X.env)).any (·.1) = false := by rfl) : FI T X (.Tuple elts kk tpos) (.Call (.Name "zip" p) [a, b] [] pos) (wZip f) :=
  (RZ.pi_zipA hg hm ha hs hpl).weak fun σ H Q ⟨gh, F, env, ds, env', R, e, q⟩ => by
    unfold wZip at e
    split at e
    · rename_i xs ys e1 ef
      cases e
      refine ⟨gh, F, env, _, _, R, ef, fun vs H1 F1 R1 s1 r1 => ?_⟩
      cases r1 with
      | cons ra r2 => cases r2 with
        | cons rb r3 =>
          cases r3
          cases ra with
          | lst h1 rr1 => cases rb with
            | lst h2 rr2 => exact ⟨_, _, _, _, rfl, .inl ⟨.inl (.inl (R1.sub _ _ h1)), .inl (.inl (R1.sub _ _ h2)), q _ _ _ R1 s1 (yields_zip (.inl (.inl h1)) (.inl (.inl h2)) rr1 rr2)⟩⟩
    · rename_i xs ys e1 ef
      cases e
      refine ⟨gh, F, env, _, _, R, ef, fun vs H1 F1 R1 s1 r1 => ?_⟩
      cases r1 with
      | cons ra r2 => cases r2 with
        | cons rb r3 =>
          cases r3
          cases ra with
          | tup h1 rr1 => cases rb with
            | tup h2 rr2 => exact ⟨_, _, _, _, rfl, .inr ⟨SqT.mono R1.sub (sqT h1), SqT.mono R1.sub (sqT h2), q _ _ _ R1 s1 (yields_zipT (sqT h1) (sqT h2) rr1 rr2)⟩⟩
    · cases e
def rngC (lo c : Int) : Nat → List PV
  | 0 => []
  | n + 1 => .int lo :: rngC (lo + c) c n
theorem rngC_get : ∀ (n : Nat) (lo c : Int) (i : Nat), (rngC lo c n)[i]? = if i < n then some (.int (lo + (i : Nat) * c)) else none
  | 0, lo, c, i => by simp [rngC]
  | n + 1, lo, c, 0 => by simp [rngC]
  | n + 1, lo, c, i + 1 => by
    show (rngC (lo + c) c n)[i]? = _
    rw [rngC_get n (lo + c) c i]
    have e : lo + c + (i : Int) * c = lo + ((i + 1 : Nat) : Int) * c := by
      have : ((i + 1 : Nat) : Int) = (i : Int) + 1 := by omega
      rw [this, Int.add_mul, Int.one_mul]; omega
    by_cases h : i < n
    · rw [if_pos h, if_pos (by omega), e]
    · rw [if_neg h, if_neg (by omega)]
def wRng3 (f : AF) : AF := fun env => match f env with
  | some ([.int i, .int j, .int c], e) => if c ≠ 0 ∧ c.natAbs < 1073741824 ∧ Builtin.Range.small i j c = true ∧ 0 ≤ Builtin.Range.rangeSize i j c then some (rngC i c (Builtin.Range.rangeSize i j c).toNat, e) else none
  | _ => none
theorem fi_rng3 {tg a b c : Expr} {p pos : Pos} {f : AF} (hg : Gl X "range") (hm : X.mg "range" = none) (ha : FA T X [a, b, c] f)
    (hs : starEach [a, b, c] X.env = (false, eval a X.env) :: starEach [b, c] X.env := by rfl) (hpl : (backTo pos (starEach [b, c] X.env)).any (·.1) = false := by rfl) : FI T X tg (.Call (.Name "range" p) [a, b, c] [] pos) (wRng3 f) :=
  (pi_range3 hg hm ha hs hpl).weak fun σ H Q ⟨gh, F, env, ds, env', R, e, q⟩ => by
    unfold wRng3 at e
    split at e
    · split at e
      · rename_i i j c e1 ef hc
        cases e
        refine ⟨gh, F, env, _, _, R, ef, fun vs H1 F1 R1 s1 r1 => ?_⟩
        cases r1 with
        | cons ra r2 => cases r2 with
          | cons rb r3 => cases r3 with
            | cons rc r4 =>
              cases r4
              refine ⟨i, j, c, (Builtin.Range.rangeSize i j c).toNat, by rw [ra.int_iff, rb.int_iff, rc.int_iff], ⟨hc.1, hc.2.1, hc.2.2.1, (Int.toNat_of_nonneg hc.2.2.2).symm⟩, q _ _ _ R1 s1 fun g k F' H' σ' env' R' s' => ?_⟩
              rw [rngC_get]
              by_cases hk : k < (Builtin.Range.rangeSize i j c).toNat
              · rw [if_pos hk]
                refine ⟨fun d hd => ?_, fun z => (by cases z)⟩
                cases hd
                refine ⟨hk, fun x H'' hx => ?_⟩
                obtain ⟨rfl, rfl⟩ := hx
                exact ⟨F', R', Same.refl _, .int _⟩
              · rw [if_neg hk]
                exact ⟨fun d hd => (by cases hd), fun _ => (by show (Builtin.Range.rangeSize i j c).toNat ≤ k; omega)⟩
      · cases e
    · cases e
theorem fe_globI {x : Str} {i : Int} {t : Tok} {pos : Pos} (hm : X.mg x = some (.int i t)) (hg : Gl X x := by rfl) (hd : (x == ("__debug__" : Str)) = false := by decide) : FE T X (.Name x pos) (kE (.int i)) :=
  fe_val (pe_glob hg hm (v := .int i) ⟨t, rfl⟩ hd) fun _ => .int i
theorem fe_globS {x z : Str} {t : Tok} {pos : Pos} (hm : X.mg x = some (.str z t)) (hg : Gl X x := by rfl) (hd : (x == ("__debug__" : Str)) = false := by decide) : FE T X (.Name x pos) (kE (.str z)) :=
  fe_val (pe_glob hg hm (v := .str z) ⟨t, rfl⟩ hd) fun _ => .str z
def strsOf : List PV → Option (List Str)
  | [] => some []
  | .str z :: r => match strsOf r with
    | none => none
    | some zs => some (z :: zs)
  | _ :: _ => none
theorem strsOf_eq {K : PySem.W.Frag} {F : Hp} : ∀ {vs : List V} {ds : List PV} {zs : List Str}, Reps K F vs ds → strsOf ds = some zs → vs = zs.map V.str
  | _, _, _, .nil, h => by cases h; rfl
  | _, _, _, .cons (d := d) r t, h => by
    cases d with
    | str z =>
      unfold strsOf at h
      split at h
      · cases h
      · rename_i zs1 h2
        cases h
        rw [r.str_iff, strsOf_eq t h2]; rfl
    | _ => cases h
def pJoin (a : Str) : PV → Option PV
  | .list ds => match strsOf ds with
    | none => none
    | some zs => if (zs.map (·.length)).sum + zs.length * a.length ≤ 16777216 then some (.str (Txt.join a zs)) else none
  | .tuple ds => match strsOf ds with
    | none => none
    | some zs => if (zs.map (·.length)).sum + zs.length * a.length ≤ 16777216 then some (.str (Txt.join a zs)) else none
  | _ => none
def eJoin (fo f : EF) : EF := fun env => match fo env with
  | some (.str a, e) => (match f e with
    | none => none
    | some (d, e2) => match pJoin a d with
      | none => none
      | some r => some (r, e2))
  | _ => none
theorem fe_join {o a : Expr} {apos pos : Pos} {fo f : EF} (ho : FE T X o fo) (ha : FE T X a f) (hs : starEach [a] X.env = [(false, eval a X.env)] := by rfl) (hbase : attributeBase o "join" X.env (eval o X.env) = eval o X.env := by rfl) (hline : (apos.endLine == pos.line) = true := by rfl) :
    FE T X (.Call (.Attribute o "join" apos) [a] [] pos) (eJoin fo f) :=
  (pe_join ho ha hs hbase hline).weak fun σ H Q ⟨gh, F, env, d, env', R, e, q⟩ => by
    unfold eJoin at e
    split at e
    · rename_i z e1 ef
      split at e
      · cases e
      · rename_i d2 e2 eg
        split at e
        · cases e
        · rename_i r er
          cases e
          refine ⟨gh, F, env, _, _, R, ef, fun v H1 F1 R1 s1 r1 => ?_⟩
          refine ⟨⟨z, r1.str_iff⟩, gh, F1, _, _, _, R1, eg, fun y H2 F2 R2 s2 r2 => ?_⟩
          unfold pJoin at er
          split at er
          · split at er
            · cases er
            · rename_i zs hz
              split at er
              · rename_i hl
                cases er
                cases r2 with
                | lst h rr =>
                  have := strsOf_eq rr hz
                  subst this
                  exact ⟨z, _, zs, r1.str_iff, rfl, .inl (.inl (.inl (R2.sub _ _ h))), hl, q _ _ _ R2 (s1.trans s2) (.str _)⟩
              · cases er
          · split at er
            · cases er
            · rename_i zs hz
              split at er
              · rename_i hl
                cases er
                cases r2 with
                | tup h rr =>
                  have := strsOf_eq rr hz
                  subst this
                  exact ⟨z, _, zs, r1.str_iff, rfl, .inr (SqT.mono R2.sub (sqT h)), hl, q _ _ _ R2 (s1.trans s2) (.str _)⟩
              · cases er
          · cases er
    · cases e
end
end Fx

namespace Fx
open PySem PySem.Spec L2
open PyProof.Rows hiding St
def vOf : PV → Option V
  | .none => some .non
  | .bool b => some (.bl b)
  | .int i => some (.int i)
  | .str z => some (.str z)
  | _ => none
def vsOf : List PV → Option (List V)
  | [] => some []
  | d :: r => match vOf d with
    | none => none
    | some v => match vsOf r with
      | none => none
      | some vs => some (v :: vs)
theorem Rep.vOf {K : PySem.W.Frag} {F : Hp} {v x : V} {d : PV} (r : Rep K F v d) (h : Fx.vOf d = some x) : v = x := by
  cases r <;> cases h <;> rfl
theorem Reps.vsOf {K : PySem.W.Frag} {F : Hp} : ∀ {vs xs : List V} {ds : List PV}, Reps K F vs ds → Fx.vsOf ds = some xs → vs = xs
  | _, _, _, .nil, h => by cases h; rfl
  | _, _, _, .cons r t, h => by
    unfold Fx.vsOf at h
    split at h
    · cases h
    · rename_i v1 h1
      split at h
      · cases h
      · rename_i vs1 h2
        cases h
        rw [r.vOf h1, Reps.vsOf t h2]
def pInFl (g : Bool → Bool) (d : PV) (ds : List PV) : Option PV := match vOf d with
  | none => none
  | some x => match vsOf ds with
    | none => none
    | some xs => if flatV x = true ∧ xs.all flatV = true then some (.bool (g (inV x xs))) else none
def pInF (g : Bool → Bool) : PV → PV → Option PV
  | d, .list ds => pInFl g d ds
  | d, .tuple ds => pInFl g d ds
  | _, _ => none
theorem pInFl_eq {g : Bool → Bool} {d r : PV} {ds : List PV} (h : pInFl g d ds = some r) : ∃ x xs, vOf d = some x ∧ vsOf ds = some xs ∧ flatV x = true ∧ xs.all flatV = true ∧ r = .bool (g (inV x xs)) := by
  unfold pInFl at h
  split at h
  · cases h
  · rename_i x hx
    split at h
    · cases h
    · rename_i xs hxs
      split at h
      · rename_i hc
        cases h
        exact ⟨x, xs, hx, hxs, hc.1, hc.2, rfl⟩
      · cases h
theorem of_inF {T : List Addr} {K : PySem.W.Frag} : OpF T K (rIn K false) (pInF id) := by
  intro gh F H σ env x y a b d Q R ra rb e q
  unfold pInF at e
  split at e
  · obtain ⟨u, us, h1, h2, h3, h4, rfl⟩ := pInFl_eq e
    cases rb with
    | lst h rr =>
      obtain rfl := ra.vOf h1
      obtain rfl := rr.vsOf h2
      exact ⟨_, _, rfl, .inl (.inl (.inl (R.sub _ _ h))), h3, h4, q _ _ _ R (Same.refl _) (.bl _)⟩
  · obtain ⟨u, us, h1, h2, h3, h4, rfl⟩ := pInFl_eq e
    cases rb with
    | tup h rr =>
      obtain rfl := ra.vOf h1
      obtain rfl := rr.vsOf h2
      exact ⟨_, _, rfl, .inr (SqT.mono R.sub (sqT h)), h3, h4, q _ _ _ R (Same.refl _) (.bl _)⟩
  · cases e
theorem of_notInF {T : List Addr} {K : PySem.W.Frag} : OpF T K (rIn K true) (pInF not) := by
  intro gh F H σ env x y a b d Q R ra rb e q
  unfold pInF at e
  split at e
  · obtain ⟨u, us, h1, h2, h3, h4, rfl⟩ := pInFl_eq e
    cases rb with
    | lst h rr =>
      obtain rfl := ra.vOf h1
      obtain rfl := rr.vsOf h2
      exact ⟨_, _, rfl, .inl (.inl (.inl (R.sub _ _ h))), h3, h4, q _ _ _ R (Same.refl _) (.bl _)⟩
  · obtain ⟨u, us, h1, h2, h3, h4, rfl⟩ := pInFl_eq e
    cases rb with
    | tup h rr =>
      obtain rfl := ra.vOf h1
      obtain rfl := rr.vsOf h2
      exact ⟨_, _, rfl, .inr (SqT.mono R.sub (sqT h)), h3, h4, q _ _ _ R (Same.refl _) (.bl _)⟩
  · cases e
end Fx

namespace Fx
open PySem PySem.Spec L2
open PyProof.Rows hiding St
section
variable {T : List Addr} {X : Cx}
/-- f(e, .., *y), f a def -/
theorem fe_callS {CX : CXT} {k : Nat} {f : Addr} {fd : FuncData} {ps : List Str} {g : List PV → Option PV} {E : XK} {x : Str} {p pos : Pos} {e : Expr} {es : List Expr} {h : AF} (F : FnOk X.prog X.w X.K X.mg X.base CX k f fd ps (spP T X.K g)) (hr : Room k X.A) (hm : X.mg x = some (.ref f)) (hk : PySem.W.keepIn X.K (.ref f) = true) (hb : Binds X.K fd ps []) (hx : Passes CX X E)
    (ha : FA T X (e :: es) h) (hg : Gl X x := by rfl) (hdb : (x == ("__debug__" : Str)) = false := by decide) (he : starEach (e :: es) X.env = (false, eval e X.env) :: starEach es X.env := by rfl) (hpl : (backTo pos (starEach es X.env)).any (·.1) = true := by rfl) :
    FE T X (.Call (.Name x p) (e :: es) [] pos) (callF g h) :=
  (StX.pe_callS2 (F.raw hb .nil) hr hk hg hm hx ha hdb he hpl).weak fun σ H Q q => cf_call (E := E) σ H Q q
end
end Fx

namespace Fx
open PySem PySem.Spec L2
open PyProof.Rows hiding St
section
variable {T : List Addr} {X : Cx}
theorem getD_rep {K : PySem.W.Frag} {F : Hp} {kvs : List (Key × V)} {ds : List (PV × PV)} {k : Key} (rr : RepK K F kvs ds) {v : V} {d : PV} (r : Rep K F v d) : Rep K F ((valV kvs k).getD v) ((dVal k ds).getD d) := by
  cases h : dVal k ds with
  | none => rw [rr.val.2 h]; exact r
  | some e =>
    obtain ⟨w, e1, r1⟩ := rr.val.1 _ h
    rw [e1]; exact r1
theorem getD_repT {K : PySem.W.Frag} {F : Hp} {kvs : List (List Key × V)} {ds : List (PV × PV)} {k : List Key} (rr : RepT K F kvs ds) {v : V} {d : PV} (r : Rep K F v d) : Rep K F ((valV kvs k).getD v) ((dValT k ds).getD d) := by
  cases h : dValT k ds with
  | none => rw [rr.val.2 h]; exact r
  | some e =>
    obtain ⟨w, e1, r1⟩ := rr.val.1 _ h
    rw [e1]; exact r1
def plD (d : PV) : Bool := match d with
  | .dict ds => plainD ds
  | _ => false
/-- d.get(k, x), d at slot i, keyed by whole numbers or texts -/
def dGet2 (i : Nat) (fb fx : EF) : EF := fun env => match Fx.cont env i with
  | none => none
  | some d0 => if plD d0 = true then (match fb env with
    | none => none
    | some (y, e) => match keyOf y with
      | none => none
      | some k => match fx e with
        | none => none
        | some (z, e2) => match Fx.cont e2 i with
          | some (.dict ds) => if plainD ds = true then some ((dVal k ds).getD z, e2) else none
          | _ => none) else none
theorem Rel.isD {K : PySem.W.Frag} {g : Gh} {F H : Hp} {σ : St} {env : Ev} {i : Nat} {d : PV} (R : Rel T K g F H σ env) (h : Fx.cont env i = some d) (hp : plD d = true) : ∃ a, σ[i]? = some (some (.ref a)) ∧ IsD H a := by
  obtain ⟨v, ev, rd⟩ := R.cont h
  cases d with
  | dict ds =>
    obtain ⟨a, kvs, rfl, hl, _⟩ := rd.dk R.sub hp
    exact ⟨a, ev, .inl ⟨kvs, .inl hl⟩⟩
  | _ => cases hp
theorem fe_dGet2 (i : Nat) {x : Str} {px apos cpos : Pos} {b c : Expr} {fb fx : EF} (hu : X.A.units + 1 < cLine) (hb : FE T X b fb) (hx : FE T X c fx) (hN : X.N[i]? = some x := by rfl) (hv : Vis X.env.scope x := by first | exact Or.inl rfl | exact Or.inr (Or.inl rfl) | exact Or.inr (Or.inr rfl))
    (hd : (x == ("__debug__" : Str)) = false := by decide) (hcd : (x == ("__classdict__" : Str)) = false := by decide) (m : M2 X (.Name x px) "get" apos b c cpos := by exact ⟨rfl, rfl, rfl, rfl⟩) :
    FE T X (.Call (.Attribute (.Name x px) "get" apos) [b, c] [] cpos) (dGet2 i fb fx) :=
  (pe_dget2 hu (pe_var hN hv hd hcd) hb hx m).weak fun σ H Q ⟨gh, F, env, d, env', R, e, q⟩ => by
    unfold dGet2 at e
    split at e
    · cases e
    · rename_i d0 h0
      split at e
      · rename_i hp0
        obtain ⟨a, ev, hD⟩ := R.isD h0 hp0
        refine ⟨.ref a, ev, a, rfl, hD, ?_⟩
        split at e
        · cases e
        · rename_i y e1 eb
          refine ⟨gh, F, env, _, _, R, eb, fun y' H1 F1 R1 s1 rb => ?_⟩
          split at e
          · cases e
          · rename_i k hk
            split at e
            · cases e
            · rename_i z e2 ex
              refine ⟨gh, F1, _, _, _, R1, ex, fun z' H2 F2 R2 s2 rz => ?_⟩
              split at e
              · rename_i ds h1
                split at e
                · rename_i hp
                  cases e
                  obtain ⟨v', ev', rd⟩ := R2.cont h1
                  rw [ev] at ev'
                  cases ev'
                  obtain ⟨a', kvs, ea, hl, rr⟩ := rd.dk R2.sub hp
                  cases ea
                  obtain rfl := rb.key hk
                  exact ⟨valV kvs k, DGet.k hl, q _ _ _ R2 (s1.trans s2) (getD_rep rr rz)⟩
                · cases e
              · cases e
      · cases e
/-- d.get(k) -/
def dGet1 (i : Nat) (fb : EF) : EF := fun env => match Fx.cont env i with
  | none => none
  | some d0 => if plD d0 = true then (match fb env with
    | none => none
    | some (y, e) => match keyOf y with
      | none => none
      | some k => match Fx.cont e i with
        | some (.dict ds) => if plainD ds = true then some ((dVal k ds).getD .none, e) else none
        | _ => none) else none
theorem fe_dGet1 (i : Nat) {x : Str} {px apos cpos : Pos} {b : Expr} {fb : EF} (hu : X.A.units + 1 < cLine) (hb : FE T X b fb) (hN : X.N[i]? = some x := by rfl) (hv : Vis X.env.scope x := by first | exact Or.inl rfl | exact Or.inr (Or.inl rfl) | exact Or.inr (Or.inr rfl))
    (hd : (x == ("__debug__" : Str)) = false := by decide) (hcd : (x == ("__classdict__" : Str)) = false := by decide) (m : M1 X (.Name x px) "get" apos b cpos := by exact ⟨rfl, rfl, rfl, rfl⟩) :
    FE T X (.Call (.Attribute (.Name x px) "get" apos) [b] [] cpos) (dGet1 i fb) :=
  (pe_dget1 hu (pe_var hN hv hd hcd) hb m).weak fun σ H Q ⟨gh, F, env, d, env', R, e, q⟩ => by
    unfold dGet1 at e
    split at e
    · cases e
    · rename_i d0 h0
      split at e
      · rename_i hp0
        obtain ⟨a, ev, hD⟩ := R.isD h0 hp0
        refine ⟨.ref a, ev, a, rfl, hD, ?_⟩
        split at e
        · cases e
        · rename_i y e1 eb
          refine ⟨gh, F, env, _, _, R, eb, fun y' H1 F1 R1 s1 rb => ?_⟩
          split at e
          · cases e
          · rename_i k hk
            split at e
            · rename_i ds h1
              split at e
              · rename_i hp
                cases e
                obtain ⟨v', ev', rd⟩ := R1.cont h1
                rw [ev] at ev'
                cases ev'
                obtain ⟨a', kvs, ea, hl, rr⟩ := rd.dk R1.sub hp
                cases ea
                obtain rfl := rb.key hk
                exact ⟨valV kvs k, DGet.k hl, q _ _ _ R1 s1 (getD_rep rr .non)⟩
              · cases e
            · cases e
      · cases e
def maxI (m : Int) : List Int → Int
  | [] => m
  | n :: r => maxI (if m < n then n else m) r
theorem maxI_ge : ∀ (l : List Int) (m : Int), m ≤ maxI m l ∧ ∀ n ∈ l, n ≤ maxI m l
  | [], m => ⟨Int.le_refl _, fun n h => by cases h⟩
  | n :: r, m => by
    obtain ⟨h1, h2⟩ := maxI_ge r (if m < n then n else m)
    refine ⟨Int.le_trans ?_ h1, fun k hk => ?_⟩
    · split <;> omega
    · rcases List.mem_cons.mp hk with rfl | hk
      · exact Int.le_trans (by split <;> omega) h1
      · exact h2 k hk
theorem maxI_mem : ∀ (l : List Int) (m : Int), maxI m l = m ∨ maxI m l ∈ l
  | [], m => .inl rfl
  | n :: r, m => by
    unfold maxI
    rcases maxI_mem r (if m < n then n else m) with h | h
    · rw [h]
      split
      · exact .inr List.mem_cons_self
      · exact .inl rfl
    · exact .inr (List.mem_cons_of_mem _ h)
def pMaxL : List PV → Option PV
  | [.list xs] => match intsOf xs with
    | some (i :: is) => some (.int (maxI i is))
    | _ => none
  | _ => none
theorem cf_maxL {K : PySem.W.Frag} : CallF T K (rMax K) pMaxL := by
  intro gh F H σ env xs ds d Q R r e q
  unfold pMaxL at e
  split at e
  · split at e
    · rename_i ds i is hi
      cases e
      cases r with
      | cons r1 r2 =>
        cases r2
        cases r1 with
        | lst h rr =>
          rw [intsOf_eq hi] at rr
          have := rr.ints
          subst this
          refine ⟨_, i :: is, rfl, .inl (.inl (R.sub _ _ h)), Nat.zero_lt_succ _, fun m hm hge => ?_⟩
          have hmax : m = maxI i is := by
            obtain ⟨h1, h2⟩ := maxI_ge is i
            have h3 : m ≤ maxI i is := by
              rcases List.mem_cons.mp hm with rfl | hm
              · exact h1
              · exact h2 m hm
            have h4 : maxI i is ≤ m := by
              rcases maxI_mem is i with h5 | h5
              · rw [h5]; exact hge i List.mem_cons_self
              · exact hge _ (List.mem_cons_of_mem _ h5)
            omega
          subst hmax
          exact q _ _ _ R (Same.refl _) (.int _)
    · cases e
  · cases e
end
end Fx

namespace L2
open PySem PySem.Spec PyProof.Rows
/-- the names of a generator expression: its own (with their places in N), or captured -/
structure GenOk (N : List Str) (sc scope : Scope) (own : List (Str × Nat)) : Prop where
  kind : scope.kind = .function
  nocell : ∀ y ∈ scope.names, y.2 ≠ .cell
  ix : ∀ p ∈ own, N[p.2]? = some p.1
  free : ∀ y ∈ scope.names, y.2 = .free → sc.names.lookup y.1 = some .cell ∨ sc.names.lookup y.1 = some .free
  own : ∀ y ∈ scope.names, y.2 = .local → y.1 ∈ own.map (·.1) ∨ y.1 ∉ N
abbrev genE (X : Cx) (scope : Scope) (C : Addr) (code : Value) (bi : Addr) : Env := genEnv scope (cloFrom X.env.cells scope.names []) C code bi X.env
/-- the context of the generator expression's code, woken from the frames of X's def -/
def genCx (X : Cx) (A : Around) (s : Shared) (H : Hp) (scope : Scope) (C : Addr) (code : Value) (bi : Addr) (fp : List Addr) (pn : List (Addr × Obj)) : Cx where
  prog := X.prog
  w := X.w
  K := X.K
  mg := X.mg
  base := X.base
  A := A.deeper (genE X scope C code bi)
  N := X.N
  s_0 := s
  H_0 := H
  env := genE X scope C code bi
  outer := X.stack
  stack := genE X scope C code bi :: X.stack
  ex := fp
  fn := fun _ => false
  calm := true
  pn := pn
  xe := fun _ _ => False
section
variable {X : Cx} {pins : List (Addr × Obj)} {σ : St} {H : Hp} {s s2 : Shared}
theorem gen_start {pn qins : List (Addr × Obj)} {A : Around} {scope : Scope} {C : Addr} {code : Value} {own : List (Str × Nat)} {fp : List Addr} {it : Value} (I : Inv X pins σ H s) (G : GenOk X.N X.env.scope scope own) (hN : X.N.Nodup) (hd : A.handled = none) (hfr : A.frames = some X.stack)
    (hC : s.heap.objs.size ≤ C) (hfp : ∀ b ∈ fp, FpOk X pins H b ∧ b < s.heap.objs.size) (hns : s2.heap.Ns C fun y => if y = ".0" then some it else none) (kp : ∀ b o, s.heap.get? b = some o → s2.heap.get? b = some o) (hos : s2.os = s.os) (hb : AllBare s2.gens) (hpin : ∀ p ∈ pn ++ qins, s2.heap.get? p.1 = some p.2 ∧ H p.1 = none ∧ p.1 ≠ C ∧ p.1 ∉ frs X.stack ∧ ∀ v, p.2.data ≠ .cell v) :
    Inv (genCx X A s H scope C code builtinsNs fp pn) qins (wipe σ (own.map (·.2))) H s2 := by
  have hfree : ∀ y ∈ scope.names, y.2 = .free → ∃ c, X.env.cells.lookup y.1 = some c := fun y hy e => by
    rcases G.free y hy e with k | k
    · exact I.ok.has _ (.inl k)
    · exact I.ok.has _ (.inr k)
  have cm : ∀ {y c}, (cloFrom X.env.cells scope.names []).lookup y = some c → X.env.cells.lookup y = some c := fun {y c} e => by
    rcases cloFrom_mem (PySem.mem_of_lookup e) with hm | ⟨h1, h2⟩
    · cases hm
    · obtain ⟨c1, hc⟩ := hfree _ h1 rfl
      have hc : X.env.cells.lookup y = some c1 := hc
      have e2 : c = c1 := by
        rw [h2, hc] <;> rfl
      rw [e2]
      exact hc
  have look : ∀ {y}, scope.names.lookup y = some .free → ∃ c, (cloFrom X.env.cells scope.names []).lookup y = some c := fun {y} hl => by
    have hy : (y, NameKind.free) ∈ scope.names := PySem.mem_of_lookup hl
    exact mem_lookup (cloFrom_has (cells := X.env.cells) (acc := []) hy)
  have cellK : ∀ {c : Addr} {v : Option Value}, s.heap.IsCell c v → s2.heap.IsCell c v := fun {c v} ⟨o, ho, hd⟩ => ⟨o, kp _ _ ho, hd⟩
  have e0 := I.env0
  have hlt : ∀ {y c}, X.env.cells.lookup y = some c → c < s.heap.objs.size := fun {y c} e => by
    obtain ⟨v, z⟩ := I.cell _ _ e
    exact z.lt
  have xfp : ∀ b ∈ (genCx X A s H scope C code builtinsNs fp pn).ex, b ∈ fp := fun b h => h
  refine ⟨⟨I.ok.mod, G.kind, I.ok.glob, rfl, hC, fun y z c e1 e2 => I.ok.inj y z c (cm e1) (cm e2), fun y hy => ?_, fun y c z _ => ?_, fun _ => hd, Around.frames_deeper hfr, .inr ⟨rfl, rfl⟩, fun b hb => ⟨?_, fun y c e z => ?_⟩, fun b o e => I.bs b o e, e0.bsz, fun b o e => ?_,
      fun b hb => ?_, e0.funs, e0.frf⟩,
    hos, hb, Un.kept kp, ⟨_, hns, fun i y v e1 e2 e3 => ?_⟩, fun y c e => ?_, I.hok.fresh hC, fun y c e => ?_, hpin, I.hok.kept kp, by rw [wipe_length]; exact I.len⟩
  · have hy : scope.names.lookup y = some .cell ∨ scope.names.lookup y = some .free := hy
    rcases hy with hy | hy
    · exact absurd rfl (G.nocell _ (PySem.mem_of_lookup hy))
    · exact look hy
  · have z : false = true := z
    cases z
  · exact Nat.ne_of_lt (Nat.lt_of_lt_of_le (hfp b hb).2 hC)
  · obtain ⟨f0, f1, f2, f3, f4, f5⟩ := (hfp b hb).1
    exact f4 y c (cm e) z
  · intro hx
    obtain ⟨f0, f1, f2, f3, f4, f5⟩ := (hfp b hx).1
    rcases f3 with z | z
    · exact I.ok.noex b o e z
    · exact absurd (Nat.lt_of_lt_of_le (Nat.lt_of_lt_of_le (Heap.lt_size e) I.ok.bsz) z) (Nat.lt_irrefl _)
  · obtain ⟨f0, f1, f2, f3, f4, f5⟩ := (hfp b hb).1
    intro hm
    rcases List.mem_cons.mp (I.stkSub b hm) with z | z
    · exact f1 z
    · exact f2 z
  · have e3 : Vis scope y := e3
    obtain ⟨e2', hown⟩ := wipe_some e2
    rcases e3 with k | k | k
    · rcases G.own _ (PySem.mem_of_lookup k) rfl with z | z
      · obtain ⟨p, hp, ep⟩ := List.mem_map.mp z
        have h1 := G.ix p hp
        rw [ep] at h1
        have e5 : i = p.2 := nodup_ix hN e1 h1
        exact absurd (List.mem_map.mpr ⟨p, hp, e5.symm⟩) hown
      · exact absurd (List.mem_of_getElem? e1) z
    · exact absurd rfl (G.nocell _ (PySem.mem_of_lookup k))
    · obtain ⟨m, hn, hl⟩ := I.loc
      have hvis : Vis X.env.scope y := (G.free _ (PySem.mem_of_lookup k) rfl).elim (fun k => .inr (.inl k)) (fun k => .inr (.inr k))
      obtain ⟨w', r, q⟩ := hl i y v e1 e2' hvis
      obtain ⟨c2, h2⟩ := look k
      refine ⟨w', r, .inr ⟨.inr k, c2, h2, ?_⟩⟩
      have c1 := cm h2
      rcases q with ⟨k', _⟩ | ⟨_, c3, e', z⟩
      · have k' : X.env.scope.names.lookup y = some .local := k'
        rcases G.free _ (PySem.mem_of_lookup k) rfl with k2 | k2 <;> rw [show X.env.scope.names.lookup y = _ from k2] at k' <;> cases k'
      · rw [c1] at e'
        cases e'
        exact cellK z
  · obtain ⟨w', z⟩ := I.cell y c (cm e)
    exact ⟨w', cellK z⟩
  · exact I.freeC y c (cm e)
end
end L2

namespace L2
open PySem PySem.Spec PyProof.Rows GenW
section
variable {Y : Cx} {A : Around} {R : GenEnd} {S : Addr} {elt tg iter : Expr} {ifs : List Expr} {scope : Scope} {pos : Pos} {J : It} {fp : List Addr} {it : Addr} {tn : Nat → Heap → Prop} {g : TG} {tt : TT} {te : TE} {vs : List Nat} {σ0 : St} {Qd : List V → Hp → Prop}
theorem seg_gexp (hcalm : Y.calm = true) (hov : A.over (.compLoop (.GeneratorExp elt [⟨tg, iter, ifs, 0⟩] scope pos) 0 (.ref it) .none Y.env) [] = Y.A) (T : Turn Y.prog Y.w Y.K tg J fp it tn) (hfpS : S ∉ fp) (hap : Apart Y S) (hpn : ∀ p ∈ Y.pn, p.1 ≠ S)
    (hfp : ∀ b ∈ fp, b ≠ Y.env.locals ∧ b ∉ Y.fs ∧ (b ∈ Y.ex ∨ Y.s_0.heap.objs.size ≤ b) ∧ (∀ x c, Y.env.cells.lookup x = some c → c ≠ b) ∧ ∀ p ∈ Y.pn, p.1 ≠ b)
    (pg : PG Y tg g) (pt : PTs Y ifs tt) (pe : PE Y elt te) (hxe : ∀ e s, Y.xe e s → False) (hco : Y.env.scope.isCoroutine = false)
    (W : Nat → Nat → List V → Hp → Prop)
    (turn : ∀ i m ys H, W i m ys H → (J.stop i H ∧ Qd ys H) ∨ (J.go i H ∧ ∃ Nx : List V → Hp → Prop, (∀ ys' H', Nx ys' H' → ∃ m', m' < m ∧ W (i + 1) m' ys' H') ∧ ∀ x H', J.yld i H x H' → g x σ0 H' fun σ2 H2 => wipe σ2 vs = σ0 ∧ tt σ2 H2 fun b H3 =>
      if b = true then te σ2 H3 fun y H4 => ys.length < sizeLine ∧ Nx (ys ++ [y]) H4 else Nx ys H3))
    (hend : ∀ ys H s n s₀, n + ys.length = sizeLine → GI Y S [] ys σ0 H s → Qd ys H → R n s₀ (.ok .next) s) :
    ∀ (m i n : Nat) (ys : List V) (s₀ s : Shared) (H : Hp), n + ys.length = sizeLine → GI Y S [] ys σ0 H s → tn i s.heap → (∀ b ∈ fp, H b = none) → W i m ys H →
      Seg (model Y.prog Y.w) A R (GY Y S) n s₀ (.compLoop (.GeneratorExp elt [⟨tg, iter, ifs, 0⟩] scope pos) 0 (.ref it) .none Y.env)
        ((model Y.prog Y.w).den (.compLoop (.GeneratorExp elt [⟨tg, iter, ifs, 0⟩] scope pos) 0 (.ref it) .none Y.env)) [] s := by
  intro m
  induction m using Nat.strongRecOn with
  | ind m ih =>
    intro i n ys s₀ s H hn hI htn hf w
    obtain ⟨acc, cc, rv, I⟩ := id hI
    have stat : ∀ {H' : Hp} {a : Array Value} {c : Nat}, (∀ b ∈ fp, H' b = none) → ∀ b ∈ fp, FpOk Y [(S, lstObj a c)] H' b := fun {H' a c} h b hb => by
      obtain ⟨h1, h2, h3, h4, h5⟩ := hfp b hb
      refine ⟨h b hb, h1, h2, h3, h4, fun p hp => ?_⟩
      rcases List.mem_append.mp hp with hp | hp
      · exact h5 p hp
      · rw [List.mem_singleton.mp hp]
        exact fun z => hfpS (by
          have z : S = b := z
          rw [z]; exact hb)
    show Seg _ A _ _ _ s₀ _ ((compTurn (.GeneratorExp elt [⟨tg, iter, ifs, 0⟩] scope pos) 0 (.ref it) .none Y.env).onRaise (leaving Y.env)) [] s
    rw [compTurn_gen, Sem.onRaise_eq_wrap]
    refine seg_bind_wrap (wpAny_standAt ?_)
    rcases turn i m ys H w with ⟨stop, qq⟩ | ⟨go, Nx, hNx, step⟩
    · refine seg_bind_wrap ?_
      rw [hov]
      refine wpAny_mono (T.done Y rfl rfl rfl hcalm i _ s σ0 H (fun _ _ => False) I (stat hf) htn stop) (fun r s6 ⟨hr, I6⟩ => ?_) fun _ _ e => e.elim
      subst hr
      exact seg_end (.ok .next) (hend ys H s6 n s₀ hn ⟨acc, cc, rv, I6⟩ qq)
    · refine seg_bind_wrap ?_
      rw [hov]
      refine wpAny_mono (T.item Y rfl rfl rfl hcalm i _ s σ0 H (fun _ _ => False) I (stat hf) htn go) (fun r s6 ⟨u, hr, h6⟩ => ?_) fun _ _ e => e.elim
      subst hr
      refine seg_bind_wrap ?_
      rw [hov]
      refine wpAny_mono h6 (fun _ s7 ⟨x, H7, I7, r7, y7, st7, n7⟩ => ?_) fun _ _ e => e.elim
      have I7' := I7.pinned (stat n7) (T.obj _ _ st7)
      refine seg_bind_wrap ?_
      rw [hov]
      refine wpAny_mono (pg.run _ s7 σ0 H7 x u _ I7' r7 (step x H7 y7)) (fun _ s8 ⟨σ8, H8, I8, hw8, q8⟩ => ?_) fun _ _ e => (hxe _ _ e).elim
      refine seg_bind_wrap ?_
      rw [hov]
      refine wpAny_mono (pt.run _ s8 σ8 H8 _ I8 q8) (fun b s9 ⟨H9, I9, q9⟩ => ?_) fun _ _ e => (hxe _ _ e).elim
      -- back to the turn's start, from any such state
      have back : ∀ {s' : Shared} {H' : Hp}, Inv Y ([(S, lstObj acc cc)] ++ pinsAt fp s7.heap) σ8 H' s' → Inv Y [(S, lstObj acc cc)] σ0 H' s' ∧ tn (i + 1) s'.heap ∧ ∀ b ∈ fp, H' b = none := fun {s' H'} I' => by
        have pin' : ∀ b ∈ fp, ∀ o, s7.heap.get? b = some o → s'.heap.get? b = some o ∧ H' b = none := fun b hb o e =>
          let z := I'.pin (b, o) (List.mem_append_right _ (List.mem_append_right _ (mem_pinsAt hb e)))
          ⟨z.1, z.2.1⟩
        refine ⟨I'.unpinned.weak (by rw [← hw8, wipe_length]) (fun j v e => by rw [← hw8] at e; exact (wipe_some e).1), T.keep _ _ _ st7 fun b hb o e => (pin' b hb o e).1, fun b hb => ?_⟩
        obtain ⟨o, e, _⟩ := T.obj _ _ st7 b hb
        exact (pin' b hb o e).2
      cases b with
      | false =>
        simp only [Bool.false_eq_true, if_false] at q9 ⊢
        obtain ⟨m', hm, w'⟩ := hNx _ _ q9
        obtain ⟨J1, J2, J3⟩ := back I9
        exact seg_again rfl (ih m' hm (i + 1) n ys s₀ s9 H9 hn ⟨acc, cc, rv, J1⟩ J2 J3 w')
      | true =>
        simp only [if_true] at q9 ⊢
        have hy : ∀ v, yieldOut Y.env v = yieldValue v := fun v => by simp only [yieldOut, hco, Bool.false_eq_true, if_false]
        simp only [hy]
        rw [Sem.bind_eq_wrap', Sem.bind_eq_wrap', Sem.wrap_wrap, Sem.wrap_wrap]
        refine seg_wrap ?_
        rw [hov]
        refine wpAny_mono (pe.run _ s9 σ8 H9 _ I9 q9) (fun z s10 ⟨yv, H10, I10, r10, hlen, nx⟩ => ?_) fun _ _ e => (hxe _ _ e).elim
        obtain ⟨m', hm, w'⟩ := hNx _ _ nx
        obtain ⟨J1, J2, J3⟩ := back I10
        obtain ⟨n', rfl⟩ : ∃ n', n = n' + 1 := ⟨n - 1, by omega⟩
        refine seg_at (seg_yield rfl rfl rfl ⟨ys, yv, [], σ0, H10, by omega, r10, ⟨acc, cc, rv, J1⟩, fun s'' sl => ?_⟩)
        have G2 := GI.woken hpn (by intro p hp; cases hp) hap ⟨acc, cc, rv, J1⟩ r10 sl
        refine seg_again rfl (ih m' hm (i + 1) n' (ys ++ [yv]) s'' s'' H10 (by rw [List.length_append]; simp; omega) G2 (T.keep _ _ _ J2 fun b hb o e => sl.keep b o (fun z => hfpS (by rw [← z]; exact hb)) e) J3 w')
end
end L2

namespace L2
open PySem PySem.Spec PyProof.Rows GenW
theorem seg_gbegin {P : Program} {w : World} {A : Around} {R : GenEnd} {Yp : Protocol} {n : Nat} {s₀ s : Shared} {elt tg iter : Expr} {ifs : List Expr} {scope : Scope} {pos : Pos} {it : Addr} {cenv : Env}
    (hself : ∀ (A' : Around) (Q : Value → Shared → Prop) (E : Value → Shared → Prop), Q (.ref it) s → wpAny (model P w) A' (pyIter (.ref it)) Q E s)
    (loop : Seg (model P w) A R Yp n s₀ (.compLoop (.GeneratorExp elt [⟨tg, iter, ifs, 0⟩] scope pos) 0 (.ref it) .none cenv)
      ((model P w).den (.compLoop (.GeneratorExp elt [⟨tg, iter, ifs, 0⟩] scope pos) 0 (.ref it) .none cenv)) [] s) :
    Seg (model P w) A R Yp n s₀ (.compStart (.GeneratorExp elt [⟨tg, iter, ifs, 0⟩] scope pos) 0 (.ref it) .none cenv)
      ((model P w).den (.compStart (.GeneratorExp elt [⟨tg, iter, ifs, 0⟩] scope pos) 0 (.ref it) .none cenv)) [] s := by
  show Seg _ A _ _ _ s₀ _ ((compStart (.GeneratorExp elt [⟨tg, iter, ifs, 0⟩] scope pos) 0 (.ref it) .none cenv).onRaise (leaving cenv)) [] s
  unfold compStart
  rw [Sem.onRaise_eq_wrap]
  show Seg _ A _ _ _ s₀ _ ((ask >>= _).wrap _ _ _ _) [] s
  refine seg_bind_wrap (wpAny_askSetting ?_)
  split
  · exact seg_again rfl loop
  · first
      | exact seg_bind_wrap (wpAny_rule (seg_bind_wrap (wpAny_standAt (seg_bind_wrap (hself _ _ _ (seg_again rfl loop))))))
      | (refine seg_bind_wrap (wpAny_rule ?_); show Seg _ A _ _ _ s₀ _ ((standAt iter.pos >>= _).wrap _ _ _ _) [] s; exact seg_bind_wrap (wpAny_standAt (seg_bind_wrap (hself _ _ _ (seg_again rfl loop)))))
end L2

namespace L2
open PySem PySem.Spec PyProof.Rows GenW
theorem gmade_gexp {X : Cx} {pins : List (Addr × Obj)} {σ : St} {H : Hp} {s : Shared} {k : Nat} {E : XK} {Q : List V → Hp → Prop} {elt tg iter : Expr} {ifs : List Expr} {scope : Scope} {pos : Pos} {J : It} {fp : List Addr} {it : Addr} {tn : Nat → Heap → Prop} {g : TG} {tt : TT} {te : TE} {own : List (Str × Nat)} {code nm qn : Value} {h' : Heap} {tk : Nat} {go : Obj}
    (I : Inv X pins σ H s) (G : GenOk X.N X.env.scope scope own) (hN : X.N.Nodup) (hco : scope.isCoroutine = false) (T : Turn X.prog X.w X.K tg J fp it tn) (htn : tn 0 s.heap) (hfp : ∀ b ∈ fp, FpOk X pins H b ∧ b < s.heap.objs.size) (lim : s.heap.NoLimit)
    (pg : ∀ A fp pn, PG (genCx X A s H scope s.heap.objs.size code builtinsNs fp pn) tg g) (pt : ∀ A fp pn, Room k A → PTs (genCx X A s H scope s.heap.objs.size code builtinsNs fp pn) ifs tt) (pe : ∀ A fp pn, Room k A → PE (genCx X A s H scope s.heap.objs.size code builtinsNs fp pn) elt te)
    (W : Nat → Nat → List V → Hp → Prop) (w0 : ∃ m, W 0 m [] H)
    (turn : ∀ i m ys H, W i m ys H → (J.stop i H ∧ Q ys H) ∨ (J.go i H ∧ ∃ Nx : List V → Hp → Prop, (∀ ys' H', Nx ys' H' → ∃ m', m' < m ∧ W (i + 1) m' ys' H') ∧ ∀ x H', J.yld i H x H' → g x (wipe σ (own.map (·.2))) H' fun σ2 H2 => wipe σ2 (own.map (·.2)) = wipe σ (own.map (·.2)) ∧ tt σ2 H2 fun b H3 =>
      if b = true then te σ2 H3 fun y H4 => ys.length < sizeLine ∧ Nx (ys ++ [y]) H4 else Nx ys H3))
    (hns : h'.Ns s.heap.objs.size fun y => if y = ".0" then some (.ref it) else none) (kp : ∀ b o, s.heap.get? b = some o → h'.get? b = some o) (hsz : h'.objs.size = s.heap.objs.size + 1)
    (hgc : go.cls = .type "generator") (hgd0 : go.data = .fields #[.int s.gens.size 0, nm, qn]) (hgs : go.slots = #[]) (hgp : ∀ h : Heap, (h.push go).get? h.objs.size = some go) :
    GMade X.prog X.w k X.stack H s fp Q E (.ref h'.objs.size)
      { s with gens := s.gens.push (.fresh (.compStart (.GeneratorExp elt [⟨tg, iter, ifs, 0⟩] scope pos) 0 (.ref it) .none (genE X scope s.heap.objs.size code builtinsNs))), toks := tk, heap := h'.push go } := by
  have hgen : ∀ h : Heap, h.get? h'.objs.size = some go → h.IsGen h'.objs.size s.gens.size := fun h e => ⟨go, nm, qn, e, hgc, hgd0, hgs⟩
  have hpushed : (h'.push go).get? h'.objs.size = some go := hgp _
  have kp1 : ∀ b o, s.heap.get? b = some o → (h'.push go).get? b = some o := fun b o e => Heap.get?_push_of_some _ (kp b o e)
  have hle : s.heap.objs.size ≤ h'.objs.size := by rw [hsz]; exact Nat.le_succ _
  refine ⟨h'.objs.size, s.gens.size, _, rfl, hle, ?_, hgen _ hpushed, Array.getElem?_push_size .., rfl, AllBare.push I.bare rfl, lim.keeps kp1, kp1, ?_⟩
  · show _ < (h'.push _).objs.size
    rw [Heap.size_push]; exact Nat.lt_succ_self _
  intro Aw Sx s2 hrw hfr hSx hk2 hSo hos hba
  obtain ⟨cS, heS⟩ := hSo
  have hSz : h'.objs.size < Sx := by
    have hSx' : (h'.push go).objs.size ≤ Sx := hSx
    rw [Heap.size_push] at hSx'
    exact hSx'
  have hSz0 : s.heap.objs.size < Sx := Nat.lt_of_le_of_lt hle hSz
  have kp2 : ∀ b o, s.heap.get? b = some o → s2.heap.get? b = some o := fun b o e => hk2 b o (kp1 b o e)
  have hea : s2.heap.get? h'.objs.size = some go := hk2 _ _ hpushed
  have hns2 : s2.heap.Ns s.heap.objs.size fun y => if y = ".0" then some (.ref it) else none := hns.keeps fun b o e => hk2 b o (Heap.get?_push_of_some _ e)
  have hgd : ∀ v, go.data ≠ .cell v := fun v q => by rw [hgd0] at q; cases q
  have young : ∀ b, s.heap.objs.size ≤ b → H b = none ∧ b ∉ frs X.stack := fun b hb => ⟨I.hok.fresh hb, fun hm => by
    have hf := (I.fpOk (H' := H) hb (I.hok.fresh hb))
    rcases List.mem_cons.mp (I.stkSub b hm) with z | z
    · exact hf.2.1 z
    · exact hf.2.2.1 z⟩
  have hCa : h'.objs.size ≠ s.heap.objs.size := by rw [hsz]; exact Nat.succ_ne_self _
  have start : Inv (genCx X Aw s H scope s.heap.objs.size code builtinsNs fp [(h'.objs.size, go)]) [(Sx, lstObj #[] cS)] (wipe σ (own.map (·.2))) H s2 := by
    refine gen_start I G hN hrw.hd hfr (Nat.le_refl _) hfp hns2 kp2 hos hba fun p hp => ?_
    rcases List.mem_append.mp hp with z | z
    · rw [List.mem_singleton.mp z]
      obtain ⟨y1, y2⟩ := young h'.objs.size hle
      exact ⟨hea, y1, hCa, y2, hgd⟩
    · rw [List.mem_singleton.mp z]
      obtain ⟨y1, y2⟩ := young Sx (Nat.le_of_lt hSz0)
      exact ⟨heS, y1, Nat.ne_of_gt hSz0, y2, fun v q => by cases q⟩
  have hcm : ∀ {y c}, (genE X scope s.heap.objs.size code builtinsNs).cells.lookup y = some c → X.env.cells.lookup y = some c := fun {y c} e => by
    have e2 : (cloFrom X.env.cells scope.names []).lookup y = some c := e
    rcases cloFrom_mem (PySem.mem_of_lookup e2) with hm | ⟨h1, h2⟩
    · cases hm
    · rcases G.free _ h1 rfl with z | z
      · obtain ⟨c1, hc⟩ := I.ok.has y (.inl z)
        have e3 : c = c1 := by rw [h2, hc] <;> rfl
        rw [e3]; exact hc
      · obtain ⟨c1, hc⟩ := I.ok.has y (.inr z)
        have e3 : c = c1 := by rw [h2, hc] <;> rfl
        rw [e3]; exact hc
  have hCl : ∀ {y c}, (genE X scope s.heap.objs.size code builtinsNs).cells.lookup y = some c → c < s.heap.objs.size := fun {y c} e => by
    obtain ⟨v, q⟩ := I.cell y c (hcm e)
    exact q.lt
  have hG : GI (genCx X Aw s H scope s.heap.objs.size code builtinsNs fp [(h'.objs.size, go)]) Sx [] [] (wipe σ (own.map (·.2))) H s2 := ⟨#[], cS, .nil, start⟩
  have hAp : Apart (genCx X Aw s H scope s.heap.objs.size code builtinsNs fp [(h'.objs.size, go)]) Sx :=
    ⟨Nat.le_of_lt hSz0, Nat.ne_of_gt hSz0, fun x c e => Nat.ne_of_lt (Nat.lt_trans (hCl e) hSz0)⟩
  have hpn : ∀ p ∈ [(h'.objs.size, go)], p.1 ≠ Sx := fun p hp => by
    rw [List.mem_singleton.mp hp]
    exact Nat.ne_of_lt hSz
  have pinned : ∀ {ip : List (Addr × Obj)} {ys : List V} {s' : Shared} {σ' : St} {H' : Hp}, GI (genCx X Aw s H scope s.heap.objs.size code builtinsNs fp [(h'.objs.size, go)]) Sx ip ys σ' H' s' → s'.heap.IsGen h'.objs.size s.gens.size := fun {ip ys s' σ' H'} hI => by
    obtain ⟨acc, cc, _, J⟩ := hI
    exact hgen _ (J.pin (h'.objs.size, go) (List.mem_append_left _ (List.mem_singleton.mpr rfl))).1
  have htn2 : tn 0 s2.heap := T.keep _ _ _ htn fun b _ o e => kp2 b o e
  refine seg_imp (R := fun n s₀ r s1 => r = .ok .next ∧ ∃ ys H', n + ys.length = sizeLine ∧ GI (genCx X Aw s H scope s.heap.objs.size code builtinsNs fp [(h'.objs.size, go)]) Sx [] ys (wipe σ (own.map (·.2))) H' s1 ∧ Q ys H')
    (Y := GY (genCx X Aw s H scope s.heap.objs.size code builtinsNs fp [(h'.objs.size, go)]) Sx) (fun n s₀ r s1' hR => ?_) (fun n s₀ v s1' kap kap' hkk hY => ?_) sizeLine ?_
  · obtain ⟨rfl, ys, H', hn, hI, hQ⟩ := hR
    obtain ⟨a1, _, _, acc, cc, ra, ea⟩ := hI.at
    obtain ⟨_, _, _, J⟩ := hI
    exact .inl ⟨.inr rfl, H', ys, acc, cc, J.os, J.bare, J.base, J.hok, a1, ea, ra, by omega, hQ⟩
  · obtain ⟨ys, xx, ip, σ', H', hn, h2, hI, h3⟩ := hY
    obtain ⟨_, _, _, acc, cc, ra, ea⟩ := hI.at
    have hg := pinned hI
    obtain ⟨_, _, _, J⟩ := hI
    have hsz2 : acc.size = ys.length := by
      have e1 := ra.length
      have e2 : acc.toList.length = acc.size := by simp
      omega
    exact ⟨J.os, J.bare, J.nolimit, hg, ⟨acc, cc, ea, by rw [hsz2]; exact hn⟩, fun s' z => hkk _ _ (h3 s' z)⟩
  · obtain ⟨m0, w0⟩ := w0
    refine seg_gbegin (fun A' Q' E' hq => T.self A' 0 s2 Q' E' htn2 hq) ?_
    refine seg_gexp (Y := genCx X Aw s H scope s.heap.objs.size code builtinsNs fp [(h'.objs.size, go)]) (vs := own.map (·.2)) (Qd := Q) rfl rfl T (fun z => Nat.lt_irrefl _ (Nat.lt_trans (Nat.lt_of_lt_of_le (hfp _ z).2 (Nat.le_refl _)) hSz0)) hAp hpn (fun b hb => ?_) (pg _ _ _) (pt _ _ _ hrw) (pe _ _ _ hrw) (fun _ _ z => z) hco W turn
      (fun ys H' s' n s₀ hn hI hQ => ⟨rfl, ys, H', hn, hI, hQ⟩) m0 0 sizeLine [] s2 s2 H (Nat.add_zero _) hG htn2 (fun b hb => (hfp b hb).1.1) w0
    obtain ⟨⟨f0, f1, f2, f3, f4, f5⟩, hlt⟩ := hfp b hb
    refine ⟨Nat.ne_of_lt hlt, fun hm => ?_, .inl hb, fun x c e z => ?_, fun p hp z => ?_⟩
    · rcases List.mem_cons.mp (I.stkSub b hm) with z | z
      · exact f1 z
      · exact f2 z
    · exact f4 x c (hcm e) z
    · rw [List.mem_singleton.mp hp] at z
      have z : h'.objs.size = b := z
      rw [← z] at hlt
      exact absurd (Nat.lt_of_lt_of_le hlt hle) (Nat.lt_irrefl _)
end L2

namespace L2
open PySem PySem.Spec PyProof.Rows GenW
def tGexp (P : Addr) (wi : TI) (g : TG) (tt : TT) (te : TE) (vs : List Nat) : TGen := fun σ H cont => wi σ H fun J H1 => GxR.TabG H1 P ∧ ∀ H2, GxR.Tabbed P H1 H2 → ∃ W : Nat → Nat → List V → Hp → Prop, (∃ m, W 0 m [] H2) ∧ ∀ i m ys H, W i m ys H →
  (J.stop i H ∧ cont ys H) ∨ (J.go i H ∧ ∃ Nx : List V → Hp → Prop, (∀ ys' H', Nx ys' H' → ∃ m', m' < m ∧ W (i + 1) m' ys' H') ∧ ∀ x H', J.yld i H x H' → g x (wipe σ vs) H' fun σ2 H2 => wipe σ2 vs = wipe σ vs ∧ tt σ2 H2 fun b H3 =>
    if b = true then te σ2 H3 fun y H4 => ys.length < sizeLine ∧ Nx (ys ++ [y]) H4 else Nx ys H3)
theorem pgen_gexp {X : Cx} {k : Nat} {E : XK} {c P : Addr} {elt tg iter : Expr} {ifs : List Expr} {scope : Scope} {pos : Pos} {wi : TI} {g : TG} {tt : TT} {te : TE} {own : List (Str × Nat)}
    (hr : Room k X.A) (TB : GxR.TabB X.base X.mg c P) (hcode : X.env.code = .ref c) (G : GenOk X.N X.env.scope scope own) (hN : X.N.Nodup) (hco : scope.isCoroutine = false) (hdot : scope.names.lookup (".0" : Str) = some NameKind.local) (hi : PI X tg iter wi)
    (pg : ∀ s H C code A fp pn, PG (genCx X A s H scope C code builtinsNs fp pn) tg g) (pt : ∀ s H C code A fp pn, Room k A → PTs (genCx X A s H scope C code builtinsNs fp pn) ifs tt) (pe : ∀ s H C code A fp pn, Room k A → PE (genCx X A s H scope C code builtinsNs fp pn) elt te)
    (hs : ∀ v, genFold iter X.env v = pure v) : PGen X k (.GeneratorExp elt [⟨tg, iter, ifs, 0⟩] scope pos) (tGexp P wi g tt te (own.map (·.2))) E := by
  refine ⟨fun pins s σ H cont I h => ?_⟩
  have hfree : ∀ y ∈ scope.names, y.2 = .free → ∃ c, X.env.cells.lookup y.1 = some c := fun y hy e => by
    rcases G.free y hy e with k | k
    · exact I.ok.has _ (.inl k)
    · exact I.ok.has _ (.inr k)
  refine wpAny_GeneratorExp_make hco (closure_ok hfree) G.nocell hdot G.kind (by have := hr.dp; omega) ?_ hs
  refine thn (hi.run pins s σ H _ I h) fun xv s1 hx => thn hx fun itv s2 h2 => ?_
  obtain ⟨it, fp, tn, J, H2, e, I2, T, st2, f2, ⟨ps, hP, ht⟩, q⟩ := h2
  subst e
  refine ⟨I2.nolimit, ?_⟩
  have hPs : s2.heap.get? P = some { cls := .none, data := .fields ps } := I2.hok P _ hP
  have cd : PySem.W.CodeHd s2.heap c P := TB.code.keeps fun b u e => I2.bk b u e
  have cont1 : ∀ (code : Value) (h3 : Heap) (tk : Nat) (ps' : Array Value), Heap.ExtBut P s2.heap h3 → s2.heap.objs.size ≤ h3.objs.size → h3.get? P = some { cls := .none, data := .fields ps' } → (∃ more, ps' = ps ++ more) → TriplesOk ps'.toList →
      wpAny (model X.prog X.w) X.A (builtinsFor X.env.globals X.env.builtins) (fun bi s₄ =>
        ∀ h', h'.Ns s₄.heap.objs.size (fun y => if y = ".0" then some (.ref it) else none) → Heap.SameBut s₄.heap.objs.size (s₄.heap.push { cls := .type "frame", data := .dict #[] }) h' →
          (fun u s' => ∃ H1 sc ex, Inv X pins σ H1 sc ∧ ExOk X pins ex ∧ GMade X.prog X.w k X.stack H1 sc ex cont E u s') (.ref h'.objs.size) { s₄ with
            gens := s₄.gens.push (.fresh (.compStart (.GeneratorExp elt [⟨tg, iter, ifs, 0⟩] scope pos) 0 (.ref it) .none (genEnv scope (cloFrom X.env.cells scope.names []) s₄.heap.objs.size code bi X.env))),
            toks := s₄.toks + 1 + 1 + 1,
            heap := h'.push { cls := .type "generator", data := .fields #[.int s₄.gens.size 0, .str "<genexpr>" (s₄.toks + 1), .str (X.env.qual ++ "<genexpr>") (s₄.toks + 1 + 1)] } }) X.xe { s2 with heap := h3, toks := tk } := by
    intro code h3 tk ps' hx hsz hP3 hmore ht3
    obtain ⟨bm, ob, e1, e2, e3, e4, e5, e6, e7, e8⟩ := TB.bm
    have keep3 : ∀ b u, b ≠ P → s2.heap.get? b = some u → h3.get? b = some u := fun b u hb e => hx b u hb e
    refine wpAny_builtinsFor (m := X.mg) (by rw [I2.ok.glob]; exact (I2.mod.glob.keeps I2.bk).extBut hx TB.gP) e1 e2 (keep3 _ _ e4 (I2.bk _ _ e5)) e6 e7 e8 ?_
    intro h' hns hsb
    obtain ⟨more, em⟩ := hmore
    have J2 := GxR.inv_tab (more := more) (h' := h3) (g' := s2.gens) (d' := s2.drawn) (t' := tk) I2 hP (fun b u hb e => keep3 b u hb e) (by rw [← em]; exact hP3) I2.bare
    have hTd : GxR.Tabbed P H2 (upd H2 P (.tbl (ps ++ more))) := ⟨⟨ps ++ more, upd_same, by rw [← em]; exact ht3⟩, fun b hb => upd_ne hb⟩
    obtain ⟨W, w0, turn⟩ := q _ hTd
    have nP : ∀ b ∈ fp, b ≠ P := fun b hb z => by
      have := (f2 b hb).1
      rw [z, hP] at this; cases this
    have lt2 : ∀ b ∈ fp, b < s2.heap.objs.size := fun b hb => by
      obtain ⟨o, e, _⟩ := T.obj _ _ st2 b hb
      exact Heap.lt_size e
    have f3 : ∀ b ∈ fp, FpOk X pins (upd H2 P (.tbl (ps ++ more))) b ∧ b < h3.objs.size := fun b hb => by
      refine ⟨⟨?_, (f2 b hb).2⟩, Nat.lt_of_lt_of_le (lt2 b hb) hsz⟩
      rw [upd_ne (nP b hb)]
      exact (f2 b hb).1
    have st3 : tn 0 h3 := T.keep _ _ _ st2 fun b hb o e => keep3 b o (nP b hb) e
    refine ⟨_, { s2 with heap := h3, toks := tk }, fp, J2, fun b hb => ?_, ?_⟩
    · obtain ⟨g1, g2, g3, g4, g5, g6⟩ := (f3 b hb).1
      exact ⟨g4, g2, g5, g6⟩
    · refine gmade_gexp (s := { s2 with heap := h3, toks := tk }) J2 G hN hco T st3 f3 J2.nolimit (fun A fp pn => pg _ _ _ _ A fp pn) (fun A fp pn hA => pt _ _ _ _ A fp pn hA) (fun A fp pn hA => pe _ _ _ _ A fp pn hA) W w0 turn hns (fun b o e => ?_) ?_ rfl rfl rfl (fun h => Heap.get?_push_size _ rfl)
      · exact (hsb.2 b (Nat.ne_of_lt (Heap.lt_size e))).trans (Heap.get?_push_of_some _ e)
      · rw [hsb.1, Heap.size_push]
  cases hf : codeAmong pos ps.toList with
  | none =>
    refine wpAny_genexprCodeX hcode (cd.code hPs ht) (cd.tab hPs) hf fun c' h' tk hx hge hlt hco' _ htab' _ => ?_
    obtain ⟨o1, vs, f1, tf, fl, tg', inF, tx, tt', op, _, _, _, _, _, _, _, _, _, htr, _⟩ := hco'
    exact cont1 _ h' tk _ hx (Nat.le_trans hge (Nat.le_of_lt hlt)) htab'.2 ⟨_, rfl⟩ htr
  | some cv =>
    refine wpAny_genexprCode_hit hcode (cd.code hPs ht) hf ?_
    exact cont1 cv s2.heap s2.toks ps (Heap.ExtBut.refl _ _) (Nat.le_refl _) hPs ⟨#[], by simp⟩ ht
end L2

namespace L2
open PySem PySem.Spec PyProof.Rows GenW
theorem collect_gmade {P : Program} {w : World} {outer : List Env} {H : Hp} {sc z : Shared} {ex : List Addr} {Q : List V → Hp → Prop} {EX : XK} {A : Around} {k : Nat} {u : Value} {Q' : List Value → Shared → Prop} {E : Value → Shared → Prop}
    (hr : Room (k + 3) A) (hfr : A.frames = some outer) (h : GMade P w k outer H sc ex Q EX u z)
    (hQ : ∀ S s' acc c H' ys, z.heap.objs.size ≤ S → s'.heap.get? S = some (lstObj acc c) → Vals ys acc.toList → ys.length ≤ sizeLine → s'.os = sc.os → AllBare s'.gens → Un (frs outer) ex H H' sc.heap s'.heap → HOk P w H' s'.heap → H' S = none → Q ys H' → Q' acc.toList s')
    (hexc : ∀ e s' g, CX P w outer H sc EX e s' → NotStop (model P w) e s'.heap ∧ E e (s'.setGen g .finished)) :
    wpAny (model P w) A (collect u) Q' E z := by
  obtain ⟨a, g, c, rfl, ha1, ha2, hg, hgs, hos, hb, hl, hkp, wake⟩ := h
  have kSa : z.heap.objs.size ≠ a := Nat.ne_of_gt ha2
  have kcl : cStatics < z.heap.objs.size := let ⟨_, hn, _⟩ := hl; hn.lt
  have kSc : z.heap.objs.size ≠ cStatics := Nat.ne_of_gt kcl
  unfold collect
  refine wpAny_bind (wpAny_runValue (codeAny_builtin F.entry_proto_collect ?_))
  rw [Around.under_plainId F.plain_proto_collect _]
  show wpAny _ A.in1 (newList [] >>= fun l => again (.builtin "list.__iadd__" ⟨[l, .ref a], []⟩)) _ _ z
  refine wpAny_bind (wpAny_newObj_type ?_)
  refine wpAny_pure ⟨plainId_quiet F.plain_list_iadd _, codeAny_builtin F.entry_list_iadd ?_⟩
  rw [Around.under_plainId F.plain_list_iadd _]
  have hS : (z.heap.push { cls := .type "list", data := .seq ([] : List Value).toArray }).get? z.heap.objs.size = some { cls := .type "list", data := .seq ([] : List Value).toArray } := Heap.get?_push_size _ rfl
  have up : ∀ (h : Heap) (f : Obj → Obj), (∀ b o, z.heap.get? b = some o → h.get? b = some o) → ∀ b o, z.heap.get? b = some o → (h.update z.heap.objs.size f).get? b = some o := fun h f q b o e =>
    (Heap.get?_update_other _ _ (Ne.symm (Nat.ne_of_lt (Heap.lt_size e)))).trans (q b o e)
  have k1 : ∀ b o, z.heap.get? b = some o → (z.heap.push { cls := .type "list", data := .seq ([] : List Value).toArray }).get? b = some o := fun b o e => Heap.get?_push_of_some _ e
  have gty : ∀ {h : Heap}, (∀ b o, z.heap.get? b = some o → h.get? b = some o) → h.IsGen a g := fun {h} q => hg.keeps q
  show wpAny _ A.in1 (Builtin.List.listExtendWith (.ref z.heap.objs.size) (.ref a) (.ref z.heap.objs.size)) _ _ _
  unfold Builtin.List.listExtendWith
  refine wpAny_bind (wpAny_typeOf (Heap.IsGen.typeIs (s := { z with heap := _ }) (gty k1)) ?_)
  have b1 : Builtin.List.listSameRef (.ref z.heap.objs.size) (.ref a) = false := by simp [Builtin.List.listSameRef, kSa]
  have b2 : (Value.type "generator" == Value.type "list") = false := by decide
  have b3 : (Value.type "generator" == Value.type "tuple") = false := by decide
  simp only [b1, b2, b3, Bool.or_false, Bool.false_eq_true, if_false]
  refine wpAny_bind (wpAny_pyIter_gen (s := { z with heap := _ }) (gty k1) ?_)
  refine wpAny_bind (wpAny_holding ?_)
  unfold Builtin.List.listLengthHint
  refine wpAny_bind (wpAny_specialOf (Heap.IsGen.typeIs (s := { z with heap := _ }) (gty k1)) F.gen_no_len ?_)
  show wpAny _ A.in1 (specialOf (Value.ref a) (Str.ofString "__length_hint__") >>= _) _ _ _
  refine wpAny_bind (wpAny_specialOf (Heap.IsGen.typeIs (s := { z with heap := _ }) (gty k1)) F.gen_no_hint ?_)
  refine wpAny_pure ?_
  show wpAny _ A.in1 (rule "list.extend.makes-room" >>= fun _ => Builtin.List.listTouch (.ref z.heap.objs.size) >>= fun _ =>
    again (.builtin "list.extend.loop" ⟨[.ref z.heap.objs.size, .ref a, .ref z.heap.objs.size], []⟩)) _ _ _
  refine wpAny_bind (wpAny_rule ?_)
  refine wpAny_bind ?_
  show wpAny _ A.in1 (updateSeq z.heap.objs.size (·.push .none) >>= fun _ => updateSeq z.heap.objs.size (·.pop)) _ _ _
  refine wpAny_bind (wpAny_updateSeq hS rfl ?_)
  have hS3 := Heap.get?_update_self (Obj.mapSeq (·.push Value.none)) hS rfl
  refine wpAny_updateSeq (hz := by seq_fits) hS3 rfl ?_
  have hS4 := Heap.get?_update_self (Obj.mapSeq (·.pop)) hS3 rfl
  have k4 := up _ (Obj.mapSeq (·.pop)) (up _ (Obj.mapSeq (·.push Value.none)) k1)
  refine wpAny_pure ⟨plainId_quiet F.plain_extend_loop _, ?_⟩
  refine drain (P := P) (w := w) (outer := outer) (H := H) (sc := sc) (ex := ex) (Q := Q) (EX := EX) (A := A) (g := g) hr.hd (by have := hr.dp; omega) kSa kSc
    (fun s' acc c H' ys q1 q2 q3 q4 q5 q6 q7 q8 q9 => ?_) (fun e s' hc => hexc e s' g hc)
    sizeLine _ (gty k4) (hl.keeps k4) ⟨_, hgs, rfl, ?_⟩
  · show wpAny _ A (load z.heap.objs.size >>= _) _ _ s'
    refine wpAny_bind (wpAny_load q1 ?_)
    exact wpAny_pure (hQ _ s' acc c H' ys (Nat.le_refl _) q1 q2 q3 q4 q5 q6 q7 q8 q9)
  · refine wake _ _ _ ⟨hr.hd, ?_, ?_⟩ hfr (Nat.le_refl _) k4 ⟨_, hS4⟩ hos (allBare_setGen (s := { z with heap := _ }) hb rfl)
    · have := hr.dp
      show A.depth + 3 * k + 5 < _
      omega
    · have := hr.un
      show A.units + 1 + 1 + 16 * k + 200 < _
      omega
end L2

namespace L2
open PySem PySem.Spec PyProof.Rows GenW
theorem call_tuple_gmade {P : Program} {w : World} {outer : List Env} {H : Hp} {sc z : Shared} {ex : List Addr} {Q : List V → Hp → Prop} {EX : XK} {A : Around} {k : Nat} {u : Value} {Q' : Value → Shared → Prop} {E : Value → Shared → Prop}
    (hr : Room (k + 6) A) (hfr : A.frames = some outer) (h : GMade P w k outer H sc ex Q EX u z)
    (hQ : ∀ (S : Addr) (s' : Shared) (acc : Array Value) (c : Nat) (H' : Hp) (ys : List V), z.heap.objs.size ≤ S → s'.heap.get? S = some (lstObj acc c) → Vals ys acc.toList → ys.length ≤ sizeLine → s'.os = sc.os → AllBare s'.gens → Un (frs outer) ex H H' sc.heap s'.heap → HOk P w H' s'.heap → H' S = none → Q ys H' → Q' (.ref s'.heap.objs.size) { s' with heap := s'.heap.push { cls := .type "tuple", data := .seq acc } })
    (hexc : ∀ e s' g, CX P w outer H sc EX e s' → NotStop (model P w) e s'.heap ∧ E e (s'.setGen g .finished)) :
    wpAny (model P w) A (call (.type "tuple") [u]) Q' E z := by
  have hG := h
  obtain ⟨a, g, c, rfl, ha1, ha2, hg, hgs, hos, hb, hl, hkp, wake⟩ := h
  have hT : z.TypeIs (.ref a) "generator" := hg.typeIs
  refine callType_codes (Q₁ := fun obj s₁ => s₁.TypeIs obj "tuple" ∧ Q' obj s₁) F.called_tuple (F.typeCall_tuple_1 _) F.entry_object_init ?_ fun obj s₁ h₁ => ⟨h₁.1, F.args_object_init_2 obj _, object_init_meets F.called_tuple.init.lookup F.called_tuple.made (by decide) P w A.in1 _ s₁ ⟨h₁.1, rfl, h₁.2⟩⟩
  refine codeAny_of_tree ?_
  show wpAny _ A.in1.in1 (do checkBuiltinCall "tuple.__new__" ⟨[.type "tuple", .ref a], []⟩; again (.builtin "tuple.__new__" ⟨[.type "tuple", .ref a], []⟩)) _ _ z
  refine wpAny_bind (wpAny_of_eq (F.newCall_tuple_1 _) (wpAny_pure ⟨plainId_quiet F.plain_tuple_new _, codeAny_builtin F.entry_tuple_new ?_⟩))
  rw [Around.under_plainId F.plain_tuple_new _]
  have hsub := sub_tuple_self
  have hinit := init_tuple_lookup
  have hmh := madeHere_tuple
  have hcol : ∀ {Q'' : List Value → Shared → Prop}, (∀ (S : Addr) (s' : Shared) (acc : Array Value) (c : Nat) (H' : Hp) (ys : List V), z.heap.objs.size ≤ S → s'.heap.get? S = some (lstObj acc c) → Vals ys acc.toList → ys.length ≤ sizeLine → s'.os = sc.os → AllBare s'.gens → Un (frs outer) ex H H' sc.heap s'.heap → HOk P w H' s'.heap → H' S = none → Q ys H' → Q'' acc.toList s') → wpAny (model P w) A.in1.in1 (collect (.ref a)) Q'' E z := fun hQ2 =>
    collect_gmade (A := A.in1.in1) ⟨hr.hd, by have := hr.dp; show A.depth + 3 * (k + 3) + 5 < _; omega, by have := hr.un; show A.units + 1 + 1 + 16 * (k + 3) + 200 < _; omega⟩ hfr hG hQ2 hexc
  wp_walk using wpAny_typeOf hT, hcol
  intro S s' acc c H' ys q1 q2 q3 q4 q5 q6 q7 q8 q9 q10
  show wpAny _ _ (Builtin.Tuple.tupleExact acc.toList.toArray >>= fun v => ret v) _ _ _
  unfold Builtin.Tuple.tupleExact
  refine wpAny_bind (wpAny_newObj_type ?_ (by show acc.toList.toArray.size ≤ sizeLine; rw [List.size_toArray, ← q3.length]; exact q4))
  refine wpAny_pure ?_
  have e : acc.toList.toArray = acc := by simp
  rw [e]
  exact ⟨⟨_, Heap.get?_push_size _ rfl, rfl⟩, hQ S s' acc c H' ys q1 q2 q3 q4 q5 q6 q7 q8 q9 q10⟩
end L2

namespace L2
open PySem PySem.Spec PyProof.Rows GenW
def tTupG (tg : TGen) : TE := fun σ H Q => tg σ H fun out H2 => ∀ p, H2 p = none → Q (.ref p) (upd H2 p (.tup out))
theorem pe_tupG {X : Cx} {k : Nat} {e : Expr} {tg : TGen} {p pos : Pos} (h : PGen X k e tg fun _ _ _ => False) (hr : Room (k + 6) X.A) (hg : Gl X "tuple") (hmg : X.mg "tuple" = none) (hv : bootBuiltins "tuple" = some (.type "tuple"))
    (he : starEach [e] X.env = (false, eval e X.env) :: starEach [] X.env := by rfl) : PE X (.Call (.Name "tuple" p) [e] [] pos) (tTupG tg) := by
  refine ⟨fun pins s σ H Q I hq => ?_⟩
  refine wpAny_Call_Name_kw (ld_blt I hg hmg hv ?_)
  refine PyProof.Rows.callWith_type1 ?_ he rfl
  rw [he]
  show wpAny _ _ (spliced ((false, eval e X.env) :: backTo pos (starEach [] X.env))) _ _ s
  refine Calls.spliced_cons (thn (h.run pins s σ H _ I hq) fun u s1 ⟨H1, sc, ex, I1, hex, hG⟩ => ?_)
  refine Calls.spliced_nil ?_
  refine call_tuple_gmade hr I1.ok.frames hG (fun S s' acc c H' ys q0 q1 q2 hl q3 q4 q5 q6 q7 q8 => ?_) fun e s' g hc => ?_
  · have J : Inv X pins σ H' s' := I1.call' (ch := ex) q3 q5 q6 q4 hex
    refine ⟨.ref _, _, J.laid (t' := s'.toks) (o := .tup ys) (fun b ob q => Heap.get?_push_of_some _ q) (Nat.le_refl _) ?_, rfl, q8 _ (J.hok.fresh (Nat.le_refl _))⟩
    refine ⟨hl, acc.toList, q2, ?_⟩
    have e : acc.toList.toArray = acc := by simp
    rw [e]
    exact IsTup.new _ _
  · obtain ⟨a, B, H', cls, d, _, fl, _, ub, _, _, _, hW⟩ := hc
    exact hW.elim
end L2

namespace L2
open PySem PySem.Spec PyProof.Rows GenW
/-- while the generator sleeps all is kept -/
structure SleptB (s s' : Shared) : Prop where
  os : s'.os = s.os
  bare : AllBare s'.gens
  keep : ∀ b o, s.heap.get? b = some o → s'.heap.get? b = some o
theorem Inv.wokenB {X : Cx} {ip : List (Addr × Obj)} {σ : St} {H : Hp} {s s' : Shared} (I : Inv X ip σ H s) (z : SleptB s s') : Inv X ip σ H s' := by
  obtain ⟨z1, z2, z3⟩ := z
  obtain ⟨hh, g, d, t, o⟩ := s'
  have ho : o = s.os := z1
  subst ho
  refine I.step (g' := g) (t' := t) (d' := d) (ch := []) (fun b hb => nomatch hb)
    (fun b ob _ _ _ q _ => z3 b ob q) (fun b ob _ _ _ q _ => ⟨ob.slots, z3 b ob q⟩) (fun _ _ _ _ n => n) (fun b ob _ q => ⟨ob, z3 b ob q⟩)
    (fun _ _ q => q) (fun _ _ _ q => q) (fun b ps q => ⟨#[], by rw [q]; simp⟩) (fun m hm => ?_) (fun b u q => ?_) z2
  · obtain ⟨ob, es, ep, ho, r⟩ := hm
    exact ⟨ob, es, ep, z3 _ ob ho, r⟩
  · exact (I.hok b u q).stay (fun c v _ y => z3 c v y) (fun _ y => y) fun _ _ y => y
def BY (X : Cx) (go : Bool) (Qs : Hp → Prop) : Protocol := fun n s₀ v s kap =>
  ∃ c σ H, v = .bool c ∧ Inv X [] σ H s ∧ (c = go → ∀ s', SleptB s s' → kap (.send .none) s') ∧ (c ≠ go → Qs H)
section
variable {Y : Cx} {A : Around} {R : GenEnd} {elt tg iter : Expr} {ifs : List Expr} {scope : Scope} {pos : Pos} {J : It} {fp : List Addr} {it : Addr} {tn : Nat → Heap → Prop} {g : TG} {tt : TT} {te : TE} {vs : List Nat} {σ0 : St} {Qd Qs : Hp → Prop} {go : Bool}
theorem seg_gexpB (hcalm : Y.calm = true) (hov : A.over (.compLoop (.GeneratorExp elt [⟨tg, iter, ifs, 0⟩] scope pos) 0 (.ref it) .none Y.env) [] = Y.A) (T : Turn Y.prog Y.w Y.K tg J fp it tn)
    (hfp : ∀ b ∈ fp, b ≠ Y.env.locals ∧ b ∉ Y.fs ∧ (b ∈ Y.ex ∨ Y.s_0.heap.objs.size ≤ b) ∧ (∀ x c, Y.env.cells.lookup x = some c → c ≠ b) ∧ ∀ p ∈ Y.pn, p.1 ≠ b)
    (pg : PG Y tg g) (pt : PTs Y ifs tt) (pe : PE Y elt te) (hxe : ∀ e s, Y.xe e s → False) (hco : Y.env.scope.isCoroutine = false)
    (W : Nat → Nat → Hp → Prop)
    (turn : ∀ i m H, W i m H → (J.stop i H ∧ Qd H) ∨ (J.go i H ∧ ∃ Nx : Hp → Prop, (∀ H', Nx H' → ∃ m', m' < m ∧ W (i + 1) m' H') ∧ ∀ x H', J.yld i H x H' → g x σ0 H' fun σ2 H2 => wipe σ2 vs = σ0 ∧ tt σ2 H2 fun b H3 =>
      if b = true then te σ2 H3 fun y H4 => ∃ c, y = .bl c ∧ (c = go → Nx H4) ∧ (c ≠ go → Qs H4) else Nx H3))
    (hend : ∀ H s n s₀, Inv Y [] σ0 H s → Qd H → R n s₀ (.ok .next) s) :
    ∀ (m i n : Nat) (s₀ s : Shared) (H : Hp), m < n → Inv Y [] σ0 H s → tn i s.heap → (∀ b ∈ fp, H b = none) → W i m H →
      Seg (model Y.prog Y.w) A R (BY Y go Qs) n s₀ (.compLoop (.GeneratorExp elt [⟨tg, iter, ifs, 0⟩] scope pos) 0 (.ref it) .none Y.env)
        ((model Y.prog Y.w).den (.compLoop (.GeneratorExp elt [⟨tg, iter, ifs, 0⟩] scope pos) 0 (.ref it) .none Y.env)) [] s := by
  intro m
  induction m using Nat.strongRecOn with
  | ind m ih =>
    intro i n s₀ s H hn I htn hf w
    have stat : ∀ {H' : Hp}, (∀ b ∈ fp, H' b = none) → ∀ b ∈ fp, FpOk Y [] H' b := fun {H'} h b hb => by
      obtain ⟨h1, h2, h3, h4, h5⟩ := hfp b hb
      refine ⟨h b hb, h1, h2, h3, h4, fun p hp => ?_⟩
      rcases List.mem_append.mp hp with hp | hp
      · exact h5 p hp
      · cases hp
    show Seg _ A _ _ _ s₀ _ ((compTurn (.GeneratorExp elt [⟨tg, iter, ifs, 0⟩] scope pos) 0 (.ref it) .none Y.env).onRaise (leaving Y.env)) [] s
    rw [compTurn_gen, Sem.onRaise_eq_wrap]
    refine seg_bind_wrap (wpAny_standAt ?_)
    rcases turn i m H w with ⟨stop, qq⟩ | ⟨gg, Nx, hNx, step⟩
    · refine seg_bind_wrap ?_
      rw [hov]
      refine wpAny_mono (T.done Y rfl rfl rfl hcalm i _ s σ0 H (fun _ _ => False) I (stat hf) htn stop) (fun r s6 ⟨hr, I6⟩ => ?_) fun _ _ e => e.elim
      subst hr
      exact seg_end (.ok .next) (hend H s6 n s₀ I6 qq)
    · refine seg_bind_wrap ?_
      rw [hov]
      refine wpAny_mono (T.item Y rfl rfl rfl hcalm i _ s σ0 H (fun _ _ => False) I (stat hf) htn gg) (fun r s6 ⟨u, hr, h6⟩ => ?_) fun _ _ e => e.elim
      subst hr
      refine seg_bind_wrap ?_
      rw [hov]
      refine wpAny_mono h6 (fun _ s7 ⟨x, H7, I7, r7, y7, st7, n7⟩ => ?_) fun _ _ e => e.elim
      have I7' := I7.pinned (stat n7) (T.obj _ _ st7)
      refine seg_bind_wrap ?_
      rw [hov]
      refine wpAny_mono (pg.run _ s7 σ0 H7 x u _ I7' r7 (step x H7 y7)) (fun _ s8 ⟨σ8, H8, I8, hw8, q8⟩ => ?_) fun _ _ e => (hxe _ _ e).elim
      refine seg_bind_wrap ?_
      rw [hov]
      refine wpAny_mono (pt.run _ s8 σ8 H8 _ I8 q8) (fun b s9 ⟨H9, I9, q9⟩ => ?_) fun _ _ e => (hxe _ _ e).elim
      -- back to the turn's start, from any such state
      have back : ∀ {s' : Shared} {H' : Hp}, Inv Y ([] ++ pinsAt fp s7.heap) σ8 H' s' → Inv Y [] σ0 H' s' ∧ tn (i + 1) s'.heap ∧ ∀ b ∈ fp, H' b = none := fun {s' H'} I' => by
        have pin' : ∀ b ∈ fp, ∀ o, s7.heap.get? b = some o → s'.heap.get? b = some o ∧ H' b = none := fun b hb o e =>
          let z := I'.pin (b, o) (List.mem_append_right _ (List.mem_append_right _ (mem_pinsAt hb e)))
          ⟨z.1, z.2.1⟩
        refine ⟨I'.unpinned.weak (by rw [← hw8, wipe_length]) (fun j v e => by rw [← hw8] at e; exact (wipe_some e).1), T.keep _ _ _ st7 fun b hb o e => (pin' b hb o e).1, fun b hb => ?_⟩
        obtain ⟨o, e, _⟩ := T.obj _ _ st7 b hb
        exact (pin' b hb o e).2
      cases b with
      | false =>
        simp only [Bool.false_eq_true, if_false] at q9 ⊢
        obtain ⟨m', hm, w'⟩ := hNx _ q9
        obtain ⟨J1, J2, J3⟩ := back I9
        exact seg_again rfl (ih m' hm (i + 1) n s₀ s9 H9 (by omega) J1 J2 J3 w')
      | true =>
        simp only [if_true] at q9 ⊢
        have hy : ∀ v, yieldOut Y.env v = yieldValue v := fun v => by simp only [yieldOut, hco, Bool.false_eq_true, if_false]
        simp only [hy]
        rw [Sem.bind_eq_wrap', Sem.bind_eq_wrap', Sem.wrap_wrap, Sem.wrap_wrap]
        refine seg_wrap ?_
        rw [hov]
        refine wpAny_mono (pe.run _ s9 σ8 H9 _ I9 q9) (fun z s10 ⟨yv, H10, I10, r10, c, ec, nx, qs⟩ => ?_) fun _ _ e => (hxe _ _ e).elim
        subst ec
        obtain ⟨J1, J2, J3⟩ := back I10
        obtain ⟨n', rfl⟩ : ∃ n', n = n' + 1 := ⟨n - 1, by omega⟩
        refine seg_at (seg_yield rfl rfl rfl ⟨c, σ0, H10, by cases r10; rfl, J1, fun hc s'' sl => ?_, qs⟩)
        obtain ⟨m', hm, w'⟩ := hNx _ (nx hc)
        exact seg_again rfl (ih m' hm (i + 1) n' s'' s'' H10 (by omega) (J1.wokenB sl) (T.keep _ _ _ J2 fun b hb o e => sl.keep b o e) J3 w')
end
end L2

namespace L2
open PySem PySem.Spec PyProof.Rows GenW
def REndB (P : Program) (w : World) (outer : List Env) (H : Hp) (s : Shared) (ex : List Addr) (Qd : Hp → Prop) : GenEnd := fun n s₀ r s1 =>
  ((r = .ok (.ret .none) ∨ r = .ok .next) ∧ ∃ H', s1.os = s.os ∧ AllBare s1.gens ∧ Un (frs outer) ex H H' s.heap s1.heap ∧ HOk P w H' s1.heap ∧ Qd H') ∨ ∃ e, r = .error e ∧ False
def YItemB (P : Program) (w : World) (outer : List Env) (H : Hp) (s : Shared) (ex : List Addr) (a : Addr) (g : Nat) (go : Bool) (Qs : Hp → Prop) : Protocol := fun n s₀ v s1 kap =>
  ∃ c, v = .bool c ∧ s1.os = s.os ∧ AllBare s1.gens ∧ s1.heap.NoLimit ∧ s1.heap.IsGen a g ∧ (c = go → ∀ s', SleptB s1 s' → kap (.send .none) s') ∧ (c ≠ go → ∃ H', Un (frs outer) ex H H' s.heap s1.heap ∧ HOk P w H' s1.heap ∧ Qs H')
/-- a generator that has not begun, for all, any -/
def BMade (P : Program) (w : World) (k : Nat) (outer : List Env) (H : Hp) (s : Shared) (ex : List Addr) (go : Bool) (Qd Qs : Hp → Prop) (u : Value) (s' : Shared) : Prop :=
  ∃ (a : Addr) (g : Nat) (c : Code), u = .ref a ∧ s.heap.objs.size ≤ a ∧ a < s'.heap.objs.size ∧ s'.heap.IsGen a g ∧ s'.gens[g]? = some (.fresh c) ∧ s'.os = s.os ∧ AllBare s'.gens ∧ s'.heap.NoLimit ∧ (∀ b o, s.heap.get? b = some o → s'.heap.get? b = some o) ∧
    ∃ n, ∀ (A : Around) (s2 : Shared), Room k A → A.frames = some outer → (∀ b o, s'.heap.get? b = some o → s2.heap.get? b = some o) → s2.os = s.os → AllBare s2.gens →
      Seg (model P w) A (REndB P w outer H s ex Qd) (YItemB P w outer H s ex a g go Qs) n s2 c ((model P w).den c) [] s2
theorem gmade_gexpB {X : Cx} {pins : List (Addr × Obj)} {σ : St} {H : Hp} {s : Shared} {k : Nat} {go : Bool} {Qd Qs : Hp → Prop} {elt tg iter : Expr} {ifs : List Expr} {scope : Scope} {pos : Pos} {J : It} {fp : List Addr} {it : Addr} {tn : Nat → Heap → Prop} {g : TG} {tt : TT} {te : TE} {own : List (Str × Nat)} {code nm qn : Value} {h' : Heap} {tk : Nat} {gob : Obj}
    (I : Inv X pins σ H s) (G : GenOk X.N X.env.scope scope own) (hN : X.N.Nodup) (hco : scope.isCoroutine = false) (T : Turn X.prog X.w X.K tg J fp it tn) (htn : tn 0 s.heap) (hfp : ∀ b ∈ fp, FpOk X pins H b ∧ b < s.heap.objs.size) (lim : s.heap.NoLimit)
    (pg : ∀ A fp pn, PG (genCx X A s H scope s.heap.objs.size code builtinsNs fp pn) tg g) (pt : ∀ A fp pn, Room k A → PTs (genCx X A s H scope s.heap.objs.size code builtinsNs fp pn) ifs tt) (pe : ∀ A fp pn, Room k A → PE (genCx X A s H scope s.heap.objs.size code builtinsNs fp pn) elt te)
    (W : Nat → Nat → Hp → Prop) (w0 : ∃ m, W 0 m H)
    (turn : ∀ i m H, W i m H → (J.stop i H ∧ Qd H) ∨ (J.go i H ∧ ∃ Nx : Hp → Prop, (∀ H', Nx H' → ∃ m', m' < m ∧ W (i + 1) m' H') ∧ ∀ x H', J.yld i H x H' → g x (wipe σ (own.map (·.2))) H' fun σ2 H2 => wipe σ2 (own.map (·.2)) = wipe σ (own.map (·.2)) ∧ tt σ2 H2 fun b H3 =>
      if b = true then te σ2 H3 fun y H4 => ∃ c, y = .bl c ∧ (c = go → Nx H4) ∧ (c ≠ go → Qs H4) else Nx H3))
    (hns : h'.Ns s.heap.objs.size fun y => if y = ".0" then some (.ref it) else none) (kp : ∀ b o, s.heap.get? b = some o → h'.get? b = some o) (hsz : h'.objs.size = s.heap.objs.size + 1)
    (hgc : gob.cls = .type "generator") (hgd0 : gob.data = .fields #[.int s.gens.size 0, nm, qn]) (hgs : gob.slots = #[]) (hgp : ∀ h : Heap, (h.push gob).get? h.objs.size = some gob) :
    BMade X.prog X.w k X.stack H s fp go Qd Qs (.ref h'.objs.size)
      { s with gens := s.gens.push (.fresh (.compStart (.GeneratorExp elt [⟨tg, iter, ifs, 0⟩] scope pos) 0 (.ref it) .none (genE X scope s.heap.objs.size code builtinsNs))), toks := tk, heap := h'.push gob } := by
  have hgen : ∀ h : Heap, h.get? h'.objs.size = some gob → h.IsGen h'.objs.size s.gens.size := fun h e => ⟨gob, nm, qn, e, hgc, hgd0, hgs⟩
  have hpushed : (h'.push gob).get? h'.objs.size = some gob := hgp _
  have kp1 : ∀ b o, s.heap.get? b = some o → (h'.push gob).get? b = some o := fun b o e => Heap.get?_push_of_some _ (kp b o e)
  have hle : s.heap.objs.size ≤ h'.objs.size := by rw [hsz]; exact Nat.le_succ _
  obtain ⟨m0, w0⟩ := w0
  refine ⟨h'.objs.size, s.gens.size, _, rfl, hle, ?_, hgen _ hpushed, Array.getElem?_push_size .., rfl, AllBare.push I.bare rfl, lim.keeps kp1, kp1, m0 + 1, ?_⟩
  · show _ < (h'.push _).objs.size
    rw [Heap.size_push]; exact Nat.lt_succ_self _
  intro Aw s2 hrw hfr hk2 hos hba
  have kp2 : ∀ b o, s.heap.get? b = some o → s2.heap.get? b = some o := fun b o e => hk2 b o (kp1 b o e)
  have hea : s2.heap.get? h'.objs.size = some gob := hk2 _ _ hpushed
  have hns2 : s2.heap.Ns s.heap.objs.size fun y => if y = ".0" then some (.ref it) else none := hns.keeps fun b o e => hk2 b o (Heap.get?_push_of_some _ e)
  have hgd : ∀ v, gob.data ≠ .cell v := fun v q => by rw [hgd0] at q; cases q
  have young : ∀ b, s.heap.objs.size ≤ b → H b = none ∧ b ∉ frs X.stack := fun b hb => ⟨I.hok.fresh hb, fun hm => by
    have hf := (I.fpOk (H' := H) hb (I.hok.fresh hb))
    rcases List.mem_cons.mp (I.stkSub b hm) with z | z
    · exact hf.2.1 z
    · exact hf.2.2.1 z⟩
  have hCa : h'.objs.size ≠ s.heap.objs.size := by rw [hsz]; exact Nat.succ_ne_self _
  have start : Inv (genCx X Aw s H scope s.heap.objs.size code builtinsNs fp [(h'.objs.size, gob)]) [] (wipe σ (own.map (·.2))) H s2 := by
    refine gen_start I G hN hrw.hd hfr (Nat.le_refl _) hfp hns2 kp2 hos hba fun p hp => ?_
    rcases List.mem_append.mp hp with z | z
    · rw [List.mem_singleton.mp z]
      obtain ⟨y1, y2⟩ := young h'.objs.size hle
      exact ⟨hea, y1, hCa, y2, hgd⟩
    · cases z
  have hcm : ∀ {y c}, (genE X scope s.heap.objs.size code builtinsNs).cells.lookup y = some c → X.env.cells.lookup y = some c := fun {y c} e => by
    have e2 : (cloFrom X.env.cells scope.names []).lookup y = some c := e
    rcases cloFrom_mem (PySem.mem_of_lookup e2) with hm | ⟨h1, h2⟩
    · cases hm
    · rcases G.free _ h1 rfl with z | z
      · obtain ⟨c1, hc⟩ := I.ok.has y (.inl z)
        have e3 : c = c1 := by rw [h2, hc] <;> rfl
        rw [e3]; exact hc
      · obtain ⟨c1, hc⟩ := I.ok.has y (.inr z)
        have e3 : c = c1 := by rw [h2, hc] <;> rfl
        rw [e3]; exact hc
  have pinned : ∀ {s' : Shared} {σ' : St} {H' : Hp}, Inv (genCx X Aw s H scope s.heap.objs.size code builtinsNs fp [(h'.objs.size, gob)]) [] σ' H' s' → s'.heap.IsGen h'.objs.size s.gens.size := fun {s' σ' H'} J =>
    hgen _ (J.pin (h'.objs.size, gob) (List.mem_append_left _ (List.mem_singleton.mpr rfl))).1
  have htn2 : tn 0 s2.heap := T.keep _ _ _ htn fun b _ o e => kp2 b o e
  refine seg_imp (R := fun n s₀ r s1 => r = .ok .next ∧ ∃ H', Inv (genCx X Aw s H scope s.heap.objs.size code builtinsNs fp [(h'.objs.size, gob)]) [] (wipe σ (own.map (·.2))) H' s1 ∧ Qd H')
    (Y := BY (genCx X Aw s H scope s.heap.objs.size code builtinsNs fp [(h'.objs.size, gob)]) go Qs) (fun n s₀ r s1' hR => ?_) (fun n s₀ v s1' kap kap' hkk hY => ?_) (m0 + 1) ?_
  · obtain ⟨rfl, H', J, hQ⟩ := hR
    exact .inl ⟨.inr rfl, H', J.os, J.bare, J.base, J.hok, hQ⟩
  · obtain ⟨c, σ', H', ec, J, h3, h4⟩ := hY
    exact ⟨c, ec, J.os, J.bare, J.nolimit, pinned J, fun hc s' z => hkk _ _ (h3 hc s' z), fun hc => ⟨H', J.base, J.hok, h4 hc⟩⟩
  · refine seg_gbegin (fun A' Q' E' hq => T.self A' 0 s2 Q' E' htn2 hq) ?_
    refine seg_gexpB (Y := genCx X Aw s H scope s.heap.objs.size code builtinsNs fp [(h'.objs.size, gob)]) (vs := own.map (·.2)) (Qd := Qd) rfl rfl T (fun b hb => ?_) (pg _ _ _) (pt _ _ _ hrw) (pe _ _ _ hrw) (fun _ _ z => z) hco W turn
      (fun H' s' n s₀ hI hQ => ⟨rfl, H', hI, hQ⟩) m0 0 (m0 + 1) s2 s2 H (Nat.lt_succ_self _) start htn2 (fun b hb => (hfp b hb).1.1) w0
    obtain ⟨⟨f0, f1, f2, f3, f4, f5⟩, hlt⟩ := hfp b hb
    refine ⟨Nat.ne_of_lt hlt, fun hm => ?_, .inl hb, fun x c e z => ?_, fun p hp z => ?_⟩
    · rcases List.mem_cons.mp (I.stkSub b hm) with z | z
      · exact f1 z
      · exact f2 z
    · exact f4 x c (hcm e) z
    · rw [List.mem_singleton.mp hp] at z
      have z : h'.objs.size = b := z
      rw [← z] at hlt
      exact absurd (Nat.lt_of_lt_of_le hlt hle) (Nat.lt_irrefl _)
end L2

namespace L2
open PySem PySem.Spec PyProof.Rows GenW
/-- a generator expression that all, any look at: go on while its values are go; Qd: behind the last one, Qs: at the first other one -/
abbrev TGenB := L2.St → Hp → (Hp → Prop) → (Hp → Prop) → Prop
structure PGenB (X : Cx) (k : Nat) (go : Bool) (e : Expr) (tg : TGenB) : Prop where
  run : ∀ (pins : List (Addr × Obj)) (s : Shared) (σ : L2.St) (H : Hp) (Qd Qs : Hp → Prop), Inv X pins σ H s → tg σ H Qd Qs → wpAny (model X.prog X.w) X.A (eval e X.env)
    (fun u s' => ∃ H1 sc ex, Inv X pins σ H1 sc ∧ ExOk X pins ex ∧ BMade X.prog X.w k X.stack H1 sc ex go Qd Qs u s') X.xe s
def tGexpB (P : Addr) (go : Bool) (wi : TI) (g : TG) (tt : TT) (te : TE) (vs : List Nat) : TGenB := fun σ H Qd Qs => wi σ H fun J H1 => GxR.TabG H1 P ∧ ∀ H2, GxR.Tabbed P H1 H2 → ∃ W : Nat → Nat → Hp → Prop, (∃ m, W 0 m H2) ∧ ∀ i m H, W i m H →
  (J.stop i H ∧ Qd H) ∨ (J.go i H ∧ ∃ Nx : Hp → Prop, (∀ H', Nx H' → ∃ m', m' < m ∧ W (i + 1) m' H') ∧ ∀ x H', J.yld i H x H' → g x (wipe σ vs) H' fun σ2 H2 => wipe σ2 vs = wipe σ vs ∧ tt σ2 H2 fun b H3 =>
    if b = true then te σ2 H3 fun y H4 => ∃ c, y = .bl c ∧ (c = go → Nx H4) ∧ (c ≠ go → Qs H4) else Nx H3)
theorem pgenB_gexp {X : Cx} {k : Nat} {go : Bool} {c P : Addr} {elt tg iter : Expr} {ifs : List Expr} {scope : Scope} {pos : Pos} {wi : TI} {g : TG} {tt : TT} {te : TE} {own : List (Str × Nat)}
    (hr : Room k X.A) (TB : GxR.TabB X.base X.mg c P) (hcode : X.env.code = .ref c) (G : GenOk X.N X.env.scope scope own) (hN : X.N.Nodup) (hco : scope.isCoroutine = false) (hdot : scope.names.lookup (".0" : Str) = some NameKind.local) (hi : PI X tg iter wi)
    (pg : ∀ s H C code A fp pn, PG (genCx X A s H scope C code builtinsNs fp pn) tg g) (pt : ∀ s H C code A fp pn, Room k A → PTs (genCx X A s H scope C code builtinsNs fp pn) ifs tt) (pe : ∀ s H C code A fp pn, Room k A → PE (genCx X A s H scope C code builtinsNs fp pn) elt te)
    (hs : ∀ v, genFold iter X.env v = pure v) : PGenB X k go (.GeneratorExp elt [⟨tg, iter, ifs, 0⟩] scope pos) (tGexpB P go wi g tt te (own.map (·.2))) := by
  refine ⟨fun pins s σ H Qd Qs I h => ?_⟩
  have hfree : ∀ y ∈ scope.names, y.2 = .free → ∃ c, X.env.cells.lookup y.1 = some c := fun y hy e => by
    rcases G.free y hy e with k | k
    · exact I.ok.has _ (.inl k)
    · exact I.ok.has _ (.inr k)
  refine wpAny_GeneratorExp_make hco (closure_ok hfree) G.nocell hdot G.kind (by have := hr.dp; omega) ?_ hs
  refine thn (hi.run pins s σ H _ I h) fun xv s1 hx => thn hx fun itv s2 h2 => ?_
  obtain ⟨it, fp, tn, J, H2, e, I2, T, st2, f2, ⟨ps, hP, ht⟩, q⟩ := h2
  subst e
  refine ⟨I2.nolimit, ?_⟩
  have hPs : s2.heap.get? P = some { cls := .none, data := .fields ps } := I2.hok P _ hP
  have cd : PySem.W.CodeHd s2.heap c P := TB.code.keeps fun b u e => I2.bk b u e
  have cont1 : ∀ (code : Value) (h3 : Heap) (tk : Nat) (ps' : Array Value), Heap.ExtBut P s2.heap h3 → s2.heap.objs.size ≤ h3.objs.size → h3.get? P = some { cls := .none, data := .fields ps' } → (∃ more, ps' = ps ++ more) → TriplesOk ps'.toList →
      wpAny (model X.prog X.w) X.A (builtinsFor X.env.globals X.env.builtins) (fun bi s₄ =>
        ∀ h', h'.Ns s₄.heap.objs.size (fun y => if y = ".0" then some (.ref it) else none) → Heap.SameBut s₄.heap.objs.size (s₄.heap.push { cls := .type "frame", data := .dict #[] }) h' →
          (fun u s' => ∃ H1 sc ex, Inv X pins σ H1 sc ∧ ExOk X pins ex ∧ BMade X.prog X.w k X.stack H1 sc ex go Qd Qs u s') (.ref h'.objs.size) { s₄ with
            gens := s₄.gens.push (.fresh (.compStart (.GeneratorExp elt [⟨tg, iter, ifs, 0⟩] scope pos) 0 (.ref it) .none (genEnv scope (cloFrom X.env.cells scope.names []) s₄.heap.objs.size code bi X.env))),
            toks := s₄.toks + 1 + 1 + 1,
            heap := h'.push { cls := .type "generator", data := .fields #[.int s₄.gens.size 0, .str "<genexpr>" (s₄.toks + 1), .str (X.env.qual ++ "<genexpr>") (s₄.toks + 1 + 1)] } }) X.xe { s2 with heap := h3, toks := tk } := by
    intro code h3 tk ps' hx hsz hP3 hmore ht3
    obtain ⟨bm, ob, e1, e2, e3, e4, e5, e6, e7, e8⟩ := TB.bm
    have keep3 : ∀ b u, b ≠ P → s2.heap.get? b = some u → h3.get? b = some u := fun b u hb e => hx b u hb e
    refine wpAny_builtinsFor (m := X.mg) (by rw [I2.ok.glob]; exact (I2.mod.glob.keeps I2.bk).extBut hx TB.gP) e1 e2 (keep3 _ _ e4 (I2.bk _ _ e5)) e6 e7 e8 ?_
    intro h' hns hsb
    obtain ⟨more, em⟩ := hmore
    have J2 := GxR.inv_tab (more := more) (h' := h3) (g' := s2.gens) (d' := s2.drawn) (t' := tk) I2 hP (fun b u hb e => keep3 b u hb e) (by rw [← em]; exact hP3) I2.bare
    have hTd : GxR.Tabbed P H2 (upd H2 P (.tbl (ps ++ more))) := ⟨⟨ps ++ more, upd_same, by rw [← em]; exact ht3⟩, fun b hb => upd_ne hb⟩
    obtain ⟨W, w0, turn⟩ := q _ hTd
    have nP : ∀ b ∈ fp, b ≠ P := fun b hb z => by
      have := (f2 b hb).1
      rw [z, hP] at this; cases this
    have lt2 : ∀ b ∈ fp, b < s2.heap.objs.size := fun b hb => by
      obtain ⟨o, e, _⟩ := T.obj _ _ st2 b hb
      exact Heap.lt_size e
    have f3 : ∀ b ∈ fp, FpOk X pins (upd H2 P (.tbl (ps ++ more))) b ∧ b < h3.objs.size := fun b hb => by
      refine ⟨⟨?_, (f2 b hb).2⟩, Nat.lt_of_lt_of_le (lt2 b hb) hsz⟩
      rw [upd_ne (nP b hb)]
      exact (f2 b hb).1
    have st3 : tn 0 h3 := T.keep _ _ _ st2 fun b hb o e => keep3 b o (nP b hb) e
    refine ⟨_, { s2 with heap := h3, toks := tk }, fp, J2, fun b hb => ?_, ?_⟩
    · obtain ⟨g1, g2, g3, g4, g5, g6⟩ := (f3 b hb).1
      exact ⟨g4, g2, g5, g6⟩
    · refine gmade_gexpB (s := { s2 with heap := h3, toks := tk }) J2 G hN hco T st3 f3 J2.nolimit (fun A fp pn => pg _ _ _ _ A fp pn) (fun A fp pn hA => pt _ _ _ _ A fp pn hA) (fun A fp pn hA => pe _ _ _ _ A fp pn hA) W w0 turn hns (fun b o e => ?_) ?_ rfl rfl rfl (fun h => Heap.get?_push_size _ rfl)
      · exact (hsb.2 b (Nat.ne_of_lt (Heap.lt_size e))).trans (Heap.get?_push_of_some _ e)
      · rw [hsb.1, Heap.size_push]
  cases hf : codeAmong pos ps.toList with
  | none =>
    refine wpAny_genexprCodeX hcode (cd.code hPs ht) (cd.tab hPs) hf fun c' h' tk hx hge hlt hco' _ htab' _ => ?_
    obtain ⟨o1, vs, f1, tf, fl, tg', inF, tx, tt', op, _, _, _, _, _, _, _, _, _, htr, _⟩ := hco'
    exact cont1 _ h' tk _ hx (Nat.le_trans hge (Nat.le_of_lt hlt)) htab'.2 ⟨_, rfl⟩ htr
  | some cv =>
    refine wpAny_genexprCode_hit hcode (cd.code hPs ht) hf ?_
    exact cont1 cv s2.heap s2.toks ps (Heap.ExtBut.refl _ _) (Nat.le_refl _) hPs ⟨#[], by simp⟩ ht
end L2

namespace L2
open PySem PySem.Spec PyProof.Rows GenW
theorem loop_all {P : Program} {w : World} {outer : List Env} {H : Hp} {sc : Shared} {ex : List Addr} {Qd Qs : Hp → Prop} {A : Around} {R : Result → Shared → Prop} {a : Addr} {g : Nat}
    (hh : A.handled = none) (hd : A.depth < recursionLimit)
    (hend : ∀ s' H', s'.os = sc.os → AllBare s'.gens → Un (frs outer) ex H H' sc.heap s'.heap → HOk P w H' s'.heap → Qd H' → R (.ok (.ret (.bool true))) s')
    (hstop : ∀ s' H', s'.os = sc.os → AllBare s'.gens → Un (frs outer) ex H H' sc.heap s'.heap → HOk P w H' s'.heap → Qs H' → R (.ok (.ret (.bool false))) s') :
    ∀ (m : Nat) (s : Shared), s.heap.IsGen a g → s.heap.NoLimit →
      (∃ gs, s.gens[g]? = some gs ∧ gs.Goes (model P w) A.in1.in1 (REndB P w outer H sc ex Qd) (YItemB P w outer H sc ex a g true Qs) m (.send .none) (s.setGen g .running)) →
      codeAny (model P w) A (.builtin "all.loop" ⟨[.ref a], []⟩) R s := by
  have goes : ∀ {gs : GenState} {B : Around} {n : Nat} {r : Resume} {s : Shared}, gs.Goes (model P w) B (REndB P w outer H sc ex Qd) (YItemB P w outer H sc ex a g true Qs) n r s →
      gs.Goes (model P w) B (fun n s₀ r s1 => ((r = .ok (.ret .none) ∨ r = .ok .next) ∧ (∃ H', s1.os = sc.os ∧ AllBare s1.gens ∧ Un (frs outer) ex H H' sc.heap s1.heap ∧ HOk P w H' s1.heap ∧ Qd H')) ∨
        ∃ e, r = .error e ∧ False) (YItemB P w outer H sc ex a g true Qs) n r s := fun h => h
  have other : ∀ {c : Bool}, c ≠ true → c = false := fun {c} h => by cases c <;> simp at h ⊢
  intro m
  induction m with
  | zero =>
    intro s hg hl ⟨gs, hgs, hgo⟩
    refine codeAny_builtin F.entry_all_loop ?_
    rw [Around.under_plainId F.plain_all_loop _]
    show wpAny _ A.in1 (pyNext (.ref a) >>= _) _ _ s
    refine wpAny_bind (next_genG (A := A.in1) hh hl hd hg hgs (goes hgo) (fun v s₁ gs' hbare hv => ?_) (fun s₁ hp h' hk => ?_) fun e s₁ he => ?_)
    · obtain ⟨c, rfl, os1, hb1, hl1, hg1, hgo1, hst⟩ := hv
      by_cases hc : c = true
      · exact (hgo1 hc _ ⟨rfl, hb1, fun _ _ e => e⟩).elim
      · obtain ⟨H', un, hok, qs⟩ := hst hc
        have hc := other hc
        subst hc
        refine wpAny_bind (wpAny_holding (wpAny_truthy_bool ?_))
        refine wpAny_bind (wpAny_letGo ?_)
        simp only [Bool.false_eq_true, if_false]
        refine wpAny_bind (wpAny_rule (wpAny_pure ?_))
        exact hstop _ H' os1 (allBare_setGen hb1 hbare) un hok qs
    · obtain ⟨H', os1, hb1, un, hok, qd⟩ := hp
      refine wpAny_bind (wpAny_rule (wpAny_pure ?_))
      exact hend _ H' os1 (allBare_setGen hb1 rfl) (un.trans (Un.kept hk)) (hok.kept hk) qd
    · exact he.elim
  | succ m ih =>
    intro s hg hl ⟨gs, hgs, hgo⟩
    have hgl : g < s.gens.size := (Array.getElem?_eq_some_iff.mp hgs).1
    refine codeAny_builtin F.entry_all_loop ?_
    rw [Around.under_plainId F.plain_all_loop _]
    show wpAny _ A.in1 (pyNext (.ref a) >>= _) _ _ s
    refine wpAny_bind (wpAny_gsz (n := g + 1) hgl (next_genG (A := A.in1) hh hl hd hg hgs (goes hgo) (fun v s₁ gs' hbare hv => ?_) (fun s₁ hp h' hk => ?_) fun e s₁ he => ?_))
    · intro hsz
      obtain ⟨c, rfl, os1, hb1, hl1, hg1, hgo1, hst⟩ := hv
      by_cases hc : c = true
      · subst hc
        refine wpAny_bind (wpAny_holding (wpAny_truthy_bool ?_))
        refine wpAny_bind (wpAny_letGo ?_)
        simp only [if_true]
        refine wpAny_pure ⟨plainId_quiet F.plain_all_loop _, ?_⟩
        have hsz1 : g < s₁.gens.size := by
          have q : (s₁.setGen g gs').gens.size = s₁.gens.size := setGen_size _ _ _
          have hsz' : g + 1 ≤ (s₁.setGen g gs').gens.size := hsz
          omega
        refine ih (s₁.setGen g gs') hg1 hl1 ⟨gs', setGen_at hsz1, hgo1 rfl _ ⟨rfl, allBare_setGen (s := s₁.setGen g gs') (allBare_setGen hb1 hbare) rfl, fun _ _ e => e⟩⟩
      · obtain ⟨H', un, hok, qs⟩ := hst hc
        have hc := other hc
        subst hc
        refine wpAny_bind (wpAny_holding (wpAny_truthy_bool ?_))
        refine wpAny_bind (wpAny_letGo ?_)
        simp only [Bool.false_eq_true, if_false]
        refine wpAny_bind (wpAny_rule (wpAny_pure ?_))
        exact hstop _ H' os1 (allBare_setGen hb1 hbare) un hok qs
    · intro hsz
      obtain ⟨H', os1, hb1, un, hok, qd⟩ := hp
      refine wpAny_bind (wpAny_rule (wpAny_pure ?_))
      exact hend _ H' os1 (allBare_setGen hb1 rfl) (un.trans (Un.kept hk)) (hok.kept hk) qd
    · exact he.elim
theorem call_all_bmade {P : Program} {w : World} {outer : List Env} {H : Hp} {sc z : Shared} {ex : List Addr} {Qd Qs : Hp → Prop} {A : Around} {k : Nat} {u : Value} {Q' : Value → Shared → Prop} {E : Value → Shared → Prop}
    (hr : Room (k + 6) A) (hfr : A.frames = some outer) (h : BMade P w k outer H sc ex true Qd Qs u z)
    (hend : ∀ s' H', s'.os = sc.os → AllBare s'.gens → Un (frs outer) ex H H' sc.heap s'.heap → HOk P w H' s'.heap → Qd H' → Q' (.bool true) s')
    (hstop : ∀ s' H', s'.os = sc.os → AllBare s'.gens → Un (frs outer) ex H H' sc.heap s'.heap → HOk P w H' s'.heap → Qs H' → Q' (.bool false) s') :
    wpAny (model P w) A (call (.builtin "all") [u]) Q' E z := by
  obtain ⟨a, g, c, rfl, ha1, ha2, hg, hgs, hos, hb, hl, hkp, n, wake⟩ := h
  refine call_function_tree F.kind_all F.plain_all F.entry_all (F.args_all1 _) ?_
  unfold Builtin.«all»
  refine wpAny_bind (m := oneArg "all" _) (wpAny_pure ?_)
  refine wpAny_bind (wpAny_pyIter_gen hg ?_)
  refine wpAny_pure ⟨plainId_quiet F.plain_all_loop _, ?_⟩
  refine loop_all (P := P) (w := w) (outer := outer) (H := H) (sc := sc) (ex := ex) (Qd := Qd) (Qs := Qs) (A := A) (g := g) hr.hd (by have := hr.dp; omega) hend hstop n z hg hl ⟨_, hgs, rfl, ?_⟩
  refine wake _ _ ⟨hr.hd, ?_, ?_⟩ hfr (fun _ _ e => e) hos (allBare_setGen hb rfl)
  · have := hr.dp
    show A.depth + 3 * k + 5 < _
    omega
  · have := hr.un
    show A.units + 1 + 1 + 16 * k + 200 < _
    omega
def tallG (tg : TGenB) : TE := fun σ H Q => tg σ H (fun H2 => Q (.bl true) H2) (fun H2 => Q (.bl false) H2)
theorem pe_allG {X : Cx} {k : Nat} {e : Expr} {tg : TGenB} {p pos : Pos} (h : PGenB X k true e tg) (hr : Room (k + 6) X.A) (hg : Gl X "all") (hmg : X.mg "all" = none) (hv : bootBuiltins "all" = some (.builtin "all"))
    (he : starEach [e] X.env = (false, eval e X.env) :: starEach [] X.env := by rfl) : PE X (.Call (.Name "all" p) [e] [] pos) (tallG tg) := by
  refine ⟨fun pins s σ H Q I hq => ?_⟩
  refine wpAny_Call_Name_kw (ld_blt I hg hmg hv ?_)
  refine PyProof.Rows.callWith_builtin1 ?_ he (by rfl)
  rw [he]
  show wpAny _ _ (spliced ((false, eval e X.env) :: backTo pos (starEach [] X.env))) _ _ s
  refine Calls.spliced_cons (thn (h.run pins s σ H _ _ I hq) fun u s1 ⟨H1, sc, ex, I1, hex, hG⟩ => ?_)
  refine Calls.spliced_nil ?_
  refine call_all_bmade hr I1.ok.frames hG (fun s' H' q3 q4 q5 q6 q8 => ?_) (fun s' H' q3 q4 q5 q6 q8 => ?_)
  · exact ⟨.bl true, H', I1.call' (ch := ex) q3 q5 q6 q4 hex, rfl, q8⟩
  · exact ⟨.bl false, H', I1.call' (ch := ex) q3 q5 q6 q4 hex, rfl, q8⟩
theorem loop_any {P : Program} {w : World} {outer : List Env} {H : Hp} {sc : Shared} {ex : List Addr} {Qd Qs : Hp → Prop} {A : Around} {R : Result → Shared → Prop} {a : Addr} {g : Nat}
    (hh : A.handled = none) (hd : A.depth < recursionLimit)
    (hend : ∀ s' H', s'.os = sc.os → AllBare s'.gens → Un (frs outer) ex H H' sc.heap s'.heap → HOk P w H' s'.heap → Qd H' → R (.ok (.ret (.bool false))) s')
    (hstop : ∀ s' H', s'.os = sc.os → AllBare s'.gens → Un (frs outer) ex H H' sc.heap s'.heap → HOk P w H' s'.heap → Qs H' → R (.ok (.ret (.bool true))) s') :
    ∀ (m : Nat) (s : Shared), s.heap.IsGen a g → s.heap.NoLimit →
      (∃ gs, s.gens[g]? = some gs ∧ gs.Goes (model P w) A.in1.in1 (REndB P w outer H sc ex Qd) (YItemB P w outer H sc ex a g false Qs) m (.send .none) (s.setGen g .running)) →
      codeAny (model P w) A (.builtin "any.loop" ⟨[.ref a], []⟩) R s := by
  have goes : ∀ {gs : GenState} {B : Around} {n : Nat} {r : Resume} {s : Shared}, gs.Goes (model P w) B (REndB P w outer H sc ex Qd) (YItemB P w outer H sc ex a g false Qs) n r s →
      gs.Goes (model P w) B (fun n s₀ r s1 => ((r = .ok (.ret .none) ∨ r = .ok .next) ∧ (∃ H', s1.os = sc.os ∧ AllBare s1.gens ∧ Un (frs outer) ex H H' sc.heap s1.heap ∧ HOk P w H' s1.heap ∧ Qd H')) ∨
        ∃ e, r = .error e ∧ False) (YItemB P w outer H sc ex a g false Qs) n r s := fun h => h
  have other : ∀ {c : Bool}, c ≠ false → c = true := fun {c} h => by cases c <;> simp at h ⊢
  intro m
  induction m with
  | zero =>
    intro s hg hl ⟨gs, hgs, hgo⟩
    refine codeAny_builtin F.entry_any_loop ?_
    rw [Around.under_plainId F.plain_any_loop _]
    show wpAny _ A.in1 (pyNext (.ref a) >>= _) _ _ s
    refine wpAny_bind (next_genG (A := A.in1) hh hl hd hg hgs (goes hgo) (fun v s₁ gs' hbare hv => ?_) (fun s₁ hp h' hk => ?_) fun e s₁ he => ?_)
    · obtain ⟨c, rfl, os1, hb1, hl1, hg1, hgo1, hst⟩ := hv
      by_cases hc : c = false
      · exact (hgo1 hc _ ⟨rfl, hb1, fun _ _ e => e⟩).elim
      · obtain ⟨H', un, hok, qs⟩ := hst hc
        have hc := other hc
        subst hc
        refine wpAny_bind (wpAny_holding (wpAny_truthy_bool ?_))
        refine wpAny_bind (wpAny_letGo ?_)
        simp only [if_true]
        refine wpAny_bind (wpAny_rule (wpAny_pure ?_))
        exact hstop _ H' os1 (allBare_setGen hb1 hbare) un hok qs
    · obtain ⟨H', os1, hb1, un, hok, qd⟩ := hp
      refine wpAny_bind (wpAny_rule (wpAny_pure ?_))
      exact hend _ H' os1 (allBare_setGen hb1 rfl) (un.trans (Un.kept hk)) (hok.kept hk) qd
    · exact he.elim
  | succ m ih =>
    intro s hg hl ⟨gs, hgs, hgo⟩
    have hgl : g < s.gens.size := (Array.getElem?_eq_some_iff.mp hgs).1
    refine codeAny_builtin F.entry_any_loop ?_
    rw [Around.under_plainId F.plain_any_loop _]
    show wpAny _ A.in1 (pyNext (.ref a) >>= _) _ _ s
    refine wpAny_bind (wpAny_gsz (n := g + 1) hgl (next_genG (A := A.in1) hh hl hd hg hgs (goes hgo) (fun v s₁ gs' hbare hv => ?_) (fun s₁ hp h' hk => ?_) fun e s₁ he => ?_))
    · intro hsz
      obtain ⟨c, rfl, os1, hb1, hl1, hg1, hgo1, hst⟩ := hv
      by_cases hc : c = false
      · subst hc
        refine wpAny_bind (wpAny_holding (wpAny_truthy_bool ?_))
        refine wpAny_bind (wpAny_letGo ?_)
        simp only [Bool.false_eq_true, if_false]
        refine wpAny_pure ⟨plainId_quiet F.plain_any_loop _, ?_⟩
        have hsz1 : g < s₁.gens.size := by
          have q : (s₁.setGen g gs').gens.size = s₁.gens.size := setGen_size _ _ _
          have hsz' : g + 1 ≤ (s₁.setGen g gs').gens.size := hsz
          omega
        refine ih (s₁.setGen g gs') hg1 hl1 ⟨gs', setGen_at hsz1, hgo1 rfl _ ⟨rfl, allBare_setGen (s := s₁.setGen g gs') (allBare_setGen hb1 hbare) rfl, fun _ _ e => e⟩⟩
      · obtain ⟨H', un, hok, qs⟩ := hst hc
        have hc := other hc
        subst hc
        refine wpAny_bind (wpAny_holding (wpAny_truthy_bool ?_))
        refine wpAny_bind (wpAny_letGo ?_)
        simp only [if_true]
        refine wpAny_bind (wpAny_rule (wpAny_pure ?_))
        exact hstop _ H' os1 (allBare_setGen hb1 hbare) un hok qs
    · intro hsz
      obtain ⟨H', os1, hb1, un, hok, qd⟩ := hp
      refine wpAny_bind (wpAny_rule (wpAny_pure ?_))
      exact hend _ H' os1 (allBare_setGen hb1 rfl) (un.trans (Un.kept hk)) (hok.kept hk) qd
    · exact he.elim
theorem call_any_bmade {P : Program} {w : World} {outer : List Env} {H : Hp} {sc z : Shared} {ex : List Addr} {Qd Qs : Hp → Prop} {A : Around} {k : Nat} {u : Value} {Q' : Value → Shared → Prop} {E : Value → Shared → Prop}
    (hr : Room (k + 6) A) (hfr : A.frames = some outer) (h : BMade P w k outer H sc ex false Qd Qs u z)
    (hend : ∀ s' H', s'.os = sc.os → AllBare s'.gens → Un (frs outer) ex H H' sc.heap s'.heap → HOk P w H' s'.heap → Qd H' → Q' (.bool false) s')
    (hstop : ∀ s' H', s'.os = sc.os → AllBare s'.gens → Un (frs outer) ex H H' sc.heap s'.heap → HOk P w H' s'.heap → Qs H' → Q' (.bool true) s') :
    wpAny (model P w) A (call (.builtin "any") [u]) Q' E z := by
  obtain ⟨a, g, c, rfl, ha1, ha2, hg, hgs, hos, hb, hl, hkp, n, wake⟩ := h
  refine call_function_tree F.kind_any F.plain_any F.entry_any (F.args_any1 _) ?_
  unfold Builtin.«any»
  refine wpAny_bind (m := oneArg "any" _) (wpAny_pure ?_)
  refine wpAny_bind (wpAny_pyIter_gen hg ?_)
  refine wpAny_pure ⟨plainId_quiet F.plain_any_loop _, ?_⟩
  refine loop_any (P := P) (w := w) (outer := outer) (H := H) (sc := sc) (ex := ex) (Qd := Qd) (Qs := Qs) (A := A) (g := g) hr.hd (by have := hr.dp; omega) hend hstop n z hg hl ⟨_, hgs, rfl, ?_⟩
  refine wake _ _ ⟨hr.hd, ?_, ?_⟩ hfr (fun _ _ e => e) hos (allBare_setGen hb rfl)
  · have := hr.dp
    show A.depth + 3 * k + 5 < _
    omega
  · have := hr.un
    show A.units + 1 + 1 + 16 * k + 200 < _
    omega
def tanyG (tg : TGenB) : TE := fun σ H Q => tg σ H (fun H2 => Q (.bl false) H2) (fun H2 => Q (.bl true) H2)
theorem pe_anyG {X : Cx} {k : Nat} {e : Expr} {tg : TGenB} {p pos : Pos} (h : PGenB X k false e tg) (hr : Room (k + 6) X.A) (hg : Gl X "any") (hmg : X.mg "any" = none) (hv : bootBuiltins "any" = some (.builtin "any"))
    (he : starEach [e] X.env = (false, eval e X.env) :: starEach [] X.env := by rfl) : PE X (.Call (.Name "any" p) [e] [] pos) (tanyG tg) := by
  refine ⟨fun pins s σ H Q I hq => ?_⟩
  refine wpAny_Call_Name_kw (ld_blt I hg hmg hv ?_)
  refine PyProof.Rows.callWith_builtin1 ?_ he (by rfl)
  rw [he]
  show wpAny _ _ (spliced ((false, eval e X.env) :: backTo pos (starEach [] X.env))) _ _ s
  refine Calls.spliced_cons (thn (h.run pins s σ H _ _ I hq) fun u s1 ⟨H1, sc, ex, I1, hex, hG⟩ => ?_)
  refine Calls.spliced_nil ?_
  refine call_any_bmade hr I1.ok.frames hG (fun s' H' q3 q4 q5 q6 q8 => ?_) (fun s' H' q3 q4 q5 q6 q8 => ?_)
  · exact ⟨.bl false, H', I1.call' (ch := ex) q3 q5 q6 q4 hex, rfl, q8⟩
  · exact ⟨.bl true, H', I1.call' (ch := ex) q3 q5 q6 q4 hex, rfl, q8⟩
end L2

namespace Fx
open PySem PySem.Spec L2
open PyProof.Rows hiding St
section
variable {T : List Addr} {K : PySem.W.Frag} {g : Gh} {F H H2 : Hp} {σ : St} {env : Ev}
/-- a table of code objects grows -/
theorem Rel.tabbed (R : Rel T K g F H σ env) {P : Addr} (hP : P ∈ T) (t : GxR.Tabbed P H H2) : Rel T K g F H2 σ env := by
  obtain ⟨ps, eP, _⟩ := R.tab P hP
  obtain ⟨t1, t2⟩ := t
  have ne : ∀ {a : Addr} {o : HO}, H a = some o → (∀ qs, o ≠ .tbl qs) → a ≠ P := fun {a o} e n z => by
    rw [z, eP] at e
    cases e
    exact n ps rfl
  have own : ∀ {a : Addr} {d : PV}, Own K F H a d → H2 a = H a := fun {a d} ho => by
    obtain ⟨o, e, n⟩ := ho.at_
    exact t2 a (ne e n)
  refine ⟨R.len, fun a o e => ?_, R.f0, R.new, fun a o e n1 n2 => ?_, fun P' hP' => ?_, R.nt, R.va, fun i d e => ?_, fun i d e => ?_, R.iok, fun a o e => ?_, R.sep⟩
  · rw [t2 a (fun z => by rw [z, R.nt P hP] at e; cases e)]
    exact R.sub a o e
  · rw [t2 a (fun z => n1 (by rw [z]; exact hP))]
    exact R.keep a o e n1 n2
  · by_cases z : P' = P
    · rw [z]; exact t1
    · obtain ⟨qs, e, q⟩ := R.tab P' hP'
      exact ⟨qs, by rw [t2 P' z]; exact e, q⟩
  · obtain ⟨a, e1, e2, e3, ho⟩ := R.ow i d e
    exact ⟨a, e1, e2, e3, ho.mono (Same.refl _) (own ho)⟩
  · obtain ⟨a, e0, e1, e2, ho⟩ := R.io i d e
    exact ⟨a, e0, e1, e2, ho.mono (Same.refl _) (own ho)⟩
  · obtain ⟨u1, u2, u3, u4⟩ := R.tm a o e
    exact ⟨by rw [t2 a (ne u1 u3.ntb)]; exact u1, u2, u3, u4⟩
end
/-- no slot of these is the caller's object -/
def noIo (vs : List Nat) (e : Ev) : Bool := vs.all (fun i => match e[i]? with | some (.io _) => false | _ => true)
theorem noIo_ok {T : List Addr} {K : PySem.W.Frag} {g : Gh} {F H : Hp} {σ : St} {env : Ev} {vs : List Nat} (R : Rel T K g F H σ env) (h : noIo vs env = true) : ∀ i ∈ vs, ∀ a, (i, a) ∉ g.io := fun i hi a z => by
  obtain ⟨_, d, hd⟩ := R.iok i a z
  have := List.all_eq_true.mp h i hi
  rw [hd] at this
  cases this
/-- tuple(f for .. in w if t) -/
def eTupG (vs : List Nat) (w : AF) (bi : BF) (t : TF) (f : EF) : EF := fun env => match w env with
  | none => none
  | some (ds, e) => if noIo vs e then match coF vs bi t f ds [] (wipeE e vs) with
      | none => none
      | some (acc, e2) => some (.tuple acc, wipeE e2 vs)
    else none
/-- its values until one is not go -/
def coB (go : Bool) (vs : List Nat) (bi : BF) (t : TF) (f : EF) : List PV → Ev → Option (Bool × Ev)
  | [], env => some (go, env)
  | d :: ds, env => match bi d env with
    | none => none
    | some e => match t e with
      | none => none
      | some (false, e2) => coB go vs bi t f ds (wipeE e2 vs)
      | some (true, e2) => match f e2 with
        | some (.bool c, e3) => if c = go then coB go vs bi t f ds (wipeE e3 vs) else some (!go, e3)
        | _ => none
def eGo (go : Bool) (vs : List Nat) (w : AF) (bi : BF) (t : TF) (f : EF) : EF := fun env => match w env with
  | none => none
  | some (ds, e) => if noIo vs e then match coB go vs bi t f ds (wipeE e vs) with
      | none => none
      | some (c, e2) => some (.bool c, wipeE e2 vs)
    else none
section
variable {T : List Addr} {K : PySem.W.Frag} {P : Addr}
theorem re_tupG {vs ts : List Nat} {w : AF} {bi : BF} {t : TF} {f : EF} (hP : P ∈ T) (hts : ∀ i ∈ ts, i ∈ vs) : ∀ σ H Q, RE T K (eTupG vs w bi t f) σ H Q → tTupG (tGexp P (RI T K w) (RB T K ts bi) (RT T K t) (RE T K f) vs) σ H Q := by
  rintro σ H Q ⟨gh, F, env, d, env', R, e, q⟩
  unfold eTupG at e
  split at e
  · cases e
  · rename_i ds e1 ew
    split at e
    · rename_i hio
      split at e
      · cases e
      · rename_i acc e2 ec
        cases e
        refine ⟨gh, F, env, _, _, R, ew, fun J H1 F1 R1 s1 Y => ⟨R1.tab P hP, fun H2 ht => ?_⟩⟩
        have nio := noIo_ok R1 hio
        have R1' := (R1.tabbed hP ht).wipe nio
        refine ⟨fun i m ys H => m = ds.length - i ∧ ∃ F' env' acc', Rel T K gh F' H (L2.wipe σ vs) env' ∧ Same F1 F' ∧ Reps K F' ys acc' ∧ coF vs bi t f (ds.drop i) acc' env' = some (acc, e2),
          ⟨_, rfl, F1, _, [], R1', Same.refl _, .nil, by simpa using ec⟩, ?_⟩
        rintro i m ys H3 ⟨rfl, F2, env2, acc2, R2, s2, rr, e'⟩
        obtain ⟨yi, yn⟩ := Y gh i F2 H3 _ env2 R2 s2
        cases hd : ds[i]? with
        | none =>
          have hl : ds.length ≤ i := List.getElem?_eq_none_iff.mp hd
          rw [List.drop_of_length_le hl] at e'
          injection e' with e'
          injection e' with ea eb
          subst ea; subst eb
          refine .inl ⟨yn hd, fun p hp => ?_⟩
          have R3 : Rel T K gh F2 H3 σ (wipeE env2 vs) := R2.swap (σ' := σ) nio (wipe_length _ _).symm fun j hj => (wipe_out hj).symm
          obtain ⟨R4, s4⟩ := R3.laidF (o := .tup ys) hp
          exact q _ _ _ R4 (s1.trans (s2.trans s4)) (.tup (.inl upd_same) (rr.mono s4))
        | some d =>
          obtain ⟨hgo, hy⟩ := yi d hd
          have hl : i < ds.length := (List.getElem?_eq_some_iff.mp hd).1
          have ed : ds.drop i = d :: ds.drop (i + 1) := by
            rw [List.drop_eq_getElem_cons hl]
            rw [List.getElem?_eq_getElem hl] at hd
            cases hd; rfl
          rw [ed] at e'
          unfold coF at e'
          refine .inr ⟨hgo, fun ys H' => ∃ F' env' acc', Rel T K gh F' H' (L2.wipe σ vs) env' ∧ Same F1 F' ∧ Reps K F' ys acc' ∧ coF vs bi t f (ds.drop (i + 1)) acc' env' = some (acc, e2),
            fun ys' H' h => ⟨ds.length - (i + 1), by omega, rfl, h⟩, fun x H' hx' => ?_⟩
          obtain ⟨F3, R3, s3, rx⟩ := hy x H' hx'
          split at e'
          · cases e'
          · rename_i e3 eb
            refine ⟨gh, F3, env2, d, e3, R3, rx, eb, fun σ4 H4 F4 R4 s4 w4 => ?_⟩
            have ew4 := w4 vs hts
            rw [show L2.wipe (L2.wipe σ vs) vs = L2.wipe σ vs from wipe_wipe ..] at ew4
            refine ⟨ew4, ?_⟩
            split at e'
            · cases e'
            · rename_i e4 et
              refine ⟨gh, F4, e3, _, _, R4, et, fun H5 F5 R5 s5 => iteF ?_⟩
              have R7 := R5.wipe nio
              rw [ew4] at R7
              exact ⟨F5, _, acc2, R7, s2.trans (s3.trans (s4.trans s5)), rr.mono (s3.trans (s4.trans s5)), e'⟩
            · rename_i e4 et
              refine ⟨gh, F4, e3, _, _, R4, et, fun H5 F5 R5 s5 => iteT ?_⟩
              split at e'
              · cases e'
              · rename_i r e5 ef
                split at e'
                · rename_i hlen
                  refine ⟨gh, F5, e4, _, _, R5, ef, fun y H6 F6 R6 s6 r6 => ⟨by rw [rr.len]; exact hlen, ?_⟩⟩
                  have R8 := R6.wipe nio
                  rw [ew4] at R8
                  have s26 := s3.trans (s4.trans (s5.trans s6))
                  exact ⟨F6, _, _, R8, s2.trans s26, (rr.mono s26).append (.one r6), e'⟩
                · cases e'
    · cases e
theorem re_go {go : Bool} {vs ts : List Nat} {w : AF} {bi : BF} {t : TF} {f : EF} (hP : P ∈ T) (hts : ∀ i ∈ ts, i ∈ vs) : ∀ σ H Q, RE T K (eGo go vs w bi t f) σ H Q →
    tGexpB P go (RI T K w) (RB T K ts bi) (RT T K t) (RE T K f) vs σ H (fun H2 => Q (.bl go) H2) (fun H2 => Q (.bl (!go)) H2) := by
  rintro σ H Q ⟨gh, F, env, d, env', R, e, q⟩
  unfold eGo at e
  split at e
  · cases e
  · rename_i ds e1 ew
    split at e
    · rename_i hio
      split at e
      · cases e
      · rename_i res e2 ec
        cases e
        refine ⟨gh, F, env, _, _, R, ew, fun J H1 F1 R1 s1 Y => ⟨R1.tab P hP, fun H2 ht => ?_⟩⟩
        have nio := noIo_ok R1 hio
        have R1' := (R1.tabbed hP ht).wipe nio
        refine ⟨fun i m H => m = ds.length - i ∧ ∃ F' env', Rel T K gh F' H (L2.wipe σ vs) env' ∧ Same F1 F' ∧ coB go vs bi t f (ds.drop i) env' = some (res, e2),
          ⟨_, rfl, F1, _, R1', Same.refl _, by simpa using ec⟩, ?_⟩
        rintro i m H3 ⟨rfl, F2, env2, R2, s2, e'⟩
        obtain ⟨yi, yn⟩ := Y gh i F2 H3 _ env2 R2 s2
        cases hd : ds[i]? with
        | none =>
          have hl : ds.length ≤ i := List.getElem?_eq_none_iff.mp hd
          rw [List.drop_of_length_le hl] at e'
          injection e' with e'
          injection e' with ea eb
          subst ea; subst eb
          refine .inl ⟨yn hd, ?_⟩
          have R3 : Rel T K gh F2 H3 σ (wipeE env2 vs) := R2.swap (σ' := σ) nio (wipe_length _ _).symm fun j hj => (wipe_out hj).symm
          exact q _ _ _ R3 (s1.trans s2) (.bl _)
        | some d =>
          obtain ⟨hgo, hy⟩ := yi d hd
          have hl : i < ds.length := (List.getElem?_eq_some_iff.mp hd).1
          have ed : ds.drop i = d :: ds.drop (i + 1) := by
            rw [List.drop_eq_getElem_cons hl]
            rw [List.getElem?_eq_getElem hl] at hd
            cases hd; rfl
          rw [ed] at e'
          unfold coB at e'
          refine .inr ⟨hgo, fun H' => ∃ F' env', Rel T K gh F' H' (L2.wipe σ vs) env' ∧ Same F1 F' ∧ coB go vs bi t f (ds.drop (i + 1)) env' = some (res, e2),
            fun H' h => ⟨ds.length - (i + 1), by omega, rfl, h⟩, fun x H' hx' => ?_⟩
          obtain ⟨F3, R3, s3, rx⟩ := hy x H' hx'
          split at e'
          · cases e'
          · rename_i e3 eb
            refine ⟨gh, F3, env2, d, e3, R3, rx, eb, fun σ4 H4 F4 R4 s4 w4 => ?_⟩
            have ew4 := w4 vs hts
            rw [show L2.wipe (L2.wipe σ vs) vs = L2.wipe σ vs from wipe_wipe ..] at ew4
            refine ⟨ew4, ?_⟩
            split at e'
            · cases e'
            · rename_i e4 et
              refine ⟨gh, F4, e3, _, _, R4, et, fun H5 F5 R5 s5 => iteF ?_⟩
              have R7 := R5.wipe nio
              rw [ew4] at R7
              exact ⟨F5, _, R7, s2.trans (s3.trans (s4.trans s5)), e'⟩
            · rename_i e4 et
              refine ⟨gh, F4, e3, _, _, R4, et, fun H5 F5 R5 s5 => iteT ?_⟩
              split at e'
              · rename_i c e5 ef
                refine ⟨gh, F5, e4, _, _, R5, ef, fun y H6 F6 R6 s6 r6 => ?_⟩
                have s26 := s3.trans (s4.trans (s5.trans s6))
                have ey : y = .bl c := by cases r6; rfl
                subst ey
                refine ⟨c, rfl, fun hc => ?_, fun hc => ?_⟩
                · rw [if_pos hc] at e'
                  have R8 := R6.wipe nio
                  rw [ew4] at R8
                  exact ⟨F6, _, R8, s2.trans s26, e'⟩
                · rw [if_neg hc] at e'
                  cases e'
                  have R8 : Rel T K gh F6 H6 σ (wipeE e2 vs) := R6.swap (σ' := σ) nio (by
                    have := congrArg List.length ew4
                    rw [wipe_length, wipe_length] at this
                    exact this.symm) fun j hj => by
                    have := congrArg (fun z : St => z[j]?) ew4
                    simp only [wipe_out hj] at this
                    exact this.symm
                  exact q _ _ _ R8 (s1.trans (s2.trans s26)) (.bl _)
              · cases e'
    · cases e
end
section
variable {T : List Addr} {X : Cx}
theorem fe_tupG {k : Nat} {c P : Addr} {elt tg iter : Expr} {ifs : List Expr} {scope : Scope} {p pos cpos : Pos} {own : List (Str × Nat)} {ts : List Nat} {w : AF} {bi : BF} {t : TF} {f : EF} (hP : P ∈ T) (hr : Room (k + 7) X.A) (TB : GxR.TabB X.base X.mg c P) (hcode : X.env.code = .ref c) (G : GenOk X.N X.env.scope scope own) (hN : X.N.Nodup)
    (hg : Gl X "tuple") (hmg : X.mg "tuple" = none) (hi : FI T X tg iter w)
    (hb : ∀ s H C code A fp pn, FB T (genCx X A s H scope C code builtinsNs fp pn) tg ts bi) (ht : ∀ s H C code A fp pn, Room k (genCx X A s H scope C code builtinsNs fp pn).A → FTs T (genCx X A s H scope C code builtinsNs fp pn) ifs t) (he : ∀ s H C code A fp pn, Room k (genCx X A s H scope C code builtinsNs fp pn).A → FE T (genCx X A s H scope C code builtinsNs fp pn) elt f)
    (hts : ∀ i ∈ ts, i ∈ own.map (·.2) := by decide) (hco : scope.isCoroutine = false := by rfl) (hdot : scope.names.lookup (".0" : Str) = some NameKind.local := by rfl) (hs : ∀ v, genFold iter X.env v = pure v := by intro _; rfl) (hst : starEach [.GeneratorExp elt [⟨tg, iter, ifs, 0⟩] scope pos] X.env = (false, eval (.GeneratorExp elt [⟨tg, iter, ifs, 0⟩] scope pos) X.env) :: starEach [] X.env := by rfl) :
    FE T X (.Call (.Name "tuple" p) [.GeneratorExp elt [⟨tg, iter, ifs, 0⟩] scope pos] [] cpos) (eTupG (own.map (·.2)) w bi t f) :=
  (pe_tupG (pgen_gexp (k := k + 1) (P := P) (g := RB T X.K ts bi) (tt := RT T X.K t) (te := RE T X.K f) (hr.mono (by omega)) TB hcode G hN hco hdot hi hb (fun s H C code A fp pn hA => ht s H C code A fp pn (hA.deeper _)) (fun s H C code A fp pn hA => he s H C code A fp pn (hA.deeper _)) hs) hr hg hmg (by rfl) hst).weak (re_tupG hP hts)
theorem fe_allG {k : Nat} {c P : Addr} {elt tg iter : Expr} {ifs : List Expr} {scope : Scope} {p pos cpos : Pos} {own : List (Str × Nat)} {ts : List Nat} {w : AF} {bi : BF} {t : TF} {f : EF} (hP : P ∈ T) (hr : Room (k + 7) X.A) (TB : GxR.TabB X.base X.mg c P) (hcode : X.env.code = .ref c) (G : GenOk X.N X.env.scope scope own) (hN : X.N.Nodup)
    (hg : Gl X "all") (hmg : X.mg "all" = none) (hi : FI T X tg iter w)
    (hb : ∀ s H C code A fp pn, FB T (genCx X A s H scope C code builtinsNs fp pn) tg ts bi) (ht : ∀ s H C code A fp pn, Room k (genCx X A s H scope C code builtinsNs fp pn).A → FTs T (genCx X A s H scope C code builtinsNs fp pn) ifs t) (he : ∀ s H C code A fp pn, Room k (genCx X A s H scope C code builtinsNs fp pn).A → FE T (genCx X A s H scope C code builtinsNs fp pn) elt f)
    (hts : ∀ i ∈ ts, i ∈ own.map (·.2) := by decide) (hco : scope.isCoroutine = false := by rfl) (hdot : scope.names.lookup (".0" : Str) = some NameKind.local := by rfl) (hs : ∀ v, genFold iter X.env v = pure v := by intro _; rfl) (hst : starEach [.GeneratorExp elt [⟨tg, iter, ifs, 0⟩] scope pos] X.env = (false, eval (.GeneratorExp elt [⟨tg, iter, ifs, 0⟩] scope pos) X.env) :: starEach [] X.env := by rfl) :
    FE T X (.Call (.Name "all" p) [.GeneratorExp elt [⟨tg, iter, ifs, 0⟩] scope pos] [] cpos) (eGo true (own.map (·.2)) w bi t f) :=
  (pe_allG (pgenB_gexp (k := k + 1) (P := P) (g := RB T X.K ts bi) (tt := RT T X.K t) (te := RE T X.K f) (hr.mono (by omega)) TB hcode G hN hco hdot hi hb (fun s H C code A fp pn hA => ht s H C code A fp pn (hA.deeper _)) (fun s H C code A fp pn hA => he s H C code A fp pn (hA.deeper _)) hs) hr hg hmg (by rfl) hst).weak (re_go (go := true) hP hts)
theorem fe_anyG {k : Nat} {c P : Addr} {elt tg iter : Expr} {ifs : List Expr} {scope : Scope} {p pos cpos : Pos} {own : List (Str × Nat)} {ts : List Nat} {w : AF} {bi : BF} {t : TF} {f : EF} (hP : P ∈ T) (hr : Room (k + 7) X.A) (TB : GxR.TabB X.base X.mg c P) (hcode : X.env.code = .ref c) (G : GenOk X.N X.env.scope scope own) (hN : X.N.Nodup)
    (hg : Gl X "any") (hmg : X.mg "any" = none) (hi : FI T X tg iter w)
    (hb : ∀ s H C code A fp pn, FB T (genCx X A s H scope C code builtinsNs fp pn) tg ts bi) (ht : ∀ s H C code A fp pn, Room k (genCx X A s H scope C code builtinsNs fp pn).A → FTs T (genCx X A s H scope C code builtinsNs fp pn) ifs t) (he : ∀ s H C code A fp pn, Room k (genCx X A s H scope C code builtinsNs fp pn).A → FE T (genCx X A s H scope C code builtinsNs fp pn) elt f)
    (hts : ∀ i ∈ ts, i ∈ own.map (·.2) := by decide) (hco : scope.isCoroutine = false := by rfl) (hdot : scope.names.lookup (".0" : Str) = some NameKind.local := by rfl) (hs : ∀ v, genFold iter X.env v = pure v := by intro _; rfl) (hst : starEach [.GeneratorExp elt [⟨tg, iter, ifs, 0⟩] scope pos] X.env = (false, eval (.GeneratorExp elt [⟨tg, iter, ifs, 0⟩] scope pos) X.env) :: starEach [] X.env := by rfl) :
    FE T X (.Call (.Name "any" p) [.GeneratorExp elt [⟨tg, iter, ifs, 0⟩] scope pos] [] cpos) (eGo false (own.map (·.2)) w bi t f) :=
  (pe_anyG (pgenB_gexp (k := k + 1) (P := P) (g := RB T X.K ts bi) (tt := RT T X.K t) (te := RE T X.K f) (hr.mono (by omega)) TB hcode G hN hco hdot hi hb (fun s H C code A fp pn hA => ht s H C code A fp pn (hA.deeper _)) (fun s H C code A fp pn hA => he s H C code A fp pn (hA.deeper _)) hs) hr hg hmg (by rfl) hst).weak (re_go (go := false) hP hts)
end
end Fx

namespace L2
open PySem PySem.Spec PyProof.Rows
def genC (N : List Str) (sc scope : Scope) (own : List (Str × Nat)) : Bool :=
  (match scope.kind with | .function => true | _ => false) && (own.all fun p => decide (N[p.2]? = some p.1)) &&
    (scope.names.all fun y => match y.2 with
      | .free => (match sc.names.lookup y.1 with | some .cell => true | some .free => true | _ => false)
      | .local => decide (y.1 ∈ own.map (·.1)) || decide (y.1 ∉ N)
      | .cell => false
      | _ => true)
theorem genOk_by {N : List Str} {sc scope : Scope} {own : List (Str × Nat)} (h : genC N sc scope own = true) : GenOk N sc scope own := by
  unfold genC at h
  simp only [Bool.and_eq_true, List.all_eq_true, decide_eq_true_eq] at h
  obtain ⟨⟨h1, h3⟩, h4⟩ := h
  refine ⟨?_, fun y hy e => ?_, h3, fun y hy e => ?_, fun y hy e => ?_⟩
  · split at h1
    · assumption
    · cases h1
  · have q := h4 y hy
    simp only [e] at q
    cases q
  · have q := h4 y hy
    simp only [e] at q
    split at q <;> first | exact .inl (by assumption) | exact .inr (by assumption) | cases q
  · have q := h4 y hy
    simp only [e, Bool.or_eq_true, decide_eq_true_eq] at q
    exact q
section
variable {P : Program} {w : World} {K : PySem.W.Frag} {mg : Str → Option Value} {base : Heap} {x qual : Str} {params : Arguments} {body : List Stmt} {scope : Scope} {dvs : List V} {kws : List (Str × V)} {f : Addr} {fd : FuncData}
theorem FunD.okC {CX : CXT} {N ps : List Str} {k : Nat} {sp : Sp} (F : FunD K x qual params body scope dvs kws f fd) (S : FnScope N ps scope) (len : ∀ vs H Q E, sp vs H Q E → vs.length = ps.length)
    (hbody : ∀ (cdv : Value) (A : Around) (outer : List Env) (s : Shared) (H : Hp) (vs : List V) (Q : VK) (E : XK), fd.code = cdv → Room k (A.deeper (envOfC qual scope s.heap.objs.size f cdv)) → sp vs H Q E →
      ∃ t, PSs (cxOf CX P w K mg base N qual scope f cdv A outer s H E) body t ∧ t { nx := fun _ H' => Q .non H', rt := Q } (start N vs) H) : FnOk P w K mg base CX (k + 1) f fd ps sp := by
  obtain ⟨oc, od, dV, kV, doc, pm, an, cdv, ct, osl, rfl, lk, hcd, _, _⟩ := F.ex
  exact fn_of lk hcd S len fun A outer s H vs Q E hr hsp => hbody cdv A outer s H vs Q E rfl hr hsp
theorem FunD.code {d : He.DefD} {p : Str × Option Str} (F : FunD K x qual params body scope dvs kws (He.fAd K p) fd) : fd.code = .ref (He.cT K p).1 := by
  obtain ⟨oc, od, dV, kV, doc, pm, an, cdv, ct, osl, rfl, lk, hcd, _, _⟩ := F.ex
  obtain ⟨c, rfl⟩ := He.codeIn_ref hcd
  show Value.ref c = .ref (He.codeOf K p)
  rw [He.codeOf_eq lk rfl]
end
end L2
namespace Fx
open PySem PySem.Spec L2
open PyProof.Rows hiding St
section
variable {P : Program} {w : World} {K : PySem.W.Frag} {mg : Str → Option Value} {base : Heap} {T : List Addr}
theorem fd_pureC {x : Str} {st : Stmt} {f : Addr} {fd : FuncData} {N ps : List Str} {j k n : Nat} {b : SF} (F : FnP K x st f fd) (S : FnScope N ps (defScope st)) (hn : N.length = n) (hk : ps.length = k)
    (hbody : ∀ (cdv : Value) (A : Around) (outer : List Env) (s : Shared) (H : Hp) (E : XK), fd.code = cdv → Room j (A.deeper (envOfC x (defScope st) s.heap.objs.size f cdv)) → FSs T (cxOf CX0 P w K mg base N x (defScope st) f cdv A outer s H E).nox (defBody st) b) :
    FnOk P w K mg base CX0 (j + 1) f fd ps (spP T K (runP n k b)) := by
  subst hn hk
  refine FunD.okC F S (fun vs H Q E h => ?_) (fun cdv A outer s H vs Q E hc hr h => ?_)
  · obtain ⟨F, qs, d, _, _, r, e, _⟩ := h
    unfold runP at e
    split at e
    · rename_i hk
      rw [r.len]; exact hk.1
    · cases e
  · obtain ⟨F, qs, d, sF, hT, r, e, q⟩ := h
    have hl : qs.length = ps.length := by
      unfold runP at e
      split at e
      · rename_i hk; exact hk.1
      · cases e
    exact ⟨_, (hbody cdv A outer s H E hc hr).nox, ends_of sF hT r (by rw [hl]; exact e) q⟩
theorem fd_newC {x : Str} {st : Stmt} {f : Addr} {fd : FuncData} {N ps : List Str} {j k n : Nat} {b : SF} (F : FnP K x st f fd) (S : FnScope N ps (defScope st)) (hn : N.length = n) (hk : ps.length = k)
    (hbody : ∀ (cdv : Value) (A : Around) (outer : List Env) (s : Shared) (H : Hp) (E : XK), fd.code = cdv → Room j (A.deeper (envOfC x (defScope st) s.heap.objs.size f cdv)) → FSs T (cxOf CX0 P w K mg base N x (defScope st) f cdv A outer s H E).nox (defBody st) b) :
    FnOk P w K mg base CX0 (j + 1) f fd ps (spN T K (runN n k b)) := by
  subst hn hk
  refine FunD.okC F S (fun vs H Q E h => ?_) (fun cdv A outer s H vs Q E hc hr h => ?_)
  · obtain ⟨F, qs, d, _, _, r, e, _⟩ := h
    unfold runN at e
    split at e
    · rename_i hk
      rw [r.len]; exact hk.1
    · cases e
  · obtain ⟨F, qs, d, sF, hT, r, e, q⟩ := h
    have hl : qs.length = ps.length := by
      unfold runN at e
      split at e
      · rename_i hk; exact hk.1
      · cases e
    exact ⟨_, (hbody cdv A outer s H E hc hr).nox, endsN_of sF hT r (by rw [hl]; exact e) q⟩
theorem fd_ioC {x : Str} {st : Stmt} {f : Addr} {fd : FuncData} {N ps : List Str} {j k n : Nat} {b : SF} (F : FnP K x st f fd) (S : FnScope N ps (defScope st)) (hn : N.length = n) (hk : ps.length = k)
    (hbody : ∀ (cdv : Value) (A : Around) (outer : List Env) (s : Shared) (H : Hp) (E : XK), fd.code = cdv → Room j (A.deeper (envOfC x (defScope st) s.heap.objs.size f cdv)) → FSs T (cxOf CX0 P w K mg base N x (defScope st) f cdv A outer s H E).nox (defBody st) b) :
    FnOk P w K mg base CX0 (j + 1) f fd ps (spIO T K (runIO n k b)) := by
  subst hn hk
  refine FunD.okC F S (fun vs H Q E h => ?_) (fun cdv A outer s H vs Q E hc hr h => ?_)
  · obtain ⟨F, a, vs', qs, d, d', r, rfl, _, _, _, _, rr, e, _⟩ := h
    unfold runIO at e
    split at e
    · rename_i hk
      rw [List.length_cons, rr.len]; exact hk.1
    · cases e
  · obtain ⟨F, a, vs', qs, d, d', r, rfl, sF, hT, hF, ho, rr, e, q⟩ := h
    have hl : qs.length + 1 = ps.length := by
      unfold runIO at e
      split at e
      · rename_i hk; exact hk.1
      · cases e
    exact ⟨_, (hbody cdv A outer s H E hc hr).nox, endsIO_of sF hT hF ho rr (by rw [hl]; exact e) q⟩
/-- the law's promise, from what it computes; the tables are empty -/
theorem law_ofT {H : Hp} {a : Addr} {ns : List Int} {g : List PV → Option PV} (hT : ∀ P ∈ T, H P = some (.tbl #[])) (hS : SqL K H a (ns.map V.int)) (e : g [scrD ns] = some (.bool true)) : spP T K g [.ref a] H (fun v _ => v = .bl true) fun _ _ _ => False := by
  refine ⟨fun b => if b ∈ T then none else H b, [scrD ns], _, fun b o q => ?_, fun P hP => ⟨⟨#[], hT P hP, trivial⟩, if_pos hP⟩, .one (.lk ?_ (reps_map ns)), e, fun v H' F' L r => ?_⟩
  · have q : (if b ∈ T then none else H b) = some o := q
    split at q
    · cases q
    · exact q
  · have ne : ∀ o, H a = some o → (∀ ps, o ≠ .tbl ps) → (if a ∈ T then none else H a) = some o := fun o e n => by
      rw [if_neg (fun z => by rw [hT a z] at e; cases e; exact n _ rfl)]
      exact e
    rcases hS with (h | ⟨o, h⟩) | h
    · exact .inl (.inl (ne _ h fun ps z => nomatch z))
    · exact .inl (.inr ⟨o, ne _ h fun ps z => nomatch z⟩)
    · exact .inr h
  · cases r
    rfl
end
abbrev blX (bl : List (Str × String)) : PySem.W.Frag → Bool := fun K => bl.all (bltB K)
abbrev hookY (n : Nat) (bl : List (Str × String)) (fa : List He.Fa) (fn : List He.DefD) (tf : List He.Defn) : PySem.W.Hook := He.hookX n fa fn [] tf (blX bl)
theorem blX_ok {bl : List (Str × String)} {K : PySem.W.Frag} (c : blX bl K = true) {h : Heap} {mg : Str → Option Value} (X : K.In h) (G : h.Ns mainGlobals mg) (i : Nat) {b : Str × String} (e : bl[i]? = some b := by rfl) : mg b.1 = some (.builtin b.2) := by
  have h2 := List.all_eq_true.mp c b (List.mem_of_getElem? e)
  exact PySem.W.mg_of X G (He.eqO_ok h2)
end Fx

namespace L2
open PySem PySem.Spec PyProof.Rows
open PySem.W (EachIs AllAlike Sortable SortsAt dataLe sortVals dataKind alike dataKind_some dataKind_inv sortVals_data list_sort_rev_vals sortingHeap)
/-- lists of values and of data, item by item -/
inductive Each2 (R : V → PyData → Prop) : List V → List PyData → Prop
  | nil : Each2 R [] []
  | cons {v : V} {d : PyData} {vs : List V} {ds : List PyData} : R v d → Each2 R vs ds → Each2 R (v :: vs) (d :: ds)
theorem Each2.length {R : V → PyData → Prop} : ∀ {vs ds}, Each2 R vs ds → vs.length = ds.length
  | _, _, .nil => rfl
  | _, _, .cons _ t => by simp [Each2.length t]
theorem Each2.each {R : V → PyData → Prop} : ∀ {vs ds us}, Each2 R vs ds → Vals vs us → EachIs (fun u d => ∃ v, RelV v u ∧ R v d) us ds
  | _, _, _, .nil, .nil => .nil
  | _, _, _, .cons r t, .cons q z => .cons ⟨_, q, r⟩ (t.each z)
theorem Each2.back {R : V → PyData → Prop} : ∀ {us ds}, EachIs (fun u d => ∃ v, RelV v u ∧ R v d) us ds → ∃ vs, Vals vs us ∧ Each2 R vs ds
  | _, _, .nil => ⟨[], .nil, .nil⟩
  | _, _, .cons ⟨v, q, r⟩ t => let ⟨vs, q2, r2⟩ := Each2.back t; ⟨v :: vs, .cons q q2, .cons r r2⟩
theorem readsAll_each {h : Heap} : ∀ {us : List Value} {ds : List PyData} {as : List Addr}, PySem.ReadsAll h us ds as → EachIs (fun u d => ∃ as, PySem.Reads h u d as) us ds
  | _, _, _, .nil => .nil
  | _, _, _, .cons r t => .cons ⟨_, r⟩ (readsAll_each t)
/-- one item alone is sorted by itself -/
theorem SortsAt.one {prog : Program} {w : World} {A : Around} {s : Shared} {v : Value} {as : List Addr} (r : PySem.Reads s.heap v (.tuple []) as) (hu : A.units < cLine) : SortsAt prog w A s (dataKind s.heap [.tuple []]) [v] := by
  have hal : AllAlike [PyData.tuple []] := fun d hd d' hd' => by
    rw [List.mem_singleton.mp hd, List.mem_singleton.mp hd']
    rfl
  refine ⟨fun x hx => ?_, tuples' true, fun E x y a b Q ha hb hq => ?_, fun h2 => ?_⟩
  · rw [List.mem_singleton.mp hx]
    exact ⟨_, dataKind_some hal (List.mem_singleton.mpr rfl) r⟩
  · obtain ⟨d, as, hd, ra, rfl⟩ := dataKind_inv ha
    obtain ⟨d', as', hd', rb, rfl⟩ := dataKind_inv hb
    obtain rfl := List.mem_singleton.mp hd
    obtain rfl := List.mem_singleton.mp hd'
    cases ra with
    | @tuple l o xs n _ _ h1 h2 h3 h4 =>
      cases rb with
      | @tuple l' o' xs' n' _ _ k1 k2 k3 k4 =>
        have n1 : xs.size = 0 := by simpa using SeqAt.ReadsAll.length _ _ _ h4
        have n2 : xs'.size = 0 := by simpa using SeqAt.ReadsAll.length _ _ _ k4
        refine PySem.W.kat_lt h1 h3 k1 k3 (PySem.W.katLex_alike [] [] 0 _ _ _ _ h4 k4 rfl (by simpa [PyData.depthAll] using hu) (fun _ _ x r t ex => by cases ex) (by rw [n1, n2]; rfl) hq)
  · simp at h2
/-- what sorted needs of its items -/
def SortOk (ds : List PyData) : Prop := (AllAlike ds ∧ Sortable ds) ∨ ds = [.tuple []]
theorem sortOk_at {prog : Program} {w : World} {A : Around} {s : Shared} {us : List Value} {ds : List PyData} (e : EachIs (fun v d => ∃ as, PySem.Reads s.heap v d as) us ds) (h : SortOk ds) (hu : A.units < cLine) (hd : ∀ d, d ∈ ds → A.units + d.depth < cLine) :
    SortsAt prog w A s (dataKind s.heap ds) us ∧ AllAlike ds := by
  rcases h with ⟨h1, h2⟩ | rfl
  · exact ⟨SortsAt.data e h1 h2 hd, h1⟩
  · cases e with
    | cons r t =>
      cases t
      obtain ⟨as, r⟩ := r
      exact ⟨SortsAt.one r hu, fun d hd d' hd' => by
        rw [List.mem_singleton.mp hd, List.mem_singleton.mp hd']
        rfl⟩
section
variable {X : Cx} {pins : List (Addr × Obj)} {σ : St} {H : Hp} {s : Shared}
def kwB (kw : List (Str × Value)) (b : Bool) : Prop := (kw = [] ∧ b = false) ∨ kw = [(Str.ofString "reverse", .bool b)]
theorem sorted_coll {u : Value} {ys : List V} {ds : List PyData} {R : V → PyData → Prop} {b : Bool} {kw : List (Str × Value)} {Q : VK} (I : Inv X pins σ H s) (hk : kwB kw b) (hu : X.A.units + 65 < cLine)
    (hc : ∀ (Q1 : List Value → Shared → Prop) (E : Value → Shared → Prop), (∀ (h' : Heap) (tk : Nat) (us : List Value), (∀ bb o, s.heap.get? bb = some o → h'.get? bb = some o) → Vals ys us → Q1 us { s with heap := h', toks := tk }) → wpAny (model X.prog X.w) X.A.in1 (collect u) Q1 E s)
    (ha : argsOk "sorted" ⟨[u], kw⟩) (hl : ys.length ≤ sizeLine) (hd : DpAll X.K H ys ds) (hs : SortOk ds) (hdep : ∀ d, d ∈ ds → d.depth ≤ 60) (hr : Each2 R ys ds)
    (q : ∀ (zs : List V) (p : Addr), Each2 R zs (ds.mergeSort (dataLe b id)) → H p = none → Q (.ref p) (upd H p (.lst zs))) :
    wpAny (model X.prog X.w) X.A (call (.builtin "sorted") [u] kw) (EP X pins σ Q) X.xe s := by
  refine call_function_entry_kw kind_sorted plain_sorted entry_sorted ha ?_
  unfold Builtin.«sorted»
  refine wpAny_bind (m := checkCount "sorted" 1 1 _) (wpAny_pure ?_)
  refine wpAny_bind (hc _ _ fun h' tk us kp rv => ?_)
  have hlu : us.length ≤ sizeLine := by rw [← rv.length]; exact hl
  refine wpAny_bind (wpAny_newList ?_ hlu)
  have I1 : Inv X pins σ H { s with heap := h', toks := tk } := I.kept kp
  obtain ⟨as, hra⟩ := Dp.readsAll I1 ds ys us hd rv
  have er0 := readsAll_each hra
  have hoL : (h'.push (seqObj "list" us.toArray 0)).get? h'.objs.size = some (seqObj "list" us.toArray 0) := Heap.get?_push_size _ rfl
  have old : ∀ bb o, h'.get? bb = some o → (sortingHeap (h'.push (seqObj "list" us.toArray 0)) h'.objs.size us).get? bb = some o := fun bb o e =>
    PySem.W.sortingHeap_old (Nat.ne_of_lt (Heap.lt_size e)) (Heap.get?_push_of_some _ e)
  have er : EachIs (fun v d => ∃ as, PySem.Reads (sortingHeap (h'.push (seqObj "list" us.toArray 0)) h'.objs.size us) v d as) us ds := er0.mono fun _ _ ⟨as, r⟩ => ⟨as, PyProof.Rows.Reads.keeps old r⟩
  obtain ⟨S, hal⟩ := sortOk_at (prog := X.prog) (w := X.w) (A := X.A.in1.in1) (s := { s with heap := sortingHeap (h'.push (seqObj "list" us.toArray 0)) h'.objs.size us, toks := tk }) er hs (by show X.A.units + 1 + 1 < _; omega) (fun d hm => by have := hdep d hm; show X.A.units + 1 + 1 + _ < _; omega)
  have h2 : argsOk "list.sort" ⟨[.ref h'.objs.size], kw⟩ := by
    rcases hk with ⟨rfl, _⟩ | rfl
    · exact args_list_sort _
    · exact args_list_sort_rev _ _
  have hb : Builtin.«list.sort» ⟨[.ref h'.objs.size], kw⟩ = Builtin.«list.sort» ⟨[.ref h'.objs.size], [(Str.ofString "reverse", .bool b)]⟩ := by
    rcases hk with ⟨rfl, rfl⟩ | rfl
    · exact PySem.W.plain_is_rev ..
    · rfl
  have fin : EP X pins σ Q (.ref h'.objs.size) { s with heap := sortedHeap (h'.push (seqObj "list" us.toArray 0)) h'.objs.size us (sortVals (dataKind (sortingHeap (h'.push (seqObj "list" us.toArray 0)) h'.objs.size us) ds) b us us).toArray, toks := tk } := by
    have eo := sortVals_data (h' := sortingHeap (h'.push (seqObj "list" us.toArray 0)) h'.objs.size us) (enc := id) b (hr.each rv) (by simpa using er) (by simpa using hal)
    rw [show ds.map id = ds from by simp] at eo
    obtain ⟨zs, rz, ez⟩ := Each2.back eo
    obtain ⟨ep, he⟩ := PyProof.Rows.sortedHeap_at (h := h'.push (seqObj "list" us.toArray 0)) (vs := us) (out := (sortVals (dataKind (sortingHeap (h'.push (seqObj "list" us.toArray 0)) h'.objs.size us) ds) b us us).toArray) hoL
    have kp2 : ∀ bb o, h'.get? bb = some o → (sortedHeap (h'.push (seqObj "list" us.toArray 0)) h'.objs.size us (sortVals (dataKind (sortingHeap (h'.push (seqObj "list" us.toArray 0)) h'.objs.size us) ds) b us us).toArray).get? bb = some o := fun bb o e => by
      have e1 := e
      have e2 : (h'.push (seqObj "list" us.toArray 0)).get? bb = some o := Heap.get?_push_of_some _ e1
      rw [PyProof.Rows.sortedHeap_old (Nat.ne_of_lt (Heap.lt_size e1)) (Heap.lt_size e2)]
      exact e2
    have hlz : zs.length ≤ sizeLine := by
      rw [ez.length, (List.mergeSort_perm _ _).length_eq, ← hr.length]
      exact hl
    exact ⟨.ref _, upd H h'.objs.size (.lst zs), I1.laid (t' := tk) kp2 (Nat.le_refl _) ⟨hlz, _, ep, rz, he⟩, rfl, q zs _ ez (I1.hok.fresh (Nat.le_refl _))⟩
  refine wpAny_bind (wpAny_holding (wpAny_call_entry_kw slot_list_sort ⟨_, hoL, rfl⟩ entry_list_sort ?_ h2))
  show wpAny (model X.prog X.w) X.A.in1.in1 (Builtin.«list.sort» ⟨[.ref h'.objs.size], kw⟩) _ _ { s with heap := h'.push (seqObj "list" us.toArray 0), toks := tk }
  rw [hb]
  exact list_sort_rev_vals (s := { s with heap := h'.push (seqObj "list" us.toArray 0), toks := tk }) hoL S hlu ⟨_, rfl, wpAny_pure ⟨_, rfl, fin⟩⟩
end
end L2

namespace L2
open PySem PySem.Spec PyProof.Rows
open PySem.W (EachIs AllAlike Sortable SortsAt dataLe)
def SrcOf (K : PySem.W.Frag) (H : Hp) (x : V) (cont : List V → Prop) : Prop :=
  (∃ a ys, x = .ref a ∧ (SqL K H a ys ∨ SqT K H a ys) ∧ cont ys) ∨ (∃ a kvs, x = .ref a ∧ Rd H a (.dK kvs) ∧ cont (kvs.map fun kv => kV kv.1)) ∨
    ∃ a kvs, x = .ref a ∧ Rd H a (.dT kvs) ∧ ∀ bs, IsKeys H kvs bs → cont (bs.map V.ref)
def CSort (K : PySem.W.Frag) (b : Bool) (H : Hp) (Q : VK) (ys : List V) : Prop := ∃ ds R, DpAll K H ys ds ∧ SortOk ds ∧ (∀ d, d ∈ ds → d.depth ≤ 60) ∧ Each2 R ys ds ∧
  ∀ (zs : List V) (p : Addr), Each2 R zs (ds.mergeSort (dataLe b id)) → H p = none → Q (.ref p) (upd H p (.lst zs))
def rSortedG (K : PySem.W.Frag) (b : Bool) : List V → Hp → VK → Prop := fun vs H Q => ∃ x, vs = [x] ∧ SrcOf K H x (CSort K b H Q)
section
variable {X : Cx}
theorem sortedG_run {pins : List (Addr × Obj)} {σ : St} {H : Hp} {s : Shared} {x : V} {u : Value} {b : Bool} {kw : List (Str × Value)} {Q : VK} (hc : X.calm = true) (hu : X.A.units + 65 < cLine) (I : Inv X pins σ H s) (r : RelV x u) (hk : kwB kw b) (ha : ∀ a, argsOk "sorted" ⟨[.ref a], kw⟩)
    (h : SrcOf X.K H x (CSort X.K b H Q)) : wpAny (model X.prog X.w) X.A (call (.builtin "sorted") [u] kw) (EP X pins σ Q) X.xe s := by
  rcases h with ⟨a, ys, rfl, hs, ds, R, h2, h3, h4, h5, q⟩ | ⟨a, kvs, rfl, hd, ds, R, h2, h3, h4, h5, q⟩ | ⟨a, kvs, rfl, hd, hcont⟩
  · obtain rfl : u = Value.ref a := r
    have h1 : ys.length ≤ sizeLine := by
      rcases hs with hs | hs
      · obtain ⟨its, rv, p, hz⟩ := I.list hs
        exact hz
      · obtain ⟨its, rv, _, hz⟩ := I.tuple hs
        exact hz
    refine sorted_coll I hk hu (fun Q1 E hq => ?_) (ha a) h1 h2 h3 h4 h5 q
    rcases hs with hs | hs
    · obtain ⟨its, rv, p, hz⟩ := I.list hs
      obtain ⟨o, ho, hcl, n, hdt⟩ := p.isList
      refine wpAny_collect_seq a (.inl rfl) ho hcl hdt (fun h' kp => ?_) (by rw [List.size_toArray, ← rv.length]; exact hz)
      rw [show its.toArray.toList = its from by simp]
      exact hq h' s.toks its kp rv
    · obtain ⟨its, rv, ⟨o, ho, hcl, n, hdt⟩, hz⟩ := I.tuple hs
      refine wpAny_collect_seq a (.inr rfl) ho hcl hdt (fun h' kp => ?_) (by rw [List.size_toArray, ← rv.length]; exact hz)
      rw [show its.toArray.toList = its from by simp]
      exact hq h' s.toks its kp rv
  · obtain rfl : u = Value.ref a := r
    obtain ⟨z, lo, vs, rk, dd⟩ := dk_rd I.hok hd
    refine sorted_coll I hk hu (fun Q1 E hq => ?_) (ha a) (by rw [List.length_map]; exact z) h2 h3 h4 h5 q
    obtain ⟨ep, hat⟩ := dd.dictAt
    have hl : kvs.length = vs.length := Paired.length rk
    refine PySem.W.kdu_collect (A := X.A.in1) (PySem.W.kdl_dict (knd := mixKind X.prog X.w) (kvs := vs) (ep := ep) lo) (I.ok.hd hc) hat (by rw [← hl]; exact z) fun h' tk acc kp hacc => ?_
    refine hq h' tk _ kp ?_
    have el : acc.toList.length = acc.size := by simp
    refine vals_of_at (by rw [List.length_map, el, hacc.1, hl]) fun j x w q1 q2 => ?_
    obtain ⟨k, y, hky, hi⟩ := hacc.2 j w (by rw [← Array.getElem?_toList]; exact q2)
    have e1 : (kvs.map (·.1))[j]? = some k := by
      rw [KV.keys rk, List.getElem?_map, hky] <;> rfl
    have e2 : (kvs.map fun kv => kV kv.1)[j]? = some (kV k) := by
      have e3 : (kvs.map fun kv => kV kv.1) = (kvs.map (·.1)).map kV := by rw [List.map_map] <;> rfl
      rw [e3, List.getElem?_map, e1] <;> rfl
    rw [e2] at q1
    cases q1
    exact keyIs_rel hi
  · obtain rfl : u = Value.ref a := r
    obtain ⟨hz, hsys, xs, hr, o, es, ep, ho, hx, hdt, hes, hnd⟩ := (show ObjOk X.prog X.w H s.heap a (.dT kvs) from rd_of I.hok hd)
    have hl : kvs.length = xs.length := Paired.length hr
    have hel : es.size = kvs.length := by
      have e1 : es.toList.length = es.size := by simp
      rw [← e1, hes, List.length_map, hl]
    obtain ⟨ds, R, h2, h3, h4, h5, q⟩ := hcont (xs.map fun x => x.2.1) (isKeys_of hr)
    refine sorted_coll I hk hu (fun Q1 E hq => ?_) (ha a) (by rw [List.length_map, List.length_map, ← hl]; exact hz) h2 h3 h4 h5 q
    refine PySem.W.kdu_collect (A := X.A.in1) (kdl_raw hsys hx hdt) (I.ok.hd hc) ho (by rw [hel]; exact hz) fun h' tk acc kp hacc => ?_
    refine hq h' tk _ kp ?_
    have el : acc.toList.length = acc.size := by simp
    refine vals_of_at (by rw [List.length_map, List.length_map, el, hacc.1, hel, hl]) fun j x w q1 q2 => ?_
    obtain ⟨en, hen, rfl⟩ := hacc.2 j w (by rw [← Array.getElem?_toList]; exact q2)
    have e1 : es.toList[j]? = some en := by rw [Array.getElem?_toList]; exact hen
    rw [hes, List.getElem?_map] at e1
    cases e2 : xs[j]? with
    | none => rw [e2] at e1; cases e1
    | some y =>
      rw [e2] at e1
      cases e1
      rw [List.getElem?_map, List.getElem?_map, e2] at q1
      cases q1
      rfl
theorem cr_sortedG (hc : X.calm = true) (hu : X.A.units + 65 < cLine) : CallR X (.builtin "sorted") (rSortedG X.K false) := by
  intro pins s σ H vs us Q I r h
  obtain ⟨x, rfl, h⟩ := h
  obtain ⟨u, rfl, rx⟩ := vals1 r
  exact sortedG_run hc hu I rx (.inl ⟨rfl, rfl⟩) (fun a => args_sorted1 _) h
theorem cr_sortedGR {b : Bool} (hc : X.calm = true) (hu : X.A.units + 65 < cLine) : CallRK X (.builtin "sorted") [Str.ofString "reverse"] (fun vs zs H Q => zs = [.bl b] ∧ rSortedG X.K b vs H Q) := by
  intro pins s σ H vs zs us ws Q I r rz h
  obtain ⟨rfl, x, rfl, h⟩ := h
  obtain ⟨u, rfl, rx⟩ := vals1 r
  obtain ⟨w1, rfl, e1⟩ := vals1 rz
  obtain rfl : w1 = Value.bool b := e1
  exact sortedG_run hc hu I rx (.inr rfl) (fun a => args_sorted_rev _ _) h
end
end L2

namespace Fx
open PySem PySem.Spec L2
open PyProof.Rows hiding St
open PySem.W (AllAlike Sortable dataLe)
section
variable {α : Type} (le : α → α → Bool)
def insB (x : α) : List α → List α
  | [] => [x]
  | y :: r => if le x y then x :: y :: r else y :: insB x r
def srtB : List α → List α
  | [] => []
  | x :: r => insB le x (srtB r)
theorem insB_perm (x : α) : ∀ l : List α, (insB le x l).Perm (x :: l)
  | [] => .refl _
  | y :: r => by
    unfold insB
    split
    · exact .refl _
    · exact ((insB_perm x r).cons y).trans (.swap x y r)
theorem srtB_perm : ∀ l : List α, (srtB le l).Perm l
  | [] => .refl _
  | x :: r => (insB_perm le x _).trans ((srtB_perm r).cons x)
variable (trans : ∀ x y z, le x y = true → le y z = true → le x z = true) (total : ∀ x y, (le x y || le y x) = true)
include trans total
theorem insB_sorted (x : α) : ∀ l : List α, l.Pairwise (fun a b => le a b = true) → (insB le x l).Pairwise (fun a b => le a b = true)
  | [], _ => by simp [insB]
  | y :: r, h => by
    have h1 := List.pairwise_cons.mp h
    unfold insB
    split
    · rename_i hxy
      refine List.pairwise_cons.mpr ⟨fun z hz => ?_, h⟩
      rcases List.mem_cons.mp hz with rfl | hz
      · exact hxy
      · exact trans _ _ _ hxy (h1.1 z hz)
    · rename_i hxy
      refine List.pairwise_cons.mpr ⟨fun z hz => ?_, insB_sorted x r h1.2⟩
      rcases List.mem_cons.mp ((insB_perm le x r).mem_iff.mp hz) with rfl | hz
      · have := total z y
        rw [Bool.or_eq_true] at this
        exact this.resolve_left hxy
      · exact h1.1 z hz
theorem srtB_sorted : ∀ l : List α, (srtB le l).Pairwise (fun a b => le a b = true)
  | [] => .nil
  | x :: r => insB_sorted le trans total x _ (srtB_sorted r)
theorem srtB_merge (antisymm : ∀ x y, le x y = true → le y x = true → x = y) (l : List α) : srtB le l = l.mergeSort le :=
  PySem.W.Srt.the_of_perm le trans total antisymm (srtB_perm le l) (srtB_sorted le trans total l)
end
def leI (b : Bool) (i j : Int) : Bool := if b then decide (j ≤ i) else decide (i ≤ j)
def leL : List Int → List Int → Bool
  | [], _ => true
  | _ :: _, [] => false
  | x :: xs, y :: ys => if x < y then true else if x = y then leL xs ys else false
def leT (b : Bool) (x y : List Int) : Bool := if b then leL y x else leL x y
theorem leL_total : ∀ x y, (leL x y || leL y x) = true
  | [], _ => by simp [leL]
  | _ :: _, [] => by simp [leL]
  | x :: xs, y :: ys => by
    unfold leL
    by_cases h : x < y
    · simp [h]
    · by_cases e : x = y
      · subst e
        simpa using leL_total xs ys
      · have : y < x := by omega
        simp [h, e, this]
theorem leL_trans : ∀ x y z, leL x y = true → leL y z = true → leL x z = true
  | [], _, _, _, _ => by simp [leL]
  | _ :: _, [], _, h, _ => by simp [leL] at h
  | _ :: _, _ :: _, [], _, h => by simp [leL] at h
  | x :: xs, y :: ys, z :: zs, h1, h2 => by
    unfold leL at h1 h2 ⊢
    by_cases a1 : x < y
    · by_cases a2 : y < z
      · have : x < z := by omega
        simp [this]
      · by_cases e2 : y = z
        · subst e2; simp [a1]
        · simp [a2, e2] at h2
    · by_cases e1 : x = y
      · subst e1
        simp at h1
        by_cases a2 : x < z
        · simp [a2]
        · by_cases e2 : x = z
          · subst e2
            simp at h2 ⊢
            exact leL_trans xs ys zs h1 h2
          · simp [a2, e2] at h2
      · simp [a1, e1] at h1
theorem leL_anti : ∀ x y, leL x y = true → leL y x = true → x = y
  | [], [], _, _ => rfl
  | [], _ :: _, _, h => by simp [leL] at h
  | _ :: _, [], h, _ => by simp [leL] at h
  | x :: xs, y :: ys, h1, h2 => by
    unfold leL at h1 h2
    by_cases a1 : x < y
    · have a2 : ¬ y < x := by omega
      have a3 : ¬ y = x := by omega
      simp [a2, a3] at h2
    · by_cases e1 : x = y
      · subst e1
        simp at h1 h2
        rw [leL_anti xs ys h1 h2]
      · simp [a1, e1] at h1
theorem leL_lt : ∀ x y : List Int, leL x y = !decide (y < x)
  | [], y => by simp [leL]
  | x :: xs, [] => by simp [leL]
  | x :: xs, y :: ys => by
    unfold leL
    by_cases a1 : x < y
    · have a2 : ¬ y < x := by omega
      have a3 : ¬ y = x := by omega
      simp [a1, List.cons_lt_cons_iff, a2, a3]
    · by_cases e1 : x = y
      · subst e1
        simp [leL_lt xs ys, List.cons_lt_cons_iff]
      · have a2 : y < x := by omega
        simp [a1, e1, List.cons_lt_cons_iff, a2]
theorem leI_laws (b : Bool) : (∀ x y z, leI b x y = true → leI b y z = true → leI b x z = true) ∧ (∀ x y, (leI b x y || leI b y x) = true) ∧ ∀ x y, leI b x y = true → leI b y x = true → x = y := by
  cases b <;> simp only [leI, Bool.false_eq_true, if_false, if_true, decide_eq_true_eq, Bool.or_eq_true] <;> refine ⟨?_, ?_, ?_⟩ <;> intros <;> omega
theorem leT_laws (b : Bool) : (∀ x y z, leT b x y = true → leT b y z = true → leT b x z = true) ∧ (∀ x y, (leT b x y || leT b y x) = true) ∧ ∀ x y, leT b x y = true → leT b y x = true → x = y := by
  cases b
  · exact ⟨leL_trans, leL_total, leL_anti⟩
  · exact ⟨fun x y z h1 h2 => leL_trans z y x h2 h1, fun x y => leL_total y x, fun x y h1 h2 => leL_anti x y h2 h1⟩
abbrev tI (l : List Int) : PV := .tuple (l.map .int)
theorem dataLe_i (b : Bool) (i j : Int) : dataLe b id (PyData.int i) (PyData.int j) = leI b i j := by
  rw [PySem.W.dataLe_eq]
  cases b <;> simp [leI, PySem.W.dataLt_int, id] <;> (rw [← PySem.W.not_lt_int]; simp)
theorem dataLe_t (b : Bool) (x y : List Int) : dataLe b id (tI x) (tI y) = leT b x y := by
  rw [PySem.W.dataLe_eq]
  have h : ∀ u v : List Int, PySem.W.dataLt (tI u) (tI v) = decide (u < v) := fun u v => by
    rw [PySem.W.dataLt_tuple]
    exact PySem.W.dataLt_ints u v
  cases b <;> simp [leT, h, id, leL_lt]
def tupsOf : List PV → Option (List (List Int))
  | [] => some []
  | .tuple ds :: r => match intsOf ds with
    | some (i :: is) => match tupsOf r with
      | some ls => some ((i :: is) :: ls)
      | none => none
    | _ => none
  | _ :: _ => none
theorem tupsOf_eq : ∀ {ds : List PV} {ls : List (List Int)}, tupsOf ds = some ls → ds = ls.map tI ∧ ∀ l ∈ ls, ∃ i r, l = i :: r
  | [], _, h => by cases h; exact ⟨rfl, fun l hl => by cases hl⟩
  | .tuple es :: r, ls, h => by
    unfold tupsOf at h
    split at h
    · rename_i i is hi
      split at h
      · rename_i ls' hl
        cases h
        obtain ⟨h1, h2⟩ := tupsOf_eq hl
        refine ⟨?_, fun l hl => ?_⟩
        · rw [h1, intsOf_eq hi]; rfl
        · rcases List.mem_cons.mp hl with rfl | hl
          · exact ⟨_, _, rfl⟩
          · exact h2 l hl
      · cases h
    · cases h
def srtG (b : Bool) (xs : List PV) : Option (List PV) := match intsOf xs with
  | some is => some ((srtB (leI b) is).map .int)
  | none => match tupsOf xs with
    | some ls => some ((srtB (leT b) ls).map tI)
    | none => match xs with
      | [.tuple []] => some xs
      | _ => none
theorem srtG_merge {b : Bool} {xs rs : List PV} (h : srtG b xs = some rs) : xs.mergeSort (dataLe b id) = rs ∧ SortOk xs ∧ (∀ d, d ∈ xs → d.depth ≤ 60) ∧ noDicts xs = true := by
  have nI : ∀ is : List Int, noDicts (is.map PyData.int) = true := fun is => by
    induction is with
    | nil => rfl
    | cons i r ih => exact (Bool.and_eq_true _ _).mpr ⟨rfl, ih⟩
  unfold srtG at h
  split at h
  · rename_i is hi
    cases h
    rw [intsOf_eq hi]
    refine ⟨?_, .inl ⟨PySem.W.AllAlike.of fun x y => by simp [PySem.W.alike], PySem.W.Sortable.others fun x => ⟨by simp, by simp⟩⟩, fun d hd => ?_, nI is⟩
    · rw [← List.map_mergeSort (r := leI b) (fun x _ y _ => (dataLe_i b x y).symm), srtB_merge _ (leI_laws b).1 (leI_laws b).2.1 (leI_laws b).2.2]
    · obtain ⟨i, _, rfl⟩ := List.mem_map.mp hd
      simp [PyData.depth]
  · split at h
    · rename_i ls hl
      cases h
      obtain ⟨e, hne⟩ := tupsOf_eq hl
      rw [e]
      refine ⟨?_, .inl ⟨PySem.W.AllAlike.of fun x y => ?_, .inl fun d hd => ?_⟩, fun d hd => ?_, ?_⟩
      · rw [← List.map_mergeSort (r := leT b) (fun x _ y _ => (dataLe_t b x y).symm), srtB_merge _ (leT_laws b).1 (leT_laws b).2.1 (leT_laws b).2.2]
      · show PySem.W.alike (.tuple _) (.tuple _) = true
        rw [PySem.W.alike]
        exact PySem.W.alike_ints _ _
      · obtain ⟨l, hl, rfl⟩ := List.mem_map.mp hd
        obtain ⟨i, r, rfl⟩ := hne l hl
        exact ⟨.int i, r.map .int, rfl⟩
      · obtain ⟨l, hl, rfl⟩ := List.mem_map.mp hd
        simp [PyData.depth, PySem.W.depth_ints]
      · clear e hl hne
        induction ls with
        | nil => rfl
        | cons l r ih =>
          refine (Bool.and_eq_true _ _).mpr ⟨?_, ih⟩
          show noDict (.tuple (l.map .int)) = true
          simpa [noDict] using nI l
    · split at h
      · cases h
        refine ⟨by simp [List.mergeSort], .inr rfl, fun d hd => ?_, rfl⟩
        rw [List.mem_singleton.mp hd]
        simp [PyData.depth, PyData.depthAll]
      · cases h
theorem reps_of2 {K : PySem.W.Frag} {F : Hp} : ∀ {zs : List V} {ds : List PV}, Each2 (Rep K F) zs ds → Reps K F zs ds
  | _, _, .nil => .nil
  | _, _, .cons r t => .cons r (reps_of2 t)
theorem Reps.each2 {K : PySem.W.Frag} {F : Hp} : ∀ {zs : List V} {ds : List PV}, Reps K F zs ds → Each2 (Rep K F) zs ds
  | _, _, .nil => .nil
  | _, _, .cons r t => .cons r (Reps.each2 t)
theorem csort_of {K : PySem.W.Frag} {F H : Hp} {b : Bool} {Q : VK} {ys : List V} {xs rs : List PV} (sF : Same F H) (h : srtG b xs = some rs) (r : Reps K F ys xs) (q : ∀ zs p, Reps K F zs rs → H p = none → Q (.ref p) (upd H p (.lst zs))) : CSort K b H Q ys := by
  obtain ⟨h1, h2, h3, h4⟩ := srtG_merge h
  exact ⟨xs, Rep K F, r.dp sF h4, h2, h3, r.each2, fun zs p hz hp => q zs p (by rw [← h1]; exact reps_of2 hz) hp⟩
/-- the keys of a dict as values -/
def keysD (ps : List (PV × PV)) : List PV := ps.map (·.1)
def pSortG (b : Bool) : List PV → Option PV
  | [.list xs] => (srtG b xs).map .list
  | [.tuple xs] => (srtG b xs).map .list
  | [.dict ((.none, .none) :: ps)] => (srtG b (keysD ps)).map .list
  | [.dict ps] => match intsOf (keysD ps) with
    | some is => some (.list ((srtB (leI b) is).map .int))
    | none => none
  | _ => none
theorem kD_rel {K : PySem.W.Frag} {F : Hp} (k : Key) : Rep K F (kV k) (kD k) := by
  cases k with
  | inl i => exact .int i
  | inr x => exact .str x
theorem RepK.keys {K : PySem.W.Frag} {F : Hp} : ∀ {kvs : List (Key × V)} {ds : List (PV × PV)}, RepK K F kvs ds → Reps K F (kvs.map fun kv => kV kv.1) (keysD ds)
  | _, _, .nil => .nil
  | _, _, .cons _ t => .cons (kD_rel _) (RepK.keys t)
/-- the key tuples are frozen -/
theorem freeze_keys {T : List Addr} {K : PySem.W.Frag} {g : Gh} {H : Hp} {σ : St} {env : Ev} : ∀ {kvs : List (List Key × V)} {ds : List (PV × PV)} {bs : List Addr} {F F0 : Hp}, RepT K F0 kvs ds → IsKeys H kvs bs → Rel T K g F H σ env →
    ∃ F', Rel T K g F' H σ env ∧ Same F F' ∧ Reps K F' (bs.map V.ref) (keysD ds)
  | [], _, _, F, _, .nil, .nil, R => ⟨F, R, Same.refl _, .nil⟩
  | _ :: _, _, b :: _, F, F0, .cons (k := k) _ t, .cons hb tb, R => by
    have hb : H b = some (.tup (k.map kV)) := hb
    have one : ∃ F1, Rel T K g F1 H σ env ∧ Same F F1 ∧ F1 b = some (.tup (k.map kV)) := by
      cases hF : F b with
      | none =>
        obtain ⟨R1, s1⟩ := R.frozeT hF hb
        exact ⟨_, R1, s1, upd_same⟩
      | some o =>
        have := R.sub b o hF
        rw [hb] at this
        cases this
        exact ⟨F, R, Same.refl _, hF⟩
    obtain ⟨F1, R1, s1, e1⟩ := one
    obtain ⟨F2, R2, s2, r2⟩ := freeze_keys t tb R1
    have rk : ∀ k : List Key, Reps K F2 (k.map kV) (k.map kD) := fun k => by
      induction k with
      | nil => exact .nil
      | cons x r ih => exact .cons (kD_rel x) ih
    exact ⟨F2, R2, s1.trans s2, .cons (.tup (.inl (s2 _ _ e1)) (rk k)) r2⟩
section
variable {T : List Addr} {X : Cx}
theorem Rep.isDki {K : PySem.W.Frag} {F : Hp} {v : V} {ps : List (PV × PV)} {is : List Int} (h : Rep K F v (.dict ps)) (hi : intsOf (keysD ps) = some is) : ∃ a kvs, v = .ref a ∧ F a = some (.dK kvs) ∧ RepK K F kvs ps := by
  generalize e : PyData.dict ps = d at h
  cases h with
  | dk h r => cases e; exact ⟨_, _, rfl, h, r⟩
  | dt h r => cases e; cases hi
  | lk h r => cases e; cases hi
  | _ => cases e
theorem srtG_ints {b : Bool} {xs : List PV} {is : List Int} (h : intsOf xs = some is) : srtG b xs = some ((srtB (leI b) is).map .int) := by
  unfold srtG
  rw [h]
theorem cn_sortG {K : PySem.W.Frag} {b : Bool} : CallN T K (rSortedG K b) (pSortG b) := by
  intro gh F H σ env xs ds d Q R r e q
  have fin : ∀ {F1 : Hp} {rs : List PV}, Rel T K gh F1 H σ env → Same F F1 → d = .list rs → ∀ (zs : List V) (p : Addr), Reps K F1 zs rs → H p = none → Q (.ref p) (upd H p (.lst zs)) := fun {F1 rs} R1 s1 ed zs p hz hp => by
    obtain ⟨h0, nT, hF⟩ := R1.fresh hp
    subst ed
    exact q p _ F1 (R1.laid hp) s1 hF h0 (R1.own_ne hp) (.lst upd_same hz)
  unfold pSortG at e
  split at e
  · obtain ⟨rs, hs, rfl⟩ := Option.map_eq_some_iff.mp e
    cases r with
    | cons r1 r2 =>
      cases r2
      cases r1 with
      | lst h rr => exact ⟨_, rfl, .inl ⟨_, _, rfl, .inl (.inl (.inl (R.sub _ _ h))), csort_of R.sub hs rr (fin R (Same.refl _) rfl)⟩⟩
  · obtain ⟨rs, hs, rfl⟩ := Option.map_eq_some_iff.mp e
    cases r with
    | cons r1 r2 =>
      cases r2
      cases r1 with
      | tup h rr => exact ⟨_, rfl, .inl ⟨_, _, rfl, .inr (SqT.mono R.sub (sqT h)), csort_of R.sub hs rr (fin R (Same.refl _) rfl)⟩⟩
  · obtain ⟨rs, hs, rfl⟩ := Option.map_eq_some_iff.mp e
    cases r with
    | cons r1 r2 =>
      cases r2
      obtain ⟨a, kvs, rfl, hd, rt⟩ := r1.isDt
      refine ⟨_, rfl, .inr (.inr ⟨_, _, rfl, .inl (R.sub _ _ hd), fun bs hb => ?_⟩)⟩
      obtain ⟨F2, R2, s2, rk⟩ := freeze_keys rt hb R
      exact csort_of R2.sub hs rk (fin R2 s2 rfl)
  · split at e
    · rename_i is hi
      cases e
      cases r with
      | cons r1 r2 =>
        cases r2
        obtain ⟨a, kvs, rfl, hd, rt⟩ := r1.isDki hi
        exact ⟨_, rfl, .inr (.inl ⟨_, _, rfl, .inl (R.sub _ _ hd), csort_of R.sub (srtG_ints hi) rt.keys (fin R (Same.refl _) rfl)⟩)⟩
    · cases e
  · cases e
theorem fn_sortG {p pos : Pos} {a : Expr} {f : AF} (hc : X.calm = true) (hu : X.A.units + 65 < cLine) (hm : X.mg "sorted" = none) (ha : FA T X [a] f) (hg : Gl X "sorted" := by rfl) (hv : bootBuiltins "sorted" = some (.builtin "sorted") := by decide +kernel)
    (he : starEach [a] X.env = (false, eval a X.env) :: starEach [] X.env := by rfl) : FN T X (.Call (.Name "sorted" p) [a] [] pos) (callF (pSortG false) f) :=
  fn_callB (cr_sortedG hc hu) cn_sortG hg hm hv ha (he := he)
theorem rn_sortR {K : PySem.W.Frag} {b : Bool} {f : AF} : ∀ σ H Q, RN T K (callF (pSortG b) f) σ H Q → tCKw (fun vs zs H Q => zs = [.bl b] ∧ rSortedG K b vs H Q) (RA T K f) (tCons (tC (.bl b)) tNil) σ H Q := by
  intro σ H Q h
  obtain ⟨gh, F, env, d, env', R, e, q⟩ := h
  unfold callF at e
  split at e
  · cases e
  · rename_i ds e1 ef
    split at e
    · cases e
    · rename_i d' eg
      cases e
      exact ⟨gh, F, env, _, _, R, ef, fun vs H1 F1 R1 s1 r1 => ⟨rfl, cn_sortG gh F1 H1 σ _ vs ds _ Q R1 r1 eg fun a H2 F2 R2 s2 => q a H2 F2 R2 (s1.trans s2)⟩⟩
theorem fn_sortGR {b : Bool} {p pos kpos cpos : Pos} {j : Nat} {a : Expr} {f : AF} (hc : X.calm = true) (hu : X.A.units + 65 < cLine) (hm : X.mg "sorted" = none) (ha : FA T X [a] f) (hg : Gl X "sorted" := by rfl) (hv : bootBuiltins "sorted" = some (.builtin "sorted") := by decide +kernel)
    (he : backTo pos (starEach [a] X.env) = (false, eval a X.env) :: backTo pos (starEach [] X.env) := by rfl) (hpl : (backTo pos (starEach [a] X.env)).any (·.1) = false := by rfl) : FN T X (.Call (.Name "sorted" p) [a] [⟨some "reverse", .Constant (.bool b) j cpos, kpos⟩] pos) (callF (pSortG b) f) :=
  (pe_callBK (cr_sortedGR hc hu) hg hm hv ha (pk_cons pe_bl pk_nil) (he := he) (hpl := hpl)).weak rn_sortR
end
end Fx

namespace Fx
open PySem PySem.Spec L2
open PyProof.Rows hiding St
section
variable {T : List Addr} {X : Cx}
def sNo : SF := fun _ => none
theorem fs_none {st : Stmt} : FS T X st sNo := ⟨fun pins s σ H D I h => by
  obtain ⟨_, _, _, _, _, e, _⟩ := h
  cases e⟩
end
end Fx

namespace PySem.AutoSeq1
set_option maxRecDepth 8000 in
theorem list_extend_list_tupS (l : Addr) (items : Array Value) (n : Nat) (b : Addr) (items2 : Array Value) (n2 : Nat) (o : Obj) (hcl : o.cls = .type "tuple") (hdt : o.data = .seq items2 n2) (hs0 : ¬(!items.isEmpty && Builtin.List.listTooLong (items.size + items2.size)) = true) (hs1 : items.size ≤ sizeLine) (hs2 : items.size + items2.size ≤ sizeLine + 1) :
    Meets (Builtin.«list.extend» ⟨[.ref l, .ref b], []⟩) (fun _ R s => s.heap.get? l = some { cls := .type "list", dict := none, data := .seq items n, slots := #[] } ∧ s.heap.get? b = some o ∧ R (.ok (.ret Value.none)) { s with heap := s.heap.update l (Obj.mapSeq fun x => x ++ items2), toks := s.toks }) :=
  .of_wp fun prog w A R s h => by
    obtain ⟨hp, g, d, tk, os⟩ := s; obtain ⟨hl, hb, h⟩ := h
    obtain ⟨c, dd, da, sl⟩ := o
    cases hcl; cases hdt
    have f1 := idx_int; have f2 := sub_tuple_tuple; have f3 := sub_list_list; have f4 := sub_tuple_list; have f5 := sub_list_tuple
    have hz' : (items ++ items2).size ≤ sizeLine + 1 := by rw [Array.size_append]; exact hs2
    wp_walk using (wpAny_updateSeq hl rfl (hz := hs1) (_hz' := hz')), wpAny_loadPart' hl, wpAny_loadPart' hb; exact ⟨_, rfl, h⟩
end PySem.AutoSeq1
namespace Fx
open PySem PySem.Spec L2
open PyProof.Rows hiding St
section
variable {T : List Addr} {X : Cx}
def rExtendT (K : PySem.W.Frag) : V → List V → Hp → VK → Prop := fun x vs H Q => ∃ l b xs zs, x = .ref l ∧ vs = [.ref b] ∧ H l = some (.lst xs) ∧ SqT K H b zs ∧ xs.length + zs.length ≤ sizeLine ∧ Q .non (upd H l (.lst (xs ++ zs)))
theorem mt_extendT : MtM X "list.extend" (rExtendT X.K) := by
  intro pins s σ H x vs v us Q I rx rv h
  obtain ⟨l, b, xs, zs, rfl, rfl, hH, hB, hz, q⟩ := h
  cases rx
  obtain ⟨u, rfl, ru⟩ := rv.one
  cases ru
  obtain ⟨z, its, n, r, hl, e⟩ := I.lstM hH
  obtain ⟨its2, r2, ⟨o, ho, hcl, n2, hdt⟩, hl2⟩ := I.tuple hB
  have hl3 := r2.length
  have hsz : its.toArray.size + its2.toArray.size ≤ sizeLine := by rw [List.size_toArray, List.size_toArray]; omega
  have hlong : ¬ (!its.toArray.isEmpty && Builtin.List.listTooLong (its.toArray.size + its2.toArray.size)) = true := by
    rw [notLongL hsz, Bool.and_false]
    exact Bool.false_ne_true
  refine call_meets F.slot_list_extend ⟨_, e, rfl⟩ F.entry_list_extend (F.args_list_extend_2 _ _)
    (AutoSeq1.list_extend_list_tupS l its.toArray n b its2.toArray n2 o hcl hdt hlong (by rw [List.size_toArray]; omega) (by omega)) ⟨e, ho, ?_⟩
  refine ⟨.non, _, I.lset (its' := its ++ its2) hH e (by simp) (r.append r2) ?_, rfl, q⟩
  rw [List.length_append]
  omega
def rExtendA (K : PySem.W.Frag) : V → List V → Hp → VK → Prop := fun x vs H Q => rExtend x vs H Q ∨ rExtendT K x vs H Q
theorem mt_extendA : MtM X "list.extend" (rExtendA X.K) := by
  intro pins s σ H x vs v us Q I rx rv h
  rcases h with h | h
  · exact mt_extend _ _ _ _ _ _ _ _ _ I rx rv h
  · exact mt_extendT _ _ _ _ _ _ _ _ _ I rx rv h
/-- x.extend(e), e a list or a tuple -/
def extendA (i : Nat) (f : EF) : EF := fun env => match isL env i with
  | false => none
  | true => match f env with
    | some (.list zs, e) => match Fx.mine e i with
      | some (.list ds) => if ds.length + zs.length ≤ sizeLine then some (.none, putM e i (.list (ds ++ zs))) else none
      | _ => none
    | some (.tuple zs, e) => match Fx.mine e i with
      | some (.list ds) => if ds.length + zs.length ≤ sizeLine then some (.none, putM e i (.list (ds ++ zs))) else none
      | _ => none
    | _ => none
theorem fe_extendA (i : Nat) {x : Str} {px apos cpos : Pos} {a : Expr} {f : EF} (ha : FE T X a f) (hN : X.N[i]? = some x := by rfl) (hv : Vis X.env.scope x := by first | exact Or.inl rfl | exact Or.inr (Or.inl rfl) | exact Or.inr (Or.inr rfl))
    (hd : (x == ("__debug__" : Str)) = false := by decide) (hcd : (x == ("__classdict__" : Str)) = false := by decide) (hbase : attributeBase (.Name x px) "extend" X.env (eval (.Name x px) X.env) = eval (.Name x px) X.env := by rfl)
    (hfew : ((backTo cpos (starEach [a] X.env)).all (fun x => !x.1) && (backToKw cpos (keywordEach [] X.env)).all (fun x => x.1.isSome) && decide ([a].length + ([] : List Keyword).length + (if ([] : List Keyword).isEmpty then 0 else 1) < 30)) = true := by rfl)
    (hline : (apos.endLine == cpos.line) = true := by rfl) (hs : starEach [a] X.env = (false, eval a X.env) :: starEach [] X.env := by rfl) (hplain : (backTo cpos (starEach [] X.env)).any (·.1) = false := by rfl) :
    FE T X (.Call (.Attribute (.Name x px) "extend" apos) [a] [] cpos) (extendA i f) :=
  (pe_bm PySem.F.plainAttrs_list PySem.F.slot_list_extend PySem.F.type_list_extend mt_extendA (pe_var hN hv hd hcd) (pa_cons ha pa_nil hs) hbase hfew hline hs hplain).weak fun σ H Q ⟨gh, F, env, d, env', R, e, q⟩ => by
    unfold extendA at e
    split at e
    · cases e
    · rename_i hl
      obtain ⟨ds0, h0⟩ := isL_eq hl
      obtain ⟨p, ep, _, ho, _⟩ := R.mine h0
      obtain ⟨xs0, hx0, _⟩ := ho.isLst
      refine ⟨.ref p, ep, .inl ⟨rfl, xs0, .inl (.inl hx0)⟩, ?_⟩
      split at e
      · rename_i zs e1 ef
        refine ⟨gh, F, env, _, _, R, ef, fun y H1 F1 R1 s1 r1 => ?_⟩
        split at e
        · rename_i ds h1
          split at e
          · rename_i hlen
            cases e
            obtain ⟨p', ep', hF1, ho1, upd1⟩ := R1.mine h1
            rw [ep] at ep'; cases ep'
            obtain ⟨xs, hx, rr⟩ := ho1.isLst
            cases r1 with
            | lst hb rb =>
              refine .inl ⟨p, _, xs, _, rfl, rfl, hx, R1.sub _ _ hb, by rw [rr.len, rb.len]; exact hlen, ?_⟩
              exact q _ _ F1 (upd1 _ _ (.lst upd_same (rr.append rb))) s1 .non
          · cases e
        · cases e
      · rename_i zs e1 ef
        refine ⟨gh, F, env, _, _, R, ef, fun y H1 F1 R1 s1 r1 => ?_⟩
        split at e
        · rename_i ds h1
          split at e
          · rename_i hlen
            cases e
            obtain ⟨p', ep', hF1, ho1, upd1⟩ := R1.mine h1
            rw [ep] at ep'; cases ep'
            obtain ⟨xs, hx, rr⟩ := ho1.isLst
            cases r1 with
            | tup hb rb =>
              refine .inr ⟨p, _, xs, _, rfl, rfl, hx, SqT.mono R1.sub (sqT hb), by rw [rr.len, rb.len]; exact hlen, ?_⟩
              exact q _ _ F1 (upd1 _ _ (.lst upd_same (rr.append rb))) s1 .non
          · cases e
        · cases e
      · cases e
end
end Fx

namespace SL
open PySem PySem.Spec PyProof.Rows
section
variable {K : Type} [DecidableEq K]
def putN (acc : List K) (k : K) : List K := if k ∈ acc then acc else acc ++ [k]
/-- the keys as they are first met -/
def nubs (l : List K) : List K := l.foldl putN []
theorem nubs_snoc (l : List K) (k : K) : nubs (l ++ [k]) = putN (nubs l) k := by unfold nubs; rw [List.foldl_append]; rfl
theorem mem_putN {acc : List K} {k x : K} : x ∈ putN acc k ↔ x ∈ acc ∨ x = k := by
  unfold putN
  split
  · rename_i h
    exact ⟨.inl, fun z => z.elim id fun e => e ▸ h⟩
  · simp
theorem len_putN {acc : List K} {k : K} : (putN acc k).length = if k ∈ acc then acc.length else acc.length + 1 := by
  unfold putN
  split <;> simp
theorem nubs_le (l : List K) : (nubs l).length ≤ l.length := by
  have : ∀ (l acc : List K), (l.foldl putN acc).length ≤ acc.length + l.length := fun l => by
    induction l with
    | nil => intro acc; simp
    | cons k r ih =>
      intro acc
      have h1 := ih (putN acc k)
      have h2 : (putN acc k).length ≤ acc.length + 1 := by rw [len_putN]; split <;> omega
      rw [List.foldl_cons, List.length_cons]
      omega
  have z := this l []
  rw [List.length_nil, Nat.zero_add] at z
  exact z
variable {prog : Program} {w : World} (knd : KeyKind prog w K)
def SetAt (h : Heap) (S : Addr) (l : List K) : Prop := h.SetOf knd S (fun k => decide (k ∈ nubs l)) (nubs l).length
variable {knd}
theorem SetAt.keep {h h' : Heap} {S : Addr} {l : List K} (x : SetAt knd h S l) (e : ∀ o, h.get? S = some o → h'.get? S = some o) : SetAt knd h' S l := by
  obtain ⟨o, es, ep, t, ho, r⟩ := x
  exact ⟨o, es, ep, t, e o ho, r⟩
theorem SetAt.snoc {h : Heap} {S : Addr} {l : List K} {k : K} (x : h.SetOf knd S (fun q => decide (q ∈ nubs l) || decide (q = k)) (if decide (k ∈ nubs l) = true then (nubs l).length else (nubs l).length + 1)) : SetAt knd h S (l ++ [k]) := by
  unfold SetAt
  rw [nubs_snoc, len_putN]
  have e : (fun q => decide (q ∈ nubs l) || decide (q = k)) = fun q => decide (q ∈ putN (nubs l) k) := funext fun q => by
    by_cases h1 : q ∈ nubs l <;> by_cases h2 : q = k <;> simp [mem_putN, h1, h2]
  rw [e] at x
  simpa using x
end
section
variable {K : Type} [DecidableEq K] {prog : Program} {w : World} {knd : KeyKind prog w K} {A : Around} {R : Result → Shared → Prop} {I : Addr} {fp wr : List Addr} {G : Array GenState → Array GenState → Prop} {n : Nat} {P : Nat → Value → Prop} {St : Nat → Shared → Prop}
theorem add_all (W : WalksS prog w A.in1 I fp wr G n P St) {S : Addr} (hS : S ∉ fp) {ks : List K} (hl : ks.length = n) (hP : ∀ i v, P i v → ∃ k, ks[i]? = some k ∧ knd.is k v = true ∧ v.scannable = true) (hn : n + 1 < scanBound) :
    ∀ (m i : Nat) (s : Shared), i + m = n → St i s → SetAt knd s.heap S (ks.take i) → (∀ s', Moved (S :: wr) G s s' → SetAt knd s'.heap S ks → R (.ok (.ret .none)) s') → codeAny (model prog w) A (.builtin "set.update.loop" ⟨[.ref S, .ref I], []⟩) R s
  | 0, i, s, hi, st, x, r => by
    have hin : i = n := by omega
    rw [hin] at st x
    rw [List.take_of_length_le (Nat.le_of_eq hl)] at x
    refine codeAny_builtin PyProof.Rows.F.entry_set_update_loop ?_
    rw [Around.under_plainId PyProof.Rows.F.plain_set_update_loop _]
    show wpAny _ A.in1 (pyNext (.ref I) >>= _) _ _ s
    refine wpAny_bind (W.done s _ _ st fun s1 mv => ?_)
    have z := r s1 (mv.mono fun b hb => .tail _ hb) (x.keep fun o e => mv.heap S o (fun q => hS (W.sub _ q)) e)
    exact (show wpAny _ A.in1 (ret Value.none) _ _ s1 from wpAny_pure z)
  | m + 1, i, s, hi, st, x, r => by
    refine codeAny_builtin PyProof.Rows.F.entry_set_update_loop ?_
    rw [Around.under_plainId PyProof.Rows.F.plain_set_update_loop _]
    show wpAny _ A.in1 (pyNext (.ref I) >>= _) _ _ s
    refine wpAny_bind (W.item i s _ _ (by omega) st fun v s1 pv st1 mv => ?_)
    obtain ⟨k, hk, hv, hsc⟩ := hP i v pv
    have x1 : SetAt knd s1.heap S (ks.take i) := x.keep fun o e => mv.heap S o (fun q => hS (W.sub _ q)) e
    have et : ks.take (i + 1) = ks.take i ++ [k] := by rw [List.take_add_one, hk]; rfl
    show wpAny _ A.in1 (holding [v] (setAdd S v) >>= _) _ _ s1
    refine wpAny_bind (wpAny_holding ?_)
    unfold setAdd
    refine wpAny_holding (wpAny_bind (knd.pyHash hv ?_))
    have room : (nubs (ks.take i)).length + 1 < scanBound := by
      have := nubs_le (ks.take i)
      rw [List.length_take] at this
      omega
    refine wpAny_setAddHashed_of (s := { s1 with toks := s1.toks + 1 }) hv hsc x1 room fun h2 but x2 => ?_
    have x3 : SetAt knd h2 S (ks.take (i + 1)) := by rw [et]; exact SetAt.snoc x2
    refine wpAny_pure ⟨plainId_quiet PyProof.Rows.F.plain_set_update_loop _, add_all W hS hl hP hn m (i + 1) _ (by omega) (W.frame _ s1 _ _ st1 (Nat.le_succ _) fun b hb o e => ?_) x3 fun s4 mv4 x4 => r s4 (Moved.trans W.gtrans ((mv.mono fun b hb => .tail _ hb).then_heap (Nat.le_succ _) fun b o hb e => ?_) mv4) x4⟩
    · exact (but.2 b fun q : b = S => hS (q ▸ hb)).trans e
    · exact (but.2 b fun q : b = S => hb (q ▸ .head _)).trans e
end
section
variable {K : Type} [DecidableEq K] {prog : Program} {w : World} {knd : KeyKind prog w K} {A : Around} {E : Value → Shared → Prop} {s : Shared}
def eSet (led : Bool) : Obj := { cls := .type "set", dict := none, data := .set #[] 0 (.fresh 0 0 led) }
/-- what set(x) leaves -/
def Made (knd : KeyKind prog w K) (ks : List K) (s s2 : Shared) : Prop := ∃ h' tk, s2 = { s with heap := h', toks := tk } ∧ SetAt knd h' s.heap.objs.size ks ∧ ∀ b o, b < s.heap.objs.size → s.heap.get? b = some o → h'.get? b = some o
def Init (knd : KeyKind prog w K) (A : Around) (E : Value → Shared → Prop) (ks : List K) (x : Value) (s : Shared) : Prop := ∀ led : Bool, wpAny (model prog w) A.in1.in1 (Builtin.«set.__init__» ⟨[Value.ref s.heap.objs.size] ++ [x], []⟩)
    (fun f s' => match f with
      | .done f => wants (fun r s2 => r = .none ∧ Made knd ks s s2) E (.ok f) s'
      | .again c => c.quiet = true ∧ codeAny (model prog w) A.in1 c (wants (fun r s2 => r = .none ∧ Made knd ks s s2) E) s')
    (fun e s' => wants (fun r s2 => r = .none ∧ Made knd ks s s2) E (.error e) s') { s with heap := s.heap.push (eSet led) }
theorem mk_set {x : Value} {ks : List K} {Q : Value → Shared → Prop} (src : Init knd A E ks x s)
    (h : ∀ h' tk, SetAt knd h' s.heap.objs.size ks → (∀ b o, b < s.heap.objs.size → s.heap.get? b = some o → h'.get? b = some o) → Q (.ref s.heap.objs.size) { s with heap := h', toks := tk }) :
    wpAny (model prog w) A (call (.type "set") [x]) Q E s := by
  obtain ⟨c, tl, hmro⟩ := PySem.F.called_set.mro
  have q1 := PySem.F.called_set.made
  have q2 := PySem.F.called_set.sub
  have q3 := PySem.F.called_set.notType
  have q4 := PySem.F.called_set.canCreate
  have q5 := PySem.F.typeCall_set_1 x
  refine wpAny_call (codeAny_of_tree (show wpAny _ _ (callAny (.type "set") _) _ _ _ from wpAny_pure ⟨Code.quiet_builtin _ (by decide +kernel), codeAny_builtin PySem.F.entry_type_call ?_⟩))
  rw [Around.under_plain (weight_type_call_type "set" [x] []) rfl]
  repeat (any_goals (first | assumption | wp_step))
  refine codeAny_mono (code_set_new_1 x (E := E) (Q₁ := fun obj s1 => ∃ led : Bool, obj = .ref s.heap.objs.size ∧ s1 = { s with heap := s.heap.push (eSet led) }) fun led => ⟨led, rfl, rfl⟩) fun r s1 hr => ?_
  cases r with
  | error e => exact hr
  | ok fl =>
    cases fl with
    | ret obj =>
      obtain ⟨led, rfl, rfl⟩ := hr
      have g : (s.heap.push (eSet led)).get? s.heap.objs.size = some (eSet led) := Heap.get?_push_size _ rfl
      have ty : Shared.TypeIs { s with heap := s.heap.push (eSet led) } (.ref s.heap.objs.size) "set" := ⟨_, g, rfl⟩
      have q6 := PySem.F.called_set.init.lookup
      have q7 := PySem.F.called_set.init.bind (.ref s.heap.objs.size)
      repeat (any_goals (first | assumption | wp_step))
      refine codeAny_mono (codeAny_call_builtin (R := wants (fun r s2 => r = .none ∧ Made knd ks s s2) E) PySem.F.called_set.init.plain PySem.F.entry_set_init (check_set_init_1 ty ?_)) fun r2 s2 hr2 => ?_
      · exact src led
      · cases r2 with
        | error e => exact hr2
        | ok fl2 =>
          cases fl2 with
          | ret r =>
            obtain ⟨rfl, h', tk, rfl, a1, a2⟩ := hr2
            repeat (any_goals (first | assumption | wp_step))
            exact h _ _ a1 a2
          | _ => exact hr2.elim
    | _ => exact hr.elim
theorem made_of {ks : List K} {led : Bool} {o : Obj} {s1 : Shared} (mv : Moved (s.heap.objs.size :: [s.heap.objs.size + 1]) (fun a b => b = a) { s with heap := (s.heap.push (eSet led)).push o } s1) (x : SetAt knd s1.heap s.heap.objs.size ks) : Made knd ks s s1 := by
  obtain ⟨hp, ge, dr, tk, os⟩ := s1
  have e1 : ge = s.gens := mv.gens
  have e2 : dr = s.drawn := mv.drawn
  have e3 : os = s.os := mv.os
  refine ⟨hp, tk, by rw [e1, e2, e3], x, fun b o2 hb e => mv.heap b o2 (fun q => ?_) (Heap.get?_push_of_some _ (Heap.get?_push_of_some _ e))⟩
  rcases List.mem_cons.mp q with q | q
  · exact absurd q (Nat.ne_of_lt hb)
  · exact absurd (List.mem_singleton.mp q) (Nat.ne_of_lt (Nat.lt_succ_of_lt hb))
theorem fresh_at {led : Bool} {o : Obj} : SetAt knd ((s.heap.push (eSet led)).push o) s.heap.objs.size [] :=
  (PyProof.Rows.setObjOf_fresh (knd := knd) led).setOf (Heap.get?_push_of_some _ (Heap.get?_push_size _ rfl)) (by unfold scanBound; omega)
theorem init_list {l : Addr} {its : Array Value} {ks : List K} (hh : A.handled = none) (hl : s.heap.IsList l its) (hk : ks.length = its.size) (hP : ∀ (i : Nat) (v : Value), its[i]? = some v → ∃ k, ks[i]? = some k ∧ knd.is k v = true ∧ v.scannable = true) (hn : its.size + 1 < scanBound) : Init knd A E ks (.ref l) s := fun led => by
  obtain ⟨⟨oc, od, da, sl⟩, hol, hcl, nl, hdl⟩ := hl
  cases hcl
  cases hdl
  have up := Heap.get?_push_of_some (eSet led) hol
  have f1 := PySem.F.sub_list_set
  have f2 := PySem.F.sub_list_frozenset
  have f3 : (Value.type "list" == Value.type "dict") = false := by decide
  have L1 : (s.heap.push (eSet led)).IsList l its := ⟨_, up, rfl, nl, rfl⟩
  have lt : l < s.heap.objs.size := Heap.lt_size hol
  have hz : (s.heap.push (eSet led)).objs.size = s.heap.objs.size + 1 := Heap.size_push ..
  unfold Builtin.«set.__init__» noKeywords Builtin.Frozenset.updateFrom
  generalize hPI : pyIter = PI
  wp_walk
  subst hPI
  refine wpAny_pyIter_list L1 (wpAny_bind (wpAny_runValue ?_))
  have W := Walks.list (prog := prog) (w := w) (A := A.in1.in1.in1) (by simp [hh]) (s.heap.push (eSet led)).objs.size l (by rw [hz]; exact Nat.ne_of_lt (Nat.lt_succ_of_lt lt)) its
  refine add_all W.toS (S := s.heap.objs.size) (fun z => (List.mem_cons.mp z).elim (fun z => Nat.ne_of_lt (Nat.lt_succ_self _) (z.trans hz)) fun z => Nat.ne_of_lt lt (List.mem_singleton.mp z).symm) hk hP hn its.size 0 _ (Nat.zero_add _) ⟨⟨_, Heap.get?_push_size _ rfl, rfl, rfl⟩, L1.push _⟩ fresh_at fun s1 mv x1 => ?_
  rw [hz] at mv
  show wpAny _ _ _ _ _ _
  exact wpAny_pure (show wpAny _ _ (ret Value.none) _ _ _ from wpAny_pure ⟨rfl, made_of mv x1⟩)
theorem init_tup {l : Addr} {its : Array Value} {ks : List K} (hh : A.handled = none) (hl : s.heap.IsTuple l its) (hk : ks.length = its.size) (hP : ∀ (i : Nat) (v : Value), its[i]? = some v → ∃ k, ks[i]? = some k ∧ knd.is k v = true ∧ v.scannable = true) (hn : its.size + 1 < scanBound) : Init knd A E ks (.ref l) s := fun led => by
  obtain ⟨⟨oc, od, da, sl⟩, hol, hcl, nl, hdl⟩ := hl
  cases hcl
  cases hdl
  have up := Heap.get?_push_of_some (eSet led) hol
  have f3 : (Value.type "tuple" == Value.type "dict") = false := by decide
  have L1 : (s.heap.push (eSet led)).IsTuple l its := ⟨_, up, rfl, nl, rfl⟩
  have lt : l < s.heap.objs.size := Heap.lt_size hol
  have hz : (s.heap.push (eSet led)).objs.size = s.heap.objs.size + 1 := Heap.size_push ..
  have f1 : isSubtype (.type "tuple") (.type "set") = pure false := by rw [isSubtype_type]; kernel_rfl
  have f2 : isSubtype (.type "tuple") (.type "frozenset") = pure false := by rw [isSubtype_type]; kernel_rfl
  unfold Builtin.«set.__init__» noKeywords Builtin.Frozenset.updateFrom
  generalize hPI : pyIter = PI
  wp_walk
  subst hPI
  refine wpAny_pyIter_tuple L1 (wpAny_bind (wpAny_runValue ?_))
  have W := Walks.tuple (prog := prog) (w := w) (A := A.in1.in1.in1) (by simp [hh]) (s.heap.push (eSet led)).objs.size l (by rw [hz]; exact Nat.ne_of_lt (Nat.lt_succ_of_lt lt)) its
  refine add_all W.toS (S := s.heap.objs.size) (fun z => (List.mem_cons.mp z).elim (fun z => Nat.ne_of_lt (Nat.lt_succ_self _) (z.trans hz)) fun z => Nat.ne_of_lt lt (List.mem_singleton.mp z).symm) hk hP hn its.size 0 _ (Nat.zero_add _) ⟨⟨_, Heap.get?_push_size _ rfl, rfl, rfl⟩, L1.push _⟩ fresh_at fun s1 mv x1 => ?_
  rw [hz] at mv
  show wpAny _ _ _ _ _ _
  exact wpAny_pure (show wpAny _ _ (ret Value.none) _ _ _ from wpAny_pure ⟨rfl, made_of mv x1⟩)
end
end SL

namespace Fx
open PySem PySem.Spec L2
open PyProof.Rows hiding St
open SL
def lfV : V → Option Leaf
  | .int i => some (.num i)
  | .bl b => some (.num (if b = true then 1 else 0))
  | .str x => some (.text x)
  | .non => some .none
  | _ => none
def lfsV : List V → Option (List Leaf)
  | [] => some []
  | x :: r => match lfV x with
    | none => none
    | some k => match lfsV r with
      | none => none
      | some ks => some (k :: ks)
def lfD : PV → Option Leaf
  | .int i => some (.num i)
  | .bool b => some (.num (if b = true then 1 else 0))
  | .str x => some (.text x)
  | .none => some .none
  | _ => none
def lfsD : List PV → Option (List Leaf)
  | [] => some []
  | x :: r => match lfD x with
    | none => none
    | some k => match lfsD r with
      | none => none
      | some ks => some (k :: ks)
def pLenSet : List PV → Option PV
  | [.list ds] => match lfsD ds with
    | none => none
    | some ks => if ks.length ≤ 1000 then some (.int ((nubs ks).length : Nat)) else none
  | [.tuple ds] => match lfsD ds with
    | none => none
    | some ks => if ks.length ≤ 1000 then some (.int ((nubs ks).length : Nat)) else none
  | _ => none
theorem lfV_of {K : PySem.W.Frag} {F : Hp} {v : V} {d : PV} {k : Leaf} (r : Rep K F v d) (h : lfD d = some k) : lfV v = some k := by
  cases r <;> first | exact h | cases h
theorem lfsV_of {K : PySem.W.Frag} {F : Hp} : ∀ {vs : List V} {ds : List PV} {ks : List Leaf}, Reps K F vs ds → lfsD ds = some ks → lfsV vs = some ks
  | _, _, ks, .nil, h => h
  | _, _, ks, .cons r rr, h => by
    unfold lfsD at h
    split at h
    · cases h
    · rename_i k hk
      split at h
      · cases h
      · rename_i ks' hks
        cases h
        unfold lfsV
        rw [lfV_of r hk, lfsV_of rr hks]
theorem lfsV_len : ∀ {vs : List V} {ks : List Leaf}, lfsV vs = some ks → ks.length = vs.length
  | [], ks, h => by cases h; rfl
  | v :: vs, ks, h => by
    unfold lfsV at h
    split at h
    · cases h
    · split at h
      · cases h
      · rename_i ks' hks
        cases h
        rw [List.length_cons, List.length_cons, lfsV_len hks]
theorem lf_is {prog : Program} {w : World} {x : V} {u : Value} {k : Leaf} (r : Vals [x] [u]) (h : lfV x = some k) : (leafKind prog w).is k u = true ∧ u.scannable = true := by
  obtain ⟨u', e, ru⟩ := r.one
  cases e
  cases x <;> try cases h
  · cases ru; exact ⟨rfl, rfl⟩
  · cases ru; exact ⟨decide_eq_true rfl, rfl⟩
  · obtain ⟨t, rfl⟩ := ru; exact ⟨decide_eq_true rfl, rfl⟩
  · obtain ⟨t, rfl⟩ := ru; exact ⟨strKind_is prog w _ t, rfl⟩
theorem lfs_at {prog : Program} {w : World} : ∀ {xs : List V} {us : List Value} {ks : List Leaf}, Vals xs us → lfsV xs = some ks → ∀ (i : Nat) (v : Value), us[i]? = some v → ∃ k, ks[i]? = some k ∧ (leafKind prog w).is k v = true ∧ v.scannable = true
  | _, _, _, .nil, _, i, v, h => by simp at h
  | x :: xs, u :: us, ks, .cons r rr, h, i, v, hv => by
    unfold lfsV at h
    split at h
    · cases h
    · rename_i k hk
      split at h
      · cases h
      · rename_i ks' hks
        cases h
        cases i with
        | zero =>
          simp only [List.getElem?_cons_zero, Option.some.injEq] at hv
          subst hv
          exact ⟨k, rfl, lf_is (.cons r .nil) hk⟩
        | succ i => exact lfs_at rr hks i v (by simpa using hv)
def tLenSet (K : PySem.W.Frag) (te : TE) : TE := fun σ H Q => te σ H fun x H1 => ∃ (l : Addr) (xs : List V) (ks : List Leaf), x = .ref l ∧ (SqL K H1 l xs ∨ SqT K H1 l xs) ∧ lfsV xs = some ks ∧ ks.length ≤ 1000 ∧ Q (.int ((nubs ks).length : Nat)) H1
theorem pe_lenSetA {X : Cx} {a : Expr} {ta : TE} {p p2 q pos : Pos} (hc : X.calm = true) (hm : X.mg "len" = none) (hm2 : X.mg "set" = none) (ha : PE X a ta) (hg : Gl X "len") (hg2 : Gl X "set")
    (na : starEach [a] X.env = (false, eval a X.env) :: starEach [] X.env) : PE X (.Call (.Name "len" p) [.Call (.Name "set" p2) [a] [] q] [] pos) (tLenSet X.K ta) := ⟨fun pins s σ H Q I h => by
  refine Call_ (ld_blt I hg hm boot_len (PyProof.Rows.callWith_builtin1 (PyProof.Rows.args_cons ?_ rfl) rfl rfl))
  refine Call_ (ld_blt I hg2 hm2 boot_set (PyProof.Rows.callWith_type1 (PyProof.Rows.args_cons (thn (ha.run pins s σ H _ I h) fun v s1 z => PyProof.Rows.args_nil ?_) na) na rfl))
  obtain ⟨x, H1, I1, r1, l, xs, ks, rfl, hq, hk, hl, q1⟩ := z
  cases r1
  have hks := lfsV_len hk
  refine mk_set (knd := leafKind X.prog X.w) (ks := ks) ?src fun h' tk hS hk2 => ?_
  case src =>
    rcases hq with hq | hq
    · obtain ⟨its, r, pl, hz⟩ := I1.list hq
      have e : ks.length = its.toArray.size := by rw [List.size_toArray, ← r.length, hks]
      exact init_list (I1.ok.hd hc) pl.isList e (fun i v hv => lfs_at r hk i v (by simpa using hv)) (by rw [← e]; unfold scanBound; omega)
    · obtain ⟨its, r, pl, hz⟩ := I1.tuple hq
      have e : ks.length = its.toArray.size := by rw [List.size_toArray, ← r.length, hks]
      exact init_tup (I1.ok.hd hc) pl e (fun i v hv => lfs_at r hk i v (by simpa using hv)) (by rw [← e]; unfold scanBound; omega)
  · have hle := nubs_le ks
    obtain ⟨o, es, ep, t, ho, hex, hd, _, _, _, hf, hn⟩ := hS
    have I2 : Inv X pins σ H1 { s1 with heap := h', toks := tk } := I1.kept fun b o e => hk2 b o (Heap.lt_size e) e
    exact PyProof.Rows.args_nil (call_len_set ho hex hd hf (by rw [hn] <;> omega) ⟨.int (nubs ks).length, H1, I2.tok _, ⟨_, by rw [hn]⟩, q1⟩)⟩
section
variable {T : List Addr} {X : Cx}
/-- len(set(x)) -/
theorem fe_lenSet {a : Expr} {p p2 pos pos2 : Pos} {f : EF} (hc : X.calm = true) (hm : X.mg "len" = none) (hm2 : X.mg "set" = none) (ha : FE T X a f) (hg : Gl X "len" := by rfl) (hg2 : Gl X "set" := by rfl)
    (he : starEach [a] X.env = (false, eval a X.env) :: starEach [] X.env := by rfl) :
    FE T X (.Call (.Name "len" p) [.Call (.Name "set" p2) [a] [] pos2] [] pos) (callF pLenSet (aCons f aNil)) :=
  (pe_lenSetA hc hm hm2 ha hg hg2 he).weak fun σ H Q ⟨gh, F, env, d, env', R, e, q⟩ => by
    unfold callF aCons aNil at e
    cases ef : f env with
    | none => rw [ef] at e; cases e
    | some r =>
      obtain ⟨d1, e1⟩ := r
      rw [ef] at e
      dsimp only at e
      cases ep : pLenSet [d1] with
      | none => rw [ep] at e; cases e
      | some d2 =>
        rw [ep] at e
        cases e
        refine ⟨gh, F, env, _, _, R, ef, fun v H1 F1 R1 s1 r1 => ?_⟩
        unfold pLenSet at ep
        split at ep
        · rename_i z ds hz
          cases hz
          split at ep
          · cases ep
          · rename_i ks hk
            split at ep
            · rename_i hl
              cases ep
              cases r1 with
              | lst h rr => exact ⟨_, _, ks, rfl, .inl (.inl (.inl (R1.sub _ _ h))), lfsV_of rr hk, hl, q _ _ F1 R1 s1 (.int _)⟩
            · cases ep
        · rename_i z ds hz
          cases hz
          split at ep
          · cases ep
          · rename_i ks hk
            split at ep
            · rename_i hl
              cases ep
              cases r1 with
              | tup h rr => exact ⟨_, _, ks, rfl, .inr (SqT.mono R1.sub (sqT h)), lfsV_of rr hk, hl, q _ _ F1 R1 s1 (.int _)⟩
            · cases ep
        · cases ep
end
end Fx

namespace Fx
open PySem PySem.Spec L2
open PyProof.Rows hiding St
open PySem.W (alike AlikeAll minD maxD min_list_data min_tuple_data max_list_data max_tuple_data readsAll_at)
def rExt (K : PySem.W.Frag) (op : PV → List PV → PV) : List V → Hp → VK → Prop := fun vs H Q => ∃ (a : Addr) (ys : List V) (x : PV) (xs : List PV), vs = [.ref a] ∧ (SqL K H a ys ∨ SqT K H a ys) ∧ DpAll K H ys (x :: xs) ∧ AlikeAll (x :: xs) ∧ SeqAt.shaped (.list (x :: xs)) = true ∧
  ∀ (i : Nat) (v : V), ys[i]? = some v → (x :: xs)[i]? = some (op x xs) → Q v H
section
variable {X : Cx} {pins : List (Addr × Obj)} {σ : L2.St} {H : Hp} {s : Shared} {ys : List V} {its : List Value} {x : PV} {xs : List PV} {as : List Addr} {op : PV → List PV → PV} {Q : VK}
theorem ext_fin (I : Inv X pins σ H s) (rv : Vals ys its) (hr : ReadsAll s.heap its (x :: xs) as) (hsh : SeqAt.shaped (.list (x :: xs)) = true) (q : ∀ (i : Nat) (v : V), ys[i]? = some v → (x :: xs)[i]? = some (op x xs) → Q v H)
    {i : Nat} {v' : Value} {h' : Heap} {tk : Nat} {bs : List Addr} (hv : its[i]? = some v') (hread : Reads h' v' (op x xs) bs) (hk : ∀ b o, s.heap.get? b = some o → h'.get? b = some o) :
    ∃ (y : V), Inv X pins σ H { s with heap := h', toks := tk } ∧ Vals [y] [v'] ∧ Q y H := by
  have hi : i < its.length := (List.getElem?_eq_some_iff.mp hv).1
  have hil : i < ys.length := by rw [rv.length]; exact hi
  obtain ⟨u, hu1, ru⟩ := rv.get (List.getElem?_eq_getElem hil)
  rw [hv] at hu1
  cases hu1
  obtain ⟨cs, hrd, hlt, hmem, _⟩ := readsAll_at hr i v' hv
  have e1 := (Reads.unique (Reads.keeps hk hrd) _ _ hread).1
  refine ⟨ys[i], I.kept (t' := tk) hk, .cons ru .nil, q i _ (List.getElem?_eq_getElem hil) ?_⟩
  rw [← e1, List.getD_eq_getElem?_getD, List.getElem?_eq_getElem hlt]
  rfl
end
theorem ext_dep {x : PV} {xs : List PV} (hsh : SeqAt.shaped (.list (x :: xs)) = true) : PyData.depthAll (x :: xs) ≤ 64 := by
  have := SeqAt.depth_of_shaped hsh
  simp only [PyData.depth] at this
  omega
theorem cr_minA {X : Cx} (hc : X.calm = true) (hu : X.A.units + 65 < cLine) : CallR X (.builtin "min") (rExt X.K minD) := by
  intro pins s σ H vs us Q I r h
  obtain ⟨a, ys, x, xs, rfl, hS, hd, hal, hsh, q⟩ := h
  rw [Vals.ref1 r]
  have hdep := ext_dep hsh
  rcases hS with hS | hS
  · obtain ⟨its, rv, p, hz⟩ := I.list hS
    obtain ⟨as, hr⟩ := Dp.readsAll I (x :: xs) ys its hd rv
    refine min_list_data (I.ok.hd hc) p.isList (by simpa using hr) hal (by omega) fun i v' h' tk bs hv hread hk => ?_
    obtain ⟨y, I2, ry, qy⟩ := ext_fin (tk := tk) I rv hr hsh q (by simpa using hv) hread hk
    cases ry with
    | cons ry _ => exact ⟨y, H, I2, ry, qy⟩
  · obtain ⟨its, rv, p, hz⟩ := I.tuple hS
    obtain ⟨as, hr⟩ := Dp.readsAll I (x :: xs) ys its hd rv
    refine min_tuple_data (I.ok.hd hc) p (by simpa using hr) hal (by omega) fun i v' h' tk bs hv hread hk => ?_
    obtain ⟨y, I2, ry, qy⟩ := ext_fin (tk := tk) I rv hr hsh q (by simpa using hv) hread hk
    cases ry with
    | cons ry _ => exact ⟨y, H, I2, ry, qy⟩
def pMinA : List PV → Option PV
  | [.list (x :: xs)] => if noDict (.list (x :: xs)) && SeqAt.shaped (.list (x :: xs)) && allAlike (x :: xs) then some (minD x xs) else none
  | [.tuple (x :: xs)] => if noDict (.list (x :: xs)) && SeqAt.shaped (.list (x :: xs)) && allAlike (x :: xs) then some (minD x xs) else none
  | _ => none
theorem cf_minA {T : List Addr} {K : PySem.W.Frag} : CallF T K (rExt K minD) pMinA := by
  intro gh F H σ env xs ds d Q R r e q
  unfold pMinA at e
  split at e
  · split at e
    · rename_i x zs hc
      cases e
      simp only [Bool.and_eq_true] at hc
      cases r with
      | cons r1 r2 =>
        cases r2
        cases r1 with
        | lst h rr =>
          refine ⟨_, _, x, zs, rfl, .inl (.inl (.inl (R.sub _ _ h))), rr.dp R.sub (by simpa [noDict] using hc.1.1), allAlike_ok hc.2, hc.1.2, fun i v hv hm => ?_⟩
          obtain ⟨v', hv', rv⟩ := rr.get hm
          rw [hv] at hv'
          cases hv'
          exact q _ _ _ R (Same.refl _) rv
    · cases e
  · split at e
    · rename_i x zs hc
      cases e
      simp only [Bool.and_eq_true] at hc
      cases r with
      | cons r1 r2 =>
        cases r2
        cases r1 with
        | tup h rr =>
          refine ⟨_, _, x, zs, rfl, .inr (SqT.mono R.sub (sqT h)), rr.dp R.sub (by simpa [noDict] using hc.1.1), allAlike_ok hc.2, hc.1.2, fun i v hv hm => ?_⟩
          obtain ⟨v', hv', rv⟩ := rr.get hm
          rw [hv] at hv'
          cases hv'
          exact q _ _ _ R (Same.refl _) rv
    · cases e
  · cases e
theorem cr_maxA {X : Cx} (hc : X.calm = true) (hu : X.A.units + 65 < cLine) : CallR X (.builtin "max") (rExt X.K maxD) := by
  intro pins s σ H vs us Q I r h
  obtain ⟨a, ys, x, xs, rfl, hS, hd, hal, hsh, q⟩ := h
  rw [Vals.ref1 r]
  have hdep := ext_dep hsh
  rcases hS with hS | hS
  · obtain ⟨its, rv, p, hz⟩ := I.list hS
    obtain ⟨as, hr⟩ := Dp.readsAll I (x :: xs) ys its hd rv
    refine max_list_data (I.ok.hd hc) p.isList (by simpa using hr) hal (by omega) fun i v' h' tk bs hv hread hk => ?_
    obtain ⟨y, I2, ry, qy⟩ := ext_fin (tk := tk) I rv hr hsh q (by simpa using hv) hread hk
    cases ry with
    | cons ry _ => exact ⟨y, H, I2, ry, qy⟩
  · obtain ⟨its, rv, p, hz⟩ := I.tuple hS
    obtain ⟨as, hr⟩ := Dp.readsAll I (x :: xs) ys its hd rv
    refine max_tuple_data (I.ok.hd hc) p (by simpa using hr) hal (by omega) fun i v' h' tk bs hv hread hk => ?_
    obtain ⟨y, I2, ry, qy⟩ := ext_fin (tk := tk) I rv hr hsh q (by simpa using hv) hread hk
    cases ry with
    | cons ry _ => exact ⟨y, H, I2, ry, qy⟩
def pMaxA : List PV → Option PV
  | [.list (x :: xs)] => if noDict (.list (x :: xs)) && SeqAt.shaped (.list (x :: xs)) && allAlike (x :: xs) then some (maxD x xs) else none
  | [.tuple (x :: xs)] => if noDict (.list (x :: xs)) && SeqAt.shaped (.list (x :: xs)) && allAlike (x :: xs) then some (maxD x xs) else none
  | _ => none
theorem cf_maxA {T : List Addr} {K : PySem.W.Frag} : CallF T K (rExt K maxD) pMaxA := by
  intro gh F H σ env xs ds d Q R r e q
  unfold pMaxA at e
  split at e
  · split at e
    · rename_i x zs hc
      cases e
      simp only [Bool.and_eq_true] at hc
      cases r with
      | cons r1 r2 =>
        cases r2
        cases r1 with
        | lst h rr =>
          refine ⟨_, _, x, zs, rfl, .inl (.inl (.inl (R.sub _ _ h))), rr.dp R.sub (by simpa [noDict] using hc.1.1), allAlike_ok hc.2, hc.1.2, fun i v hv hm => ?_⟩
          obtain ⟨v', hv', rv⟩ := rr.get hm
          rw [hv] at hv'
          cases hv'
          exact q _ _ _ R (Same.refl _) rv
    · cases e
  · split at e
    · rename_i x zs hc
      cases e
      simp only [Bool.and_eq_true] at hc
      cases r with
      | cons r1 r2 =>
        cases r2
        cases r1 with
        | tup h rr =>
          refine ⟨_, _, x, zs, rfl, .inr (SqT.mono R.sub (sqT h)), rr.dp R.sub (by simpa [noDict] using hc.1.1), allAlike_ok hc.2, hc.1.2, fun i v hv hm => ?_⟩
          obtain ⟨v', hv', rv⟩ := rr.get hm
          rw [hv] at hv'
          cases hv'
          exact q _ _ _ R (Same.refl _) rv
    · cases e
  · cases e
end Fx

namespace Fx
open PySem PySem.Spec L2
open PyProof.Rows hiding St
section
variable {T : List Addr} {X : Cx}
def plT (d : PV) : Bool := match d with
  | .dict ((.none, .none) :: _) => true
  | _ => false
/-- d.get(k, x), d at slot i, keyed by tuples -/
def dGetT2 (i : Nat) (fb fx : EF) : EF := fun env => match Fx.cont env i with
  | none => none
  | some d0 => if plT d0 = true then (match fb env with
    | none => none
    | some (y, e) => match keyT y with
      | none => none
      | some k => match fx e with
        | none => none
        | some (z, e2) => match Fx.cont e2 i with
          | some (.dict ((.none, .none) :: ds)) => some ((dValT k ds).getD z, e2)
          | _ => none) else none
theorem Rel.isDT {K : PySem.W.Frag} {g : Gh} {F H : Hp} {σ : St} {env : Ev} {i : Nat} {d : PV} (R : Rel T K g F H σ env) (h : Fx.cont env i = some d) (hp : plT d = true) : ∃ a, σ[i]? = some (some (.ref a)) ∧ IsD H a := by
  obtain ⟨v, ev, rd⟩ := R.cont h
  unfold plT at hp
  split at hp
  · obtain ⟨a, kvs, rfl, hl, _⟩ := rd.dt R.sub
    exact ⟨a, ev, .inr ⟨kvs, .inl hl⟩⟩
  · cases hp
theorem fe_dGetT2 (i : Nat) {x : Str} {px apos cpos : Pos} {b c : Expr} {fb fx : EF} (hu : X.A.units + 1 < cLine) (hb : FE T X b fb) (hx : FE T X c fx) (hN : X.N[i]? = some x := by rfl) (hv : Vis X.env.scope x := by first | exact Or.inl rfl | exact Or.inr (Or.inl rfl) | exact Or.inr (Or.inr rfl))
    (hd : (x == ("__debug__" : Str)) = false := by decide) (hcd : (x == ("__classdict__" : Str)) = false := by decide) (m : M2 X (.Name x px) "get" apos b c cpos := by exact ⟨rfl, rfl, rfl, rfl⟩) :
    FE T X (.Call (.Attribute (.Name x px) "get" apos) [b, c] [] cpos) (dGetT2 i fb fx) :=
  (pe_dget2 hu (pe_var hN hv hd hcd) hb hx m).weak fun σ H Q ⟨gh, F, env, d, env', R, e, q⟩ => by
    unfold dGetT2 at e
    split at e
    · cases e
    · rename_i d0 h0
      split at e
      · rename_i hp0
        obtain ⟨a, ev, hD⟩ := R.isDT h0 hp0
        refine ⟨.ref a, ev, a, rfl, hD, ?_⟩
        split at e
        · cases e
        · rename_i y e1 eb
          refine ⟨gh, F, env, _, _, R, eb, fun y' H1 F1 R1 s1 rb => ?_⟩
          split at e
          · cases e
          · rename_i k hk
            split at e
            · cases e
            · rename_i z e2 ex
              refine ⟨gh, F1, _, _, _, R1, ex, fun z' H2 F2 R2 s2 rz => ?_⟩
              split at e
              · rename_i ds h1
                cases e
                obtain ⟨v', ev', rd⟩ := R2.cont h1
                rw [ev] at ev'
                cases ev'
                obtain ⟨a', kvs, ea, hl, rr⟩ := rd.dt R2.sub
                cases ea
                obtain ⟨b', rfl, hbb⟩ := (rb.mono s2).keyT R2.sub hk
                exact ⟨valV kvs k, DGet.t hl hbb, q _ _ _ R2 (s1.trans s2) (getD_repT rr rz)⟩
              · cases e
      · cases e
end
end Fx

namespace Fx
open PySem PySem.Spec L2
open PyProof.Rows hiding St
def repS (x : Str) (n : Int) : Str := if n < 1 then Str.empty else if (n == 1 || x.length == 0) = true then x else ⟨(List.replicate n.toNat x.cps).foldl (· ++ ·) #[]⟩
def rRepS : R2 := fun x y H Q => ∃ (s : Str) (k : Int), x = .str s ∧ y = .int k ∧ -(2 ^ 63) ≤ k ∧ k < 2 ^ 63 ∧ s.length * k.toNat ≤ 10000 ∧ Q (.str (repS s k)) H
section
variable {T : List Addr} {X : Cx}
theorem size_rep {α : Type} (a : Array α) : ∀ (n : Nat) (acc : Array α), ((List.replicate n a).foldl (· ++ ·) acc).size = acc.size + n * a.size
  | 0, acc => by simp
  | n + 1, acc => by
    rw [List.replicate_succ, List.foldl_cons, size_rep a n, Array.size_append, Nat.succ_mul]
    omega
theorem op_mulS : OpR X (binaryOp .Mult) rRepS := by
  intro pins s σ H x y v u Q I rx ry h
  obtain ⟨z, k, rfl, rfl, h1, h2, h3, q⟩ := h
  obtain ⟨t, rfl⟩ := rx
  obtain ⟨t2, rfl⟩ := ry
  have hr : (decide (k < -(2 ^ 63 : Int)) || decide (k ≥ 2 ^ 63)) = false := by
    rw [decide_eq_false (by omega), decide_eq_false (by omega)]; rfl
  refine P.mul_str hr (fun h4 _ => ?_) (fun h4 _ => ?_) ?_
  · have hk : 0 < k := by omega
    have h5 : (z.length : Int) * k ≤ 10000 := by
      have : ((z.length * k.toNat : Nat) : Int) ≤ 10000 := by omega
      rw [Int.natCast_mul, Int.toNat_of_nonneg (by omega)] at this
      exact this
    have h6 : (z.length : Int) ≤ (2 ^ 63 - 1) / k := (Int.le_ediv_iff_mul_le hk).mpr (by omega)
    omega
  · exact decide_eq_false (by have : (10000 : Nat) ≤ sizeLine := by decide
                              omega)
  · unfold repS at q
    have hs : (10000 : Nat) ≤ sizeLine := by decide
    split
    · rename_i h4
      rw [if_pos h4] at q
      exact ⟨by decide, .str _, H, I.tok _, ⟨_, rfl⟩, q⟩
    · rename_i h4
      rw [if_neg h4] at q
      split
      · rename_i h5
        rw [if_pos h5] at q
        exact ⟨.str _, H, I, ⟨_, rfl⟩, q⟩
      · rename_i h5
        rw [if_neg h5] at q
        refine ⟨?_, .str _, H, I.tok _, ⟨_, rfl⟩, q⟩
        show ((List.replicate k.toNat z.cps).foldl (· ++ ·) #[]).size ≤ sizeLine
        rw [size_rep]
        have e : z.cps.size = z.length := rfl
        rw [e, Nat.mul_comm]
        simp
        omega
def pMulB : PV → PV → Option PV
  | .str x, .int k => if -(2 ^ 63) ≤ k ∧ k < 2 ^ 63 ∧ x.length * k.toNat ≤ 10000 then some (.str (repS x k)) else none
  | _, _ => none
theorem of_mulB {K : PySem.W.Frag} : OpF T K rRepS pMulB := by
  intro gh F H σ env x y a b d Q R ra rb e q
  unfold pMulB at e
  split at e
  · split at e
    · rename_i h
      cases e
      exact ⟨_, _, ra.str_iff, rb.int_iff, h.1, h.2.1, h.2.2, q _ _ _ R (Same.refl _) (.str _)⟩
    · cases e
  · cases e
end
end Fx

namespace Fx
open PySem PySem.Spec L2
open PyProof.Rows hiding St
section
variable {T : List Addr} {X : Cx}
def rgD (n : Nat) : List PV := (List.range n).map fun i => PyData.int ((0 : Int) + (i : Nat))
def pListRg : List PV → Option PV
  | [.int n] => if -(2 ^ 62) ≤ n ∧ n < 2 ^ 62 ∧ n.toNat ≤ 100000 then some (.list (rgD n.toNat)) else none
  | _ => none
theorem reps_rg {K : PySem.W.Frag} {F : Hp} (l : List Nat) : Reps K F (l.map fun i => V.int ((0 : Int) + (i : Nat))) (l.map fun i => PyData.int ((0 : Int) + (i : Nat))) := by
  induction l with
  | nil => exact .nil
  | cons x r ih => exact .cons (.int _) ih
theorem fn_listRg {a : Expr} {p p2 pos pos2 : Pos} {f : EF} (hc : X.calm = true) (hm : X.mg "list" = none) (hm2 : X.mg "range" = none) (ha : FE T X a f) (hg : Gl X "list" := by rfl) (hg2 : Gl X "range" := by rfl)
    (he : starEach [a] X.env = (false, eval a X.env) :: starEach [] X.env := by rfl) (he2 : starEach [.Call (.Name "range" p2) [a] [] pos2] X.env = (false, eval (.Call (.Name "range" p2) [a] [] pos2) X.env) :: starEach [] X.env := by rfl) :
    FN T X (.Call (.Name "list" p) [.Call (.Name "range" p2) [a] [] pos2] [] pos) (callF pListRg (aCons f aNil)) :=
  (pe_listRg hc hg hm (prg_1 hg2 hm2 ha he) he2).weak fun σ H Q ⟨gh, F, env, d, env', R, e, q⟩ => by
    unfold callF aCons aNil at e
    cases ef : f env with
    | none => rw [ef] at e; cases e
    | some r =>
      obtain ⟨d1, e1⟩ := r
      rw [ef] at e
      dsimp only at e
      cases ep : pListRg [d1] with
      | none => rw [ep] at e; cases e
      | some d2 =>
        rw [ep] at e
        cases e
        refine ⟨gh, F, env, _, _, R, ef, fun v H1 F1 R1 s1 r1 => ?_⟩
        unfold pListRg at ep
        split at ep
        · rename_i z n hz
          cases hz
          split at ep
          · rename_i hn
            cases ep
            refine ⟨n, r1.int_iff, ⟨by omega, by omega, hn.1, hn.2.1, by rw [Int.sub_zero]; omega⟩, fun p hp => ?_⟩
            obtain ⟨h0, nT, hF⟩ := R1.fresh hp
            refine q p _ F1 (R1.laid hp) s1 hF h0 (R1.own_ne hp) (.lst upd_same ?_)
            unfold rgV rgD
            rw [Int.sub_zero]
            exact reps_rg _
          · cases ep
        · cases ep
end
end Fx

namespace Fx
open PySem PySem.Spec L2
open PyProof.Rows hiding St
section
variable {prog : Program} {w : World} {A : Around} {E : Value → Shared → Prop} {s : Shared}
theorem nx_rt_item {it t : Addr} {j : Nat} {ys : Array Value} {y : Value} {Q : Value → Shared → Prop} (hit : RT.IsRt s.heap it t (j : Int)) (ht : IsTup s.heap t ys) (hy : ys[j]? = some y) (hsz : ys.size ≤ sizeLine)
    (hQ : ∀ h', RT.IsRt h' it t ((j : Int) - 1) → Heap.SameBut it s.heap h' → Q y { s with heap := h', toks := s.toks + 1 }) : wpAny (model prog w) A (Builtin.SmallTypes.nextOf (.ref it)) Q E s := by
  obtain ⟨ob, hob, hcl, hda⟩ := id hit
  have jl : j < ys.size := (Array.getElem?_eq_some_iff.mp hy).1
  have tT : s.TypeIs (.ref t) "tuple" := RT.IsTup.typeOf' ht
  rw [sizeLine_eq] at hsz
  unfold Builtin.SmallTypes.nextOf
  refine wpAny_bind (wpAny_callSpecial?_slot (name := Str.ofString "__next__") hit.typeIs RT.slot_rt_next (wpAny_call_entry RT.slot_rt_next hit.typeIs RT.entry_rt_next ?_ (RT.args_rt_next _)))
  unfold Builtin.«reversed.__next__»
  refine wpAny_bind (wpAny_of_eq (a := (Value.ref it, [])) rfl ?_); try dsimp only
  refine wpAny_bind (wpAny_field hob hda (x := .ref t) rfl ?_); try dsimp only
  refine wpAny_bind (wpAny_field hob hda (x := rawInt (j : Int)) rfl ?_)
  show wpAny _ _ (if (j : Int) < 0 then _ else _) _ _ s
  rw [if_neg (by omega)]; try dsimp only
  refine wpAny_bind (wpAny_specialOf tT RT.get_tuple ?_); try dsimp only
  try rw [if_neg (by decide)]
  try dsimp only
  refine wpAny_bind (wpAny_mkInt ?_); refine wpAny_bind (wpAny_attempt ?_)
  have fin : seqIndex? (j : Int) ys.size = some j := seqIndex_of (by omega) (by omega)
  refine PyProof.Rows.getItem_tuple (s := { s with toks := s.toks + 1 }) ht (by omega) (by omega) fin hy ?_; try dsimp only
  refine wpAny_bind (wpAny_field (s := { s with toks := s.toks + 1 }) hob hda (x := rawInt (j : Int)) rfl ?_); try dsimp only
  refine wpAny_bind (wpAny_setField (s := { s with toks := s.toks + 1 }) hob hda (by simp) ?_)
  first
  | refine wpAny_pure ⟨y, rfl, wpAny_pure (hQ _ ?_ (Heap.SameBut.update ..))⟩
  | refine wpAny_bind (wpAny_pure (wpAny_pure ⟨y, rfl, wpAny_pure (hQ _ ?_ (Heap.SameBut.update ..))⟩))
  refine ⟨_, Heap.get?_update_self _ hob (Obj.isFreed_of_fields (Obj.data_mapFields hda _)), (Obj.cls_mapFields ..).trans hcl, ?_⟩
  rw [Obj.data_mapFields hda]; simp
theorem nx_rt_end {it t : Addr} {Q : Value → Shared → Prop} (hh : A.handled = none) (hit : RT.IsRt s.heap it t (-1))
    (hE : ∀ h' x, Heap.ExtBut it s.heap h' → (∃ o, h'.get? x = some o ∧ o.cls = .type "StopIteration") → E (.ref x) { s with heap := h' }) : wpAny (model prog w) A (Builtin.SmallTypes.nextOf (.ref it)) Q E s := by
  obtain ⟨ob, hob, hcl, hda⟩ := id hit
  unfold Builtin.SmallTypes.nextOf
  refine wpAny_bind (wpAny_callSpecial?_slot (name := Str.ofString "__next__") hit.typeIs RT.slot_rt_next (wpAny_call_entry RT.slot_rt_next hit.typeIs RT.entry_rt_next ?_ (RT.args_rt_next _)))
  unfold Builtin.«reversed.__next__»
  refine wpAny_bind (wpAny_of_eq (a := (Value.ref it, [])) rfl ?_); try dsimp only
  refine wpAny_bind (wpAny_field hob hda (x := .ref t) rfl ?_); try dsimp only
  refine wpAny_bind (wpAny_field hob hda (x := rawInt (-1)) rfl ?_)
  show wpAny _ _ (if (-1 : Int) < 0 then _ else _) _ _ s
  rw [if_pos (by decide)]; try dsimp only
  refine wpAny_bind (wpAny_rule ?_); refine wpAny_bind ?_; wp_delta
  refine wpAny_bind (wpAny_setField hob hda (by simp) ?_)
  have h2 := Heap.get?_update_self (Obj.mapFields (·.setIfInBounds 1 (rawInt (-1)))) hob (Obj.isFreed_of_fields (Obj.data_mapFields hda _))
  refine wpAny_setField (s := { s with heap := s.heap.update it (Obj.mapFields (·.setIfInBounds 1 (rawInt (-1)))) }) h2 (Obj.data_mapFields hda _) (by simp) ?_; try dsimp only
  first
  | show wpAny _ _ (newExc (.type "StopIteration") [] >>= _) _ _ _
  | (refine wpAny_bind ?_; show wpAny _ _ (newExc (.type "StopIteration") [] >>= _) _ _ _)
  | (refine wpAny_bind ?_; wp_delta; show wpAny _ _ (newExc (.type "StopIteration") [] >>= _) _ _ _)
  refine wpAny_bind ?_; simp only [newExc, newTuple]
  refine wpAny_bind (wpAny_newObj_type ?_ (by size_fits)); refine wpAny_bind (m := firstArgMember _ _) (wpAny_of_eq (a := Value.none) (by first | rfl | (simp only [firstArgMember]; rfl)) ?_)
  refine wpAny_newObj_type ?_ (by size_fits); simp only [raiseNew]
  refine wpAny_bind (wpAny_handled ?_); first | rw [show A.in1.handled = none from hh] | rw [hh]
  refine wpAny_bind (wpAny_pure (wpAny_throw ?_))
  refine hE _ _ (((?_ : Heap.ExtBut it s.heap _).push _).push _) ⟨_, Heap.get?_push_size _ rfl, rfl⟩
  exact fun b u hb e => (Heap.get?_update_other _ _ (Ne.symm hb)).trans ((Heap.get?_update_other _ _ (Ne.symm hb)).trans e)
end
theorem drawsRt {prog : Program} {w : World} {A : Around} (hh : A.handled = none) (it t : Addr) (hne : t ≠ it) (ys : Array Value) (hsz : ys.size ≤ sizeLine) :
    Draws prog w A it [it, t] ys.size (fun i v => ys[ys.size - 1 - i]? = some v) (fun i h => RT.IsRt h it t ((ys.size : Int) - 1 - (i : Nat)) ∧ IsTup h t ys) where
  live := fun _ _ q => let ⟨o, ho, _⟩ := q.1; ⟨o, ho⟩
  frame := fun _ _ _ q hk => ⟨q.1.at fun o e => hk it (by simp) o e, Heap.IsTuple.at (show Heap.IsTuple _ t ys from q.2) fun o e => hk t (by simp) o e⟩
  item := fun i s Q E hi q hQ => by
    have e1 : (ys.size : Int) - 1 - (i : Nat) = ((ys.size - 1 - i : Nat) : Int) := by omega
    have q1 := q.1
    rw [e1] at q1
    have hl : ys.size - 1 - i < ys.size := by omega
    refine nx_rt_item q1 q.2 (y := ys[ys.size - 1 - i]) (by simp [hl]) hsz fun h' r1 r2 => hQ _ h' (s.toks + 1) (by simp [hl]) ⟨?_, ?_⟩ r2
    · rw [show ((ys.size - 1 - i : Nat) : Int) - 1 = (ys.size : Int) - 1 - ((i + 1 : Nat) : Int) from by omega] at r1; exact r1
    · exact Heap.IsTuple.extBut (show Heap.IsTuple _ t ys from q.2) r2.extBut hne
  done := fun s Q E q hE => by
    have q1 := q.1
    rw [show (ys.size : Int) - 1 - ((ys.size : Nat) : Int) = -1 from by omega] at q1
    exact nx_rt_end hh q1 hE
/-- zip of a tuple and of what goes back over another -/
def ItzR (K : PySem.W.Frag) (a b : Addr) (m n : Nat) : It :=
  ⟨fun i H => i < m ∧ i < n ∧ ∃ (xs ys : List V) (x y : V), SqT K H a xs ∧ SqT K H b ys ∧ xs.length = m ∧ ys.length = n ∧ xs[i]? = some x ∧ ys[n - 1 - i]? = some y,
    fun i H v H' => ∃ T x y, v = .ref T ∧ H T = none ∧ H' = upd H T (.tup [x, y]) ∧ (∀ xs, SqT K H a xs → xs[i]? = some x) ∧ ∀ ys, SqT K H b ys → ys[n - 1 - i]? = some y,
    fun i H => (∃ xs ys : List V, SqT K H a xs ∧ SqT K H b ys ∧ xs.length = m ∧ ys.length = n) ∧ (m ≤ i ∨ n ≤ i)⟩
structure ZSep (z TI TO i1 i2 a b : Addr) : Prop where
  d1 : TI ≠ z
  d2 : TO ≠ z
  d3 : TI ≠ TO
  d4 : TI ≠ i1
  d5 : TI ≠ i2
  d6 : z ≠ i1
  d7 : z ≠ i2
  d8 : z ≠ a
  d9 : z ≠ b
  e1 : TO ≠ i1
  e2 : TO ≠ i2
  e3 : TO ≠ a
  e4 : TO ≠ b
  e5 : i1 ≠ i2
  e6 : i1 ≠ b
  e7 : i2 ≠ a
  e8 : a ≠ i1
  e9 : b ≠ i2
theorem ZSep.two {z TI TO i1 i2 a b : Addr} (D : ZSep z TI TO i1 i2 a b) : ZipSep2 z TI TO i1 i2 [i1, a] [i2, b] where
  TIz := D.d1
  TOz := D.d2
  TITO := D.d3
  TIi1 := D.d4
  mem1 := by simp
  zf1 := by simp [D.d6, D.d8]
  Tf1 := by simp [D.e1, D.e3]
  TIi2 := D.d5
  mem2 := by simp
  zf2 := by simp [D.d7, D.d9]
  Tf2 := by simp [D.e2, D.e4]
  sep1_2 := by simp [D.e5, D.e6]
  sep2_1 := by simp [D.e5.symm, D.e7]
theorem turn_zipR {P : Program} {w : World} {K : PySem.W.Frag} {elts : List Expr} {kk : Nat} {tpos : Pos} {a b z TI TO i1 i2 : Addr} (m n : Nat) (D : ZSep z TI TO i1 i2 a b) :
    Turn P w K (.Tuple elts kk tpos) (ItzR K a b m n) [z, TI, TO, i1, i2] z (fun i h => i ≤ m ∧ i ≤ n ∧ IsZip h z TI TO .none ∧ IsTupOf2 h TI (.ref i1) (.ref i2) ∧ (∃ x y, IsTupOf2 h TO x y) ∧ h.IsTupleIter i1 a i ∧ RT.IsRt h i2 b ((n : Int) - 1 - (i : Nat))) where
  mem := by simp
  obj := fun i h st c hc => by
    obtain ⟨_, _, hz, q1, ⟨x, y, q2⟩, ⟨o1, e1, _, d1⟩, ⟨o2, e2, _, d2⟩⟩ := st
    have e' : c = z ∨ c = TI ∨ c = TO ∨ c = i1 ∨ c = i2 := by simpa using hc
    rcases e' with rfl | rfl | rfl | rfl | rfl
    · exact ⟨_, hz, fun v q => nomatch q⟩
    · exact ⟨_, q1, fun v q => nomatch q⟩
    · exact ⟨_, q2, fun v q => nomatch q⟩
    · exact ⟨o1, e1, fun v q => by rw [d1] at q; cases q⟩
    · exact ⟨o2, e2, fun v q => by rw [d2] at q; cases q⟩
  keep := fun i h h' st k => by
    obtain ⟨l1, l2, hz, q1, ⟨x, y, q2⟩, h1, h2⟩ := st
    exact ⟨l1, l2, k z (by simp) _ hz, k TI (by simp) _ q1, ⟨x, y, k TO (by simp) _ q2⟩, h1.at fun o q => k i1 (by simp) o q, h2.at fun o q => k i2 (by simp) o q⟩
  item := by
    intro X hP hw hK hc i pins s σ H E I hf st hg
    subst hP hw hK
    obtain ⟨l1, l2, hz, q1, ⟨x0, y0, q2⟩, h1, h2⟩ := st
    obtain ⟨g1, g2, xs, ys, x, y, hqx, hqy, hm, hn, hx, hy⟩ := hg
    obtain ⟨its, rv, p, _⟩ := I.tuple hqx
    obtain ⟨its2, rv2, p2, sz2⟩ := I.tuple hqy
    obtain ⟨u, hu, ru⟩ := rv.get hx
    obtain ⟨u2, hu2, ru2⟩ := rv2.get hy
    have len1 := rv.length
    have len2 := rv2.length
    have hzl : z < s.heap.objs.size := Heap.lt_size hz
    have hd : X.A.in1.handled = none := (I.ok.hd hc)
    have D1 := Draws.tuple (prog := X.prog) (w := X.w) (A := X.A.in1) hd i1 a D.e8 its.toArray
    have D2 := drawsRt (prog := X.prog) (w := X.w) (A := X.A.in1) hd i2 b D.e9 its2.toArray (by simp only [List.size_toArray]; omega)
    have en : ((its2.toArray.size : Nat) : Int) = (n : Int) := by simp only [List.size_toArray]; omega
    refine wpAny_pyNext_zipD2_item (i := i) D.two D1 D2 hz q1 q2 ⟨h1, p⟩ ⟨by rw [en]; exact h2, p2⟩ (by simp only [List.size_toArray]; omega) (by simp only [List.size_toArray]; omega) fun x1 x2 h' tk y1 y2 b1 b2 c1 c2 b5 b6 hk => ?_
    have ex1 : x1 = u := by
      have y1 : its.toArray[i]? = some x1 := y1
      rw [List.getElem?_toArray, hu] at y1
      exact (Option.some.inj y1).symm
    have ex2 : x2 = u2 := by
      have y2 : its2.toArray[its2.toArray.size - 1 - i]? = some x2 := y2
      rw [List.getElem?_toArray, show its2.toArray.size - 1 - i = n - 1 - i from by simp only [List.size_toArray]; omega, hu2] at y2
      exact (Option.some.inj y2).symm
    subst ex1 ex2
    refine ⟨_, rfl, wpAny_letOwnedTupleGo_zip (s := { s with heap := h', toks := tk }) b1 fun h'' z'' sb => ?_⟩
    have hT2 : h''.get? s.heap.objs.size = some { cls := .type "tuple", data := .seq #[x1, x2] } := (sb.2 _ (Nat.ne_of_gt hzl)).trans b5
    have new : ObjOk X.prog X.w (upd H s.heap.objs.size (.tup [x, y])) h'' s.heap.objs.size (.tup [x, y]) :=
      ⟨by show 2 ≤ sizeLine; decide, [x1, x2], .cons ru (.cons ru2 .nil), ⟨_, hT2, rfl, _, rfl⟩⟩
    have I1 : Inv X pins σ (upd H s.heap.objs.size (.tup [x, y])) { s with heap := h'', toks := tk } :=
      I.turnedNew (t' := tk) (ch := [z, TI, TO, i1, i2]) (fun c o hb q => (sb.2 c (fun q' => hb (by simp [q']))).trans (hk c o (fun q' => hb (by simp [q'])) (fun q' => hb (by simp [q'])) (fun q' => hb (by simp [q'])) (fun q' => hb (by simp [q'])) q)) hf (Nat.le_refl _) new
    refine ⟨.ref s.heap.objs.size, _, I1, rfl, ⟨_, x, y, rfl, I.hok.fresh (Nat.le_refl _), rfl, fun l hl => by rw [I.tuple_inj hl hqx]; exact hx, fun l hl => by rw [I.tuple_inj hl hqy]; exact hy⟩, ⟨by omega, by omega, z'', ?_, ⟨x1, x2, ?_⟩, ?_, ?_⟩, fun c hcm => ?_⟩
    · exact (sb.2 _ D.d1).trans (hk _ _ D.d1 D.d3 D.d4 D.d5 q1)
    · exact (sb.2 _ D.d2).trans b2
    · exact c1.1.at fun o q => (sb.2 _ D.d6.symm).trans q
    · have := c2.1
      rw [en] at this
      exact this.at fun o q => (sb.2 _ D.d7.symm).trans q
    · have hlt : c < s.heap.objs.size := by
        have e' : c = z ∨ c = TI ∨ c = TO ∨ c = i1 ∨ c = i2 := by simpa using hcm
        rcases e' with rfl | rfl | rfl | rfl | rfl
        · exact hzl
        · exact Heap.lt_size q1
        · exact Heap.lt_size q2
        · obtain ⟨_, e1, _⟩ := h1; exact Heap.lt_size e1
        · obtain ⟨_, e2, _⟩ := h2; exact Heap.lt_size e2
      rw [upd_ne (Nat.ne_of_lt hlt)]
      exact (hf c hcm).1
  done := by
    intro X hP hw hK hc i pins s σ H E I hf st hg
    subst hP hw hK
    obtain ⟨l1, l2, hz, q1, ⟨x0, y0, q2⟩, h1, h2⟩ := st
    obtain ⟨⟨xs, ys, hqx, hqy, hm, hn⟩, hend⟩ := hg
    obtain ⟨its, rv, p, _⟩ := I.tuple hqx
    obtain ⟨its2, rv2, p2, sz2⟩ := I.tuple hqy
    have len1 := rv.length
    have len2 := rv2.length
    have hd : X.A.in1.handled = none := (I.ok.hd hc)
    have D1 := Draws.tuple (prog := X.prog) (w := X.w) (A := X.A.in1) hd i1 a D.e8 its.toArray
    have D2 := drawsRt (prog := X.prog) (w := X.w) (A := X.A.in1) hd i2 b D.e9 its2.toArray (by simp only [List.size_toArray]; omega)
    have en : ((its2.toArray.size : Nat) : Int) = (n : Int) := by simp only [List.size_toArray]; omega
    exact wpAny_pyNext_zipD2_end (i := i) D.two D1 D2 hz q1 q2 ⟨h1, p⟩ ⟨by rw [en]; exact h2, p2⟩ (by simp only [List.size_toArray]; omega) (by simp only [List.size_toArray]; omega) (by simp only [List.size_toArray]; omega) fun h' tk hk => ⟨rfl, I.turnedL (t' := tk) (ch := [z, TI, TO, i1, i2]) (fun c o hb q =>
      hk c o (fun q' => hb (by simp [q'])) (fun q' => hb (by simp [q'])) (fun q' => hb (by simp [q'])) (fun q' => hb (by simp [q'])) q) hf⟩
  self := fun A i s Q E st h => wpAny_pyIter_zip st.2.2.1 h
abbrev zr1 (h : Heap) (a : Addr) : Heap := h.push { cls := .type "tuple_iterator", data := .fields #[.ref a, .int 0 0] }
abbrev zr2 (h : Heap) (a r : Addr) : Heap := (zr1 h a).push { cls := .type "tuple", data := .seq #[.ref h.objs.size, .ref r] }
abbrev zr3 (h : Heap) (a r : Addr) : Heap := (zr2 h a r).push { cls := .type "tuple", data := .seq #[.none, .none] }
abbrev zr4 (h : Heap) (a r : Addr) : Heap := (zr3 h a r).push { cls := .type "zip", data := .fields #[.none, .bool false, .bool false, .ref (zr1 h a).objs.size, .ref (zr2 h a r).objs.size] }
theorem meets_zipR (a r b : Addr) (j : Int) (xs : Array Value) :
    Meets (Builtin.«zip.__new__» ⟨[.type "zip", .ref a, .ref r], []⟩) (fun _ R s => s.heap.IsTuple a xs ∧ RT.IsRt s.heap r b j ∧ R (.ok (.ret (.ref (zr3 s.heap a r).objs.size))) { s with heap := zr4 s.heap a r }) :=
  .of_wp fun prog w A R s h => by
    obtain ⟨hp, g, d, tk, os⟩ := s; obtain ⟨h1, h2, h⟩ := h
    have hsub := sub_zip
    have L1 : Heap.IsTuple (Shared.heap ⟨hp, g, d, tk, os⟩) a xs := h1
    have L2 : RT.IsRt (Shared.heap ⟨hp.push { cls := .type "tuple_iterator", data := .fields #[.ref a, .int 0 0] }, g, d, tk, os⟩) r b j := h2.at fun o e => Heap.get?_push_of_some _ e
    wp_walk using wpAny_pyIter_tuple L1, RT.iter_rt L2
    exact ⟨_, rfl, h⟩
theorem call_zipR {prog : Program} {w : World} {A : Around} {E : Value → Shared → Prop} {s : Shared} {a r b : Addr} {j : Int} {xs : Array Value} {Q : Value → Shared → Prop} (h1 : s.heap.IsTuple a xs) (h2 : RT.IsRt s.heap r b j)
    (h : ∀ h', IsZip h' (s.heap.objs.size + 3) (s.heap.objs.size + 1) (s.heap.objs.size + 2) .none → IsTupOf2 h' (s.heap.objs.size + 1) (.ref s.heap.objs.size) (.ref r) →
      IsTupOf2 h' (s.heap.objs.size + 2) .none .none → h'.IsTupleIter s.heap.objs.size a 0 → h'.objs.size = s.heap.objs.size + 4 →
      (∀ c o, s.heap.get? c = some o → h'.get? c = some o) → Q (.ref (s.heap.objs.size + 3)) { s with heap := h' }) :
    wpAny (model prog w) A (call (.type "zip") [.ref a, .ref r]) Q E s := by
  refine callType_new F.called_zip (by decide) (F.typeCall_zip_2 _ _) (F.newCall_zip_2 _ _) (fun obj => F.args_object_init_3 obj _ _) F.entry_zip_new (meets_zipR a r b j xs) ⟨h1, h2, ?_⟩
  have z1 : (zr1 s.heap a).objs.size = s.heap.objs.size + 1 := by rw [Heap.size_push]
  have z2 : (zr2 s.heap a r).objs.size = s.heap.objs.size + 2 := by rw [Heap.size_push, z1]
  have z3 : (zr3 s.heap a r).objs.size = s.heap.objs.size + 3 := by rw [Heap.size_push, z2]
  have z4 : (zr4 s.heap a r).objs.size = s.heap.objs.size + 4 := by rw [Heap.size_push, z3]
  have k4 : (zr4 s.heap a r).get? (zr3 s.heap a r).objs.size = some _ := Heap.get?_push_size _ rfl
  have k3 : (zr4 s.heap a r).get? (zr2 s.heap a r).objs.size = some _ := Heap.get?_push_of_some _ (Heap.get?_push_size _ rfl)
  have k2 : (zr4 s.heap a r).get? (zr1 s.heap a).objs.size = some _ := Heap.get?_push_of_some _ (Heap.get?_push_of_some _ (Heap.get?_push_size _ rfl))
  have k1 : (zr4 s.heap a r).get? s.heap.objs.size = some _ := Heap.get?_push_of_some _ (Heap.get?_push_of_some _ (Heap.get?_push_of_some _ (Heap.get?_push_size _ rfl)))
  show _ ∧ _
  rw [z1, z2, z3] at k4
  rw [z2] at k3
  rw [z1] at k2
  rw [z3]
  exact ⟨⟨_, k4, rfl⟩, h _ k4 k2 k3 ⟨_, k1, rfl, rfl⟩ z4 fun c o x => Heap.get?_push_of_some _ (Heap.get?_push_of_some _ (Heap.get?_push_of_some _ (Heap.get?_push_of_some _ x)))⟩
def iZipR (K : PySem.W.Frag) (ta tb : TE) : TI := fun σ H R => ta σ H fun v H1 => tb σ H1 fun v2 H2 => ∃ a b xs ys, v = .ref a ∧ v2 = .ref b ∧ SqT K H2 a xs ∧ SqT K H2 b ys ∧ R (ItzR K a b xs.length ys.length) H2
theorem pi_zipR {X : Cx} {e e2 : Expr} {ta tb : TE} {p p2 pos pos2 tpos : Pos} {elts : List Expr} {kk : Nat} (hg : Gl X "zip") (hm : X.mg "zip" = none) (hg2 : Gl X "reversed") (hm2 : X.mg "reversed" = none) (ha : PE X e ta) (hb : PE X e2 tb)
    (hs : starEach [e, .Call (.Name "reversed" p2) [e2] [] pos2] X.env = (false, eval e X.env) :: starEach [.Call (.Name "reversed" p2) [e2] [] pos2] X.env := by rfl)
    (hs1 : starEach [.Call (.Name "reversed" p2) [e2] [] pos2] X.env = (false, eval (.Call (.Name "reversed" p2) [e2] [] pos2) X.env) :: starEach [] X.env := by rfl)
    (hs2 : starEach [e2] X.env = (false, eval e2 X.env) :: starEach [] X.env := by rfl)
    (hpl : (backTo pos (starEach [.Call (.Name "reversed" p2) [e2] [] pos2] X.env)).any (·.1) = false := by rfl) :
    PI X (.Tuple elts kk tpos) (.Call (.Name "zip" p) [e, .Call (.Name "reversed" p2) [e2] [] pos2] [] pos) (iZipR X.K ta tb) := by
  refine ⟨fun pins s σ H R I h => ?_⟩
  refine Call_ (ld_blt I hg hm PyProof.Rows.boot_zip (PyProof.Rows.callWith_type1 (args_cons (thn (ha.run pins s σ H _ I h) fun u s1 ⟨v, H1, I1, r1, q1⟩ => ?_) hs) hs hpl))
  refine args_cons (Call_ (ld_blt I1 hg2 hm2 PyProof.Rows.boot_reversed (PyProof.Rows.callWith_type1 (args_cons (thn (hb.run pins s1 σ H1 _ I1 q1) fun u2 s2 ⟨v2, H2, I2, r2, q2⟩ => args_nil ?_) hs2) hs2 rfl))) hs1
  obtain ⟨a, b, xs, ys, rfl, rfl, hqx, hqy, q⟩ := q2
  obtain rfl : u = Value.ref a := r1
  obtain rfl : u2 = Value.ref b := r2
  obtain ⟨its, rv, p1, z1⟩ := I2.tuple hqx
  obtain ⟨its2, rv2, p2', z2⟩ := I2.tuple hqy
  have l1 := rv.length
  have l2 := rv2.length
  have hn := line63
  refine RT.call_reversed_tup p2' (fun A E Q k => len_tuple p2' (by simp only [List.size_toArray] <;> omega) k) (args_nil ?_)
  have k0 : ∀ c o, s2.heap.get? c = some o → (s2.heap.push (RT.rtObj b ((its2.toArray.size : Int) - 1))).get? c = some o := fun c o e => Heap.get?_push_of_some _ e
  have I3 : Inv X pins σ H2 { s2 with heap := s2.heap.push (RT.rtObj b ((its2.toArray.size : Int) - 1)), toks := s2.toks + 1 + 1 } := I2.kept (t' := s2.toks + 1 + 1) k0
  have p1s : Heap.IsTuple s2.heap a its.toArray := p1
  have p2s : Heap.IsTuple s2.heap b its2.toArray := p2'
  obtain ⟨oa, hoa, _⟩ := id p1s
  obtain ⟨obb, hob, _⟩ := id p2s
  have na : ∀ k : Nat, s2.heap.objs.size + k ≠ a := fun k e => by
    have la := Heap.lt_size hoa
    rw [← e] at la
    exact absurd la (Nat.not_lt.mpr (Nat.le_add_right _ _))
  have nb : ∀ k : Nat, s2.heap.objs.size + k ≠ b := fun k e => by
    have lb := Heap.lt_size hob
    rw [← e] at lb
    exact absurd lb (Nat.not_lt.mpr (Nat.le_add_right _ _))
  have rt0 : RT.IsRt (s2.heap.push (RT.rtObj b ((its2.toArray.size : Int) - 1))) s2.heap.objs.size b ((its2.toArray.size : Int) - 1) := ⟨_, Heap.get?_push_size _ rfl, rfl, rfl⟩
  have sz : (s2.heap.push (RT.rtObj b ((its2.toArray.size : Int) - 1))).objs.size = s2.heap.objs.size + 1 := by rw [Heap.size_push]
  refine call_zipR (s := { s2 with heap := s2.heap.push (RT.rtObj b ((its2.toArray.size : Int) - 1)), toks := s2.toks + 1 + 1 }) (p1s.at fun o e => k0 _ _ e) rt0 fun h' hz hTI hTO h1 hsz hk => wpAny_pyIter_zip hz ?_
  have I4 : Inv X pins σ H2 { s2 with heap := h', toks := s2.toks + 1 + 1 } := I3.kept (t' := s2.toks + 1 + 1) hk
  have e1 : ((its2.toArray.size : Nat) : Int) - 1 = (ys.length : Int) - 1 - ((0 : Nat) : Int) := by simp only [List.size_toArray]; omega
  rw [e1] at rt0 hk
  dsimp only at hz hTI hTO h1 hsz
  rw [sz] at hz hTI hTO h1 hsz
  refine ⟨s2.heap.objs.size + 1 + 3, [s2.heap.objs.size + 1 + 3, s2.heap.objs.size + 1 + 1, s2.heap.objs.size + 1 + 2, s2.heap.objs.size + 1, s2.heap.objs.size], _, _, H2, by rw [← sz], I4, turn_zipR xs.length ys.length ?_, ⟨Nat.zero_le _, Nat.zero_le _, hz, hTI, ⟨_, _, hTO⟩, h1, ?_⟩, fun c hcm => ?_, q⟩
  · have ne : ∀ {i j : Nat}, i ≠ j → s2.heap.objs.size + i ≠ s2.heap.objs.size + j := fun h e => h (Nat.add_left_cancel e)
    exact ⟨ne (i := 2) (j := 4) (by decide), ne (i := 3) (j := 4) (by decide), ne (i := 2) (j := 3) (by decide), ne (i := 2) (j := 1) (by decide), ne (i := 2) (j := 0) (by decide), ne (i := 4) (j := 1) (by decide), ne (i := 4) (j := 0) (by decide), na 4, nb 4, ne (i := 3) (j := 1) (by decide), ne (i := 3) (j := 0) (by decide), na 3, nb 3, ne (i := 1) (j := 0) (by decide), nb 1, na 0, (na 1).symm, (nb 0).symm⟩
  · exact rt0.at fun o e => hk _ _ e
  · have hle : s2.heap.objs.size ≤ c := by
      have e' : c = s2.heap.objs.size + 1 + 3 ∨ c = s2.heap.objs.size + 1 + 1 ∨ c = s2.heap.objs.size + 1 + 2 ∨ c = s2.heap.objs.size + 1 ∨ c = s2.heap.objs.size := by simpa using hcm
      rcases e' with rfl | rfl | rfl | rfl | rfl
      · exact Nat.le_add_right _ 4
      · exact Nat.le_add_right _ 2
      · exact Nat.le_add_right _ 3
      · exact Nat.le_add_right _ 1
      · exact Nat.le_refl _
    exact I2.fpOk hle (I2.hok.fresh hle)
section
variable {T : List Addr} {X : Cx}
theorem yields_zipR {K : PySem.W.Frag} {F : Hp} {a b : Addr} {xs ys : List V} {ds es : List PV} (h1 : SqT K F a xs) (h2 : SqT K F b ys) (r1 : Reps K F xs ds) (r2 : Reps K F ys es) : Yields T K (ItzR K a b xs.length ys.length) (zipL ds es.reverse) F := fun g i F' H σ env R s => by
  have hA : SqT K H a xs := SqT.mono R.sub (SqT.mono s h1)
  have hB : SqT K H b ys := SqT.mono R.sub (SqT.mono s h2)
  have l2 := r2.len
  have l1 := r1.len
  rw [zipL_get]
  cases hx : ds[i]? with
  | none =>
    refine ⟨fun d hd => (by cases hd), fun _ => ⟨⟨xs, ys, hA, hB, rfl, rfl⟩, .inl ?_⟩⟩
    have := List.getElem?_eq_none_iff.mp hx
    omega
  | some x =>
    cases hy : es.reverse[i]? with
    | none =>
      refine ⟨fun d hd => (by cases hd), fun _ => ⟨⟨xs, ys, hA, hB, rfl, rfl⟩, .inr ?_⟩⟩
      have := List.getElem?_eq_none_iff.mp hy
      rw [List.length_reverse] at this
      omega
    | some y =>
      refine ⟨fun d hd => ?_, fun z => (by cases z)⟩
      cases hd
      obtain ⟨v, hv, rv⟩ := r1.get hx
      obtain ⟨iy, _⟩ := List.getElem?_eq_some_iff.mp hy
      rw [List.length_reverse] at iy
      have hy2 : es[es.length - 1 - i]? = some y := by rw [← List.getElem?_reverse iy]; exact hy
      obtain ⟨w, hw, rw'⟩ := r2.get hy2
      rw [← l2] at hw
      obtain ⟨ix, _⟩ := List.getElem?_eq_some_iff.mp hv
      refine ⟨⟨ix, by omega, xs, ys, v, w, hA, hB, rfl, rfl, hv, hw⟩, fun z H' hz => ?_⟩
      obtain ⟨t, v2, w2, rfl, hT, rfl, e1, e2⟩ := hz
      have q1 := e1 xs hA
      have q2 := e2 ys hB
      rw [hv] at q1; cases q1
      rw [hw] at q2; cases q2
      obtain ⟨R2, s2⟩ := R.laidF (o := .tup [v, w]) hT
      exact ⟨_, R2, s2, .tup (.inl upd_same) (.cons (rv.mono (s.trans s2)) (.cons (rw'.mono (s.trans s2)) .nil))⟩
/-- zip(a tuple, reversed(a tuple)) -/
def wZipR (fa fb : EF) : AF := fun env => match fa env with
  | some (.tuple xs, e) => match fb e with
    | some (.tuple ys, e2) => some (zipL xs ys.reverse, e2)
    | _ => none
  | _ => none
theorem fi_zipR {a b : Expr} {elts : List Expr} {kk : Nat} {tpos p p2 pos pos2 : Pos} {fa fb : EF} (hg : Gl X "zip") (hm : X.mg "zip" = none) (hg2 : Gl X "reversed") (hm2 : X.mg "reversed" = none) (ha : FE T X a fa) (hb : FE T X b fb)
    (hs : starEach [a, .Call (.Name "reversed" p2) [b] [] pos2] X.env = (false, eval a X.env) :: starEach [.Call (.Name "reversed" p2) [b] [] pos2] X.env := by rfl)
    (hs1 : starEach [.Call (.Name "reversed" p2) [b] [] pos2] X.env = (false, eval (.Call (.Name "reversed" p2) [b] [] pos2) X.env) :: starEach [] X.env := by rfl)
    (hs2 : starEach [b] X.env = (false, eval b X.env) :: starEach [] X.env := by rfl)
    (hpl : (backTo pos (starEach [.Call (.Name "reversed" p2) [b] [] pos2] X.env)).any (·.1) = false := by rfl) :
    FI T X (.Tuple elts kk tpos) (.Call (.Name "zip" p) [a, .Call (.Name "reversed" p2) [b] [] pos2] [] pos) (wZipR fa fb) :=
  (pi_zipR hg hm hg2 hm2 ha hb hs hs1 hs2 hpl).weak fun σ H Q ⟨gh, F, env, ds, env', R, e, q⟩ => by
    unfold wZipR at e
    split at e
    · rename_i xs e1 ef
      split at e
      · rename_i ys e2 eg
        cases e
        refine ⟨gh, F, env, _, _, R, ef, fun v H1 F1 R1 s1 r1 => ⟨gh, F1, _, _, _, R1, eg, fun v2 H2 F2 R2 s2 r2 => ?_⟩⟩
        have r1' := r1.mono s2
        cases r1' with
        | tup h1 rr1 => cases r2 with
          | tup h2 rr2 => exact ⟨_, _, _, _, rfl, rfl, SqT.mono R2.sub (sqT h1), SqT.mono R2.sub (sqT h2), q _ _ _ R2 (s1.trans s2) (yields_zipR (sqT h1) (sqT h2) rr1 rr2)⟩
      · cases e
    · cases e
end
end Fx

namespace Fx
open PySem PySem.Spec L2
open PyProof.Rows hiding St
def ItzM (K : PySem.W.Frag) (a b : Addr) (m n : Nat) : It :=
  ⟨fun i H => i < m ∧ i < n ∧ ∃ (xs ys : List V) (x y : V), SqL K H a xs ∧ SqT K H b ys ∧ xs.length = m ∧ ys.length = n ∧ xs[i]? = some x ∧ ys[i]? = some y,
    fun i H v H' => ∃ T x y, v = .ref T ∧ H T = none ∧ H' = upd H T (.tup [x, y]) ∧ (∀ xs, SqL K H a xs → xs[i]? = some x) ∧ ∀ ys, SqT K H b ys → ys[i]? = some y,
    fun i H => (∃ xs ys : List V, SqL K H a xs ∧ SqT K H b ys ∧ xs.length = m ∧ ys.length = n) ∧ (m ≤ i ∨ n ≤ i)⟩
theorem turn_zipM {P : Program} {w : World} {K : PySem.W.Frag} {elts : List Expr} {kk : Nat} {tpos : Pos} {a b z TI TO i1 i2 : Addr} (m n : Nat) (D : ZSep z TI TO i1 i2 a b) :
    Turn P w K (.Tuple elts kk tpos) (ItzM K a b m n) [z, TI, TO, i1, i2] z (fun i h => i ≤ m ∧ i ≤ n ∧ IsZip h z TI TO .none ∧ IsTupOf2 h TI (.ref i1) (.ref i2) ∧ (∃ x y, IsTupOf2 h TO x y) ∧ h.IsListIter i1 a i ∧ h.IsTupleIter i2 b i) where
  mem := by simp
  obj := fun i h st c hc => by
    obtain ⟨_, _, hz, q1, ⟨x, y, q2⟩, ⟨o1, e1, _, d1⟩, ⟨o2, e2, _, d2⟩⟩ := st
    have e' : c = z ∨ c = TI ∨ c = TO ∨ c = i1 ∨ c = i2 := by simpa using hc
    rcases e' with rfl | rfl | rfl | rfl | rfl
    · exact ⟨_, hz, fun v q => nomatch q⟩
    · exact ⟨_, q1, fun v q => nomatch q⟩
    · exact ⟨_, q2, fun v q => nomatch q⟩
    · exact ⟨o1, e1, fun v q => by rw [d1] at q; cases q⟩
    · exact ⟨o2, e2, fun v q => by rw [d2] at q; cases q⟩
  keep := fun i h h' st k => by
    obtain ⟨l1, l2, hz, q1, ⟨x, y, q2⟩, h1, h2⟩ := st
    exact ⟨l1, l2, k z (by simp) _ hz, k TI (by simp) _ q1, ⟨x, y, k TO (by simp) _ q2⟩, h1.at fun o q => k i1 (by simp) o q, h2.at fun o q => k i2 (by simp) o q⟩
  item := by
    intro X hP hw hK hc i pins s σ H E I hf st hg
    subst hP hw hK
    obtain ⟨l1, l2, hz, q1, ⟨x0, y0, q2⟩, h1, h2⟩ := st
    obtain ⟨g1, g2, xs, ys, x, y, hqx, hqy, hm, hn, hx, hy⟩ := hg
    obtain ⟨its, rv, p, _⟩ := I.list hqx
    obtain ⟨its2, rv2, p2, sz2⟩ := I.tuple hqy
    obtain ⟨u, hu, ru⟩ := rv.get hx
    obtain ⟨u2, hu2, ru2⟩ := rv2.get hy
    have len1 := rv.length
    have len2 := rv2.length
    have hzl : z < s.heap.objs.size := Heap.lt_size hz
    have hd : X.A.in1.handled = none := (I.ok.hd hc)
    have D1 := Draws.list (prog := X.prog) (w := X.w) (A := X.A.in1) hd i1 a D.e8 its.toArray
    have D2 := Draws.tuple (prog := X.prog) (w := X.w) (A := X.A.in1) hd i2 b D.e9 its2.toArray
    refine wpAny_pyNext_zipD2_item (i := i) D.two D1 D2 hz q1 q2 ⟨h1, p.isList⟩ ⟨h2, p2⟩ (by simp only [List.size_toArray]; omega) (by simp only [List.size_toArray]; omega) fun x1 x2 h' tk y1 y2 b1 b2 c1 c2 b5 b6 hk => ?_
    have ex1 : x1 = u := by
      have y1 : its.toArray[i]? = some x1 := y1
      rw [List.getElem?_toArray, hu] at y1
      exact (Option.some.inj y1).symm
    have ex2 : x2 = u2 := by
      have y2 : its2.toArray[i]? = some x2 := y2
      rw [List.getElem?_toArray, hu2] at y2
      exact (Option.some.inj y2).symm
    subst ex1 ex2
    refine ⟨_, rfl, wpAny_letOwnedTupleGo_zip (s := { s with heap := h', toks := tk }) b1 fun h'' z'' sb => ?_⟩
    have hT2 : h''.get? s.heap.objs.size = some { cls := .type "tuple", data := .seq #[x1, x2] } := (sb.2 _ (Nat.ne_of_gt hzl)).trans b5
    have new : ObjOk X.prog X.w (upd H s.heap.objs.size (.tup [x, y])) h'' s.heap.objs.size (.tup [x, y]) :=
      ⟨by show 2 ≤ sizeLine; decide, [x1, x2], .cons ru (.cons ru2 .nil), ⟨_, hT2, rfl, _, rfl⟩⟩
    have I1 : Inv X pins σ (upd H s.heap.objs.size (.tup [x, y])) { s with heap := h'', toks := tk } :=
      I.turnedNew (t' := tk) (ch := [z, TI, TO, i1, i2]) (fun c o hb q => (sb.2 c (fun q' => hb (by simp [q']))).trans (hk c o (fun q' => hb (by simp [q'])) (fun q' => hb (by simp [q'])) (fun q' => hb (by simp [q'])) (fun q' => hb (by simp [q'])) q)) hf (Nat.le_refl _) new
    refine ⟨.ref s.heap.objs.size, _, I1, rfl, ⟨_, x, y, rfl, I.hok.fresh (Nat.le_refl _), rfl, fun l hl => by rw [I.list_inj hl hqx]; exact hx, fun l hl => by rw [I.tuple_inj hl hqy]; exact hy⟩, ⟨by omega, by omega, z'', ?_, ⟨x1, x2, ?_⟩, ?_, ?_⟩, fun c hcm => ?_⟩
    · exact (sb.2 _ D.d1).trans (hk _ _ D.d1 D.d3 D.d4 D.d5 q1)
    · exact (sb.2 _ D.d2).trans b2
    · exact c1.1.at fun o q => (sb.2 _ D.d6.symm).trans q
    · exact c2.1.at fun o q => (sb.2 _ D.d7.symm).trans q
    · have hlt : c < s.heap.objs.size := by
        have e' : c = z ∨ c = TI ∨ c = TO ∨ c = i1 ∨ c = i2 := by simpa using hcm
        rcases e' with rfl | rfl | rfl | rfl | rfl
        · exact hzl
        · exact Heap.lt_size q1
        · exact Heap.lt_size q2
        · obtain ⟨_, e1, _⟩ := h1; exact Heap.lt_size e1
        · obtain ⟨_, e2, _⟩ := h2; exact Heap.lt_size e2
      rw [upd_ne (Nat.ne_of_lt hlt)]
      exact (hf c hcm).1
  done := by
    intro X hP hw hK hc i pins s σ H E I hf st hg
    subst hP hw hK
    obtain ⟨l1, l2, hz, q1, ⟨x0, y0, q2⟩, h1, h2⟩ := st
    obtain ⟨⟨xs, ys, hqx, hqy, hm, hn⟩, hend⟩ := hg
    obtain ⟨its, rv, p, _⟩ := I.list hqx
    obtain ⟨its2, rv2, p2, sz2⟩ := I.tuple hqy
    have len1 := rv.length
    have len2 := rv2.length
    have hd : X.A.in1.handled = none := (I.ok.hd hc)
    have D1 := Draws.list (prog := X.prog) (w := X.w) (A := X.A.in1) hd i1 a D.e8 its.toArray
    have D2 := Draws.tuple (prog := X.prog) (w := X.w) (A := X.A.in1) hd i2 b D.e9 its2.toArray
    exact wpAny_pyNext_zipD2_end (i := i) D.two D1 D2 hz q1 q2 ⟨h1, p.isList⟩ ⟨h2, p2⟩ (by simp only [List.size_toArray]; omega) (by simp only [List.size_toArray]; omega) (by simp only [List.size_toArray]; omega) fun h' tk hk => ⟨rfl, I.turnedL (t' := tk) (ch := [z, TI, TO, i1, i2]) (fun c o hb q =>
      hk c o (fun q' => hb (by simp [q'])) (fun q' => hb (by simp [q'])) (fun q' => hb (by simp [q'])) (fun q' => hb (by simp [q'])) q) hf⟩
  self := fun A i s Q E st h => wpAny_pyIter_zip st.2.2.1 h
def iZipM (K : PySem.W.Frag) (ta : TA) : TI := fun σ H R => ta σ H fun vs H2 => ∃ a b xs ys, vs = [.ref a, .ref b] ∧ ((SqL K H2 a xs ∧ SqL K H2 b ys ∧ R (Itz K a b) H2) ∨ (SqT K H2 a xs ∧ SqT K H2 b ys ∧ R (RZ.ItzT K a b) H2) ∨ (SqL K H2 a xs ∧ SqT K H2 b ys ∧ R (ItzM K a b xs.length ys.length) H2))
theorem pi_zipM {X : Cx} {e e2 : Expr} {ta : TA} {p pos tpos : Pos} {elts : List Expr} {kk : Nat} (hg : Gl X "zip") (hm : X.mg "zip" = none) (ha : PA X [e, e2] ta)
    (hs : starEach [e, e2] X.env = (false, eval e X.env) :: starEach [e2] X.env := by rfl) (hpl : (backTo pos (starEach [e2] X.env)).any (·.1) = false := by rfl) :
    PI X (.Tuple elts kk tpos) (.Call (.Name "zip" p) [e, e2] [] pos) (iZipM X.K ta) := by
  refine ⟨fun pins s σ H R I h => ?_⟩
  refine Call_ (ld_blt I hg hm PyProof.Rows.boot_zip (PyProof.Rows.callWith_type1 (thn (ha.run pos pins s σ H _ I h) fun us s2 ⟨vs, H2, I2, r2, q2⟩ => ?_) hs hpl))
  obtain ⟨a, b, xs, ys, rfl, q2⟩ := q2
  obtain ⟨u, us, r, rr, rfl⟩ : ∃ u us', RelV (.ref a) u ∧ Vals [.ref b] us' ∧ us = u :: us' := by cases r2 with | cons r rr => exact ⟨_, _, r, rr, rfl⟩
  obtain ⟨u2, us2, r', rr', rfl⟩ : ∃ u us', RelV (.ref b) u ∧ Vals [] us' ∧ us = u :: us' := by cases rr with | cons r rr => exact ⟨_, _, r, rr, rfl⟩
  cases rr'
  obtain rfl : u = Value.ref a := r
  obtain rfl : u2 = Value.ref b := r'
  have fresh5 : ∀ c, c ∈ [s2.heap.objs.size + 4, s2.heap.objs.size + 2, s2.heap.objs.size + 3, s2.heap.objs.size, s2.heap.objs.size + 1] → FpOk X pins H2 c := fun c hcm => by
    have hle : s2.heap.objs.size ≤ c := by
      have e' : c = s2.heap.objs.size + 4 ∨ c = s2.heap.objs.size + 2 ∨ c = s2.heap.objs.size + 3 ∨ c = s2.heap.objs.size ∨ c = s2.heap.objs.size + 1 := by simpa using hcm
      rcases e' with rfl | rfl | rfl | rfl | rfl
      · exact Nat.le_add_right _ 4
      · exact Nat.le_add_right _ 2
      · exact Nat.le_add_right _ 3
      · exact Nat.le_refl _
      · exact Nat.le_add_right _ 1
    exact I2.fpOk hle (I2.hok.fresh hle)
  rcases q2 with ⟨hqx, hqy, q⟩ | ⟨hqx, hqy, q⟩ | ⟨hqx, hqy, q⟩
  · obtain ⟨its, rv, p1, _⟩ := I2.list hqx
    obtain ⟨its2, rv2, p2, _⟩ := I2.list hqy
    refine call_zip_2 p1.isList p2.isList fun h' hz hTI hTO h1 h2 hsz hk => wpAny_pyIter_zip hz ?_
    exact ⟨s2.heap.objs.size + 4, [s2.heap.objs.size + 4, s2.heap.objs.size + 2, s2.heap.objs.size + 3, s2.heap.objs.size, s2.heap.objs.size + 1], _, _, H2, rfl, I2.kept (t' := s2.toks) hk, turn_zip (PySem.W.ktu_apart s2.heap.objs.size a b p1.lt p2.lt), ⟨hz, hTI, ⟨_, _, hTO⟩, h1, h2⟩, fresh5, q⟩
  · obtain ⟨its, rv, p1, _⟩ := I2.tuple hqx
    obtain ⟨its2, rv2, p2, _⟩ := I2.tuple hqy
    obtain ⟨o1, ho1, _⟩ := id p1
    obtain ⟨o2, ho2, _⟩ := id p2
    refine RZ.call_zipT (show s2.heap.IsTuple a its.toArray from p1) (show s2.heap.IsTuple b its2.toArray from p2) fun h' hz hTI hTO h1 h2 hsz hk => wpAny_pyIter_zip hz ?_
    exact ⟨s2.heap.objs.size + 4, [s2.heap.objs.size + 4, s2.heap.objs.size + 2, s2.heap.objs.size + 3, s2.heap.objs.size, s2.heap.objs.size + 1], _, _, H2, rfl, I2.kept (t' := s2.toks) hk, RZ.turn_zipT (PySem.W.ktu_apart s2.heap.objs.size a b (Heap.lt_size ho1) (Heap.lt_size ho2)), ⟨hz, hTI, ⟨_, _, hTO⟩, h1, h2⟩, fresh5, q⟩
  · obtain ⟨its, rv, p1, _⟩ := I2.list hqx
    obtain ⟨its2, rv2, p2, _⟩ := I2.tuple hqy
    have p2s : Heap.IsTuple s2.heap b its2.toArray := p2
    obtain ⟨o2, ho2, _⟩ := id p2s
    have na : ∀ k : Nat, s2.heap.objs.size + k ≠ a := fun k e => by
      have la := p1.lt
      rw [← e] at la
      exact absurd la (Nat.not_lt.mpr (Nat.le_add_right _ _))
    have nb : ∀ k : Nat, s2.heap.objs.size + k ≠ b := fun k e => by
      have lb := Heap.lt_size ho2
      rw [← e] at lb
      exact absurd lb (Nat.not_lt.mpr (Nat.le_add_right _ _))
    refine zip_begins2 (begins_list a its.toArray) (begins_tuple b its2.toArray) p1.isList p2s fun h' hz hTI hTO h1 h2 hsz hk => wpAny_pyIter_zip hz ?_
    refine ⟨s2.heap.objs.size + 4, [s2.heap.objs.size + 4, s2.heap.objs.size + 2, s2.heap.objs.size + 3, s2.heap.objs.size, s2.heap.objs.size + 1], _, _, H2, rfl, I2.kept (t' := s2.toks) hk, turn_zipM xs.length ys.length ?_, ⟨Nat.zero_le _, Nat.zero_le _, hz, hTI, ⟨_, _, hTO⟩, ⟨_, h1, rfl, rfl⟩, ⟨_, h2, rfl, rfl⟩⟩, fresh5, q⟩
    have ne : ∀ {i j : Nat}, i ≠ j → s2.heap.objs.size + i ≠ s2.heap.objs.size + j := fun h e => h (Nat.add_left_cancel e)
    exact ⟨ne (i := 2) (j := 4) (by decide), ne (i := 3) (j := 4) (by decide), ne (i := 2) (j := 3) (by decide), ne (i := 2) (j := 0) (by decide), ne (i := 2) (j := 1) (by decide), ne (i := 4) (j := 0) (by decide), ne (i := 4) (j := 1) (by decide), na 4, nb 4, ne (i := 3) (j := 0) (by decide), ne (i := 3) (j := 1) (by decide), na 3, nb 3, ne (i := 0) (j := 1) (by decide), nb 0, na 1, (na 0).symm, (nb 1).symm⟩
section
variable {T : List Addr} {X : Cx}
theorem yields_zipM {K : PySem.W.Frag} {F : Hp} {a b : Addr} {xs ys : List V} {ds es : List PV} (h1 : SqL K F a xs) (h2 : SqT K F b ys) (r1 : Reps K F xs ds) (r2 : Reps K F ys es) : Yields T K (ItzM K a b xs.length ys.length) (zipL ds es) F := fun g i F' H σ env R s => by
  have hA : SqL K H a xs := SqL.mono R.sub (SqL.mono s h1)
  have hB : SqT K H b ys := SqT.mono R.sub (SqT.mono s h2)
  have l2 := r2.len
  have l1 := r1.len
  rw [zipL_get]
  cases hx : ds[i]? with
  | none =>
    refine ⟨fun d hd => (by cases hd), fun _ => ⟨⟨xs, ys, hA, hB, rfl, rfl⟩, .inl ?_⟩⟩
    have := List.getElem?_eq_none_iff.mp hx
    omega
  | some x =>
    cases hy : es[i]? with
    | none =>
      refine ⟨fun d hd => (by cases hd), fun _ => ⟨⟨xs, ys, hA, hB, rfl, rfl⟩, .inr ?_⟩⟩
      have := List.getElem?_eq_none_iff.mp hy
      omega
    | some y =>
      refine ⟨fun d hd => ?_, fun z => (by cases z)⟩
      cases hd
      obtain ⟨v, hv, rv⟩ := r1.get hx
      obtain ⟨w, hw, rw'⟩ := r2.get hy
      obtain ⟨ix, _⟩ := List.getElem?_eq_some_iff.mp hv
      obtain ⟨iy, _⟩ := List.getElem?_eq_some_iff.mp hw
      refine ⟨⟨ix, iy, xs, ys, v, w, hA, hB, rfl, rfl, hv, hw⟩, fun z H' hz => ?_⟩
      obtain ⟨t, v2, w2, rfl, hT, rfl, e1, e2⟩ := hz
      have q1 := e1 xs hA
      have q2 := e2 ys hB
      rw [hv] at q1; cases q1
      rw [hw] at q2; cases q2
      obtain ⟨R2, s2⟩ := R.laidF (o := .tup [v, w]) hT
      exact ⟨_, R2, s2, .tup (.inl upd_same) (.cons (rv.mono (s.trans s2)) (.cons (rw'.mono (s.trans s2)) .nil))⟩
/-- zip of two lists, of two tuples, of a list and a tuple -/
def wZipM (f : AF) : AF := fun env => match f env with
  | some ([.list xs, .list ys], e) => some (zipL xs ys, e)
  | some ([.tuple xs, .tuple ys], e) => some (zipL xs ys, e)
  | some ([.list xs, .tuple ys], e) => some (zipL xs ys, e)
  | _ => none
theorem fi_zipM {a b : Expr} {elts : List Expr} {kk : Nat} {tpos p pos : Pos} {f : AF} (hg : Gl X "zip") (hm : X.mg "zip" = none) (ha : FA T X [a, b] f)
    (hs : starEach [a, b] X.env = (false, eval a X.env) :: starEach [b] X.env := by rfl) (hpl : (backTo pos (starEach [b] X.env)).any (·.1) = false := by rfl) : FI T X (.Tuple elts kk tpos) (.Call (.Name "zip" p) [a, b] [] pos) (wZipM f) :=
  (pi_zipM hg hm ha hs hpl).weak fun σ H Q ⟨gh, F, env, ds, env', R, e, q⟩ => by
    unfold wZipM at e
    split at e
    · rename_i xs ys e1 ef
      cases e
      refine ⟨gh, F, env, _, _, R, ef, fun vs H1 F1 R1 s1 r1 => ?_⟩
      cases r1 with
      | cons ra r2 => cases r2 with
        | cons rb r3 =>
          cases r3
          cases ra with
          | lst h1 rr1 => cases rb with
            | lst h2 rr2 => exact ⟨_, _, _, _, rfl, .inl ⟨.inl (.inl (R1.sub _ _ h1)), .inl (.inl (R1.sub _ _ h2)), q _ _ _ R1 s1 (yields_zip (.inl (.inl h1)) (.inl (.inl h2)) rr1 rr2)⟩⟩
    · rename_i xs ys e1 ef
      cases e
      refine ⟨gh, F, env, _, _, R, ef, fun vs H1 F1 R1 s1 r1 => ?_⟩
      cases r1 with
      | cons ra r2 => cases r2 with
        | cons rb r3 =>
          cases r3
          cases ra with
          | tup h1 rr1 => cases rb with
            | tup h2 rr2 => exact ⟨_, _, _, _, rfl, .inr (.inl ⟨SqT.mono R1.sub (sqT h1), SqT.mono R1.sub (sqT h2), q _ _ _ R1 s1 (yields_zipT (sqT h1) (sqT h2) rr1 rr2)⟩)⟩
    · rename_i xs ys e1 ef
      cases e
      refine ⟨gh, F, env, _, _, R, ef, fun vs H1 F1 R1 s1 r1 => ?_⟩
      cases r1 with
      | cons ra r2 => cases r2 with
        | cons rb r3 =>
          cases r3
          cases ra with
          | lst h1 rr1 => cases rb with
            | tup h2 rr2 => exact ⟨_, _, _, _, rfl, .inr (.inr ⟨.inl (.inl (R1.sub _ _ h1)), SqT.mono R1.sub (sqT h2), q _ _ _ R1 s1 (yields_zipM (.inl (.inl h1)) (sqT h2) rr1 rr2)⟩)⟩
    · cases e
end
end Fx

namespace Fx
open PySem PySem.Spec L2
open PyProof.Rows hiding St
def eqAt : List Value → List PV → Bool
  | [], [] => true
  | .int i _ :: r, .int j :: t => decide (i = j) && eqAt r t
  | .str x _ :: r, .str y :: t => decide (x = y) && eqAt r t
  | _, _ => false
def TuC (K : PySem.W.Frag) (a : Addr) (ds : List PV) : Prop := ∃ xs : List V, (∀ H, SqT K H a xs) ∧ ∀ F, Reps K F xs ds
theorem eqAt_ok {K : PySem.W.Frag} : ∀ {its : List Value} {ds : List PV}, eqAt its ds = true → ∃ xs : List V, Vals xs its ∧ ∀ F, Reps K F xs ds
  | [], [], _ => ⟨[], .nil, fun _ => .nil⟩
  | [], _ :: _, h => by cases h
  | .int i t :: r, ds, h => by
    cases ds with
    | nil => cases h
    | cons d ds =>
      cases d with
      | int j =>
        have g : (decide (i = j) && eqAt r ds) = true := h
        rw [Bool.and_eq_true, decide_eq_true_eq] at g
        obtain ⟨rfl, g2⟩ := g
        obtain ⟨xs, h1, h2⟩ := eqAt_ok (K := K) g2
        exact ⟨.int i :: xs, .cons ⟨t, rfl⟩ h1, fun F => .cons (.int i) (h2 F)⟩
      | _ => cases h
  | .str x t :: r, ds, h => by
    cases ds with
    | nil => cases h
    | cons d ds =>
      cases d with
      | str y =>
        have g : (decide (x = y) && eqAt r ds) = true := h
        rw [Bool.and_eq_true, decide_eq_true_eq] at g
        obtain ⟨rfl, g2⟩ := g
        obtain ⟨xs, h1, h2⟩ := eqAt_ok (K := K) g2
        exact ⟨.str x :: xs, .cons ⟨t, rfl⟩ h1, fun F => .cons (.str x) (h2 F)⟩
      | _ => cases h
  | .none :: _, _, h => by cases h
  | .bool _ :: _, _, h => by cases h
  | .ref _ :: _, _, h => by cases h
  | .type _ :: _, _, h => by cases h
  | .builtin _ :: _, _, h => by cases h
  | .ellipsis :: _, _, h => by cases h
  | .notImplemented :: _, _, h => by cases h
  | .float _ _ :: _, _, h => by cases h
  | .bytes _ _ :: _, _, h => by cases h
def tuB (K : PySem.W.Frag) (c : Str × List PV) : Bool := match PySem.W.nsIn K mainGlobals c.1 with
  | some (some (.ref a)) => (match K.lookup a with
    | some o => decide (o.cls = .type "tuple") && (match o.data with
      | .seq its n => decide (its.size ≤ sizeLine) && eqAt its.toList c.2
      | _ => false)
    | none => false)
  | _ => false
theorem tuB_ok {K : PySem.W.Frag} {x : Str} {ds : List PV} (c : tuB K (x, ds) = true) {h : Heap} {mg : Str → Option Value} (X : K.In h) (G : h.Ns mainGlobals mg) : ∃ a, mg x = some (.ref a) ∧ TuC K a ds := by
  unfold tuB at c
  split at c
  · rename_i a e
    split at c
    · rename_i o ho
      rw [Bool.and_eq_true, decide_eq_true_eq] at c
      obtain ⟨hc, c⟩ := c
      split at c
      · rename_i its n hd
        rw [Bool.and_eq_true, decide_eq_true_eq] at c
        obtain ⟨xs, h1, h2⟩ := eqAt_ok (K := K) c.2
        exact ⟨a, PySem.W.mg_of X G e, xs, fun H => .inr ⟨o, its, n, ho, hc, hd, c.1, h1⟩, h2⟩
      · cases c
    · cases c
  · cases c
abbrev blZ (bl : List (Str × String)) (tu : List (Str × List PV)) : PySem.W.Frag → Bool := fun K => blX bl K && tu.all (tuB K)
abbrev hookZ (n : Nat) (bl : List (Str × String)) (tu : List (Str × List PV)) (fa : List He.Fa) (fn : List He.DefD) (tf : List He.Defn) : PySem.W.Hook := He.hookX n fa fn [] tf (blZ bl tu)
theorem blZ_bl {bl : List (Str × String)} {tu : List (Str × List PV)} {K : PySem.W.Frag} (c : blZ bl tu K = true) : blX bl K = true := (He.ba c).1
theorem blZ_tu {bl : List (Str × String)} {tu : List (Str × List PV)} {K : PySem.W.Frag} (c : blZ bl tu K = true) {h : Heap} {mg : Str → Option Value} (X : K.In h) (G : h.Ns mainGlobals mg) (i : Nat) {x : Str} {ds : List PV} (e : tu[i]? = some (x, ds) := by rfl) : ∃ a, mg x = some (.ref a) ∧ TuC K a ds :=
  tuB_ok (List.all_eq_true.mp (He.ba c).2 _ (List.mem_of_getElem? e)) X G
section
variable {T : List Addr} {X : Cx}
theorem fe_globT {x : Str} {a : Addr} {ds : List PV} {pos : Pos} (hk : kDat ds = true) (u : TuC X.K a ds) (hm : X.mg x = some (.ref a)) (hg : Gl X x := by rfl) (hd : (x == ("__debug__" : Str)) = false := by decide) : FE T X (.Name x pos) (kE (.tuple ds)) := by
  obtain ⟨xs, h1, h2⟩ := u
  exact fe_val (pe_glob hg hm (v := .ref a) rfl hd) fun F => .tup (.inr ⟨hk, h1 F⟩) (h2 F)
end
theorem join_rev {prog : Program} {w : World} {A : Around} {E : Value → Shared → Prop} {s : Shared} {x : Str} {t : Tok} {ys : List Str} {it l : Addr} {us : List Value} {Q : Value → Shared → Prop} (hh : A.handled = none) (hit : s.heap.IsRevIter it l ((us.toArray.size : Int) - 1)) (hl : s.heap.IsList l us.toArray) (hne : l ≠ it) (hn : us.toArray.size ≤ sizeLine)
    (hv : Vals (ys.map V.str) us) (hok : (ys.reverse.map (·.length)).sum + ys.reverse.length * x.length ≤ 16777216)
    (hq : ∀ h' t' k, (∀ b o, b ≠ it → s.heap.get? b = some o → h'.get? b = some o) → Q (.str (Txt.join x ys.reverse) t') { s with heap := h', toks := k }) :
    wpAny (model prog w) A (call (.builtin "str.join") [.str x t, .ref it]) Q E s := by
  have tl : s.TypeIs (.ref it) "list_reverseiterator" := hit.typeIs
  refine wpAny_call (codeAny_call_builtin F.slot_str_join.plain F.entry_str_join (F.slot_str_join.check _ _ _ _ _ _ _ _ (typeIs_str _ _ _) (F.args_str_join_2 _ _) ?_)); rw [join_tree_other]; refine wpAny_bind (wpAny_typeOf tl ?_)
  show wpAny _ A.in1 ((pyIter (.ref it)).tryCatch _ >>= fun it => collect it >>= fun items => joinTail x items) _ _ s
  refine wpAny_bind (wpAny_tryCatch (wpAny_pyIter_revIter hit ?_)); refine wpAny_bind (RT.collect_rev (A := A.in1) hh hit hl hne hn fun h' tk acc hk hacc => ?_)
  have rv : Vals (ys.map V.str).reverse acc.toList := RT.vals_rev hv hacc
  rw [← List.map_reverse] at rv
  obtain ⟨z, ez, et⟩ := strsAre_values (strs_of_vals rv)
  rw [ez]
  have ok2 := joinOk_of hok
  rw [← et] at hq
  rw [← et] at ok2
  unfold JoinOk at ok2
  rw [Bool.not_eq_true'] at ok2
  have g : Gives (joinTail x (strValues z)) (joinMade x z) := by
    have g0 := gives_joinTail x z ok2
    rcases z with _ | ⟨p, _ | ⟨q, r'⟩⟩ <;> exact g0
  exact g prog w A (wants Q E) _ (post_join z ⟨joinFit_length ok2, fun t' k => hq h' t' k hk⟩)
def tJoinRev (K : PySem.W.Frag) (to te : TE) : TE := fun σ H Q => to σ H fun x H1 => (∃ a, x = .str a) ∧ te σ H1 fun y H2 => ∃ (a : Str) (p : Addr) (ys : List Str), x = .str a ∧ y = .ref p ∧ SqL K H2 p (ys.map V.str) ∧ (ys.reverse.map (·.length)).sum + ys.reverse.length * a.length ≤ 16777216 ∧ Q (.str (Txt.join a ys.reverse)) H2
theorem pe_joinRev {X : Cx} {o e : Expr} {to te : TE} {apos pos p pos2 : Pos} (hcm : X.calm = true) (ho : PE X o to) (hg : Gl X "reversed") (hm : X.mg "reversed" = none) (he : PE X e te)
    (hs1 : starEach [.Call (.Name "reversed" p) [e] [] pos2] X.env = [(false, eval (.Call (.Name "reversed" p) [e] [] pos2) X.env)] := by rfl)
    (hs : starEach [e] X.env = (false, eval e X.env) :: starEach [] X.env := by rfl)
    (hbase : attributeBase o "join" X.env (eval o X.env) = eval o X.env := by rfl) (hline : (apos.endLine == pos.line) = true := by rfl) :
    PE X (.Call (.Attribute o "join" apos) [.Call (.Name "reversed" p) [e] [] pos2] [] pos) (tJoinRev X.K to te) := by
  refine ⟨fun pins s σ H Q I h => ?_⟩
  refine PySem.Call_method1 hbase hs1 hline (thn (ho.run pins s σ H _ I h) fun v s1 ⟨x, H1, I1, r1, q1⟩ => ?_)
  obtain ⟨⟨a, rfl⟩, q1⟩ := q1
  obtain ⟨t, rfl⟩ := _root_.id r1
  refine ⟨"str", _, F.plainAttrs_str, F.slot_str_join, F.type_str_join, typeIs_str _ _ _, (fun _ e => nomatch e), Calls.callWith_builtin rfl (Calls.evalArgs_plain (Calls.spliced_cons ?_))⟩
  refine Call_ (ld_blt I1 hg hm PyProof.Rows.boot_reversed (PyProof.Rows.callWith_type1 (args_cons (thn (he.run pins s1 σ H1 _ I1 q1) fun u s2 ⟨v2, H2, I2, r2, q2⟩ => args_nil ?_) hs) hs rfl))
  obtain ⟨a2, q, ys, ea, rfl, hq, hz, q2⟩ := q2
  cases ea
  obtain rfl : u = Value.ref q := r2
  obtain ⟨its, rv, p', sz⟩ := I2.list hq
  have hl := rv.length
  refine call_reversed_list p'.isList (Calls.spliced_nil ?_)
  have k0 : ∀ c o, s2.heap.get? c = some o → (s2.heap.push (revObj q ((its.toArray.size : Int) - 1))).get? c = some o := fun c o e => Heap.get?_push_of_some _ e
  have ne : q ≠ s2.heap.objs.size := fun e => by
    have := p'.lt
    rw [e] at this
    exact absurd this (Nat.lt_irrefl _)
  refine join_rev (s := { s2 with heap := s2.heap.push (revObj q ((its.toArray.size : Int) - 1)) }) (x := a) (t := t) (Q := EP X pins σ Q) (E := X.xe) (I2.ok.hd hcm) ⟨_, Heap.get?_push_size _ rfl, rfl, rfl⟩ (p'.isList.push _) ne (by simp only [List.size_toArray]; omega) rv hz fun h' t' k hk => ?_
  refine ⟨.str _, H2, I2.kept (t' := k) fun c o e => hk c o (fun z => ?_) (k0 _ _ e), ⟨t', rfl⟩, q2⟩
  rw [z] at e
  exact absurd (Heap.lt_size e) (Nat.lt_irrefl _)
section
variable {T : List Addr} {X : Cx}
def pJoinR (a : Str) : PV → Option PV
  | .list ds => match strsOf ds with
    | none => none
    | some zs => if (zs.reverse.map (·.length)).sum + zs.reverse.length * a.length ≤ 16777216 then some (.str (Txt.join a zs.reverse)) else none
  | _ => none
def eJoinR (fo f : EF) : EF := fun env => match fo env with
  | some (.str a, e) => (match f e with
    | none => none
    | some (d, e2) => match pJoinR a d with
      | none => none
      | some r => some (r, e2))
  | _ => none
theorem fe_joinR {o a : Expr} {apos pos p pos2 : Pos} {fo f : EF} (hcm : X.calm = true) (hg : Gl X "reversed") (hm : X.mg "reversed" = none) (ho : FE T X o fo) (ha : FE T X a f)
    (hs1 : starEach [.Call (.Name "reversed" p) [a] [] pos2] X.env = [(false, eval (.Call (.Name "reversed" p) [a] [] pos2) X.env)] := by rfl)
    (hs : starEach [a] X.env = (false, eval a X.env) :: starEach [] X.env := by rfl)
    (hbase : attributeBase o "join" X.env (eval o X.env) = eval o X.env := by rfl) (hline : (apos.endLine == pos.line) = true := by rfl) :
    FE T X (.Call (.Attribute o "join" apos) [.Call (.Name "reversed" p) [a] [] pos2] [] pos) (eJoinR fo f) :=
  (pe_joinRev hcm ho hg hm ha hs1 hs hbase hline).weak fun σ H Q ⟨gh, F, env, d, env', R, e, q⟩ => by
    unfold eJoinR at e
    split at e
    · rename_i z e1 ef
      split at e
      · cases e
      · rename_i d2 e2 eg
        split at e
        · cases e
        · rename_i r er
          cases e
          refine ⟨gh, F, env, _, _, R, ef, fun v H1 F1 R1 s1 r1 => ⟨⟨z, r1.str_iff⟩, gh, F1, _, _, _, R1, eg, fun y H2 F2 R2 s2 r2 => ?_⟩⟩
          unfold pJoinR at er
          split at er
          · split at er
            · cases er
            · rename_i zs hz
              split at er
              · rename_i hl
                cases er
                cases r2 with
                | lst h rr =>
                  have := strsOf_eq rr hz
                  subst this
                  exact ⟨z, _, zs, r1.str_iff, rfl, .inl (.inl (R2.sub _ _ h)), hl, q _ _ _ R2 (s1.trans s2) (.str _)⟩
              · cases er
          · cases er
    · cases e
end
section
variable {X : Cx}
def rTupD (K : PySem.W.Frag) (g : Bool → Bool) : R2 := fun x y H Q => ∃ d ds, Dp K H x d ∧ Dp K H y (.tuple ds) ∧ SeqAt.shaped d = true ∧ SeqAt.shaped (.tuple ds) = true ∧ Q (.bl (g (ds.any fun z => PyData.eqv z d))) H
theorem op_inTD (hu : X.A.units + 65 < cLine) : OpR X (compareOp .In) (rTupD X.K id) := by
  intro pins s σ H x y v u Q I rx ry ⟨d, ds, hd, he, sd, se, q⟩
  obtain ⟨as, r1⟩ := Dp.reads I d x v hd rx
  obtain ⟨bs, r2⟩ := Dp.reads I (.tuple ds) y u he ry
  exact SeqAt.in_tuple_reads r2 r1 (SeqAt.canLay_of_shaped se) (SeqAt.canLay_of_shaped sd) (room_in_shaped sd hu) ⟨.bl _, H, I, rfl, q⟩
theorem op_notInTD (hu : X.A.units + 65 < cLine) : OpR X (compareOp .NotIn) (rTupD X.K not) := by
  intro pins s σ H x y v u Q I rx ry ⟨d, ds, hd, he, sd, se, q⟩
  obtain ⟨as, r1⟩ := Dp.reads I d x v hd rx
  obtain ⟨bs, r2⟩ := Dp.reads I (.tuple ds) y u he ry
  exact SeqAt.notIn_tuple_reads r2 r1 (SeqAt.canLay_of_shaped se) (SeqAt.canLay_of_shaped sd) (room_in_shaped sd hu) ⟨.bl _, H, I, rfl, q⟩
def pInT (g : Bool → Bool) : PV → PV → Option PV
  | d, .tuple ds => if noDict d && noDict (.tuple ds) && SeqAt.shaped d && SeqAt.shaped (.tuple ds) then some (.bool (g (ds.any fun z => PyData.eqv z d))) else none
  | _, _ => none
theorem of_inT {T : List Addr} {K : PySem.W.Frag} (b : Bool → Bool) : OpF T K (rTupD K b) (pInT b) := by
  intro gh F H σ env x y d1 d2 d Q R ra rb e q
  unfold pInT at e
  split at e
  · split at e
    · rename_i hc
      cases e
      simp only [Bool.and_eq_true] at hc
      exact ⟨_, _, ra.dp R.sub hc.1.1.1, rb.dp R.sub hc.1.1.2, hc.1.2, hc.2, q _ _ _ R (Same.refl _) (.bl _)⟩
    · cases e
  · cases e
end
end Fx

namespace Fx
open PySem PySem.Spec L2
open PyProof.Rows hiding St

/-- what is known of a slot -/
inductive Fc where
  | va (d : PV) | rd (d : PV) | ow (d : PV) | io (d : PV)
def Fc.ok : Fc → Sl → Prop
  | .va d, s => s = .va d
  | .rd d, s => s = .va d ∨ s = .ow d
  | .ow d, s => s = .ow d
  | .io d, s => s = .io d
def Fc.d : Fc → PV
  | .va d => d
  | .rd d => d
  | .ow d => d
  | .io d => d
abbrev KS := List (Nat × Fc)
def lk : KS → Nat → Option Fc
  | [], _ => none
  | (j, c) :: r, i => match Nat.beq j i with
    | true => some c
    | false => lk r i
structure Kn (n : Nat) (io : List Nat) (st : KS) (env : Ev) : Prop where
  len : env.length = n
  get : ∀ i c, lk st i = some c → ∃ s, env[i]? = some s ∧ c.ok s
  nio : ∀ i d, env[i]? = some (.io d) → i ∈ io
variable {n : Nat} {io : List Nat} {st st1 st2 st3 st4 : KS}
theorem lk_cons_same {i : Nat} {c : Fc} : lk ((i, c) :: st) i = some c := by
  unfold lk
  rw [show Nat.beq i i = true from Nat.beq_refl i]
theorem lk_cons_ne {i j : Nat} {c : Fc} (h : j ≠ i) : lk ((j, c) :: st) i = lk st i := by
  have : Nat.beq j i = false := by
    cases e : Nat.beq j i with
    | false => rfl
    | true => exact absurd (Nat.eq_of_beq_eq_true e) h
  show (match Nat.beq j i with | true => some c | false => lk st i) = lk st i
  rw [this]

def EE (n : Nat) (io : List Nat) (st : KS) (f : EF) (d : PV) (st' : KS) : Prop := ∀ env, Kn n io st env → ∃ e', f env = some (d, e') ∧ Kn n io st' e'
def EAs (n : Nat) (io : List Nat) (st : KS) (f : AF) (ds : List PV) (st' : KS) : Prop := ∀ env, Kn n io st env → ∃ e', f env = some (ds, e') ∧ Kn n io st' e'
def ET (n : Nat) (io : List Nat) (st : KS) (f : TF) (b : Bool) (st' : KS) : Prop := ∀ env, Kn n io st env → ∃ e', f env = some (b, e') ∧ Kn n io st' e'
def EOo (n : Nat) (io : List Nat) (st : KS) (f : OF) (o : Option Int) (st' : KS) : Prop := ∀ env, Kn n io st env → ∃ e', f env = some (o, e') ∧ Kn n io st' e'
def EB (n : Nat) (io : List Nat) (st : KS) (f : BF) (d : PV) (st' : KS) : Prop := ∀ env, Kn n io st env → ∃ e', f d env = some e' ∧ Kn n io st' e'
def EBs (n : Nat) (io : List Nat) (st : KS) (f : List PV → Ev → Option Ev) (d : List PV) (st' : KS) : Prop := ∀ env, Kn n io st env → ∃ e', f d env = some e' ∧ Kn n io st' e'
inductive Ou where
  | nx (st : KS) | rt (d : PV) (st : KS) | bk (st : KS) | ct (st : KS) | nc (st : KS)
def OkO (n : Nat) (io : List Nat) : Out → Ou → Prop
  | .nx e, .nx st => Kn n io st e
  | .rt d e, .rt d' st => d = d' ∧ Kn n io st e
  | .rf d e, .rt d' st => d = d' ∧ Kn n io st e
  | .bk e, .bk st => Kn n io st e
  | .ct e, .ct st => Kn n io st e
  | .nx e, .nc st => Kn n io st e
  | .ct e, .nc st => Kn n io st e
  | _, _ => False
def RO' (n : Nat) (io : List Nat) (st : KS) (c : SF) (o : Ou) : Prop := ∀ env, Kn n io st env → ∃ out, c env = some out ∧ OkO n io out o

def subs : KS → KS → Prop
  | [], _ => True
  | (i, c) :: r, st => (lk st i = some c ∨ ∃ d, c = .rd d ∧ (lk st i = some (.ow d) ∨ lk st i = some (.va d))) ∧ subs r st
theorem Kn.sub {env : Ev} (k : Kn n io st1 env) : ∀ {st2 : KS}, subs st2 st1 → Kn n io st2 env := fun {st2} h => by
  refine ⟨k.len, ?_, k.nio⟩
  induction st2 with
  | nil => intro i c e; cases e
  | cons p r ih =>
    obtain ⟨j, c0⟩ := p
    obtain ⟨h1, h2⟩ := h
    intro i c e
    by_cases hj : j = i
    · subst hj
      rw [lk_cons_same] at e
      cases e
      rcases h1 with h1 | ⟨d, rfl, h1 | h1⟩
      · exact k.get _ _ h1
      · obtain ⟨s, hs, ho⟩ := k.get _ _ h1
        exact ⟨s, hs, .inr ho⟩
      · obtain ⟨s, hs, ho⟩ := k.get _ _ h1
        exact ⟨s, hs, .inl ho⟩
    · rw [lk_cons_ne hj] at e
      exact ih h2 i c e
theorem ro_wk {c : SF} (h : RO' n io st c (.nx st1)) (s : subs st2 st1) : RO' n io st c (.nx st2) := fun env k => by
  obtain ⟨o, e, q⟩ := h env k
  refine ⟨o, e, ?_⟩
  cases o with
  | nx e => exact Kn.sub q s
  | _ => exact q.elim
theorem ro_wkR {c : SF} {d : PV} (h : RO' n io st c (.rt d st1)) (s : subs st2 st1) : RO' n io st c (.rt d st2) := fun env k => by
  obtain ⟨o, e, q⟩ := h env k
  refine ⟨o, e, ?_⟩
  cases o with
  | rt d e => exact ⟨q.1, q.2.sub s⟩
  | rf d e => exact ⟨q.1, q.2.sub s⟩
  | _ => exact q.elim
theorem ro_wkB {c : SF} (h : RO' n io st c (.bk st1)) (s : subs st2 st1) : RO' n io st c (.bk st2) := fun env k => by
  obtain ⟨o, e, q⟩ := h env k
  refine ⟨o, e, ?_⟩
  cases o with
  | bk e => exact Kn.sub q s
  | _ => exact q.elim
theorem ro_wkC {c : SF} (h : RO' n io st c (.ct st1)) (s : subs st2 st1) : RO' n io st c (.ct st2) := fun env k => by
  obtain ⟨o, e, q⟩ := h env k
  refine ⟨o, e, ?_⟩
  cases o with
  | ct e => exact Kn.sub q s
  | _ => exact q.elim
theorem ro_pre {c : SF} {o : Ou} (s : subs st2 st1) (h : RO' n io st2 c o) : RO' n io st1 c o := fun env k => h env (k.sub s)
theorem ee_pre {f : EF} {d : PV} (s : subs st2 st1) (h : EE n io st2 f d st) : EE n io st1 f d st := fun env k => h env (k.sub s)
theorem ee_wk {f : EF} {d : PV} (h : EE n io st f d st1) (s : subs st2 st1) : EE n io st f d st2 := fun env k => by
  obtain ⟨e, q, k1⟩ := h env k
  exact ⟨e, q, k1.sub s⟩
theorem et_wk {f : TF} {d : Bool} (h : ET n io st f d st1) (s : subs st2 st1) : ET n io st f d st2 := fun env k => by
  obtain ⟨e, q, k1⟩ := h env k
  exact ⟨e, q, k1.sub s⟩
theorem ea_wk {f : AF} {d : List PV} (h : EAs n io st f d st1) (s : subs st2 st1) : EAs n io st f d st2 := fun env k => by
  obtain ⟨e, q, k1⟩ := h env k
  exact ⟨e, q, k1.sub s⟩

theorem Kn.set {env : Ev} {i : Nat} {s : Sl} {c : Fc} (k : Kn n io st env) (hi : i < n) (hc : c.ok s) (hs : ∀ d, s = .io d → i ∈ io) : Kn n io ((i, c) :: st) (env.set i s) := by
  have hl : i < env.length := by rw [k.len]; exact hi
  refine ⟨by rw [List.length_set]; exact k.len, fun j c' e => ?_, fun j d e => ?_⟩
  · by_cases hj : i = j
    · subst hj
      rw [lk_cons_same] at e
      cases e
      exact ⟨s, List.getElem?_set_self hl, hc⟩
    · rw [lk_cons_ne hj] at e
      rw [List.getElem?_set_ne hj]
      exact k.get j c' e
  · by_cases hj : i = j
    · subst hj
      rw [List.getElem?_set_self hl] at e
      cases e
      exact hs d rfl
    · rw [List.getElem?_set_ne hj] at e
      exact k.nio j d e
theorem Kn.setV {env : Ev} {i : Nat} {s : Sl} {c : Fc} (k : Kn n io st env) (hi : i < n) (hio : i ∉ io) (hc : c.ok s) (hs : ∀ d, s ≠ .io d) : ∃ e', Fx.setV env i s = some e' ∧ Kn n io ((i, c) :: st) e' := by
  have hl : i < env.length := by rw [k.len]; exact hi
  refine ⟨env.set i s, ?_, k.set hi hc fun d e => absurd e (hs d)⟩
  unfold Fx.setV
  split
  · rename_i d e
    exact absurd (k.nio i d e) hio
  · rfl
  · rename_i e
    rw [List.getElem?_eq_getElem hl] at e
    cases e
/-- the knowledge is put anew where it stands: the slot is not changed but for its kind -/
theorem Kn.put {env : Ev} {i : Nat} {c : Fc} {s : Sl} (k : Kn n io st env) (hs : env[i]? = some s) (hc : c.ok s) : Kn n io ((i, c) :: st) env := by
  refine ⟨k.len, fun j c' e => ?_, k.nio⟩
  by_cases hj : i = j
  · subst hj
    rw [lk_cons_same] at e
    cases e
    exact ⟨s, hs, hc⟩
  · rw [lk_cons_ne hj] at e
    exact k.get j c' e
theorem Kn.cont {env : Ev} {i : Nat} {c : Fc} (k : Kn n io st env) (h : lk st i = some c) : Fx.cont env i = some c.d := by
  obtain ⟨s, hs, ho⟩ := k.get i c h
  unfold Fx.cont
  rw [hs]
  cases c with
  | va d => cases ho; rfl
  | rd d => rcases ho with rfl | rfl <;> rfl
  | ow d => cases ho; rfl
  | io d => cases ho; rfl

theorem ee_k {d : PV} : EE n io st (kE d) d st := fun env k => ⟨env, rfl, k⟩
/-- what is known of the slot stays true -/
theorem Kn.same {env : Ev} {i : Nat} {c : Fc} {s : Sl} (k : Kn n io st env) (h : lk st i = some c) (hc : c.ok s) (hs : ∀ d, s = .io d → i ∈ io) : Kn n io st (env.set i s) := by
  obtain ⟨s0, hs0, _⟩ := k.get i c h
  have hl : i < env.length := (List.getElem?_eq_some_iff.mp hs0).1
  refine ⟨by rw [List.length_set]; exact k.len, fun j c' e => ?_, fun j d e => ?_⟩
  · by_cases hj : i = j
    · subst hj
      rw [h] at e
      cases e
      exact ⟨s, List.getElem?_set_self hl, hc⟩
    · rw [List.getElem?_set_ne hj]
      exact k.get j c' e
  · by_cases hj : i = j
    · subst hj
      rw [List.getElem?_set_self hl] at e
      cases e
      exact hs d rfl
    · rw [List.getElem?_set_ne hj] at e
      exact k.nio j d e
theorem ee_nm (i : Nat) {d : PV} (h : lk st i = some (.va d)) : EE n io st (nm i) d st := fun env k => by
  obtain ⟨s, hs, ho⟩ := k.get i _ h
  unfold nm
  rw [hs]
  cases ho
  exact ⟨env, rfl, k⟩
theorem ee_nmR (i : Nat) {d : PV} (h : lk st i = some (.rd d)) : EE n io st (nm i) d st := fun env k => by
  obtain ⟨s, hs, ho⟩ := k.get i _ h
  unfold nm
  rw [hs]
  rcases ho with rfl | rfl
  · exact ⟨env, rfl, k⟩
  · exact ⟨_, rfl, k.same h (.inl rfl) fun d e => by cases e⟩
theorem ee_nmO (i : Nat) {d : PV} (h : lk st i = some (.ow d)) : EE n io st (nm i) d ((i, .va d) :: st) := fun env k => by
  obtain ⟨s, hs, ho⟩ := k.get i _ h
  have hi : i < n := by rw [← k.len]; exact (List.getElem?_eq_some_iff.mp hs).1
  cases ho
  unfold nm
  rw [hs]
  exact ⟨_, rfl, k.set (c := .va d) hi rfl fun d e => by cases e⟩
theorem ee_bin {g : PV → PV → Option PV} {fa fb : EF} {x y d : PV} (ha : EE n io st fa x st1) (hb : EE n io st1 fb y st2) (h : g x y = some d) : EE n io st (bin g fa fb) d st2 := fun env k => by
  obtain ⟨e1, q1, k1⟩ := ha env k
  obtain ⟨e2, q2, k2⟩ := hb e1 k1
  exact ⟨e2, by simp only [bin, q1, q2, h], k2⟩
theorem ee_un {g : PV → Option PV} {fa : EF} {x d : PV} (ha : EE n io st fa x st1) (h : g x = some d) : EE n io st (un g fa) d st1 := fun env k => by
  obtain ⟨e1, q1, k1⟩ := ha env k
  exact ⟨e1, by simp only [un, q1, h], k1⟩
theorem ee_chnT {g h : PV → PV → Option PV} {fa fb fc : EF} {x y z d : PV} (ha : EE n io st fa x st1) (hb : EE n io st1 fb y st2) (hg : g x y = some (.bool true)) (hc : EE n io st2 fc z st3) (hh : h y z = some d) : EE n io st (chn g h fa fb fc) d st3 := fun env k => by
  obtain ⟨e1, q1, k1⟩ := ha env k
  obtain ⟨e2, q2, k2⟩ := hb e1 k1
  obtain ⟨e3, q3, k3⟩ := hc e2 k2
  exact ⟨e3, by simp only [chn, q1, q2, hg, q3, hh], k3⟩
theorem ee_chnF {g h : PV → PV → Option PV} {fa fb fc : EF} {x y : PV} (ha : EE n io st fa x st1) (hb : EE n io st1 fb y st2) (hg : g x y = some (.bool false)) : EE n io st (chn g h fa fb fc) (.bool false) st2 := fun env k => by
  obtain ⟨e1, q1, k1⟩ := ha env k
  obtain ⟨e2, q2, k2⟩ := hb e1 k1
  exact ⟨e2, by simp only [chn, q1, q2, hg], k2⟩
theorem ee_anT {f h : EF} {d : PV} (ha : EE n io st f (.bool true) st1) (hb : EE n io st1 h d st2) : EE n io st (vAn f h) d st2 := fun env k => by
  obtain ⟨e1, q1, k1⟩ := ha env k
  obtain ⟨e2, q2, k2⟩ := hb e1 k1
  exact ⟨e2, by simp only [vAn, q1, q2], k2⟩
theorem ee_anF {f h : EF} (ha : EE n io st f (.bool false) st1) : EE n io st (vAn f h) (.bool false) st1 := fun env k => by
  obtain ⟨e1, q1, k1⟩ := ha env k
  exact ⟨e1, by simp only [vAn, q1], k1⟩
theorem ee_orF {f h : EF} {d : PV} (ha : EE n io st f (.bool false) st1) (hb : EE n io st1 h d st2) : EE n io st (vOr f h) d st2 := fun env k => by
  obtain ⟨e1, q1, k1⟩ := ha env k
  obtain ⟨e2, q2, k2⟩ := hb e1 k1
  exact ⟨e2, by simp only [vOr, q1, q2], k2⟩
theorem ee_orT {f h : EF} (ha : EE n io st f (.bool true) st1) : EE n io st (vOr f h) (.bool true) st1 := fun env k => by
  obtain ⟨e1, q1, k1⟩ := ha env k
  exact ⟨e1, by simp only [vOr, q1], k1⟩
theorem ee_nt {f : EF} {b : Bool} (ha : EE n io st f (.bool b) st1) : EE n io st (vNt f) (.bool (!b)) st1 := fun env k => by
  obtain ⟨e1, q1, k1⟩ := ha env k
  exact ⟨e1, by simp only [vNt, q1], k1⟩
theorem ee_ifT {t : TF} {f h : EF} {b : Bool} {d : PV} (ht : ET n io st t b st1) (hb : b = true) (hf : EE n io st1 f d st2) : EE n io st (eIf t f h) d st2 := fun env k => by
  subst hb
  obtain ⟨e1, q1, k1⟩ := ht env k
  obtain ⟨e2, q2, k2⟩ := hf e1 k1
  exact ⟨e2, by simp only [eIf, q1, q2], k2⟩
theorem ee_ifF {t : TF} {f h : EF} {b : Bool} {d : PV} (ht : ET n io st t b st1) (hb : b = false) (hf : EE n io st1 h d st2) : EE n io st (eIf t f h) d st2 := fun env k => by
  subst hb
  obtain ⟨e1, q1, k1⟩ := ht env k
  obtain ⟨e2, q2, k2⟩ := hf e1 k1
  exact ⟨e2, by simp only [eIf, q1, q2], k2⟩
theorem ea_nil : EAs n io st aNil [] st := fun env k => ⟨env, rfl, k⟩
theorem ea_cons {f : EF} {h : AF} {d : PV} {ds : List PV} (ha : EE n io st f d st1) (hb : EAs n io st1 h ds st2) : EAs n io st (aCons f h) (d :: ds) st2 := fun env k => by
  obtain ⟨e1, q1, k1⟩ := ha env k
  obtain ⟨e2, q2, k2⟩ := hb e1 k1
  exact ⟨e2, by simp only [aCons, q1, q2], k2⟩
theorem ea_starL {f : EF} {h : AF} {xs ds : List PV} (ha : EE n io st f (.list xs) st1) (hb : EAs n io st1 h ds st2) : EAs n io st (aStar f h) (xs ++ ds) st2 := fun env k => by
  obtain ⟨e1, q1, k1⟩ := ha env k
  obtain ⟨e2, q2, k2⟩ := hb e1 k1
  exact ⟨e2, by simp only [aStar, q1, q2], k2⟩
theorem ea_starT {f : EF} {h : AF} {xs ds : List PV} (ha : EE n io st f (.tuple xs) st1) (hb : EAs n io st1 h ds st2) : EAs n io st (aStar f h) (xs ++ ds) st2 := fun env k => by
  obtain ⟨e1, q1, k1⟩ := ha env k
  obtain ⟨e2, q2, k2⟩ := hb e1 k1
  exact ⟨e2, by simp only [aStar, q1, q2], k2⟩
theorem ee_tup {f : AF} {ds : List PV} (ha : EAs n io st f ds st1) (h : ds.length ≤ sizeLine) : EE n io st (eTup f) (.tuple ds) st1 := fun env k => by
  obtain ⟨e1, q1, k1⟩ := ha env k
  exact ⟨e1, by simp only [eTup, q1, if_pos h], k1⟩
theorem ee_lst {f : AF} {ds : List PV} (ha : EAs n io st f ds st1) (h : ds.length ≤ sizeLine) : EE n io st (eLst f) (.list ds) st1 := fun env k => by
  obtain ⟨e1, q1, k1⟩ := ha env k
  exact ⟨e1, by simp only [eLst, q1, if_pos h], k1⟩
theorem ee_call {g : List PV → Option PV} {f : AF} {ds : List PV} {d : PV} (ha : EAs n io st f ds st1) (h : g ds = some d) : EE n io st (callF g f) d st1 := fun env k => by
  obtain ⟨e1, q1, k1⟩ := ha env k
  exact ⟨e1, by simp only [callF, q1, h], k1⟩
theorem ee_ixN (i : Nat) {f : EF} {c c' : Fc} {x d : PV} (h : lk st i = some c) (ha : EE n io st f x st1) (h1 : lk st1 i = some c') (hp : pIx c'.d x = some d) : EE n io st (ixN' i f) d st1 := fun env k => by
  obtain ⟨e1, q1, k1⟩ := ha env k
  exact ⟨e1, by simp only [ixN', k.cont h, q1, k1.cont h1, hp], k1⟩
theorem ee_lenN (i : Nat) {c : Fc} {d : PV} (h : lk st i = some c) (hp : pLen [c.d] = some d) : EE n io st (lenN i) d st := fun env k => ⟨env, by simp only [lenN, k.cont h, hp], k⟩
theorem ee_isi {m : String} {f : EF} {x : PV} {b : Bool} (ha : EE n io st f x st1) (h : isi m x = some b) : EE n io st (eIsi m f) (.bool b) st1 := fun env k => by
  obtain ⟨e1, q1, k1⟩ := ha env k
  exact ⟨e1, by simp only [eIsi, q1, h], k1⟩
theorem Kn.mine {env : Ev} {i : Nat} {d : PV} (k : Kn n io st env) (h : lk st i = some (.ow d)) : Fx.mine env i = some d ∧ ∀ d', putM env i d' = env.set i (.ow d') := by
  obtain ⟨s, hs, ho⟩ := k.get i _ h
  cases ho
  unfold Fx.mine putM
  rw [hs]
  exact ⟨rfl, fun _ => rfl⟩
theorem Kn.mineI {env : Ev} {i : Nat} {d : PV} (k : Kn n io st env) (h : lk st i = some (.io d)) : Fx.mine env i = some d ∧ ∀ d', putM env i d' = env.set i (.io d') := by
  obtain ⟨s, hs, ho⟩ := k.get i _ h
  cases ho
  unfold Fx.mine putM
  rw [hs]
  exact ⟨rfl, fun _ => rfl⟩
theorem lk_lt {env : Ev} {i : Nat} {c : Fc} (k : Kn n io st env) (h : lk st i = some c) : i < n := by
  obtain ⟨s, hs, _⟩ := k.get i _ h
  rw [← k.len]
  exact (List.getElem?_eq_some_iff.mp hs).1
theorem ee_append (i : Nat) {f : EF} {xs0 xs : List PV} {d : PV} (h0 : lk st i = some (.ow (.list xs0))) (ha : EE n io st f d st1) (h : lk st1 i = some (.ow (.list xs))) (hl : xs.length < sizeLine) : EE n io st (append i f) .none ((i, .ow (.list (xs ++ [d]))) :: st1) := fun env k => by
  obtain ⟨e1, q1, k1⟩ := ha env k
  have i0 : isL env i = true := by unfold isL; rw [(k.mine h0).1]
  obtain ⟨m1, p1⟩ := k1.mine h
  exact ⟨_, by simp only [append, i0, q1, m1, if_pos hl, p1], k1.set (lk_lt k1 h) rfl fun d e => by cases e⟩
theorem ee_extend (i : Nat) {f : EF} {xs0 xs zs : List PV} (h0 : lk st i = some (.ow (.list xs0))) (ha : EE n io st f (.list zs) st1) (h : lk st1 i = some (.ow (.list xs))) (hl : xs.length + zs.length ≤ sizeLine) : EE n io st (extend i f) .none ((i, .ow (.list (xs ++ zs))) :: st1) := fun env k => by
  obtain ⟨e1, q1, k1⟩ := ha env k
  have i0 : isL env i = true := by unfold isL; rw [(k.mine h0).1]
  obtain ⟨m1, p1⟩ := k1.mine h
  exact ⟨_, by simp only [extend, i0, q1, m1, if_pos hl, p1], k1.set (lk_lt k1 h) rfl fun d e => by cases e⟩
theorem ee_pop0 (i : Nat) {xs : List PV} {d : PV} (h : lk st i = some (.ow (.list xs))) (hd : xs[xs.length - 1]? = some d) : EE n io st (pop0 i) d ((i, .ow (.list xs.dropLast)) :: st) := fun env k => by
  obtain ⟨m1, p1⟩ := k.mine h
  exact ⟨_, by simp only [pop0, m1, hd, p1], k.set (lk_lt k h) rfl fun d e => by cases e⟩
theorem ee_popAt (i : Nat) {f : EF} {xs0 xs : List PV} {x : Int} {j : Nat} {d : PV} (h0 : lk st i = some (.ow (.list xs0))) (ha : EE n io st f (.int x) st1) (h : lk st1 i = some (.ow (.list xs))) (hx : -(2 ^ 63) ≤ x ∧ x < 2 ^ 63) (hj : seqIndex? x xs.length = some j) (hd : xs[j]? = some d) :
    EE n io st (popAt i f) d ((i, .ow (.list (xs.eraseIdx j))) :: st1) := fun env k => by
  obtain ⟨e1, q1, k1⟩ := ha env k
  have i0 : isL env i = true := by unfold isL; rw [(k.mine h0).1]
  obtain ⟨m1, p1⟩ := k1.mine h
  exact ⟨_, by simp only [popAt, i0, q1, m1, if_pos hx, hj, hd, p1], k1.set (lk_lt k1 h) rfl fun d e => by cases e⟩
theorem ee_callO (i : Nat) {g : PV → List PV → Option (PV × PV)} {f : AF} {ds : List PV} {d0 d d' r : PV} (h0 : lk st i = some (.ow d0)) (ha : EAs n io st f ds st1) (h : lk st1 i = some (.ow d)) (hg : g d ds = some (d', r)) : EE n io st (callIO i g f) r ((i, .ow d') :: st1) := fun env k => by
  obtain ⟨e1, q1, k1⟩ := ha env k
  obtain ⟨m0, _⟩ := k.mine h0
  obtain ⟨m1, p1⟩ := k1.mine h
  exact ⟨_, by simp only [callIO, m0, q1, m1, hg, p1], k1.set (lk_lt k1 h) rfl fun d e => by cases e⟩
theorem ee_callI (i : Nat) {g : PV → List PV → Option (PV × PV)} {f : AF} {ds : List PV} {d0 d d' r : PV} (h0 : lk st i = some (.io d0)) (ha : EAs n io st f ds st1) (h : lk st1 i = some (.io d)) (hg : g d ds = some (d', r)) (hi : i ∈ io) : EE n io st (callIO i g f) r ((i, .io d') :: st1) := fun env k => by
  obtain ⟨e1, q1, k1⟩ := ha env k
  obtain ⟨m0, _⟩ := k.mineI h0
  obtain ⟨m1, p1⟩ := k1.mineI h
  exact ⟨_, by simp only [callIO, m0, q1, m1, hg, p1], k1.set (lk_lt k1 h) rfl fun d e => hi⟩
theorem eo_no : EOo n io st oNo none st := fun env k => ⟨env, rfl, k⟩
theorem eo_so {f : EF} {i : Int} (ha : EE n io st f (.int i) st1) : EOo n io st (oSo f) (some i) st1 := fun env k => by
  obtain ⟨e1, q1, k1⟩ := ha env k
  exact ⟨e1, by simp only [oSo, q1], k1⟩
theorem ee_sl {f : EF} {l h : OF} {x d : PV} {lo hi : Option Int} (ha : EE n io st f x st1) (hl : EOo n io st1 l lo st2) (hh : EOo n io st2 h hi st3) (hp : pSl x lo hi = some d) : EE n io st (eSl f l h) d st3 := fun env k => by
  obtain ⟨e1, q1, k1⟩ := ha env k
  obtain ⟨e2, q2, k2⟩ := hl e1 k1
  obtain ⟨e3, q3, k3⟩ := hh e2 k2
  exact ⟨e3, by simp only [eSl, q1, q2, q3, hp], k3⟩
theorem ee_tRv {f : EF} {xs : List PV} (ha : EE n io st f (.list xs) st1) : EE n io st (tRv f) (.tuple xs.reverse) st1 := fun env k => by
  obtain ⟨e1, q1, k1⟩ := ha env k
  exact ⟨e1, by simp only [tRv, q1], k1⟩
theorem ee_revT {f : EF} {xs : List PV} (ha : EE n io st f (.tuple xs) st1) : EE n io st (eRevT f) (.tuple xs.reverse) st1 := fun env k => by
  obtain ⟨e1, q1, k1⟩ := ha env k
  exact ⟨e1, by simp only [eRevT, q1], k1⟩
theorem ee_join {fo f : EF} {a : Str} {x d : PV} (ho : EE n io st fo (.str a) st1) (ha : EE n io st1 f x st2) (hp : pJoin a x = some d) : EE n io st (eJoin fo f) d st2 := fun env k => by
  obtain ⟨e1, q1, k1⟩ := ho env k
  obtain ⟨e2, q2, k2⟩ := ha e1 k1
  exact ⟨e2, by simp only [eJoin, q1, q2, hp], k2⟩
theorem ee_dk : EE n io st eDk (.dict []) st := fun env k => ⟨env, rfl, k⟩
theorem ee_dt : EE n io st eDt (.dict [(.none, .none)]) st := fun env k => ⟨env, rfl, k⟩
theorem ee_dIx (i : Nat) {f : EF} {c c' : Fc} {x d : PV} {ky : Key} {ds : List (PV × PV)} (h : lk st i = some c) (ha : EE n io st f x st1) (hk : keyOf x = some ky) (h1 : lk st1 i = some c') (hc : c'.d = .dict ds) (hp : plainD ds = true) (hv : dVal ky ds = some d) : EE n io st (dIx i f) d st1 := fun env k => by
  obtain ⟨e1, q1, k1⟩ := ha env k
  exact ⟨e1, by simp only [dIx, k.cont h, q1, hk, k1.cont h1, hc, if_pos hp, hv], k1⟩
theorem ee_dIn (g : Bool → Bool) (i : Nat) {f : EF} {c' : Fc} {x : PV} {ky : Key} {ds : List (PV × PV)} (ha : EE n io st f x st1) (hk : keyOf x = some ky) (h1 : lk st1 i = some c') (hc : c'.d = .dict ds) (hp : plainD ds = true) : EE n io st (dIn g i f) (.bool (g (dVal ky ds).isSome)) st1 := fun env k => by
  obtain ⟨e1, q1, k1⟩ := ha env k
  exact ⟨e1, by simp only [dIn, q1, hk, k1.cont h1, hc, if_pos hp], k1⟩
theorem ee_dGet2 (i : Nat) {f h2 : EF} {c c' : Fc} {x z : PV} {ky : Key} {ds : List (PV × PV)} (h : lk st i = some c) (hpl : plD c.d = true) (ha : EE n io st f x st1) (hk : keyOf x = some ky) (hz : EE n io st1 h2 z st2) (h1 : lk st2 i = some c') (hc : c'.d = .dict ds) (hp : plainD ds = true) : EE n io st (dGet2 i f h2) ((dVal ky ds).getD z) st2 := fun env k => by
  obtain ⟨e1, q1, k1⟩ := ha env k
  obtain ⟨e2, q2, k2⟩ := hz e1 k1
  exact ⟨e2, by simp only [dGet2, k.cont h, if_pos hpl, q1, hk, q2, k2.cont h1, hc, if_pos hp], k2⟩
theorem ee_dGet1 (i : Nat) {f : EF} {c c' : Fc} {x : PV} {ky : Key} {ds : List (PV × PV)} (h : lk st i = some c) (hpl : plD c.d = true) (ha : EE n io st f x st1) (hk : keyOf x = some ky) (h1 : lk st1 i = some c') (hc : c'.d = .dict ds) (hp : plainD ds = true) : EE n io st (dGet1 i f) ((dVal ky ds).getD .none) st1 := fun env k => by
  obtain ⟨e1, q1, k1⟩ := ha env k
  exact ⟨e1, by simp only [dGet1, k.cont h, if_pos hpl, q1, hk, k1.cont h1, hc, if_pos hp], k1⟩
theorem ee_dIxT (i : Nat) {f : EF} {c c' : Fc} {x d : PV} {ky : List Key} {ds : List (PV × PV)} (h : lk st i = some c) (ha : EE n io st f x st1) (hk : keyT x = some ky) (h1 : lk st1 i = some c') (hc : c'.d = .dict ((.none, .none) :: ds)) (hv : dValT ky ds = some d) : EE n io st (dIxT i f) d st1 := fun env k => by
  obtain ⟨e1, q1, k1⟩ := ha env k
  exact ⟨e1, by simp only [dIxT, k.cont h, q1, hk, k1.cont h1, hc, hv], k1⟩
theorem ee_dInT (g : Bool → Bool) (i : Nat) {f : EF} {c' : Fc} {x : PV} {ky : List Key} {ds : List (PV × PV)} (ha : EE n io st f x st1) (hk : keyT x = some ky) (h1 : lk st1 i = some c') (hc : c'.d = .dict ((.none, .none) :: ds)) : EE n io st (dInT g i f) (.bool (g (dValT ky ds).isSome)) st1 := fun env k => by
  obtain ⟨e1, q1, k1⟩ := ha env k
  exact ⟨e1, by simp only [dInT, q1, hk, k1.cont h1, hc], k1⟩

theorem et_b {f : EF} {b : Bool} (ha : EE n io st f (.bool b) st1) : ET n io st (tB' f) b st1 := fun env k => by
  obtain ⟨e1, q1, k1⟩ := ha env k
  exact ⟨e1, by simp only [tB', q1], k1⟩
theorem et_tr {f : EF} {d : PV} {b : Bool} (ha : EE n io st f d st1) (h : tru d = some b) : ET n io st (tTr f) b st1 := fun env k => by
  obtain ⟨e1, q1, k1⟩ := ha env k
  exact ⟨e1, by simp only [tTr, q1, h], k1⟩
theorem et_nt {f : TF} {b : Bool} (ha : ET n io st f b st1) : ET n io st (tNt f) (!b) st1 := fun env k => by
  obtain ⟨e1, q1, k1⟩ := ha env k
  exact ⟨e1, by simp only [tNt, q1], k1⟩
theorem et_anT {f h : TF} {b c : Bool} (ha : ET n io st f b st1) (hb : b = true) (hh : ET n io st1 h c st2) : ET n io st (tAn f h) c st2 := fun env k => by
  subst hb
  obtain ⟨e1, q1, k1⟩ := ha env k
  obtain ⟨e2, q2, k2⟩ := hh e1 k1
  exact ⟨e2, by simp only [tAn, q1, q2], k2⟩
theorem et_anF {f h : TF} {b : Bool} (ha : ET n io st f b st1) (hb : b = false) : ET n io st (tAn f h) false st1 := fun env k => by
  subst hb
  obtain ⟨e1, q1, k1⟩ := ha env k
  exact ⟨e1, by simp only [tAn, q1], k1⟩
theorem et_orF {f h : TF} {b c : Bool} (ha : ET n io st f b st1) (hb : b = false) (hh : ET n io st1 h c st2) : ET n io st (tOr' f h) c st2 := fun env k => by
  subst hb
  obtain ⟨e1, q1, k1⟩ := ha env k
  obtain ⟨e2, q2, k2⟩ := hh e1 k1
  exact ⟨e2, by simp only [tOr', q1, q2], k2⟩
theorem et_orT {f h : TF} {b : Bool} (ha : ET n io st f b st1) (hb : b = true) : ET n io st (tOr' f h) true st1 := fun env k => by
  subst hb
  obtain ⟨e1, q1, k1⟩ := ha env k
  exact ⟨e1, by simp only [tOr', q1], k1⟩

theorem eb_nm (i : Nat) {d : PV} (hi : i < n) (hio : i ∉ io) : EB n io st (bNm i) d ((i, .va d) :: st) := fun env k => k.setV (c := .va d) hi hio rfl fun d e => by cases e
theorem ebs_nil : EBs n io st bNil [] st := fun env k => ⟨env, rfl, k⟩
theorem ebs_cons {f : BF} {h : List PV → Ev → Option Ev} {d : PV} {ds : List PV} (ha : EB n io st f d st1) (hb : EBs n io st1 h ds st2) : EBs n io st (bCons f h) (d :: ds) st2 := fun env k => by
  obtain ⟨e1, q1, k1⟩ := ha env k
  obtain ⟨e2, q2, k2⟩ := hb e1 k1
  exact ⟨e2, by simp only [bCons, q1, q2], k2⟩
theorem eb_tup {m : Nat} {h : List PV → Ev → Option Ev} {ds : List PV} (hb : EBs n io st h ds st1) (hl : ds.length = m) : EB n io st (bTup m h) (.tuple ds) st1 := fun env k => by
  obtain ⟨e1, q1, k1⟩ := hb env k
  exact ⟨e1, by simp only [bTup, if_pos hl, q1], k1⟩

theorem ro_skip : RO' n io st sSkip (.nx st) := fun env k => ⟨_, rfl, k⟩
theorem ro_bk : RO' n io st sBk (.bk st) := fun env k => ⟨_, rfl, k⟩
theorem ro_ct : RO' n io st sCt (.ct st) := fun env k => ⟨_, rfl, k⟩
theorem ro_seq {a b : SF} {o : Ou} (ha : RO' n io st a (.nx st1)) (hb : RO' n io st1 b o) : RO' n io st (sSeq a b) o := fun env k => by
  obtain ⟨o1, q1, k1⟩ := ha env k
  cases o1 with
  | nx e1 =>
    obtain ⟨o2, q2, k2⟩ := hb e1 k1
    exact ⟨o2, by simp only [sSeq, q1, q2], k2⟩
  | _ => exact k1.elim
theorem ro_seqR {a b : SF} {d : PV} (ha : RO' n io st a (.rt d st1)) : RO' n io st (sSeq a b) (.rt d st1) := fun env k => by
  obtain ⟨o1, q1, k1⟩ := ha env k
  cases o1 with
  | rt d e1 => exact ⟨.rt d e1, by simp only [sSeq, q1], k1⟩
  | rf d e1 => exact ⟨.rf d e1, by simp only [sSeq, q1], k1⟩
  | _ => exact k1.elim
theorem ro_seqB {a b : SF} (ha : RO' n io st a (.bk st1)) : RO' n io st (sSeq a b) (.bk st1) := fun env k => by
  obtain ⟨o1, q1, k1⟩ := ha env k
  cases o1 with
  | bk e1 => exact ⟨.bk e1, by simp only [sSeq, q1], k1⟩
  | _ => exact k1.elim
theorem ro_seqC {a b : SF} (ha : RO' n io st a (.ct st1)) : RO' n io st (sSeq a b) (.ct st1) := fun env k => by
  obtain ⟨o1, q1, k1⟩ := ha env k
  cases o1 with
  | ct e1 => exact ⟨.ct e1, by simp only [sSeq, q1], k1⟩
  | _ => exact k1.elim
theorem ro_ifT {t : TF} {a b : SF} {c : Bool} {o : Ou} (ht : ET n io st t c st1) (hc : c = true) (ha : RO' n io st1 a o) : RO' n io st (sIf t a b) o := fun env k => by
  subst hc
  obtain ⟨e1, q1, k1⟩ := ht env k
  obtain ⟨o2, q2, k2⟩ := ha e1 k1
  exact ⟨o2, by simp only [sIf, q1, q2], k2⟩
theorem ro_ifF {t : TF} {a b : SF} {c : Bool} {o : Ou} (ht : ET n io st t c st1) (hc : c = false) (hb : RO' n io st1 b o) : RO' n io st (sIf t a b) o := fun env k => by
  subst hc
  obtain ⟨e1, q1, k1⟩ := ht env k
  obtain ⟨o2, q2, k2⟩ := hb e1 k1
  exact ⟨o2, by simp only [sIf, q1, q2], k2⟩
theorem ro_nc {c : SF} (h : RO' n io st c (.nx st1)) : RO' n io st c (.nc st1) := fun env k => by
  obtain ⟨o, q, k1⟩ := h env k
  cases o with
  | nx e => exact ⟨.nx e, q, k1⟩
  | _ => exact k1.elim
theorem ro_ncC {c : SF} (h : RO' n io st c (.ct st1)) : RO' n io st c (.nc st1) := fun env k => by
  obtain ⟨o, q, k1⟩ := h env k
  cases o with
  | ct e => exact ⟨.ct e, q, k1⟩
  | _ => exact k1.elim
theorem seq_assoc (a b c : SF) : sSeq (sSeq a b) c = sSeq a (sSeq b c) := by
  funext env
  simp only [sSeq]
  cases a env with
  | none => rfl
  | some o => cases o <;> rfl
theorem if_dist (t : TF) (a b c : SF) : sSeq (sIf t a b) c = sIf t (sSeq a c) (sSeq b c) := by
  funext env
  simp only [sSeq, sIf]
  cases t env with
  | none => rfl
  | some p =>
    obtain ⟨v, e⟩ := p
    cases v <;> rfl
theorem ro_assoc {a b c : SF} {o : Ou} (h : RO' n io st (sSeq a (sSeq b c)) o) : RO' n io st (sSeq (sSeq a b) c) o := by
  rw [seq_assoc]; exact h
theorem ro_ifdist {t : TF} {a b c : SF} {o : Ou} (h : RO' n io st (sIf t (sSeq a c) (sSeq b c)) o) : RO' n io st (sSeq (sIf t a b) c) o := by
  rw [if_dist]; exact h
theorem et_ys : ET n io st tYs true st := fun env k => ⟨env, rfl, k⟩
theorem ro_asg (i : Nat) {f : EF} {d : PV} (ha : EE n io st f d st1) (hi : i < n) (hio : i ∉ io) : RO' n io st (asg i f) (.nx ((i, .va d) :: st1)) := fun env k => by
  obtain ⟨e1, q1, k1⟩ := ha env k
  obtain ⟨e2, q2, k2⟩ := k1.setV (c := .va d) hi hio rfl fun d e => by cases e
  exact ⟨.nx e2, by simp only [asg, q1, q2], k2⟩
theorem ro_asgO (i : Nat) {f : EF} {d : PV} (ha : EE n io st f d st1) (hi : i < n) (hio : i ∉ io) : RO' n io st (asgO i f) (.nx ((i, .ow d) :: st1)) := fun env k => by
  obtain ⟨e1, q1, k1⟩ := ha env k
  obtain ⟨e2, q2, k2⟩ := k1.setV (s := .ow d) (c := .ow d) hi hio rfl fun d e => by cases e
  exact ⟨.nx e2, by simp only [asgO, q1, q2], k2⟩
theorem ro_asgB {b : BF} {f : EF} {d : PV} (ha : EE n io st f d st1) (hb : EB n io st1 b d st2) : RO' n io st (asgB b f) (.nx st2) := fun env k => by
  obtain ⟨e1, q1, k1⟩ := ha env k
  obtain ⟨e2, q2, k2⟩ := hb e1 k1
  exact ⟨.nx e2, by simp only [asgB, q1, q2], k2⟩
theorem ro_asg2 (i j : Nat) {f : AF} {a b : PV} (ha : EAs n io st f [a, b] st1) (hi : i < n) (hj : j < n) (hio : i ∉ io) (hjo : j ∉ io) : RO' n io st (asg2 i j f) (.nx ((j, .va b) :: (i, .va a) :: st1)) := fun env k => by
  obtain ⟨e1, q1, k1⟩ := ha env k
  obtain ⟨e2, q2, k2⟩ := k1.setV (c := .va a) hi hio rfl fun d e => by cases e
  obtain ⟨e3, q3, k3⟩ := k2.setV (c := .va b) hj hjo rfl fun d e => by cases e
  exact ⟨.nx e3, by simp only [asg2, q1, q2, q3], k3⟩
theorem ro_asg3 (i j l : Nat) {f : AF} {a b c : PV} (ha : EAs n io st f [a, b, c] st1) (hi : i < n) (hj : j < n) (hl : l < n) (hio : i ∉ io) (hjo : j ∉ io) (hlo : l ∉ io) : RO' n io st (asg3 i j l f) (.nx ((l, .va c) :: (j, .va b) :: (i, .va a) :: st1)) := fun env k => by
  obtain ⟨e1, q1, k1⟩ := ha env k
  obtain ⟨e2, q2, k2⟩ := k1.setV (c := .va a) hi hio rfl fun d e => by cases e
  obtain ⟨e3, q3, k3⟩ := k2.setV (c := .va b) hj hjo rfl fun d e => by cases e
  obtain ⟨e4, q4, k4⟩ := k3.setV (c := .va c) hl hlo rfl fun d e => by cases e
  exact ⟨.nx e4, by simp only [asg3, q1, q2, q3, q4], k4⟩
theorem ro_aug (i : Nat) {g : PV → PV → Option PV} {f : EF} {a b d : PV} (h : lk st i = some (.va a)) (ha : EE n io st f b st1) (hg : g a b = some d) (hio : i ∉ io) : RO' n io st (aug i g f) (.nx ((i, .va d) :: st1)) := fun env k => by
  obtain ⟨s, hs, ho⟩ := k.get i _ h
  cases ho
  obtain ⟨e1, q1, k1⟩ := ha env k
  obtain ⟨e2, q2, k2⟩ := k1.setV (s := .va d) (c := .va d) (lk_lt k h) hio rfl fun d e => by cases e
  exact ⟨.nx e2, by simp only [aug, hs, q1, hg, q2], k2⟩
theorem ro_augIx (i : Nat) {g : PV → PV → Option PV} {fk fe : EF} {xs0 xs1 xs : List PV} {k : Int} {a b d : PV} {j : Nat} (h0 : lk st i = some (.ow (.list xs0))) (hk : EE n io st fk (.int k) st1) (h1 : lk st1 i = some (.ow (.list xs1))) (ha : atI xs1 k = some a) (he : EE n io st1 fe b st2) (hg : g a b = some d)
    (h2 : lk st2 i = some (.ow (.list xs))) (hj : ixN xs.length k = some j) : RO' n io st (augIx i g fk fe) (.nx ((i, .ow (.list (xs.set j d))) :: st2)) := fun env kn => by
  obtain ⟨e1, q1, k1⟩ := hk env kn
  obtain ⟨e2, q2, k2⟩ := he e1 k1
  have i0 : isL env i = true := by unfold isL; rw [(kn.mine h0).1]
  obtain ⟨m1, _⟩ := k1.mine h1
  obtain ⟨m2, p2⟩ := k2.mine h2
  exact ⟨.nx (e2.set i (.ow (.list (xs.set j d)))), by simp only [augIx, i0, q1, m1, ha, q2, hg, m2, hj, p2], k2.set (lk_lt k2 h2) rfl fun d e => by cases e⟩
theorem ro_setIx (i : Nat) {fk fe : EF} {xs1 xs : List PV} {k : Int} {d : PV} {j : Nat} (he : EE n io st fe d st1) (h1 : lk st1 i = some (.ow (.list xs1))) (hk : EE n io st1 fk (.int k) st2) (h2 : lk st2 i = some (.ow (.list xs))) (hj : ixN xs.length k = some j) : RO' n io st (setIx i fk fe) (.nx ((i, .ow (.list (xs.set j d))) :: st2)) := fun env kn => by
  obtain ⟨e1, q1, k1⟩ := he env kn
  obtain ⟨e2, q2, k2⟩ := hk e1 k1
  have i0 : isL e1 i = true := by unfold isL; rw [(k1.mine h1).1]
  obtain ⟨m2, p2⟩ := k2.mine h2
  exact ⟨.nx (e2.set i (.ow (.list (xs.set j d)))), by simp only [setIx, q1, i0, q2, m2, hj, p2], k2.set (lk_lt k2 h2) rfl fun d e => by cases e⟩
theorem ro_putIx (i : Nat) {fk fe : EF} {x1 d y : PV} {ds : List (PV × PV)} {ky : Key} (he : EE n io st fe d st1) (h1 : lk st1 i = some (.ow x1)) (hk : EE n io st1 fk y st2) (hy : keyOf y = some ky) (h2 : lk st2 i = some (.ow (.dict ds))) (hp : plainD ds = true ∧ ds.length < sizeLine) : RO' n io st (putIx i fk fe) (.nx ((i, .ow (.dict (dPut ky d ds))) :: st2)) := fun env kn => by
  obtain ⟨e1, q1, k1⟩ := he env kn
  obtain ⟨e2, q2, k2⟩ := hk e1 k1
  obtain ⟨m1, _⟩ := k1.mine h1
  obtain ⟨m2, p2⟩ := k2.mine h2
  exact ⟨.nx (e2.set i (.ow (.dict (dPut ky d ds)))), by simp only [putIx, q1, m1, q2, hy, m2, if_pos hp, p2], k2.set (lk_lt k2 h2) rfl fun d e => by cases e⟩
theorem ro_putIxT (i : Nat) {fk fe : EF} {x1 d y : PV} {ds : List (PV × PV)} {ky : List Key} (he : EE n io st fe d st1) (h1 : lk st1 i = some (.ow x1)) (hk : EE n io st1 fk y st2) (hy : keyT y = some ky) (h2 : lk st2 i = some (.ow (.dict ((.none, .none) :: ds)))) (hp : ds.length < sizeLine) : RO' n io st (putIxT i fk fe) (.nx ((i, .ow (.dict ((.none, .none) :: dPutT ky d ds))) :: st2)) := fun env kn => by
  obtain ⟨e1, q1, k1⟩ := he env kn
  obtain ⟨e2, q2, k2⟩ := hk e1 k1
  obtain ⟨m1, _⟩ := k1.mine h1
  obtain ⟨m2, p2⟩ := k2.mine h2
  exact ⟨.nx (e2.set i (.ow (.dict ((.none, .none) :: dPutT ky d ds)))), by simp only [putIxT, q1, m1, q2, hy, m2, if_pos hp, p2], k2.set (lk_lt k2 h2) rfl fun d e => by cases e⟩
theorem ro_expr {f : EF} {d : PV} (ha : EE n io st f d st1) : RO' n io st (sExpr f) (.nx st1) := fun env k => by
  obtain ⟨e1, q1, k1⟩ := ha env k
  exact ⟨.nx e1, by simp only [sExpr, q1], k1⟩
theorem ro_ret {f : EF} {d : PV} (ha : EE n io st f d st1) : RO' n io st (sRet f) (.rt d st1) := fun env k => by
  obtain ⟨e1, q1, k1⟩ := ha env k
  exact ⟨.rt d e1, by simp only [sRet, q1], rfl, k1⟩
theorem ro_retO {f : EF} {d : PV} (ha : EE n io st f d st1) : RO' n io st (sRetO f) (.rt d st1) := fun env k => by
  obtain ⟨e1, q1, k1⟩ := ha env k
  exact ⟨.rf d e1, by simp only [sRetO, q1], rfl, k1⟩
theorem ro_retN : RO' n io st sRetN (.rt .none st) := fun env k => ⟨.rt .none env, rfl, rfl, k⟩
end Fx

namespace Fx
open PySem PySem.Spec L2
open PyProof.Rows hiding St
variable {n : Nat} {io : List Nat} {st st1 st2 st3 st4 : KS} {α β γ δ : Type}

@[inline] def bd (m : Option α) (f : α → Option β) : Option β := match m with
  | none => none
  | some a => f a
theorem bd_ok {m : Option α} {f : α → Option β} {r : β} (h : bd m f = some r) : ∃ x, m = some x ∧ f x = some r := by
  unfold bd at h
  split at h
  · cases h
  · exact ⟨_, rfl, h⟩
@[simp] theorem bd_some {x : α} {f : α → Option β} : bd (some x) f = f x := rfl
@[simp] theorem bd_none {f : α → Option β} : bd none f = none := rfl
theorem cond_ok {c : Bool} {a b : Option α} {r : α} (h : cond c a b = some r) : (c = true ∧ a = some r) ∨ (c = false ∧ b = some r) := by
  cases c
  · exact .inr ⟨rfl, h⟩
  · exact .inl ⟨rfl, h⟩
/-- what a loop's body ends with -/
inductive Lp (α β : Type) where
  | nx (a : α) | bk (a : α) | rt (r : β)
def whS (c : α → Option Bool) (b : α → Option α) : Nat → α → Option α
  | 0, _ => none
  | k + 1, a => match c a with
    | none => none
    | some false => some a
    | some true => match b a with
      | none => none
      | some a' => whS c b k a'
def whL (c : α → Option Bool) (b : α → Option (Lp α β)) : Nat → α → Option (Sum α β)
  | 0, _ => none
  | k + 1, a => match c a with
    | none => none
    | some false => some (.inl a)
    | some true => match b a with
      | none => none
      | some (.nx a') => whL c b k a'
      | some (.bk a') => some (.inl a')
      | some (.rt r) => some (.inr r)
def foS (b : δ → α → Option α) : List δ → α → Option α
  | [], a => some a
  | x :: xs, a => match b x a with
    | none => none
    | some a' => foS b xs a'
def foL (b : δ → α → Option (Lp α β)) : List δ → α → Option (Sum α β)
  | [], a => some (.inl a)
  | x :: xs, a => match b x a with
    | none => none
    | some (.nx a') => foL b xs a'
    | some (.bk a') => some (.inl a')
    | some (.rt r) => some (.inr r)

/-- what the body does, told by what its plain twin ends with -/
def lpO (S : α → KS) (e : β → PV) (R : β → KS) : Lp α β → Ou
  | .nx a => .nc (S a)
  | .bk a => .bk (S a)
  | .rt r => .rt (e r) (R r)
def sm (o : Sum α β) (f : α → Option γ) (g : β → Option γ) : Option γ := match o with
  | .inl a => f a
  | .inr b => g b
theorem ro_whS {t : TF} {body : SF} {c : α → Option Bool} {b : α → Option α} (S : α → KS) (hc : ∀ a v, c a = some v → ET n io (S a) t v (S a)) (hb : ∀ a a', b a = some a' → RO' n io (S a) body (.nx (S a'))) :
    ∀ {k : Nat} {a r : α}, whS c b k a = some r → RO' n io (S a) (whF t body k) (.nx (S r))
  | 0, _, _, h => by cases h
  | k + 1, a, r, h => fun env kn => by
    unfold whS at h
    unfold whF
    split at h
    · cases h
    · rename_i q
      cases h
      obtain ⟨e1, q1, k1⟩ := hc _ _ q env kn
      exact ⟨.nx e1, by rw [q1], k1⟩
    · rename_i q
      obtain ⟨e1, q1, k1⟩ := hc _ _ q env kn
      rw [q1]
      split at h
      · cases h
      · rename_i a' qb
        obtain ⟨o2, q2, k2⟩ := hb _ _ qb e1 k1
        cases o2 with
        | nx e2 =>
          simp only [q2]
          exact ro_whS S hc hb h e2 k2
        | _ => exact k2.elim
theorem ro_whL {t : TF} {body : SF} {c : α → Option Bool} {b : α → Option (Lp α β)} (S : α → KS) (e : β → PV) (R : β → KS) (hc : ∀ a v, c a = some v → ET n io (S a) t v (S a)) (hb : ∀ a o, b a = some o → RO' n io (S a) body (lpO S e R o)) :
    ∀ {k : Nat} {a : α} {r : Sum α β}, whL c b k a = some r → RO' n io (S a) (whF t body k) (match r with | .inl a' => .nx (S a') | .inr r => .rt (e r) (R r))
  | 0, _, _, h => by cases h
  | k + 1, a, r, h => fun env kn => by
    unfold whL at h
    unfold whF
    split at h
    · cases h
    · rename_i q
      cases h
      obtain ⟨e1, q1, k1⟩ := hc _ _ q env kn
      exact ⟨.nx e1, by rw [q1], k1⟩
    · rename_i q
      obtain ⟨e1, q1, k1⟩ := hc _ _ q env kn
      rw [q1]
      split at h
      · cases h
      · rename_i a' qb
        obtain ⟨o2, q2, k2⟩ := hb _ _ qb e1 k1
        cases o2 with
        | nx e2 => simp only [q2]; exact ro_whL S e R hc hb h e2 k2
        | ct e2 => simp only [q2]; exact ro_whL S e R hc hb h e2 k2
        | _ => exact k2.elim
      · rename_i a' qb
        cases h
        obtain ⟨o2, q2, k2⟩ := hb _ _ qb e1 k1
        cases o2 with
        | bk e2 => simp only [q2]; exact ⟨.nx e2, rfl, k2⟩
        | _ => exact k2.elim
      · rename_i a' qb
        cases h
        obtain ⟨o2, q2, k2⟩ := hb _ _ qb e1 k1
        cases o2 with
        | rt d e2 => simp only [q2]; exact ⟨.rt d e2, rfl, k2⟩
        | rf d e2 => simp only [q2]; exact ⟨.rf d e2, rfl, k2⟩
        | _ => exact k2.elim
/-- what a walk hands out -/
abbrev EI (n : Nat) (io : List Nat) (st : KS) (f : AF) (ds : List PV) (st' : KS) : Prop := EAs n io st f ds st'
theorem fo_S {bi : BF} {body : SF} {b : δ → α → Option α} (e0 : δ → PV) (S : α → KS) {Sb : δ → α → KS} (hbi : ∀ x a, EB n io (S a) bi (e0 x) (Sb x a)) (hb : ∀ x a a', b x a = some a' → RO' n io (Sb x a) body (.nx (S a'))) :
    ∀ {l : List δ} {a r : α}, foS b l a = some r → RO' n io (S a) (foF bi body (l.map e0)) (.nx (S r))
  | [], a, r, h => fun env kn => by
    cases h
    exact ⟨.nx env, rfl, kn⟩
  | x :: l, a, r, h => fun env kn => by
    unfold foS at h
    show ∃ out, foF bi body (e0 x :: l.map e0) env = some out ∧ _
    unfold foF
    obtain ⟨e1, q1, k1⟩ := hbi x a env kn
    rw [q1]
    split at h
    · cases h
    · rename_i a' qb
      obtain ⟨o2, q2, k2⟩ := hb _ _ _ qb e1 k1
      cases o2 with
      | nx e2 =>
        simp only [q2]
        exact fo_S e0 S hbi hb h e2 k2
      | _ => exact k2.elim
theorem fo_L {bi : BF} {body : SF} {b : δ → α → Option (Lp α β)} (e0 : δ → PV) (S : α → KS) (e : β → PV) (R : β → KS) {Sb : δ → α → KS} (hbi : ∀ x a, EB n io (S a) bi (e0 x) (Sb x a)) (hb : ∀ x a o, b x a = some o → RO' n io (Sb x a) body (lpO S e R o)) :
    ∀ {l : List δ} {a : α} {r : Sum α β}, foL b l a = some r → RO' n io (S a) (foF bi body (l.map e0)) (match r with | .inl a' => .nx (S a') | .inr r => .rt (e r) (R r))
  | [], a, r, h => fun env kn => by
    cases h
    exact ⟨.nx env, rfl, kn⟩
  | x :: l, a, r, h => fun env kn => by
    unfold foL at h
    show ∃ out, foF bi body (e0 x :: l.map e0) env = some out ∧ _
    unfold foF
    obtain ⟨e1, q1, k1⟩ := hbi x a env kn
    rw [q1]
    split at h
    · cases h
    · rename_i a' qb
      obtain ⟨o2, q2, k2⟩ := hb _ _ _ qb e1 k1
      cases o2 with
      | nx e2 => simp only [q2]; exact fo_L e0 S e R hbi hb h e2 k2
      | ct e2 => simp only [q2]; exact fo_L e0 S e R hbi hb h e2 k2
      | _ => exact k2.elim
    · rename_i a' qb
      cases h
      obtain ⟨o2, q2, k2⟩ := hb _ _ _ qb e1 k1
      cases o2 with
      | bk e2 => simp only [q2]; exact ⟨.nx e2, rfl, k2⟩
      | _ => exact k2.elim
    · rename_i a' qb
      cases h
      obtain ⟨o2, q2, k2⟩ := hb _ _ _ qb e1 k1
      cases o2 with
      | rt d e2 => simp only [q2]; exact ⟨.rt d e2, rfl, k2⟩
      | rf d e2 => simp only [q2]; exact ⟨.rf d e2, rfl, k2⟩
      | _ => exact k2.elim
theorem ro_for {f : AF} {bi : BF} {body : SF} {ds : List PV} {o : Ou} (hi : EI n io st f ds st1) (h : RO' n io st1 (foF bi body ds) o) : RO' n io st (sFor f bi body) o := fun env k => by
  obtain ⟨e1, q1, k1⟩ := hi env k
  obtain ⟨o2, q2, k2⟩ := h e1 k1
  exact ⟨o2, by simp only [sFor, q1, q2], k2⟩

def drp (vs : List Nat) : KS → KS
  | [] => []
  | (i, c) :: r => match vs.elem i with
    | true => drp vs r
    | false => (i, c) :: drp vs r
theorem drp_in {vs : List Nat} {i : Nat} (h : i ∈ vs) : ∀ {st : KS}, lk (drp vs st) i = none
  | [] => rfl
  | (j, c) :: r => by
    unfold drp
    cases e : vs.elem j with
    | true => exact drp_in h
    | false =>
      show lk ((j, c) :: drp vs r) i = none
      rw [lk_cons_ne (fun z => by
        rw [z] at e
        rw [List.elem_eq_mem] at e
        simp [h] at e)]
      exact drp_in h
theorem drp_out {vs : List Nat} {i : Nat} (h : i ∉ vs) : ∀ {st : KS}, lk (drp vs st) i = lk st i
  | [] => rfl
  | (j, c) :: r => by
    unfold drp
    by_cases hj : j = i
    · subst hj
      have e : vs.elem j = false := by rw [List.elem_eq_mem]; simp [h]
      rw [e]
      show lk ((j, c) :: drp vs r) j = _
      rw [lk_cons_same, lk_cons_same]
    · cases e : vs.elem j with
      | true =>
        show lk (drp vs r) i = _
        rw [lk_cons_ne hj]
        exact drp_out h
      | false =>
        show lk ((j, c) :: drp vs r) i = _
        rw [lk_cons_ne hj, lk_cons_ne hj]
        exact drp_out h
theorem Kn.drp {env : Ev} {vs : List Nat} (k : Kn n io st env) : Kn n io (Fx.drp vs st) env := ⟨k.len, fun i c e => by
  by_cases h : i ∈ vs
  · rw [drp_in h] at e; cases e
  · rw [drp_out h] at e
    exact k.get i c e, k.nio⟩
theorem Kn.wipe {env : Ev} {vs : List Nat} (k : Kn n io st env) : Kn n io (Fx.drp vs st) (wipeE env vs) := ⟨by rw [wipeE_len]; exact k.len, fun i c e => by
  by_cases h : i ∈ vs
  · rw [drp_in h] at e; cases e
  · rw [drp_out h] at e
    rw [wipeE_get, if_neg (fun z => h z.1)]
    exact k.get i c e, fun i d e => by
  rw [wipeE_get] at e
  split at e
  · cases e
  · exact k.nio i d e⟩
theorem drp_drp {vs : List Nat} : ∀ {st : KS}, Fx.drp vs (Fx.drp vs st) = Fx.drp vs st
  | [] => rfl
  | (j, c) :: r => by
    cases e : vs.elem j with
    | true =>
      have h1 : Fx.drp vs ((j, c) :: r) = Fx.drp vs r := by show (match vs.elem j with | true => _ | false => _) = _; rw [e]
      rw [h1]; exact drp_drp
    | false =>
      have h1 : Fx.drp vs ((j, c) :: r) = (j, c) :: Fx.drp vs r := by show (match vs.elem j with | true => _ | false => _) = _; rw [e]
      rw [h1]
      show (match vs.elem j with | true => _ | false => _) = _
      rw [e, drp_drp]
def coS (t : δ → Option Bool) (f : δ → Option β) : List δ → Option (List β)
  | [] => some []
  | x :: xs => match t x with
    | none => none
    | some false => coS t f xs
    | some true => match f x with
      | none => none
      | some y => match coS t f xs with
        | none => none
        | some ys => some (y :: ys)
theorem coS_len {t : δ → Option Bool} {f : δ → Option β} : ∀ {l : List δ} {ys : List β}, coS t f l = some ys → ys.length ≤ l.length
  | [], _, h => by cases h; exact Nat.le_refl _
  | x :: xs, ys, h => by
    unfold coS at h
    split at h
    · cases h
    · exact Nat.le_succ_of_le (coS_len h)
    · split at h
      · cases h
      · split at h
        · cases h
        · rename_i zs q
          cases h
          exact Nat.succ_le_succ (coS_len q)
/-- not longer than a line -/
def shortL (l : List δ) : Bool := Nat.ble l.length sizeLine
theorem coF_of {vs : List Nat} {bi : BF} {tt : TF} {ff : EF} {t : δ → Option Bool} {f : δ → Option β} (e0 : δ → PV) (e1 : β → PV) {S1 : δ → KS} (hvs : ∀ x, Fx.drp vs (S1 x) = Fx.drp vs st)
    (hbi : ∀ x, EB n io (Fx.drp vs st) bi (e0 x) (S1 x)) (ht : ∀ x b, t x = some b → ET n io (S1 x) tt b (S1 x)) (hf : ∀ x y, f x = some y → EE n io (S1 x) ff (e1 y) (S1 x)) :
    ∀ {l : List δ} {ys : List β} {acc : List PV} {env : Ev}, coS t f l = some ys → acc.length + l.length ≤ sizeLine → Kn n io (Fx.drp vs st) env → ∃ e', coF vs bi tt ff (l.map e0) acc env = some (acc ++ ys.map e1, e') ∧ Kn n io (Fx.drp vs st) e'
  | [], ys, acc, env, h, _, k => by
    cases h
    exact ⟨env, by simp [coF], k⟩
  | x :: l, ys, acc, env, h, hl, k => by
    unfold coS at h
    have hl' : acc.length + (l.length + 1) ≤ sizeLine := hl
    show ∃ e', coF vs bi tt ff (e0 x :: l.map e0) acc env = _ ∧ _
    unfold coF
    obtain ⟨q1, z1, k1⟩ := hbi x env k
    simp only [z1]
    split at h
    · cases h
    · rename_i ht'
      obtain ⟨q2, z2, k2⟩ := ht x _ ht' q1 k1
      simp only [z2]
      refine coF_of e0 e1 hvs hbi ht hf h (by omega) ?_
      have := k2.wipe (vs := vs)
      rw [hvs x] at this
      exact this
    · rename_i ht'
      obtain ⟨q2, z2, k2⟩ := ht x _ ht' q1 k1
      simp only [z2]
      split at h
      · cases h
      · rename_i y hy
        split at h
        · cases h
        · rename_i zs hz
          cases h
          obtain ⟨q3, z3, k3⟩ := hf x y hy q2 k2
          simp only [z3]
          rw [if_pos (show acc.length < sizeLine by omega)]
          have k4 := k3.wipe (vs := vs)
          rw [hvs x] at k4
          obtain ⟨e', z4, k5⟩ := coF_of e0 e1 hvs hbi ht hf (acc := acc ++ [e1 y]) hz (by rw [List.length_append]; simp; omega) k4
          exact ⟨e', by rw [z4]; simp, k5⟩
theorem noIo_of {vs : List Nat} {env : Ev} (k : Kn n io st env) (h : ∀ i ∈ vs, i ∉ io) : noIo vs env = true := by
  unfold noIo
  rw [List.all_eq_true]
  intro i hi
  split
  · rename_i d e
    exact absurd (k.nio i d e) (h i hi)
  · rfl
theorem ee_lc {vs : List Nat} {w : AF} {bi : BF} {tt : TF} {ff : EF} {t : δ → Option Bool} {f : δ → Option β} {l : List δ} {ys : List β} (e0 : δ → PV) (e1 : β → PV) {S1 : δ → KS} (hi : EI n io st w (l.map e0) st1) (hvo : ∀ i ∈ vs, i ∉ io)
    (hbi : ∀ x, EB n io (Fx.drp vs st1) bi (e0 x) (S1 x)) (ht : ∀ x b, t x = some b → ET n io (S1 x) tt b (S1 x)) (hf : ∀ x y, f x = some y → EE n io (S1 x) ff (e1 y) (S1 x)) (h : coS t f l = some ys) (hl : shortL l = true) (hvs : ∀ x, Fx.drp vs (S1 x) = Fx.drp vs st1) : EE n io st (eLc vs w bi tt ff) (.list (ys.map e1)) (Fx.drp vs st1) := fun env k => by
  obtain ⟨q1, z1, k1⟩ := hi env k
  have hio := noIo_of k1 hvo
  obtain ⟨q2, z2, k2⟩ := coF_of e0 e1 hvs hbi ht hf (acc := []) h (by simpa using Nat.le_of_ble_eq_true hl) k1.wipe
  refine ⟨wipeE q2 vs, ?_, by have := k2.wipe (vs := vs); rw [drp_drp] at this; exact this⟩
  unfold eLc
  simp only [z1]
  rw [if_pos (by unfold noIo at hio; exact hio), z2]
  simp
theorem ee_tupG {vs : List Nat} {w : AF} {bi : BF} {tt : TF} {ff : EF} {t : δ → Option Bool} {f : δ → Option β} {l : List δ} {ys : List β} (e0 : δ → PV) (e1 : β → PV) {S1 : δ → KS} (hi : EI n io st w (l.map e0) st1) (hvo : ∀ i ∈ vs, i ∉ io)
    (hbi : ∀ x, EB n io (Fx.drp vs st1) bi (e0 x) (S1 x)) (ht : ∀ x b, t x = some b → ET n io (S1 x) tt b (S1 x)) (hf : ∀ x y, f x = some y → EE n io (S1 x) ff (e1 y) (S1 x)) (h : coS t f l = some ys) (hl : shortL l = true) (hvs : ∀ x, Fx.drp vs (S1 x) = Fx.drp vs st1) : EE n io st (eTupG vs w bi tt ff) (.tuple (ys.map e1)) (Fx.drp vs st1) := fun env k => by
  obtain ⟨q1, z1, k1⟩ := hi env k
  have hio := noIo_of k1 hvo
  obtain ⟨q2, z2, k2⟩ := coF_of e0 e1 hvs hbi ht hf (acc := []) h (by simpa using Nat.le_of_ble_eq_true hl) k1.wipe
  refine ⟨wipeE q2 vs, ?_, by have := k2.wipe (vs := vs); rw [drp_drp] at this; exact this⟩
  unfold eTupG
  simp only [z1]
  rw [if_pos hio, z2]
  simp
/-- all (go = true), any (go = false) -/
def goS (go : Bool) (t : δ → Option Bool) (f : δ → Option Bool) : List δ → Option Bool
  | [] => some go
  | x :: xs => match t x with
    | none => none
    | some false => goS go t f xs
    | some true => match f x with
      | none => none
      | some c => match go, c with
        | true, true => goS go t f xs
        | false, false => goS go t f xs
        | _, _ => some (!go)
theorem coB_of {go : Bool} {vs : List Nat} {bi : BF} {tt : TF} {ff : EF} {t : δ → Option Bool} {f : δ → Option Bool} (e0 : δ → PV) {S1 : δ → KS} (hvs : ∀ x, Fx.drp vs (S1 x) = Fx.drp vs st)
    (hbi : ∀ x, EB n io (Fx.drp vs st) bi (e0 x) (S1 x)) (ht : ∀ x b, t x = some b → ET n io (S1 x) tt b (S1 x)) (hf : ∀ x y, f x = some y → EE n io (S1 x) ff (.bool y) (S1 x)) :
    ∀ {l : List δ} {r : Bool} {env : Ev}, goS go t f l = some r → Kn n io (Fx.drp vs st) env → ∃ e', coB go vs bi tt ff (l.map e0) env = some (r, e') ∧ Kn n io (Fx.drp vs st) (wipeE e' vs)
  | [], r, env, h, k => by
    cases h
    refine ⟨env, by simp [coB], ?_⟩
    have := k.wipe (vs := vs)
    rw [drp_drp] at this
    exact this
  | x :: l, r, env, h, k => by
    unfold goS at h
    show ∃ e', coB go vs bi tt ff (e0 x :: l.map e0) env = _ ∧ _
    unfold coB
    obtain ⟨q1, z1, k1⟩ := hbi x env k
    simp only [z1]
    split at h
    · cases h
    · rename_i ht'
      obtain ⟨q2, z2, k2⟩ := ht x _ ht' q1 k1
      simp only [z2]
      refine coB_of e0 hvs hbi ht hf h ?_
      have := k2.wipe (vs := vs)
      rw [hvs x] at this
      exact this
    · rename_i ht'
      obtain ⟨q2, z2, k2⟩ := ht x _ ht' q1 k1
      simp only [z2]
      split at h
      · cases h
      · rename_i c hc
        obtain ⟨q3, z3, k3⟩ := hf x c hc q2 k2
        simp only [z3]
        have k4 := k3.wipe (vs := vs)
        rw [hvs x] at k4
        cases go <;> cases c
        · rw [if_pos rfl]; exact coB_of e0 hvs hbi ht hf h k4
        · cases h; exact ⟨q3, by simp, k4⟩
        · cases h; exact ⟨q3, by simp, k4⟩
        · rw [if_pos rfl]; exact coB_of e0 hvs hbi ht hf h k4
theorem ee_go {go : Bool} {vs : List Nat} {w : AF} {bi : BF} {tt : TF} {ff : EF} {t : δ → Option Bool} {f : δ → Option Bool} {l : List δ} {r : Bool} (e0 : δ → PV) {S1 : δ → KS} (hi : EI n io st w (l.map e0) st1) (hvo : ∀ i ∈ vs, i ∉ io)
    (hbi : ∀ x, EB n io (Fx.drp vs st1) bi (e0 x) (S1 x)) (ht : ∀ x b, t x = some b → ET n io (S1 x) tt b (S1 x)) (hf : ∀ x y, f x = some y → EE n io (S1 x) ff (.bool y) (S1 x)) (h : goS go t f l = some r) (hvs : ∀ x, Fx.drp vs (S1 x) = Fx.drp vs st1) : EE n io st (eGo go vs w bi tt ff) (.bool r) (Fx.drp vs st1) := fun env k => by
  obtain ⟨q1, z1, k1⟩ := hi env k
  have hio := noIo_of k1 hvo
  obtain ⟨q2, z2, k2⟩ := coB_of e0 hvs hbi ht hf h k1.wipe
  refine ⟨wipeE q2 vs, ?_, k2⟩
  unfold eGo
  simp only [z1]
  rw [if_pos hio, z2]
/-- two clauses; k: how many more items there may be -/
def coS2 (t : δ → Option Bool) (w1 : δ → Option (List γ)) (t1 : δ → γ → Option Bool) (f : δ → γ → Option β) : Nat → List δ → Option (List β)
  | _, [] => some []
  | k, x :: xs => match t x with
    | none => none
    | some false => coS2 t w1 t1 f k xs
    | some true => match w1 x with
      | none => none
      | some l1 => match Nat.ble l1.length k with
        | false => none
        | true => match coS (t1 x) (f x) l1 with
          | none => none
          | some ys => match coS2 t w1 t1 f (k - l1.length) xs with
            | none => none
            | some zs => some (ys ++ zs)
theorem coF2_of {vs vs1 : List Nat} {bi bi1 : BF} {tt tt1 : TF} {wf : AF} {ff : EF} {t : δ → Option Bool} {w1 : δ → Option (List γ)} {t1 : δ → γ → Option Bool} {f : δ → γ → Option β} (e0 : δ → PV) (e2 : γ → PV) (e1 : β → PV) {S1 : δ → KS} {S2 : δ → γ → KS}
    (hvs1 : ∀ x y, Fx.drp vs1 (S2 x y) = Fx.drp vs1 (S1 x)) (hvs2 : ∀ x, Fx.drp vs (Fx.drp vs1 (S1 x)) = Fx.drp vs st) (hvs : ∀ x, Fx.drp vs (S1 x) = Fx.drp vs st)
    (hbi : ∀ x, EB n io (Fx.drp vs st) bi (e0 x) (S1 x)) (ht : ∀ x b, t x = some b → ET n io (S1 x) tt b (S1 x)) (hw : ∀ x l1, w1 x = some l1 → EI n io (S1 x) wf (l1.map e2) (S1 x))
    (hbi1 : ∀ x y, EB n io (Fx.drp vs1 (S1 x)) bi1 (e2 y) (S2 x y)) (ht1 : ∀ x y b, t1 x y = some b → ET n io (S2 x y) tt1 b (S2 x y)) (hf : ∀ x y z, f x y = some z → EE n io (S2 x y) ff (e1 z) (S2 x y)) :
    ∀ {l : List δ} {k : Nat} {ys : List β} {acc : List PV} {env : Ev}, coS2 t w1 t1 f k l = some ys → acc.length + k ≤ sizeLine → Kn n io (Fx.drp vs st) env → ∃ e', coF2 vs vs1 bi tt wf bi1 tt1 ff (l.map e0) acc env = some (acc ++ ys.map e1, e') ∧ Kn n io (Fx.drp vs st) e'
  | [], k, ys, acc, env, h, _, kn => by
    unfold coS2 at h
    cases h
    exact ⟨env, by simp [coF2], kn⟩
  | x :: l, k, ys, acc, env, h, hl, kn => by
    unfold coS2 at h
    show ∃ e', coF2 vs vs1 bi tt wf bi1 tt1 ff (e0 x :: l.map e0) acc env = _ ∧ _
    unfold coF2
    obtain ⟨q1, z1, k1⟩ := hbi x env kn
    simp only [z1]
    split at h
    · cases h
    · rename_i ht'
      obtain ⟨q2, z2, k2⟩ := ht x _ ht' q1 k1
      simp only [z2]
      refine coF2_of e0 e2 e1 hvs1 hvs2 hvs hbi ht hw hbi1 ht1 hf h hl ?_
      have := k2.wipe (vs := vs)
      rw [hvs x] at this
      exact this
    · rename_i ht'
      obtain ⟨q2, z2, k2⟩ := ht x _ ht' q1 k1
      simp only [z2]
      split at h
      · cases h
      · rename_i l1 hl1
        obtain ⟨q3, z3, k3⟩ := hw x l1 hl1 q2 k2
        simp only [z3]
        split at h
        · cases h
        · rename_i hb
          have hb := Nat.le_of_ble_eq_true hb
          split at h
          · cases h
          · rename_i ys1 hy1
            split at h
            · cases h
            · rename_i zs hz
              cases h
              obtain ⟨q4, z4, k4⟩ := coF_of (st := S1 x) (vs := vs1) (l := l1) e2 e1 (S1 := S2 x) (hvs1 x) (hbi1 x) (fun y b hy => ht1 x y b hy) (fun y z hy => hf x y z hy) (acc := acc) hy1 (by omega) (k3.wipe (vs := vs1))
              simp only [z4]
              have k5 := k4.wipe (vs := vs)
              rw [hvs2 x] at k5
              have := coS_len hy1
              obtain ⟨q5, z5, k6⟩ := coF2_of e0 e2 e1 hvs1 hvs2 hvs hbi ht hw hbi1 ht1 hf (acc := acc ++ ys1.map e1) hz (by rw [List.length_append, List.length_map]; omega) k5
              exact ⟨q5, by rw [z5]; simp, k6⟩
theorem ee_lc2 {vs vs1 : List Nat} {w : AF} {bi bi1 : BF} {tt tt1 : TF} {wf : AF} {ff : EF} {t : δ → Option Bool} {w1 : δ → Option (List γ)} {t1 : δ → γ → Option Bool} {f : δ → γ → Option β} {l : List δ} {ys : List β} (e0 : δ → PV) (e2 : γ → PV) (e1 : β → PV) {S1 : δ → KS} {S2 : δ → γ → KS}
    (hi : EI n io st w (l.map e0) st1) (hvo : ∀ i ∈ vs, i ∉ io)
    (hbi : ∀ x, EB n io (Fx.drp vs st1) bi (e0 x) (S1 x)) (ht : ∀ x b, t x = some b → ET n io (S1 x) tt b (S1 x)) (hw : ∀ x l1, w1 x = some l1 → EI n io (S1 x) wf (l1.map e2) (S1 x))
    (hbi1 : ∀ x y, EB n io (Fx.drp vs1 (S1 x)) bi1 (e2 y) (S2 x y)) (ht1 : ∀ x y b, t1 x y = some b → ET n io (S2 x y) tt1 b (S2 x y)) (hf : ∀ x y z, f x y = some z → EE n io (S2 x y) ff (e1 z) (S2 x y))
    (h : coS2 t w1 t1 f sizeLine l = some ys) (hvs1 : ∀ x y, Fx.drp vs1 (S2 x y) = Fx.drp vs1 (S1 x)) (hvs2 : ∀ x, Fx.drp vs (Fx.drp vs1 (S1 x)) = Fx.drp vs st1) (hvs : ∀ x, Fx.drp vs (S1 x) = Fx.drp vs st1) :
    EE n io st (eLc2 vs vs1 w bi tt wf bi1 tt1 ff) (.list (ys.map e1)) (Fx.drp vs st1) := fun env k => by
  obtain ⟨q1, z1, k1⟩ := hi env k
  have hio := noIo_of k1 hvo
  obtain ⟨q2, z2, k2⟩ := coF2_of e0 e2 e1 hvs1 hvs2 hvs hbi ht hw hbi1 ht1 hf (acc := []) h (by simp) k1.wipe
  refine ⟨wipeE q2 vs, ?_, by have := k2.wipe (vs := vs); rw [drp_drp] at this; exact this⟩
  unfold eLc2
  simp only [z1]
  rw [if_pos (by unfold noIo at hio; unfold ioF; exact hio), z2]
  simp
theorem ee_eq {f : EF} {d d' : PV} (h : EE n io st f d st1) (e : d = d') : EE n io st f d' st1 := e ▸ h
theorem et_an {f h : TF} {b v : Bool} {m : Option Bool} (hv : cond b m (some false) = some v) (h1 : ET n io st f b st1) (h2 : ∀ c, m = some c → ET n io st1 h c st1) : ET n io st (tAn f h) v st1 := by
  rcases cond_ok hv with ⟨hb, hm⟩ | ⟨hb, hm⟩
  · exact et_anT h1 hb (h2 v hm)
  · cases hm; exact et_anF h1 hb
theorem et_or {f h : TF} {b v : Bool} {m : Option Bool} (hv : cond b (some true) m = some v) (h1 : ET n io st f b st1) (h2 : ∀ c, m = some c → ET n io st1 h c st1) : ET n io st (tOr' f h) v st1 := by
  rcases cond_ok hv with ⟨hb, hm⟩ | ⟨hb, hm⟩
  · cases hm; exact et_orT h1 hb
  · exact et_orF h1 hb (h2 v hm)
theorem ee_an {f h : EF} {b v : Bool} {m : Option Bool} (hv : cond b m (some false) = some v) (h1 : EE n io st f (.bool b) st1) (h2 : ∀ c, m = some c → EE n io st1 h (.bool c) st1) : EE n io st (vAn f h) (.bool v) st1 := by
  rcases cond_ok hv with ⟨rfl, hm⟩ | ⟨rfl, hm⟩
  · exact ee_anT h1 (h2 v hm)
  · cases hm; exact ee_anF h1
theorem ee_or {f h : EF} {b v : Bool} {m : Option Bool} (hv : cond b (some true) m = some v) (h1 : EE n io st f (.bool b) st1) (h2 : ∀ c, m = some c → EE n io st1 h (.bool c) st1) : EE n io st (vOr f h) (.bool v) st1 := by
  rcases cond_ok hv with ⟨rfl, hm⟩ | ⟨rfl, hm⟩
  · cases hm; exact ee_orT h1
  · exact ee_orF h1 (h2 v hm)
theorem ee_if {t : TF} {f h : EF} {b : Bool} {v : α} {m1 m2 : Option α} (e : α → PV) (hv : cond b m1 m2 = some v) (ht : ET n io st t b st1) (h1 : ∀ x, m1 = some x → EE n io st1 f (e x) st1) (h2 : ∀ x, m2 = some x → EE n io st1 h (e x) st1) : EE n io st (eIf t f h) (e v) st1 := by
  rcases cond_ok hv with ⟨hb, hm⟩ | ⟨hb, hm⟩
  · exact ee_ifT ht hb (h1 v hm)
  · exact ee_ifF ht hb (h2 v hm)
theorem ee_chn {g h : PV → PV → Option PV} {fa fb fc : EF} {x y : PV} {b v : Bool} {m : Option Bool} (hv : cond b m (some false) = some v) (ha : EE n io st fa x st1) (hb : EE n io st1 fb y st2) (hg : g x y = some (.bool b)) (h2 : ∀ c, m = some c → ∃ z, EE n io st2 fc z st2 ∧ h y z = some (.bool c)) : EE n io st (chn g h fa fb fc) (.bool v) st2 := by
  rcases cond_ok hv with ⟨rfl, hm⟩ | ⟨rfl, hm⟩
  · obtain ⟨z, h3, h4⟩ := h2 v hm
    exact ee_chnT ha hb hg h3 h4
  · cases hm; exact ee_chnF ha hb hg
def args0 : Nat → List PV → KS
  | _, [] => []
  | i, d :: r => (i, .va d) :: args0 (i + 1) r
theorem args0_get : ∀ {ps : List PV} {i j : Nat} {c : Fc}, lk (args0 i ps) j = some c → ∃ d, c = .va d ∧ i ≤ j ∧ ps[j - i]? = some d
  | [], _, _, _, h => by cases h
  | d :: r, i, j, c, h => by
    by_cases hj : i = j
    · subst hj
      unfold args0 at h
      rw [lk_cons_same] at h
      cases h
      exact ⟨d, rfl, Nat.le_refl _, by simp⟩
    · unfold args0 at h
      rw [lk_cons_ne hj] at h
      obtain ⟨d', e, h1, h2⟩ := args0_get h
      refine ⟨d', e, by omega, ?_⟩
      rw [show j - i = (j - (i + 1)) + 1 by omega]
      simpa using h2
theorem kn_start {n : Nat} {ps : List PV} (h : ps.length ≤ n) : Kn n [] (args0 0 ps) (start0 n ps) := by
  refine ⟨by unfold start0; simp; omega, fun i c e => ?_, fun i d e => ?_⟩
  · obtain ⟨d, rfl, _, h2⟩ := args0_get e
    refine ⟨.va d, ?_, rfl⟩
    unfold start0
    have hi : i < ps.length := (List.getElem?_eq_some_iff.mp h2).1
    rw [List.getElem?_append_left (by simpa using hi), List.getElem?_map, show ps[i]? = some d from h2]
    rfl
  · unfold start0 at e
    by_cases hi : i < ps.length
    · rw [List.getElem?_append_left (by simpa using hi), List.getElem?_map] at e
      cases h3 : ps[i]? with
      | none => rw [h3] at e; cases e
      | some d => rw [h3] at e; cases e
    · rw [List.getElem?_append_right (by simpa using hi), List.getElem?_replicate] at e
      split at e <;> cases e
theorem runP_of {n k : Nat} {b : SF} {ps : List PV} {d : PV} (hk : ps.length = k ∧ k ≤ n) (h : RO' n [] (args0 0 ps) b (.rt d [])) : runP n k b ps = some d := by
  obtain ⟨o, q, k1⟩ := h _ (kn_start (by omega))
  unfold runP
  rw [if_pos hk, q]
  cases o with
  | rt d e => rw [k1.1]
  | rf d e => rw [k1.1]
  | _ => exact k1.elim
theorem runP_ofN {n k : Nat} {b : SF} {ps : List PV} (hk : ps.length = k ∧ k ≤ n) (h : RO' n [] (args0 0 ps) b (.nx st)) : runP n k b ps = some .none := by
  obtain ⟨o, q, k1⟩ := h _ (kn_start (by omega))
  unfold runP
  rw [if_pos hk, q]
  cases o with
  | nx e => rfl
  | _ => exact k1.elim
theorem kn_start1 {n : Nat} {p : PV} {ps : List PV} (h : ps.length + 1 ≤ n) : Kn n [0] ((0, .io p) :: args0 1 ps) (start1 n p ps) := by
  refine ⟨by unfold start1 start0; simp; omega, fun i c e => ?_, fun i d e => ?_⟩
  · by_cases hi0 : 0 = i
    · subst hi0
      rw [lk_cons_same] at e
      cases e
      exact ⟨.io p, rfl, rfl⟩
    · rw [lk_cons_ne hi0] at e
      obtain ⟨d, rfl, h1, h2⟩ := args0_get e
      refine ⟨.va d, ?_, rfl⟩
      have hi : i - 1 < ps.length := (List.getElem?_eq_some_iff.mp h2).1
      unfold start1 start0
      rw [show i = (i - 1) + 1 by omega, List.getElem?_cons_succ, List.getElem?_append_left (by simpa using hi), List.getElem?_map, h2]
      rfl
  · by_cases hi0 : 0 = i
    · subst hi0; simp
    · unfold start1 start0 at e
      rw [show i = (i - 1) + 1 by omega, List.getElem?_cons_succ] at e
      by_cases hi : i - 1 < ps.length
      · rw [List.getElem?_append_left (by simpa using hi), List.getElem?_map] at e
        cases h3 : ps[i - 1]? with
        | none => rw [h3] at e; cases e
        | some d => rw [h3] at e; cases e
      · rw [List.getElem?_append_right (by simpa using hi), List.getElem?_replicate] at e
        split at e <;> cases e
theorem runIO_of {n k : Nat} {b : SF} {p p' : PV} {ps : List PV} {d : PV} (hk : ps.length + 1 = k ∧ k ≤ n) (h : RO' n [0] ((0, .io p) :: args0 1 ps) b (.rt d [(0, .io p')])) : runIO n k b p ps = some (p', d) := by
  obtain ⟨o, q, k1⟩ := h _ (kn_start1 (by omega))
  unfold runIO
  rw [if_pos hk, q]
  have fin : ∀ {e : Ev}, Kn n [0] [(0, .io p')] e → ∃ r, e = .io p' :: r := fun {e} kn => by
    obtain ⟨s, h1, h2⟩ := kn.get 0 (.io p') (by rfl)
    cases h2
    cases e with
    | nil => cases h1
    | cons x r => cases h1; exact ⟨r, rfl⟩
  cases o with
  | rt d e => obtain ⟨h1, h2⟩ := k1; obtain ⟨r, rfl⟩ := fin h2; rw [h1]
  | rf d e => obtain ⟨h1, h2⟩ := k1; obtain ⟨r, rfl⟩ := fin h2; rw [h1]
  | _ => exact k1.elim
end Fx

namespace Fx
open PySem PySem.Spec L2
open PyProof.Rows hiding St
variable {n : Nat} {io : List Nat} {st st1 st2 st3 st4 : KS} {α β γ δ : Type}

def iLt : Int → Int → Bool
  | .ofNat a, .ofNat b => Nat.blt a b
  | .ofNat _, .negSucc _ => false
  | .negSucc _, .ofNat _ => true
  | .negSucc a, .negSucc b => Nat.blt b a
def iEq : Int → Int → Bool
  | .ofNat a, .ofNat b => Nat.beq a b
  | .negSucc a, .negSucc b => Nat.beq a b
  | _, _ => false
def iLe (a b : Int) : Bool := !iLt b a
theorem blt_dec (a b : Nat) : Nat.blt a b = decide (a < b) := by
  unfold Nat.blt
  exact Bool.eq_iff_iff.mpr (by simp [Nat.ble_eq]; omega)
theorem iLt_eq (a b : Int) : iLt a b = decide (a < b) := by
  cases a <;> cases b <;> simp only [iLt, blt_dec] <;> (apply Bool.eq_iff_iff.mpr; simp only [decide_eq_true_eq, Bool.false_eq_true, false_iff, true_iff, Int.ofNat_eq_natCast]) <;> omega
theorem iEq_eq (a b : Int) : iEq a b = decide (a = b) := by
  cases a <;> cases b <;> simp only [iEq] <;> (apply Bool.eq_iff_iff.mpr; simp only [decide_eq_true_eq, Bool.false_eq_true, false_iff, true_iff, Nat.beq_eq, Int.ofNat_eq_natCast]) <;> omega
theorem iLe_eq (a b : Int) : iLe a b = decide (a ≤ b) := by
  unfold iLe
  rw [iLt_eq]
  apply Bool.eq_iff_iff.mpr
  simp
theorem pLt_I {a b : Int} : pLt (.int a) (.int b) = some (.bool (iLt a b)) := by rw [iLt_eq]; rfl
theorem pGt_I {a b : Int} : pGt (.int a) (.int b) = some (.bool (iLt b a)) := by rw [iLt_eq]; rfl
theorem pLe_I {a b : Int} : pLe (.int a) (.int b) = some (.bool (iLe a b)) := by rw [iLe_eq]; rfl
theorem pGe_I {a b : Int} : pGe (.int a) (.int b) = some (.bool (iLe b a)) := by rw [iLe_eq]; rfl
theorem pEq_I {a b : Int} : pEq (.int a) (.int b) = some (.bool (iEq a b)) := by rw [iEq_eq]; rfl
theorem pNe_I {a b : Int} : pNe (.int a) (.int b) = some (.bool (!iEq a b)) := by rw [iEq_eq]; rfl
def fitsB (a b : Int) : Bool := Nat.blt (a.natAbs.log2 + b.natAbs.log2) 1000000
def imul (a b : Int) : Option Int := cond (fitsB a b) (some (a * b)) none
def idiv (a b : Int) : Option Int := cond (iEq b 0 || !Nat.blt b.natAbs.log2 9000) none (some (a.fdiv b))
def imod (a b : Int) : Option Int := cond (iEq b 0) none (some (a.fmod b))
def ipow (a b : Int) : Option Int := cond (iLe 0 b && iLe b 1000000 && Nat.blt a.natAbs (2 ^ 64)) (some (a ^ b.toNat)) none
theorem pMul_I {a b c : Int} (h : imul a b = some c) : pMul (.int a) (.int b) = some (.int c) := by
  unfold imul fitsB at h
  rcases cond_ok h with ⟨h1, h2⟩ | ⟨_, h2⟩
  · cases h2
    rw [blt_dec] at h1
    show (if fits a b = true then _ else _) = _
    rw [if_pos (by unfold fits; exact h1)]
  · cases h2
theorem pMulW_I {a b c : Int} (h : imul a b = some c) : pMulW (.int a) (.int b) = some (.int c) := by
  unfold imul fitsB at h
  rcases cond_ok h with ⟨h1, h2⟩ | ⟨_, h2⟩
  · cases h2
    rw [blt_dec] at h1
    show (if fits a b = true then _ else _) = _
    rw [if_pos (by unfold fits; exact h1)]
  · cases h2
theorem pDiv_I {a b c : Int} (h : idiv a b = some c) : pDiv (.int a) (.int b) = some (.int c) := by
  unfold idiv at h
  rcases cond_ok h with ⟨_, h2⟩ | ⟨h1, h2⟩
  · cases h2
  · cases h2
    rw [iEq_eq, blt_dec] at h1
    simp at h1
    show (if b ≠ 0 ∧ b.natAbs.log2 < 9000 then _ else _) = _
    rw [if_pos h1]
theorem pMod_I {a b c : Int} (h : imod a b = some c) : pMod (.int a) (.int b) = some (.int c) := by
  unfold imod at h
  rcases cond_ok h with ⟨_, h2⟩ | ⟨h1, h2⟩
  · cases h2
  · cases h2
    rw [iEq_eq] at h1
    simp at h1
    show (if b ≠ 0 then _ else _) = _
    rw [if_pos h1]
theorem pPow_I {a b c : Int} (h : ipow a b = some c) : pPow (.int a) (.int b) = some (.int c) := by
  unfold ipow at h
  rcases cond_ok h with ⟨h1, h2⟩ | ⟨_, h2⟩
  · cases h2
    rw [iLe_eq, iLe_eq, blt_dec] at h1
    simp only [Bool.and_eq_true, decide_eq_true_eq] at h1
    show (if 0 ≤ b ∧ b ≤ 1000000 ∧ a.natAbs < 2 ^ 64 then _ else _) = _
    rw [if_pos ⟨h1.1.1, h1.1.2, h1.2⟩]
  · cases h2
def iAbs (a : Int) : Int := (a.natAbs : Int)
theorem pAbs_I {a : Int} : pAbs [.int a] = some (.int (iAbs a)) := by
  show some (PyData.int (if a < 0 then -a else a)) = some (.int (iAbs a))
  unfold iAbs
  congr 2
  by_cases h : a < 0 <;> simp only [h, if_true, if_false] <;> omega
def iGcd (a b : Int) : Int := ((Nat.gcd a.natAbs b.natAbs : Nat) : Int)
theorem pGcd_I {a b : Int} : pGcd [.int a, .int b] = some (.int (iGcd a b)) := rfl
def iMin (a b : Int) : Int := cond (iLt b a) b a
def iMax (a b : Int) : Int := cond (iLt a b) b a
theorem pMin2_I {a b : Int} : pMin2 [.int a, .int b] = some (.int (iMin a b)) := by
  unfold iMin
  rw [iLt_eq]
  show some (PyData.int (if b < a then b else a)) = _
  by_cases h : b < a <;> simp [h]
theorem pMax2_I {a b : Int} : pMax2 [.int a, .int b] = some (.int (iMax a b)) := by
  unfold iMax
  rw [iLt_eq]
  show some (PyData.int (if b > a then b else a)) = _
  by_cases h : a < b <;> simp [h]
theorem tru_I {a : Int} : tru (.int a) = some (!iEq a 0) := by
  rw [iEq_eq]
  show some (a != 0) = _
  by_cases h : a = 0 <;> simp [h]
def iSq (a : Int) : Option Int := match pIsq [.int a] with
  | some (.int r) => some r
  | _ => none
theorem pIsq_I {a r : Int} (h : iSq a = some r) : pIsq [.int a] = some (.int r) := by
  unfold iSq at h
  split at h
  · rename_i q; cases h; exact q
  · cases h
def asI : PV → Option Int
  | .int i => some i
  | _ => none
theorem asI_ok {v : PV} {i : Int} (h : asI v = some i) : v = .int i := by
  unfold asI at h; split at h
  · cases h; rfl
  · cases h
def asB : PV → Option Bool
  | .bool i => some i
  | _ => none
theorem asB_ok {v : PV} {i : Bool} (h : asB v = some i) : v = .bool i := by
  unfold asB at h; split at h
  · cases h; rfl
  · cases h
def asS : PV → Option Str
  | .str i => some i
  | _ => none
theorem asS_ok {v : PV} {i : Str} (h : asS v = some i) : v = .str i := by
  unfold asS at h; split at h
  · cases h; rfl
  · cases h
def asL : PV → Option (List PV)
  | .list i => some i
  | _ => none
theorem asL_ok {v : PV} {i : List PV} (h : asL v = some i) : v = .list (i.map fun y => y) := by
  unfold asL at h; split at h
  · cases h; simp
  · cases h
def asQ : PV → Option (List PV)
  | .tuple i => some i
  | _ => none
theorem asQ_ok {v : PV} {i : List PV} (h : asQ v = some i) : v = .tuple (i.map fun y => y) := by
  unfold asQ at h; split at h
  · cases h; simp
  · cases h
def asLI : PV → Option (List Int)
  | .list i => intsOf i
  | _ => none
theorem asLI_ok {v : PV} {i : List Int} (h : asLI v = some i) : v = .list (i.map PyData.int) := by
  unfold asLI at h; split at h
  · rw [intsOf_eq h]
  · cases h
def asQI : PV → Option (List Int)
  | .tuple i => intsOf i
  | _ => none
theorem asQI_ok {v : PV} {i : List Int} (h : asQI v = some i) : v = .tuple (i.map PyData.int) := by
  unfold asQI at h; split at h
  · rw [intsOf_eq h]
  · cases h
def as2I : PV → Option (Int × Int)
  | .tuple [.int a, .int b] => some (a, b)
  | _ => none
theorem as2I_ok {v : PV} {p : Int × Int} (h : as2I v = some p) : v = .tuple [.int p.1, .int p.2] := by
  unfold as2I at h; split at h
  · cases h; rfl
  · cases h
def as3I : PV → Option (Int × Int × Int)
  | .tuple [.int a, .int b, .int c] => some (a, b, c)
  | _ => none
theorem as3I_ok {v : PV} {p : Int × Int × Int} (h : as3I v = some p) : v = .tuple [.int p.1, .int p.2.1, .int p.2.2] := by
  unfold as3I at h; split at h
  · cases h; rfl
  · cases h
/-- an operation whose value is a truth value -/
def vB : Option PV → Option Bool
  | some (.bool b) => some b
  | _ => none
theorem vB_ok {m : Option PV} {b : Bool} (h : vB m = some b) : m = some (.bool b) := by
  unfold vB at h; split at h
  · cases h; rfl
  · cases h
def vI : Option PV → Option Int
  | some (.int b) => some b
  | _ => none
theorem vI_ok {m : Option PV} {b : Int} (h : vI m = some b) : m = some (.int b) := by
  unfold vI at h; split at h
  · cases h; rfl
  · cases h
def vS : Option PV → Option Str
  | some (.str b) => some b
  | _ => none
theorem vS_ok {m : Option PV} {b : Str} (h : vS m = some b) : m = some (.str b) := by
  unfold vS at h; split at h
  · cases h; rfl
  · cases h
/-- None or a value -/
def eO (e : α → PV) : Option α → PV
  | none => .none
  | some x => e x
theorem isNn_O {e : α → PV} (he : ∀ x, isNn (e x) = false) : ∀ o : Option α, isNn (eO e o) = o.isNone
  | none => rfl
  | some x => he x
theorem eO_ok {e : α → PV} {o : Option α} {x : α} (h : o = some x) : eO e o = e x := by rw [h]; rfl
structure EqE (e : α → PV) (q : α → α → Bool) (k : Nat) : Prop where
  nd : ∀ x, noDict (e x) = true
  sh : ∀ x, (e x).canLay0 = true
  dp : ∀ x, (e x).depth ≤ k
  eq : ∀ x y, PyData.eqv (e x) (e y) = q x y
theorem eqe_I : EqE PyData.int iEq 0 := ⟨fun _ => rfl, fun _ => rfl, fun _ => Nat.le_refl _, fun x y => by
  rw [iEq_eq]
  show (x == y) = _
  by_cases h : x = y <;> simp [h]⟩
theorem eqe_B : EqE PyData.bool (fun x y => x == y) 0 := ⟨fun _ => rfl, fun _ => rfl, fun _ => Nat.le_refl _, fun x y => rfl⟩
def eqL (q : α → α → Bool) : List α → List α → Bool
  | [], [] => true
  | x :: xs, y :: ys => q x y && eqL q xs ys
  | _, _ => false
section
variable {e : α → PV} {q : α → α → Bool} {k : Nat} (E : EqE e q k)
include E
theorem eqv_map : ∀ xs ys : List α, PyData.eqvAll (xs.map e) (ys.map e) = eqL q xs ys
  | [], [] => rfl
  | [], _ :: _ => rfl
  | _ :: _, [] => rfl
  | x :: xs, y :: ys => by
    show (PyData.eqv (e x) (e y) && PyData.eqvAll (xs.map e) (ys.map e)) = _
    rw [E.eq, eqv_map xs ys]
    rfl
theorem nd_map : ∀ xs : List α, noDicts (xs.map e) = true
  | [] => rfl
  | x :: xs => (Bool.and_eq_true _ _).mpr ⟨E.nd x, nd_map xs⟩
theorem cl_map : ∀ xs : List α, PyData.canLayAll0 (xs.map e) = true
  | [] => rfl
  | x :: xs => by
    rw [List.map_cons, PyData.canLayAll0, E.sh x, cl_map xs]
    rfl
theorem dp_map : ∀ xs : List α, PyData.depthAll (xs.map e) ≤ k
  | [] => by simp [PyData.depthAll]
  | x :: xs => by
    rw [List.map_cons, PyData.depthAll]
    exact Nat.max_le.mpr ⟨E.dp x, dp_map xs⟩
theorem eqe_L : EqE (fun l : List α => PyData.list (l.map e)) (eqL q) (k + 1) := ⟨fun x => by simpa [noDict] using nd_map E x, fun x => by simpa [PyData.canLay0] using cl_map E x,
  fun x => by have := dp_map E x; simp only [PyData.depth]; omega, fun x y => eqv_map E x y⟩
theorem eqe_Q : EqE (fun l : List α => PyData.tuple (l.map e)) (eqL q) (k + 1) := ⟨fun x => by simpa [noDict] using nd_map E x, fun x => by simpa [PyData.canLay0] using cl_map E x,
  fun x => by have := dp_map E x; simp only [PyData.depth]; omega, fun x y => eqv_map E x y⟩
end
theorem eqe_2 {e1 : α → PV} {e2 : β → PV} {q1 : α → α → Bool} {q2 : β → β → Bool} {k1 k2 : Nat} (E1 : EqE e1 q1 k1) (E2 : EqE e2 q2 k2) : EqE (fun p : α × β => PyData.tuple [e1 p.1, e2 p.2]) (fun x y => q1 x.1 y.1 && q2 x.2 y.2) (k1 + k2 + 1) :=
  ⟨fun x => by simp [noDict, noDicts, E1.nd, E2.nd], fun x => by simp [PyData.canLay0, PyData.canLayAll0, E1.sh, E2.sh], fun x => by
    have h1 := E1.dp x.1
    have h2 := E2.dp x.2
    simp only [PyData.depth, PyData.depthAll]
    omega, fun x y => by
    show (PyData.eqv (e1 x.1) (e1 y.1) && (PyData.eqv (e2 x.2) (e2 y.2) && true)) = _
    rw [E1.eq, E2.eq, Bool.and_true]⟩
theorem eqe_3 {e1 : α → PV} {e2 : β → PV} {e3 : γ → PV} {q1 : α → α → Bool} {q2 : β → β → Bool} {q3 : γ → γ → Bool} {k1 k2 k3 : Nat} (E1 : EqE e1 q1 k1) (E2 : EqE e2 q2 k2) (E3 : EqE e3 q3 k3) : EqE (fun p : α × β × γ => PyData.tuple [e1 p.1, e2 p.2.1, e3 p.2.2]) (fun x y => q1 x.1 y.1 && (q2 x.2.1 y.2.1 && q3 x.2.2 y.2.2)) (k1 + k2 + k3 + 1) :=
  ⟨fun x => by simp [noDict, noDicts, E1.nd, E2.nd, E3.nd], fun x => by simp [PyData.canLay0, PyData.canLayAll0, E1.sh, E2.sh, E3.sh], fun x => by
    have h1 := E1.dp x.1
    have h2 := E2.dp x.2.1
    have h3 := E3.dp x.2.2
    simp only [PyData.depth, PyData.depthAll]
    omega, fun x y => by
    show (PyData.eqv (e1 x.1) (e1 y.1) && (PyData.eqv (e2 x.2.1) (e2 y.2.1) && (PyData.eqv (e3 x.2.2) (e3 y.2.2) && true))) = _
    rw [E1.eq, E2.eq, E3.eq, Bool.and_true]⟩
/-- a list or a tuple -/
def isSq : PV → Bool
  | .list _ => true
  | .tuple _ => true
  | _ => false
theorem pEq_E {e : α → PV} {q : α → α → Bool} {k : Nat} (E : EqE e q k) (hk : k ≤ 64) {x y : α} (h : isSq (e x) = true) : pEq (e x) (e y) = some (.bool (q x y)) := by
  have h1 : (noDict (e x) && noDict (e y) && SeqAt.shaped (e x) && SeqAt.shaped (e y)) = true := by
    have d1 := E.dp x
    have d2 := E.dp y
    simp only [SeqAt.shaped, E.nd, E.sh, Bool.true_and, Bool.and_eq_true, decide_eq_true_eq]
    omega
  have h2 := E.eq x y
  generalize e x = a at h h1 h2
  cases a with
  | list xs => show (if _ then some (PyData.bool (PyData.eqv _ _)) else none) = _; rw [if_pos h1, h2]
  | tuple xs => show (if _ then some (PyData.bool (PyData.eqv _ _)) else none) = _; rw [if_pos h1, h2]
  | _ => cases h
theorem pNe_E {e : α → PV} {q : α → α → Bool} {k : Nat} (E : EqE e q k) (hk : k ≤ 64) {x y : α} (h : isSq (e x) = true) : pNe (e x) (e y) = some (.bool (!q x y)) := by
  have h1 : (noDict (e x) && noDict (e y) && SeqAt.shaped (e x) && SeqAt.shaped (e y)) = true := by
    have d1 := E.dp x
    have d2 := E.dp y
    simp only [SeqAt.shaped, E.nd, E.sh, Bool.true_and, Bool.and_eq_true, decide_eq_true_eq]
    omega
  have h2 := E.eq x y
  generalize e x = a at h h1 h2
  cases a with
  | list xs => show (if _ then some (PyData.bool (!PyData.eqv _ _)) else none) = _; rw [if_pos h1, h2]
  | tuple xs => show (if _ then some (PyData.bool (!PyData.eqv _ _)) else none) = _; rw [if_pos h1, h2]
  | _ => cases h
def bEq (a b : Bool) : Bool := a == b
theorem pEq_B {a b : Bool} : pEq (.bool a) (.bool b) = some (.bool (bEq a b)) := by cases a <;> cases b <;> rfl
theorem pNe_B {a b : Bool} : pNe (.bool a) (.bool b) = some (.bool (!bEq a b)) := by cases a <;> cases b <;> rfl
def sEq (a b : Str) : Bool := decide (a = b)
theorem pEq_S {a b : Str} : pEq (.str a) (.str b) = some (.bool (sEq a b)) := rfl
theorem pNe_S {a b : Str} : pNe (.str a) (.str b) = some (.bool (!sEq a b)) := rfl

variable {e : α → PV}
theorem atI_map {l : List α} {i : Int} {x : α} (h : atI l i = some x) : atI (l.map e) i = some (e x) := by
  unfold atI at h ⊢
  rw [List.length_map]
  cases q : ixN l.length i with
  | none => rw [q] at h; cases h
  | some j =>
    rw [q] at h
    show (l.map e)[j]? = _
    rw [List.getElem?_map, show l[j]? = some x from h]
    rfl
theorem pIx_L {l : List α} {i : Int} {x : α} (h : atI l i = some x) : pIx (.list (l.map e)) (.int i) = some (e x) := atI_map h
theorem pIx_Q {l : List α} {i : Int} {x : α} (h : atI l i = some x) : pIx (.tuple (l.map e)) (.int i) = some (e x) := atI_map h
theorem pLen_L {l : List α} : pLen [.list (l.map e)] = some (.int (l.length : Int)) := by
  show some (PyData.int ((l.map e).length : Int)) = _
  rw [List.length_map]
theorem pLen_Q {l : List α} : pLen [.tuple (l.map e)] = some (.int (l.length : Int)) := by
  show some (PyData.int ((l.map e).length : Int)) = _
  rw [List.length_map]
theorem tru_L {l : List α} : tru (.list (l.map e)) = some (!l.isEmpty) := by cases l <;> rfl
theorem tru_Q {l : List α} : tru (.tuple (l.map e)) = some (!l.isEmpty) := by cases l <;> rfl
def lApp (l : List α) (x : α) : Option (List α) := cond (Nat.blt l.length sizeLine) (some (l ++ [x])) none
theorem ee_appendL (e : α → PV) (i : Nat) {f : EF} {l0 l l' : List α} {x : α} (h0 : lk st i = some (.ow (.list (l0.map e)))) (ha : EE n io st f (e x) st1) (h : lk st1 i = some (.ow (.list (l.map e)))) (hl : lApp l x = some l') : EE n io st (append i f) .none ((i, .ow (.list (l'.map e))) :: st1) := by
  unfold lApp at hl
  rcases cond_ok hl with ⟨h1, h2⟩ | ⟨_, h2⟩
  · cases h2
    rw [blt_dec] at h1
    have := ee_append i h0 ha h (by rw [List.length_map]; exact of_decide_eq_true h1)
    rw [List.map_append]
    exact this
  · cases h2
def lCat (l m : List α) : Option (List α) := cond (Nat.ble (l.length + m.length) sizeLine) (some (l ++ m)) none
theorem ee_extendL (e : α → PV) (i : Nat) {f : EF} {l0 l m l' : List α} (h0 : lk st i = some (.ow (.list (l0.map e)))) (ha : EE n io st f (.list (m.map e)) st1) (h : lk st1 i = some (.ow (.list (l.map e)))) (hl : lCat l m = some l') : EE n io st (extend i f) .none ((i, .ow (.list (l'.map e))) :: st1) := by
  unfold lCat at hl
  rcases cond_ok hl with ⟨h1, h2⟩ | ⟨_, h2⟩
  · cases h2
    have := ee_extend i h0 ha h (by rw [List.length_map, List.length_map]; exact Nat.le_of_ble_eq_true h1)
    rw [List.map_append]
    exact this
  · cases h2
theorem pAdd_L {l m l' : List α} (hl : lCat l m = some l') : pAdd (.list (l.map e)) (.list (m.map e)) = some (.list (l'.map e)) := by
  unfold lCat at hl
  rcases cond_ok hl with ⟨h1, h2⟩ | ⟨_, h2⟩
  · cases h2
    show (if (l.map e).length + (m.map e).length ≤ sizeLine then _ else _) = _
    rw [if_pos (by rw [List.length_map, List.length_map]; exact Nat.le_of_ble_eq_true h1), List.map_append]
  · cases h2
theorem pAdd_Q {l m l' : List α} (hl : lCat l m = some l') : pAdd (.tuple (l.map e)) (.tuple (m.map e)) = some (.tuple (l'.map e)) := by
  unfold lCat at hl
  rcases cond_ok hl with ⟨h1, h2⟩ | ⟨_, h2⟩
  · cases h2
    show (if (l.map e).length + (m.map e).length ≤ sizeLine then _ else _) = _
    rw [if_pos (by rw [List.length_map, List.length_map]; exact Nat.le_of_ble_eq_true h1), List.map_append]
  · cases h2
theorem pCatN_L {l m l' : List α} (hl : lCat l m = some l') : pCatN (.list (l.map e)) (.list (m.map e)) = some (.list (l'.map e)) := by
  unfold lCat at hl
  rcases cond_ok hl with ⟨h1, h2⟩ | ⟨_, h2⟩
  · cases h2
    show (if (l.map e).length + (m.map e).length ≤ sizeLine then _ else _) = _
    rw [if_pos (by rw [List.length_map, List.length_map]; exact Nat.le_of_ble_eq_true h1), List.map_append]
  · cases h2
def lRep (l : List α) (k : Int) : Option (List α) := cond (iLe (-(2 ^ 63)) k && iLt k (2 ^ 63) && Nat.ble (l.length * k.toNat) sizeLine) (some (List.replicate k.toNat l).flatten) none
theorem lRep_ok {l l' : List α} {k : Int} (h : lRep l k = some l') : (-(2 ^ 63) ≤ k ∧ k < 2 ^ 63 ∧ l.length * k.toNat ≤ sizeLine) ∧ l' = (List.replicate k.toNat l).flatten := by
  unfold lRep at h
  rcases cond_ok h with ⟨h1, h2⟩ | ⟨_, h2⟩
  · cases h2
    simp only [Bool.and_eq_true, iLe_eq, iLt_eq, decide_eq_true_eq] at h1
    exact ⟨⟨h1.1.1, h1.1.2, Nat.le_of_ble_eq_true h1.2⟩, rfl⟩
  · cases h2
theorem rep_map (l : List α) (k : Nat) : ((List.replicate k l).flatten).map e = (List.replicate k (l.map e)).flatten := by
  rw [List.map_flatten, List.map_replicate]
theorem pMul_L {l l' : List α} {k : Int} (h : lRep l k = some l') : pMul (.list (l.map e)) (.int k) = some (.list (l'.map e)) := by
  obtain ⟨h1, rfl⟩ := lRep_ok h
  show (if -(2 ^ 63) ≤ k ∧ k < 2 ^ 63 ∧ (l.map e).length * k.toNat ≤ sizeLine then _ else _) = _
  rw [if_pos (by rw [List.length_map]; exact h1), rep_map]
theorem pRepN_L {l l' : List α} {k : Int} (h : lRep l k = some l') : pRepN (.list (l.map e)) (.int k) = some (.list (l'.map e)) := by
  obtain ⟨h1, rfl⟩ := lRep_ok h
  show (if -(2 ^ 63) ≤ k ∧ k < 2 ^ 63 ∧ (l.map e).length * k.toNat ≤ sizeLine then _ else _) = _
  rw [if_pos (by rw [List.length_map]; exact h1), rep_map]
def lPop (l : List α) : Option (α × List α) := match l[l.length - 1]? with
  | none => none
  | some x => some (x, l.dropLast)
theorem ee_pop0L (e : α → PV) (i : Nat) {l : List α} {p : α × List α} (h : lk st i = some (.ow (.list (l.map e)))) (hp : lPop l = some p) : EE n io st (pop0 i) (e p.1) ((i, .ow (.list (p.2.map e))) :: st) := by
  unfold lPop at hp
  split at hp
  · cases hp
  · rename_i x hx
    cases hp
    have := ee_pop0 (n := n) (io := io) i h (d := e x) (by rw [List.length_map, List.getElem?_map, hx]; rfl)
    rw [← List.map_dropLast] at this
    exact this
def lPopAt (l : List α) (k : Int) : Option (α × List α) := cond (iLe (-(2 ^ 63)) k && iLt k (2 ^ 63)) (match seqIndex? k l.length with
  | none => none
  | some j => match l[j]? with
    | none => none
    | some x => some (x, l.eraseIdx j)) none
theorem eraseIdx_map : ∀ (l : List α) (j : Nat), (l.map e).eraseIdx j = (l.eraseIdx j).map e
  | [], _ => rfl
  | _ :: _, 0 => rfl
  | x :: l, j + 1 => by
    show e x :: (l.map e).eraseIdx j = _
    rw [eraseIdx_map l j]; rfl
theorem ee_popAtL (e : α → PV) (i : Nat) {f : EF} {l0 l : List α} {k : Int} {p : α × List α} (h0 : lk st i = some (.ow (.list (l0.map e)))) (ha : EE n io st f (.int k) st1) (h : lk st1 i = some (.ow (.list (l.map e)))) (hp : lPopAt l k = some p) : EE n io st (popAt i f) (e p.1) ((i, .ow (.list (p.2.map e))) :: st1) := by
  unfold lPopAt at hp
  rcases cond_ok hp with ⟨h1, h2⟩ | ⟨_, h2⟩
  · simp only [Bool.and_eq_true, iLe_eq, iLt_eq, decide_eq_true_eq] at h1
    split at h2
    · cases h2
    · rename_i j hj
      split at h2
      · cases h2
      · rename_i x hx
        cases h2
        have := ee_popAt i h0 ha h h1 (by rw [List.length_map]; exact hj) (d := e x) (by rw [List.getElem?_map, hx]; rfl)
        rw [eraseIdx_map] at this
        exact this
  · cases h2
def lSet (l : List α) (k : Int) (x : α) : Option (List α) := match ixN l.length k with
  | none => none
  | some j => some (l.set j x)
theorem ro_setIxL (e : α → PV) (i : Nat) {fk fe : EF} {l1 l l' : List α} {k : Int} {x : α} (he : EE n io st fe (e x) st1) (h1 : lk st1 i = some (.ow (.list (l1.map e)))) (hk : EE n io st1 fk (.int k) st2) (h2 : lk st2 i = some (.ow (.list (l.map e)))) (hs : lSet l k x = some l') : RO' n io st (setIx i fk fe) (.nx ((i, .ow (.list (l'.map e))) :: st2)) := by
  unfold lSet at hs
  split at hs
  · cases hs
  · rename_i j hj
    cases hs
    have := ro_setIx i he h1 hk h2 (by rw [List.length_map]; exact hj)
    rw [List.map_set]
    exact this
theorem ro_augIxL (e : α → PV) (i : Nat) {g : PV → PV → Option PV} {fk fe : EF} {l0 l1 l l' : List α} {k : Int} {a d : α} {b : PV} (h0 : lk st i = some (.ow (.list (l0.map e)))) (hk : EE n io st fk (.int k) st1) (h1 : lk st1 i = some (.ow (.list (l1.map e)))) (ha : atI l1 k = some a) (he : EE n io st1 fe b st2) (hg : g (e a) b = some (e d))
    (h2 : lk st2 i = some (.ow (.list (l.map e)))) (hs : lSet l k d = some l') : RO' n io st (augIx i g fk fe) (.nx ((i, .ow (.list (l'.map e))) :: st2)) := by
  unfold lSet at hs
  split at hs
  · cases hs
  · rename_i j hj
    cases hs
    have := ro_augIx i h0 hk h1 (atI_map ha) he hg h2 (by rw [List.length_map]; exact hj)
    rw [List.map_set]
    exact this
def lCut (l : List α) (lo hi : Option Int) : List α := (l.drop (HT.sIx l.length 0 lo)).take (HT.sIx l.length l.length hi - HT.sIx l.length 0 lo)
theorem cutD_map (l : List α) (lo hi : Option Int) : cutD (l.map e) lo hi = (lCut l lo hi).map e := by
  unfold cutD lCut
  rw [List.length_map, List.map_take, List.map_drop]
theorem pSl_L {l : List α} {lo hi : Option Int} : pSl (.list (l.map e)) lo hi = some (.list ((lCut l lo hi).map e)) := congrArg (fun z => some (PyData.list z)) (cutD_map l lo hi)
theorem pSl_Q {l : List α} {lo hi : Option Int} : pSl (.tuple (l.map e)) lo hi = some (.tuple ((lCut l lo hi).map e)) := by
  show (if HT.sIx (l.map e).length 0 lo = 0 ∧ HT.sIx (l.map e).length (l.map e).length hi = (l.map e).length then _ else _) = _
  split
  · rename_i h
    rw [List.length_map] at h
    have : lCut l lo hi = l := by
      unfold lCut
      rw [h.1, h.2, List.drop_zero, Nat.sub_zero, List.take_length]
    rw [this]
  · rw [cutD_map]
theorem ints_map : ∀ l : List Int, intsOf (l.map PyData.int) = some l
  | [] => rfl
  | x :: l => by
    show (match intsOf (l.map PyData.int) with | some is => some (x :: is) | none => none) = _
    rw [ints_map l]
theorem pSum_L {l : List Int} : pSum [.list (l.map PyData.int)] = some (.int l.sum) := by
  show (match intsOf (l.map PyData.int) with | some is => some (PyData.int is.sum) | none => none) = _
  rw [ints_map l]
def lMax : List Int → Option Int
  | [] => none
  | i :: is => some (maxI i is)
theorem pMaxL_L {l : List Int} {m : Int} (h : lMax l = some m) : pMaxL [.list (l.map PyData.int)] = some (.int m) := by
  unfold lMax at h
  split at h
  · cases h
  · rename_i i is
    cases h
    show (match intsOf ((i :: is).map PyData.int) with | some (i :: is) => some (PyData.int (maxI i is)) | _ => none) = _
    rw [ints_map]
def lSort (b : Bool) (l : List Int) : List Int := srtB (leI b) l
theorem pSortG_L {b : Bool} {l : List Int} : pSortG b [.list (l.map PyData.int)] = some (.list ((lSort b l).map PyData.int)) := by
  show (srtG b (l.map PyData.int)).map PyData.list = _
  rw [srtG_ints (ints_map l)]
  rfl
theorem pSortG_Q {b : Bool} {l : List Int} : pSortG b [.tuple (l.map PyData.int)] = some (.list ((lSort b l).map PyData.int)) := by
  show (srtG b (l.map PyData.int)).map PyData.list = _
  rw [srtG_ints (ints_map l)]
  rfl
theorem insB_map (le : β → β → Bool) (f : α → β) (x : α) : ∀ l : List α, insB le (f x) (l.map f) = (insB (fun a b => le (f a) (f b)) x l).map f
  | [] => rfl
  | y :: l => by
    show (if le (f x) (f y) then f x :: f y :: l.map f else f y :: insB le (f x) (l.map f)) = _
    rw [insB_map le f x l]
    show _ = (if le (f x) (f y) = true then x :: y :: l else y :: insB (fun a b => le (f a) (f b)) x l).map f
    split <;> rfl
theorem srtB_map (le : β → β → Bool) (f : α → β) : ∀ l : List α, srtB le (l.map f) = (srtB (fun a b => le (f a) (f b)) l).map f
  | [] => rfl
  | x :: l => by
    show insB le (f x) (srtB le (l.map f)) = _
    rw [srtB_map le f l, insB_map]
    rfl
/-- tuples of ints, told by lists of ints -/
def lSortK (b : Bool) (k : α → List Int) (l : List α) : List α := srtB (fun x y => leT b (k x) (k y)) l
theorem tups_map {k : α → List Int} (hk : ∀ x, e x = tI (k x)) (hn : ∀ x, ∃ i r, k x = i :: r) : ∀ l : List α, tupsOf (l.map e) = some (l.map k)
  | [] => rfl
  | x :: l => by
    obtain ⟨i, r, h⟩ := hn x
    rw [List.map_cons, hk x]
    show (match intsOf ((k x).map PyData.int) with | some (i :: is) => (match tupsOf (l.map e) with | some ls => some ((i :: is) :: ls) | none => none) | _ => none) = _
    rw [ints_map, h, tups_map hk hn l, List.map_cons, h]
theorem srtG_K {b : Bool} {k : α → List Int} (hk : ∀ x, e x = tI (k x)) (hn : ∀ x, ∃ i r, k x = i :: r) (l : List α) : srtG b (l.map e) = some ((lSortK b k l).map e) := by
  cases l with
  | nil => rfl
  | cons x l =>
    unfold srtG
    have : intsOf ((x :: l).map e) = none := by
      rw [List.map_cons, hk x]
      rfl
    rw [this, tups_map hk hn]
    show some ((srtB (leT b) ((x :: l).map k)).map tI) = _
    rw [srtB_map (leT b) k, List.map_map]
    congr 1
    unfold lSortK
    exact congrArg (fun f => List.map f _) (funext fun z => (hk z).symm)
theorem pSortG_K {b : Bool} {k : α → List Int} (hk : ∀ x, e x = tI (k x)) (hn : ∀ x, ∃ i r, k x = i :: r) {l : List α} : pSortG b [.list (l.map e)] = some (.list ((lSortK b k l).map e)) := by
  show (srtG b (l.map e)).map PyData.list = _
  rw [srtG_K hk hn]
  rfl
theorem pList_L {l : List α} : pList [.list (l.map e)] = some (.list (l.map e)) := rfl
theorem pList_Q {l : List α} : pList [.tuple (l.map e)] = some (.list (l.map e)) := rfl
theorem pTuple_L {l : List α} : pTuple [.list (l.map e)] = some (.tuple (l.map e)) := rfl
theorem pTuple_Q {l : List α} : pTuple [.tuple (l.map e)] = some (.tuple (l.map e)) := rfl
theorem ee_tRvL {f : EF} {l : List α} (ha : EE n io st f (.list (l.map e)) st1) : EE n io st (tRv f) (.tuple (l.reverse.map e)) st1 := by
  have := ee_tRv ha
  rw [← List.map_reverse] at this
  exact this
theorem ee_revTL {f : EF} {l : List α} (ha : EE n io st f (.tuple (l.map e)) st1) : EE n io st (eRevT f) (.tuple (l.reverse.map e)) st1 := by
  have := ee_revT ha
  rw [← List.map_reverse] at this
  exact this
theorem ei_L {f : EF} {xs : List PV} (ha : EE n io st f (.list xs) st1) : EI n io st (wSeq f) xs st1 := fun env k => by
  obtain ⟨e1, q1, k1⟩ := ha env k
  exact ⟨e1, by simp only [wSeq, q1, items], k1⟩
theorem ei_Q {f : EF} {xs : List PV} (ha : EE n io st f (.tuple xs) st1) : EI n io st (wSeq f) xs st1 := fun env k => by
  obtain ⟨e1, q1, k1⟩ := ha env k
  exact ⟨e1, by simp only [wSeq, q1, items], k1⟩
def sItems (z : Str) : List Str := z.cps.toList.map fun c => ⟨#[c]⟩
theorem ei_S {f : EF} {z : Str} (ha : EE n io st f (.str z) st1) : EI n io st (wSeq f) ((sItems z).map PyData.str) st1 := fun env k => by
  obtain ⟨e1, q1, k1⟩ := ha env k
  refine ⟨e1, ?_, k1⟩
  simp only [wSeq, q1, items, sItems, List.map_map]
  rfl
def vItems (v : PV) : Option (List PV) := items v
theorem ei_V {f : EF} {v : PV} {xs : List PV} (ha : EE n io st f v st1) (h : vItems v = some xs) : EI n io st (wSeq f) (xs.map fun y => y) st1 := fun env k => by
  obtain ⟨e1, q1, k1⟩ := ha env k
  exact ⟨e1, by simp only [wSeq, q1, show items v = some xs from h]; simp, k1⟩
def rngI (lo : Int) : Nat → List Int
  | 0 => []
  | k + 1 => lo :: rngI (lo + 1) k
theorem rngI_map : ∀ (k : Nat) (lo : Int), (rngI lo k).map PyData.int = rngL lo k
  | 0, _ => rfl
  | k + 1, lo => by
    show PyData.int lo :: (rngI (lo + 1) k).map PyData.int = _
    rw [rngI_map k]
    rfl
def iRng1 (j : Int) : Option (List Int) := cond (iLe (-(2 ^ 62)) j && iLt j (2 ^ 62)) (some (rngI 0 j.toNat)) none
def iRng2 (i j : Int) : Option (List Int) := cond (iLe (-(2 ^ 62)) i && iLt i (2 ^ 62) && iLe (-(2 ^ 62)) j && iLt j (2 ^ 62)) (some (rngI i (j - i).toNat)) none
theorem ei_rng1 {f : EF} {j : Int} {l : List Int} (ha : EE n io st f (.int j) st1) (h : iRng1 j = some l) : EI n io st (wRng1 f) (l.map PyData.int) st1 := fun env k => by
  obtain ⟨e1, q1, k1⟩ := ha env k
  refine ⟨e1, ?_, k1⟩
  unfold iRng1 at h
  rcases cond_ok h with ⟨h1, h2⟩ | ⟨_, h2⟩
  · cases h2
    simp only [Bool.and_eq_true, iLe_eq, iLt_eq, decide_eq_true_eq] at h1
    simp only [wRng1, q1, if_pos h1, rngI_map]
  · cases h2
theorem ei_rng2 {f h : EF} {i j : Int} {l : List Int} (ha : EE n io st f (.int i) st1) (hb : EE n io st1 h (.int j) st2) (hr : iRng2 i j = some l) : EI n io st (wRng2 f h) (l.map PyData.int) st2 := fun env k => by
  obtain ⟨e1, q1, k1⟩ := ha env k
  obtain ⟨e2, q2, k2⟩ := hb e1 k1
  refine ⟨e2, ?_, k2⟩
  unfold iRng2 at hr
  rcases cond_ok hr with ⟨h1, h2⟩ | ⟨_, h2⟩
  · cases h2
    simp only [Bool.and_eq_true, iLe_eq, iLt_eq, decide_eq_true_eq] at h1
    simp only [wRng2, q1, q2, if_pos (show -(2 ^ 62) ≤ i ∧ i < 2 ^ 62 ∧ -(2 ^ 62) ≤ j ∧ j < 2 ^ 62 from ⟨h1.1.1.1, h1.1.1.2, h1.1.2, h1.2⟩), rngI_map]
  · cases h2
def rngK (lo c : Int) : Nat → List Int
  | 0 => []
  | k + 1 => lo :: rngK (lo + c) c k
theorem rngK_map : ∀ (k : Nat) (lo c : Int), (rngK lo c k).map PyData.int = rngC lo c k
  | 0, _, _ => rfl
  | k + 1, lo, c => by
    show PyData.int lo :: (rngK (lo + c) c k).map PyData.int = _
    rw [rngK_map k]
    rfl
def iRng3 (i j c : Int) : Option (List Int) := cond (!iEq c 0 && Nat.blt c.natAbs 1073741824 && Builtin.Range.small i j c && iLe 0 (Builtin.Range.rangeSize i j c)) (some (rngK i c (Builtin.Range.rangeSize i j c).toNat)) none
theorem ei_rng3 {f : AF} {i j c : Int} {l : List Int} (ha : EAs n io st f [.int i, .int j, .int c] st1) (hr : iRng3 i j c = some l) : EI n io st (wRng3 f) (l.map PyData.int) st1 := fun env k => by
  obtain ⟨e1, q1, k1⟩ := ha env k
  refine ⟨e1, ?_, k1⟩
  unfold iRng3 at hr
  rcases cond_ok hr with ⟨h1, h2⟩ | ⟨_, h2⟩
  · cases h2
    simp only [Bool.and_eq_true, iLe_eq, iEq_eq, blt_dec, decide_eq_true_eq, Bool.not_eq_true', decide_eq_false_iff_not] at h1
    simp only [wRng3, q1, rngK_map]
    rw [if_pos ⟨h1.1.1.1, h1.1.1.2, h1.1.2, h1.2⟩]
  · cases h2
def enI (i : Int) : List α → List (Int × α)
  | [] => []
  | x :: r => (i, x) :: enI (i + 1) r
theorem enI_map : ∀ (l : List α) (i : Int), enumL i (l.map e) = (enI i l).map fun p => PyData.tuple [.int p.1, e p.2]
  | [], _ => rfl
  | x :: l, i => by
    show PyData.tuple [.int i, e x] :: enumL (i + 1) (l.map e) = _
    rw [enI_map l]
    rfl
theorem ei_enumL {f : EF} {l : List α} (ha : EE n io st f (.list (l.map e)) st1) : EI n io st (wEnumA f) ((enI 0 l).map fun p => PyData.tuple [.int p.1, e p.2]) st1 := fun env k => by
  obtain ⟨e1, q1, k1⟩ := ha env k
  exact ⟨e1, by simp only [wEnumA, q1, enI_map], k1⟩
theorem ei_enumQ {f : EF} {l : List α} (ha : EE n io st f (.tuple (l.map e)) st1) : EI n io st (wEnumA f) ((enI 0 l).map fun p => PyData.tuple [.int p.1, e p.2]) st1 := fun env k => by
  obtain ⟨e1, q1, k1⟩ := ha env k
  exact ⟨e1, by simp only [wEnumA, q1, enI_map], k1⟩
theorem ei_revL {f : EF} {l : List α} (ha : EE n io st f (.list (l.map e)) st1) : EI n io st (wRevA f) (l.reverse.map e) st1 := fun env k => by
  obtain ⟨e1, q1, k1⟩ := ha env k
  exact ⟨e1, by simp only [wRevA, q1, List.map_reverse], k1⟩
theorem ei_revQ {f : EF} {l : List α} (ha : EE n io st f (.tuple (l.map e)) st1) : EI n io st (wRevA f) (l.reverse.map e) st1 := fun env k => by
  obtain ⟨e1, q1, k1⟩ := ha env k
  exact ⟨e1, by simp only [wRevA, q1, List.map_reverse], k1⟩
def zp : List α → List β → List (α × β)
  | x :: xs, y :: ys => (x, y) :: zp xs ys
  | _, _ => []
theorem zp_map {e2 : β → PV} : ∀ (l : List α) (m : List β), zipL (l.map e) (m.map e2) = (zp l m).map fun p => PyData.tuple [e p.1, e2 p.2]
  | [], [] => rfl
  | [], _ :: _ => rfl
  | _ :: _, [] => rfl
  | x :: l, y :: m => by
    show PyData.tuple [e x, e2 y] :: zipL (l.map e) (m.map e2) = _
    rw [zp_map l m]
    rfl
theorem ei_zipL {e2 : β → PV} {f : AF} {l : List α} {m : List β} (ha : EAs n io st f [.list (l.map e), .list (m.map e2)] st1) : EI n io st (wZip f) ((zp l m).map fun p => PyData.tuple [e p.1, e2 p.2]) st1 := fun env k => by
  obtain ⟨e1, q1, k1⟩ := ha env k
  exact ⟨e1, by simp only [wZip, q1, zp_map], k1⟩
theorem ei_zipQ {e2 : β → PV} {f : AF} {l : List α} {m : List β} (ha : EAs n io st f [.tuple (l.map e), .tuple (m.map e2)] st1) : EI n io st (wZip f) ((zp l m).map fun p => PyData.tuple [e p.1, e2 p.2]) st1 := fun env k => by
  obtain ⟨e1, q1, k1⟩ := ha env k
  exact ⟨e1, by simp only [wZip, q1, zp_map], k1⟩
def iIn (x : Int) : List Int → Bool
  | [] => false
  | y :: r => iEq y x || iIn x r
theorem pInF_I {g : Bool → Bool} {x : Int} {l : List Int} : pInF g (.int x) (.tuple (l.map PyData.int)) = some (.bool (g (iIn x l))) := by
  have hv : ∀ l : List Int, vsOf (l.map PyData.int) = some (l.map V.int) := fun l => by
    induction l with
    | nil => rfl
    | cons y r ih =>
      show (match vOf (.int y) with | none => none | some v => match vsOf (r.map PyData.int) with | none => none | some vs => some (v :: vs)) = _
      rw [ih]
      rfl
  have hf : (l.map V.int).all flatV = true := by
    rw [List.all_eq_true]
    intro v hv
    obtain ⟨i, _, rfl⟩ := List.mem_map.mp hv
    rfl
  have hin : inV (.int x) (l.map V.int) = iIn x l := by
    unfold inV
    induction l with
    | nil => rfl
    | cons y r ih =>
      have ih' := ih (by
        rw [List.all_eq_true]
        intro v hv
        obtain ⟨i, _, rfl⟩ := List.mem_map.mp hv
        rfl)
      rw [List.map_cons, List.any_cons, ih']
      show ((y == x) || iIn x r) = (iEq y x || iIn x r)
      rw [iEq_eq]
      by_cases h : y = x <;> simp [h]
  show pInFl g (.int x) (l.map PyData.int) = _
  unfold pInFl
  rw [hv]
  show (if flatV (.int x) = true ∧ (l.map V.int).all flatV = true then some (PyData.bool (g (inV (.int x) (l.map V.int)))) else none) = _
  rw [if_pos ⟨rfl, hf⟩, hin]
/-- a, b = .. of a list or a tuple of any length -/
def un2 : List α → Option (α × α)
  | [a, b] => some (a, b)
  | _ => none
theorem un2_ok {l : List α} {p : α × α} (h : un2 l = some p) : l.map e = [e p.1, e p.2] := by
  unfold un2 at h; split at h
  · cases h; rfl
  · cases h
def un3 : List α → Option (α × α × α)
  | [a, b, c] => some (a, b, c)
  | _ => none
theorem un3_ok {l : List α} {p : α × α × α} (h : un3 l = some p) : l.map e = [e p.1, e p.2.1, e p.2.2] := by
  unfold un3 at h; split at h
  · cases h; rfl
  · cases h
/-- a draw -/
def drw (p : PV → List PV → Option (PV × PV)) (P : PV) (m : Int) : Option (PV × Int) := match p P [.int m] with
  | some (P', .int v) => some (P', v)
  | _ => none
theorem drw_ok {p : PV → List PV → Option (PV × PV)} {P : PV} {m : Int} {r : PV × Int} (h : drw p P m = some r) : p P [.int m] = some (r.1, .int r.2) := by
  unfold drw at h; split at h
  · rename_i q; cases h; exact q
  · cases h
theorem pAdd_I {a b : Int} : pAdd (.int a) (.int b) = some (.int (a + b)) := rfl
theorem pAddI_I {a b : Int} : pAddI (.int a) (.int b) = some (.int (a + b)) := rfl
theorem pSub_I {a b : Int} : pSub (.int a) (.int b) = some (.int (a - b)) := rfl
theorem pNeg_I {a : Int} : pNeg (.int a) = some (.int (-a)) := rfl
def sCat (a b : Str) : Option Str := cond (Nat.ble (a.length + b.length) sizeLine) (some (a ++ b)) none
theorem pAdd_S {a b c : Str} (h : sCat a b = some c) : pAdd (.str a) (.str b) = some (.str c) := by
  unfold sCat at h
  rcases cond_ok h with ⟨h1, h2⟩ | ⟨_, h2⟩
  · cases h2
    show (if _ then _ else _) = _
    rw [if_pos (Nat.le_of_ble_eq_true h1)]
  · cases h2
theorem pAddI_S {a b c : Str} (h : sCat a b = some c) : pAddI (.str a) (.str b) = some (.str c) := by
  unfold sCat at h
  rcases cond_ok h with ⟨h1, h2⟩ | ⟨_, h2⟩
  · cases h2
    show (if _ then _ else _) = _
    rw [if_pos (Nat.le_of_ble_eq_true h1)]
  · cases h2
theorem pAdd_T {xs ys : List PV} (h : Nat.ble (xs.length + ys.length) sizeLine = true) : pAdd (.tuple xs) (.tuple ys) = some (.tuple (xs ++ ys)) := by
  show (if _ then _ else _) = _
  rw [if_pos (Nat.le_of_ble_eq_true h)]
def lChk (l : List α) : Option (List α) := cond (shortL l) (some l) none
theorem ee_tupQ (e : α → PV) {f : AF} {ds : List PV} {l l' : List α} (ha : EAs n io st f ds st1) (hd : ds = l.map e) (h : lChk l = some l') : EE n io st (eTup f) (.tuple (l'.map e)) st1 := by
  unfold lChk at h
  rcases cond_ok h with ⟨h1, h2⟩ | ⟨_, h2⟩
  · cases h2
    subst hd
    exact ee_tup ha (by rw [List.length_map]; exact Nat.le_of_ble_eq_true h1)
  · cases h2
theorem ee_lstL (e : α → PV) {f : AF} {ds : List PV} {l l' : List α} (ha : EAs n io st f ds st1) (hd : ds = l.map e) (h : lChk l = some l') : EE n io st (eLst f) (.list (l'.map e)) st1 := by
  unfold lChk at h
  rcases cond_ok h with ⟨h1, h2⟩ | ⟨_, h2⟩
  · cases h2
    subst hd
    exact ee_lst ha (by rw [List.length_map]; exact Nat.le_of_ble_eq_true h1)
  · cases h2
def dPutC (k : Key) (d : PV) (ds : List (PV × PV)) : Option (List (PV × PV)) := cond (plainD ds && Nat.blt ds.length sizeLine) (some (dPut k d ds)) none
theorem ro_putIxC (i : Nat) {fk fe : EF} {x1 d y : PV} {ds ds' : List (PV × PV)} {ky : Key} (he : EE n io st fe d st1) (h1 : lk st1 i = some (.ow x1)) (hk : EE n io st1 fk y st2) (hy : keyOf y = some ky) (h2 : lk st2 i = some (.ow (.dict ds))) (hp : dPutC ky d ds = some ds') : RO' n io st (putIx i fk fe) (.nx ((i, .ow (.dict ds')) :: st2)) := by
  unfold dPutC at hp
  rcases cond_ok hp with ⟨h3, h4⟩ | ⟨_, h4⟩
  · cases h4
    rw [Bool.and_eq_true, blt_dec] at h3
    exact ro_putIx i he h1 hk hy h2 ⟨h3.1, of_decide_eq_true h3.2⟩
  · cases h4
def dGetC (k : Key) (ds : List (PV × PV)) : Option PV := cond (plainD ds) (dVal k ds) none
theorem ee_dIxC (i : Nat) {f : EF} {c c' : Fc} {x d : PV} {ky : Key} {ds : List (PV × PV)} (h : lk st i = some c) (ha : EE n io st f x st1) (hk : keyOf x = some ky) (h1 : lk st1 i = some c') (hc : c'.d = .dict ds) (hv : dGetC ky ds = some d) : EE n io st (dIx i f) d st1 := by
  unfold dGetC at hv
  rcases cond_ok hv with ⟨h3, h4⟩ | ⟨_, h4⟩
  · exact ee_dIx i h ha hk h1 hc h3 h4
  · cases h4
def dHasC (k : Key) (ds : List (PV × PV)) : Option Bool := cond (plainD ds) (some (dVal k ds).isSome) none
theorem ee_dInC (i : Nat) {g : Bool → Bool} {f : EF} {c' : Fc} {x : PV} {ky : Key} {ds : List (PV × PV)} {b : Bool} (ha : EE n io st f x st1) (hk : keyOf x = some ky) (h1 : lk st1 i = some c') (hc : c'.d = .dict ds) (hv : dHasC ky ds = some b) : EE n io st (dIn g i f) (.bool (g b)) st1 := by
  unfold dHasC at hv
  rcases cond_ok hv with ⟨h3, h4⟩ | ⟨_, h4⟩
  · cases h4; exact ee_dIn g i ha hk h1 hc h3
  · cases h4
def dDefC (k : Key) (ds : List (PV × PV)) (z : PV) : Option PV := cond (plainD ds) (some ((dVal k ds).getD z)) none
theorem ee_dGet2C (i : Nat) {f h2 : EF} {c c' : Fc} {x z d : PV} {ky : Key} {ds : List (PV × PV)} (h : lk st i = some c) (hc0 : c.d = .dict ds) (ha : EE n io st f x st1) (hk : keyOf x = some ky) (hz : EE n io st1 h2 z st2) (h1 : lk st2 i = some c') (hc : c'.d = .dict ds) (hv : dDefC ky ds z = some d) : EE n io st (dGet2 i f h2) d st2 := by
  unfold dDefC at hv
  rcases cond_ok hv with ⟨h3, h4⟩ | ⟨_, h4⟩
  · cases h4; exact ee_dGet2 i h (by rw [hc0]; exact h3) ha hk hz h1 hc h3
  · cases h4
theorem ee_dGet1C (i : Nat) {f : EF} {c c' : Fc} {x d : PV} {ky : Key} {ds : List (PV × PV)} (h : lk st i = some c) (hc0 : c.d = .dict ds) (ha : EE n io st f x st1) (hk : keyOf x = some ky) (h1 : lk st1 i = some c') (hc : c'.d = .dict ds) (hv : dDefC ky ds .none = some d) : EE n io st (dGet1 i f) d st1 := by
  unfold dDefC at hv
  rcases cond_ok hv with ⟨h3, h4⟩ | ⟨_, h4⟩
  · cases h4; exact ee_dGet1 i h (by rw [hc0]; exact h3) ha hk h1 hc h3
  · cases h4
def dPutTC (k : List Key) (d : PV) (ds : List (PV × PV)) : Option (List (PV × PV)) := cond (Nat.blt ds.length sizeLine) (some (dPutT k d ds)) none
theorem ro_putIxTC (i : Nat) {fk fe : EF} {x1 d y : PV} {ds ds' : List (PV × PV)} {ky : List Key} (he : EE n io st fe d st1) (h1 : lk st1 i = some (.ow x1)) (hk : EE n io st1 fk y st2) (hy : keyT y = some ky) (h2 : lk st2 i = some (.ow (.dict ((.none, .none) :: ds)))) (hp : dPutTC ky d ds = some ds') : RO' n io st (putIxT i fk fe) (.nx ((i, .ow (.dict ((.none, .none) :: ds'))) :: st2)) := by
  unfold dPutTC at hp
  rcases cond_ok hp with ⟨h3, h4⟩ | ⟨_, h4⟩
  · cases h4
    rw [blt_dec] at h3
    exact ro_putIxT i he h1 hk hy h2 (of_decide_eq_true h3)
  · cases h4
def dSortI (b : Bool) (ds : List (PV × PV)) : Option (List Int) := match pSortG b [.dict ds] with
  | some (.list l) => intsOf l
  | _ => none
theorem pSortG_D {b : Bool} {ds : List (PV × PV)} {l : List Int} (h : dSortI b ds = some l) : pSortG b [.dict ds] = some (.list (l.map PyData.int)) := by
  unfold dSortI at h
  split at h
  · rename_i q; rw [q, intsOf_eq h]
  · cases h
def vLs : Option PV → Option (List PV)
  | some (.list l) => some l
  | _ => none
theorem vLs_ok {m : Option PV} {l : List PV} (h : vLs m = some l) : m = some (.list (l.map fun y => y)) := by
  unfold vLs at h; split at h
  · cases h; simp
  · cases h
theorem ee_ifS {t : TF} {f h : EF} {b : Bool} {v : α} {m1 m2 : Option α} (e : α → PV) (S : α → KS) (hv : cond b m1 m2 = some v) (ht : ET n io st t b st1) (h1 : ∀ x, m1 = some x → EE n io st1 f (e x) (S x)) (h2 : ∀ x, m2 = some x → EE n io st1 h (e x) (S x)) : EE n io st (eIf t f h) (e v) (S v) := by
  rcases cond_ok hv with ⟨hb, hm⟩ | ⟨hb, hm⟩
  · exact ee_ifT ht hb (h1 v hm)
  · exact ee_ifF ht hb (h2 v hm)
theorem ee_extendAL (e : α → PV) (i : Nat) {f : EF} {l0 l m l' : List α} (h0 : lk st i = some (.ow (.list (l0.map e)))) (ha : EE n io st f (.list (m.map e)) st1) (h : lk st1 i = some (.ow (.list (l.map e)))) (hl : lCat l m = some l') : EE n io st (extendA i f) .none ((i, .ow (.list (l'.map e))) :: st1) := fun env k => by
  unfold lCat at hl
  rcases cond_ok hl with ⟨h1, h2⟩ | ⟨_, h2⟩
  · cases h2
    obtain ⟨e1, q1, k1⟩ := ha env k
    have i0 : isL env i = true := by unfold isL; rw [(k.mine h0).1]
    obtain ⟨m1, p1⟩ := k1.mine h
    refine ⟨e1.set i (.ow (.list ((l ++ m).map e))), ?_, k1.set (lk_lt k1 h) rfl fun d e => by cases e⟩
    simp only [extendA, i0, q1, m1]
    rw [if_pos (by simpa using Nat.le_of_ble_eq_true h1), p1, List.map_append]
  · cases h2
theorem ee_extendAQ (e : α → PV) (i : Nat) {f : EF} {l0 l m l' : List α} (h0 : lk st i = some (.ow (.list (l0.map e)))) (ha : EE n io st f (.tuple (m.map e)) st1) (h : lk st1 i = some (.ow (.list (l.map e)))) (hl : lCat l m = some l') : EE n io st (extendA i f) .none ((i, .ow (.list (l'.map e))) :: st1) := fun env k => by
  unfold lCat at hl
  rcases cond_ok hl with ⟨h1, h2⟩ | ⟨_, h2⟩
  · cases h2
    obtain ⟨e1, q1, k1⟩ := ha env k
    have i0 : isL env i = true := by unfold isL; rw [(k.mine h0).1]
    obtain ⟨m1, p1⟩ := k1.mine h
    refine ⟨e1.set i (.ow (.list ((l ++ m).map e))), ?_, k1.set (lk_lt k1 h) rfl fun d e => by cases e⟩
    simp only [extendA, i0, q1, m1]
    rw [if_pos (by simpa using Nat.le_of_ble_eq_true h1), p1, List.map_append]
  · cases h2
theorem data_ints (l : List Int) : (noDict (.list (l.map PyData.int)) && SeqAt.shaped (.list (l.map PyData.int)) && allAlike (l.map PyData.int)) = true := by
  have h1 : noDict (.list (l.map PyData.int)) = true := (eqe_L eqe_I).nd l
  have h2 : (PyData.list (l.map PyData.int)).canLay0 = true := (eqe_L eqe_I).sh l
  have h3 : (PyData.list (l.map PyData.int)).depth ≤ 1 := (eqe_L eqe_I).dp l
  have h4 : allAlike (l.map PyData.int) = true := by
    unfold allAlike
    simp only [Bool.and_eq_true, List.all_eq_true, List.mem_map]
    refine ⟨?_, ?_⟩
    · rintro x ⟨i, _, rfl⟩ y ⟨j, _, rfl⟩
      rfl
    · rintro x ⟨i, _, rfl⟩
      rfl
  have h5 : SeqAt.shaped (.list (l.map PyData.int)) = true := by
    simp only [SeqAt.shaped, h1, h2, Bool.true_and, decide_eq_true_eq]
    omega
  rw [h1, h5, h4]
  rfl
def lMnI : List Int → Option Int
  | [] => none
  | x :: xs => some (xs.foldl iMin x)
def lMxI : List Int → Option Int
  | [] => none
  | x :: xs => some (xs.foldl iMax x)
theorem iMin_min (a b : Int) : iMin a b = min a b := by
  unfold iMin
  rw [iLt_eq]
  by_cases h : b < a <;> simp [h] <;> omega
theorem iMax_max (a b : Int) : iMax a b = max a b := by
  unfold iMax
  rw [iLt_eq]
  by_cases h : a < b <;> simp [h] <;> omega
theorem pMinA_L {l : List Int} {r : Int} (h : lMnI l = some r) : pMinA [.list (l.map PyData.int)] = some (.int r) := by
  cases l with
  | nil => cases h
  | cons x xs =>
    cases h
    show (if _ then some (PySem.W.minD (.int x) (xs.map PyData.int)) else none) = _
    have hd : (noDict (.list (PyData.int x :: xs.map PyData.int)) && SeqAt.shaped (.list (PyData.int x :: xs.map PyData.int)) && allAlike (PyData.int x :: xs.map PyData.int)) = true := data_ints (x :: xs)
    rw [if_pos hd, PySem.W.minD_ints, show (iMin : Int → Int → Int) = min from funext fun a => funext fun b => iMin_min a b]
theorem pMinA_Q {l : List Int} {r : Int} (h : lMnI l = some r) : pMinA [.tuple (l.map PyData.int)] = some (.int r) := by
  cases l with
  | nil => cases h
  | cons x xs =>
    cases h
    show (if _ then some (PySem.W.minD (.int x) (xs.map PyData.int)) else none) = _
    have hd : (noDict (.list (PyData.int x :: xs.map PyData.int)) && SeqAt.shaped (.list (PyData.int x :: xs.map PyData.int)) && allAlike (PyData.int x :: xs.map PyData.int)) = true := data_ints (x :: xs)
    rw [if_pos hd, PySem.W.minD_ints, show (iMin : Int → Int → Int) = min from funext fun a => funext fun b => iMin_min a b]
theorem pMaxA_L {l : List Int} {r : Int} (h : lMxI l = some r) : pMaxA [.list (l.map PyData.int)] = some (.int r) := by
  cases l with
  | nil => cases h
  | cons x xs =>
    cases h
    show (if _ then some (PySem.W.maxD (.int x) (xs.map PyData.int)) else none) = _
    have hd : (noDict (.list (PyData.int x :: xs.map PyData.int)) && SeqAt.shaped (.list (PyData.int x :: xs.map PyData.int)) && allAlike (PyData.int x :: xs.map PyData.int)) = true := data_ints (x :: xs)
    rw [if_pos hd, PySem.W.maxD_ints, show (iMax : Int → Int → Int) = max from funext fun a => funext fun b => iMax_max a b]
theorem pMaxA_Q {l : List Int} {r : Int} (h : lMxI l = some r) : pMaxA [.tuple (l.map PyData.int)] = some (.int r) := by
  cases l with
  | nil => cases h
  | cons x xs =>
    cases h
    show (if _ then some (PySem.W.maxD (.int x) (xs.map PyData.int)) else none) = _
    have hd : (noDict (.list (PyData.int x :: xs.map PyData.int)) && SeqAt.shaped (.list (PyData.int x :: xs.map PyData.int)) && allAlike (PyData.int x :: xs.map PyData.int)) = true := data_ints (x :: xs)
    rw [if_pos hd, PySem.W.maxD_ints, show (iMax : Int → Int → Int) = max from funext fun a => funext fun b => iMax_max a b]
theorem map_co {e1 : α → PV} {e2 : β → PV} (f : α → β) (h : ∀ y, e1 y = e2 (f y)) (l : List α) : l.map e1 = (l.map f).map e2 := by
  rw [List.map_map]
  exact List.map_congr_left fun y _ => h y
theorem ee_dGetT2C (i : Nat) {f h2 : EF} {c c' : Fc} {x z d : PV} {ky : List Key} {ds : List (PV × PV)} (h : lk st i = some c) (hc0 : c.d = .dict ((.none, .none) :: ds)) (ha : EE n io st f x st1) (hk : keyT x = some ky) (hz : EE n io st1 h2 z st2) (h1 : lk st2 i = some c') (hc : c'.d = .dict ((.none, .none) :: ds)) (hv : some ((dValT ky ds).getD z) = some d) : EE n io st (dGetT2 i f h2) d st2 := fun env k => by
  obtain ⟨e1, q1, k1⟩ := ha env k
  obtain ⟨e2, q2, k2⟩ := hz e1 k1
  cases hv
  exact ⟨e2, by simp only [dGetT2, k.cont h, hc0, plT, if_true, q1, hk, q2, k2.cont h1, hc], k2⟩
theorem rngI_range : ∀ (k : Nat) (lo : Int), rngI lo k = (List.range k).map fun i => lo + ((i : Nat) : Int)
  | 0, _ => rfl
  | k + 1, lo => by
    rw [List.range_succ_eq_map, List.map_cons, List.map_map]
    show lo :: rngI (lo + 1) k = _
    rw [rngI_range k (lo + 1)]
    congr 1
    · simp
    · refine List.map_congr_left fun i _ => ?_
      show lo + 1 + (i : Int) = lo + ((i + 1 : Nat) : Int)
      omega
def lRg (n : Int) : Option (List Int) := cond (iLe (-(2 ^ 62)) n && iLt n (2 ^ 62) && Nat.ble n.toNat 100000) (some (rngI 0 n.toNat)) none
theorem pListRg_I {n : Int} {l : List Int} (h : lRg n = some l) : pListRg [.int n] = some (.list (l.map PyData.int)) := by
  unfold lRg at h
  rcases cond_ok h with ⟨h1, h2⟩ | ⟨_, h2⟩
  · cases h2
    simp only [Bool.and_eq_true, iLe_eq, iLt_eq, decide_eq_true_eq] at h1
    show (if _ then _ else _) = _
    rw [if_pos ⟨h1.1.1, h1.1.2, Nat.le_of_ble_eq_true h1.2⟩, rngI_range]
    unfold rgD
    rw [List.map_map]
    rfl
  · cases h2
end Fx

namespace Fx
open PySem PySem.Spec L2
open PyProof.Rows hiding St
theorem mem_rngI : ∀ {k : Nat} {lo x : Int}, lo ≤ x → x < lo + k → x ∈ rngI lo k
  | 0, lo, x, h1, h2 => by omega
  | k + 1, lo, x, h1, h2 => by
    unfold rngI
    by_cases h : x = lo
    · subst h; exact List.mem_cons_self
    · exact List.mem_cons_of_mem _ (mem_rngI (by omega) (by omega))
theorem all_mem {α : Type} {p : α → Bool} {l : List α} {x : α} (h : l.all p = true) (hx : x ∈ l) : p x = true := List.all_eq_true.mp h x hx
/-- all of a range -/
theorem all_rng {p : Int → Bool} {lo : Int} {k : Nat} {x : Int} (h : (rngI lo k).all p = true) (h1 : lo ≤ x) (h2 : x < lo + k) : p x = true := all_mem h (mem_rngI h1 h2)
/-- a value that is told and passes a test -/
def got {α : Type} (m : Option α) (f : α → Bool) : Bool := match m with
  | none => false
  | some x => f x
theorem got_ok {α : Type} {m : Option α} {f : α → Bool} (h : got m f = true) : ∃ x, m = some x ∧ f x = true := by
  unfold got at h
  split at h
  · cases h
  · exact ⟨_, rfl, h⟩
theorem rngI_mem : ∀ {k : Nat} {lo x : Int}, x ∈ rngI lo k → lo ≤ x ∧ x < lo + k
  | 0, lo, x, h => by cases h
  | k + 1, lo, x, h => by
    unfold rngI at h
    rcases List.mem_cons.mp h with rfl | h
    · omega
    · have := rngI_mem h
      omega
end Fx

namespace Fx
open PySem PySem.Spec L2
open PyProof.Rows hiding St
variable {n : Nat} {io : List Nat} {st st1 st2 st3 st4 : KS} {α β γ δ : Type} {e : α → PV}
theorem ei_zipR {e2 : β → PV} {fa fb : EF} {l : List α} {m : List β} (ha : EE n io st fa (.tuple (l.map e)) st1) (hb : EE n io st1 fb (.tuple (m.map e2)) st2) : EI n io st (wZipR fa fb) ((zp l m.reverse).map fun p => PyData.tuple [e p.1, e2 p.2]) st2 := fun env k => by
  obtain ⟨x1, q1, k1⟩ := ha env k
  obtain ⟨x2, q2, k2⟩ := hb x1 k1
  exact ⟨x2, by simp only [wZipR, q1, q2, ← List.map_reverse, zp_map], k2⟩
theorem ei_zipML {e2 : β → PV} {f : AF} {l : List α} {m : List β} (ha : EAs n io st f [.list (l.map e), .list (m.map e2)] st1) : EI n io st (wZipM f) ((zp l m).map fun p => PyData.tuple [e p.1, e2 p.2]) st1 := fun env k => by
  obtain ⟨e1, q1, k1⟩ := ha env k
  exact ⟨e1, by simp only [wZipM, q1, zp_map], k1⟩
theorem ei_zipMQ {e2 : β → PV} {f : AF} {l : List α} {m : List β} (ha : EAs n io st f [.tuple (l.map e), .tuple (m.map e2)] st1) : EI n io st (wZipM f) ((zp l m).map fun p => PyData.tuple [e p.1, e2 p.2]) st1 := fun env k => by
  obtain ⟨e1, q1, k1⟩ := ha env k
  exact ⟨e1, by simp only [wZipM, q1, zp_map], k1⟩
theorem ei_zipMM {e2 : β → PV} {f : AF} {l : List α} {m : List β} (ha : EAs n io st f [.list (l.map e), .tuple (m.map e2)] st1) : EI n io st (wZipM f) ((zp l m).map fun p => PyData.tuple [e p.1, e2 p.2]) st1 := fun env k => by
  obtain ⟨e1, q1, k1⟩ := ha env k
  exact ⟨e1, by simp only [wZipM, q1, zp_map], k1⟩
theorem et_orS {σ : Type} {f h : TF} {b : Bool} {v : Bool × σ} {m : Option (Bool × σ)} {s0 : σ} (S : σ → KS) (hv : cond b (some (true, s0)) m = some v) (h1 : ET n io st f b st1) (h0 : subs (S s0) st1) (h2 : ∀ x, m = some x → ET n io st1 h x.1 (S x.2)) : ET n io st (tOr' f h) v.1 (S v.2) := by
  rcases cond_ok hv with ⟨hb, hm⟩ | ⟨hb, hm⟩
  · cases hm; exact et_wk (et_orT h1 hb) h0
  · exact et_orF h1 hb (h2 v hm)
theorem et_anS {σ : Type} {f h : TF} {b : Bool} {v : Bool × σ} {m : Option (Bool × σ)} {s0 : σ} (S : σ → KS) (hv : cond b m (some (false, s0)) = some v) (h1 : ET n io st f b st1) (h0 : subs (S s0) st1) (h2 : ∀ x, m = some x → ET n io st1 h x.1 (S x.2)) : ET n io st (tAn f h) v.1 (S v.2) := by
  rcases cond_ok hv with ⟨hb, hm⟩ | ⟨hb, hm⟩
  · exact et_anT h1 hb (h2 v hm)
  · cases hm; exact et_wk (et_anF h1 hb) h0
/-- a written text among data that are compared -/
theorem eqe_K {x : Str} (h : (PyData.str x).canLay0 = true := by decide +kernel) : EqE (fun _ : Unit => PyData.str x) (fun _ _ => true) 0 := ⟨fun _ => rfl, fun _ => h, fun _ => Nat.le_refl _, fun _ _ => by
  show (x == x) = true
  simp⟩
def coP {σ : Type} (f : δ → σ → Option (β × σ)) : List δ → σ → Option (List β × σ)
  | [], s => some ([], s)
  | x :: xs, s => match f x s with
    | none => none
    | some (y, s1) => match coP f xs s1 with
      | none => none
      | some (ys, s2) => some (y :: ys, s2)
theorem coP_of {σ : Type} {vs : List Nat} {bi : BF} {ff : EF} {f : δ → σ → Option (β × σ)} (e0 : δ → PV) (e1 : β → PV) {S1 : δ → σ → KS} {S : σ → KS} (hvs : ∀ x s, subs (S s) (Fx.drp vs (S1 x s)))
    (hbi : ∀ x s, EB n io (S s) bi (e0 x) (S1 x s)) (hf : ∀ x s r, f x s = some r → EE n io (S1 x s) ff (e1 r.1) (S1 x r.2)) :
    ∀ {l : List δ} {s0 : σ} {r : List β × σ} {acc : List PV} {env : Ev}, coP f l s0 = some r → acc.length + l.length ≤ sizeLine → Kn n io (S s0) env → ∃ e', coF vs bi tYs ff (l.map e0) acc env = some (acc ++ r.1.map e1, e') ∧ Kn n io (S r.2) e'
  | [], s0, r, acc, env, h, _, k => by
    cases h
    exact ⟨env, by simp [coF], k⟩
  | x :: l, s0, r, acc, env, h, hl, k => by
    unfold coP at h
    have hl' : acc.length + (l.length + 1) ≤ sizeLine := hl
    show ∃ e', coF vs bi tYs ff (e0 x :: l.map e0) acc env = _ ∧ _
    unfold coF
    obtain ⟨q1, z1, k1⟩ := hbi x s0 env k
    simp only [z1]
    split at h
    · cases h
    · rename_i y s1 hy
      split at h
      · cases h
      · rename_i ys s2 hz
        cases h
        obtain ⟨q3, z3, k3⟩ := hf x s0 (y, s1) hy q1 k1
        have et : tYs q1 = some (true, q1) := rfl
        simp only [et, z3]
        rw [if_pos (show acc.length < sizeLine by omega)]
        have k4 := (k3.wipe (vs := vs)).sub (hvs x _)
        obtain ⟨e', z4, k5⟩ := coP_of e0 e1 hvs hbi hf (acc := acc ++ [e1 y]) hz (by rw [List.length_append]; simp; omega) k4
        exact ⟨e', by rw [z4]; simp, k5⟩
theorem ee_lcP {σ : Type} {vs : List Nat} {w : AF} {bi : BF} {ff : EF} {f : δ → σ → Option (β × σ)} {l : List δ} {s0 : σ} {r : List β × σ} (e0 : δ → PV) (e1 : β → PV) {S1 : δ → σ → KS} (S : σ → KS) (hi : EI n io st w (l.map e0) st1) (hvo : ∀ i ∈ vs, i ∉ io) (h0 : subs (S s0) (Fx.drp vs st1))
    (hbi : ∀ x s, EB n io (S s) bi (e0 x) (S1 x s)) (hf : ∀ x s r, f x s = some r → EE n io (S1 x s) ff (e1 r.1) (S1 x r.2)) (h : coP f l s0 = some r) (hl : shortL l = true) (hvs : ∀ x s, subs (S s) (Fx.drp vs (S1 x s))) (hS : ∀ s, subs (S s) (Fx.drp vs (S s))) : EE n io st (eLc vs w bi tYs ff) (.list (r.1.map e1)) (S r.2) := fun env k => by
  obtain ⟨q1, z1, k1⟩ := hi env k
  have hio := noIo_of k1 hvo
  have kw := (k1.wipe (vs := vs)).sub h0
  obtain ⟨q2, z2, k2⟩ := coP_of e0 e1 hvs hbi hf (acc := []) h (by simpa using Nat.le_of_ble_eq_true hl) kw
  refine ⟨wipeE q2 vs, ?_, (k2.wipe (vs := vs)).sub (hS _)⟩
  unfold eLc
  simp only [z1]
  rw [if_pos (by unfold noIo at hio; exact hio), z2]
  simp
theorem ee_joinR {fo f : EF} {a : Str} {x d : PV} (ho : EE n io st fo (.str a) st1) (ha : EE n io st1 f x st2) (hp : pJoinR a x = some d) : EE n io st (eJoinR fo f) d st2 := fun env k => by
  obtain ⟨e1, q1, k1⟩ := ho env k
  obtain ⟨e2, q2, k2⟩ := ha e1 k1
  exact ⟨e2, by simp only [eJoinR, q1, q2, hp], k2⟩
end Fx

namespace Fx
open PySem PySem.Spec L2
open PyProof.Rows hiding St
def topS (i : Nat) : Stmt := PySem.Challenge.pw_numberwright_k64_whole_triples_across.main.body.getD i (.Pass ⟨0, 0, 0, 0⟩)
def tf : List He.Defn := [("is_row", none), ("check_nought", none), ("point_parts", none)]
structure Gx (K : PySem.W.Frag) (mg : Str → Option Value) where
  a_is_integer : Addr
  d_is_integer : FuncData
  D_is_integer : FnP K "is_integer" (topS 2) a_is_integer d_is_integer
  m_is_integer : mg "is_integer" = some (.ref a_is_integer)
  a_is_within : Addr
  d_is_within : FuncData
  D_is_within : FnP K "is_within" (topS 3) a_is_within d_is_within
  m_is_within : mg "is_within" = some (.ref a_is_within)
  a_is_row : Addr
  d_is_row : FuncData
  D_is_row : FnP K "is_row" (topS 4) a_is_row d_is_row
  m_is_row : mg "is_row" = some (.ref a_is_row)
  a_is_worded : Addr
  d_is_worded : FuncData
  D_is_worded : FnP K "is_worded" (topS 5) a_is_worded d_is_worded
  m_is_worded : mg "is_worded" = some (.ref a_is_worded)
  a_common : Addr
  d_common : FuncData
  D_common : FnP K "common" (topS 7) a_common d_common
  m_common : mg "common" = some (.ref a_common)
  a_is_triple : Addr
  d_is_triple : FuncData
  D_is_triple : FnP K "is_triple" (topS 11) a_is_triple d_is_triple
  m_is_triple : mg "is_triple" = some (.ref a_is_triple)
  a_led_by : Addr
  d_led_by : FuncData
  D_led_by : FnP K "led_by" (topS 12) a_led_by d_led_by
  m_led_by : mg "led_by" = some (.ref a_led_by)
  a_triple_at : Addr
  d_triple_at : FuncData
  D_triple_at : FnP K "triple_at" (topS 13) a_triple_at d_triple_at
  m_triple_at : mg "triple_at" = some (.ref a_triple_at)
  a_triple_path : Addr
  d_triple_path : FuncData
  D_triple_path : FnP K "triple_path" (topS 14) a_triple_path d_triple_path
  m_triple_path : mg "triple_path" = some (.ref a_triple_path)
  a_triples_up_to : Addr
  d_triples_up_to : FuncData
  D_triples_up_to : FnP K "triples_up_to" (topS 15) a_triples_up_to d_triples_up_to
  m_triples_up_to : mg "triples_up_to" = some (.ref a_triples_up_to)
  a_parts_of : Addr
  d_parts_of : FuncData
  D_parts_of : FnP K "parts_of" (topS 17) a_parts_of d_parts_of
  m_parts_of : mg "parts_of" = some (.ref a_parts_of)
  a_least_part : Addr
  d_least_part : FuncData
  D_least_part : FnP K "least_part" (topS 19) a_least_part d_least_part
  m_least_part : mg "least_part" = some (.ref a_least_part)
  a_is_prime : Addr
  d_is_prime : FuncData
  D_is_prime : FnP K "is_prime" (topS 20) a_is_prime d_is_prime
  m_is_prime : mg "is_prime" = some (.ref a_is_prime)
  a_symbol : Addr
  d_symbol : FuncData
  D_symbol : FnP K "symbol" (topS 22) a_symbol d_symbol
  m_symbol : mg "symbol" = some (.ref a_symbol)
  a_split : Addr
  d_split : FuncData
  D_split : FnP K "split" (topS 24) a_split d_split
  m_split : mg "split" = some (.ref a_split)
  a_mark : Addr
  d_mark : FuncData
  D_mark : FnP K "mark" (topS 25) a_mark d_mark
  m_mark : mg "mark" = some (.ref a_mark)
  a_is_square_at : Addr
  d_is_square_at : FuncData
  D_is_square_at : FnP K "is_square_at" (topS 26) a_is_square_at d_is_square_at
  m_is_square_at : mg "is_square_at" = some (.ref a_is_square_at)
  a_product_of : Addr
  d_product_of : FuncData
  D_product_of : FnP K "product_of" (topS 27) a_product_of d_product_of
  m_product_of : mg "product_of" = some (.ref a_product_of)
  a_can_be : Addr
  d_can_be : FuncData
  D_can_be : FnP K "can_be" (topS 28) a_can_be d_can_be
  m_can_be : mg "can_be" = some (.ref a_can_be)
  a_are_alike_in_sign : Addr
  d_are_alike_in_sign : FuncData
  D_are_alike_in_sign : FnP K "are_alike_in_sign" (topS 31) a_are_alike_in_sign d_are_alike_in_sign
  m_are_alike_in_sign : mg "are_alike_in_sign" = some (.ref a_are_alike_in_sign)
  a_check_nought : Addr
  d_check_nought : FuncData
  D_check_nought : FnP K "check_nought" (topS 32) a_check_nought d_check_nought
  m_check_nought : mg "check_nought" = some (.ref a_check_nought)
  a_point_product : Addr
  d_point_product : FuncData
  D_point_product : FnP K "point_product" (topS 34) a_point_product d_point_product
  m_point_product : mg "point_product" = some (.ref a_point_product)
  a_norm : Addr
  d_norm : FuncData
  D_norm : FnP K "norm" (topS 35) a_norm d_norm
  m_norm : mg "norm" = some (.ref a_norm)
  a_near : Addr
  d_near : FuncData
  D_near : FnP K "near" (topS 36) a_near d_near
  m_near : mg "near" = some (.ref a_near)
  a_divided : Addr
  d_divided : FuncData
  D_divided : FnP K "divided" (topS 37) a_divided d_divided
  m_divided : mg "divided" = some (.ref a_divided)
  a_plain_point : Addr
  d_plain_point : FuncData
  D_plain_point : FnP K "plain_point" (topS 38) a_plain_point d_plain_point
  m_plain_point : mg "plain_point" = some (.ref a_plain_point)
  a_point_common : Addr
  d_point_common : FuncData
  D_point_common : FnP K "point_common" (topS 39) a_point_common d_point_common
  m_point_common : mg "point_common" = some (.ref a_point_common)
  a_two_squares : Addr
  d_two_squares : FuncData
  D_two_squares : FnP K "two_squares" (topS 41) a_two_squares d_two_squares
  m_two_squares : mg "two_squares" = some (.ref a_two_squares)
  a_two_paper : Addr
  d_two_paper : FuncData
  D_two_paper : FnP K "two_paper" (topS 42) a_two_paper d_two_paper
  m_two_paper : mg "two_paper" = some (.ref a_two_paper)
  a_primes_over : Addr
  d_primes_over : FuncData
  D_primes_over : FnP K "primes_over" (topS 44) a_primes_over d_primes_over
  m_primes_over : mg "primes_over" = some (.ref a_primes_over)
  a_dividing_prime : Addr
  d_dividing_prime : FuncData
  D_dividing_prime : FnP K "dividing_prime" (topS 45) a_dividing_prime d_dividing_prime
  m_dividing_prime : mg "dividing_prime" = some (.ref a_dividing_prime)
  a_point_parts : Addr
  d_point_parts : FuncData
  D_point_parts : FnP K "point_parts" (topS 46) a_point_parts d_point_parts
  m_point_parts : mg "point_parts" = some (.ref a_point_parts)
  a__law_pool : Addr
  d__law_pool : FuncData
  D__law_pool : FnP K "_law_pool" (topS 48) a__law_pool d__law_pool
  m__law_pool : mg "_law_pool" = some (.ref a__law_pool)
  a__law_spread : Addr
  d__law_spread : FuncData
  D__law_spread : FnP K "_law_spread" (topS 49) a__law_spread d__law_spread
  m__law_spread : mg "_law_spread" = some (.ref a__law_spread)
  a__law_draw : Addr
  d__law_draw : FuncData
  D__law_draw : FnP K "_law_draw" (topS 50) a__law_draw d__law_draw
  m__law_draw : mg "_law_draw" = some (.ref a__law_draw)
  a__law_common : Addr
  d__law_common : FuncData
  D__law_common : FnP K "_law_common" (topS 51) a__law_common d__law_common
  m__law_common : mg "_law_common" = some (.ref a__law_common)
  a__law_abs : Addr
  d__law_abs : FuncData
  D__law_abs : FnP K "_law_abs" (topS 52) a__law_abs d__law_abs
  m__law_abs : mg "_law_abs" = some (.ref a__law_abs)
  a_law : Addr
  d_law : FuncData
  D_law : FnP K "law" (topS 53) a_law d_law
  m_law : mg "law" = some (.ref a_law)
  g_abs : mg "abs" = none
  g_all : mg "all" = none
  g_bool : mg "bool" = none
  g_enumerate : mg "enumerate" = none
  g_int : mg "int" = none
  g_isinstance : mg "isinstance" = none
  g_len : mg "len" = none
  g_list : mg "list" = none
  g_max : mg "max" = none
  g_min : mg "min" = none
  g_range : mg "range" = none
  g_reversed : mg "reversed" = none
  g_set : mg "set" = none
  g_sorted : mg "sorted" = none
  g_str : mg "str" = none
  g_sum : mg "sum" = none
  g_tuple : mg "tuple" = none
  g_zip : mg "zip" = none
  g_gcd : mg "gcd" = some (.builtin "math.gcd")
  g_isqrt : mg "isqrt" = some (.builtin "math.isqrt")
  t_GREATEST_PRIME : Tok
  g_GREATEST_PRIME : mg "GREATEST_PRIME" = some (.int (100) t_GREATEST_PRIME)
  r_FIRST : Addr
  g_FIRST : mg "FIRST" = some (.ref r_FIRST)
  u_FIRST : TuC K r_FIRST [.int 3, .int 4, .int 5]
  r_LETTERS : Addr
  g_LETTERS : mg "LETTERS" = some (.ref r_LETTERS)
  u_LETTERS : TuC K r_LETTERS [.str "u", .str "m", .str "d"]
  c_is_row : Addr
  P_is_row : Addr
  C_is_row : d_is_row.code = .ref c_is_row
  c_check_nought : Addr
  P_check_nought : Addr
  C_check_nought : d_check_nought.code = .ref c_check_nought
  c_point_parts : Addr
  P_point_parts : Addr
  C_point_parts : d_point_parts.code = .ref c_point_parts
  cse : [(c_is_row, P_is_row), (c_check_nought, P_check_nought), (c_point_parts, P_point_parts)] = tf.map (He.cT K)
abbrev Gx.cs {K : PySem.W.Frag} {mg : Str → Option Value} (G : Gx K mg) : List (Addr × Addr) := [(G.c_is_row, G.P_is_row), (G.c_check_nought, G.P_check_nought), (G.c_point_parts, G.P_point_parts)]
abbrev Gx.T {K : PySem.W.Frag} {mg : Str → Option Value} (G : Gx K mg) : List Addr := [G.P_is_row, G.P_check_nought, G.P_point_parts]
section
variable {P : Program} {w : World} {K : PySem.W.Frag} {mg : Str → Option Value} {base : Heap} (G : Gx K mg)
theorem sc_is_integer : FnScope ["value"] ["value"] (defScope (topS 2)) := ⟨rfl, rfl, rfl, by decide +kernel, rfl, by decide +kernel, by decide +kernel⟩
theorem bd_is_integer : Binds K G.d_is_integer ["value"] [] := G.D_is_integer.bindsN fun _ _ _ _ _ _ us hl => match us, hl with | [_], _ => rfl
def b_is_integer : SF := (sRet (vAn (eIsi "int" (nm 0)) (vNt (eIsi "bool" (nm 0)))))
def p_is_integer : List PV → Option PV := runP 1 1 b_is_integer
theorem ok_is_integer (TB : ∀ p ∈ G.cs, GxR.TabB base mg p.1 p.2) : FnOk P w K mg base CX0 1 G.a_is_integer G.d_is_integer ["value"] (spP G.T K p_is_integer) := fd_pureC G.D_is_integer sc_is_integer rfl rfl fun cdv A outer s H E hc hr => by
  have hu := hr.units
  have hu5 := hu65 hr
  exact (fss_one (fs_ret (fe_and (fe_isi "int" rfl G.g_isinstance rfl G.g_int (by decide +kernel) (fe_nm 0)) (fe_one (fe_not (fe_isi "bool" rfl G.g_isinstance rfl G.g_bool (by decide +kernel) (fe_nm 0)))))))
theorem sc_is_within : FnScope ["value", "low", "high"] ["value", "low", "high"] (defScope (topS 3)) := ⟨rfl, rfl, rfl, by decide +kernel, rfl, by decide +kernel, by decide +kernel⟩
theorem bd_is_within : Binds K G.d_is_within ["value", "low", "high"] [] := G.D_is_within.bindsN fun _ _ _ _ _ _ us hl => match us, hl with | [_, _, _], _ => rfl
def b_is_within : SF := (sRet (vAn (callF p_is_integer (aCons (nm 0) aNil)) (chn pLe pLe (nm 1) (nm 0) (nm 2))))
def p_is_within : List PV → Option PV := runP 3 3 b_is_within
theorem ok_is_within (TB : ∀ p ∈ G.cs, GxR.TabB base mg p.1 p.2) : FnOk P w K mg base CX0 2 G.a_is_within G.d_is_within ["value", "low", "high"] (spP G.T K p_is_within) := fd_pureC G.D_is_within sc_is_within rfl rfl fun cdv A outer s H E hc hr => by
  have hu := hr.units
  have hu5 := hu65 hr
  exact (fss_one (fs_ret (fe_and (fe_call (ok_is_integer G TB) (hr.mono (by decide : 1 ≤ 1)) G.m_is_integer G.D_is_integer.kp (bd_is_integer G) pass0 (fa_cons (fe_nm 0) fa_nil)) (fe_one (fe_chain (op_leA) of_le (op_leA) of_le (fe_nm 1) (fe_nm 0) (fe_nm 2))))))
theorem sc_is_row : FnScope ["value", "length", "one"] ["value", "length"] (defScope (topS 4)) := ⟨rfl, rfl, rfl, by decide +kernel, rfl, by decide +kernel, by decide +kernel⟩
theorem bd_is_row : Binds K G.d_is_row ["value", "length"] [] := G.D_is_row.bindsN fun _ _ _ _ _ _ us hl => match us, hl with | [_, _], _ => rfl
def b_is_row : SF := (sRet (vAn (eIsi "tuple" (nm 0)) (vAn (bin pEq (lenN 0) (nm 1)) (eGo true [2] (wSeq (nm 0)) (bNm 2) tYs (callF p_is_integer (aCons (nm 2) aNil))))))
def p_is_row : List PV → Option PV := runP 3 2 b_is_row
theorem ok_is_row (TB : ∀ p ∈ G.cs, GxR.TabB base mg p.1 p.2) : FnOk P w K mg base CX0 9 G.a_is_row G.d_is_row ["value", "length"] (spP G.T K p_is_row) := fd_pureC G.D_is_row sc_is_row rfl rfl fun cdv A outer s H E hc hr => by
  have hu := hr.units
  have hu5 := hu65 hr
  have tP : G.P_is_row ∈ G.T := (List.Mem.head _)
  have tB : GxR.TabB base mg G.c_is_row G.P_is_row := TB _ (List.Mem.head _)
  have tc : cdv = .ref G.c_is_row := hc.symm.trans G.C_is_row
  exact (fss_one (fs_ret (fe_and (fe_isi "tuple" rfl G.g_isinstance rfl G.g_tuple (by decide +kernel) (fe_nm 0)) (fe_and (fe_cmp (op_eqA hu) of_eq (fe_lenN 0 rfl G.g_len) (fe_nm 1)) (fe_one (fe_allG (k := 1) (own := [("one", 2)]) tP (hr.mono (by decide : 8 ≤ 8)) tB tc (genOk_by (own := [("one", 2)]) (N := ["value", "length", "one"]) (sc := defScope (topS 4)) (by decide +kernel)) sc_is_row.nd rfl G.g_all (fi_seq (fe_nm 0)) (fun _ _ _ _ _ _ _ => (fb_nm 2 sc_is_row.nd)) (fun _ _ _ _ _ _ _ hr => have hu := hr.units; have hu5 := hu65 hr; fts_nil) (fun _ _ _ _ _ _ _ hr => have hu := hr.units; have hu5 := hu65 hr; (fe_call (ok_is_integer G TB) (hr.mono (by decide : 1 ≤ 1)) G.m_is_integer G.D_is_integer.kp (bd_is_integer G) pass0 (fa_cons (fe_nm 2) fa_nil)))))))))
theorem sc_is_worded : FnScope ["value", "word", "length"] ["value", "word", "length"] (defScope (topS 5)) := ⟨rfl, rfl, rfl, by decide +kernel, rfl, by decide +kernel, by decide +kernel⟩
theorem bd_is_worded : Binds K G.d_is_worded ["value", "word", "length"] [] := G.D_is_worded.bindsN fun _ _ _ _ _ _ us hl => match us, hl with | [_, _, _], _ => rfl
def b_is_worded : SF := (sSeq (sIf (tOr' (tNt (tTr (eIsi "tuple" (nm 0)))) (tB' (bin pNe (lenN 0) (nm 2)))) (sRet (kE (.bool false))) sSkip) (sRet (vAn (eIsi "str" (ixN' 0 (kE (.int 0)))) (bin pEq (ixN' 0 (kE (.int 0))) (nm 1)))))
def p_is_worded : List PV → Option PV := runP 3 3 b_is_worded
theorem ok_is_worded (TB : ∀ p ∈ G.cs, GxR.TabB base mg p.1 p.2) : FnOk P w K mg base CX0 1 G.a_is_worded G.d_is_worded ["value", "word", "length"] (spP G.T K p_is_worded) := fd_pureC G.D_is_worded sc_is_worded rfl rfl fun cdv A outer s H E hc hr => by
  have hu := hr.units
  have hu5 := hu65 hr
  exact (fss_cons (fs_if (FW.ft (fw_or (ft_not (ft_tru (fe_isi "tuple" rfl G.g_isinstance rfl G.g_tuple (by decide +kernel) (fe_nm 0)))) (fw_or1 (ft_cmp (op_neA hu) of_ne (fe_lenN 0 rfl G.g_len) (fe_nm 2))))) (fss_one (fs_ret fe_bl)) fss_nil) (fss_one (fs_ret (fe_and (fe_isi "str" rfl G.g_isinstance rfl G.g_str (by decide +kernel) (fe_ixN 0 fe_int)) (fe_one (fe_cmp (op_eqA hu) of_eq (fe_ixN 0 fe_int) (fe_nm 1)))))))
theorem sc_common : FnScope ["row", "found", "one"] ["row"] (defScope (topS 7)) := ⟨rfl, rfl, rfl, by decide +kernel, rfl, by decide +kernel, by decide +kernel⟩
theorem bd_common : Binds K G.d_common ["row"] [] := G.D_common.bindsN fun _ _ _ _ _ _ us hl => match us, hl with | [_], _ => rfl
def b_common : SF := (sSeq (asg 1 (kE (.int 0))) (sSeq (sFor (wSeq (nm 0)) (bNm 2) (asg 1 (callF pGcd (aCons (nm 1) (aCons (nm 2) aNil))))) (sRet (nm 1))))
def p_common : List PV → Option PV := runP 3 1 b_common
theorem ok_common (TB : ∀ p ∈ G.cs, GxR.TabB base mg p.1 p.2) : FnOk P w K mg base CX0 1 G.a_common G.d_common ["row"] (spP G.T K p_common) := fd_pureC G.D_common sc_common rfl rfl fun cdv A outer s H E hc hr => by
  have hu := hr.units
  have hu5 := hu65 hr
  exact (fss_cons (fs_set 1 sc_common.nd fe_int) (fss_cons (fs_for (PassesOwn.never) rfl (fi_seq (fe_nm 0)) (fb_nm 2 sc_common.nd) (fss_one (fs_set 1 sc_common.nd (fe_callBfun cr_gcd cf_gcd rfl G.g_gcd (fa_cons (fe_nm 1) (fa_cons (fe_nm 2) fa_nil)))))) (fss_one (fs_ret (fe_nm 1)))))
theorem sc_is_triple : FnScope ["value", "a", "b", "c"] ["value"] (defScope (topS 11)) := ⟨rfl, rfl, rfl, by decide +kernel, rfl, by decide +kernel, by decide +kernel⟩
theorem bd_is_triple : Binds K G.d_is_triple ["value"] [] := G.D_is_triple.bindsN fun _ _ _ _ _ _ us hl => match us, hl with | [_], _ => rfl
def b_is_triple : SF := (sSeq (sIf (tOr' (tNt (tTr (callF p_is_row (aCons (nm 0) (aCons (kE (.int 3)) aNil))))) (tB' (bin pLt (callF pMinA (aCons (nm 0) aNil)) (kE (.int 1))))) (sRet (kE (.bool false))) sSkip) (sSeq (asgB (bTup 3 (bCons (bNm 1) (bCons (bNm 2) (bCons (bNm 3) bNil)))) (nm 0)) (sRet (vAn (bin pEq (bin pMod (nm 1) (kE (.int 2))) (kE (.int 1))) (vAn (bin pEq (bin pAdd (bin pMul (nm 1) (nm 1)) (bin pMul (nm 2) (nm 2))) (bin pMul (nm 3) (nm 3))) (bin pEq (callF p_common (aCons (nm 0) aNil)) (kE (.int 1))))))))
def p_is_triple : List PV → Option PV := runP 4 1 b_is_triple
theorem ok_is_triple (TB : ∀ p ∈ G.cs, GxR.TabB base mg p.1 p.2) : FnOk P w K mg base CX0 10 G.a_is_triple G.d_is_triple ["value"] (spP G.T K p_is_triple) := fd_pureC G.D_is_triple sc_is_triple rfl rfl fun cdv A outer s H E hc hr => by
  have hu := hr.units
  have hu5 := hu65 hr
  exact (fss_cons (fs_if (FW.ft (fw_or (ft_not (ft_tru (fe_call (ok_is_row G TB) (hr.mono (by decide : 9 ≤ 9)) G.m_is_row G.D_is_row.kp (bd_is_row G) pass0 (fa_cons (fe_nm 0) (fa_cons fe_int fa_nil))))) (fw_or1 (ft_cmp (op_ltA) of_lt (fe_callB (cr_minA rfl hu5) cf_minA rfl G.g_min (by decide +kernel) (fa_cons (fe_nm 0) fa_nil)) fe_int)))) (fss_one (fs_ret fe_bl)) fss_nil) (fss_cons (fs_asg (fe_nm 0) (fb_tup rfl (fbs_cons (fb_nm 1 sc_is_triple.nd) (fbs_cons (fb_nm 2 sc_is_triple.nd) (fbs_cons (fb_nm 3 sc_is_triple.nd) fbs_nil))))) (fss_one (fs_ret (fe_and (fe_cmp (op_eqA hu) of_eq (fe_op op_modN of_mod (fe_nm 1) fe_int) fe_int) (fe_and (fe_cmp (op_eqA hu) of_eq (fe_op op_addA of_add (fe_op op_mulA of_mul (fe_nm 1) (fe_nm 1)) (fe_op op_mulA of_mul (fe_nm 2) (fe_nm 2))) (fe_op op_mulA of_mul (fe_nm 3) (fe_nm 3))) (fe_one (fe_cmp (op_eqA hu) of_eq (fe_call (ok_common G TB) (hr.mono (by decide : 1 ≤ 9)) G.m_common G.D_common.kp (bd_common G) pass0 (fa_cons (fe_nm 0) fa_nil)) fe_int))))))))
theorem sc_led_by : FnScope ["triple", "letter", "a", "b", "c"] ["triple", "letter"] (defScope (topS 12)) := ⟨rfl, rfl, rfl, by decide +kernel, rfl, by decide +kernel, by decide +kernel⟩
theorem bd_led_by : Binds K G.d_led_by ["triple", "letter"] [] := G.D_led_by.bindsN fun _ _ _ _ _ _ us hl => match us, hl with | [_, _], _ => rfl
def b_led_by : SF := (sSeq (asgB (bTup 3 (bCons (bNm 2) (bCons (bNm 3) (bCons (bNm 4) bNil)))) (nm 0)) (sSeq (sIf (tB' (bin pEq (nm 1) (kE (.str "u")))) (asg 3 (un pNeg (nm 3))) sSkip) (sSeq (sIf (tB' (bin pEq (nm 1) (kE (.str "d")))) (asg 2 (un pNeg (nm 2))) sSkip) (sRet (eTup (aCons (bin pAdd (bin pAdd (nm 2) (bin pMul (kE (.int 2)) (nm 3))) (bin pMul (kE (.int 2)) (nm 4))) (aCons (bin pAdd (bin pAdd (bin pMul (kE (.int 2)) (nm 2)) (nm 3)) (bin pMul (kE (.int 2)) (nm 4))) (aCons (bin pAdd (bin pAdd (bin pMul (kE (.int 2)) (nm 2)) (bin pMul (kE (.int 2)) (nm 3))) (bin pMul (kE (.int 3)) (nm 4))) aNil))))))))
def p_led_by : List PV → Option PV := runP 5 2 b_led_by
theorem ok_led_by (TB : ∀ p ∈ G.cs, GxR.TabB base mg p.1 p.2) : FnOk P w K mg base CX0 1 G.a_led_by G.d_led_by ["triple", "letter"] (spP G.T K p_led_by) := fd_pureC G.D_led_by sc_led_by rfl rfl fun cdv A outer s H E hc hr => by
  have hu := hr.units
  have hu5 := hu65 hr
  exact (fss_cons (fs_asg (fe_nm 0) (fb_tup rfl (fbs_cons (fb_nm 2 sc_led_by.nd) (fbs_cons (fb_nm 3 sc_led_by.nd) (fbs_cons (fb_nm 4 sc_led_by.nd) fbs_nil))))) (fss_cons (fs_if (ft_cmp (op_eqA hu) of_eq (fe_nm 1) fe_str) (fss_one (fs_set 3 sc_led_by.nd (fe_neg (fe_nm 3)))) fss_nil) (fss_cons (fs_if (ft_cmp (op_eqA hu) of_eq (fe_nm 1) fe_str) (fss_one (fs_set 2 sc_led_by.nd (fe_neg (fe_nm 2)))) fss_nil) (fss_one (fs_ret (fe_tup (fa_cons (fe_op op_addA of_add (fe_op op_addA of_add (fe_nm 2) (fe_op op_mulA of_mul fe_int (fe_nm 3))) (fe_op op_mulA of_mul fe_int (fe_nm 4))) (fa_cons (fe_op op_addA of_add (fe_op op_addA of_add (fe_op op_mulA of_mul fe_int (fe_nm 2)) (fe_nm 3)) (fe_op op_mulA of_mul fe_int (fe_nm 4))) (fa_cons (fe_op op_addA of_add (fe_op op_addA of_add (fe_op op_mulA of_mul fe_int (fe_nm 2)) (fe_op op_mulA of_mul fe_int (fe_nm 3))) (fe_op op_mulA of_mul fe_int (fe_nm 4))) fa_nil)))))))))
theorem sc_triple_at : FnScope ["path", "found", "letter"] ["path"] (defScope (topS 13)) := ⟨rfl, rfl, rfl, by decide +kernel, rfl, by decide +kernel, by decide +kernel⟩
theorem bd_triple_at : Binds K G.d_triple_at ["path"] [] := G.D_triple_at.bindsN fun _ _ _ _ _ _ us hl => match us, hl with | [_], _ => rfl
def b_triple_at : SF := (sSeq (asg 1 (kE (.tuple [.int 3, .int 4, .int 5]))) (sSeq (sFor (wSeq (nm 0)) (bNm 2) (asg 1 (callF p_led_by (aCons (nm 1) (aCons (nm 2) aNil))))) (sRet (nm 1))))
def p_triple_at : List PV → Option PV := runP 3 1 b_triple_at
theorem ok_triple_at (TB : ∀ p ∈ G.cs, GxR.TabB base mg p.1 p.2) : FnOk P w K mg base CX0 2 G.a_triple_at G.d_triple_at ["path"] (spP G.T K p_triple_at) := fd_pureC G.D_triple_at sc_triple_at rfl rfl fun cdv A outer s H E hc hr => by
  have hu := hr.units
  have hu5 := hu65 hr
  exact (fss_cons (fs_set 1 sc_triple_at.nd (fe_globT (by decide +kernel) G.u_FIRST G.g_FIRST)) (fss_cons (fs_for (PassesOwn.never) rfl (fi_seq (fe_nm 0)) (fb_nm 2 sc_triple_at.nd) (fss_one (fs_set 1 sc_triple_at.nd (fe_call (ok_led_by G TB) (hr.mono (by decide : 1 ≤ 1)) G.m_led_by G.D_led_by.kp (bd_led_by G) pass0 (fa_cons (fe_nm 1) (fa_cons (fe_nm 2) fa_nil)))))) (fss_one (fs_ret (fe_nm 1)))))
theorem sc_triple_path : FnScope ["triple", "found", "a", "b", "c", "one", "two", "three"] ["triple"] (defScope (topS 14)) := ⟨rfl, rfl, rfl, by decide +kernel, rfl, by decide +kernel, by decide +kernel⟩
theorem bd_triple_path : Binds K G.d_triple_path ["triple"] [] := G.D_triple_path.bindsN fun _ _ _ _ _ _ us hl => match us, hl with | [_], _ => rfl
def b_triple_path : SF := (sSeq (asgO 1 (eLst aNil)) (sSeq (whF (tB' (bin pNe (nm 0) (kE (.tuple [.int 3, .int 4, .int 5])))) (sSeq (asgB (bTup 3 (bCons (bNm 2) (bCons (bNm 3) (bCons (bNm 4) bNil)))) (nm 0)) (sSeq (asg3 5 6 7 (aCons (bin pSub (bin pAdd (nm 2) (bin pMul (kE (.int 2)) (nm 3))) (bin pMul (kE (.int 2)) (nm 4))) (aCons (bin pSub (bin pAdd (bin pMul (kE (.int 2)) (nm 2)) (nm 3)) (bin pMul (kE (.int 2)) (nm 4))) (aCons (bin pSub (bin pSub (bin pMul (kE (.int 3)) (nm 4)) (bin pMul (kE (.int 2)) (nm 2))) (bin pMul (kE (.int 2)) (nm 3))) aNil)))) (sSeq (sExpr (append 1 (eIf (tB' (bin pLt (nm 5) (kE (.int 0)))) (kE (.str "d")) (eIf (tB' (bin pLt (nm 6) (kE (.int 0)))) (kE (.str "u")) (kE (.str "m")))))) (asg 0 (eTup (aCons (callF pAbs (aCons (nm 5) aNil)) (aCons (callF pAbs (aCons (nm 6) aNil)) (aCons (nm 7) aNil)))))))) 2000) (sRet (eJoinR (kE (.str "")) (nm 1)))))
def p_triple_path : List PV → Option PV := runP 8 1 b_triple_path
theorem ok_triple_path (TB : ∀ p ∈ G.cs, GxR.TabB base mg p.1 p.2) : FnOk P w K mg base CX0 1 G.a_triple_path G.d_triple_path ["triple"] (spP G.T K p_triple_path) := fd_pureC G.D_triple_path sc_triple_path rfl rfl fun cdv A outer s H E hc hr => by
  have hu := hr.units
  have hu5 := hu65 hr
  exact (fss_cons (fs_setO 1 sc_triple_path.nd (fn_lst fa_nil)) (fss_cons (fs_while 2000 (PassesOwn.never) (ft_cmp (op_neA hu) of_ne (fe_nm 0) (fe_globT (by decide +kernel) G.u_FIRST G.g_FIRST)) (fss_cons (fs_asg (fe_nm 0) (fb_tup rfl (fbs_cons (fb_nm 2 sc_triple_path.nd) (fbs_cons (fb_nm 3 sc_triple_path.nd) (fbs_cons (fb_nm 4 sc_triple_path.nd) fbs_nil))))) (fss_cons (fs_par3 5 6 7 sc_triple_path.nd (fa_cons (fe_op op_sub of_sub (fe_op op_addA of_add (fe_nm 2) (fe_op op_mulA of_mul fe_int (fe_nm 3))) (fe_op op_mulA of_mul fe_int (fe_nm 4))) (fa_cons (fe_op op_sub of_sub (fe_op op_addA of_add (fe_op op_mulA of_mul fe_int (fe_nm 2)) (fe_nm 3)) (fe_op op_mulA of_mul fe_int (fe_nm 4))) (fa_cons (fe_op op_sub of_sub (fe_op op_sub of_sub (fe_op op_mulA of_mul fe_int (fe_nm 4)) (fe_op op_mulA of_mul fe_int (fe_nm 2))) (fe_op op_mulA of_mul fe_int (fe_nm 3))) fa_nil)))) (fss_cons (fs_expr (fe_append 1 (fe_if (ft_cmp (op_ltA) of_lt (fe_nm 5) fe_int) fe_str (fe_if (ft_cmp (op_ltA) of_lt (fe_nm 6) fe_int) fe_str fe_str)))) (fss_one (fs_set 0 sc_triple_path.nd (fe_tup (fa_cons (fe_callB call_abs cf_abs rfl G.g_abs (by decide +kernel) (fa_cons (fe_nm 5) fa_nil)) (fa_cons (fe_callB call_abs cf_abs rfl G.g_abs (by decide +kernel) (fa_cons (fe_nm 6) fa_nil)) (fa_cons (fe_nm 7) fa_nil)))))))))) (fss_one (fs_ret (fe_joinR rfl rfl G.g_reversed fe_str (fe_nm 1))))))
theorem sc_triples_up_to : FnScope ["n", "found", "level", "triple", "letter"] ["n"] (defScope (topS 15)) := ⟨rfl, rfl, rfl, by decide +kernel, rfl, by decide +kernel, by decide +kernel⟩
theorem bd_triples_up_to : Binds K G.d_triples_up_to ["n"] [] := G.D_triples_up_to.bindsN fun _ _ _ _ _ _ us hl => match us, hl with | [_], _ => rfl
def b_triples_up_to : SF := (sSeq (asgO 1 (eLst aNil)) (sSeq (asgO 2 (eLst (aCons (kE (.tuple [.int 3, .int 4, .int 5])) aNil))) (sSeq (whF (tB' (bin pGt (lenN 2) (kE (.int 0)))) (sSeq (asgO 2 (eLc [3] (wSeq (nm 2)) (bNm 3) (tB' (bin pLe (ixN' 3 (kE (.int 2))) (nm 0))) (nm 3))) (sSeq (sExpr (extendA 1 (nm 2))) (asgO 2 (eLc2 [3, 4] [4] (wSeq (nm 2)) (bNm 3) tYs (wSeq (kE (.tuple [.str "u", .str "m", .str "d"]))) (bNm 4) tYs (callF p_led_by (aCons (nm 3) (aCons (nm 4) aNil))))))) 2000) (sRet (callF (pSortG false) (aCons (nm 1) aNil))))))
def p_triples_up_to : List PV → Option PV := runP 5 1 b_triples_up_to
theorem ok_triples_up_to (TB : ∀ p ∈ G.cs, GxR.TabB base mg p.1 p.2) : FnOk P w K mg base CX0 2 G.a_triples_up_to G.d_triples_up_to ["n"] (spP G.T K p_triples_up_to) := fd_pureC G.D_triples_up_to sc_triples_up_to rfl rfl fun cdv A outer s H E hc hr => by
  have hu := hr.units
  have hu5 := hu65 hr
  exact (fss_cons (fs_setO 1 sc_triples_up_to.nd (fn_lst fa_nil)) (fss_cons (fs_setO 2 sc_triples_up_to.nd (fn_lst (fa_cons (fe_globT (by decide +kernel) G.u_FIRST G.g_FIRST) fa_nil))) (fss_cons (fs_while 2000 (PassesOwn.never) (ft_cmp (op_gtA) of_gt (fe_lenN 2 rfl G.g_len) fe_int) (fss_cons (fs_setLcO 2 (own := [("triple", 3)]) rfl sc_triples_up_to.nd rfl rfl (sw_true rfl rfl rfl (by decide +kernel)) (fi_seq (fe_nm 2)) (blkOk_by (own := [("triple", 3)]) (N := ["n", "found", "level", "triple", "letter"]) (sc := defScope (topS 15)) (by decide +kernel)) (fun _ _ _ _ _ => (fb_nm 3 sc_triples_up_to.nd)) (fun _ _ _ _ _ => (fts_one (ft_cmp (op_leA) of_le (fe_ixN 3 fe_int) (fe_nm 0)))) (fun _ _ _ _ _ => (fe_nm 3))) (fss_cons (fs_expr (fe_extendA 1 (fe_nm 2))) (fss_one (fs_setLc2 2 (own := [("triple", 3), ("letter", 4)]) [4] rfl sc_triples_up_to.nd rfl rfl (sw_true rfl rfl rfl (by decide +kernel)) (fi_seq (fe_nm 2)) (blkOk_by (own := [("triple", 3), ("letter", 4)]) (N := ["n", "found", "level", "triple", "letter"]) (sc := defScope (topS 15)) (by decide +kernel)) (fun _ _ _ _ _ => (fb_nm 3 sc_triples_up_to.nd)) (fun _ _ _ _ _ => fts_nil) (fun _ _ _ _ _ => (fi_seq (fe_globT (by decide +kernel) G.u_LETTERS G.g_LETTERS))) (fun _ _ _ _ _ => (fb_nm 4 sc_triples_up_to.nd)) (fun _ _ _ _ _ => fts_nil) (fun _ _ _ _ _ => (fe_call (ok_led_by G TB) (hr.mono (by decide : 1 ≤ 1)) G.m_led_by G.D_led_by.kp (bd_led_by G) pass0 (fa_cons (fe_nm 3) (fa_cons (fe_nm 4) fa_nil))))))))) (fss_one (fs_ret (FN.fe (fn_sortG rfl hu5 G.g_sorted (fa_cons (fe_nm 1) fa_nil))))))))
theorem sc_parts_of : FnScope ["n", "found", "p", "many"] ["n"] (defScope (topS 17)) := ⟨rfl, rfl, rfl, by decide +kernel, rfl, by decide +kernel, by decide +kernel⟩
theorem bd_parts_of : Binds K G.d_parts_of ["n"] [] := G.D_parts_of.bindsN fun _ _ _ _ _ _ us hl => match us, hl with | [_], _ => rfl
def b_parts_of : SF := (sSeq (asgO 1 (eLst aNil)) (sSeq (asg 2 (kE (.int 2))) (sSeq (whF (tB' (bin pLe (bin pMul (nm 2) (nm 2)) (nm 0))) (sSeq (asg 3 (kE (.int 0))) (sSeq (whF (tB' (bin pEq (bin pMod (nm 0) (nm 2)) (kE (.int 0)))) (sSeq (aug 0 pDiv (nm 2)) (aug 3 pAddI (kE (.int 1)))) 2000) (sSeq (sIf (tB' (bin pGt (nm 3) (kE (.int 0)))) (sExpr (append 1 (eTup (aCons (nm 2) (aCons (nm 3) aNil))))) sSkip) (aug 2 pAddI (eIf (tB' (bin pEq (nm 2) (kE (.int 2)))) (kE (.int 1)) (kE (.int 2))))))) 2000) (sSeq (sIf (tB' (bin pGt (nm 0) (kE (.int 1)))) (sExpr (append 1 (eTup (aCons (nm 0) (aCons (kE (.int 1)) aNil))))) sSkip) (sRet (callF pTuple (aCons (nm 1) aNil)))))))
def p_parts_of : List PV → Option PV := runP 4 1 b_parts_of
theorem ok_parts_of (TB : ∀ p ∈ G.cs, GxR.TabB base mg p.1 p.2) : FnOk P w K mg base CX0 1 G.a_parts_of G.d_parts_of ["n"] (spP G.T K p_parts_of) := fd_pureC G.D_parts_of sc_parts_of rfl rfl fun cdv A outer s H E hc hr => by
  have hu := hr.units
  have hu5 := hu65 hr
  exact (fss_cons (fs_setO 1 sc_parts_of.nd (fn_lst fa_nil)) (fss_cons (fs_set 2 sc_parts_of.nd fe_int) (fss_cons (fs_while 2000 (PassesOwn.never) (ft_cmp (op_leA) of_le (fe_op op_mulA of_mul (fe_nm 2) (fe_nm 2)) (fe_nm 0)) (fss_cons (fs_set 3 sc_parts_of.nd fe_int) (fss_cons (fs_while 2000 (PassesOwn.never) (ft_cmp (op_eqA hu) of_eq (fe_op op_modN of_mod (fe_nm 0) (fe_nm 2)) fe_int) (fss_cons (fs_aug 0 sc_parts_of.nd iop_fdivG of_div (fe_nm 2)) (fss_one (fs_aug 3 sc_parts_of.nd iop_addA of_addI fe_int)))) (fss_cons (fs_if (ft_cmp (op_gtA) of_gt (fe_nm 3) fe_int) (fss_one (fs_expr (fe_append 1 (fe_tup (fa_cons (fe_nm 2) (fa_cons (fe_nm 3) fa_nil)))))) fss_nil) (fss_one (fs_aug 2 sc_parts_of.nd iop_addA of_addI (fe_if (ft_cmp (op_eqA hu) of_eq (fe_nm 2) fe_int) fe_int fe_int))))))) (fss_cons (fs_if (ft_cmp (op_gtA) of_gt (fe_nm 0) fe_int) (fss_one (fs_expr (fe_append 1 (fe_tup (fa_cons (fe_nm 0) (fa_cons fe_int fa_nil)))))) fss_nil) (fss_one (fs_ret (fe_callTy call_tuple_of cf_tuple rfl G.g_tuple (by decide +kernel) (fa_cons (fe_nm 1) fa_nil))))))))
theorem sc_least_part : FnScope ["n"] ["n"] (defScope (topS 19)) := ⟨rfl, rfl, rfl, by decide +kernel, rfl, by decide +kernel, by decide +kernel⟩
theorem bd_least_part : Binds K G.d_least_part ["n"] [] := G.D_least_part.bindsN fun _ _ _ _ _ _ us hl => match us, hl with | [_], _ => rfl
def b_least_part : SF := (sRet (bin pIx (bin pIx (callF p_parts_of (aCons (nm 0) aNil)) (kE (.int 0))) (kE (.int 0))))
def p_least_part : List PV → Option PV := runP 1 1 b_least_part
theorem ok_least_part (TB : ∀ p ∈ G.cs, GxR.TabB base mg p.1 p.2) : FnOk P w K mg base CX0 2 G.a_least_part G.d_least_part ["n"] (spP G.T K p_least_part) := fd_pureC G.D_least_part sc_least_part rfl rfl fun cdv A outer s H E hc hr => by
  have hu := hr.units
  have hu5 := hu65 hr
  exact (fss_one (fs_ret (fe_ix (fe_ix (fe_call (ok_parts_of G TB) (hr.mono (by decide : 1 ≤ 1)) G.m_parts_of G.D_parts_of.kp (bd_parts_of G) pass0 (fa_cons (fe_nm 0) fa_nil)) fe_int) fe_int)))
theorem sc_is_prime : FnScope ["n"] ["n"] (defScope (topS 20)) := ⟨rfl, rfl, rfl, by decide +kernel, rfl, by decide +kernel, by decide +kernel⟩
theorem bd_is_prime : Binds K G.d_is_prime ["n"] [] := G.D_is_prime.bindsN fun _ _ _ _ _ _ us hl => match us, hl with | [_], _ => rfl
def b_is_prime : SF := (sRet (vAn (bin pGt (nm 0) (kE (.int 1))) (bin pEq (callF p_least_part (aCons (nm 0) aNil)) (nm 0))))
def p_is_prime : List PV → Option PV := runP 1 1 b_is_prime
theorem ok_is_prime (TB : ∀ p ∈ G.cs, GxR.TabB base mg p.1 p.2) : FnOk P w K mg base CX0 3 G.a_is_prime G.d_is_prime ["n"] (spP G.T K p_is_prime) := fd_pureC G.D_is_prime sc_is_prime rfl rfl fun cdv A outer s H E hc hr => by
  have hu := hr.units
  have hu5 := hu65 hr
  exact (fss_one (fs_ret (fe_and (fe_cmp (op_gtA) of_gt (fe_nm 0) fe_int) (fe_one (fe_cmp (op_eqA hu) of_eq (fe_call (ok_least_part G TB) (hr.mono (by decide : 2 ≤ 2)) G.m_least_part G.D_least_part.kp (bd_least_part G) pass0 (fa_cons (fe_nm 0) fa_nil)) (fe_nm 0))))))
theorem sc_symbol : FnScope ["a", "n", "found"] ["a", "n"] (defScope (topS 22)) := ⟨rfl, rfl, rfl, by decide +kernel, rfl, by decide +kernel, by decide +kernel⟩
theorem bd_symbol : Binds K G.d_symbol ["a", "n"] [] := G.D_symbol.bindsN fun _ _ _ _ _ _ us hl => match us, hl with | [_, _], _ => rfl
def b_symbol : SF := (sSeq (aug 0 pMod (nm 1)) (sSeq (asg 2 (kE (.int 1))) (sSeq (whF (tB' (bin pNe (nm 0) (kE (.int 0)))) (sSeq (whF (tB' (bin pEq (bin pMod (nm 0) (kE (.int 2))) (kE (.int 0)))) (sSeq (aug 0 pDiv (kE (.int 2))) (sIf (tB' (bin (pInF id) (bin pMod (nm 1) (kE (.int 8))) (eTup (aCons (kE (.int 3)) (aCons (kE (.int 5)) aNil))))) (asg 2 (un pNeg (nm 2))) sSkip)) 2000) (sSeq (asg2 0 1 (aCons (nm 1) (aCons (nm 0) aNil))) (sSeq (sIf (tAn (tB' (bin pEq (bin pMod (nm 0) (kE (.int 4))) (kE (.int 3)))) (tB' (bin pEq (bin pMod (nm 1) (kE (.int 4))) (kE (.int 3))))) (asg 2 (un pNeg (nm 2))) sSkip) (aug 0 pMod (nm 1))))) 2000) (sRet (eIf (tB' (bin pEq (nm 1) (kE (.int 1)))) (nm 2) (kE (.int 0)))))))
def p_symbol : List PV → Option PV := runP 3 2 b_symbol
theorem ok_symbol (TB : ∀ p ∈ G.cs, GxR.TabB base mg p.1 p.2) : FnOk P w K mg base CX0 1 G.a_symbol G.d_symbol ["a", "n"] (spP G.T K p_symbol) := fd_pureC G.D_symbol sc_symbol rfl rfl fun cdv A outer s H E hc hr => by
  have hu := hr.units
  have hu5 := hu65 hr
  exact (fss_cons (fs_aug 0 sc_symbol.nd iop_modN of_mod (fe_nm 1)) (fss_cons (fs_set 2 sc_symbol.nd fe_int) (fss_cons (fs_while 2000 (PassesOwn.never) (ft_cmp (op_neA hu) of_ne (fe_nm 0) fe_int) (fss_cons (fs_while 2000 (PassesOwn.never) (ft_cmp (op_eqA hu) of_eq (fe_op op_modN of_mod (fe_nm 0) fe_int) fe_int) (fss_cons (fs_aug 0 sc_symbol.nd iop_fdivG of_div fe_int) (fss_one (fs_if (ft_cmp (op_in_seq) of_inF (fe_op op_modN of_mod (fe_nm 1) fe_int) (fe_tup (fa_cons fe_int (fa_cons fe_int fa_nil)))) (fss_one (fs_set 2 sc_symbol.nd (fe_neg (fe_nm 2)))) fss_nil)))) (fss_cons (fs_par 0 1 sc_symbol.nd (fa_cons (fe_nm 1) (fa_cons (fe_nm 0) fa_nil))) (fss_cons (fs_if (FW.ft (fw_and (ft_cmp (op_eqA hu) of_eq (fe_op op_modN of_mod (fe_nm 0) fe_int) fe_int) (fw_and1 (ft_cmp (op_eqA hu) of_eq (fe_op op_modN of_mod (fe_nm 1) fe_int) fe_int)))) (fss_one (fs_set 2 sc_symbol.nd (fe_neg (fe_nm 2)))) fss_nil) (fss_one (fs_aug 0 sc_symbol.nd iop_modN of_mod (fe_nm 1))))))) (fss_one (fs_ret (fe_if (ft_cmp (op_eqA hu) of_eq (fe_nm 1) fe_int) (fe_nm 2) fe_int))))))
theorem sc_split : FnScope ["a", "p", "many"] ["a", "p"] (defScope (topS 24)) := ⟨rfl, rfl, rfl, by decide +kernel, rfl, by decide +kernel, by decide +kernel⟩
theorem bd_split : Binds K G.d_split ["a", "p"] [] := G.D_split.bindsN fun _ _ _ _ _ _ us hl => match us, hl with | [_, _], _ => rfl
def b_split : SF := (sSeq (asg 2 (kE (.int 0))) (sSeq (whF (tB' (bin pEq (bin pMod (nm 0) (nm 1)) (kE (.int 0)))) (sSeq (aug 0 pDiv (nm 1)) (aug 2 pAddI (kE (.int 1)))) 2000) (sRet (eTup (aCons (nm 2) (aCons (nm 0) aNil))))))
def p_split : List PV → Option PV := runP 3 2 b_split
theorem ok_split (TB : ∀ p ∈ G.cs, GxR.TabB base mg p.1 p.2) : FnOk P w K mg base CX0 1 G.a_split G.d_split ["a", "p"] (spP G.T K p_split) := fd_pureC G.D_split sc_split rfl rfl fun cdv A outer s H E hc hr => by
  have hu := hr.units
  have hu5 := hu65 hr
  exact (fss_cons (fs_set 2 sc_split.nd fe_int) (fss_cons (fs_while 2000 (PassesOwn.never) (ft_cmp (op_eqA hu) of_eq (fe_op op_modN of_mod (fe_nm 0) (fe_nm 1)) fe_int) (fss_cons (fs_aug 0 sc_split.nd iop_fdivG of_div (fe_nm 1)) (fss_one (fs_aug 2 sc_split.nd iop_addA of_addI fe_int)))) (fss_one (fs_ret (fe_tup (fa_cons (fe_nm 2) (fa_cons (fe_nm 0) fa_nil)))))))
theorem sc_mark : FnScope ["a", "b", "p", "i", "c", "j", "d", "found", "odd"] ["a", "b", "p"] (defScope (topS 25)) := ⟨rfl, rfl, rfl, by decide +kernel, rfl, by decide +kernel, by decide +kernel⟩
theorem bd_mark : Binds K G.d_mark ["a", "b", "p"] [] := G.D_mark.bindsN fun _ _ _ _ _ _ us hl => match us, hl with | [_, _, _], _ => rfl
def b_mark : SF := (sSeq (asgB (bTup 2 (bCons (bNm 3) (bCons (bNm 4) bNil))) (callF p_split (aCons (nm 0) (aCons (nm 2) aNil)))) (sSeq (asgB (bTup 2 (bCons (bNm 5) (bCons (bNm 6) bNil))) (callF p_split (aCons (nm 1) (aCons (nm 2) aNil)))) (sSeq (sIf (tB' (bin pEq (nm 2) (kE (.int 2)))) (sSeq (asg 8 (bin pAdd (bin pAdd (bin pMul (bin pDiv (bin pSub (nm 4) (kE (.int 1))) (kE (.int 2))) (bin pDiv (bin pSub (nm 6) (kE (.int 1))) (kE (.int 2)))) (bin pMul (nm 3) (bin pDiv (bin pSub (bin pMul (nm 6) (nm 6)) (kE (.int 1))) (kE (.int 8))))) (bin pMul (nm 5) (bin pDiv (bin pSub (bin pMul (nm 4) (nm 4)) (kE (.int 1))) (kE (.int 8)))))) (sRet (eIf (tB' (bin pEq (bin pMod (nm 8) (kE (.int 2))) (kE (.int 0)))) (kE (.int 1)) (un pNeg (kE (.int 1)))))) sSkip) (sSeq (asg 7 (eIf (tB' (bin pEq (bin pMod (bin pMul (bin pMul (nm 3) (nm 5)) (bin pDiv (bin pSub (nm 2) (kE (.int 1))) (kE (.int 2)))) (kE (.int 2))) (kE (.int 1)))) (un pNeg (kE (.int 1))) (kE (.int 1)))) (sSeq (sIf (tB' (bin pEq (bin pMod (nm 5) (kE (.int 2))) (kE (.int 1)))) (aug 7 pMulW (callF p_symbol (aCons (nm 4) (aCons (nm 2) aNil)))) sSkip) (sSeq (sIf (tB' (bin pEq (bin pMod (nm 3) (kE (.int 2))) (kE (.int 1)))) (aug 7 pMulW (callF p_symbol (aCons (nm 6) (aCons (nm 2) aNil)))) sSkip) (sRet (nm 7))))))))
def p_mark : List PV → Option PV := runP 9 3 b_mark
theorem ok_mark (TB : ∀ p ∈ G.cs, GxR.TabB base mg p.1 p.2) : FnOk P w K mg base CX0 2 G.a_mark G.d_mark ["a", "b", "p"] (spP G.T K p_mark) := fd_pureC G.D_mark sc_mark rfl rfl fun cdv A outer s H E hc hr => by
  have hu := hr.units
  have hu5 := hu65 hr
  exact (fss_cons (fs_asg (fe_call (ok_split G TB) (hr.mono (by decide : 1 ≤ 1)) G.m_split G.D_split.kp (bd_split G) pass0 (fa_cons (fe_nm 0) (fa_cons (fe_nm 2) fa_nil))) (fb_tup rfl (fbs_cons (fb_nm 3 sc_mark.nd) (fbs_cons (fb_nm 4 sc_mark.nd) fbs_nil)))) (fss_cons (fs_asg (fe_call (ok_split G TB) (hr.mono (by decide : 1 ≤ 1)) G.m_split G.D_split.kp (bd_split G) pass0 (fa_cons (fe_nm 1) (fa_cons (fe_nm 2) fa_nil))) (fb_tup rfl (fbs_cons (fb_nm 5 sc_mark.nd) (fbs_cons (fb_nm 6 sc_mark.nd) fbs_nil)))) (fss_cons (fs_if (ft_cmp (op_eqA hu) of_eq (fe_nm 2) fe_int) (fss_cons (fs_set 8 sc_mark.nd (fe_op op_addA of_add (fe_op op_addA of_add (fe_op op_mulA of_mul (fe_op op_fdivG of_div (fe_op op_sub of_sub (fe_nm 4) fe_int) fe_int) (fe_op op_fdivG of_div (fe_op op_sub of_sub (fe_nm 6) fe_int) fe_int)) (fe_op op_mulA of_mul (fe_nm 3) (fe_op op_fdivG of_div (fe_op op_sub of_sub (fe_op op_mulA of_mul (fe_nm 6) (fe_nm 6)) fe_int) fe_int))) (fe_op op_mulA of_mul (fe_nm 5) (fe_op op_fdivG of_div (fe_op op_sub of_sub (fe_op op_mulA of_mul (fe_nm 4) (fe_nm 4)) fe_int) fe_int)))) (fss_one (fs_ret (fe_if (ft_cmp (op_eqA hu) of_eq (fe_op op_modN of_mod (fe_nm 8) fe_int) fe_int) fe_int (fe_neg fe_int))))) fss_nil) (fss_cons (fs_set 7 sc_mark.nd (fe_if (ft_cmp (op_eqA hu) of_eq (fe_op op_modN of_mod (fe_op op_mulA of_mul (fe_op op_mulA of_mul (fe_nm 3) (fe_nm 5)) (fe_op op_fdivG of_div (fe_op op_sub of_sub (fe_nm 2) fe_int) fe_int)) fe_int) fe_int) (fe_neg fe_int) fe_int)) (fss_cons (fs_if (ft_cmp (op_eqA hu) of_eq (fe_op op_modN of_mod (fe_nm 5) fe_int) fe_int) (fss_one (fs_aug 7 sc_mark.nd iop_mulW of_mulW (fe_call (ok_symbol G TB) (hr.mono (by decide : 1 ≤ 1)) G.m_symbol G.D_symbol.kp (bd_symbol G) pass0 (fa_cons (fe_nm 4) (fa_cons (fe_nm 2) fa_nil))))) fss_nil) (fss_cons (fs_if (ft_cmp (op_eqA hu) of_eq (fe_op op_modN of_mod (fe_nm 3) fe_int) fe_int) (fss_one (fs_aug 7 sc_mark.nd iop_mulW of_mulW (fe_call (ok_symbol G TB) (hr.mono (by decide : 1 ≤ 1)) G.m_symbol G.D_symbol.kp (bd_symbol G) pass0 (fa_cons (fe_nm 6) (fa_cons (fe_nm 2) fa_nil))))) fss_nil) (fss_one (fs_ret (fe_nm 7)))))))))
theorem sc_is_square_at : FnScope ["a", "p", "i", "c"] ["a", "p"] (defScope (topS 26)) := ⟨rfl, rfl, rfl, by decide +kernel, rfl, by decide +kernel, by decide +kernel⟩
theorem bd_is_square_at : Binds K G.d_is_square_at ["a", "p"] [] := G.D_is_square_at.bindsN fun _ _ _ _ _ _ us hl => match us, hl with | [_, _], _ => rfl
def b_is_square_at : SF := (sSeq (asgB (bTup 2 (bCons (bNm 2) (bCons (bNm 3) bNil))) (callF p_split (aCons (nm 0) (aCons (nm 1) aNil)))) (sSeq (sIf (tB' (bin pEq (bin pMod (nm 2) (kE (.int 2))) (kE (.int 1)))) (sRet (kE (.bool false))) sSkip) (sRet (eIf (tB' (bin pEq (nm 1) (kE (.int 2)))) (bin pEq (bin pMod (nm 3) (kE (.int 8))) (kE (.int 1))) (bin pEq (callF p_symbol (aCons (nm 3) (aCons (nm 1) aNil))) (kE (.int 1)))))))
def p_is_square_at : List PV → Option PV := runP 4 2 b_is_square_at
theorem ok_is_square_at (TB : ∀ p ∈ G.cs, GxR.TabB base mg p.1 p.2) : FnOk P w K mg base CX0 2 G.a_is_square_at G.d_is_square_at ["a", "p"] (spP G.T K p_is_square_at) := fd_pureC G.D_is_square_at sc_is_square_at rfl rfl fun cdv A outer s H E hc hr => by
  have hu := hr.units
  have hu5 := hu65 hr
  exact (fss_cons (fs_asg (fe_call (ok_split G TB) (hr.mono (by decide : 1 ≤ 1)) G.m_split G.D_split.kp (bd_split G) pass0 (fa_cons (fe_nm 0) (fa_cons (fe_nm 1) fa_nil))) (fb_tup rfl (fbs_cons (fb_nm 2 sc_is_square_at.nd) (fbs_cons (fb_nm 3 sc_is_square_at.nd) fbs_nil)))) (fss_cons (fs_if (ft_cmp (op_eqA hu) of_eq (fe_op op_modN of_mod (fe_nm 2) fe_int) fe_int) (fss_one (fs_ret fe_bl)) fss_nil) (fss_one (fs_ret (fe_if (ft_cmp (op_eqA hu) of_eq (fe_nm 1) fe_int) (fe_cmp (op_eqA hu) of_eq (fe_op op_modN of_mod (fe_nm 3) fe_int) fe_int) (fe_cmp (op_eqA hu) of_eq (fe_call (ok_symbol G TB) (hr.mono (by decide : 1 ≤ 1)) G.m_symbol G.D_symbol.kp (bd_symbol G) pass0 (fa_cons (fe_nm 3) (fa_cons (fe_nm 1) fa_nil))) fe_int))))))
theorem sc_product_of : FnScope ["row", "found", "one"] ["row"] (defScope (topS 27)) := ⟨rfl, rfl, rfl, by decide +kernel, rfl, by decide +kernel, by decide +kernel⟩
theorem bd_product_of : Binds K G.d_product_of ["row"] [] := G.D_product_of.bindsN fun _ _ _ _ _ _ us hl => match us, hl with | [_], _ => rfl
def b_product_of : SF := (sSeq (asg 1 (kE (.int 1))) (sSeq (sFor (wSeq (nm 0)) (bNm 2) (aug 1 pMulW (nm 2))) (sRet (nm 1))))
def p_product_of : List PV → Option PV := runP 3 1 b_product_of
theorem ok_product_of (TB : ∀ p ∈ G.cs, GxR.TabB base mg p.1 p.2) : FnOk P w K mg base CX0 1 G.a_product_of G.d_product_of ["row"] (spP G.T K p_product_of) := fd_pureC G.D_product_of sc_product_of rfl rfl fun cdv A outer s H E hc hr => by
  have hu := hr.units
  have hu5 := hu65 hr
  exact (fss_cons (fs_set 1 sc_product_of.nd fe_int) (fss_cons (fs_for (PassesOwn.never) rfl (fi_seq (fe_nm 0)) (fb_nm 2 sc_product_of.nd) (fss_one (fs_aug 1 sc_product_of.nd iop_mulW of_mulW (fe_nm 2)))) (fss_one (fs_ret (fe_nm 1)))))
theorem sc_can_be : FnScope ["weights", "p", "marks", "a", "b", "c", "k", "two", "one"] ["weights", "p"] (defScope (topS 28)) := ⟨rfl, rfl, rfl, by decide +kernel, rfl, by decide +kernel, by decide +kernel⟩
theorem bd_can_be : Binds K G.d_can_be ["weights", "p"] [] := G.D_can_be.bindsN fun _ _ _ _ _ _ us hl => match us, hl with | [_, _], _ => rfl
def b_can_be : SF := (sSeq (sIf (tB' (bin pEq (lenN 0) (kE (.int 2)))) (sRet (callF p_is_square_at (aCons (bin pMul (un pNeg (ixN' 0 (kE (.int 0)))) (ixN' 0 (kE (.int 1)))) (aCons (nm 1) aNil)))) sSkip) (sSeq (sIf (tB' (bin pEq (lenN 0) (kE (.int 3)))) (sSeq (asgB (bTup 3 (bCons (bNm 3) (bCons (bNm 4) (bCons (bNm 5) bNil)))) (nm 0)) (sRet (bin pEq (callF p_mark (aCons (bin pMul (un pNeg (nm 3)) (nm 5)) (aCons (bin pMul (un pNeg (nm 4)) (nm 5)) (aCons (nm 1) aNil)))) (kE (.int 1))))) sSkip) (sSeq (sIf (tNt (tTr (callF p_is_square_at (aCons (callF p_product_of (aCons (nm 0) aNil)) (aCons (nm 1) aNil))))) (sRet (kE (.bool true))) sSkip) (sSeq (asgO 2 (eLc2 [6, 7, 8] [8] (wEnumA (nm 0)) (bTup 2 (bCons (bNm 6) (bCons (bNm 7) bNil))) tYs (wSeq (eSl (nm 0) oNo (oSo (nm 6)))) (bNm 8) tYs (callF p_mark (aCons (nm 8) (aCons (nm 7) (aCons (nm 1) aNil)))))) (sRet (bin pEq (callF p_product_of (aCons (nm 2) aNil)) (callF p_mark (aCons (un pNeg (kE (.int 1))) (aCons (un pNeg (kE (.int 1))) (aCons (nm 1) aNil))))))))))
def p_can_be : List PV → Option PV := runP 9 2 b_can_be
theorem ok_can_be (TB : ∀ p ∈ G.cs, GxR.TabB base mg p.1 p.2) : FnOk P w K mg base CX0 3 G.a_can_be G.d_can_be ["weights", "p"] (spP G.T K p_can_be) := fd_pureC G.D_can_be sc_can_be rfl rfl fun cdv A outer s H E hc hr => by
  have hu := hr.units
  have hu5 := hu65 hr
  exact (fss_cons (fs_if (ft_cmp (op_eqA hu) of_eq (fe_lenN 0 rfl G.g_len) fe_int) (fss_one (fs_ret (fe_call (ok_is_square_at G TB) (hr.mono (by decide : 2 ≤ 2)) G.m_is_square_at G.D_is_square_at.kp (bd_is_square_at G) pass0 (fa_cons (fe_op op_mulA of_mul (fe_neg (fe_ixN 0 fe_int)) (fe_ixN 0 fe_int)) (fa_cons (fe_nm 1) fa_nil))))) fss_nil) (fss_cons (fs_if (ft_cmp (op_eqA hu) of_eq (fe_lenN 0 rfl G.g_len) fe_int) (fss_cons (fs_asg (fe_nm 0) (fb_tup rfl (fbs_cons (fb_nm 3 sc_can_be.nd) (fbs_cons (fb_nm 4 sc_can_be.nd) (fbs_cons (fb_nm 5 sc_can_be.nd) fbs_nil))))) (fss_one (fs_ret (fe_cmp (op_eqA hu) of_eq (fe_call (ok_mark G TB) (hr.mono (by decide : 2 ≤ 2)) G.m_mark G.D_mark.kp (bd_mark G) pass0 (fa_cons (fe_op op_mulA of_mul (fe_neg (fe_nm 3)) (fe_nm 5)) (fa_cons (fe_op op_mulA of_mul (fe_neg (fe_nm 4)) (fe_nm 5)) (fa_cons (fe_nm 1) fa_nil)))) fe_int)))) fss_nil) (fss_cons (fs_if (ft_not (ft_tru (fe_call (ok_is_square_at G TB) (hr.mono (by decide : 2 ≤ 2)) G.m_is_square_at G.D_is_square_at.kp (bd_is_square_at G) pass0 (fa_cons (fe_call (ok_product_of G TB) (hr.mono (by decide : 1 ≤ 2)) G.m_product_of G.D_product_of.kp (bd_product_of G) pass0 (fa_cons (fe_nm 0) fa_nil)) (fa_cons (fe_nm 1) fa_nil))))) (fss_one (fs_ret fe_bl)) fss_nil) (fss_cons (fs_setLc2 2 (own := [("k", 6), ("two", 7), ("one", 8)]) [8] rfl sc_can_be.nd rfl rfl (sw_true rfl rfl rfl (by decide +kernel)) (fi_enumA rfl G.g_enumerate (fe_nm 0)) (blkOk_by (own := [("k", 6), ("two", 7), ("one", 8)]) (N := ["weights", "p", "marks", "a", "b", "c", "k", "two", "one"]) (sc := defScope (topS 28)) (by decide +kernel)) (fun _ _ _ _ _ => (fb_tup rfl (fbs_cons (fb_nm 6 sc_can_be.nd) (fbs_cons (fb_nm 7 sc_can_be.nd) fbs_nil)))) (fun _ _ _ _ _ => fts_nil) (fun _ _ _ _ _ => (fi_seq (fe_sl (fe_nm 0) fo_no (fo_so (fe_nm 6))))) (fun _ _ _ _ _ => (fb_nm 8 sc_can_be.nd)) (fun _ _ _ _ _ => fts_nil) (fun _ _ _ _ _ => (fe_call (ok_mark G TB) (hr.mono (by decide : 2 ≤ 2)) G.m_mark G.D_mark.kp (bd_mark G) pass0 (fa_cons (fe_nm 8) (fa_cons (fe_nm 7) (fa_cons (fe_nm 1) fa_nil)))))) (fss_one (fs_ret (fe_cmp (op_eqA hu) of_eq (fe_call (ok_product_of G TB) (hr.mono (by decide : 1 ≤ 2)) G.m_product_of G.D_product_of.kp (bd_product_of G) pass0 (fa_cons (fe_nm 2) fa_nil)) (fe_call (ok_mark G TB) (hr.mono (by decide : 2 ≤ 2)) G.m_mark G.D_mark.kp (bd_mark G) pass0 (fa_cons (fe_neg fe_int) (fa_cons (fe_neg fe_int) (fa_cons (fe_nm 1) fa_nil)))))))))))
theorem sc_are_alike_in_sign : FnScope ["weights"] ["weights"] (defScope (topS 31)) := ⟨rfl, rfl, rfl, by decide +kernel, rfl, by decide +kernel, by decide +kernel⟩
theorem bd_are_alike_in_sign : Binds K G.d_are_alike_in_sign ["weights"] [] := G.D_are_alike_in_sign.bindsN fun _ _ _ _ _ _ us hl => match us, hl with | [_], _ => rfl
def b_are_alike_in_sign : SF := (sRet (vOr (bin pGt (callF pMinA (aCons (nm 0) aNil)) (kE (.int 0))) (bin pLt (callF pMaxA (aCons (nm 0) aNil)) (kE (.int 0)))))
def p_are_alike_in_sign : List PV → Option PV := runP 1 1 b_are_alike_in_sign
theorem ok_are_alike_in_sign (TB : ∀ p ∈ G.cs, GxR.TabB base mg p.1 p.2) : FnOk P w K mg base CX0 1 G.a_are_alike_in_sign G.d_are_alike_in_sign ["weights"] (spP G.T K p_are_alike_in_sign) := fd_pureC G.D_are_alike_in_sign sc_are_alike_in_sign rfl rfl fun cdv A outer s H E hc hr => by
  have hu := hr.units
  have hu5 := hu65 hr
  exact (fss_one (fs_ret (fe_or (fe_cmp (op_gtA) of_gt (fe_callB (cr_minA rfl hu5) cf_minA rfl G.g_min (by decide +kernel) (fa_cons (fe_nm 0) fa_nil)) fe_int) (fe_one (fe_cmp (op_ltA) of_lt (fe_callB (cr_maxA rfl hu5) cf_maxA rfl G.g_max (by decide +kernel) (fa_cons (fe_nm 0) fa_nil)) fe_int)))))
theorem sc_check_nought : FnScope ["weights", "value", "one", "weight"] ["weights", "value"] (defScope (topS 32)) := ⟨rfl, rfl, rfl, by decide +kernel, rfl, by decide +kernel, by decide +kernel⟩
theorem bd_check_nought : Binds K G.d_check_nought ["weights", "value"] [] := G.D_check_nought.bindsN fun _ _ _ _ _ _ us hl => match us, hl with | [_, _], _ => rfl
def b_check_nought : SF := (sSeq (sIf (tTr (callF p_is_worded (aCons (nm 1) (aCons (kE (.str "signs")) (aCons (kE (.int 1)) aNil))))) (sRet (callF p_are_alike_in_sign (aCons (nm 0) aNil))) sSkip) (sSeq (sIf (tTr (callF p_is_worded (aCons (nm 1) (aCons (kE (.str "prime")) (aCons (kE (.int 2)) aNil))))) (sRet (vAn (callF p_is_within (aCons (ixN' 1 (kE (.int 1))) (aCons (kE (.int 2)) (aCons (kE (.int 100)) aNil)))) (vAn (callF p_is_prime (aCons (ixN' 1 (kE (.int 1))) aNil)) (vNt (callF p_can_be (aCons (nm 0) (aCons (ixN' 1 (kE (.int 1))) aNil))))))) sSkip) (sSeq (sIf (tOr' (tNt (tTr (callF p_is_worded (aCons (nm 1) (aCons (kE (.str "nought")) (aCons (kE (.int 2)) aNil)))))) (tNt (tTr (callF p_is_row (aCons (ixN' 1 (kE (.int 1))) (aCons (lenN 0) aNil)))))) (sRet (kE (.bool false))) sSkip) (sSeq (sIf (tTr (eGo true [2] (wSeq (ixN' 1 (kE (.int 1)))) (bNm 2) tYs (bin pEq (nm 2) (kE (.int 0))))) (sRet (kE (.bool false))) sSkip) (sRet (bin pEq (callF pSum (aCons (eLc [3, 2] (wZipM (aCons (nm 0) (aCons (ixN' 1 (kE (.int 1))) aNil))) (bTup 2 (bCons (bNm 3) (bCons (bNm 2) bNil))) tYs (bin pMul (bin pMul (nm 3) (nm 2)) (nm 2))) aNil)) (kE (.int 0))))))))
def p_check_nought : List PV → Option PV := runP 4 2 b_check_nought
theorem ok_check_nought (TB : ∀ p ∈ G.cs, GxR.TabB base mg p.1 p.2) : FnOk P w K mg base CX0 10 G.a_check_nought G.d_check_nought ["weights", "value"] (spP G.T K p_check_nought) := fd_pureC G.D_check_nought sc_check_nought rfl rfl fun cdv A outer s H E hc hr => by
  have hu := hr.units
  have hu5 := hu65 hr
  have tP : G.P_check_nought ∈ G.T := (List.Mem.tail _ (List.Mem.head _))
  have tB : GxR.TabB base mg G.c_check_nought G.P_check_nought := TB _ (List.Mem.tail _ (List.Mem.head _))
  have tc : cdv = .ref G.c_check_nought := hc.symm.trans G.C_check_nought
  exact (fss_cons (fs_if (ft_tru (fe_call (ok_is_worded G TB) (hr.mono (by decide : 1 ≤ 9)) G.m_is_worded G.D_is_worded.kp (bd_is_worded G) pass0 (fa_cons (fe_nm 1) (fa_cons fe_str (fa_cons fe_int fa_nil))))) (fss_one (fs_ret (fe_call (ok_are_alike_in_sign G TB) (hr.mono (by decide : 1 ≤ 9)) G.m_are_alike_in_sign G.D_are_alike_in_sign.kp (bd_are_alike_in_sign G) pass0 (fa_cons (fe_nm 0) fa_nil)))) fss_nil) (fss_cons (fs_if (ft_tru (fe_call (ok_is_worded G TB) (hr.mono (by decide : 1 ≤ 9)) G.m_is_worded G.D_is_worded.kp (bd_is_worded G) pass0 (fa_cons (fe_nm 1) (fa_cons fe_str (fa_cons fe_int fa_nil))))) (fss_one (fs_ret (fe_and (fe_call (ok_is_within G TB) (hr.mono (by decide : 2 ≤ 9)) G.m_is_within G.D_is_within.kp (bd_is_within G) pass0 (fa_cons (fe_ixN 1 fe_int) (fa_cons fe_int (fa_cons (fe_globI G.g_GREATEST_PRIME) fa_nil)))) (fe_and (fe_call (ok_is_prime G TB) (hr.mono (by decide : 3 ≤ 9)) G.m_is_prime G.D_is_prime.kp (bd_is_prime G) pass0 (fa_cons (fe_ixN 1 fe_int) fa_nil)) (fe_one (fe_not (fe_call (ok_can_be G TB) (hr.mono (by decide : 3 ≤ 9)) G.m_can_be G.D_can_be.kp (bd_can_be G) pass0 (fa_cons (fe_nm 0) (fa_cons (fe_ixN 1 fe_int) fa_nil))))))))) fss_nil) (fss_cons (fs_if (FW.ft (fw_or (ft_not (ft_tru (fe_call (ok_is_worded G TB) (hr.mono (by decide : 1 ≤ 9)) G.m_is_worded G.D_is_worded.kp (bd_is_worded G) pass0 (fa_cons (fe_nm 1) (fa_cons fe_str (fa_cons fe_int fa_nil)))))) (fw_or1 (ft_not (ft_tru (fe_call (ok_is_row G TB) (hr.mono (by decide : 9 ≤ 9)) G.m_is_row G.D_is_row.kp (bd_is_row G) pass0 (fa_cons (fe_ixN 1 fe_int) (fa_cons (fe_lenN 0 rfl G.g_len) fa_nil)))))))) (fss_one (fs_ret fe_bl)) fss_nil) (fss_cons (fs_if (ft_tru (fe_allG (k := 0) (own := [("one", 2)]) tP (hr.mono (by decide : 7 ≤ 9)) tB tc (genOk_by (own := [("one", 2)]) (N := ["weights", "value", "one", "weight"]) (sc := defScope (topS 32)) (by decide +kernel)) sc_check_nought.nd rfl G.g_all (fi_seq (fe_ixN 1 fe_int)) (fun _ _ _ _ _ _ _ => (fb_nm 2 sc_check_nought.nd)) (fun _ _ _ _ _ _ _ hr => have hu := hr.units; have hu5 := hu65 hr; fts_nil) (fun _ _ _ _ _ _ _ hr => have hu := hr.units; have hu5 := hu65 hr; (fe_cmp (op_eqA hu) of_eq (fe_nm 2) fe_int)))) (fss_one (fs_ret fe_bl)) fss_nil) (fss_one (fs_ret (fe_cmp (op_eqA hu) of_eq (fe_callB (cr_sum rfl) cf_sum rfl G.g_sum (by decide +kernel) (fa_cons (FN.fe (fn_lc (own := [("weight", 3), ("one", 2)]) rfl sc_check_nought.nd (fi_zipM rfl G.g_zip (fa_cons (fe_nm 0) (fa_cons (fe_ixN 1 fe_int) fa_nil))) (blkOk_by (own := [("weight", 3), ("one", 2)]) (N := ["weights", "value", "one", "weight"]) (sc := defScope (topS 32)) (by decide +kernel)) (fun _ _ _ _ _ => (fb_tup rfl (fbs_cons (fb_nm 3 sc_check_nought.nd) (fbs_cons (fb_nm 2 sc_check_nought.nd) fbs_nil)))) (fun _ _ _ _ _ => fts_nil) (fun _ _ _ _ _ => (fe_op op_mulA of_mul (fe_op op_mulA of_mul (fe_nm 3) (fe_nm 2)) (fe_nm 2))))) fa_nil)) fe_int)))))))
theorem sc_point_product : FnScope ["one", "two"] ["one", "two"] (defScope (topS 34)) := ⟨rfl, rfl, rfl, by decide +kernel, rfl, by decide +kernel, by decide +kernel⟩
theorem bd_point_product : Binds K G.d_point_product ["one", "two"] [] := G.D_point_product.bindsN fun _ _ _ _ _ _ us hl => match us, hl with | [_, _], _ => rfl
def b_point_product : SF := (sRet (eTup (aCons (bin pSub (bin pMul (ixN' 0 (kE (.int 0))) (ixN' 1 (kE (.int 0)))) (bin pMul (ixN' 0 (kE (.int 1))) (ixN' 1 (kE (.int 1))))) (aCons (bin pAdd (bin pMul (ixN' 0 (kE (.int 0))) (ixN' 1 (kE (.int 1)))) (bin pMul (ixN' 0 (kE (.int 1))) (ixN' 1 (kE (.int 0))))) aNil))))
def p_point_product : List PV → Option PV := runP 2 2 b_point_product
theorem ok_point_product (TB : ∀ p ∈ G.cs, GxR.TabB base mg p.1 p.2) : FnOk P w K mg base CX0 1 G.a_point_product G.d_point_product ["one", "two"] (spP G.T K p_point_product) := fd_pureC G.D_point_product sc_point_product rfl rfl fun cdv A outer s H E hc hr => by
  have hu := hr.units
  have hu5 := hu65 hr
  exact (fss_one (fs_ret (fe_tup (fa_cons (fe_op op_sub of_sub (fe_op op_mulA of_mul (fe_ixN 0 fe_int) (fe_ixN 1 fe_int)) (fe_op op_mulA of_mul (fe_ixN 0 fe_int) (fe_ixN 1 fe_int))) (fa_cons (fe_op op_addA of_add (fe_op op_mulA of_mul (fe_ixN 0 fe_int) (fe_ixN 1 fe_int)) (fe_op op_mulA of_mul (fe_ixN 0 fe_int) (fe_ixN 1 fe_int))) fa_nil)))))
theorem sc_norm : FnScope ["point"] ["point"] (defScope (topS 35)) := ⟨rfl, rfl, rfl, by decide +kernel, rfl, by decide +kernel, by decide +kernel⟩
theorem bd_norm : Binds K G.d_norm ["point"] [] := G.D_norm.bindsN fun _ _ _ _ _ _ us hl => match us, hl with | [_], _ => rfl
def b_norm : SF := (sRet (bin pAdd (bin pMul (ixN' 0 (kE (.int 0))) (ixN' 0 (kE (.int 0)))) (bin pMul (ixN' 0 (kE (.int 1))) (ixN' 0 (kE (.int 1))))))
def p_norm : List PV → Option PV := runP 1 1 b_norm
theorem ok_norm (TB : ∀ p ∈ G.cs, GxR.TabB base mg p.1 p.2) : FnOk P w K mg base CX0 1 G.a_norm G.d_norm ["point"] (spP G.T K p_norm) := fd_pureC G.D_norm sc_norm rfl rfl fun cdv A outer s H E hc hr => by
  have hu := hr.units
  have hu5 := hu65 hr
  exact (fss_one (fs_ret (fe_op op_addA of_add (fe_op op_mulA of_mul (fe_ixN 0 fe_int) (fe_ixN 0 fe_int)) (fe_op op_mulA of_mul (fe_ixN 0 fe_int) (fe_ixN 0 fe_int)))))
theorem sc_near : FnScope ["a", "b"] ["a", "b"] (defScope (topS 36)) := ⟨rfl, rfl, rfl, by decide +kernel, rfl, by decide +kernel, by decide +kernel⟩
theorem bd_near : Binds K G.d_near ["a", "b"] [] := G.D_near.bindsN fun _ _ _ _ _ _ us hl => match us, hl with | [_, _], _ => rfl
def b_near : SF := (sRet (bin pDiv (bin pAdd (bin pMul (kE (.int 2)) (nm 0)) (nm 1)) (bin pMul (kE (.int 2)) (nm 1))))
def p_near : List PV → Option PV := runP 2 2 b_near
theorem ok_near (TB : ∀ p ∈ G.cs, GxR.TabB base mg p.1 p.2) : FnOk P w K mg base CX0 1 G.a_near G.d_near ["a", "b"] (spP G.T K p_near) := fd_pureC G.D_near sc_near rfl rfl fun cdv A outer s H E hc hr => by
  have hu := hr.units
  have hu5 := hu65 hr
  exact (fss_one (fs_ret (fe_op op_fdivG of_div (fe_op op_addA of_add (fe_op op_mulA of_mul fe_int (fe_nm 0)) (fe_nm 1)) (fe_op op_mulA of_mul fe_int (fe_nm 1)))))
theorem sc_divided : FnScope ["one", "two", "up", "under", "quotient", "taken"] ["one", "two"] (defScope (topS 37)) := ⟨rfl, rfl, rfl, by decide +kernel, rfl, by decide +kernel, by decide +kernel⟩
theorem bd_divided : Binds K G.d_divided ["one", "two"] [] := G.D_divided.bindsN fun _ _ _ _ _ _ us hl => match us, hl with | [_, _], _ => rfl
def b_divided : SF := (sSeq (asg 2 (callF p_point_product (aCons (nm 0) (aCons (eTup (aCons (ixN' 1 (kE (.int 0))) (aCons (un pNeg (ixN' 1 (kE (.int 1)))) aNil))) aNil)))) (sSeq (asg 3 (callF p_norm (aCons (nm 1) aNil))) (sSeq (asg 4 (eTup (aCons (callF p_near (aCons (ixN' 2 (kE (.int 0))) (aCons (nm 3) aNil))) (aCons (callF p_near (aCons (ixN' 2 (kE (.int 1))) (aCons (nm 3) aNil))) aNil)))) (sSeq (asg 5 (callF p_point_product (aCons (nm 4) (aCons (nm 1) aNil)))) (sRet (eTup (aCons (nm 4) (aCons (eTup (aCons (bin pSub (ixN' 0 (kE (.int 0))) (ixN' 5 (kE (.int 0)))) (aCons (bin pSub (ixN' 0 (kE (.int 1))) (ixN' 5 (kE (.int 1)))) aNil))) aNil))))))))
def p_divided : List PV → Option PV := runP 6 2 b_divided
theorem ok_divided (TB : ∀ p ∈ G.cs, GxR.TabB base mg p.1 p.2) : FnOk P w K mg base CX0 2 G.a_divided G.d_divided ["one", "two"] (spP G.T K p_divided) := fd_pureC G.D_divided sc_divided rfl rfl fun cdv A outer s H E hc hr => by
  have hu := hr.units
  have hu5 := hu65 hr
  exact (fss_cons (fs_set 2 sc_divided.nd (fe_call (ok_point_product G TB) (hr.mono (by decide : 1 ≤ 1)) G.m_point_product G.D_point_product.kp (bd_point_product G) pass0 (fa_cons (fe_nm 0) (fa_cons (fe_tup (fa_cons (fe_ixN 1 fe_int) (fa_cons (fe_neg (fe_ixN 1 fe_int)) fa_nil))) fa_nil)))) (fss_cons (fs_set 3 sc_divided.nd (fe_call (ok_norm G TB) (hr.mono (by decide : 1 ≤ 1)) G.m_norm G.D_norm.kp (bd_norm G) pass0 (fa_cons (fe_nm 1) fa_nil))) (fss_cons (fs_set 4 sc_divided.nd (fe_tup (fa_cons (fe_call (ok_near G TB) (hr.mono (by decide : 1 ≤ 1)) G.m_near G.D_near.kp (bd_near G) pass0 (fa_cons (fe_ixN 2 fe_int) (fa_cons (fe_nm 3) fa_nil))) (fa_cons (fe_call (ok_near G TB) (hr.mono (by decide : 1 ≤ 1)) G.m_near G.D_near.kp (bd_near G) pass0 (fa_cons (fe_ixN 2 fe_int) (fa_cons (fe_nm 3) fa_nil))) fa_nil)))) (fss_cons (fs_set 5 sc_divided.nd (fe_call (ok_point_product G TB) (hr.mono (by decide : 1 ≤ 1)) G.m_point_product G.D_point_product.kp (bd_point_product G) pass0 (fa_cons (fe_nm 4) (fa_cons (fe_nm 1) fa_nil)))) (fss_one (fs_ret (fe_tup (fa_cons (fe_nm 4) (fa_cons (fe_tup (fa_cons (fe_op op_sub of_sub (fe_ixN 0 fe_int) (fe_ixN 5 fe_int)) (fa_cons (fe_op op_sub of_sub (fe_ixN 0 fe_int) (fe_ixN 5 fe_int)) fa_nil))) fa_nil)))))))))
theorem sc_plain_point : FnScope ["point", "k"] ["point"] (defScope (topS 38)) := ⟨rfl, rfl, rfl, by decide +kernel, rfl, by decide +kernel, by decide +kernel⟩
theorem bd_plain_point : Binds K G.d_plain_point ["point"] [] := G.D_plain_point.bindsN fun _ _ _ _ _ _ us hl => match us, hl with | [_], _ => rfl
def b_plain_point : SF := (sSeq (sFor (wRng1 (kE (.int 4))) (bNm 1) (sSeq (sIf (tAn (tB' (bin pGt (ixN' 0 (kE (.int 0))) (kE (.int 0)))) (tB' (bin pGe (ixN' 0 (kE (.int 1))) (kE (.int 0))))) (sRet (nm 0)) sSkip) (asg 0 (eTup (aCons (un pNeg (ixN' 0 (kE (.int 1)))) (aCons (ixN' 0 (kE (.int 0))) aNil)))))) (sRet (nm 0)))
def p_plain_point : List PV → Option PV := runP 2 1 b_plain_point
theorem ok_plain_point (TB : ∀ p ∈ G.cs, GxR.TabB base mg p.1 p.2) : FnOk P w K mg base CX0 1 G.a_plain_point G.d_plain_point ["point"] (spP G.T K p_plain_point) := fd_pureC G.D_plain_point sc_plain_point rfl rfl fun cdv A outer s H E hc hr => by
  have hu := hr.units
  have hu5 := hu65 hr
  exact (fss_cons (fs_for (PassesOwn.never) rfl (fi_rng1 rfl G.g_range fe_int) (fb_nm 1 sc_plain_point.nd) (fss_cons (fs_if (FW.ft (fw_and (ft_cmp (op_gtA) of_gt (fe_ixN 0 fe_int) fe_int) (fw_and1 (ft_cmp (op_geA) of_ge (fe_ixN 0 fe_int) fe_int)))) (fss_one (fs_ret (fe_nm 0))) fss_nil) (fss_one (fs_set 0 sc_plain_point.nd (fe_tup (fa_cons (fe_neg (fe_ixN 0 fe_int)) (fa_cons (fe_ixN 0 fe_int) fa_nil))))))) (fss_one (fs_ret (fe_nm 0))))
theorem sc_point_common : FnScope ["one", "two"] ["one", "two"] (defScope (topS 39)) := ⟨rfl, rfl, rfl, by decide +kernel, rfl, by decide +kernel, by decide +kernel⟩
theorem bd_point_common : Binds K G.d_point_common ["one", "two"] [] := G.D_point_common.bindsN fun _ _ _ _ _ _ us hl => match us, hl with | [_, _], _ => rfl
def b_point_common : SF := (sSeq (whF (tB' (bin pNe (nm 1) (eTup (aCons (kE (.int 0)) (aCons (kE (.int 0)) aNil))))) (asg2 0 1 (aCons (nm 1) (aCons (bin pIx (callF p_divided (aCons (nm 0) (aCons (nm 1) aNil))) (kE (.int 1))) aNil))) 2000) (sRet (callF p_plain_point (aCons (nm 0) aNil))))
def p_point_common : List PV → Option PV := runP 2 2 b_point_common
theorem ok_point_common (TB : ∀ p ∈ G.cs, GxR.TabB base mg p.1 p.2) : FnOk P w K mg base CX0 3 G.a_point_common G.d_point_common ["one", "two"] (spP G.T K p_point_common) := fd_pureC G.D_point_common sc_point_common rfl rfl fun cdv A outer s H E hc hr => by
  have hu := hr.units
  have hu5 := hu65 hr
  exact (fss_cons (fs_while 2000 (PassesOwn.never) (ft_cmp (op_neA hu) of_ne (fe_nm 1) (fe_tup (fa_cons fe_int (fa_cons fe_int fa_nil)))) (fss_one (fs_par 0 1 sc_point_common.nd (fa_cons (fe_nm 1) (fa_cons (fe_ix (fe_call (ok_divided G TB) (hr.mono (by decide : 2 ≤ 2)) G.m_divided G.D_divided.kp (bd_divided G) pass0 (fa_cons (fe_nm 0) (fa_cons (fe_nm 1) fa_nil))) fe_int) fa_nil))))) (fss_one (fs_ret (fe_call (ok_plain_point G TB) (hr.mono (by decide : 1 ≤ 2)) G.m_plain_point G.D_plain_point.kp (bd_plain_point G) pass0 (fa_cons (fe_nm 0) fa_nil)))))
theorem sc_two_squares : FnScope ["n", "x", "y"] ["n"] (defScope (topS 41)) := ⟨rfl, rfl, rfl, by decide +kernel, rfl, by decide +kernel, by decide +kernel⟩
theorem bd_two_squares : Binds K G.d_two_squares ["n"] [] := G.D_two_squares.bindsN fun _ _ _ _ _ _ us hl => match us, hl with | [_], _ => rfl
def b_two_squares : SF := (sSeq (asg 1 (callF pIsq (aCons (bin pDiv (nm 0) (kE (.int 2))) aNil))) (sSeq (sIf (tB' (bin pLt (bin pMul (bin pMul (kE (.int 2)) (nm 1)) (nm 1)) (nm 0))) (aug 1 pAddI (kE (.int 1))) sSkip) (sSeq (whF (tB' (bin pLe (bin pMul (nm 1) (nm 1)) (nm 0))) (sSeq (asg 2 (callF pIsq (aCons (bin pSub (nm 0) (bin pMul (nm 1) (nm 1))) aNil))) (sSeq (sIf (tAn (tB' (bin pEq (bin pAdd (bin pMul (nm 1) (nm 1)) (bin pMul (nm 2) (nm 2))) (nm 0))) (tB' (bin pLe (nm 2) (nm 1)))) (sRet (eTup (aCons (nm 1) (aCons (nm 2) aNil)))) sSkip) (aug 1 pAddI (kE (.int 1))))) 2000) (sRet (kE .none)))))
def p_two_squares : List PV → Option PV := runP 3 1 b_two_squares
theorem ok_two_squares (TB : ∀ p ∈ G.cs, GxR.TabB base mg p.1 p.2) : FnOk P w K mg base CX0 1 G.a_two_squares G.d_two_squares ["n"] (spP G.T K p_two_squares) := fd_pureC G.D_two_squares sc_two_squares rfl rfl fun cdv A outer s H E hc hr => by
  have hu := hr.units
  have hu5 := hu65 hr
  exact (fss_cons (fs_set 1 sc_two_squares.nd (fe_callBfun cr_isqrt cf_isqrt rfl G.g_isqrt (fa_cons (fe_op op_fdivG of_div (fe_nm 0) fe_int) fa_nil))) (fss_cons (fs_if (ft_cmp (op_ltA) of_lt (fe_op op_mulA of_mul (fe_op op_mulA of_mul fe_int (fe_nm 1)) (fe_nm 1)) (fe_nm 0)) (fss_one (fs_aug 1 sc_two_squares.nd iop_addA of_addI fe_int)) fss_nil) (fss_cons (fs_while 2000 (PassesOwn.never) (ft_cmp (op_leA) of_le (fe_op op_mulA of_mul (fe_nm 1) (fe_nm 1)) (fe_nm 0)) (fss_cons (fs_set 2 sc_two_squares.nd (fe_callBfun cr_isqrt cf_isqrt rfl G.g_isqrt (fa_cons (fe_op op_sub of_sub (fe_nm 0) (fe_op op_mulA of_mul (fe_nm 1) (fe_nm 1))) fa_nil))) (fss_cons (fs_if (FW.ft (fw_and (ft_cmp (op_eqA hu) of_eq (fe_op op_addA of_add (fe_op op_mulA of_mul (fe_nm 1) (fe_nm 1)) (fe_op op_mulA of_mul (fe_nm 2) (fe_nm 2))) (fe_nm 0)) (fw_and1 (ft_cmp (op_leA) of_le (fe_nm 2) (fe_nm 1))))) (fss_one (fs_ret (fe_tup (fa_cons (fe_nm 1) (fa_cons (fe_nm 2) fa_nil))))) fss_nil) (fss_one (fs_aug 1 sc_two_squares.nd iop_addA of_addI fe_int))))) (fss_one (fs_ret fe_non)))))
theorem sc_two_paper : FnScope ["n", "found", "p", "e"] ["n"] (defScope (topS 42)) := ⟨rfl, rfl, rfl, by decide +kernel, rfl, by decide +kernel, by decide +kernel⟩
theorem bd_two_paper : Binds K G.d_two_paper ["n"] [] := G.D_two_paper.bindsN fun _ _ _ _ _ _ us hl => match us, hl with | [_], _ => rfl
def b_two_paper : SF := (sSeq (asg 1 (callF p_two_squares (aCons (nm 0) aNil))) (sSeq (sIf (tB' (bin pNotN (nm 1) (kE .none))) (sRet (eTup (aCons (kE (.str "squares")) (aStar (nm 1) aNil)))) sSkip) (sRet (eTup (aCons (kE (.str "bars")) (aStar (bin pIx (eLc [2, 3] (wSeq (callF p_parts_of (aCons (nm 0) aNil))) (bTup 2 (bCons (bNm 2) (bCons (bNm 3) bNil))) (tAn (tB' (bin pEq (bin pMod (nm 2) (kE (.int 4))) (kE (.int 3)))) (tB' (bin pEq (bin pMod (nm 3) (kE (.int 2))) (kE (.int 1))))) (eTup (aCons (nm 2) (aCons (nm 3) aNil)))) (kE (.int 0))) aNil))))))
def p_two_paper : List PV → Option PV := runP 4 1 b_two_paper
theorem ok_two_paper (TB : ∀ p ∈ G.cs, GxR.TabB base mg p.1 p.2) : FnOk P w K mg base CX0 2 G.a_two_paper G.d_two_paper ["n"] (spP G.T K p_two_paper) := fd_pureC G.D_two_paper sc_two_paper rfl rfl fun cdv A outer s H E hc hr => by
  have hu := hr.units
  have hu5 := hu65 hr
  exact (fss_cons (fs_set 1 sc_two_paper.nd (fe_call (ok_two_squares G TB) (hr.mono (by decide : 1 ≤ 1)) G.m_two_squares G.D_two_squares.kp (bd_two_squares G) pass0 (fa_cons (fe_nm 0) fa_nil))) (fss_cons (fs_if (ft_cmp (op_notN) of_notN (fe_nm 1) fe_non) (fss_one (fs_ret (fe_tup (fa_cons fe_str (fa_star (fe_nm 1) fa_nil))))) fss_nil) (fss_one (fs_ret (fe_tup (fa_cons fe_str (fa_star (fe_ix (FN.fe (fn_lc (own := [("p", 2), ("e", 3)]) rfl sc_two_paper.nd (fi_seq (fe_call (ok_parts_of G TB) (hr.mono (by decide : 1 ≤ 1)) G.m_parts_of G.D_parts_of.kp (bd_parts_of G) pass0 (fa_cons (fe_nm 0) fa_nil))) (blkOk_by (own := [("p", 2), ("e", 3)]) (N := ["n", "found", "p", "e"]) (sc := defScope (topS 42)) (by decide +kernel)) (fun _ _ _ _ _ => (fb_tup rfl (fbs_cons (fb_nm 2 sc_two_paper.nd) (fbs_cons (fb_nm 3 sc_two_paper.nd) fbs_nil)))) (fun _ _ _ _ _ => (fts_one (FW.ft (fw_and (ft_cmp (op_eqA hu) of_eq (fe_op op_modN of_mod (fe_nm 2) fe_int) fe_int) (fw_and1 (ft_cmp (op_eqA hu) of_eq (fe_op op_modN of_mod (fe_nm 3) fe_int) fe_int)))))) (fun _ _ _ _ _ => (fe_tup (fa_cons (fe_nm 2) (fa_cons (fe_nm 3) fa_nil)))))) fe_int) fa_nil)))))))
theorem sc_primes_over : FnScope ["p", "x", "y"] ["p"] (defScope (topS 44)) := ⟨rfl, rfl, rfl, by decide +kernel, rfl, by decide +kernel, by decide +kernel⟩
theorem bd_primes_over : Binds K G.d_primes_over ["p"] [] := G.D_primes_over.bindsN fun _ _ _ _ _ _ us hl => match us, hl with | [_], _ => rfl
def b_primes_over : SF := (sSeq (sIf (tB' (bin pEq (bin pMod (nm 0) (kE (.int 4))) (kE (.int 3)))) (sRet (eLst (aCons (eTup (aCons (nm 0) (aCons (kE (.int 0)) aNil))) aNil))) sSkip) (sSeq (asgB (bTup 2 (bCons (bNm 1) (bCons (bNm 2) bNil))) (callF p_two_squares (aCons (nm 0) aNil))) (sRet (eIf (tB' (bin pEq (nm 0) (kE (.int 2)))) (eLst (aCons (eTup (aCons (kE (.int 1)) (aCons (kE (.int 1)) aNil))) aNil)) (callF (pSortG false) (aCons (eLst (aCons (eTup (aCons (nm 1) (aCons (nm 2) aNil))) (aCons (eTup (aCons (nm 2) (aCons (nm 1) aNil))) aNil))) aNil))))))
def p_primes_over : List PV → Option PV := runP 3 1 b_primes_over
theorem ok_primes_over (TB : ∀ p ∈ G.cs, GxR.TabB base mg p.1 p.2) : FnOk P w K mg base CX0 2 G.a_primes_over G.d_primes_over ["p"] (spP G.T K p_primes_over) := fd_pureC G.D_primes_over sc_primes_over rfl rfl fun cdv A outer s H E hc hr => by
  have hu := hr.units
  have hu5 := hu65 hr
  exact (fss_cons (fs_if (ft_cmp (op_eqA hu) of_eq (fe_op op_modN of_mod (fe_nm 0) fe_int) fe_int) (fss_one (fs_ret (FN.fe (fn_lst (fa_cons (fe_tup (fa_cons (fe_nm 0) (fa_cons fe_int fa_nil))) fa_nil))))) fss_nil) (fss_cons (fs_asg (fe_call (ok_two_squares G TB) (hr.mono (by decide : 1 ≤ 1)) G.m_two_squares G.D_two_squares.kp (bd_two_squares G) pass0 (fa_cons (fe_nm 0) fa_nil)) (fb_tup rfl (fbs_cons (fb_nm 1 sc_primes_over.nd) (fbs_cons (fb_nm 2 sc_primes_over.nd) fbs_nil)))) (fss_one (fs_ret (fe_if (ft_cmp (op_eqA hu) of_eq (fe_nm 0) fe_int) (FN.fe (fn_lst (fa_cons (fe_tup (fa_cons fe_int (fa_cons fe_int fa_nil))) fa_nil))) (FN.fe (fn_sortG rfl hu5 G.g_sorted (fa_cons (FN.fe (fn_lst (fa_cons (fe_tup (fa_cons (fe_nm 1) (fa_cons (fe_nm 2) fa_nil))) (fa_cons (fe_tup (fa_cons (fe_nm 2) (fa_cons (fe_nm 1) fa_nil))) fa_nil)))) fa_nil))))))))
theorem sc_dividing_prime : FnScope ["point", "p", "e", "prime", "quotient", "rest"] ["point"] (defScope (topS 45)) := ⟨rfl, rfl, rfl, by decide +kernel, rfl, by decide +kernel, by decide +kernel⟩
theorem bd_dividing_prime : Binds K G.d_dividing_prime ["point"] [] := G.D_dividing_prime.bindsN fun _ _ _ _ _ _ us hl => match us, hl with | [_], _ => rfl
def b_dividing_prime : SF := (sSeq (sFor (wSeq (callF p_parts_of (aCons (callF p_norm (aCons (nm 0) aNil)) aNil))) (bTup 2 (bCons (bNm 1) (bCons (bNm 2) bNil))) (sFor (wSeq (callF p_primes_over (aCons (nm 1) aNil))) (bNm 3) (sSeq (asgB (bTup 2 (bCons (bNm 4) (bCons (bNm 5) bNil))) (callF p_divided (aCons (nm 0) (aCons (nm 3) aNil)))) (sIf (tB' (bin pEq (nm 5) (eTup (aCons (kE (.int 0)) (aCons (kE (.int 0)) aNil))))) (sRet (eTup (aCons (nm 3) (aCons (nm 4) aNil)))) sSkip)))) (sRet (kE .none)))
def p_dividing_prime : List PV → Option PV := runP 6 1 b_dividing_prime
theorem ok_dividing_prime (TB : ∀ p ∈ G.cs, GxR.TabB base mg p.1 p.2) : FnOk P w K mg base CX0 3 G.a_dividing_prime G.d_dividing_prime ["point"] (spP G.T K p_dividing_prime) := fd_pureC G.D_dividing_prime sc_dividing_prime rfl rfl fun cdv A outer s H E hc hr => by
  have hu := hr.units
  have hu5 := hu65 hr
  exact (fss_cons (fs_for (PassesOwn.never) rfl (fi_seq (fe_call (ok_parts_of G TB) (hr.mono (by decide : 1 ≤ 2)) G.m_parts_of G.D_parts_of.kp (bd_parts_of G) pass0 (fa_cons (fe_call (ok_norm G TB) (hr.mono (by decide : 1 ≤ 2)) G.m_norm G.D_norm.kp (bd_norm G) pass0 (fa_cons (fe_nm 0) fa_nil)) fa_nil))) (fb_tup rfl (fbs_cons (fb_nm 1 sc_dividing_prime.nd) (fbs_cons (fb_nm 2 sc_dividing_prime.nd) fbs_nil))) (fss_one (fs_for (PassesOwn.never) rfl (fi_seq (fe_call (ok_primes_over G TB) (hr.mono (by decide : 2 ≤ 2)) G.m_primes_over G.D_primes_over.kp (bd_primes_over G) pass0 (fa_cons (fe_nm 1) fa_nil))) (fb_nm 3 sc_dividing_prime.nd) (fss_cons (fs_asg (fe_call (ok_divided G TB) (hr.mono (by decide : 2 ≤ 2)) G.m_divided G.D_divided.kp (bd_divided G) pass0 (fa_cons (fe_nm 0) (fa_cons (fe_nm 3) fa_nil))) (fb_tup rfl (fbs_cons (fb_nm 4 sc_dividing_prime.nd) (fbs_cons (fb_nm 5 sc_dividing_prime.nd) fbs_nil)))) (fss_one (fs_if (ft_cmp (op_eqA hu) of_eq (fe_nm 5) (fe_tup (fa_cons fe_int (fa_cons fe_int fa_nil)))) (fss_one (fs_ret (fe_tup (fa_cons (fe_nm 3) (fa_cons (fe_nm 4) fa_nil))))) fss_nil)))))) (fss_one (fs_ret fe_non)))
theorem sc_point_parts : FnScope ["point", "found", "prime"] ["point"] (defScope (topS 46)) := ⟨rfl, rfl, rfl, by decide +kernel, rfl, by decide +kernel, by decide +kernel⟩
theorem bd_point_parts : Binds K G.d_point_parts ["point"] [] := G.D_point_parts.bindsN fun _ _ _ _ _ _ us hl => match us, hl with | [_], _ => rfl
def b_point_parts : SF := (sSeq (asgO 1 eDt) (sSeq (whF (tB' (bin pGt (callF p_norm (aCons (nm 0) aNil)) (kE (.int 1)))) (sSeq (asgB (bTup 2 (bCons (bNm 2) (bCons (bNm 0) bNil))) (callF p_dividing_prime (aCons (nm 0) aNil))) (putIxT 1 (nm 2) (bin pAdd (dGetT2 1 (nm 2) (kE (.int 0))) (kE (.int 1))))) 2000) (sRet (eTup (aCons (nm 0) (aCons (eTupG [2] (wSeq (callF (pSortG false) (aCons (nm 1) aNil))) (bNm 2) tYs (eTup (aCons (nm 2) (aCons (dIxT 1 (nm 2)) aNil)))) aNil))))))
def p_point_parts : List PV → Option PV := runP 3 1 b_point_parts
theorem ok_point_parts (TB : ∀ p ∈ G.cs, GxR.TabB base mg p.1 p.2) : FnOk P w K mg base CX0 8 G.a_point_parts G.d_point_parts ["point"] (spP G.T K p_point_parts) := fd_pureC G.D_point_parts sc_point_parts rfl rfl fun cdv A outer s H E hc hr => by
  have hu := hr.units
  have hu5 := hu65 hr
  have tP : G.P_point_parts ∈ G.T := (List.Mem.tail _ (List.Mem.tail _ (List.Mem.head _)))
  have tB : GxR.TabB base mg G.c_point_parts G.P_point_parts := TB _ (List.Mem.tail _ (List.Mem.tail _ (List.Mem.head _)))
  have tc : cdv = .ref G.c_point_parts := hc.symm.trans G.C_point_parts
  exact (fss_cons (fs_setO 1 sc_point_parts.nd fn_dt) (fss_cons (fs_while 2000 (PassesOwn.never) (ft_cmp (op_gtA) of_gt (fe_call (ok_norm G TB) (hr.mono (by decide : 1 ≤ 7)) G.m_norm G.D_norm.kp (bd_norm G) pass0 (fa_cons (fe_nm 0) fa_nil)) fe_int) (fss_cons (fs_asg (fe_call (ok_dividing_prime G TB) (hr.mono (by decide : 3 ≤ 7)) G.m_dividing_prime G.D_dividing_prime.kp (bd_dividing_prime G) pass0 (fa_cons (fe_nm 0) fa_nil)) (fb_tup rfl (fbs_cons (fb_nm 2 sc_point_parts.nd) (fbs_cons (fb_nm 0 sc_point_parts.nd) fbs_nil)))) (fss_one (fs_putIxT 1 (hu1 hu) (fe_nm 2) (fe_op op_addA of_add (fe_dGetT2 1 (hu1 hu) (fe_nm 2) fe_int) fe_int))))) (fss_one (fs_ret (fe_tup (fa_cons (fe_nm 0) (fa_cons (fe_tupG (k := 0) (own := [("prime", 2)]) tP (hr.mono (by decide : 7 ≤ 7)) tB tc (genOk_by (own := [("prime", 2)]) (N := ["point", "found", "prime"]) (sc := defScope (topS 46)) (by decide +kernel)) sc_point_parts.nd rfl G.g_tuple (fi_seq (FN.fe (fn_sortG rfl hu5 G.g_sorted (fa_cons (fe_nm 1) fa_nil)))) (fun _ _ _ _ _ _ _ => (fb_nm 2 sc_point_parts.nd)) (fun _ _ _ _ _ _ _ hr => have hu := hr.units; have hu5 := hu65 hr; fts_nil) (fun _ _ _ _ _ _ _ hr => have hu := hr.units; have hu5 := hu65 hr; (fe_tup (fa_cons (fe_nm 2) (fa_cons (fe_dIxT 1 (hu1 hu) (fe_nm 2)) fa_nil))))) fa_nil)))))))
theorem sc__law_pool : FnScope ["script", "salt", "cell"] ["script"] (defScope (topS 48)) := ⟨rfl, rfl, rfl, by decide +kernel, rfl, by decide +kernel, by decide +kernel⟩
theorem bd__law_pool : Binds K G.d__law_pool ["script"] [] := G.D__law_pool.bindsN fun _ _ _ _ _ _ us hl => match us, hl with | [_], _ => rfl
def b__law_pool : SF := (sSeq (asg 1 (kE (.int 7))) (sSeq (sFor (wSeq (eSl (nm 0) oNo (oSo (kE (.int 63))))) (bNm 2) (asg 1 (bin pMod (callF pInt1 (aCons (bin pAdd (bin pMul (nm 1) (kE (.int 31))) (nm 2)) aNil)) (kE (.int 1000003))))) (sRetO (eLst (aCons (callF pList (aCons (nm 0) aNil)) (aCons (kE (.int 0)) (aCons (kE (.int 0)) (aCons (kE (.int 0)) (aCons (nm 1) aNil)))))))))
def p__law_pool : List PV → Option PV := runN 3 1 b__law_pool
theorem ok__law_pool (TB : ∀ p ∈ G.cs, GxR.TabB base mg p.1 p.2) : FnOk P w K mg base CX0 1 G.a__law_pool G.d__law_pool ["script"] (spN G.T K p__law_pool) := fd_newC G.D__law_pool sc__law_pool rfl rfl fun cdv A outer s H E hc hr => by
  have hu := hr.units
  have hu5 := hu65 hr
  exact (fss_cons (fs_set 1 sc__law_pool.nd fe_int) (fss_cons (fs_for (PassesOwn.never) rfl (fi_seq (fe_sl (fe_nm 0) fo_no (fo_so fe_int))) (fb_nm 2 sc__law_pool.nd) (fss_one (fs_set 1 sc__law_pool.nd (fe_op op_modN of_mod (fe_callTy call_int1 cf_int1 rfl G.g_int (by decide +kernel) (fa_cons (fe_op op_addA of_add (fe_op op_mulA of_mul (fe_nm 1) fe_int) (fe_nm 2)) fa_nil)) fe_int)))) (fss_one (fs_retO (fn_lst (fa_cons (FN.fe (fn_callTy (call_list_of) cn_list rfl G.g_list (by decide +kernel) (fa_cons (fe_nm 0) fa_nil))) (fa_cons fe_int (fa_cons fe_int (fa_cons fe_int (fa_cons (fe_nm 1) fa_nil))))))))))
theorem sc__law_spread : FnScope ["cell", "blended", "whole_sum", "k"] ["cell"] (defScope (topS 49)) := ⟨rfl, rfl, rfl, by decide +kernel, rfl, by decide +kernel, by decide +kernel⟩
theorem bd__law_spread : Binds K G.d__law_spread ["cell"] [] := G.D__law_spread.bindsN fun _ _ _ _ _ _ us hl => match us, hl with | [_], _ => rfl
def b__law_spread : SF := (sSeq (asg 1 (bin pMod (callF pInt1 (aCons (nm 0) aNil)) (kE (.int 2147483647)))) (sSeq (asg 2 (kE (.int 1))) (sSeq (sFor (wRng1 (kE (.int 4))) (bNm 3) (sSeq (asg 1 (bin pMod (callF pInt1 (aCons (bin pAdd (bin pAdd (bin pMul (nm 1) (kE (.int 48271))) (kE (.int 12345))) (nm 3)) aNil)) (kE (.int 2147483647)))) (asg 2 (bin pAdd (bin pMul (nm 2) (kE (.int 2147483647))) (nm 1))))) (sRet (nm 2)))))
def p__law_spread : List PV → Option PV := runP 4 1 b__law_spread
theorem ok__law_spread (TB : ∀ p ∈ G.cs, GxR.TabB base mg p.1 p.2) : FnOk P w K mg base CX0 1 G.a__law_spread G.d__law_spread ["cell"] (spP G.T K p__law_spread) := fd_pureC G.D__law_spread sc__law_spread rfl rfl fun cdv A outer s H E hc hr => by
  have hu := hr.units
  have hu5 := hu65 hr
  exact (fss_cons (fs_set 1 sc__law_spread.nd (fe_op op_modN of_mod (fe_callTy call_int1 cf_int1 rfl G.g_int (by decide +kernel) (fa_cons (fe_nm 0) fa_nil)) fe_int)) (fss_cons (fs_set 2 sc__law_spread.nd fe_int) (fss_cons (fs_for (PassesOwn.never) rfl (fi_rng1 rfl G.g_range fe_int) (fb_nm 3 sc__law_spread.nd) (fss_cons (fs_set 1 sc__law_spread.nd (fe_op op_modN of_mod (fe_callTy call_int1 cf_int1 rfl G.g_int (by decide +kernel) (fa_cons (fe_op op_addA of_add (fe_op op_addA of_add (fe_op op_mulA of_mul (fe_nm 1) fe_int) fe_int) (fe_nm 3)) fa_nil)) fe_int)) (fss_one (fs_set 2 sc__law_spread.nd (fe_op op_addA of_add (fe_op op_mulA of_mul (fe_nm 2) fe_int) (fe_nm 1)))))) (fss_one (fs_ret (fe_nm 2))))))
theorem sc__law_draw : FnScope ["pool", "many", "value", "cell", "blended"] ["pool", "many"] (defScope (topS 50)) := ⟨rfl, rfl, rfl, by decide +kernel, rfl, by decide +kernel, by decide +kernel⟩
theorem bd__law_draw : Binds K G.d__law_draw ["pool", "many"] [] := G.D__law_draw.bindsN fun _ _ _ _ _ _ us hl => match us, hl with | [_, _], _ => rfl
def b__law_draw : SF := (sSeq (sIf (tAn (tB' (bin pLe (ixN' 0 (kE (.int 2))) (kE (.int 0)))) (tB' (bin pLt (ixN' 0 (kE (.int 1))) (callF pLen (aCons (ixN' 0 (kE (.int 0))) aNil))))) (sSeq (asg 3 (bin pIx (ixN' 0 (kE (.int 0))) (ixN' 0 (kE (.int 1))))) (sSeq (setIx 0 (kE (.int 1)) (bin pAdd (ixN' 0 (kE (.int 1))) (kE (.int 1)))) (sSeq (setIx 0 (kE (.int 2)) (nm 3)) (sIf (tB' (bin pLt (nm 3) (kE (.int 1000000000000000000)))) (setIx 0 (kE (.int 2)) (callF p__law_spread (aCons (nm 3) aNil))) sSkip)))) sSkip) (sSeq (setIx 0 (kE (.int 3)) (bin pAdd (ixN' 0 (kE (.int 3))) (kE (.int 1)))) (sSeq (sIf (tB' (bin pLe (ixN' 0 (kE (.int 2))) (kE (.int 0)))) (sSeq (asg 4 (bin pMod (callF pInt1 (aCons (bin pAdd (bin pAdd (bin pMul (ixN' 0 (kE (.int 4))) (kE (.int 48271))) (bin pMul (ixN' 0 (kE (.int 3))) (kE (.int 69621)))) (kE (.int 1))) aNil)) (kE (.int 2147483647)))) (sSeq (asg 4 (bin pMod (callF pInt1 (aCons (bin pAdd (bin pMul (nm 4) (kE (.int 16807))) (ixN' 0 (kE (.int 3)))) aNil)) (kE (.int 2147483629)))) (sRet (bin pMod (bin pDiv (nm 4) (kE (.int 5))) (nm 1))))) sSkip) (sSeq (asg 2 (bin pMod (callF pInt1 (aCons (ixN' 0 (kE (.int 2))) aNil)) (nm 1))) (sSeq (setIx 0 (kE (.int 2)) (bin pDiv (ixN' 0 (kE (.int 2))) (nm 1))) (sRet (nm 2)))))))
def p__law_draw : PV → List PV → Option (PV × PV) := runIO 5 2 b__law_draw
theorem ok__law_draw (TB : ∀ p ∈ G.cs, GxR.TabB base mg p.1 p.2) : FnOk P w K mg base CX0 2 G.a__law_draw G.d__law_draw ["pool", "many"] (spIO G.T K p__law_draw) := fd_ioC G.D__law_draw sc__law_draw rfl rfl fun cdv A outer s H E hc hr => by
  have hu := hr.units
  have hu5 := hu65 hr
  exact (fss_cons (fs_if (FW.ft (fw_and (ft_cmp (op_leA) of_le (fe_ixN 0 fe_int) fe_int) (fw_and1 (ft_cmp (op_ltA) of_lt (fe_ixN 0 fe_int) (fe_callB call_len cf_len rfl G.g_len (by decide +kernel) (fa_cons (fe_ixN 0 fe_int) fa_nil)))))) (fss_cons (fs_set 3 sc__law_draw.nd (fe_ix (fe_ixN 0 fe_int) (fe_ixN 0 fe_int))) (fss_cons (fs_setIx 0 fe_int (fe_op op_addA of_add (fe_ixN 0 fe_int) fe_int)) (fss_cons (fs_setIx 0 fe_int (fe_nm 3)) (fss_one (fs_if (ft_cmp (op_ltA) of_lt (fe_nm 3) fe_int) (fss_one (fs_setIx 0 fe_int (fe_call (ok__law_spread G TB) (hr.mono (by decide : 1 ≤ 1)) G.m__law_spread G.D__law_spread.kp (bd__law_spread G) pass0 (fa_cons (fe_nm 3) fa_nil)))) fss_nil))))) fss_nil) (fss_cons (fs_setIx 0 fe_int (fe_op op_addA of_add (fe_ixN 0 fe_int) fe_int)) (fss_cons (fs_if (ft_cmp (op_leA) of_le (fe_ixN 0 fe_int) fe_int) (fss_cons (fs_set 4 sc__law_draw.nd (fe_op op_modN of_mod (fe_callTy call_int1 cf_int1 rfl G.g_int (by decide +kernel) (fa_cons (fe_op op_addA of_add (fe_op op_addA of_add (fe_op op_mulA of_mul (fe_ixN 0 fe_int) fe_int) (fe_op op_mulA of_mul (fe_ixN 0 fe_int) fe_int)) fe_int) fa_nil)) fe_int)) (fss_cons (fs_set 4 sc__law_draw.nd (fe_op op_modN of_mod (fe_callTy call_int1 cf_int1 rfl G.g_int (by decide +kernel) (fa_cons (fe_op op_addA of_add (fe_op op_mulA of_mul (fe_nm 4) fe_int) (fe_ixN 0 fe_int)) fa_nil)) fe_int)) (fss_one (fs_ret (fe_op op_modN of_mod (fe_op op_fdivG of_div (fe_nm 4) fe_int) (fe_nm 1)))))) fss_nil) (fss_cons (fs_set 2 sc__law_draw.nd (fe_op op_modN of_mod (fe_callTy call_int1 cf_int1 rfl G.g_int (by decide +kernel) (fa_cons (fe_ixN 0 fe_int) fa_nil)) (fe_nm 1))) (fss_cons (fs_setIx 0 fe_int (fe_op op_fdivG of_div (fe_ixN 0 fe_int) (fe_nm 1))) (fss_one (fs_ret (fe_nm 2))))))))
theorem sc__law_common : FnScope ["a", "b", "k", "rest"] ["a", "b"] (defScope (topS 51)) := ⟨rfl, rfl, rfl, by decide +kernel, rfl, by decide +kernel, by decide +kernel⟩
theorem bd__law_common : Binds K G.d__law_common ["a", "b"] [] := G.D__law_common.bindsN fun _ _ _ _ _ _ us hl => match us, hl with | [_, _], _ => rfl
def b__law_common : SF := (sSeq (sFor (wRng1 (kE (.int 2000))) (bNm 2) (sSeq (sIf (tB' (bin pEq (nm 1) (kE (.int 0)))) (sRet (nm 0)) sSkip) (sSeq (asg 3 (bin pMod (callF pInt1 (aCons (nm 0) aNil)) (nm 1))) (sSeq (asg 0 (nm 1)) (asg 1 (nm 3)))))) (sRet (nm 0)))
def p__law_common : List PV → Option PV := runP 4 2 b__law_common
theorem ok__law_common (TB : ∀ p ∈ G.cs, GxR.TabB base mg p.1 p.2) : FnOk P w K mg base CX0 1 G.a__law_common G.d__law_common ["a", "b"] (spP G.T K p__law_common) := fd_pureC G.D__law_common sc__law_common rfl rfl fun cdv A outer s H E hc hr => by
  have hu := hr.units
  have hu5 := hu65 hr
  exact (fss_cons (fs_for (PassesOwn.never) rfl (fi_rng1 rfl G.g_range fe_int) (fb_nm 2 sc__law_common.nd) (fss_cons (fs_if (ft_cmp (op_eqA hu) of_eq (fe_nm 1) fe_int) (fss_one (fs_ret (fe_nm 0))) fss_nil) (fss_cons (fs_set 3 sc__law_common.nd (fe_op op_modN of_mod (fe_callTy call_int1 cf_int1 rfl G.g_int (by decide +kernel) (fa_cons (fe_nm 0) fa_nil)) (fe_nm 1))) (fss_cons (fs_set 0 sc__law_common.nd (fe_nm 1)) (fss_one (fs_set 1 sc__law_common.nd (fe_nm 3))))))) (fss_one (fs_ret (fe_nm 0))))
theorem sc__law_abs : FnScope ["a"] ["a"] (defScope (topS 52)) := ⟨rfl, rfl, rfl, by decide +kernel, rfl, by decide +kernel, by decide +kernel⟩
theorem bd__law_abs : Binds K G.d__law_abs ["a"] [] := G.D__law_abs.bindsN fun _ _ _ _ _ _ us hl => match us, hl with | [_], _ => rfl
def b__law_abs : SF := (sRet (eIf (tB' (bin pGe (nm 0) (kE (.int 0)))) (nm 0) (bin pSub (kE (.int 0)) (nm 0))))
def p__law_abs : List PV → Option PV := runP 1 1 b__law_abs
theorem ok__law_abs (TB : ∀ p ∈ G.cs, GxR.TabB base mg p.1 p.2) : FnOk P w K mg base CX0 1 G.a__law_abs G.d__law_abs ["a"] (spP G.T K p__law_abs) := fd_pureC G.D__law_abs sc__law_abs rfl rfl fun cdv A outer s H E hc hr => by
  have hu := hr.units
  have hu5 := hu65 hr
  exact (fss_one (fs_ret (fe_if (ft_cmp (op_geA) of_ge (fe_nm 0) fe_int) (fe_nm 0) (fe_op op_sub of_sub fe_int (fe_nm 0)))))
theorem sc_law : FnScope ["script", "pool", "path", "a", "b", "c", "root", "square", "n", "known", "s", "t", "one", "made", "unit", "parts", "k", "prime", "e", "p"] ["script"] (defScope (topS 53)) := ⟨rfl, rfl, rfl, by decide +kernel, rfl, by decide +kernel, by decide +kernel⟩
theorem bd_law : Binds K G.d_law ["script"] [] := G.D_law.bindsN fun _ _ _ _ _ _ us hl => match us, hl with | [_], _ => rfl
def b_law : SF := (sSeq (asgO 1 (callF p__law_pool (aCons (nm 0) aNil))) (sSeq (asg 2 (eJoin (kE (.str "")) (eLc [16] (wRng1 (callIO 1 p__law_draw (aCons (kE (.int 6)) aNil))) (bNm 16) tYs (bin pIx (kE (.str "umd")) (callIO 1 p__law_draw (aCons (kE (.int 3)) aNil)))))) (sSeq (asgB (bTup 3 (bCons (bNm 3) (bCons (bNm 4) (bCons (bNm 5) bNil)))) (callF p_triple_at (aCons (nm 2) aNil))) (sSeq (sIf (tOr' (tNt (tTr (callF p_check_nought (aCons (eTup (aCons (kE (.int 1)) (aCons (kE (.int 1)) (aCons (un pNeg (kE (.int 1))) aNil)))) (aCons (eTup (aCons (kE (.str "nought")) (aCons (eTup (aCons (nm 3) (aCons (nm 4) (aCons (nm 5) aNil)))) aNil))) aNil))))) (tB' (bin pNe (callF p_triple_path (aCons (eTup (aCons (nm 3) (aCons (nm 4) (aCons (nm 5) aNil)))) aNil)) (nm 2)))) (sRet (kE (.bool false))) sSkip) (sSeq (asg 6 (callF p_point_common (aCons (eTup (aCons (nm 3) (aCons (nm 4) aNil))) (aCons (eTup (aCons (nm 5) (aCons (kE (.int 0)) aNil))) aNil)))) (sSeq (asg 7 (callF p_point_product (aCons (nm 6) (aCons (nm 6) aNil)))) (sSeq (sIf (tOr' (tB' (bin pNe (callF p_norm (aCons (nm 6) aNil)) (nm 5))) (tB' (bin (pInT not) (callF p_plain_point (aCons (nm 7) aNil)) (eTup (aCons (callF p_plain_point (aCons (eTup (aCons (nm 3) (aCons (nm 4) aNil))) aNil)) (aCons (callF p_plain_point (aCons (eTup (aCons (nm 3) (aCons (bin pSub (kE (.int 0)) (nm 4)) aNil))) aNil)) aNil)))))) (sRet (kE (.bool false))) sSkip) (sSeq (sIf (tAn (tB' (bin pLt (nm 5) (bin pPow (kE (.int 10)) (kE (.int 6))))) (tOr' (tB' (bin pNe (bin pIx (callF p_two_paper (aCons (nm 5) aNil)) (kE (.int 0))) (kE (.str "squares")))) (tB' (bin pGt (callF pLen (aCons (eLc [19, 18] (wSeq (callF p_parts_of (aCons (nm 5) aNil))) (bTup 2 (bCons (bNm 19) (bCons (bNm 18) bNil))) (tB' (bin pNe (bin pMod (nm 19) (kE (.int 4))) (kE (.int 1)))) (nm 19)) aNil)) (kE (.int 0)))))) (sRet (kE (.bool false))) sSkip) (sSeq (sIf (tB' (bin pLt (nm 5) (kE (.int 900)))) (sSeq (asgB (bTup 2 (bCons (bNm 14) (bCons (bNm 15) bNil))) (callF p_point_parts (aCons (eTup (aCons (nm 3) (aCons (nm 4) aNil))) aNil))) (sIf (tB' (bin pGt (callF pLen (aCons (eLc [17, 18] (wSeq (nm 15)) (bTup 2 (bCons (bNm 17) (bCons (bNm 18) bNil))) (tB' (bin pNe (bin pMod (nm 18) (kE (.int 2))) (kE (.int 0)))) (nm 18)) aNil)) (kE (.int 0)))) (sRet (kE (.bool false))) sSkip)) sSkip) (sSeq (asg 8 (bin pAdd (kE (.int 5)) (callIO 1 p__law_draw (aCons (kE (.int 200)) aNil)))) (sSeq (asg 9 (callF p_triples_up_to (aCons (nm 8) aNil))) (sSeq (sIf (tOr' (tB' (bin pNe (callF pLenSet (aCons (eLc [12] (wSeq (nm 9)) (bNm 12) tYs (callF p_triple_path (aCons (nm 12) aNil))) aNil)) (lenN 9))) (tB' (bin pGt (callF pLen (aCons (eLc [12] (wSeq (nm 9)) (bNm 12) (tNt (tTr (callF p_is_triple (aCons (nm 12) aNil)))) (nm 12)) aNil)) (kE (.int 0))))) (sRet (kE (.bool false))) sSkip) (sSeq (asg2 10 11 (aCons (bin pAdd (kE (.int 2)) (callIO 1 p__law_draw (aCons (kE (.int 9)) aNil))) (aCons (bin pAdd (kE (.int 1)) (callIO 1 p__law_draw (aCons (kE (.int 9)) aNil))) aNil))) (sSeq (asg 12 (callF p_point_product (aCons (eTup (aCons (nm 10) (aCons (nm 11) aNil))) (aCons (eTup (aCons (nm 10) (aCons (nm 11) aNil))) aNil)))) (sSeq (asg 13 (eTup (aCons (callF p__law_abs (aCons (ixN' 12 (kE (.int 0))) aNil)) (aCons (ixN' 12 (kE (.int 1))) (aCons (callF p_norm (aCons (eTup (aCons (nm 10) (aCons (nm 11) aNil))) aNil)) aNil))))) (sRet (bin pEq (callF p_is_triple (aCons (nm 13) aNil)) (vAn (bin pEq (callF p__law_common (aCons (nm 10) (aCons (nm 11) aNil))) (kE (.int 1))) (bin pEq (bin pMod (bin pAdd (nm 10) (nm 11)) (kE (.int 2))) (kE (.int 1)))))))))))))))))))))
def p_law : List PV → Option PV := runP 20 1 b_law
theorem ok_law (TB : ∀ p ∈ G.cs, GxR.TabB base mg p.1 p.2) : FnOk P w K mg base CX0 11 G.a_law G.d_law ["script"] (spP G.T K p_law) := fd_pureC G.D_law sc_law rfl rfl fun cdv A outer s H E hc hr => by
  have hu := hr.units
  have hu5 := hu65 hr
  exact (fss_cons (fs_setO 1 sc_law.nd (fn_call (ok__law_pool G TB) (hr.mono (by decide : 1 ≤ 10)) G.m__law_pool G.D__law_pool.kp (bd__law_pool G) pass0 (fa_cons (fe_nm 0) fa_nil))) (fss_cons (fs_set 2 sc_law.nd (fe_join fe_str (FN.fe (fn_lc (own := [("k", 16)]) rfl sc_law.nd (fi_rng1 rfl G.g_range (fe_callIO 1 (ok__law_draw G TB) (hr.mono (by decide : 2 ≤ 10)) G.m__law_draw G.D__law_draw.kp (bd__law_draw G) pass0 (fa_cons fe_int fa_nil))) (blkOk_by (own := [("k", 16)]) (N := ["script", "pool", "path", "a", "b", "c", "root", "square", "n", "known", "s", "t", "one", "made", "unit", "parts", "k", "prime", "e", "p"]) (sc := defScope (topS 53)) (by decide +kernel)) (fun _ _ _ _ _ => (fb_nm 16 sc_law.nd)) (fun _ _ _ _ _ => fts_nil) (fun _ _ _ _ _ => (fe_ix fe_str (fe_callIO 1 (ok__law_draw G TB) (hr.mono (by decide : 2 ≤ 10)) G.m__law_draw G.D__law_draw.kp (bd__law_draw G) pass0 (fa_cons fe_int fa_nil)))))))) (fss_cons (fs_asg (fe_call (ok_triple_at G TB) (hr.mono (by decide : 2 ≤ 10)) G.m_triple_at G.D_triple_at.kp (bd_triple_at G) pass0 (fa_cons (fe_nm 2) fa_nil)) (fb_tup rfl (fbs_cons (fb_nm 3 sc_law.nd) (fbs_cons (fb_nm 4 sc_law.nd) (fbs_cons (fb_nm 5 sc_law.nd) fbs_nil))))) (fss_cons (fs_if (FW.ft (fw_or (ft_not (ft_tru (fe_call (ok_check_nought G TB) (hr.mono (by decide : 10 ≤ 10)) G.m_check_nought G.D_check_nought.kp (bd_check_nought G) pass0 (fa_cons (fe_tup (fa_cons fe_int (fa_cons fe_int (fa_cons (fe_neg fe_int) fa_nil)))) (fa_cons (fe_tup (fa_cons fe_str (fa_cons (fe_tup (fa_cons (fe_nm 3) (fa_cons (fe_nm 4) (fa_cons (fe_nm 5) fa_nil)))) fa_nil))) fa_nil))))) (fw_or1 (ft_cmp (op_neA hu) of_ne (fe_call (ok_triple_path G TB) (hr.mono (by decide : 1 ≤ 10)) G.m_triple_path G.D_triple_path.kp (bd_triple_path G) pass0 (fa_cons (fe_tup (fa_cons (fe_nm 3) (fa_cons (fe_nm 4) (fa_cons (fe_nm 5) fa_nil)))) fa_nil)) (fe_nm 2))))) (fss_one (fs_ret fe_bl)) fss_nil) (fss_cons (fs_set 6 sc_law.nd (fe_call (ok_point_common G TB) (hr.mono (by decide : 3 ≤ 10)) G.m_point_common G.D_point_common.kp (bd_point_common G) pass0 (fa_cons (fe_tup (fa_cons (fe_nm 3) (fa_cons (fe_nm 4) fa_nil))) (fa_cons (fe_tup (fa_cons (fe_nm 5) (fa_cons fe_int fa_nil))) fa_nil)))) (fss_cons (fs_set 7 sc_law.nd (fe_call (ok_point_product G TB) (hr.mono (by decide : 1 ≤ 10)) G.m_point_product G.D_point_product.kp (bd_point_product G) pass0 (fa_cons (fe_nm 6) (fa_cons (fe_nm 6) fa_nil)))) (fss_cons (fs_if (FW.ft (fw_or (ft_cmp (op_neA hu) of_ne (fe_call (ok_norm G TB) (hr.mono (by decide : 1 ≤ 10)) G.m_norm G.D_norm.kp (bd_norm G) pass0 (fa_cons (fe_nm 6) fa_nil)) (fe_nm 5)) (fw_or1 (ft_cmp (op_notInTD hu5) (of_inT not) (fe_call (ok_plain_point G TB) (hr.mono (by decide : 1 ≤ 10)) G.m_plain_point G.D_plain_point.kp (bd_plain_point G) pass0 (fa_cons (fe_nm 7) fa_nil)) (fe_tup (fa_cons (fe_call (ok_plain_point G TB) (hr.mono (by decide : 1 ≤ 10)) G.m_plain_point G.D_plain_point.kp (bd_plain_point G) pass0 (fa_cons (fe_tup (fa_cons (fe_nm 3) (fa_cons (fe_nm 4) fa_nil))) fa_nil)) (fa_cons (fe_call (ok_plain_point G TB) (hr.mono (by decide : 1 ≤ 10)) G.m_plain_point G.D_plain_point.kp (bd_plain_point G) pass0 (fa_cons (fe_tup (fa_cons (fe_nm 3) (fa_cons (fe_op op_sub of_sub fe_int (fe_nm 4)) fa_nil))) fa_nil)) fa_nil))))))) (fss_one (fs_ret fe_bl)) fss_nil) (fss_cons (fs_if (FW.ft (fw_and (ft_cmp (op_ltA) of_lt (fe_nm 5) (fe_op op_pow of_pow fe_int fe_int)) (fw_and1 (FW.ft (fw_or (ft_cmp (op_neA hu) of_ne (fe_ix (fe_call (ok_two_paper G TB) (hr.mono (by decide : 2 ≤ 10)) G.m_two_paper G.D_two_paper.kp (bd_two_paper G) pass0 (fa_cons (fe_nm 5) fa_nil)) fe_int) fe_str) (fw_or1 (ft_cmp (op_gtA) of_gt (fe_callB call_len cf_len rfl G.g_len (by decide +kernel) (fa_cons (FN.fe (fn_lc (own := [("p", 19), ("e", 18)]) rfl sc_law.nd (fi_seq (fe_call (ok_parts_of G TB) (hr.mono (by decide : 1 ≤ 10)) G.m_parts_of G.D_parts_of.kp (bd_parts_of G) pass0 (fa_cons (fe_nm 5) fa_nil))) (blkOk_by (own := [("p", 19), ("e", 18)]) (N := ["script", "pool", "path", "a", "b", "c", "root", "square", "n", "known", "s", "t", "one", "made", "unit", "parts", "k", "prime", "e", "p"]) (sc := defScope (topS 53)) (by decide +kernel)) (fun _ _ _ _ _ => (fb_tup rfl (fbs_cons (fb_nm 19 sc_law.nd) (fbs_cons (fb_nm 18 sc_law.nd) fbs_nil)))) (fun _ _ _ _ _ => (fts_one (ft_cmp (op_neA hu) of_ne (fe_op op_modN of_mod (fe_nm 19) fe_int) fe_int))) (fun _ _ _ _ _ => (fe_nm 19)))) fa_nil)) fe_int))))))) (fss_one (fs_ret fe_bl)) fss_nil) (fss_cons (fs_if (ft_cmp (op_ltA) of_lt (fe_nm 5) fe_int) (fss_cons (fs_asg (fe_call (ok_point_parts G TB) (hr.mono (by decide : 8 ≤ 10)) G.m_point_parts G.D_point_parts.kp (bd_point_parts G) pass0 (fa_cons (fe_tup (fa_cons (fe_nm 3) (fa_cons (fe_nm 4) fa_nil))) fa_nil)) (fb_tup rfl (fbs_cons (fb_nm 14 sc_law.nd) (fbs_cons (fb_nm 15 sc_law.nd) fbs_nil)))) (fss_one (fs_if (ft_cmp (op_gtA) of_gt (fe_callB call_len cf_len rfl G.g_len (by decide +kernel) (fa_cons (FN.fe (fn_lc (own := [("prime", 17), ("e", 18)]) rfl sc_law.nd (fi_seq (fe_nm 15)) (blkOk_by (own := [("prime", 17), ("e", 18)]) (N := ["script", "pool", "path", "a", "b", "c", "root", "square", "n", "known", "s", "t", "one", "made", "unit", "parts", "k", "prime", "e", "p"]) (sc := defScope (topS 53)) (by decide +kernel)) (fun _ _ _ _ _ => (fb_tup rfl (fbs_cons (fb_nm 17 sc_law.nd) (fbs_cons (fb_nm 18 sc_law.nd) fbs_nil)))) (fun _ _ _ _ _ => (fts_one (ft_cmp (op_neA hu) of_ne (fe_op op_modN of_mod (fe_nm 18) fe_int) fe_int))) (fun _ _ _ _ _ => (fe_nm 18)))) fa_nil)) fe_int) (fss_one (fs_ret fe_bl)) fss_nil))) fss_nil) (fss_cons (fs_set 8 sc_law.nd (fe_op op_addA of_add fe_int (fe_callIO 1 (ok__law_draw G TB) (hr.mono (by decide : 2 ≤ 10)) G.m__law_draw G.D__law_draw.kp (bd__law_draw G) pass0 (fa_cons fe_int fa_nil)))) (fss_cons (fs_set 9 sc_law.nd (fe_call (ok_triples_up_to G TB) (hr.mono (by decide : 2 ≤ 10)) G.m_triples_up_to G.D_triples_up_to.kp (bd_triples_up_to G) pass0 (fa_cons (fe_nm 8) fa_nil))) (fss_cons (fs_if (FW.ft (fw_or (ft_cmp (op_neA hu) of_ne (fe_lenSet rfl G.g_len G.g_set (FN.fe (fn_lc (own := [("one", 12)]) rfl sc_law.nd (fi_seq (fe_nm 9)) (blkOk_by (own := [("one", 12)]) (N := ["script", "pool", "path", "a", "b", "c", "root", "square", "n", "known", "s", "t", "one", "made", "unit", "parts", "k", "prime", "e", "p"]) (sc := defScope (topS 53)) (by decide +kernel)) (fun _ _ _ _ _ => (fb_nm 12 sc_law.nd)) (fun _ _ _ _ _ => fts_nil) (fun _ _ _ _ _ => (fe_call (ok_triple_path G TB) (hr.mono (by decide : 1 ≤ 10)) G.m_triple_path G.D_triple_path.kp (bd_triple_path G) pass0 (fa_cons (fe_nm 12) fa_nil)))))) (fe_lenN 9 rfl G.g_len)) (fw_or1 (ft_cmp (op_gtA) of_gt (fe_callB call_len cf_len rfl G.g_len (by decide +kernel) (fa_cons (FN.fe (fn_lc (own := [("one", 12)]) rfl sc_law.nd (fi_seq (fe_nm 9)) (blkOk_by (own := [("one", 12)]) (N := ["script", "pool", "path", "a", "b", "c", "root", "square", "n", "known", "s", "t", "one", "made", "unit", "parts", "k", "prime", "e", "p"]) (sc := defScope (topS 53)) (by decide +kernel)) (fun _ _ _ _ _ => (fb_nm 12 sc_law.nd)) (fun _ _ _ _ _ => (fts_one (ft_not (ft_tru (fe_call (ok_is_triple G TB) (hr.mono (by decide : 10 ≤ 10)) G.m_is_triple G.D_is_triple.kp (bd_is_triple G) pass0 (fa_cons (fe_nm 12) fa_nil)))))) (fun _ _ _ _ _ => (fe_nm 12)))) fa_nil)) fe_int)))) (fss_one (fs_ret fe_bl)) fss_nil) (fss_cons (fs_par 10 11 sc_law.nd (fa_cons (fe_op op_addA of_add fe_int (fe_callIO 1 (ok__law_draw G TB) (hr.mono (by decide : 2 ≤ 10)) G.m__law_draw G.D__law_draw.kp (bd__law_draw G) pass0 (fa_cons fe_int fa_nil))) (fa_cons (fe_op op_addA of_add fe_int (fe_callIO 1 (ok__law_draw G TB) (hr.mono (by decide : 2 ≤ 10)) G.m__law_draw G.D__law_draw.kp (bd__law_draw G) pass0 (fa_cons fe_int fa_nil))) fa_nil))) (fss_cons (fs_set 12 sc_law.nd (fe_call (ok_point_product G TB) (hr.mono (by decide : 1 ≤ 10)) G.m_point_product G.D_point_product.kp (bd_point_product G) pass0 (fa_cons (fe_tup (fa_cons (fe_nm 10) (fa_cons (fe_nm 11) fa_nil))) (fa_cons (fe_tup (fa_cons (fe_nm 10) (fa_cons (fe_nm 11) fa_nil))) fa_nil)))) (fss_cons (fs_set 13 sc_law.nd (fe_tup (fa_cons (fe_call (ok__law_abs G TB) (hr.mono (by decide : 1 ≤ 10)) G.m__law_abs G.D__law_abs.kp (bd__law_abs G) pass0 (fa_cons (fe_ixN 12 fe_int) fa_nil)) (fa_cons (fe_ixN 12 fe_int) (fa_cons (fe_call (ok_norm G TB) (hr.mono (by decide : 1 ≤ 10)) G.m_norm G.D_norm.kp (bd_norm G) pass0 (fa_cons (fe_tup (fa_cons (fe_nm 10) (fa_cons (fe_nm 11) fa_nil))) fa_nil)) fa_nil))))) (fss_one (fs_ret (fe_cmp (op_eqA hu) of_eq (fe_call (ok_is_triple G TB) (hr.mono (by decide : 10 ≤ 10)) G.m_is_triple G.D_is_triple.kp (bd_is_triple G) pass0 (fa_cons (fe_nm 13) fa_nil)) (fe_and (fe_cmp (op_eqA hu) of_eq (fe_call (ok__law_common G TB) (hr.mono (by decide : 1 ≤ 10)) G.m__law_common G.D__law_common.kp (bd__law_common G) pass0 (fa_cons (fe_nm 10) (fa_cons (fe_nm 11) fa_nil))) fe_int) (fe_one (fe_cmp (op_eqA hu) of_eq (fe_op op_modN of_mod (fe_op op_addA of_add (fe_nm 10) (fe_nm 11)) fe_int) fe_int)))))))))))))))))))))
end
def dd_is_integer : He.DefD := ⟨("is_integer", none), "is_integer", "is_integer", defArgs (topS 2), defBody (topS 2), defScope (topS 2), [], []⟩
def dd_is_within : He.DefD := ⟨("is_within", none), "is_within", "is_within", defArgs (topS 3), defBody (topS 3), defScope (topS 3), [], []⟩
def dd_is_row : He.DefD := ⟨("is_row", none), "is_row", "is_row", defArgs (topS 4), defBody (topS 4), defScope (topS 4), [], []⟩
def dd_is_worded : He.DefD := ⟨("is_worded", none), "is_worded", "is_worded", defArgs (topS 5), defBody (topS 5), defScope (topS 5), [], []⟩
def dd_common : He.DefD := ⟨("common", none), "common", "common", defArgs (topS 7), defBody (topS 7), defScope (topS 7), [], []⟩
def dd_is_triple : He.DefD := ⟨("is_triple", none), "is_triple", "is_triple", defArgs (topS 11), defBody (topS 11), defScope (topS 11), [], []⟩
def dd_led_by : He.DefD := ⟨("led_by", none), "led_by", "led_by", defArgs (topS 12), defBody (topS 12), defScope (topS 12), [], []⟩
def dd_triple_at : He.DefD := ⟨("triple_at", none), "triple_at", "triple_at", defArgs (topS 13), defBody (topS 13), defScope (topS 13), [], []⟩
def dd_triple_path : He.DefD := ⟨("triple_path", none), "triple_path", "triple_path", defArgs (topS 14), defBody (topS 14), defScope (topS 14), [], []⟩
def dd_triples_up_to : He.DefD := ⟨("triples_up_to", none), "triples_up_to", "triples_up_to", defArgs (topS 15), defBody (topS 15), defScope (topS 15), [], []⟩
def dd_parts_of : He.DefD := ⟨("parts_of", none), "parts_of", "parts_of", defArgs (topS 17), defBody (topS 17), defScope (topS 17), [], []⟩
def dd_least_part : He.DefD := ⟨("least_part", none), "least_part", "least_part", defArgs (topS 19), defBody (topS 19), defScope (topS 19), [], []⟩
def dd_is_prime : He.DefD := ⟨("is_prime", none), "is_prime", "is_prime", defArgs (topS 20), defBody (topS 20), defScope (topS 20), [], []⟩
def dd_symbol : He.DefD := ⟨("symbol", none), "symbol", "symbol", defArgs (topS 22), defBody (topS 22), defScope (topS 22), [], []⟩
def dd_split : He.DefD := ⟨("split", none), "split", "split", defArgs (topS 24), defBody (topS 24), defScope (topS 24), [], []⟩
def dd_mark : He.DefD := ⟨("mark", none), "mark", "mark", defArgs (topS 25), defBody (topS 25), defScope (topS 25), [], []⟩
def dd_is_square_at : He.DefD := ⟨("is_square_at", none), "is_square_at", "is_square_at", defArgs (topS 26), defBody (topS 26), defScope (topS 26), [], []⟩
def dd_product_of : He.DefD := ⟨("product_of", none), "product_of", "product_of", defArgs (topS 27), defBody (topS 27), defScope (topS 27), [], []⟩
def dd_can_be : He.DefD := ⟨("can_be", none), "can_be", "can_be", defArgs (topS 28), defBody (topS 28), defScope (topS 28), [], []⟩
def dd_are_alike_in_sign : He.DefD := ⟨("are_alike_in_sign", none), "are_alike_in_sign", "are_alike_in_sign", defArgs (topS 31), defBody (topS 31), defScope (topS 31), [], []⟩
def dd_check_nought : He.DefD := ⟨("check_nought", none), "check_nought", "check_nought", defArgs (topS 32), defBody (topS 32), defScope (topS 32), [], []⟩
def dd_point_product : He.DefD := ⟨("point_product", none), "point_product", "point_product", defArgs (topS 34), defBody (topS 34), defScope (topS 34), [], []⟩
def dd_norm : He.DefD := ⟨("norm", none), "norm", "norm", defArgs (topS 35), defBody (topS 35), defScope (topS 35), [], []⟩
def dd_near : He.DefD := ⟨("near", none), "near", "near", defArgs (topS 36), defBody (topS 36), defScope (topS 36), [], []⟩
def dd_divided : He.DefD := ⟨("divided", none), "divided", "divided", defArgs (topS 37), defBody (topS 37), defScope (topS 37), [], []⟩
def dd_plain_point : He.DefD := ⟨("plain_point", none), "plain_point", "plain_point", defArgs (topS 38), defBody (topS 38), defScope (topS 38), [], []⟩
def dd_point_common : He.DefD := ⟨("point_common", none), "point_common", "point_common", defArgs (topS 39), defBody (topS 39), defScope (topS 39), [], []⟩
def dd_two_squares : He.DefD := ⟨("two_squares", none), "two_squares", "two_squares", defArgs (topS 41), defBody (topS 41), defScope (topS 41), [], []⟩
def dd_two_paper : He.DefD := ⟨("two_paper", none), "two_paper", "two_paper", defArgs (topS 42), defBody (topS 42), defScope (topS 42), [], []⟩
def dd_primes_over : He.DefD := ⟨("primes_over", none), "primes_over", "primes_over", defArgs (topS 44), defBody (topS 44), defScope (topS 44), [], []⟩
def dd_dividing_prime : He.DefD := ⟨("dividing_prime", none), "dividing_prime", "dividing_prime", defArgs (topS 45), defBody (topS 45), defScope (topS 45), [], []⟩
def dd_point_parts : He.DefD := ⟨("point_parts", none), "point_parts", "point_parts", defArgs (topS 46), defBody (topS 46), defScope (topS 46), [], []⟩
def dd__law_pool : He.DefD := ⟨("_law_pool", none), "_law_pool", "_law_pool", defArgs (topS 48), defBody (topS 48), defScope (topS 48), [], []⟩
def dd__law_spread : He.DefD := ⟨("_law_spread", none), "_law_spread", "_law_spread", defArgs (topS 49), defBody (topS 49), defScope (topS 49), [], []⟩
def dd__law_draw : He.DefD := ⟨("_law_draw", none), "_law_draw", "_law_draw", defArgs (topS 50), defBody (topS 50), defScope (topS 50), [], []⟩
def dd__law_common : He.DefD := ⟨("_law_common", none), "_law_common", "_law_common", defArgs (topS 51), defBody (topS 51), defScope (topS 51), [], []⟩
def dd__law_abs : He.DefD := ⟨("_law_abs", none), "_law_abs", "_law_abs", defArgs (topS 52), defBody (topS 52), defScope (topS 52), [], []⟩
def dd_law : He.DefD := ⟨("law", none), "law", "law", defArgs (topS 53), defBody (topS 53), defScope (topS 53), [], []⟩
def fn : List He.DefD := [dd_is_integer, dd_is_within, dd_is_row, dd_is_worded, dd_common, dd_is_triple, dd_led_by, dd_triple_at, dd_triple_path, dd_triples_up_to, dd_parts_of, dd_least_part, dd_is_prime, dd_symbol, dd_split, dd_mark, dd_is_square_at, dd_product_of, dd_can_be, dd_are_alike_in_sign, dd_check_nought, dd_point_product, dd_norm, dd_near, dd_divided, dd_plain_point, dd_point_common, dd_two_squares, dd_two_paper, dd_primes_over, dd_dividing_prime, dd_point_parts, dd__law_pool, dd__law_spread, dd__law_draw, dd__law_common, dd__law_abs, dd_law]
def fa : List He.Fa := [.glo "is_integer", .glo "is_within", .glo "is_row", .glo "is_worded", .glo "common", .glo "is_triple", .glo "led_by", .glo "triple_at", .glo "triple_path", .glo "triples_up_to", .glo "parts_of", .glo "least_part", .glo "is_prime", .glo "symbol", .glo "split", .glo "mark", .glo "is_square_at", .glo "product_of", .glo "can_be", .glo "are_alike_in_sign", .glo "check_nought", .glo "point_product", .glo "norm", .glo "near", .glo "divided", .glo "plain_point", .glo "point_common", .glo "two_squares", .glo "two_paper", .glo "primes_over", .glo "dividing_prime", .glo "point_parts", .glo "_law_pool", .glo "_law_spread", .glo "_law_draw", .glo "_law_common", .glo "_law_abs", .glo "law", .free "abs", .free "all", .free "bool", .free "enumerate", .free "int", .free "isinstance", .free "len", .free "list", .free "max", .free "min", .free "range", .free "reversed", .free "set", .free "sorted", .free "str", .free "sum", .free "tuple", .free "zip", .int "GREATEST_PRIME" (100)]
def bl : List (Str × String) := [("gcd", "math.gcd"), ("isqrt", "math.isqrt")]
def tu : List (Str × List PV) := [("FIRST", [.int 3, .int 4, .int 5]), ("LETTERS", [.str "u", .str "m", .str "d"])]
abbrev R : PySem.W.OpenRow := PySem.W.OpenLaw.row PySem.Challenge.rw_numberwright_k64_whole_triples_across
abbrev hk : PySem.W.Hook := hookZ 4 bl tu fa fn tf
def ob (s : PySem.W.SharedT) : He.AlX := He.obsX 4 fa fn [] tf (blZ bl tu) (HandSHeadRun.getT s)
theorem ob_eq (s : PySem.W.SharedT) : ob s = hk.obs s.abs := He.obsX_eq (HandSHeadRun.getT_eq s)
theorem gx {K : PySem.W.Frag} {h : Heap} {mg : Str → Option Value} (X : K.In h) (G : h.Ns mainGlobals mg) (c : He.SaysD fa fn K) (cz : blZ bl tu K = true) : Nonempty (Gx K mg) := by
  obtain ⟨f0, F0⟩ := c.def_ 0 (d := dd_is_integer) rfl
  obtain ⟨f1, F1⟩ := c.def_ 1 (d := dd_is_within) rfl
  obtain ⟨f2, F2⟩ := c.def_ 2 (d := dd_is_row) rfl
  obtain ⟨f3, F3⟩ := c.def_ 3 (d := dd_is_worded) rfl
  obtain ⟨f4, F4⟩ := c.def_ 4 (d := dd_common) rfl
  obtain ⟨f5, F5⟩ := c.def_ 5 (d := dd_is_triple) rfl
  obtain ⟨f6, F6⟩ := c.def_ 6 (d := dd_led_by) rfl
  obtain ⟨f7, F7⟩ := c.def_ 7 (d := dd_triple_at) rfl
  obtain ⟨f8, F8⟩ := c.def_ 8 (d := dd_triple_path) rfl
  obtain ⟨f9, F9⟩ := c.def_ 9 (d := dd_triples_up_to) rfl
  obtain ⟨f10, F10⟩ := c.def_ 10 (d := dd_parts_of) rfl
  obtain ⟨f11, F11⟩ := c.def_ 11 (d := dd_least_part) rfl
  obtain ⟨f12, F12⟩ := c.def_ 12 (d := dd_is_prime) rfl
  obtain ⟨f13, F13⟩ := c.def_ 13 (d := dd_symbol) rfl
  obtain ⟨f14, F14⟩ := c.def_ 14 (d := dd_split) rfl
  obtain ⟨f15, F15⟩ := c.def_ 15 (d := dd_mark) rfl
  obtain ⟨f16, F16⟩ := c.def_ 16 (d := dd_is_square_at) rfl
  obtain ⟨f17, F17⟩ := c.def_ 17 (d := dd_product_of) rfl
  obtain ⟨f18, F18⟩ := c.def_ 18 (d := dd_can_be) rfl
  obtain ⟨f19, F19⟩ := c.def_ 19 (d := dd_are_alike_in_sign) rfl
  obtain ⟨f20, F20⟩ := c.def_ 20 (d := dd_check_nought) rfl
  obtain ⟨f21, F21⟩ := c.def_ 21 (d := dd_point_product) rfl
  obtain ⟨f22, F22⟩ := c.def_ 22 (d := dd_norm) rfl
  obtain ⟨f23, F23⟩ := c.def_ 23 (d := dd_near) rfl
  obtain ⟨f24, F24⟩ := c.def_ 24 (d := dd_divided) rfl
  obtain ⟨f25, F25⟩ := c.def_ 25 (d := dd_plain_point) rfl
  obtain ⟨f26, F26⟩ := c.def_ 26 (d := dd_point_common) rfl
  obtain ⟨f27, F27⟩ := c.def_ 27 (d := dd_two_squares) rfl
  obtain ⟨f28, F28⟩ := c.def_ 28 (d := dd_two_paper) rfl
  obtain ⟨f29, F29⟩ := c.def_ 29 (d := dd_primes_over) rfl
  obtain ⟨f30, F30⟩ := c.def_ 30 (d := dd_dividing_prime) rfl
  obtain ⟨f31, F31⟩ := c.def_ 31 (d := dd_point_parts) rfl
  obtain ⟨f32, F32⟩ := c.def_ 32 (d := dd__law_pool) rfl
  obtain ⟨f33, F33⟩ := c.def_ 33 (d := dd__law_spread) rfl
  obtain ⟨f34, F34⟩ := c.def_ 34 (d := dd__law_draw) rfl
  obtain ⟨f35, F35⟩ := c.def_ 35 (d := dd__law_common) rfl
  obtain ⟨f36, F36⟩ := c.def_ 36 (d := dd__law_abs) rfl
  obtain ⟨f37, F37⟩ := c.def_ 37 (d := dd_law) rfl
  obtain ⟨t_GREATEST_PRIME, h_GREATEST_PRIME⟩ := He.int_ok X G (c.fact 56 (f := .int "GREATEST_PRIME" (100)) rfl)
  have cb := blZ_bl cz
  obtain ⟨r_FIRST, g_FIRST, u_FIRST⟩ := blZ_tu cz X G 0 (x := "FIRST") (ds := [.int 3, .int 4, .int 5]) rfl
  obtain ⟨r_LETTERS, g_LETTERS, u_LETTERS⟩ := blZ_tu cz X G 1 (x := "LETTERS") (ds := [.str "u", .str "m", .str "d"]) rfl
  exact ⟨{
    a_is_integer := _, d_is_integer := f0, D_is_integer := F0, m_is_integer := He.glo_ok X G (c.fact 0 (f := .glo "is_integer") rfl),
    a_is_within := _, d_is_within := f1, D_is_within := F1, m_is_within := He.glo_ok X G (c.fact 1 (f := .glo "is_within") rfl),
    a_is_row := _, d_is_row := f2, D_is_row := F2, m_is_row := He.glo_ok X G (c.fact 2 (f := .glo "is_row") rfl),
    a_is_worded := _, d_is_worded := f3, D_is_worded := F3, m_is_worded := He.glo_ok X G (c.fact 3 (f := .glo "is_worded") rfl),
    a_common := _, d_common := f4, D_common := F4, m_common := He.glo_ok X G (c.fact 4 (f := .glo "common") rfl),
    a_is_triple := _, d_is_triple := f5, D_is_triple := F5, m_is_triple := He.glo_ok X G (c.fact 5 (f := .glo "is_triple") rfl),
    a_led_by := _, d_led_by := f6, D_led_by := F6, m_led_by := He.glo_ok X G (c.fact 6 (f := .glo "led_by") rfl),
    a_triple_at := _, d_triple_at := f7, D_triple_at := F7, m_triple_at := He.glo_ok X G (c.fact 7 (f := .glo "triple_at") rfl),
    a_triple_path := _, d_triple_path := f8, D_triple_path := F8, m_triple_path := He.glo_ok X G (c.fact 8 (f := .glo "triple_path") rfl),
    a_triples_up_to := _, d_triples_up_to := f9, D_triples_up_to := F9, m_triples_up_to := He.glo_ok X G (c.fact 9 (f := .glo "triples_up_to") rfl),
    a_parts_of := _, d_parts_of := f10, D_parts_of := F10, m_parts_of := He.glo_ok X G (c.fact 10 (f := .glo "parts_of") rfl),
    a_least_part := _, d_least_part := f11, D_least_part := F11, m_least_part := He.glo_ok X G (c.fact 11 (f := .glo "least_part") rfl),
    a_is_prime := _, d_is_prime := f12, D_is_prime := F12, m_is_prime := He.glo_ok X G (c.fact 12 (f := .glo "is_prime") rfl),
    a_symbol := _, d_symbol := f13, D_symbol := F13, m_symbol := He.glo_ok X G (c.fact 13 (f := .glo "symbol") rfl),
    a_split := _, d_split := f14, D_split := F14, m_split := He.glo_ok X G (c.fact 14 (f := .glo "split") rfl),
    a_mark := _, d_mark := f15, D_mark := F15, m_mark := He.glo_ok X G (c.fact 15 (f := .glo "mark") rfl),
    a_is_square_at := _, d_is_square_at := f16, D_is_square_at := F16, m_is_square_at := He.glo_ok X G (c.fact 16 (f := .glo "is_square_at") rfl),
    a_product_of := _, d_product_of := f17, D_product_of := F17, m_product_of := He.glo_ok X G (c.fact 17 (f := .glo "product_of") rfl),
    a_can_be := _, d_can_be := f18, D_can_be := F18, m_can_be := He.glo_ok X G (c.fact 18 (f := .glo "can_be") rfl),
    a_are_alike_in_sign := _, d_are_alike_in_sign := f19, D_are_alike_in_sign := F19, m_are_alike_in_sign := He.glo_ok X G (c.fact 19 (f := .glo "are_alike_in_sign") rfl),
    a_check_nought := _, d_check_nought := f20, D_check_nought := F20, m_check_nought := He.glo_ok X G (c.fact 20 (f := .glo "check_nought") rfl),
    a_point_product := _, d_point_product := f21, D_point_product := F21, m_point_product := He.glo_ok X G (c.fact 21 (f := .glo "point_product") rfl),
    a_norm := _, d_norm := f22, D_norm := F22, m_norm := He.glo_ok X G (c.fact 22 (f := .glo "norm") rfl),
    a_near := _, d_near := f23, D_near := F23, m_near := He.glo_ok X G (c.fact 23 (f := .glo "near") rfl),
    a_divided := _, d_divided := f24, D_divided := F24, m_divided := He.glo_ok X G (c.fact 24 (f := .glo "divided") rfl),
    a_plain_point := _, d_plain_point := f25, D_plain_point := F25, m_plain_point := He.glo_ok X G (c.fact 25 (f := .glo "plain_point") rfl),
    a_point_common := _, d_point_common := f26, D_point_common := F26, m_point_common := He.glo_ok X G (c.fact 26 (f := .glo "point_common") rfl),
    a_two_squares := _, d_two_squares := f27, D_two_squares := F27, m_two_squares := He.glo_ok X G (c.fact 27 (f := .glo "two_squares") rfl),
    a_two_paper := _, d_two_paper := f28, D_two_paper := F28, m_two_paper := He.glo_ok X G (c.fact 28 (f := .glo "two_paper") rfl),
    a_primes_over := _, d_primes_over := f29, D_primes_over := F29, m_primes_over := He.glo_ok X G (c.fact 29 (f := .glo "primes_over") rfl),
    a_dividing_prime := _, d_dividing_prime := f30, D_dividing_prime := F30, m_dividing_prime := He.glo_ok X G (c.fact 30 (f := .glo "dividing_prime") rfl),
    a_point_parts := _, d_point_parts := f31, D_point_parts := F31, m_point_parts := He.glo_ok X G (c.fact 31 (f := .glo "point_parts") rfl),
    a__law_pool := _, d__law_pool := f32, D__law_pool := F32, m__law_pool := He.glo_ok X G (c.fact 32 (f := .glo "_law_pool") rfl),
    a__law_spread := _, d__law_spread := f33, D__law_spread := F33, m__law_spread := He.glo_ok X G (c.fact 33 (f := .glo "_law_spread") rfl),
    a__law_draw := _, d__law_draw := f34, D__law_draw := F34, m__law_draw := He.glo_ok X G (c.fact 34 (f := .glo "_law_draw") rfl),
    a__law_common := _, d__law_common := f35, D__law_common := F35, m__law_common := He.glo_ok X G (c.fact 35 (f := .glo "_law_common") rfl),
    a__law_abs := _, d__law_abs := f36, D__law_abs := F36, m__law_abs := He.glo_ok X G (c.fact 36 (f := .glo "_law_abs") rfl),
    a_law := _, d_law := f37, D_law := F37, m_law := He.glo_ok X G (c.fact 37 (f := .glo "law") rfl),
    g_abs := He.free_ok X G (c.fact 38 (f := .free "abs") rfl),
    g_all := He.free_ok X G (c.fact 39 (f := .free "all") rfl),
    g_bool := He.free_ok X G (c.fact 40 (f := .free "bool") rfl),
    g_enumerate := He.free_ok X G (c.fact 41 (f := .free "enumerate") rfl),
    g_int := He.free_ok X G (c.fact 42 (f := .free "int") rfl),
    g_isinstance := He.free_ok X G (c.fact 43 (f := .free "isinstance") rfl),
    g_len := He.free_ok X G (c.fact 44 (f := .free "len") rfl),
    g_list := He.free_ok X G (c.fact 45 (f := .free "list") rfl),
    g_max := He.free_ok X G (c.fact 46 (f := .free "max") rfl),
    g_min := He.free_ok X G (c.fact 47 (f := .free "min") rfl),
    g_range := He.free_ok X G (c.fact 48 (f := .free "range") rfl),
    g_reversed := He.free_ok X G (c.fact 49 (f := .free "reversed") rfl),
    g_set := He.free_ok X G (c.fact 50 (f := .free "set") rfl),
    g_sorted := He.free_ok X G (c.fact 51 (f := .free "sorted") rfl),
    g_str := He.free_ok X G (c.fact 52 (f := .free "str") rfl),
    g_sum := He.free_ok X G (c.fact 53 (f := .free "sum") rfl),
    g_tuple := He.free_ok X G (c.fact 54 (f := .free "tuple") rfl),
    g_zip := He.free_ok X G (c.fact 55 (f := .free "zip") rfl),
    t_GREATEST_PRIME := t_GREATEST_PRIME, g_GREATEST_PRIME := h_GREATEST_PRIME,
    r_FIRST := r_FIRST, g_FIRST := g_FIRST, u_FIRST := u_FIRST,
    r_LETTERS := r_LETTERS, g_LETTERS := g_LETTERS, u_LETTERS := u_LETTERS,
    g_gcd := blX_ok cb X G 0 (b := ("gcd", "math.gcd")) rfl,
    g_isqrt := blX_ok cb X G 1 (b := ("isqrt", "math.isqrt")) rfl,
    c_is_row := _, P_is_row := (He.cT K ("is_row", none)).2, C_is_row := L2.FunD.code (d := dd_is_row) (p := ("is_row", none)) F2,
    c_check_nought := _, P_check_nought := (He.cT K ("check_nought", none)).2, C_check_nought := L2.FunD.code (d := dd_check_nought) (p := ("check_nought", none)) F20,
    c_point_parts := _, P_point_parts := (He.cT K ("point_parts", none)).2, C_point_parts := L2.FunD.code (d := dd_point_parts) (p := ("point_parts", none)) F31,
    cse := rfl }⟩
def loose0 : List Str := ["gcd", "isqrt", "__name__", "is_integer", "is_within", "is_row", "is_worded", "common", "FIRST", "LETTERS", "is_triple", "led_by", "triple_at", "triple_path", "triples_up_to", "parts_of", "least_part", "is_prime", "symbol", "split", "mark", "is_square_at", "product_of", "can_be", "GREATEST_PRIME", "are_alike_in_sign", "check_nought", "point_product"]
def loose1 : List Str := ["norm", "near", "divided", "plain_point", "point_common", "two_squares", "two_paper", "primes_over", "dividing_prime", "point_parts", "_law_pool", "_law_spread", "_law_draw", "_law_common", "_law_abs"]
def loose : List Str := loose0 ++ loose1
abbrev qv : Program := PySem.W.view R.prog [0, 53]
theorem run (w : World) : HandSHeadRun.RunEqI R qv hk ob 3000 loose w := by
  unfold HandSHeadRun.RunEqI
  kernel_rfl
/-- THE LAW from what its def computes -/
theorem holds_of (hall : ∀ ns : List Int, p_law [scrD ns] = some (.bool true)) (hw : R.toRowW.promised) : PySem.Challenge.rw_numberwright_k64_whole_triples_across.Holds := by
  w_on; o_law
  refine HandSHeadRun.head_imp (r := R) (q := qv) (H := hk) (ob := ob) (M := 3000) (loose := loose) (d := HandSHeadRun.topDef R.prog 53) (kwd := []) ob_eq
    run (by kernel_rfl) (by kernel_rfl) (by kernel_rfl) (by rfl) (by first | assumption | decide +kernel) (by decide +kernel) ⟨rfl, rfl, rfl, rfl, rfl, by decide +kernel⟩ hw ?hc
  refine LamX.walk_ofTsE (l := PySem.Challenge.rw_numberwright_k64_whole_triples_across) (n := 63) (k := 11) (x := "script") (CX := fun _ => L2.CX0) rfl (by decide) (by kernel_rfl) ⟨rfl, by decide, by decide⟩ ?F (fun _ _ _ _ _ z => z)
  intro w mg fa h Y G hmg0
  obtain ⟨K, KX, c⟩ := Y
  have hmg : mg ("law" : Str) = some (.ref fa) := by
    have e : (HandSHeadRun.topDef R.prog 53).name = ("law" : Str) := by kernel_rfl
    rw [← e]
    exact hmg0
  obtain ⟨g⟩ := gx KX G c.t.d c.more
  have e := hmg.symm.trans g.m_law
  cases e
  have mt : ∀ p ∈ g.cs, ∃ q ∈ tf, p = He.cT K q := fun p hp => by
    have hp : p ∈ tf.map (He.cT K) := by rw [← g.cse]; exact hp
    obtain ⟨q, hq, e⟩ := List.mem_map.mp hp
    exact ⟨q, hq, e.symm⟩
  refine ⟨K, KX, g.d_law, g.cs, spP g.T K p_law, fun p hp => ?_, fun p hp => ?_, fun p hp => ?_, fun s v => (FunD.bindsA (ps := ["script"]) g.D_law fun _ _ _ _ _ _ us hl => match us, hl with | [_], _ => rfl) s [v] rfl, fun H a ns hl hO hT hS => law_ofT (fun P hP => ?_) hS (hall ns), fun base _ _ TB => ok_law g fun p hp => ⟨(TB p hp).code, (TB p hp).bm, (TB p hp).gP⟩⟩
  · obtain ⟨q, hq, rfl⟩ := mt p hp
    exact c.empty q hq
  · obtain ⟨q, hq, rfl⟩ := mt p hp
    exact c.out q hq
  · obtain ⟨q, hq, rfl⟩ := mt p hp
    exact PySem.W.codeHd_of_K KX (c.hd q hq)
  · have hP : P ∈ g.cs.map (·.2) := hP
    obtain ⟨p, hp, e⟩ := List.mem_map.mp hP
    rw [← e]
    exact hT p hp
end Fx

namespace Fx
open PySem PySem.Spec L2
open PyProof.Rows hiding St

def F_led_by (triple : (Int × Int × Int)) (letter : Str) : Option ((Int × Int × Int)) :=
  bd (cond (sEq letter ("u" : Str)) (bd (some (-triple.2.1)) fun b2 =>
  some b2) (some triple.2.1)) fun j_1 =>
  bd (cond (sEq letter ("d" : Str)) (bd (some (-triple.1)) fun a4 =>
  some a4) (some triple.1)) fun j_3 =>
  bd (imul (2 : Int) j_1) fun v5 =>
  bd (imul (2 : Int) triple.2.2) fun v6 =>
  bd (imul (2 : Int) j_3) fun v7 =>
  bd (imul (2 : Int) triple.2.2) fun v8 =>
  bd (imul (2 : Int) j_3) fun v9 =>
  bd (imul (2 : Int) j_1) fun v10 =>
  bd (imul (3 : Int) triple.2.2) fun v11 =>
  some ((j_3 + v5) + v6, (v7 + j_1) + v8, (v9 + v10) + v11)
theorem k_led_by {triple : (Int × Int × Int)} {letter : Str} {r} (h : F_led_by triple letter = some r) : p_led_by [(PyData.tuple [(PyData.int triple.1), (PyData.int triple.2.1), (PyData.int triple.2.2)]), (PyData.str letter)] = some (PyData.tuple [(PyData.int r.1), (PyData.int r.2.1), (PyData.int r.2.2)]) := by
  unfold p_led_by
  refine runP_of ⟨rfl, by decide⟩ ?_
  unfold b_led_by
  unfold F_led_by at h
  show RO' _ _ [(0, .va (PyData.tuple [(PyData.int triple.1), (PyData.int triple.2.1), (PyData.int triple.2.2)])), (1, .va (PyData.str letter))] _ _
  refine ro_seq (ro_asgB (ee_nm 0 rfl) (eb_tup (ebs_cons (eb_nm 2 (by decide) (by decide)) (ebs_cons (eb_nm 3 (by decide) (by decide)) (ebs_cons (eb_nm 4 (by decide) (by decide)) ebs_nil))) rfl)) ?_
  obtain ⟨j_1, hj_1, h⟩ := bd_ok h
  refine ro_seq (st1 := [(0, .va (PyData.tuple [(PyData.int triple.1), (PyData.int triple.2.1), (PyData.int triple.2.2)])), (1, .va (PyData.str letter)), (2, .va (PyData.int triple.1)), (3, .va (PyData.int j_1)), (4, .va (PyData.int triple.2.2))]) (by
    have h := hj_1
    rcases cond_ok h with ⟨hc, h⟩ | ⟨hc, h⟩
    · refine ro_ifT (et_b (ee_bin (ee_nm 1 rfl) ee_k pEq_S)) hc ?_
      obtain ⟨b2, hb2, h⟩ := bd_ok h
      have h := Option.some.inj h; subst h; exact ro_wk (ro_asg 3 (ee_eq (d' := (PyData.int b2)) (ee_un (ee_nm 3 rfl) pNeg_I) (by cases hb2; rfl)) (by decide) (by decide)) ⟨.inl rfl, .inl rfl, .inl rfl, .inl rfl, .inl rfl, trivial⟩
    · refine ro_ifF (et_b (ee_bin (ee_nm 1 rfl) ee_k pEq_S)) hc ?_
      have h := Option.some.inj h; subst h; exact ro_wk ro_skip ⟨.inl rfl, .inl rfl, .inl rfl, .inl rfl, .inl rfl, trivial⟩) ?_
  obtain ⟨j_3, hj_3, h⟩ := bd_ok h
  refine ro_seq (st1 := [(0, .va (PyData.tuple [(PyData.int triple.1), (PyData.int triple.2.1), (PyData.int triple.2.2)])), (1, .va (PyData.str letter)), (2, .va (PyData.int j_3)), (3, .va (PyData.int j_1)), (4, .va (PyData.int triple.2.2))]) (by
    have h := hj_3
    rcases cond_ok h with ⟨hc, h⟩ | ⟨hc, h⟩
    · refine ro_ifT (et_b (ee_bin (ee_nm 1 rfl) ee_k pEq_S)) hc ?_
      obtain ⟨a4, ha4, h⟩ := bd_ok h
      have h := Option.some.inj h; subst h; exact ro_wk (ro_asg 2 (ee_eq (d' := (PyData.int a4)) (ee_un (ee_nm 2 rfl) pNeg_I) (by cases ha4; rfl)) (by decide) (by decide)) ⟨.inl rfl, .inl rfl, .inl rfl, .inl rfl, .inl rfl, trivial⟩
    · refine ro_ifF (et_b (ee_bin (ee_nm 1 rfl) ee_k pEq_S)) hc ?_
      have h := Option.some.inj h; subst h; exact ro_wk ro_skip ⟨.inl rfl, .inl rfl, .inl rfl, .inl rfl, .inl rfl, trivial⟩) ?_
  obtain ⟨v5, hv5, h⟩ := bd_ok h
  obtain ⟨v6, hv6, h⟩ := bd_ok h
  obtain ⟨v7, hv7, h⟩ := bd_ok h
  obtain ⟨v8, hv8, h⟩ := bd_ok h
  obtain ⟨v9, hv9, h⟩ := bd_ok h
  obtain ⟨v10, hv10, h⟩ := bd_ok h
  obtain ⟨v11, hv11, h⟩ := bd_ok h
  have h := Option.some.inj h; subst h; exact (ro_wkR (ro_ret (ee_tup (ea_cons (ee_bin (ee_bin (ee_nm 2 rfl) (ee_bin ee_k (ee_nm 3 rfl) (pMul_I hv5)) pAdd_I) (ee_bin ee_k (ee_nm 4 rfl) (pMul_I hv6)) pAdd_I) (ea_cons (ee_bin (ee_bin (ee_bin ee_k (ee_nm 2 rfl) (pMul_I hv7)) (ee_nm 3 rfl) pAdd_I) (ee_bin ee_k (ee_nm 4 rfl) (pMul_I hv8)) pAdd_I) (ea_cons (ee_bin (ee_bin (ee_bin ee_k (ee_nm 2 rfl) (pMul_I hv9)) (ee_bin ee_k (ee_nm 3 rfl) (pMul_I hv10)) pAdd_I) (ee_bin ee_k (ee_nm 4 rfl) (pMul_I hv11)) pAdd_I) ea_nil))) (Nat.le_of_ble_eq_true rfl))) trivial)

def F_triple_at_b1  (x_3 : Str) : ((Int × Int × Int)) → Option ((Int × Int × Int)) := fun found2 =>
  bd (F_led_by found2 x_3) fun led_by4 =>
  some led_by4
def F_triple_at (path : Str) : Option ((Int × Int × Int)) :=
  bd (some ((3 : Int), (4 : Int), (5 : Int))) fun found1 =>
  bd (foS (F_triple_at_b1) (sItems path) found1) fun s_5 =>
  some s_5
theorem k_triple_at {path : Str} {r} (h : F_triple_at path = some r) : p_triple_at [(PyData.str path)] = some (PyData.tuple [(PyData.int r.1), (PyData.int r.2.1), (PyData.int r.2.2)]) := by
  unfold p_triple_at
  refine runP_of ⟨rfl, by decide⟩ ?_
  unfold b_triple_at
  unfold F_triple_at at h
  show RO' _ _ [(0, .va (PyData.str path))] _ _
  obtain ⟨found1, hfound1, h⟩ := bd_ok h
  refine ro_seq (ro_asg 1 (ee_eq (d' := (PyData.tuple [(PyData.int found1.1), (PyData.int found1.2.1), (PyData.int found1.2.2)])) ee_k (by cases hfound1; rfl)) (by decide) (by decide)) ?_
  obtain ⟨s_5, hs_5, h⟩ := bd_ok h
  refine ro_seq (ro_for (ei_S (ee_nm 0 rfl)) (ro_pre (st2 := [(0, .va (PyData.str path)), (1, .va (PyData.tuple [(PyData.int found1.1), (PyData.int found1.2.1), (PyData.int found1.2.2)]))]) ⟨.inl rfl, .inl rfl, trivial⟩ (fo_S PyData.str (fun s : (Int × Int × Int) => [(0, .va (PyData.str path)), (1, .va (PyData.tuple [(PyData.int s.1), (PyData.int s.2.1), (PyData.int s.2.2)]))]) (fun x_3 s => (eb_nm 2 (by decide) (by decide))) (fun x_3 found2 s2 h => by
      
      dsimp only [F_triple_at_b1] at h
      show RO' _ _ [(2, .va (PyData.str x_3)), (0, .va (PyData.str path)), (1, .va (PyData.tuple [(PyData.int found2.1), (PyData.int found2.2.1), (PyData.int found2.2.2)]))] _ _
      obtain ⟨led_by4, hled_by4, h⟩ := bd_ok h
      have h := Option.some.inj h; subst h; exact ro_wk (ro_asg 1 (ee_call (ea_cons (ee_nm 1 rfl) (ea_cons (ee_nm 2 rfl) ea_nil)) (@k_led_by found2 x_3 _ hled_by4)) (by decide) (by decide)) ⟨.inl rfl, .inl rfl, trivial⟩) hs_5))) ?_
  have h := Option.some.inj h; subst h; exact (ro_wkR (ro_ret (ee_nm 1 rfl)) trivial)

def F_is_worded (value : (Str × (Int × Int × Int))) (word : Str) (length : Int) : Option (Bool) :=
  bd (isi "tuple" (PyData.tuple [(PyData.str value.1), (PyData.tuple [(PyData.int value.2.1), (PyData.int value.2.2.1), (PyData.int value.2.2.2)])])) fun v1 =>
  bd (cond (!(v1)) (some true) (some (!(iEq (2 : Int) length)))) fun v2 =>
  cond v2 (some false) (bd (isi "str" (PyData.str value.1)) fun v3 =>
  bd (cond v3 (some (sEq value.1 word)) (some false)) fun v4 =>
  some v4)
theorem k_is_worded {value : (Str × (Int × Int × Int))} {word : Str} {length : Int} {r} (h : F_is_worded value word length = some r) : p_is_worded [(PyData.tuple [(PyData.str value.1), (PyData.tuple [(PyData.int value.2.1), (PyData.int value.2.2.1), (PyData.int value.2.2.2)])]), (PyData.str word), (PyData.int length)] = some (PyData.bool r) := by
  unfold p_is_worded
  refine runP_of ⟨rfl, by decide⟩ ?_
  unfold b_is_worded
  unfold F_is_worded at h
  show RO' _ _ [(0, .va (PyData.tuple [(PyData.str value.1), (PyData.tuple [(PyData.int value.2.1), (PyData.int value.2.2.1), (PyData.int value.2.2.2)])])), (1, .va (PyData.str word)), (2, .va (PyData.int length))] _ _
  refine ro_ifdist ?_
  obtain ⟨v1, hv1, h⟩ := bd_ok h
  obtain ⟨v2, hv2, h⟩ := bd_ok h
  rcases cond_ok h with ⟨hc, h⟩ | ⟨hc, h⟩
  · refine ro_ifT (et_or hv2 (et_nt (et_tr (ee_isi (ee_nm 0 rfl) hv1) rfl)) (fun c h => by
    have h := Option.some.inj h; subst h; exact (et_b (ee_bin (ee_lenN 0 rfl rfl) (ee_nm 2 rfl) pNe_I)))) hc ?_
    have h := Option.some.inj h; subst h; exact (ro_seqR (ro_wkR (ro_ret ee_k) trivial))
  · refine ro_ifF (et_or hv2 (et_nt (et_tr (ee_isi (ee_nm 0 rfl) hv1) rfl)) (fun c h => by
    have h := Option.some.inj h; subst h; exact (et_b (ee_bin (ee_lenN 0 rfl rfl) (ee_nm 2 rfl) pNe_I)))) hc ?_
    refine ro_seq ro_skip ?_
    obtain ⟨v3, hv3, h⟩ := bd_ok h
    obtain ⟨v4, hv4, h⟩ := bd_ok h
    have h := Option.some.inj h; subst h; exact (ro_wkR (ro_ret (ee_an hv4 (ee_isi (ee_ixN 0 rfl ee_k rfl rfl) hv3) (fun c h => by
    have h := Option.some.inj h; subst h; exact (ee_bin (ee_ixN 0 rfl ee_k rfl rfl) (ee_nm 1 rfl) pEq_S)))) trivial)

def F_are_alike_in_sign (weights : (Int × Int × Int)) : Option (Bool) :=
  bd (lMnI ([weights.1, weights.2.1, weights.2.2] : (List Int))) fun v1 =>
  bd (cond (iLt (0 : Int) v1) (some true) (bd (lMxI ([weights.1, weights.2.1, weights.2.2] : (List Int))) fun v2 =>
  some (iLt v2 (0 : Int)))) fun v3 =>
  some v3
theorem k_are_alike_in_sign {weights : (Int × Int × Int)} {r} (h : F_are_alike_in_sign weights = some r) : p_are_alike_in_sign [(PyData.tuple [(PyData.int weights.1), (PyData.int weights.2.1), (PyData.int weights.2.2)])] = some (PyData.bool r) := by
  unfold p_are_alike_in_sign
  refine runP_of ⟨rfl, by decide⟩ ?_
  unfold b_are_alike_in_sign
  unfold F_are_alike_in_sign at h
  show RO' _ _ [(0, .va (PyData.tuple [(PyData.int weights.1), (PyData.int weights.2.1), (PyData.int weights.2.2)]))] _ _
  obtain ⟨v1, hv1, h⟩ := bd_ok h
  obtain ⟨v3, hv3, h⟩ := bd_ok h
  have h := Option.some.inj h; subst h; exact (ro_wkR (ro_ret (ee_or hv3 (ee_bin (ee_call (ea_cons (ee_nm 0 rfl) ea_nil) (pMinA_Q hv1)) ee_k pGt_I) (fun c h => by
    obtain ⟨v2, hv2, h⟩ := bd_ok h
    have h := Option.some.inj h; subst h; exact (ee_bin (ee_call (ea_cons (ee_nm 0 rfl) ea_nil) (pMaxA_Q hv2)) ee_k pLt_I)))) trivial)

def F_is_integer (value : PV) : Option (Bool) :=
  bd (isi "int" value) fun v1 =>
  bd (cond v1 (bd (isi "bool" value) fun v2 =>
  some (!v2)) (some false)) fun v3 =>
  some v3
theorem k_is_integer {value : PV} {r} (h : F_is_integer value = some r) : p_is_integer [value] = some (PyData.bool r) := by
  unfold p_is_integer
  refine runP_of ⟨rfl, by decide⟩ ?_
  unfold b_is_integer
  unfold F_is_integer at h
  show RO' _ _ [(0, .va value)] _ _
  obtain ⟨v1, hv1, h⟩ := bd_ok h
  obtain ⟨v3, hv3, h⟩ := bd_ok h
  have h := Option.some.inj h; subst h; exact (ro_wkR (ro_ret (ee_an hv3 (ee_isi (ee_nm 0 rfl) hv1) (fun c h => by
    obtain ⟨v2, hv2, h⟩ := bd_ok h
    have h := Option.some.inj h; subst h; exact (ee_nt (ee_isi (ee_nm 0 rfl) hv2))))) trivial)

def F_is_within (value : (Int × Int × Int)) (low : Int) (high : Int) : Option (Bool) :=
  bd (F_is_integer (PyData.tuple [(PyData.int value.1), (PyData.int value.2.1), (PyData.int value.2.2)])) fun is_integer1 =>
  bd (cond is_integer1 (none : Option Bool) (some false)) fun v2 =>
  some v2
theorem k_is_within {value : (Int × Int × Int)} {low : Int} {high : Int} {r} (h : F_is_within value low high = some r) : p_is_within [(PyData.tuple [(PyData.int value.1), (PyData.int value.2.1), (PyData.int value.2.2)]), (PyData.int low), (PyData.int high)] = some (PyData.bool r) := by
  unfold p_is_within
  refine runP_of ⟨rfl, by decide⟩ ?_
  unfold b_is_within
  unfold F_is_within at h
  show RO' _ _ [(0, .va (PyData.tuple [(PyData.int value.1), (PyData.int value.2.1), (PyData.int value.2.2)])), (1, .va (PyData.int low)), (2, .va (PyData.int high))] _ _
  obtain ⟨is_integer1, his_integer1, h⟩ := bd_ok h
  obtain ⟨v2, hv2, h⟩ := bd_ok h
  have h := Option.some.inj h; subst h; exact (ro_wkR (ro_ret (ee_an hv2 (ee_call (ea_cons (ee_nm 0 rfl) ea_nil) (@k_is_integer (PyData.tuple [(PyData.int value.1), (PyData.int value.2.1), (PyData.int value.2.2)]) _ his_integer1)) (fun c h => by cases h))) trivial)

def F_is_row (value : PV) (length : Int) : Option (Bool) :=
  bd (isi "tuple" value) fun v1 =>
  bd (cond v1 (bd (vI (pLen [value])) fun v2 =>
  bd (cond (iEq v2 length) (bd (vItems value) fun l3 =>
  bd (goS true (fun _ => some true) (fun x_4 => bd (F_is_integer x_4) fun is_integer5 =>
  some is_integer5) l3) fun l6 =>
  some l6) (some false)) fun v7 =>
  some v7) (some false)) fun v8 =>
  some v8
theorem k_is_row {value : PV} {length : Int} {r} (h : F_is_row value length = some r) : p_is_row [value, (PyData.int length)] = some (PyData.bool r) := by
  unfold p_is_row
  refine runP_of ⟨rfl, by decide⟩ ?_
  unfold b_is_row
  unfold F_is_row at h
  show RO' _ _ [(0, .va value), (1, .va (PyData.int length))] _ _
  obtain ⟨v1, hv1, h⟩ := bd_ok h
  obtain ⟨v8, hv8, h⟩ := bd_ok h
  have h := Option.some.inj h; subst h; exact (ro_wkR (ro_ret (ee_an hv8 (ee_isi (ee_nm 0 rfl) hv1) (fun c h => by
    obtain ⟨v2, hv2, h⟩ := bd_ok h
    obtain ⟨v7, hv7, h⟩ := bd_ok h
    have h := Option.some.inj h; subst h; exact (ee_an hv7 (ee_bin (ee_lenN 0 rfl (vI_ok hv2)) (ee_nm 1 rfl) pEq_I) (fun c h => by
    obtain ⟨l3, hl3, h⟩ := bd_ok h
    obtain ⟨l6, hl6, h⟩ := bd_ok h
    have h := Option.some.inj h; subst h; exact (ee_go (fun y : PV => y) (ei_V (ee_nm 0 rfl) hl3) (by decide) (fun x_4 => (eb_nm 2 (by decide) (by decide))) (fun _ _ h => by cases h; exact et_ys) (fun x_4 _ h => by
      obtain ⟨is_integer5, his_integer5, h⟩ := bd_ok h
      have h := Option.some.inj h; subst h; exact (ee_call (ea_cons (ee_nm 2 rfl) ea_nil) (@k_is_integer x_4 _ his_integer5))) hl6 (fun _ => rfl))))))) trivial)

def F_check_nought (weights : (Int × Int × Int)) (value : (Str × (Int × Int × Int))) : Option (Bool) :=
  bd (F_is_worded value ("signs" : Str) (1 : Int)) fun is_worded1 =>
  cond is_worded1 (bd (F_are_alike_in_sign weights) fun are_alike_in_sign2 =>
  some are_alike_in_sign2) (bd (F_is_worded value ("prime" : Str) (2 : Int)) fun is_worded3 =>
  cond is_worded3 (bd (F_is_within value.2 (2 : Int) (100 : Int)) fun is_within4 =>
  bd (cond is_within4 (none : Option Bool) (some false)) fun v5 =>
  some v5) (bd (F_is_worded value ("nought" : Str) (2 : Int)) fun is_worded6 =>
  bd (cond (!(is_worded6)) (some true) (bd (F_is_row (PyData.tuple [(PyData.int value.2.1), (PyData.int value.2.2.1), (PyData.int value.2.2.2)]) (3 : Int)) fun is_row7 =>
  some (!(is_row7)))) fun v8 =>
  cond v8 (some false) (bd (goS true (fun _ => some true) (fun x_9 => some (iEq x_9 (0 : Int))) ([value.2.1, value.2.2.1, value.2.2.2] : (List Int))) fun l10 =>
  cond l10 (some false) (bd (coS (fun _ => some true) (fun x_11 => bd (imul x_11.1 x_11.2) fun v12 =>
  bd (imul v12 x_11.2) fun v13 =>
  some v13) (zp ([weights.1, weights.2.1, weights.2.2] : (List Int)) ([value.2.1, value.2.2.1, value.2.2.2] : (List Int)))) fun l14 =>
  bd (cond (shortL (zp ([weights.1, weights.2.1, weights.2.2] : (List Int)) ([value.2.1, value.2.2.1, value.2.2.2] : (List Int)))) (some ()) none) fun q15 =>
  some (iEq (List.sum l14) (0 : Int))))))
theorem k_check_nought {weights : (Int × Int × Int)} {value : (Str × (Int × Int × Int))} {r} (h : F_check_nought weights value = some r) : p_check_nought [(PyData.tuple [(PyData.int weights.1), (PyData.int weights.2.1), (PyData.int weights.2.2)]), (PyData.tuple [(PyData.str value.1), (PyData.tuple [(PyData.int value.2.1), (PyData.int value.2.2.1), (PyData.int value.2.2.2)])])] = some (PyData.bool r) := by
  unfold p_check_nought
  refine runP_of ⟨rfl, by decide⟩ ?_
  unfold b_check_nought
  unfold F_check_nought at h
  show RO' _ _ [(0, .va (PyData.tuple [(PyData.int weights.1), (PyData.int weights.2.1), (PyData.int weights.2.2)])), (1, .va (PyData.tuple [(PyData.str value.1), (PyData.tuple [(PyData.int value.2.1), (PyData.int value.2.2.1), (PyData.int value.2.2.2)])]))] _ _
  refine ro_ifdist ?_
  obtain ⟨is_worded1, his_worded1, h⟩ := bd_ok h
  rcases cond_ok h with ⟨hc, h⟩ | ⟨hc, h⟩
  · refine ro_ifT (et_tr (ee_call (ea_cons (ee_nm 1 rfl) (ea_cons ee_k (ea_cons ee_k ea_nil))) (@k_is_worded value ("signs" : Str) (1 : Int) _ his_worded1)) rfl) hc ?_
    obtain ⟨are_alike_in_sign2, hare_alike_in_sign2, h⟩ := bd_ok h
    have h := Option.some.inj h; subst h; exact (ro_seqR (ro_wkR (ro_ret (ee_call (ea_cons (ee_nm 0 rfl) ea_nil) (@k_are_alike_in_sign weights _ hare_alike_in_sign2))) trivial))
  · refine ro_ifF (et_tr (ee_call (ea_cons (ee_nm 1 rfl) (ea_cons ee_k (ea_cons ee_k ea_nil))) (@k_is_worded value ("signs" : Str) (1 : Int) _ his_worded1)) rfl) hc ?_
    refine ro_seq ro_skip ?_
    refine ro_ifdist ?_
    obtain ⟨is_worded3, his_worded3, h⟩ := bd_ok h
    rcases cond_ok h with ⟨hc, h⟩ | ⟨hc, h⟩
    · refine ro_ifT (et_tr (ee_call (ea_cons (ee_nm 1 rfl) (ea_cons ee_k (ea_cons ee_k ea_nil))) (@k_is_worded value ("prime" : Str) (2 : Int) _ his_worded3)) rfl) hc ?_
      obtain ⟨is_within4, his_within4, h⟩ := bd_ok h
      obtain ⟨v5, hv5, h⟩ := bd_ok h
      have h := Option.some.inj h; subst h; exact (ro_seqR (ro_wkR (ro_ret (ee_an hv5 (ee_call (ea_cons (ee_ixN 1 rfl ee_k rfl rfl) (ea_cons ee_k (ea_cons ee_k ea_nil))) (@k_is_within value.2 (2 : Int) (100 : Int) _ his_within4)) (fun c h => by cases h))) trivial))
    · refine ro_ifF (et_tr (ee_call (ea_cons (ee_nm 1 rfl) (ea_cons ee_k (ea_cons ee_k ea_nil))) (@k_is_worded value ("prime" : Str) (2 : Int) _ his_worded3)) rfl) hc ?_
      refine ro_seq ro_skip ?_
      refine ro_ifdist ?_
      obtain ⟨is_worded6, his_worded6, h⟩ := bd_ok h
      obtain ⟨v8, hv8, h⟩ := bd_ok h
      rcases cond_ok h with ⟨hc, h⟩ | ⟨hc, h⟩
      · refine ro_ifT (et_or hv8 (et_nt (et_tr (ee_call (ea_cons (ee_nm 1 rfl) (ea_cons ee_k (ea_cons ee_k ea_nil))) (@k_is_worded value ("nought" : Str) (2 : Int) _ his_worded6)) rfl)) (fun c h => by
    obtain ⟨is_row7, his_row7, h⟩ := bd_ok h
    have h := Option.some.inj h; subst h; exact (et_nt (et_tr (ee_call (ea_cons (ee_ixN 1 rfl ee_k rfl rfl) (ea_cons (ee_lenN 0 rfl rfl) ea_nil)) (@k_is_row (PyData.tuple [(PyData.int value.2.1), (PyData.int value.2.2.1), (PyData.int value.2.2.2)]) (3 : Int) _ his_row7)) rfl)))) hc ?_
        have h := Option.some.inj h; subst h; exact (ro_seqR (ro_wkR (ro_ret ee_k) trivial))
      · refine ro_ifF (et_or hv8 (et_nt (et_tr (ee_call (ea_cons (ee_nm 1 rfl) (ea_cons ee_k (ea_cons ee_k ea_nil))) (@k_is_worded value ("nought" : Str) (2 : Int) _ his_worded6)) rfl)) (fun c h => by
    obtain ⟨is_row7, his_row7, h⟩ := bd_ok h
    have h := Option.some.inj h; subst h; exact (et_nt (et_tr (ee_call (ea_cons (ee_ixN 1 rfl ee_k rfl rfl) (ea_cons (ee_lenN 0 rfl rfl) ea_nil)) (@k_is_row (PyData.tuple [(PyData.int value.2.1), (PyData.int value.2.2.1), (PyData.int value.2.2.2)]) (3 : Int) _ his_row7)) rfl)))) hc ?_
        refine ro_seq ro_skip ?_
        refine ro_ifdist ?_
        obtain ⟨l10, hl10, h⟩ := bd_ok h
        rcases cond_ok h with ⟨hc, h⟩ | ⟨hc, h⟩
        · refine ro_ifT (et_tr (ee_go PyData.int (ei_Q (ee_ixN 1 rfl ee_k rfl rfl)) (by decide) (fun x_9 => (eb_nm 2 (by decide) (by decide))) (fun _ _ h => by cases h; exact et_ys) (fun x_9 _ h => by
      have h := Option.some.inj h; subst h; exact (ee_bin (ee_nm 2 rfl) ee_k pEq_I)) hl10 (fun _ => rfl)) rfl) hc ?_
          have h := Option.some.inj h; subst h; exact (ro_seqR (ro_wkR (ro_ret ee_k) trivial))
        · refine ro_ifF (et_tr (ee_go PyData.int (ei_Q (ee_ixN 1 rfl ee_k rfl rfl)) (by decide) (fun x_9 => (eb_nm 2 (by decide) (by decide))) (fun _ _ h => by cases h; exact et_ys) (fun x_9 _ h => by
      have h := Option.some.inj h; subst h; exact (ee_bin (ee_nm 2 rfl) ee_k pEq_I)) hl10 (fun _ => rfl)) rfl) hc ?_
          refine ro_seq ro_skip ?_
          obtain ⟨l14, hl14, h⟩ := bd_ok h
          obtain ⟨q15, hq15, h⟩ := bd_ok h
          have hq15 : shortL (zp ([weights.1, weights.2.1, weights.2.2] : (List Int)) ([value.2.1, value.2.2.1, value.2.2.2] : (List Int))) = true := by rcases cond_ok hq15 with ⟨q, _⟩ | ⟨_, q⟩; exact q; cases q
          have h := Option.some.inj h; subst h; exact (ro_wkR (ro_ret (ee_bin (ee_call (ea_cons (ee_lc (fun y : (Int × Int) => (PyData.tuple [(PyData.int y.1), (PyData.int y.2)])) PyData.int (ei_zipMQ (ea_cons (ee_nm 0 rfl) (ea_cons (ee_ixN 1 rfl ee_k rfl rfl) ea_nil))) (by decide) (fun x_11 => (eb_tup (ebs_cons (eb_nm 3 (by decide) (by decide)) (ebs_cons (eb_nm 2 (by decide) (by decide)) ebs_nil)) rfl)) (fun _ _ h => by cases h; exact et_ys) (fun x_11 _ h => by
      obtain ⟨v12, hv12, h⟩ := bd_ok h
      obtain ⟨v13, hv13, h⟩ := bd_ok h
      have h := Option.some.inj h; subst h; exact (ee_bin (ee_bin (ee_nm 3 rfl) (ee_nm 2 rfl) (pMul_I hv12)) (ee_nm 2 rfl) (pMul_I hv13))) hl14 hq15 (fun _ => rfl)) ea_nil) pSum_L) ee_k pEq_I)) trivial)

def F_triple_path_c1  : (PV × (List Str)) → Option Bool := fun (triple2, found3) =>
  bd (vB (pNe triple2 (PyData.tuple [(PyData.int (3 : Int)), (PyData.int (4 : Int)), (PyData.int (5 : Int))]))) fun v4 =>
  some v4
def F_triple_path_b1  : (PV × (List Str)) → Option (PV × (List Str)) := fun (triple2, found3) =>
  bd (as3I triple2) fun v5 =>
  bd (imul (2 : Int) v5.2.1) fun v6 =>
  bd (imul (2 : Int) v5.2.2) fun v7 =>
  bd (imul (2 : Int) v5.1) fun v8 =>
  bd (imul (2 : Int) v5.2.2) fun v9 =>
  bd (imul (3 : Int) v5.2.2) fun v10 =>
  bd (imul (2 : Int) v5.1) fun v11 =>
  bd (imul (2 : Int) v5.2.1) fun v12 =>
  bd (some ((v5.1 + v6) - v7)) fun one13 =>
  bd (some ((v8 + v5.2.1) - v9)) fun two14 =>
  bd (some ((v10 - v11) - v12)) fun three15 =>
  bd (cond (iLt one13 (0 : Int)) (some ("d" : Str)) (bd (cond (iLt two14 (0 : Int)) (some ("u" : Str)) (some ("m" : Str))) fun v16 =>
  some v16)) fun v17 =>
  bd (lApp found3 v17) fun found18 =>
  bd (some (PyData.tuple [(PyData.int (iAbs one13)), (PyData.int (iAbs two14)), (PyData.int three15)])) fun triple19 =>
  some (triple19, found18)
def F_triple_path (triple : PV) : Option (Str) :=
  bd (some ([] : (List Str))) fun found1 =>
  bd (whS (F_triple_path_c1) (F_triple_path_b1) 2000 (triple, found1)) fun s_20 =>
  bd (vS (pJoinR ("" : Str) (PyData.list (List.map PyData.str s_20.2)))) fun v21 =>
  some v21
theorem k_triple_path {triple : PV} {r} (h : F_triple_path triple = some r) : p_triple_path [triple] = some (PyData.str r) := by
  unfold p_triple_path
  refine runP_of ⟨rfl, by decide⟩ ?_
  unfold b_triple_path
  unfold F_triple_path at h
  show RO' _ _ [(0, .va triple)] _ _
  obtain ⟨found1, hfound1, h⟩ := bd_ok h
  refine ro_seq (ro_asgO 1 (ee_eq (d' := (PyData.list (List.map PyData.str found1))) (ee_lst ea_nil (Nat.le_of_ble_eq_true rfl)) (by cases hfound1; rfl)) (by decide) (by decide)) ?_
  obtain ⟨s_20, hs_20, h⟩ := bd_ok h
  refine ro_seq (ro_pre (st2 := [(0, .va triple), (1, .ow (PyData.list (List.map PyData.str found1)))]) ⟨.inl rfl, .inl rfl, trivial⟩ (ro_whS (fun s : PV × (List Str) => [(0, .va s.1), (1, .ow (PyData.list (List.map PyData.str s.2)))]) (fun s v h => by
      obtain ⟨triple2, found3⟩ := s; 
      dsimp only [F_triple_path_c1] at h
      show ET _ _ [(0, .va triple2), (1, .ow (PyData.list (List.map PyData.str found3)))] _ v [(0, .va triple2), (1, .ow (PyData.list (List.map PyData.str found3)))]
      obtain ⟨v4, hv4, h⟩ := bd_ok h
      have h := Option.some.inj h; subst h; exact (et_b (ee_bin (ee_nm 0 rfl) ee_k (vB_ok hv4)))) (fun s s2 h => by
      obtain ⟨triple2, found3⟩ := s; 
      dsimp only [F_triple_path_b1] at h
      show RO' _ _ [(0, .va triple2), (1, .ow (PyData.list (List.map PyData.str found3)))] _ _
      obtain ⟨v5, hv5, h⟩ := bd_ok h
      refine ro_seq (ro_asgB (ee_eq (ee_nm 0 rfl) (as3I_ok hv5)) (eb_tup (ebs_cons (eb_nm 2 (by decide) (by decide)) (ebs_cons (eb_nm 3 (by decide) (by decide)) (ebs_cons (eb_nm 4 (by decide) (by decide)) ebs_nil))) rfl)) ?_
      obtain ⟨v6, hv6, h⟩ := bd_ok h
      obtain ⟨v7, hv7, h⟩ := bd_ok h
      obtain ⟨v8, hv8, h⟩ := bd_ok h
      obtain ⟨v9, hv9, h⟩ := bd_ok h
      obtain ⟨v10, hv10, h⟩ := bd_ok h
      obtain ⟨v11, hv11, h⟩ := bd_ok h
      obtain ⟨v12, hv12, h⟩ := bd_ok h
      obtain ⟨one13, hone13, h⟩ := bd_ok h
      obtain ⟨two14, htwo14, h⟩ := bd_ok h
      obtain ⟨three15, hthree15, h⟩ := bd_ok h
      refine ro_seq (ro_asg3 5 6 7 (ea_cons (ee_eq (d' := (PyData.int one13)) (ee_bin (ee_bin (ee_nm 2 rfl) (ee_bin ee_k (ee_nm 3 rfl) (pMul_I hv6)) pAdd_I) (ee_bin ee_k (ee_nm 4 rfl) (pMul_I hv7)) pSub_I) (by cases hone13; rfl)) (ea_cons (ee_eq (d' := (PyData.int two14)) (ee_bin (ee_bin (ee_bin ee_k (ee_nm 2 rfl) (pMul_I hv8)) (ee_nm 3 rfl) pAdd_I) (ee_bin ee_k (ee_nm 4 rfl) (pMul_I hv9)) pSub_I) (by cases htwo14; rfl)) (ea_cons (ee_eq (d' := (PyData.int three15)) (ee_bin (ee_bin (ee_bin ee_k (ee_nm 4 rfl) (pMul_I hv10)) (ee_bin ee_k (ee_nm 2 rfl) (pMul_I hv11)) pSub_I) (ee_bin ee_k (ee_nm 3 rfl) (pMul_I hv12)) pSub_I) (by cases hthree15; rfl)) ea_nil))) (by decide) (by decide) (by decide) (by decide) (by decide) (by decide)) ?_
      obtain ⟨v17, hv17, h⟩ := bd_ok h
      obtain ⟨found18, hfound18, h⟩ := bd_ok h
      refine ro_seq (ro_expr (ee_appendL PyData.str 1 (x := v17) rfl (ee_if PyData.str hv17 (et_b (ee_bin (ee_nm 5 rfl) ee_k pLt_I)) (fun c h => by
    have h := Option.some.inj h; subst h; exact ee_k) (fun c h => by
    obtain ⟨v16, hv16, h⟩ := bd_ok h
    have h := Option.some.inj h; subst h; exact (ee_if PyData.str hv16 (et_b (ee_bin (ee_nm 6 rfl) ee_k pLt_I)) (fun c h => by
    have h := Option.some.inj h; subst h; exact ee_k) (fun c h => by
    have h := Option.some.inj h; subst h; exact ee_k)))) rfl hfound18)) ?_
      obtain ⟨triple19, htriple19, h⟩ := bd_ok h
      have h := Option.some.inj h; subst h; exact ro_wk (ro_asg 0 (ee_eq (d' := triple19) (ee_tup (ea_cons (ee_call (ea_cons (ee_nm 5 rfl) ea_nil) pAbs_I) (ea_cons (ee_call (ea_cons (ee_nm 6 rfl) ea_nil) pAbs_I) (ea_cons (ee_nm 7 rfl) ea_nil))) (Nat.le_of_ble_eq_true rfl)) (by cases htriple19; rfl)) (by decide) (by decide)) ⟨.inl rfl, .inl rfl, trivial⟩) hs_20)) ?_
  obtain ⟨v21, hv21, h⟩ := bd_ok h
  have h := Option.some.inj h; subst h; exact (ro_wkR (ro_ret (ee_joinR ee_k (ee_nmO 1 rfl) (vS_ok hv21))) trivial)

def F_point_product (one : (Int × Int)) (two : (Int × Int)) : Option ((Int × Int)) :=
  bd (imul one.1 two.1) fun v1 =>
  bd (imul one.2 two.2) fun v2 =>
  bd (imul one.1 two.2) fun v3 =>
  bd (imul one.2 two.1) fun v4 =>
  some (v1 - v2, v3 + v4)
theorem k_point_product {one : (Int × Int)} {two : (Int × Int)} {r} (h : F_point_product one two = some r) : p_point_product [(PyData.tuple [(PyData.int one.1), (PyData.int one.2)]), (PyData.tuple [(PyData.int two.1), (PyData.int two.2)])] = some (PyData.tuple [(PyData.int r.1), (PyData.int r.2)]) := by
  unfold p_point_product
  refine runP_of ⟨rfl, by decide⟩ ?_
  unfold b_point_product
  unfold F_point_product at h
  show RO' _ _ [(0, .va (PyData.tuple [(PyData.int one.1), (PyData.int one.2)])), (1, .va (PyData.tuple [(PyData.int two.1), (PyData.int two.2)]))] _ _
  obtain ⟨v1, hv1, h⟩ := bd_ok h
  obtain ⟨v2, hv2, h⟩ := bd_ok h
  obtain ⟨v3, hv3, h⟩ := bd_ok h
  obtain ⟨v4, hv4, h⟩ := bd_ok h
  have h := Option.some.inj h; subst h; exact (ro_wkR (ro_ret (ee_tup (ea_cons (ee_bin (ee_bin (ee_ixN 0 rfl ee_k rfl rfl) (ee_ixN 1 rfl ee_k rfl rfl) (pMul_I hv1)) (ee_bin (ee_ixN 0 rfl ee_k rfl rfl) (ee_ixN 1 rfl ee_k rfl rfl) (pMul_I hv2)) pSub_I) (ea_cons (ee_bin (ee_bin (ee_ixN 0 rfl ee_k rfl rfl) (ee_ixN 1 rfl ee_k rfl rfl) (pMul_I hv3)) (ee_bin (ee_ixN 0 rfl ee_k rfl rfl) (ee_ixN 1 rfl ee_k rfl rfl) (pMul_I hv4)) pAdd_I) ea_nil)) (Nat.le_of_ble_eq_true rfl))) trivial)

def F_norm (point : (Int × Int)) : Option (Int) :=
  bd (imul point.1 point.1) fun v1 =>
  bd (imul point.2 point.2) fun v2 =>
  some (v1 + v2)
theorem k_norm {point : (Int × Int)} {r} (h : F_norm point = some r) : p_norm [(PyData.tuple [(PyData.int point.1), (PyData.int point.2)])] = some (PyData.int r) := by
  unfold p_norm
  refine runP_of ⟨rfl, by decide⟩ ?_
  unfold b_norm
  unfold F_norm at h
  show RO' _ _ [(0, .va (PyData.tuple [(PyData.int point.1), (PyData.int point.2)]))] _ _
  obtain ⟨v1, hv1, h⟩ := bd_ok h
  obtain ⟨v2, hv2, h⟩ := bd_ok h
  have h := Option.some.inj h; subst h; exact (ro_wkR (ro_ret (ee_bin (ee_bin (ee_ixN 0 rfl ee_k rfl rfl) (ee_ixN 0 rfl ee_k rfl rfl) (pMul_I hv1)) (ee_bin (ee_ixN 0 rfl ee_k rfl rfl) (ee_ixN 0 rfl ee_k rfl rfl) (pMul_I hv2)) pAdd_I)) trivial)

def F_near (a : Int) (b : Int) : Option (Int) :=
  bd (imul (2 : Int) a) fun v1 =>
  bd (imul (2 : Int) b) fun v2 =>
  bd (idiv (v1 + b) v2) fun v3 =>
  some v3
theorem k_near {a : Int} {b : Int} {r} (h : F_near a b = some r) : p_near [(PyData.int a), (PyData.int b)] = some (PyData.int r) := by
  unfold p_near
  refine runP_of ⟨rfl, by decide⟩ ?_
  unfold b_near
  unfold F_near at h
  show RO' _ _ [(0, .va (PyData.int a)), (1, .va (PyData.int b))] _ _
  obtain ⟨v1, hv1, h⟩ := bd_ok h
  obtain ⟨v2, hv2, h⟩ := bd_ok h
  obtain ⟨v3, hv3, h⟩ := bd_ok h
  have h := Option.some.inj h; subst h; exact (ro_wkR (ro_ret (ee_bin (ee_bin (ee_bin ee_k (ee_nm 0 rfl) (pMul_I hv1)) (ee_nm 1 rfl) pAdd_I) (ee_bin ee_k (ee_nm 1 rfl) (pMul_I hv2)) (pDiv_I hv3))) trivial)

def F_divided (one : (Int × Int)) (two : (Int × Int)) : Option (((Int × Int) × (Int × Int))) :=
  bd (F_point_product one (two.1, -two.2)) fun point_product1 =>
  bd (F_norm two) fun norm2 =>
  bd (F_near point_product1.1 norm2) fun near3 =>
  bd (F_near point_product1.2 norm2) fun near4 =>
  bd (some (near3, near4)) fun quotient5 =>
  bd (F_point_product quotient5 two) fun point_product6 =>
  some (quotient5, (one.1 - point_product6.1, one.2 - point_product6.2))
theorem k_divided {one : (Int × Int)} {two : (Int × Int)} {r} (h : F_divided one two = some r) : p_divided [(PyData.tuple [(PyData.int one.1), (PyData.int one.2)]), (PyData.tuple [(PyData.int two.1), (PyData.int two.2)])] = some (PyData.tuple [(PyData.tuple [(PyData.int r.1.1), (PyData.int r.1.2)]), (PyData.tuple [(PyData.int r.2.1), (PyData.int r.2.2)])]) := by
  unfold p_divided
  refine runP_of ⟨rfl, by decide⟩ ?_
  unfold b_divided
  unfold F_divided at h
  show RO' _ _ [(0, .va (PyData.tuple [(PyData.int one.1), (PyData.int one.2)])), (1, .va (PyData.tuple [(PyData.int two.1), (PyData.int two.2)]))] _ _
  obtain ⟨point_product1, hpoint_product1, h⟩ := bd_ok h
  refine ro_seq (ro_asg 2 (ee_call (ea_cons (ee_nm 0 rfl) (ea_cons (ee_tup (ea_cons (ee_ixN 1 rfl ee_k rfl rfl) (ea_cons (ee_un (ee_ixN 1 rfl ee_k rfl rfl) pNeg_I) ea_nil)) (Nat.le_of_ble_eq_true rfl)) ea_nil)) (@k_point_product one (two.1, -two.2) _ hpoint_product1)) (by decide) (by decide)) ?_
  obtain ⟨norm2, hnorm2, h⟩ := bd_ok h
  refine ro_seq (ro_asg 3 (ee_call (ea_cons (ee_nm 1 rfl) ea_nil) (@k_norm two _ hnorm2)) (by decide) (by decide)) ?_
  obtain ⟨near3, hnear3, h⟩ := bd_ok h
  obtain ⟨near4, hnear4, h⟩ := bd_ok h
  obtain ⟨quotient5, hquotient5, h⟩ := bd_ok h
  refine ro_seq (ro_asg 4 (ee_eq (d' := (PyData.tuple [(PyData.int quotient5.1), (PyData.int quotient5.2)])) (ee_tup (ea_cons (ee_call (ea_cons (ee_ixN 2 rfl ee_k rfl rfl) (ea_cons (ee_nm 3 rfl) ea_nil)) (@k_near point_product1.1 norm2 _ hnear3)) (ea_cons (ee_call (ea_cons (ee_ixN 2 rfl ee_k rfl rfl) (ea_cons (ee_nm 3 rfl) ea_nil)) (@k_near point_product1.2 norm2 _ hnear4)) ea_nil)) (Nat.le_of_ble_eq_true rfl)) (by cases hquotient5; rfl)) (by decide) (by decide)) ?_
  obtain ⟨point_product6, hpoint_product6, h⟩ := bd_ok h
  refine ro_seq (ro_asg 5 (ee_call (ea_cons (ee_nm 4 rfl) (ea_cons (ee_nm 1 rfl) ea_nil)) (@k_point_product quotient5 two _ hpoint_product6)) (by decide) (by decide)) ?_
  have h := Option.some.inj h; subst h; exact (ro_wkR (ro_ret (ee_tup (ea_cons (ee_nm 4 rfl) (ea_cons (ee_tup (ea_cons (ee_bin (ee_ixN 0 rfl ee_k rfl rfl) (ee_ixN 5 rfl ee_k rfl rfl) pSub_I) (ea_cons (ee_bin (ee_ixN 0 rfl ee_k rfl rfl) (ee_ixN 5 rfl ee_k rfl rfl) pSub_I) ea_nil)) (Nat.le_of_ble_eq_true rfl)) ea_nil)) (Nat.le_of_ble_eq_true rfl))) trivial)

def F_plain_point_b1  (x_3 : Int) : ((Int × Int)) → Option (Lp ((Int × Int)) (Int × Int)) := fun point2 =>
  bd (cond (iLt (0 : Int) point2.1) (some (iLe (0 : Int) point2.2)) (some false)) fun v4 =>
  cond v4 (some (.rt point2)) (bd (some (-point2.2, point2.1)) fun point5 =>
  some (.nx point5))
def F_plain_point (point : (Int × Int)) : Option ((Int × Int)) :=
  bd (iRng1 (4 : Int)) fun l1 =>
  bd (foL (F_plain_point_b1) l1 point) fun s_6 =>
  sm s_6 (fun s_7 => some s_7) (fun r_8 => some r_8)
theorem k_plain_point {point : (Int × Int)} {r} (h : F_plain_point point = some r) : p_plain_point [(PyData.tuple [(PyData.int point.1), (PyData.int point.2)])] = some (PyData.tuple [(PyData.int r.1), (PyData.int r.2)]) := by
  unfold p_plain_point
  refine runP_of ⟨rfl, by decide⟩ ?_
  unfold b_plain_point
  unfold F_plain_point at h
  show RO' _ _ [(0, .va (PyData.tuple [(PyData.int point.1), (PyData.int point.2)]))] _ _
  obtain ⟨l1, hl1, h⟩ := bd_ok h
  obtain ⟨s_6, hs_6, h⟩ := bd_ok h
  rcases s_6 with s_7 | r_8
  · skip
    dsimp only [sm] at h
    refine ro_seq (ro_for (ei_rng1 ee_k hl1) (ro_pre (st2 := [(0, .va (PyData.tuple [(PyData.int point.1), (PyData.int point.2)]))]) ⟨.inl rfl, trivial⟩ (fo_L PyData.int (fun s : (Int × Int) => [(0, .va (PyData.tuple [(PyData.int s.1), (PyData.int s.2)]))]) (fun r : (Int × Int) => (PyData.tuple [(PyData.int r.1), (PyData.int r.2)])) (fun _ : (Int × Int) => []) (fun x_3 s => (eb_nm 1 (by decide) (by decide))) (fun x_3 point2 s2 h => by
      
      dsimp only [F_plain_point_b1] at h
      show RO' _ _ [(1, .va (PyData.int x_3)), (0, .va (PyData.tuple [(PyData.int point2.1), (PyData.int point2.2)]))] _ _
      refine ro_ifdist ?_
      obtain ⟨v4, hv4, h⟩ := bd_ok h
      rcases cond_ok h with ⟨hc, h⟩ | ⟨hc, h⟩
      · refine ro_ifT (et_an hv4 (et_b (ee_bin (ee_ixN 0 rfl ee_k rfl rfl) ee_k pGt_I)) (fun c h => by
    have h := Option.some.inj h; subst h; exact (et_b (ee_bin (ee_ixN 0 rfl ee_k rfl rfl) ee_k pGe_I)))) hc ?_
        have h := Option.some.inj h; subst h; exact (ro_seqR (ro_wkR (ro_ret (ee_nm 0 rfl)) trivial))
      · refine ro_ifF (et_an hv4 (et_b (ee_bin (ee_ixN 0 rfl ee_k rfl rfl) ee_k pGt_I)) (fun c h => by
    have h := Option.some.inj h; subst h; exact (et_b (ee_bin (ee_ixN 0 rfl ee_k rfl rfl) ee_k pGe_I)))) hc ?_
        refine ro_seq ro_skip ?_
        obtain ⟨point5, hpoint5, h⟩ := bd_ok h
        have h := Option.some.inj h; subst h; exact ro_nc (ro_wk (ro_asg 0 (ee_eq (d' := (PyData.tuple [(PyData.int point5.1), (PyData.int point5.2)])) (ee_tup (ea_cons (ee_un (ee_ixN 0 rfl ee_k rfl rfl) pNeg_I) (ea_cons (ee_ixN 0 rfl ee_k rfl rfl) ea_nil)) (Nat.le_of_ble_eq_true rfl)) (by cases hpoint5; rfl)) (by decide) (by decide)) ⟨.inl rfl, trivial⟩)) hs_6))) ?_
    have h := Option.some.inj h; subst h; exact (ro_wkR (ro_ret (ee_nm 0 rfl)) trivial)
  · skip
    dsimp only [sm] at h
    have h := Option.some.inj h; subst h; exact ro_seqR (ro_for (ei_rng1 ee_k hl1) (ro_pre (st2 := [(0, .va (PyData.tuple [(PyData.int point.1), (PyData.int point.2)]))]) ⟨.inl rfl, trivial⟩ (fo_L PyData.int (fun s : (Int × Int) => [(0, .va (PyData.tuple [(PyData.int s.1), (PyData.int s.2)]))]) (fun r : (Int × Int) => (PyData.tuple [(PyData.int r.1), (PyData.int r.2)])) (fun _ : (Int × Int) => []) (fun x_3 s => (eb_nm 1 (by decide) (by decide))) (fun x_3 point2 s2 h => by
      
      dsimp only [F_plain_point_b1] at h
      show RO' _ _ [(1, .va (PyData.int x_3)), (0, .va (PyData.tuple [(PyData.int point2.1), (PyData.int point2.2)]))] _ _
      refine ro_ifdist ?_
      obtain ⟨v4, hv4, h⟩ := bd_ok h
      rcases cond_ok h with ⟨hc, h⟩ | ⟨hc, h⟩
      · refine ro_ifT (et_an hv4 (et_b (ee_bin (ee_ixN 0 rfl ee_k rfl rfl) ee_k pGt_I)) (fun c h => by
    have h := Option.some.inj h; subst h; exact (et_b (ee_bin (ee_ixN 0 rfl ee_k rfl rfl) ee_k pGe_I)))) hc ?_
        have h := Option.some.inj h; subst h; exact (ro_seqR (ro_wkR (ro_ret (ee_nm 0 rfl)) trivial))
      · refine ro_ifF (et_an hv4 (et_b (ee_bin (ee_ixN 0 rfl ee_k rfl rfl) ee_k pGt_I)) (fun c h => by
    have h := Option.some.inj h; subst h; exact (et_b (ee_bin (ee_ixN 0 rfl ee_k rfl rfl) ee_k pGe_I)))) hc ?_
        refine ro_seq ro_skip ?_
        obtain ⟨point5, hpoint5, h⟩ := bd_ok h
        have h := Option.some.inj h; subst h; exact ro_nc (ro_wk (ro_asg 0 (ee_eq (d' := (PyData.tuple [(PyData.int point5.1), (PyData.int point5.2)])) (ee_tup (ea_cons (ee_un (ee_ixN 0 rfl ee_k rfl rfl) pNeg_I) (ea_cons (ee_ixN 0 rfl ee_k rfl rfl) ea_nil)) (Nat.le_of_ble_eq_true rfl)) (by cases hpoint5; rfl)) (by decide) (by decide)) ⟨.inl rfl, trivial⟩)) hs_6)))

def F_point_common_c1  : ((Int × Int) × (Int × Int)) → Option Bool := fun (one1, two2) =>
  some (!((fun x y : (Int × Int) => iEq x.1 y.1 && iEq x.2 y.2) two2 ((0 : Int), (0 : Int))))
def F_point_common_b1  : ((Int × Int) × (Int × Int)) → Option ((Int × Int) × (Int × Int)) := fun (one1, two2) =>
  bd (F_divided one1 two2) fun divided3 =>
  some (two2, divided3.2)
def F_point_common (one : (Int × Int)) (two : (Int × Int)) : Option ((Int × Int)) :=
  bd (whS (F_point_common_c1) (F_point_common_b1) 2000 (one, two)) fun s_4 =>
  bd (F_plain_point s_4.1) fun plain_point5 =>
  some plain_point5
theorem k_point_common {one : (Int × Int)} {two : (Int × Int)} {r} (h : F_point_common one two = some r) : p_point_common [(PyData.tuple [(PyData.int one.1), (PyData.int one.2)]), (PyData.tuple [(PyData.int two.1), (PyData.int two.2)])] = some (PyData.tuple [(PyData.int r.1), (PyData.int r.2)]) := by
  unfold p_point_common
  refine runP_of ⟨rfl, by decide⟩ ?_
  unfold b_point_common
  unfold F_point_common at h
  show RO' _ _ [(0, .va (PyData.tuple [(PyData.int one.1), (PyData.int one.2)])), (1, .va (PyData.tuple [(PyData.int two.1), (PyData.int two.2)]))] _ _
  obtain ⟨s_4, hs_4, h⟩ := bd_ok h
  refine ro_seq (ro_pre (st2 := [(0, .va (PyData.tuple [(PyData.int one.1), (PyData.int one.2)])), (1, .va (PyData.tuple [(PyData.int two.1), (PyData.int two.2)]))]) ⟨.inl rfl, .inl rfl, trivial⟩ (ro_whS (fun s : (Int × Int) × (Int × Int) => [(0, .va (PyData.tuple [(PyData.int s.1.1), (PyData.int s.1.2)])), (1, .va (PyData.tuple [(PyData.int s.2.1), (PyData.int s.2.2)]))]) (fun s v h => by
      obtain ⟨one1, two2⟩ := s; 
      dsimp only [F_point_common_c1] at h
      show ET _ _ [(0, .va (PyData.tuple [(PyData.int one1.1), (PyData.int one1.2)])), (1, .va (PyData.tuple [(PyData.int two2.1), (PyData.int two2.2)]))] _ v [(0, .va (PyData.tuple [(PyData.int one1.1), (PyData.int one1.2)])), (1, .va (PyData.tuple [(PyData.int two2.1), (PyData.int two2.2)]))]
      have h := Option.some.inj h; subst h; exact (et_b (ee_bin (ee_nm 1 rfl) (ee_tup (ea_cons ee_k (ea_cons ee_k ea_nil)) (Nat.le_of_ble_eq_true rfl)) (pNe_E (eqe_2 eqe_I eqe_I) (by decide) (x := two2) (y := ((0 : Int), (0 : Int))) rfl)))) (fun s s2 h => by
      obtain ⟨one1, two2⟩ := s; 
      dsimp only [F_point_common_b1] at h
      show RO' _ _ [(0, .va (PyData.tuple [(PyData.int one1.1), (PyData.int one1.2)])), (1, .va (PyData.tuple [(PyData.int two2.1), (PyData.int two2.2)]))] _ _
      obtain ⟨divided3, hdivided3, h⟩ := bd_ok h
      have h := Option.some.inj h; subst h; exact ro_wk (ro_asg2 0 1 (ea_cons (ee_nm 1 rfl) (ea_cons (ee_bin (ee_call (ea_cons (ee_nm 0 rfl) (ea_cons (ee_nm 1 rfl) ea_nil)) (@k_divided one1 two2 _ hdivided3)) ee_k rfl) ea_nil)) (by decide) (by decide) (by decide) (by decide)) ⟨.inl rfl, .inl rfl, trivial⟩) hs_4)) ?_
  obtain ⟨plain_point5, hplain_point5, h⟩ := bd_ok h
  have h := Option.some.inj h; subst h; exact (ro_wkR (ro_ret (ee_call (ea_cons (ee_nm 0 rfl) ea_nil) (@k_plain_point s_4.1 _ hplain_point5))) trivial)

def F_two_squares_c1 (n_ : Int) : (Int) → Option Bool := fun x_7 =>
  bd (imul x_7 x_7) fun v8 =>
  some (iLe v8 n_)
def F_two_squares_b1 (n_ : Int) : (Int) → Option (Lp (Int) (Option (Int × Int))) := fun x_7 =>
  bd (imul x_7 x_7) fun v9 =>
  bd (iSq (n_ - v9)) fun v10 =>
  bd (imul x_7 x_7) fun v11 =>
  bd (imul v10 v10) fun v12 =>
  bd (cond (iEq (v11 + v12) n_) (some (iLe v10 x_7)) (some false)) fun v13 =>
  cond v13 (some (.rt (some (x_7, v10)))) (bd (some (x_7 + (1 : Int))) fun x_14 =>
  some (.nx x_14))
def F_two_squares (n_ : Int) : Option ((Option (Int × Int))) :=
  bd (idiv n_ (2 : Int)) fun v1 =>
  bd (iSq v1) fun v2 =>
  bd (imul (2 : Int) v2) fun v3 =>
  bd (imul v3 v2) fun v4 =>
  bd (cond (iLt v4 n_) (bd (some (v2 + (1 : Int))) fun x_6 =>
  some x_6) (some v2)) fun j_5 =>
  bd (whL (F_two_squares_c1 n_) (F_two_squares_b1 n_) 2000 j_5) fun s_15 =>
  sm s_15 (fun s_16 => some (none : (Option (Int × Int)))) (fun r_17 => some r_17)
theorem k_two_squares {n_ : Int} {r} (h : F_two_squares n_ = some r) : p_two_squares [(PyData.int n_)] = some (eO (fun y : (Int × Int) => (PyData.tuple [(PyData.int y.1), (PyData.int y.2)])) r) := by
  unfold p_two_squares
  refine runP_of ⟨rfl, by decide⟩ ?_
  unfold b_two_squares
  unfold F_two_squares at h
  show RO' _ _ [(0, .va (PyData.int n_))] _ _
  obtain ⟨v1, hv1, h⟩ := bd_ok h
  obtain ⟨v2, hv2, h⟩ := bd_ok h
  refine ro_seq (ro_asg 1 (ee_call (ea_cons (ee_bin (ee_nm 0 rfl) ee_k (pDiv_I hv1)) ea_nil) (pIsq_I hv2)) (by decide) (by decide)) ?_
  obtain ⟨v3, hv3, h⟩ := bd_ok h
  obtain ⟨v4, hv4, h⟩ := bd_ok h
  obtain ⟨j_5, hj_5, h⟩ := bd_ok h
  refine ro_seq (st1 := [(0, .va (PyData.int n_)), (1, .va (PyData.int j_5))]) (by
    have h := hj_5
    rcases cond_ok h with ⟨hc, h⟩ | ⟨hc, h⟩
    · refine ro_ifT (et_b (ee_bin (ee_bin (ee_bin ee_k (ee_nm 1 rfl) (pMul_I hv3)) (ee_nm 1 rfl) (pMul_I hv4)) (ee_nm 0 rfl) pLt_I)) hc ?_
      obtain ⟨x_6, hx_6, h⟩ := bd_ok h
      have h := Option.some.inj h; subst h; exact ro_wk (ro_aug 1 rfl ee_k (show pAddI _ _ = some (PyData.int x_6) from by cases hx_6; rfl) (by decide)) ⟨.inl rfl, .inl rfl, trivial⟩
    · refine ro_ifF (et_b (ee_bin (ee_bin (ee_bin ee_k (ee_nm 1 rfl) (pMul_I hv3)) (ee_nm 1 rfl) (pMul_I hv4)) (ee_nm 0 rfl) pLt_I)) hc ?_
      have h := Option.some.inj h; subst h; exact ro_wk ro_skip ⟨.inl rfl, .inl rfl, trivial⟩) ?_
  obtain ⟨s_15, hs_15, h⟩ := bd_ok h
  rcases s_15 with s_16 | r_17
  · skip
    dsimp only [sm] at h
    refine ro_seq (ro_pre (st2 := [(0, .va (PyData.int n_)), (1, .va (PyData.int j_5))]) ⟨.inl rfl, .inl rfl, trivial⟩ (ro_whL (fun s : Int => [(0, .va (PyData.int n_)), (1, .va (PyData.int s))]) (fun r : (Option (Int × Int)) => (eO (fun y : (Int × Int) => (PyData.tuple [(PyData.int y.1), (PyData.int y.2)])) r)) (fun _ : (Option (Int × Int)) => []) (fun x_7 v h => by
      
      dsimp only [F_two_squares_c1] at h
      show ET _ _ [(0, .va (PyData.int n_)), (1, .va (PyData.int x_7))] _ v [(0, .va (PyData.int n_)), (1, .va (PyData.int x_7))]
      obtain ⟨v8, hv8, h⟩ := bd_ok h
      have h := Option.some.inj h; subst h; exact (et_b (ee_bin (ee_bin (ee_nm 1 rfl) (ee_nm 1 rfl) (pMul_I hv8)) (ee_nm 0 rfl) pLe_I))) (fun x_7 s2 h => by
      
      dsimp only [F_two_squares_b1] at h
      show RO' _ _ [(0, .va (PyData.int n_)), (1, .va (PyData.int x_7))] _ _
      obtain ⟨v9, hv9, h⟩ := bd_ok h
      obtain ⟨v10, hv10, h⟩ := bd_ok h
      refine ro_seq (ro_asg 2 (ee_call (ea_cons (ee_bin (ee_nm 0 rfl) (ee_bin (ee_nm 1 rfl) (ee_nm 1 rfl) (pMul_I hv9)) pSub_I) ea_nil) (pIsq_I hv10)) (by decide) (by decide)) ?_
      refine ro_ifdist ?_
      obtain ⟨v11, hv11, h⟩ := bd_ok h
      obtain ⟨v12, hv12, h⟩ := bd_ok h
      obtain ⟨v13, hv13, h⟩ := bd_ok h
      rcases cond_ok h with ⟨hc, h⟩ | ⟨hc, h⟩
      · refine ro_ifT (et_an hv13 (et_b (ee_bin (ee_bin (ee_bin (ee_nm 1 rfl) (ee_nm 1 rfl) (pMul_I hv11)) (ee_bin (ee_nm 2 rfl) (ee_nm 2 rfl) (pMul_I hv12)) pAdd_I) (ee_nm 0 rfl) pEq_I)) (fun c h => by
    have h := Option.some.inj h; subst h; exact (et_b (ee_bin (ee_nm 2 rfl) (ee_nm 1 rfl) pLe_I)))) hc ?_
        have h := Option.some.inj h; subst h; exact (ro_seqR (ro_wkR (ro_ret (ee_tup (ea_cons (ee_nm 1 rfl) (ea_cons (ee_nm 2 rfl) ea_nil)) (Nat.le_of_ble_eq_true rfl))) trivial))
      · refine ro_ifF (et_an hv13 (et_b (ee_bin (ee_bin (ee_bin (ee_nm 1 rfl) (ee_nm 1 rfl) (pMul_I hv11)) (ee_bin (ee_nm 2 rfl) (ee_nm 2 rfl) (pMul_I hv12)) pAdd_I) (ee_nm 0 rfl) pEq_I)) (fun c h => by
    have h := Option.some.inj h; subst h; exact (et_b (ee_bin (ee_nm 2 rfl) (ee_nm 1 rfl) pLe_I)))) hc ?_
        refine ro_seq ro_skip ?_
        obtain ⟨x_14, hx_14, h⟩ := bd_ok h
        have h := Option.some.inj h; subst h; exact ro_nc (ro_wk (ro_aug 1 rfl ee_k (show pAddI _ _ = some (PyData.int x_14) from by cases hx_14; rfl) (by decide)) ⟨.inl rfl, .inl rfl, trivial⟩)) hs_15)) ?_
    have h := Option.some.inj h; subst h; exact (ro_wkR (ro_ret ee_k) trivial)
  · skip
    dsimp only [sm] at h
    have h := Option.some.inj h; subst h; exact ro_seqR (ro_pre (st2 := [(0, .va (PyData.int n_)), (1, .va (PyData.int j_5))]) ⟨.inl rfl, .inl rfl, trivial⟩ (ro_whL (fun s : Int => [(0, .va (PyData.int n_)), (1, .va (PyData.int s))]) (fun r : (Option (Int × Int)) => (eO (fun y : (Int × Int) => (PyData.tuple [(PyData.int y.1), (PyData.int y.2)])) r)) (fun _ : (Option (Int × Int)) => []) (fun x_7 v h => by
      
      dsimp only [F_two_squares_c1] at h
      show ET _ _ [(0, .va (PyData.int n_)), (1, .va (PyData.int x_7))] _ v [(0, .va (PyData.int n_)), (1, .va (PyData.int x_7))]
      obtain ⟨v8, hv8, h⟩ := bd_ok h
      have h := Option.some.inj h; subst h; exact (et_b (ee_bin (ee_bin (ee_nm 1 rfl) (ee_nm 1 rfl) (pMul_I hv8)) (ee_nm 0 rfl) pLe_I))) (fun x_7 s2 h => by
      
      dsimp only [F_two_squares_b1] at h
      show RO' _ _ [(0, .va (PyData.int n_)), (1, .va (PyData.int x_7))] _ _
      obtain ⟨v9, hv9, h⟩ := bd_ok h
      obtain ⟨v10, hv10, h⟩ := bd_ok h
      refine ro_seq (ro_asg 2 (ee_call (ea_cons (ee_bin (ee_nm 0 rfl) (ee_bin (ee_nm 1 rfl) (ee_nm 1 rfl) (pMul_I hv9)) pSub_I) ea_nil) (pIsq_I hv10)) (by decide) (by decide)) ?_
      refine ro_ifdist ?_
      obtain ⟨v11, hv11, h⟩ := bd_ok h
      obtain ⟨v12, hv12, h⟩ := bd_ok h
      obtain ⟨v13, hv13, h⟩ := bd_ok h
      rcases cond_ok h with ⟨hc, h⟩ | ⟨hc, h⟩
      · refine ro_ifT (et_an hv13 (et_b (ee_bin (ee_bin (ee_bin (ee_nm 1 rfl) (ee_nm 1 rfl) (pMul_I hv11)) (ee_bin (ee_nm 2 rfl) (ee_nm 2 rfl) (pMul_I hv12)) pAdd_I) (ee_nm 0 rfl) pEq_I)) (fun c h => by
    have h := Option.some.inj h; subst h; exact (et_b (ee_bin (ee_nm 2 rfl) (ee_nm 1 rfl) pLe_I)))) hc ?_
        have h := Option.some.inj h; subst h; exact (ro_seqR (ro_wkR (ro_ret (ee_tup (ea_cons (ee_nm 1 rfl) (ea_cons (ee_nm 2 rfl) ea_nil)) (Nat.le_of_ble_eq_true rfl))) trivial))
      · refine ro_ifF (et_an hv13 (et_b (ee_bin (ee_bin (ee_bin (ee_nm 1 rfl) (ee_nm 1 rfl) (pMul_I hv11)) (ee_bin (ee_nm 2 rfl) (ee_nm 2 rfl) (pMul_I hv12)) pAdd_I) (ee_nm 0 rfl) pEq_I)) (fun c h => by
    have h := Option.some.inj h; subst h; exact (et_b (ee_bin (ee_nm 2 rfl) (ee_nm 1 rfl) pLe_I)))) hc ?_
        refine ro_seq ro_skip ?_
        obtain ⟨x_14, hx_14, h⟩ := bd_ok h
        have h := Option.some.inj h; subst h; exact ro_nc (ro_wk (ro_aug 1 rfl ee_k (show pAddI _ _ = some (PyData.int x_14) from by cases hx_14; rfl) (by decide)) ⟨.inl rfl, .inl rfl, trivial⟩)) hs_15))

def F_parts_of_c2 (p4 : Int) : (Int × Int) → Option Bool := fun (n_6, many7) =>
  bd (imod n_6 p4) fun v8 =>
  some (iEq v8 (0 : Int))
def F_parts_of_b2 (p4 : Int) : (Int × Int) → Option (Int × Int) := fun (n_6, many7) =>
  bd (idiv n_6 p4) fun n_9 =>
  bd (some (many7 + (1 : Int))) fun many10 =>
  some (n_9, many10)
def F_parts_of_c1  : (Int × (List (Int × Int)) × Int) → Option Bool := fun (n_2, found3, p4) =>
  bd (imul p4 p4) fun v5 =>
  some (iLe v5 n_2)
def F_parts_of_b1  : (Int × (List (Int × Int)) × Int) → Option (Int × (List (Int × Int)) × Int) := fun (n_2, found3, p4) =>
  bd (whS (F_parts_of_c2 p4) (F_parts_of_b2 p4) 2000 (n_2, (0 : Int))) fun s_11 =>
  bd (cond (iLt (0 : Int) s_11.2) (bd (lApp found3 (p4, s_11.2)) fun found13 =>
  some found13) (some found3)) fun j_12 =>
  bd (cond (iEq p4 (2 : Int)) (some (1 : Int)) (some (2 : Int))) fun v14 =>
  bd (some (p4 + v14)) fun p15 =>
  some (s_11.1, j_12, p15)
def F_parts_of (n_ : Int) : Option ((List (Int × Int))) :=
  bd (some ([] : (List (Int × Int)))) fun found1 =>
  bd (whS (F_parts_of_c1) (F_parts_of_b1) 2000 (n_, found1, (2 : Int))) fun s_16 =>
  bd (cond (iLt (1 : Int) s_16.1) (bd (lApp s_16.2.1 (s_16.1, (1 : Int))) fun found18 =>
  some found18) (some s_16.2.1)) fun j_17 =>
  some j_17
theorem k_parts_of {n_ : Int} {r} (h : F_parts_of n_ = some r) : p_parts_of [(PyData.int n_)] = some (PyData.tuple (List.map (fun y : (Int × Int) => (PyData.tuple [(PyData.int y.1), (PyData.int y.2)])) r)) := by
  unfold p_parts_of
  refine runP_of ⟨rfl, by decide⟩ ?_
  unfold b_parts_of
  unfold F_parts_of at h
  show RO' _ _ [(0, .va (PyData.int n_))] _ _
  obtain ⟨found1, hfound1, h⟩ := bd_ok h
  refine ro_seq (ro_asgO 1 (ee_eq (d' := (PyData.list (List.map (fun y : (Int × Int) => (PyData.tuple [(PyData.int y.1), (PyData.int y.2)])) found1))) (ee_lst ea_nil (Nat.le_of_ble_eq_true rfl)) (by cases hfound1; rfl)) (by decide) (by decide)) ?_
  refine ro_seq (ro_asg 2 ee_k (by decide) (by decide)) ?_
  obtain ⟨s_16, hs_16, h⟩ := bd_ok h
  refine ro_seq (ro_pre (st2 := [(0, .va (PyData.int n_)), (1, .ow (PyData.list (List.map (fun y : (Int × Int) => (PyData.tuple [(PyData.int y.1), (PyData.int y.2)])) found1))), (2, .va (PyData.int (2 : Int)))]) ⟨.inl rfl, .inl rfl, .inl rfl, trivial⟩ (ro_whS (fun s : Int × (List (Int × Int)) × Int => [(0, .va (PyData.int s.1)), (1, .ow (PyData.list (List.map (fun y : (Int × Int) => (PyData.tuple [(PyData.int y.1), (PyData.int y.2)])) s.2.1))), (2, .va (PyData.int s.2.2))]) (fun s v h => by
      obtain ⟨n_2, found3, p4⟩ := s; 
      dsimp only [F_parts_of_c1] at h
      show ET _ _ [(0, .va (PyData.int n_2)), (1, .ow (PyData.list (List.map (fun y : (Int × Int) => (PyData.tuple [(PyData.int y.1), (PyData.int y.2)])) found3))), (2, .va (PyData.int p4))] _ v [(0, .va (PyData.int n_2)), (1, .ow (PyData.list (List.map (fun y : (Int × Int) => (PyData.tuple [(PyData.int y.1), (PyData.int y.2)])) found3))), (2, .va (PyData.int p4))]
      obtain ⟨v5, hv5, h⟩ := bd_ok h
      have h := Option.some.inj h; subst h; exact (et_b (ee_bin (ee_bin (ee_nm 2 rfl) (ee_nm 2 rfl) (pMul_I hv5)) (ee_nm 0 rfl) pLe_I))) (fun s s2 h => by
      obtain ⟨n_2, found3, p4⟩ := s; 
      dsimp only [F_parts_of_b1] at h
      show RO' _ _ [(0, .va (PyData.int n_2)), (1, .ow (PyData.list (List.map (fun y : (Int × Int) => (PyData.tuple [(PyData.int y.1), (PyData.int y.2)])) found3))), (2, .va (PyData.int p4))] _ _
      refine ro_seq (ro_asg 3 ee_k (by decide) (by decide)) ?_
      obtain ⟨s_11, hs_11, h⟩ := bd_ok h
      refine ro_seq (ro_pre (st2 := [(0, .va (PyData.int n_2)), (1, .ow (PyData.list (List.map (fun y : (Int × Int) => (PyData.tuple [(PyData.int y.1), (PyData.int y.2)])) found3))), (2, .va (PyData.int p4)), (3, .va (PyData.int (0 : Int)))]) ⟨.inl rfl, .inl rfl, .inl rfl, .inl rfl, trivial⟩ (ro_whS (fun s : Int × Int => [(0, .va (PyData.int s.1)), (1, .ow (PyData.list (List.map (fun y : (Int × Int) => (PyData.tuple [(PyData.int y.1), (PyData.int y.2)])) found3))), (2, .va (PyData.int p4)), (3, .va (PyData.int s.2))]) (fun s v h => by
      obtain ⟨n_6, many7⟩ := s; 
      dsimp only [F_parts_of_c2] at h
      show ET _ _ [(0, .va (PyData.int n_6)), (1, .ow (PyData.list (List.map (fun y : (Int × Int) => (PyData.tuple [(PyData.int y.1), (PyData.int y.2)])) found3))), (2, .va (PyData.int p4)), (3, .va (PyData.int many7))] _ v [(0, .va (PyData.int n_6)), (1, .ow (PyData.list (List.map (fun y : (Int × Int) => (PyData.tuple [(PyData.int y.1), (PyData.int y.2)])) found3))), (2, .va (PyData.int p4)), (3, .va (PyData.int many7))]
      obtain ⟨v8, hv8, h⟩ := bd_ok h
      have h := Option.some.inj h; subst h; exact (et_b (ee_bin (ee_bin (ee_nm 0 rfl) (ee_nm 2 rfl) (pMod_I hv8)) ee_k pEq_I))) (fun s s2 h => by
      obtain ⟨n_6, many7⟩ := s; 
      dsimp only [F_parts_of_b2] at h
      show RO' _ _ [(0, .va (PyData.int n_6)), (1, .ow (PyData.list (List.map (fun y : (Int × Int) => (PyData.tuple [(PyData.int y.1), (PyData.int y.2)])) found3))), (2, .va (PyData.int p4)), (3, .va (PyData.int many7))] _ _
      obtain ⟨n_9, hn_9, h⟩ := bd_ok h
      refine ro_seq (ro_aug 0 rfl (ee_nm 2 rfl) (pDiv_I hn_9) (by decide)) ?_
      obtain ⟨many10, hmany10, h⟩ := bd_ok h
      have h := Option.some.inj h; subst h; exact ro_wk (ro_aug 3 rfl ee_k (show pAddI _ _ = some (PyData.int many10) from by cases hmany10; rfl) (by decide)) ⟨.inl rfl, .inl rfl, .inl rfl, .inl rfl, trivial⟩) hs_11)) ?_
      obtain ⟨j_12, hj_12, h⟩ := bd_ok h
      refine ro_seq (st1 := [(0, .va (PyData.int s_11.1)), (1, .ow (PyData.list (List.map (fun y : (Int × Int) => (PyData.tuple [(PyData.int y.1), (PyData.int y.2)])) j_12))), (2, .va (PyData.int p4)), (3, .va (PyData.int s_11.2))]) (by
        have h := hj_12
        rcases cond_ok h with ⟨hc, h⟩ | ⟨hc, h⟩
        · refine ro_ifT (et_b (ee_bin (ee_nm 3 rfl) ee_k pGt_I)) hc ?_
          obtain ⟨found13, hfound13, h⟩ := bd_ok h
          have h := Option.some.inj h; subst h; exact ro_wk (ro_expr (ee_appendL (fun y : (Int × Int) => (PyData.tuple [(PyData.int y.1), (PyData.int y.2)])) 1 (x := (p4, s_11.2)) rfl (ee_tup (ea_cons (ee_nm 2 rfl) (ea_cons (ee_nm 3 rfl) ea_nil)) (Nat.le_of_ble_eq_true rfl)) rfl hfound13)) ⟨.inl rfl, .inl rfl, .inl rfl, .inl rfl, trivial⟩
        · refine ro_ifF (et_b (ee_bin (ee_nm 3 rfl) ee_k pGt_I)) hc ?_
          have h := Option.some.inj h; subst h; exact ro_wk ro_skip ⟨.inl rfl, .inl rfl, .inl rfl, .inl rfl, trivial⟩) ?_
      obtain ⟨v14, hv14, h⟩ := bd_ok h
      obtain ⟨p15, hp15, h⟩ := bd_ok h
      have h := Option.some.inj h; subst h; exact ro_wk (ro_aug 2 rfl (ee_if PyData.int hv14 (et_b (ee_bin (ee_nm 2 rfl) ee_k pEq_I)) (fun c h => by
    have h := Option.some.inj h; subst h; exact ee_k) (fun c h => by
    have h := Option.some.inj h; subst h; exact ee_k)) (show pAddI _ _ = some (PyData.int p15) from by cases hp15; rfl) (by decide)) ⟨.inl rfl, .inl rfl, .inl rfl, trivial⟩) hs_16)) ?_
  obtain ⟨j_17, hj_17, h⟩ := bd_ok h
  refine ro_seq (st1 := [(0, .va (PyData.int s_16.1)), (1, .ow (PyData.list (List.map (fun y : (Int × Int) => (PyData.tuple [(PyData.int y.1), (PyData.int y.2)])) j_17))), (2, .va (PyData.int s_16.2.2))]) (by
    have h := hj_17
    rcases cond_ok h with ⟨hc, h⟩ | ⟨hc, h⟩
    · refine ro_ifT (et_b (ee_bin (ee_nm 0 rfl) ee_k pGt_I)) hc ?_
      obtain ⟨found18, hfound18, h⟩ := bd_ok h
      have h := Option.some.inj h; subst h; exact ro_wk (ro_expr (ee_appendL (fun y : (Int × Int) => (PyData.tuple [(PyData.int y.1), (PyData.int y.2)])) 1 (x := (s_16.1, (1 : Int))) rfl (ee_tup (ea_cons (ee_nm 0 rfl) (ea_cons ee_k ea_nil)) (Nat.le_of_ble_eq_true rfl)) rfl hfound18)) ⟨.inl rfl, .inl rfl, .inl rfl, trivial⟩
    · refine ro_ifF (et_b (ee_bin (ee_nm 0 rfl) ee_k pGt_I)) hc ?_
      have h := Option.some.inj h; subst h; exact ro_wk ro_skip ⟨.inl rfl, .inl rfl, .inl rfl, trivial⟩) ?_
  have h := Option.some.inj h; subst h; exact (ro_wkR (ro_ret (ee_call (ea_cons (ee_nmO 1 rfl) ea_nil) pTuple_L)) trivial)

def F_two_paper (n_ : Int) : Option ((Str × Int × Int)) :=
  bd (F_two_squares n_) fun two_squares1 =>
  cond (!two_squares1.isNone) (bd (two_squares1) fun v2 =>
  some (("squares" : Str), v2.1, v2.2)) (bd (F_parts_of n_) fun parts_of3 =>
  bd (coS (fun x_4 => bd (imod x_4.1 (4 : Int)) fun v5 =>
  bd (cond (iEq v5 (3 : Int)) (bd (imod x_4.2 (2 : Int)) fun v6 =>
  some (iEq v6 (1 : Int))) (some false)) fun v7 =>
  some v7) (fun x_4 => some (x_4.1, x_4.2)) parts_of3) fun l8 =>
  bd (cond (shortL parts_of3) (some ()) none) fun q9 =>
  bd (atI l8 (0 : Int)) fun v10 =>
  some (("bars" : Str), v10.1, v10.2))
theorem k_two_paper {n_ : Int} {r} (h : F_two_paper n_ = some r) : p_two_paper [(PyData.int n_)] = some (PyData.tuple [(PyData.str r.1), (PyData.int r.2.1), (PyData.int r.2.2)]) := by
  unfold p_two_paper
  refine runP_of ⟨rfl, by decide⟩ ?_
  unfold b_two_paper
  unfold F_two_paper at h
  show RO' _ _ [(0, .va (PyData.int n_))] _ _
  obtain ⟨two_squares1, htwo_squares1, h⟩ := bd_ok h
  refine ro_seq (ro_asg 1 (ee_call (ea_cons (ee_nm 0 rfl) ea_nil) (@k_two_squares n_ _ htwo_squares1)) (by decide) (by decide)) ?_
  refine ro_ifdist ?_
  rcases cond_ok h with ⟨hc, h⟩ | ⟨hc, h⟩
  · refine ro_ifT (et_b (ee_bin (ee_nm 1 rfl) ee_k (by show some (PyData.bool (!isNn _)) = _; rw [isNn_O (fun _ => rfl)]))) hc ?_
    obtain ⟨v2, hv2, h⟩ := bd_ok h
    have h := Option.some.inj h; subst h; exact (ro_seqR (ro_wkR (ro_ret (ee_tup (ea_cons ee_k (ea_starT (xs := [(PyData.int v2.1), (PyData.int v2.2)]) (ee_eq (ee_nm 1 rfl) (eO_ok hv2)) ea_nil)) (Nat.le_of_ble_eq_true rfl))) trivial))
  · refine ro_ifF (et_b (ee_bin (ee_nm 1 rfl) ee_k (by show some (PyData.bool (!isNn _)) = _; rw [isNn_O (fun _ => rfl)]))) hc ?_
    refine ro_seq ro_skip ?_
    obtain ⟨parts_of3, hparts_of3, h⟩ := bd_ok h
    obtain ⟨l8, hl8, h⟩ := bd_ok h
    obtain ⟨q9, hq9, h⟩ := bd_ok h
    have hq9 : shortL parts_of3 = true := by rcases cond_ok hq9 with ⟨q, _⟩ | ⟨_, q⟩; exact q; cases q
    obtain ⟨v10, hv10, h⟩ := bd_ok h
    have h := Option.some.inj h; subst h; exact (ro_wkR (ro_ret (ee_tup (ea_cons ee_k (ea_starT (xs := [(PyData.int v10.1), (PyData.int v10.2)]) (ee_bin (ee_lc (fun y : (Int × Int) => (PyData.tuple [(PyData.int y.1), (PyData.int y.2)])) (fun y : (Int × Int) => (PyData.tuple [(PyData.int y.1), (PyData.int y.2)])) (ei_Q (ee_call (ea_cons (ee_nm 0 rfl) ea_nil) (@k_parts_of n_ _ hparts_of3))) (by decide) (fun x_4 => (eb_tup (ebs_cons (eb_nm 2 (by decide) (by decide)) (ebs_cons (eb_nm 3 (by decide) (by decide)) ebs_nil)) rfl)) (fun x_4 _ h => by
      obtain ⟨v5, hv5, h⟩ := bd_ok h
      obtain ⟨v7, hv7, h⟩ := bd_ok h
      have h := Option.some.inj h; subst h; exact (et_an hv7 (et_b (ee_bin (ee_bin (ee_nm 2 rfl) ee_k (pMod_I hv5)) ee_k pEq_I)) (fun c h => by
    obtain ⟨v6, hv6, h⟩ := bd_ok h
    have h := Option.some.inj h; subst h; exact (et_b (ee_bin (ee_bin (ee_nm 3 rfl) ee_k (pMod_I hv6)) ee_k pEq_I))))) (fun x_4 _ h => by
      have h := Option.some.inj h; subst h; exact (ee_tup (ea_cons (ee_nm 2 rfl) (ea_cons (ee_nm 3 rfl) ea_nil)) (Nat.le_of_ble_eq_true rfl))) hl8 hq9 (fun _ => rfl)) ee_k (pIx_L (e := (fun y : (Int × Int) => (PyData.tuple [(PyData.int y.1), (PyData.int y.2)]))) hv10)) ea_nil)) (Nat.le_of_ble_eq_true rfl))) trivial)

def F_primes_over (p : Int) : Option ((List (Int × Int))) :=
  bd (imod p (4 : Int)) fun v1 =>
  cond (iEq v1 (3 : Int)) (some ([(p, (0 : Int))] : List (Int × Int))) (bd (F_two_squares p) fun two_squares2 =>
  bd (two_squares2) fun v3 =>
  bd (cond (iEq p (2 : Int)) (some ([((1 : Int), (1 : Int))] : List (Int × Int))) (some (lSortK false (fun z : (Int × Int) => [z.1, z.2]) ([(v3.1, v3.2), (v3.2, v3.1)] : List (Int × Int))))) fun v4 =>
  some v4)
theorem k_primes_over {p : Int} {r} (h : F_primes_over p = some r) : p_primes_over [(PyData.int p)] = some (PyData.list (List.map (fun y : (Int × Int) => (PyData.tuple [(PyData.int y.1), (PyData.int y.2)])) r)) := by
  unfold p_primes_over
  refine runP_of ⟨rfl, by decide⟩ ?_
  unfold b_primes_over
  unfold F_primes_over at h
  show RO' _ _ [(0, .va (PyData.int p))] _ _
  refine ro_ifdist ?_
  obtain ⟨v1, hv1, h⟩ := bd_ok h
  rcases cond_ok h with ⟨hc, h⟩ | ⟨hc, h⟩
  · refine ro_ifT (et_b (ee_bin (ee_bin (ee_nm 0 rfl) ee_k (pMod_I hv1)) ee_k pEq_I)) hc ?_
    have h := Option.some.inj h; subst h; exact (ro_seqR (ro_wkR (ro_ret (ee_lst (ea_cons (ee_tup (ea_cons (ee_nm 0 rfl) (ea_cons ee_k ea_nil)) (Nat.le_of_ble_eq_true rfl)) ea_nil) (Nat.le_of_ble_eq_true rfl))) trivial))
  · refine ro_ifF (et_b (ee_bin (ee_bin (ee_nm 0 rfl) ee_k (pMod_I hv1)) ee_k pEq_I)) hc ?_
    refine ro_seq ro_skip ?_
    obtain ⟨two_squares2, htwo_squares2, h⟩ := bd_ok h
    obtain ⟨v3, hv3, h⟩ := bd_ok h
    refine ro_seq (ro_asgB (ee_eq (ee_call (ea_cons (ee_nm 0 rfl) ea_nil) (@k_two_squares p _ htwo_squares2)) (eO_ok hv3)) (eb_tup (ebs_cons (eb_nm 1 (by decide) (by decide)) (ebs_cons (eb_nm 2 (by decide) (by decide)) ebs_nil)) rfl)) ?_
    obtain ⟨v4, hv4, h⟩ := bd_ok h
    have h := Option.some.inj h; subst h; exact (ro_wkR (ro_ret (ee_if (fun y : (List (Int × Int)) => (PyData.list (List.map (fun y : (Int × Int) => (PyData.tuple [(PyData.int y.1), (PyData.int y.2)])) y))) hv4 (et_b (ee_bin (ee_nm 0 rfl) ee_k pEq_I)) (fun c h => by
    have h := Option.some.inj h; subst h; exact (ee_lst (ea_cons (ee_tup (ea_cons ee_k (ea_cons ee_k ea_nil)) (Nat.le_of_ble_eq_true rfl)) ea_nil) (Nat.le_of_ble_eq_true rfl))) (fun c h => by
    have h := Option.some.inj h; subst h; exact (ee_call (ea_cons (ee_lst (ea_cons (ee_tup (ea_cons (ee_nm 1 rfl) (ea_cons (ee_nm 2 rfl) ea_nil)) (Nat.le_of_ble_eq_true rfl)) (ea_cons (ee_tup (ea_cons (ee_nm 2 rfl) (ea_cons (ee_nm 1 rfl) ea_nil)) (Nat.le_of_ble_eq_true rfl)) ea_nil)) (Nat.le_of_ble_eq_true rfl)) ea_nil) (pSortG_K (e := (fun y : (Int × Int) => (PyData.tuple [(PyData.int y.1), (PyData.int y.2)]))) (l := ([(v3.1, v3.2), (v3.2, v3.1)] : List (Int × Int))) (k := (fun z : (Int × Int) => [z.1, z.2])) (fun _ => rfl) (fun _ => ⟨_, _, rfl⟩)))))) trivial)

def F_dividing_prime_b2 (point : (Int × Int)) (x_5 : (Int × Int)) : (Unit) → Option (Lp (Unit) (Option ((Int × Int) × (Int × Int)))) := fun _ =>
  bd (F_divided point x_5) fun divided6 =>
  cond ((fun x y : (Int × Int) => iEq x.1 y.1 && iEq x.2 y.2) divided6.2 ((0 : Int), (0 : Int))) (some (.rt (some (x_5, divided6.1)))) (some (.nx ()))
def F_dividing_prime_b1 (point : (Int × Int)) (x_3 : (Int × Int)) : (Unit) → Option (Lp (Unit) (Option ((Int × Int) × (Int × Int)))) := fun _ =>
  bd (F_primes_over x_3.1) fun primes_over4 =>
  bd (foL (F_dividing_prime_b2 point) primes_over4 ()) fun s_7 =>
  sm s_7 (fun s_8 => some (.nx ())) (fun r_9 => some (.rt r_9))
def F_dividing_prime (point : (Int × Int)) : Option ((Option ((Int × Int) × (Int × Int)))) :=
  bd (F_norm point) fun norm1 =>
  bd (F_parts_of norm1) fun parts_of2 =>
  bd (foL (F_dividing_prime_b1 point) parts_of2 ()) fun s_10 =>
  sm s_10 (fun s_11 => some (none : (Option ((Int × Int) × (Int × Int))))) (fun r_12 => some r_12)
theorem k_dividing_prime {point : (Int × Int)} {r} (h : F_dividing_prime point = some r) : p_dividing_prime [(PyData.tuple [(PyData.int point.1), (PyData.int point.2)])] = some (eO (fun y : ((Int × Int) × (Int × Int)) => (PyData.tuple [(PyData.tuple [(PyData.int y.1.1), (PyData.int y.1.2)]), (PyData.tuple [(PyData.int y.2.1), (PyData.int y.2.2)])])) r) := by
  unfold p_dividing_prime
  refine runP_of ⟨rfl, by decide⟩ ?_
  unfold b_dividing_prime
  unfold F_dividing_prime at h
  show RO' _ _ [(0, .va (PyData.tuple [(PyData.int point.1), (PyData.int point.2)]))] _ _
  obtain ⟨norm1, hnorm1, h⟩ := bd_ok h
  obtain ⟨parts_of2, hparts_of2, h⟩ := bd_ok h
  obtain ⟨s_10, hs_10, h⟩ := bd_ok h
  rcases s_10 with s_11 | r_12
  · skip
    dsimp only [sm] at h
    refine ro_seq (ro_for (ei_Q (ee_call (ea_cons (ee_call (ea_cons (ee_nm 0 rfl) ea_nil) (@k_norm point _ hnorm1)) ea_nil) (@k_parts_of norm1 _ hparts_of2))) (ro_pre (st2 := [(0, .va (PyData.tuple [(PyData.int point.1), (PyData.int point.2)]))]) ⟨.inl rfl, trivial⟩ (fo_L (fun y : (Int × Int) => (PyData.tuple [(PyData.int y.1), (PyData.int y.2)])) (fun s : Unit => [(0, .va (PyData.tuple [(PyData.int point.1), (PyData.int point.2)]))]) (fun r : (Option ((Int × Int) × (Int × Int))) => (eO (fun y : ((Int × Int) × (Int × Int)) => (PyData.tuple [(PyData.tuple [(PyData.int y.1.1), (PyData.int y.1.2)]), (PyData.tuple [(PyData.int y.2.1), (PyData.int y.2.2)])])) r)) (fun _ : (Option ((Int × Int) × (Int × Int))) => []) (fun x_3 s => (eb_tup (ebs_cons (eb_nm 1 (by decide) (by decide)) (ebs_cons (eb_nm 2 (by decide) (by decide)) ebs_nil)) rfl)) (fun x_3 _ s2 h => by
      
      dsimp only [F_dividing_prime_b1] at h
      show RO' _ _ [(2, .va (PyData.int x_3.2)), (1, .va (PyData.int x_3.1)), (0, .va (PyData.tuple [(PyData.int point.1), (PyData.int point.2)]))] _ _
      obtain ⟨primes_over4, hprimes_over4, h⟩ := bd_ok h
      obtain ⟨s_7, hs_7, h⟩ := bd_ok h
      rcases s_7 with s_8 | r_9
      · skip
        dsimp only [sm] at h
        have h := Option.some.inj h; subst h; exact ro_nc (ro_wk (ro_for (ei_L (ee_call (ea_cons (ee_nm 1 rfl) ea_nil) (@k_primes_over x_3.1 _ hprimes_over4))) (ro_pre (st2 := [(0, .va (PyData.tuple [(PyData.int point.1), (PyData.int point.2)])), (1, .va (PyData.int x_3.1)), (2, .va (PyData.int x_3.2))]) ⟨.inl rfl, .inl rfl, .inl rfl, trivial⟩ (fo_L (fun y : (Int × Int) => (PyData.tuple [(PyData.int y.1), (PyData.int y.2)])) (fun s : Unit => [(0, .va (PyData.tuple [(PyData.int point.1), (PyData.int point.2)])), (1, .va (PyData.int x_3.1)), (2, .va (PyData.int x_3.2))]) (fun r : (Option ((Int × Int) × (Int × Int))) => (eO (fun y : ((Int × Int) × (Int × Int)) => (PyData.tuple [(PyData.tuple [(PyData.int y.1.1), (PyData.int y.1.2)]), (PyData.tuple [(PyData.int y.2.1), (PyData.int y.2.2)])])) r)) (fun _ : (Option ((Int × Int) × (Int × Int))) => []) (fun x_5 s => (eb_nm 3 (by decide) (by decide))) (fun x_5 _ s2 h => by
      
      dsimp only [F_dividing_prime_b2] at h
      show RO' _ _ [(3, .va (PyData.tuple [(PyData.int x_5.1), (PyData.int x_5.2)])), (0, .va (PyData.tuple [(PyData.int point.1), (PyData.int point.2)])), (1, .va (PyData.int x_3.1)), (2, .va (PyData.int x_3.2))] _ _
      obtain ⟨divided6, hdivided6, h⟩ := bd_ok h
      refine ro_seq (ro_asgB (ee_call (ea_cons (ee_nm 0 rfl) (ea_cons (ee_nm 3 rfl) ea_nil)) (@k_divided point x_5 _ hdivided6)) (eb_tup (ebs_cons (eb_nm 4 (by decide) (by decide)) (ebs_cons (eb_nm 5 (by decide) (by decide)) ebs_nil)) rfl)) ?_
      rcases cond_ok h with ⟨hc, h⟩ | ⟨hc, h⟩
      · refine ro_ifT (et_b (ee_bin (ee_nm 5 rfl) (ee_tup (ea_cons ee_k (ea_cons ee_k ea_nil)) (Nat.le_of_ble_eq_true rfl)) (pEq_E (eqe_2 eqe_I eqe_I) (by decide) (x := divided6.2) (y := ((0 : Int), (0 : Int))) rfl))) hc ?_
        have h := Option.some.inj h; subst h; exact (ro_wkR (ro_ret (ee_tup (ea_cons (ee_nm 3 rfl) (ea_cons (ee_nm 4 rfl) ea_nil)) (Nat.le_of_ble_eq_true rfl))) trivial)
      · refine ro_ifF (et_b (ee_bin (ee_nm 5 rfl) (ee_tup (ea_cons ee_k (ea_cons ee_k ea_nil)) (Nat.le_of_ble_eq_true rfl)) (pEq_E (eqe_2 eqe_I eqe_I) (by decide) (x := divided6.2) (y := ((0 : Int), (0 : Int))) rfl))) hc ?_
        have h := Option.some.inj h; subst h; exact ro_nc (ro_wk ro_skip ⟨.inl rfl, .inl rfl, .inl rfl, trivial⟩)) hs_7))) ⟨.inl rfl, trivial⟩)
      · skip
        dsimp only [sm] at h
        have h := Option.some.inj h; subst h; exact (ro_for (ei_L (ee_call (ea_cons (ee_nm 1 rfl) ea_nil) (@k_primes_over x_3.1 _ hprimes_over4))) (ro_pre (st2 := [(0, .va (PyData.tuple [(PyData.int point.1), (PyData.int point.2)])), (1, .va (PyData.int x_3.1)), (2, .va (PyData.int x_3.2))]) ⟨.inl rfl, .inl rfl, .inl rfl, trivial⟩ (fo_L (fun y : (Int × Int) => (PyData.tuple [(PyData.int y.1), (PyData.int y.2)])) (fun s : Unit => [(0, .va (PyData.tuple [(PyData.int point.1), (PyData.int point.2)])), (1, .va (PyData.int x_3.1)), (2, .va (PyData.int x_3.2))]) (fun r : (Option ((Int × Int) × (Int × Int))) => (eO (fun y : ((Int × Int) × (Int × Int)) => (PyData.tuple [(PyData.tuple [(PyData.int y.1.1), (PyData.int y.1.2)]), (PyData.tuple [(PyData.int y.2.1), (PyData.int y.2.2)])])) r)) (fun _ : (Option ((Int × Int) × (Int × Int))) => []) (fun x_5 s => (eb_nm 3 (by decide) (by decide))) (fun x_5 _ s2 h => by
      
      dsimp only [F_dividing_prime_b2] at h
      show RO' _ _ [(3, .va (PyData.tuple [(PyData.int x_5.1), (PyData.int x_5.2)])), (0, .va (PyData.tuple [(PyData.int point.1), (PyData.int point.2)])), (1, .va (PyData.int x_3.1)), (2, .va (PyData.int x_3.2))] _ _
      obtain ⟨divided6, hdivided6, h⟩ := bd_ok h
      refine ro_seq (ro_asgB (ee_call (ea_cons (ee_nm 0 rfl) (ea_cons (ee_nm 3 rfl) ea_nil)) (@k_divided point x_5 _ hdivided6)) (eb_tup (ebs_cons (eb_nm 4 (by decide) (by decide)) (ebs_cons (eb_nm 5 (by decide) (by decide)) ebs_nil)) rfl)) ?_
      rcases cond_ok h with ⟨hc, h⟩ | ⟨hc, h⟩
      · refine ro_ifT (et_b (ee_bin (ee_nm 5 rfl) (ee_tup (ea_cons ee_k (ea_cons ee_k ea_nil)) (Nat.le_of_ble_eq_true rfl)) (pEq_E (eqe_2 eqe_I eqe_I) (by decide) (x := divided6.2) (y := ((0 : Int), (0 : Int))) rfl))) hc ?_
        have h := Option.some.inj h; subst h; exact (ro_wkR (ro_ret (ee_tup (ea_cons (ee_nm 3 rfl) (ea_cons (ee_nm 4 rfl) ea_nil)) (Nat.le_of_ble_eq_true rfl))) trivial)
      · refine ro_ifF (et_b (ee_bin (ee_nm 5 rfl) (ee_tup (ea_cons ee_k (ea_cons ee_k ea_nil)) (Nat.le_of_ble_eq_true rfl)) (pEq_E (eqe_2 eqe_I eqe_I) (by decide) (x := divided6.2) (y := ((0 : Int), (0 : Int))) rfl))) hc ?_
        have h := Option.some.inj h; subst h; exact ro_nc (ro_wk ro_skip ⟨.inl rfl, .inl rfl, .inl rfl, trivial⟩)) hs_7)))) hs_10))) ?_
    have h := Option.some.inj h; subst h; exact (ro_wkR (ro_ret ee_k) trivial)
  · skip
    dsimp only [sm] at h
    have h := Option.some.inj h; subst h; exact ro_seqR (ro_for (ei_Q (ee_call (ea_cons (ee_call (ea_cons (ee_nm 0 rfl) ea_nil) (@k_norm point _ hnorm1)) ea_nil) (@k_parts_of norm1 _ hparts_of2))) (ro_pre (st2 := [(0, .va (PyData.tuple [(PyData.int point.1), (PyData.int point.2)]))]) ⟨.inl rfl, trivial⟩ (fo_L (fun y : (Int × Int) => (PyData.tuple [(PyData.int y.1), (PyData.int y.2)])) (fun s : Unit => [(0, .va (PyData.tuple [(PyData.int point.1), (PyData.int point.2)]))]) (fun r : (Option ((Int × Int) × (Int × Int))) => (eO (fun y : ((Int × Int) × (Int × Int)) => (PyData.tuple [(PyData.tuple [(PyData.int y.1.1), (PyData.int y.1.2)]), (PyData.tuple [(PyData.int y.2.1), (PyData.int y.2.2)])])) r)) (fun _ : (Option ((Int × Int) × (Int × Int))) => []) (fun x_3 s => (eb_tup (ebs_cons (eb_nm 1 (by decide) (by decide)) (ebs_cons (eb_nm 2 (by decide) (by decide)) ebs_nil)) rfl)) (fun x_3 _ s2 h => by
      
      dsimp only [F_dividing_prime_b1] at h
      show RO' _ _ [(2, .va (PyData.int x_3.2)), (1, .va (PyData.int x_3.1)), (0, .va (PyData.tuple [(PyData.int point.1), (PyData.int point.2)]))] _ _
      obtain ⟨primes_over4, hprimes_over4, h⟩ := bd_ok h
      obtain ⟨s_7, hs_7, h⟩ := bd_ok h
      rcases s_7 with s_8 | r_9
      · skip
        dsimp only [sm] at h
        have h := Option.some.inj h; subst h; exact ro_nc (ro_wk (ro_for (ei_L (ee_call (ea_cons (ee_nm 1 rfl) ea_nil) (@k_primes_over x_3.1 _ hprimes_over4))) (ro_pre (st2 := [(0, .va (PyData.tuple [(PyData.int point.1), (PyData.int point.2)])), (1, .va (PyData.int x_3.1)), (2, .va (PyData.int x_3.2))]) ⟨.inl rfl, .inl rfl, .inl rfl, trivial⟩ (fo_L (fun y : (Int × Int) => (PyData.tuple [(PyData.int y.1), (PyData.int y.2)])) (fun s : Unit => [(0, .va (PyData.tuple [(PyData.int point.1), (PyData.int point.2)])), (1, .va (PyData.int x_3.1)), (2, .va (PyData.int x_3.2))]) (fun r : (Option ((Int × Int) × (Int × Int))) => (eO (fun y : ((Int × Int) × (Int × Int)) => (PyData.tuple [(PyData.tuple [(PyData.int y.1.1), (PyData.int y.1.2)]), (PyData.tuple [(PyData.int y.2.1), (PyData.int y.2.2)])])) r)) (fun _ : (Option ((Int × Int) × (Int × Int))) => []) (fun x_5 s => (eb_nm 3 (by decide) (by decide))) (fun x_5 _ s2 h => by
      
      dsimp only [F_dividing_prime_b2] at h
      show RO' _ _ [(3, .va (PyData.tuple [(PyData.int x_5.1), (PyData.int x_5.2)])), (0, .va (PyData.tuple [(PyData.int point.1), (PyData.int point.2)])), (1, .va (PyData.int x_3.1)), (2, .va (PyData.int x_3.2))] _ _
      obtain ⟨divided6, hdivided6, h⟩ := bd_ok h
      refine ro_seq (ro_asgB (ee_call (ea_cons (ee_nm 0 rfl) (ea_cons (ee_nm 3 rfl) ea_nil)) (@k_divided point x_5 _ hdivided6)) (eb_tup (ebs_cons (eb_nm 4 (by decide) (by decide)) (ebs_cons (eb_nm 5 (by decide) (by decide)) ebs_nil)) rfl)) ?_
      rcases cond_ok h with ⟨hc, h⟩ | ⟨hc, h⟩
      · refine ro_ifT (et_b (ee_bin (ee_nm 5 rfl) (ee_tup (ea_cons ee_k (ea_cons ee_k ea_nil)) (Nat.le_of_ble_eq_true rfl)) (pEq_E (eqe_2 eqe_I eqe_I) (by decide) (x := divided6.2) (y := ((0 : Int), (0 : Int))) rfl))) hc ?_
        have h := Option.some.inj h; subst h; exact (ro_wkR (ro_ret (ee_tup (ea_cons (ee_nm 3 rfl) (ea_cons (ee_nm 4 rfl) ea_nil)) (Nat.le_of_ble_eq_true rfl))) trivial)
      · refine ro_ifF (et_b (ee_bin (ee_nm 5 rfl) (ee_tup (ea_cons ee_k (ea_cons ee_k ea_nil)) (Nat.le_of_ble_eq_true rfl)) (pEq_E (eqe_2 eqe_I eqe_I) (by decide) (x := divided6.2) (y := ((0 : Int), (0 : Int))) rfl))) hc ?_
        have h := Option.some.inj h; subst h; exact ro_nc (ro_wk ro_skip ⟨.inl rfl, .inl rfl, .inl rfl, trivial⟩)) hs_7))) ⟨.inl rfl, trivial⟩)
      · skip
        dsimp only [sm] at h
        have h := Option.some.inj h; subst h; exact (ro_for (ei_L (ee_call (ea_cons (ee_nm 1 rfl) ea_nil) (@k_primes_over x_3.1 _ hprimes_over4))) (ro_pre (st2 := [(0, .va (PyData.tuple [(PyData.int point.1), (PyData.int point.2)])), (1, .va (PyData.int x_3.1)), (2, .va (PyData.int x_3.2))]) ⟨.inl rfl, .inl rfl, .inl rfl, trivial⟩ (fo_L (fun y : (Int × Int) => (PyData.tuple [(PyData.int y.1), (PyData.int y.2)])) (fun s : Unit => [(0, .va (PyData.tuple [(PyData.int point.1), (PyData.int point.2)])), (1, .va (PyData.int x_3.1)), (2, .va (PyData.int x_3.2))]) (fun r : (Option ((Int × Int) × (Int × Int))) => (eO (fun y : ((Int × Int) × (Int × Int)) => (PyData.tuple [(PyData.tuple [(PyData.int y.1.1), (PyData.int y.1.2)]), (PyData.tuple [(PyData.int y.2.1), (PyData.int y.2.2)])])) r)) (fun _ : (Option ((Int × Int) × (Int × Int))) => []) (fun x_5 s => (eb_nm 3 (by decide) (by decide))) (fun x_5 _ s2 h => by
      
      dsimp only [F_dividing_prime_b2] at h
      show RO' _ _ [(3, .va (PyData.tuple [(PyData.int x_5.1), (PyData.int x_5.2)])), (0, .va (PyData.tuple [(PyData.int point.1), (PyData.int point.2)])), (1, .va (PyData.int x_3.1)), (2, .va (PyData.int x_3.2))] _ _
      obtain ⟨divided6, hdivided6, h⟩ := bd_ok h
      refine ro_seq (ro_asgB (ee_call (ea_cons (ee_nm 0 rfl) (ea_cons (ee_nm 3 rfl) ea_nil)) (@k_divided point x_5 _ hdivided6)) (eb_tup (ebs_cons (eb_nm 4 (by decide) (by decide)) (ebs_cons (eb_nm 5 (by decide) (by decide)) ebs_nil)) rfl)) ?_
      rcases cond_ok h with ⟨hc, h⟩ | ⟨hc, h⟩
      · refine ro_ifT (et_b (ee_bin (ee_nm 5 rfl) (ee_tup (ea_cons ee_k (ea_cons ee_k ea_nil)) (Nat.le_of_ble_eq_true rfl)) (pEq_E (eqe_2 eqe_I eqe_I) (by decide) (x := divided6.2) (y := ((0 : Int), (0 : Int))) rfl))) hc ?_
        have h := Option.some.inj h; subst h; exact (ro_wkR (ro_ret (ee_tup (ea_cons (ee_nm 3 rfl) (ea_cons (ee_nm 4 rfl) ea_nil)) (Nat.le_of_ble_eq_true rfl))) trivial)
      · refine ro_ifF (et_b (ee_bin (ee_nm 5 rfl) (ee_tup (ea_cons ee_k (ea_cons ee_k ea_nil)) (Nat.le_of_ble_eq_true rfl)) (pEq_E (eqe_2 eqe_I eqe_I) (by decide) (x := divided6.2) (y := ((0 : Int), (0 : Int))) rfl))) hc ?_
        have h := Option.some.inj h; subst h; exact ro_nc (ro_wk ro_skip ⟨.inl rfl, .inl rfl, .inl rfl, trivial⟩)) hs_7)))) hs_10)))

def F_point_parts_c1  : ((Int × Int) × (List (PV × PV))) → Option Bool := fun (point2, found3) =>
  bd (F_norm point2) fun norm4 =>
  some (iLt (1 : Int) norm4)
def F_point_parts_b1  : ((Int × Int) × (List (PV × PV))) → Option ((Int × Int) × (List (PV × PV))) := fun (point2, found3) =>
  bd (F_dividing_prime point2) fun dividing_prime5 =>
  bd (dividing_prime5) fun v6 =>
  bd (some ((dValT [.inl v6.1.1, .inl v6.1.2] found3).getD (PyData.int (0 : Int)))) fun v7 =>
  bd (asI v7) fun v8 =>
  bd (dPutTC [.inl v6.1.1, .inl v6.1.2] (PyData.int (v8 + (1 : Int))) found3) fun found9 =>
  some (v6.2, found9)
def F_point_parts (point : (Int × Int)) : Option (((Int × Int) × (List (PV × PV)))) :=
  bd (some ([] : List (PV × PV))) fun found1 =>
  bd (whS (F_point_parts_c1) (F_point_parts_b1) 2000 (point, found1)) fun s_10 =>
  bd (vLs (pSortG false [(PyData.dict ((PyData.none, PyData.none) :: s_10.2))])) fun v11 =>
  bd (coS (fun _ => some true) (fun x_12 => bd (keyT x_12) fun k13 =>
  bd (dValT k13 s_10.2) fun v14 =>
  some (x_12, v14)) v11) fun l15 =>
  bd (cond (shortL v11) (some ()) none) fun q16 =>
  some (s_10.1, l15)
theorem k_point_parts {point : (Int × Int)} {r} (h : F_point_parts point = some r) : p_point_parts [(PyData.tuple [(PyData.int point.1), (PyData.int point.2)])] = some (PyData.tuple [(PyData.tuple [(PyData.int r.1.1), (PyData.int r.1.2)]), (PyData.tuple (List.map (fun y : (PV × PV) => (PyData.tuple [y.1, y.2])) r.2))]) := by
  unfold p_point_parts
  refine runP_of ⟨rfl, by decide⟩ ?_
  unfold b_point_parts
  unfold F_point_parts at h
  show RO' _ _ [(0, .va (PyData.tuple [(PyData.int point.1), (PyData.int point.2)]))] _ _
  obtain ⟨found1, hfound1, h⟩ := bd_ok h
  refine ro_seq (ro_asgO 1 (ee_eq (d' := (PyData.dict ((PyData.none, PyData.none) :: found1))) ee_dt (by cases hfound1; rfl)) (by decide) (by decide)) ?_
  obtain ⟨s_10, hs_10, h⟩ := bd_ok h
  refine ro_seq (ro_pre (st2 := [(0, .va (PyData.tuple [(PyData.int point.1), (PyData.int point.2)])), (1, .ow (PyData.dict ((PyData.none, PyData.none) :: found1)))]) ⟨.inl rfl, .inl rfl, trivial⟩ (ro_whS (fun s : (Int × Int) × (List (PV × PV)) => [(0, .va (PyData.tuple [(PyData.int s.1.1), (PyData.int s.1.2)])), (1, .ow (PyData.dict ((PyData.none, PyData.none) :: s.2)))]) (fun s v h => by
      obtain ⟨point2, found3⟩ := s; 
      dsimp only [F_point_parts_c1] at h
      show ET _ _ [(0, .va (PyData.tuple [(PyData.int point2.1), (PyData.int point2.2)])), (1, .ow (PyData.dict ((PyData.none, PyData.none) :: found3)))] _ v [(0, .va (PyData.tuple [(PyData.int point2.1), (PyData.int point2.2)])), (1, .ow (PyData.dict ((PyData.none, PyData.none) :: found3)))]
      obtain ⟨norm4, hnorm4, h⟩ := bd_ok h
      have h := Option.some.inj h; subst h; exact (et_b (ee_bin (ee_call (ea_cons (ee_nm 0 rfl) ea_nil) (@k_norm point2 _ hnorm4)) ee_k pGt_I))) (fun s s2 h => by
      obtain ⟨point2, found3⟩ := s; 
      dsimp only [F_point_parts_b1] at h
      show RO' _ _ [(0, .va (PyData.tuple [(PyData.int point2.1), (PyData.int point2.2)])), (1, .ow (PyData.dict ((PyData.none, PyData.none) :: found3)))] _ _
      obtain ⟨dividing_prime5, hdividing_prime5, h⟩ := bd_ok h
      obtain ⟨v6, hv6, h⟩ := bd_ok h
      refine ro_seq (ro_asgB (ee_eq (ee_call (ea_cons (ee_nm 0 rfl) ea_nil) (@k_dividing_prime point2 _ hdividing_prime5)) (eO_ok hv6)) (eb_tup (ebs_cons (eb_nm 2 (by decide) (by decide)) (ebs_cons (eb_nm 0 (by decide) (by decide)) ebs_nil)) rfl)) ?_
      obtain ⟨v7, hv7, h⟩ := bd_ok h
      obtain ⟨v8, hv8, h⟩ := bd_ok h
      obtain ⟨found9, hfound9, h⟩ := bd_ok h
      have h := Option.some.inj h; subst h; exact ro_wk (ro_putIxTC 1 (ee_bin (ee_eq (ee_dGetT2C 1 rfl rfl (ee_nm 2 rfl) rfl ee_k rfl rfl hv7) (asI_ok hv8)) ee_k pAdd_I) rfl (ee_nm 2 rfl) rfl rfl hfound9) ⟨.inl rfl, .inl rfl, trivial⟩) hs_10)) ?_
  obtain ⟨v11, hv11, h⟩ := bd_ok h
  obtain ⟨l15, hl15, h⟩ := bd_ok h
  obtain ⟨q16, hq16, h⟩ := bd_ok h
  have hq16 : shortL v11 = true := by rcases cond_ok hq16 with ⟨q, _⟩ | ⟨_, q⟩; exact q; cases q
  have h := Option.some.inj h; subst h; exact (ro_wkR (ro_ret (ee_tup (ea_cons (ee_nm 0 rfl) (ea_cons (ee_tupG (fun y : PV => y) (fun y : (PV × PV) => (PyData.tuple [y.1, y.2])) (ei_L (ee_call (ea_cons (ee_nmO 1 rfl) ea_nil) (vLs_ok hv11))) (by decide) (fun x_12 => (eb_nm 2 (by decide) (by decide))) (fun _ _ h => by cases h; exact et_ys) (fun x_12 _ h => by
      obtain ⟨k13, hk13, h⟩ := bd_ok h
      obtain ⟨v14, hv14, h⟩ := bd_ok h
      have h := Option.some.inj h; subst h; exact (ee_tup (ea_cons (ee_nm 2 rfl) (ea_cons (ee_dIxT 1 rfl (ee_nm 2 rfl) hk13 rfl rfl hv14) ea_nil)) (Nat.le_of_ble_eq_true rfl))) hl15 hq16 (fun _ => rfl)) ea_nil)) (Nat.le_of_ble_eq_true rfl))) trivial)

def F_triples_up_to_c1 (n_ : Int) : ((List (Int × Int × Int)) × (List (Int × Int × Int))) → Option Bool := fun (found3, level4) =>
  some (iLt (0 : Int) (level4.length : Int))
def F_triples_up_to_b1 (n_ : Int) : ((List (Int × Int × Int)) × (List (Int × Int × Int))) → Option ((List (Int × Int × Int)) × (List (Int × Int × Int))) := fun (found3, level4) =>
  bd (coS (fun x_5 => some (iLe x_5.2.2 n_)) (fun x_5 => some x_5) level4) fun l6 =>
  bd (cond (shortL level4) (some ()) none) fun q7 =>
  bd (lCat found3 l6) fun found8 =>
  bd (coS2 (fun _ => some true) (fun x_9 => some ([("u" : Str), ("m" : Str), ("d" : Str)] : (List Str))) (fun _ _ => some true) (fun x_9 y_10 => bd (F_led_by x_9 y_10) fun led_by11 =>
  some led_by11) sizeLine l6) fun l12 =>
  some (found8, l12)
def F_triples_up_to (n_ : Int) : Option (PV) :=
  bd (some ([] : (List (Int × Int × Int)))) fun found1 =>
  bd (some ([((3 : Int), (4 : Int), (5 : Int))] : List (Int × Int × Int))) fun level2 =>
  bd (whS (F_triples_up_to_c1 n_) (F_triples_up_to_b1 n_) 2000 (found1, level2)) fun s_13 =>
  some (PyData.list (List.map (fun y : (Int × Int × Int) => (PyData.tuple [(PyData.int y.1), (PyData.int y.2.1), (PyData.int y.2.2)])) (lSortK false (fun z : (Int × Int × Int) => [z.1, z.2.1, z.2.2]) s_13.1)))
theorem k_triples_up_to {n_ : Int} {r} (h : F_triples_up_to n_ = some r) : p_triples_up_to [(PyData.int n_)] = some r := by
  unfold p_triples_up_to
  refine runP_of ⟨rfl, by decide⟩ ?_
  unfold b_triples_up_to
  unfold F_triples_up_to at h
  show RO' _ _ [(0, .va (PyData.int n_))] _ _
  obtain ⟨found1, hfound1, h⟩ := bd_ok h
  refine ro_seq (ro_asgO 1 (ee_eq (d' := (PyData.list (List.map (fun y : (Int × Int × Int) => (PyData.tuple [(PyData.int y.1), (PyData.int y.2.1), (PyData.int y.2.2)])) found1))) (ee_lst ea_nil (Nat.le_of_ble_eq_true rfl)) (by cases hfound1; rfl)) (by decide) (by decide)) ?_
  obtain ⟨level2, hlevel2, h⟩ := bd_ok h
  refine ro_seq (ro_asgO 2 (ee_eq (d' := (PyData.list (List.map (fun y : (Int × Int × Int) => (PyData.tuple [(PyData.int y.1), (PyData.int y.2.1), (PyData.int y.2.2)])) level2))) (ee_lst (ea_cons ee_k ea_nil) (Nat.le_of_ble_eq_true rfl)) (by cases hlevel2; rfl)) (by decide) (by decide)) ?_
  obtain ⟨s_13, hs_13, h⟩ := bd_ok h
  refine ro_seq (ro_pre (st2 := [(0, .va (PyData.int n_)), (1, .ow (PyData.list (List.map (fun y : (Int × Int × Int) => (PyData.tuple [(PyData.int y.1), (PyData.int y.2.1), (PyData.int y.2.2)])) found1))), (2, .ow (PyData.list (List.map (fun y : (Int × Int × Int) => (PyData.tuple [(PyData.int y.1), (PyData.int y.2.1), (PyData.int y.2.2)])) level2)))]) ⟨.inl rfl, .inl rfl, .inl rfl, trivial⟩ (ro_whS (fun s : (List (Int × Int × Int)) × (List (Int × Int × Int)) => [(0, .va (PyData.int n_)), (1, .ow (PyData.list (List.map (fun y : (Int × Int × Int) => (PyData.tuple [(PyData.int y.1), (PyData.int y.2.1), (PyData.int y.2.2)])) s.1))), (2, .ow (PyData.list (List.map (fun y : (Int × Int × Int) => (PyData.tuple [(PyData.int y.1), (PyData.int y.2.1), (PyData.int y.2.2)])) s.2)))]) (fun s v h => by
      obtain ⟨found3, level4⟩ := s; 
      dsimp only [F_triples_up_to_c1] at h
      show ET _ _ [(0, .va (PyData.int n_)), (1, .ow (PyData.list (List.map (fun y : (Int × Int × Int) => (PyData.tuple [(PyData.int y.1), (PyData.int y.2.1), (PyData.int y.2.2)])) found3))), (2, .ow (PyData.list (List.map (fun y : (Int × Int × Int) => (PyData.tuple [(PyData.int y.1), (PyData.int y.2.1), (PyData.int y.2.2)])) level4)))] _ v [(0, .va (PyData.int n_)), (1, .ow (PyData.list (List.map (fun y : (Int × Int × Int) => (PyData.tuple [(PyData.int y.1), (PyData.int y.2.1), (PyData.int y.2.2)])) found3))), (2, .ow (PyData.list (List.map (fun y : (Int × Int × Int) => (PyData.tuple [(PyData.int y.1), (PyData.int y.2.1), (PyData.int y.2.2)])) level4)))]
      have h := Option.some.inj h; subst h; exact (et_b (ee_bin (ee_lenN 2 rfl pLen_L) ee_k pGt_I))) (fun s s2 h => by
      obtain ⟨found3, level4⟩ := s; 
      dsimp only [F_triples_up_to_b1] at h
      show RO' _ _ [(0, .va (PyData.int n_)), (1, .ow (PyData.list (List.map (fun y : (Int × Int × Int) => (PyData.tuple [(PyData.int y.1), (PyData.int y.2.1), (PyData.int y.2.2)])) found3))), (2, .ow (PyData.list (List.map (fun y : (Int × Int × Int) => (PyData.tuple [(PyData.int y.1), (PyData.int y.2.1), (PyData.int y.2.2)])) level4)))] _ _
      obtain ⟨l6, hl6, h⟩ := bd_ok h
      obtain ⟨q7, hq7, h⟩ := bd_ok h
      have hq7 : shortL level4 = true := by rcases cond_ok hq7 with ⟨q, _⟩ | ⟨_, q⟩; exact q; cases q
      refine ro_seq (ro_asgO 2 (ee_lc (fun y : (Int × Int × Int) => (PyData.tuple [(PyData.int y.1), (PyData.int y.2.1), (PyData.int y.2.2)])) (fun y : (Int × Int × Int) => (PyData.tuple [(PyData.int y.1), (PyData.int y.2.1), (PyData.int y.2.2)])) (ei_L (ee_nmO 2 rfl)) (by decide) (fun x_5 => (eb_nm 3 (by decide) (by decide))) (fun x_5 _ h => by
      have h := Option.some.inj h; subst h; exact (et_b (ee_bin (ee_ixN 3 rfl ee_k rfl rfl) (ee_nm 0 rfl) pLe_I))) (fun x_5 _ h => by
      have h := Option.some.inj h; subst h; exact (ee_nm 3 rfl)) hl6 hq7 (fun _ => rfl)) (by decide) (by decide)) ?_
      obtain ⟨found8, hfound8, h⟩ := bd_ok h
      refine ro_seq (ro_expr (ee_extendAL (fun y : (Int × Int × Int) => (PyData.tuple [(PyData.int y.1), (PyData.int y.2.1), (PyData.int y.2.2)])) 1 (m := l6) rfl (ee_nmO 2 rfl) rfl hfound8)) ?_
      obtain ⟨l12, hl12, h⟩ := bd_ok h
      have h := Option.some.inj h; subst h; exact ro_wk (ro_asgO 2 (ee_lc2 (fun y : (Int × Int × Int) => (PyData.tuple [(PyData.int y.1), (PyData.int y.2.1), (PyData.int y.2.2)])) PyData.str (fun y : (Int × Int × Int) => (PyData.tuple [(PyData.int y.1), (PyData.int y.2.1), (PyData.int y.2.2)])) (ei_L (ee_nm 2 rfl)) (by decide) (fun x_9 => (eb_nm 3 (by decide) (by decide))) (fun _ _ h => by cases h; exact et_ys) (fun x_9 _ h => by
      have h := Option.some.inj h; subst h; exact (ei_Q ee_k)) (fun x_9 y_10 => (eb_nm 4 (by decide) (by decide))) (fun _ _ _ h => by cases h; exact et_ys) (fun x_9 y_10 _ h => by
      obtain ⟨led_by11, hled_by11, h⟩ := bd_ok h
      have h := Option.some.inj h; subst h; exact (ee_call (ea_cons (ee_nm 3 rfl) (ea_cons (ee_nm 4 rfl) ea_nil)) (@k_led_by x_9 y_10 _ hled_by11))) hl12 (fun _ _ => rfl) (fun _ => rfl) (fun _ => rfl)) (by decide) (by decide)) ⟨.inl rfl, .inl rfl, .inl rfl, trivial⟩) hs_13)) ?_
  have h := Option.some.inj h; subst h; exact (ro_wkR (ro_ret (ee_call (ea_cons (ee_nmO 1 rfl) ea_nil) (pSortG_K (e := (fun y : (Int × Int × Int) => (PyData.tuple [(PyData.int y.1), (PyData.int y.2.1), (PyData.int y.2.2)]))) (l := s_13.1) (k := (fun z : (Int × Int × Int) => [z.1, z.2.1, z.2.2])) (fun _ => rfl) (fun _ => ⟨_, _, rfl⟩)))) trivial)

def F_common_b1  (x_3 : PV) : (Int) → Option (Int) := fun found2 =>
  bd (asI x_3) fun v4 =>
  bd (some (iGcd found2 v4)) fun found5 =>
  some found5
def F_common (row : PV) : Option (Int) :=
  bd (vItems row) fun l1 =>
  bd (foS (F_common_b1) l1 (0 : Int)) fun s_6 =>
  some s_6
theorem k_common {row : PV} {r} (h : F_common row = some r) : p_common [row] = some (PyData.int r) := by
  unfold p_common
  refine runP_of ⟨rfl, by decide⟩ ?_
  unfold b_common
  unfold F_common at h
  show RO' _ _ [(0, .va row)] _ _
  refine ro_seq (ro_asg 1 ee_k (by decide) (by decide)) ?_
  obtain ⟨l1, hl1, h⟩ := bd_ok h
  obtain ⟨s_6, hs_6, h⟩ := bd_ok h
  refine ro_seq (ro_for (ei_V (ee_nm 0 rfl) hl1) (ro_pre (st2 := [(0, .va row), (1, .va (PyData.int (0 : Int)))]) ⟨.inl rfl, .inl rfl, trivial⟩ (fo_S (fun y : PV => y) (fun s : Int => [(0, .va row), (1, .va (PyData.int s))]) (fun x_3 s => (eb_nm 2 (by decide) (by decide))) (fun x_3 found2 s2 h => by
      
      dsimp only [F_common_b1] at h
      show RO' _ _ [(2, .va x_3), (0, .va row), (1, .va (PyData.int found2))] _ _
      obtain ⟨v4, hv4, h⟩ := bd_ok h
      obtain ⟨found5, hfound5, h⟩ := bd_ok h
      have h := Option.some.inj h; subst h; exact ro_wk (ro_asg 1 (ee_eq (d' := (PyData.int found5)) (ee_call (ea_cons (ee_nm 1 rfl) (ea_cons (ee_eq (ee_nm 2 rfl) (asI_ok hv4)) ea_nil)) pGcd_I) (by cases hfound5; rfl)) (by decide) (by decide)) ⟨.inl rfl, .inl rfl, trivial⟩) hs_6))) ?_
  have h := Option.some.inj h; subst h; exact (ro_wkR (ro_ret (ee_nm 1 rfl)) trivial)

def F_is_triple (value : PV) : Option (Bool) :=
  bd (F_is_row value (3 : Int)) fun is_row1 =>
  bd (cond (!(is_row1)) (some true) (bd (pMinA [value]) fun v2 =>
  bd (asI v2) fun v3 =>
  some (iLt v3 (1 : Int)))) fun v4 =>
  cond v4 (some false) (bd (as3I value) fun v5 =>
  bd (imod v5.1 (2 : Int)) fun v6 =>
  bd (cond (iEq v6 (1 : Int)) (bd (imul v5.1 v5.1) fun v7 =>
  bd (imul v5.2.1 v5.2.1) fun v8 =>
  bd (imul v5.2.2 v5.2.2) fun v9 =>
  bd (cond (iEq (v7 + v8) v9) (bd (F_common value) fun common10 =>
  some (iEq common10 (1 : Int))) (some false)) fun v11 =>
  some v11) (some false)) fun v12 =>
  some v12)
theorem k_is_triple {value : PV} {r} (h : F_is_triple value = some r) : p_is_triple [value] = some (PyData.bool r) := by
  unfold p_is_triple
  refine runP_of ⟨rfl, by decide⟩ ?_
  unfold b_is_triple
  unfold F_is_triple at h
  show RO' _ _ [(0, .va value)] _ _
  refine ro_ifdist ?_
  obtain ⟨is_row1, his_row1, h⟩ := bd_ok h
  obtain ⟨v4, hv4, h⟩ := bd_ok h
  rcases cond_ok h with ⟨hc, h⟩ | ⟨hc, h⟩
  · refine ro_ifT (et_or hv4 (et_nt (et_tr (ee_call (ea_cons (ee_nm 0 rfl) (ea_cons ee_k ea_nil)) (@k_is_row value (3 : Int) _ his_row1)) rfl)) (fun c h => by
    obtain ⟨v2, hv2, h⟩ := bd_ok h
    obtain ⟨v3, hv3, h⟩ := bd_ok h
    have h := Option.some.inj h; subst h; exact (et_b (ee_bin (ee_eq (ee_call (ea_cons (ee_nm 0 rfl) ea_nil) hv2) (asI_ok hv3)) ee_k pLt_I)))) hc ?_
    have h := Option.some.inj h; subst h; exact (ro_seqR (ro_wkR (ro_ret ee_k) trivial))
  · refine ro_ifF (et_or hv4 (et_nt (et_tr (ee_call (ea_cons (ee_nm 0 rfl) (ea_cons ee_k ea_nil)) (@k_is_row value (3 : Int) _ his_row1)) rfl)) (fun c h => by
    obtain ⟨v2, hv2, h⟩ := bd_ok h
    obtain ⟨v3, hv3, h⟩ := bd_ok h
    have h := Option.some.inj h; subst h; exact (et_b (ee_bin (ee_eq (ee_call (ea_cons (ee_nm 0 rfl) ea_nil) hv2) (asI_ok hv3)) ee_k pLt_I)))) hc ?_
    refine ro_seq ro_skip ?_
    obtain ⟨v5, hv5, h⟩ := bd_ok h
    refine ro_seq (ro_asgB (ee_eq (ee_nm 0 rfl) (as3I_ok hv5)) (eb_tup (ebs_cons (eb_nm 1 (by decide) (by decide)) (ebs_cons (eb_nm 2 (by decide) (by decide)) (ebs_cons (eb_nm 3 (by decide) (by decide)) ebs_nil))) rfl)) ?_
    obtain ⟨v6, hv6, h⟩ := bd_ok h
    obtain ⟨v12, hv12, h⟩ := bd_ok h
    have h := Option.some.inj h; subst h; exact (ro_wkR (ro_ret (ee_an hv12 (ee_bin (ee_bin (ee_nm 1 rfl) ee_k (pMod_I hv6)) ee_k pEq_I) (fun c h => by
    obtain ⟨v7, hv7, h⟩ := bd_ok h
    obtain ⟨v8, hv8, h⟩ := bd_ok h
    obtain ⟨v9, hv9, h⟩ := bd_ok h
    obtain ⟨v11, hv11, h⟩ := bd_ok h
    have h := Option.some.inj h; subst h; exact (ee_an hv11 (ee_bin (ee_bin (ee_bin (ee_nm 1 rfl) (ee_nm 1 rfl) (pMul_I hv7)) (ee_bin (ee_nm 2 rfl) (ee_nm 2 rfl) (pMul_I hv8)) pAdd_I) (ee_bin (ee_nm 3 rfl) (ee_nm 3 rfl) (pMul_I hv9)) pEq_I) (fun c h => by
    obtain ⟨common10, hcommon10, h⟩ := bd_ok h
    have h := Option.some.inj h; subst h; exact (ee_bin (ee_call (ea_cons (ee_nm 0 rfl) ea_nil) (@k_common value _ hcommon10)) ee_k pEq_I)))))) trivial)

def F__law_abs (a : Int) : Option (Int) :=
  bd (cond (iLe (0 : Int) a) (some a) (some ((0 : Int) - a))) fun v1 =>
  some v1
theorem k__law_abs {a : Int} {r} (h : F__law_abs a = some r) : p__law_abs [(PyData.int a)] = some (PyData.int r) := by
  unfold p__law_abs
  refine runP_of ⟨rfl, by decide⟩ ?_
  unfold b__law_abs
  unfold F__law_abs at h
  show RO' _ _ [(0, .va (PyData.int a))] _ _
  obtain ⟨v1, hv1, h⟩ := bd_ok h
  have h := Option.some.inj h; subst h; exact (ro_wkR (ro_ret (ee_if PyData.int hv1 (et_b (ee_bin (ee_nm 0 rfl) ee_k pGe_I)) (fun c h => by
    have h := Option.some.inj h; subst h; exact (ee_nm 0 rfl)) (fun c h => by
    have h := Option.some.inj h; subst h; exact (ee_bin ee_k (ee_nm 0 rfl) pSub_I)))) trivial)

def F__law_common_b1  (x_4 : Int) : (Int × Int) → Option (Lp (Int × Int) Int) := fun (a2, b3) =>
  cond (iEq b3 (0 : Int)) (some (.rt a2)) (bd (imod a2 b3) fun v5 =>
  some (.nx (b3, v5)))
def F__law_common (a : Int) (b : Int) : Option (Int) :=
  bd (iRng1 (2000 : Int)) fun l1 =>
  bd (foL (F__law_common_b1) l1 (a, b)) fun s_6 =>
  sm s_6 (fun s_7 => some s_7.1) (fun r_8 => some r_8)
theorem k__law_common {a : Int} {b : Int} {r} (h : F__law_common a b = some r) : p__law_common [(PyData.int a), (PyData.int b)] = some (PyData.int r) := by
  unfold p__law_common
  refine runP_of ⟨rfl, by decide⟩ ?_
  unfold b__law_common
  unfold F__law_common at h
  show RO' _ _ [(0, .va (PyData.int a)), (1, .va (PyData.int b))] _ _
  obtain ⟨l1, hl1, h⟩ := bd_ok h
  obtain ⟨s_6, hs_6, h⟩ := bd_ok h
  rcases s_6 with s_7 | r_8
  · skip
    dsimp only [sm] at h
    refine ro_seq (ro_for (ei_rng1 ee_k hl1) (ro_pre (st2 := [(0, .va (PyData.int a)), (1, .va (PyData.int b))]) ⟨.inl rfl, .inl rfl, trivial⟩ (fo_L PyData.int (fun s : Int × Int => [(0, .va (PyData.int s.1)), (1, .va (PyData.int s.2))]) (fun r : Int => (PyData.int r)) (fun _ : Int => []) (fun x_4 s => (eb_nm 2 (by decide) (by decide))) (fun x_4 s s2 h => by
      obtain ⟨a2, b3⟩ := s; 
      dsimp only [F__law_common_b1] at h
      show RO' _ _ [(2, .va (PyData.int x_4)), (0, .va (PyData.int a2)), (1, .va (PyData.int b3))] _ _
      refine ro_ifdist ?_
      rcases cond_ok h with ⟨hc, h⟩ | ⟨hc, h⟩
      · refine ro_ifT (et_b (ee_bin (ee_nm 1 rfl) ee_k pEq_I)) hc ?_
        have h := Option.some.inj h; subst h; exact (ro_seqR (ro_wkR (ro_ret (ee_nm 0 rfl)) trivial))
      · refine ro_ifF (et_b (ee_bin (ee_nm 1 rfl) ee_k pEq_I)) hc ?_
        refine ro_seq ro_skip ?_
        obtain ⟨v5, hv5, h⟩ := bd_ok h
        refine ro_seq (ro_asg 3 (ee_bin (ee_call (ea_cons (ee_nm 0 rfl) ea_nil) rfl) (ee_nm 1 rfl) (pMod_I hv5)) (by decide) (by decide)) ?_
        refine ro_seq (ro_asg 0 (ee_nm 1 rfl) (by decide) (by decide)) ?_
        have h := Option.some.inj h; subst h; exact ro_nc (ro_wk (ro_asg 1 (ee_nm 3 rfl) (by decide) (by decide)) ⟨.inl rfl, .inl rfl, trivial⟩)) hs_6))) ?_
    have h := Option.some.inj h; subst h; exact (ro_wkR (ro_ret (ee_nm 0 rfl)) trivial)
  · skip
    dsimp only [sm] at h
    have h := Option.some.inj h; subst h; exact ro_seqR (ro_for (ei_rng1 ee_k hl1) (ro_pre (st2 := [(0, .va (PyData.int a)), (1, .va (PyData.int b))]) ⟨.inl rfl, .inl rfl, trivial⟩ (fo_L PyData.int (fun s : Int × Int => [(0, .va (PyData.int s.1)), (1, .va (PyData.int s.2))]) (fun r : Int => (PyData.int r)) (fun _ : Int => []) (fun x_4 s => (eb_nm 2 (by decide) (by decide))) (fun x_4 s s2 h => by
      obtain ⟨a2, b3⟩ := s; 
      dsimp only [F__law_common_b1] at h
      show RO' _ _ [(2, .va (PyData.int x_4)), (0, .va (PyData.int a2)), (1, .va (PyData.int b3))] _ _
      refine ro_ifdist ?_
      rcases cond_ok h with ⟨hc, h⟩ | ⟨hc, h⟩
      · refine ro_ifT (et_b (ee_bin (ee_nm 1 rfl) ee_k pEq_I)) hc ?_
        have h := Option.some.inj h; subst h; exact (ro_seqR (ro_wkR (ro_ret (ee_nm 0 rfl)) trivial))
      · refine ro_ifF (et_b (ee_bin (ee_nm 1 rfl) ee_k pEq_I)) hc ?_
        refine ro_seq ro_skip ?_
        obtain ⟨v5, hv5, h⟩ := bd_ok h
        refine ro_seq (ro_asg 3 (ee_bin (ee_call (ea_cons (ee_nm 0 rfl) ea_nil) rfl) (ee_nm 1 rfl) (pMod_I hv5)) (by decide) (by decide)) ?_
        refine ro_seq (ro_asg 0 (ee_nm 1 rfl) (by decide) (by decide)) ?_
        have h := Option.some.inj h; subst h; exact ro_nc (ro_wk (ro_asg 1 (ee_nm 3 rfl) (by decide) (by decide)) ⟨.inl rfl, .inl rfl, trivial⟩)) hs_6)))

def F_law (script : PV) : Option (Bool) :=
  bd (p__law_pool [script]) fun P1 =>
  bd (drw p__law_draw P1 (6 : Int)) fun d2 =>
  bd (iRng1 d2.2) fun l3 =>
  bd (coP (fun x_4 t5 => bd (drw p__law_draw t5 (3 : Int)) fun d6 =>
  bd (vS (pIx (PyData.str ("umd" : Str)) (PyData.int d6.2))) fun v7 =>
  some (v7, d6.1)) l3 d2.1) fun l8 =>
  bd (cond (shortL l3) (some ()) none) fun q9 =>
  bd (vS (pJoin ("" : Str) (PyData.list (List.map PyData.str l8.1)))) fun v10 =>
  bd (F_triple_at v10) fun triple_at11 =>
  bd (F_check_nought ((1 : Int), (1 : Int), (-1 : Int)) (("nought" : Str), (triple_at11.1, triple_at11.2.1, triple_at11.2.2))) fun check_nought12 =>
  bd (cond (!(check_nought12)) (some true) (bd (F_triple_path (PyData.tuple [(PyData.int triple_at11.1), (PyData.int triple_at11.2.1), (PyData.int triple_at11.2.2)])) fun triple_path13 =>
  some (!(sEq triple_path13 v10)))) fun v14 =>
  cond v14 (some false) (bd (F_point_common (triple_at11.1, triple_at11.2.1) (triple_at11.2.2, (0 : Int))) fun point_common15 =>
  bd (F_point_product point_common15 point_common15) fun point_product16 =>
  bd (F_norm point_common15) fun norm17 =>
  bd (cond (!(iEq norm17 triple_at11.2.2)) (some true) (bd (F_plain_point point_product16) fun plain_point18 =>
  bd (F_plain_point (triple_at11.1, triple_at11.2.1)) fun plain_point19 =>
  bd (F_plain_point (triple_at11.1, (0 : Int) - triple_at11.2.1)) fun plain_point20 =>
  bd (vB (pInT not (PyData.tuple [(PyData.int plain_point18.1), (PyData.int plain_point18.2)]) (PyData.tuple [(PyData.tuple [(PyData.int plain_point19.1), (PyData.int plain_point19.2)]), (PyData.tuple [(PyData.int plain_point20.1), (PyData.int plain_point20.2)])]))) fun v21 =>
  some v21)) fun v22 =>
  cond v22 (some false) (bd (ipow (10 : Int) (6 : Int)) fun v23 =>
  bd (cond (iLt triple_at11.2.2 v23) (bd (F_two_paper triple_at11.2.2) fun two_paper24 =>
  bd (cond (!(sEq two_paper24.1 ("squares" : Str))) (some true) (bd (F_parts_of triple_at11.2.2) fun parts_of25 =>
  bd (coS (fun x_26 => bd (imod x_26.1 (4 : Int)) fun v27 =>
  some (!(iEq v27 (1 : Int)))) (fun x_26 => some x_26.1) parts_of25) fun l28 =>
  bd (cond (shortL parts_of25) (some ()) none) fun q29 =>
  some (iLt (0 : Int) (l28.length : Int)))) fun v30 =>
  some v30) (some false)) fun v31 =>
  cond v31 (some false) (cond (iLt triple_at11.2.2 (900 : Int)) (bd (F_point_parts (triple_at11.1, triple_at11.2.1)) fun point_parts32 =>
  bd (coS (fun x_33 => bd (asI x_33.2) fun v34 =>
  bd (imod v34 (2 : Int)) fun v35 =>
  some (!(iEq v35 (0 : Int)))) (fun x_33 => some x_33.2) point_parts32.2) fun l36 =>
  bd (cond (shortL point_parts32.2) (some ()) none) fun q37 =>
  cond (iLt (0 : Int) (l36.length : Int)) (some false) (bd (drw p__law_draw l8.2 (200 : Int)) fun d38 =>
  bd (some ((5 : Int) + d38.2)) fun n_39 =>
  bd (F_triples_up_to n_39) fun triples_up_to40 =>
  bd (vItems triples_up_to40) fun l41 =>
  bd (coS (fun _ => some true) (fun x_42 => bd (F_triple_path x_42) fun triple_path43 =>
  some triple_path43) l41) fun l44 =>
  bd (cond (shortL l41) (some ()) none) fun q45 =>
  bd (pLenSet [(PyData.list (List.map PyData.str l44))]) fun v46 =>
  bd (vI (pLen [triples_up_to40])) fun v47 =>
  bd (vB (pNe v46 (PyData.int v47))) fun v48 =>
  bd (cond v48 (some true) (bd (vItems triples_up_to40) fun l49 =>
  bd (coS (fun x_50 => bd (F_is_triple x_50) fun is_triple51 =>
  some (!(is_triple51))) (fun x_50 => some x_50) l49) fun l52 =>
  bd (cond (shortL l49) (some ()) none) fun q53 =>
  some (iLt (0 : Int) (l52.length : Int)))) fun v54 =>
  cond v54 (some false) (bd (drw p__law_draw d38.1 (9 : Int)) fun d55 =>
  bd (drw p__law_draw d55.1 (9 : Int)) fun d56 =>
  bd (some ((2 : Int) + d55.2)) fun s_57 =>
  bd (some ((1 : Int) + d56.2)) fun t58 =>
  bd (F_point_product (s_57, t58) (s_57, t58)) fun point_product59 =>
  bd (F__law_abs point_product59.1) fun law_abs60 =>
  bd (F_norm (s_57, t58)) fun norm61 =>
  bd (some (law_abs60, point_product59.2, norm61)) fun made62 =>
  bd (F_is_triple (PyData.tuple [(PyData.int made62.1), (PyData.int made62.2.1), (PyData.int made62.2.2)])) fun is_triple63 =>
  bd (F__law_common s_57 t58) fun law_common64 =>
  bd (cond (iEq law_common64 (1 : Int)) (bd (imod (s_57 + t58) (2 : Int)) fun v65 =>
  some (iEq v65 (1 : Int))) (some false)) fun v66 =>
  some (bEq is_triple63 v66)))) (bd (drw p__law_draw l8.2 (200 : Int)) fun d67 =>
  bd (some ((5 : Int) + d67.2)) fun n_68 =>
  bd (F_triples_up_to n_68) fun triples_up_to69 =>
  bd (vItems triples_up_to69) fun l70 =>
  bd (coS (fun _ => some true) (fun x_71 => bd (F_triple_path x_71) fun triple_path72 =>
  some triple_path72) l70) fun l73 =>
  bd (cond (shortL l70) (some ()) none) fun q74 =>
  bd (pLenSet [(PyData.list (List.map PyData.str l73))]) fun v75 =>
  bd (vI (pLen [triples_up_to69])) fun v76 =>
  bd (vB (pNe v75 (PyData.int v76))) fun v77 =>
  bd (cond v77 (some true) (bd (vItems triples_up_to69) fun l78 =>
  bd (coS (fun x_79 => bd (F_is_triple x_79) fun is_triple80 =>
  some (!(is_triple80))) (fun x_79 => some x_79) l78) fun l81 =>
  bd (cond (shortL l78) (some ()) none) fun q82 =>
  some (iLt (0 : Int) (l81.length : Int)))) fun v83 =>
  cond v83 (some false) (bd (drw p__law_draw d67.1 (9 : Int)) fun d84 =>
  bd (drw p__law_draw d84.1 (9 : Int)) fun d85 =>
  bd (some ((2 : Int) + d84.2)) fun s_86 =>
  bd (some ((1 : Int) + d85.2)) fun t87 =>
  bd (F_point_product (s_86, t87) (s_86, t87)) fun point_product88 =>
  bd (F__law_abs point_product88.1) fun law_abs89 =>
  bd (F_norm (s_86, t87)) fun norm90 =>
  bd (some (law_abs89, point_product88.2, norm90)) fun made91 =>
  bd (F_is_triple (PyData.tuple [(PyData.int made91.1), (PyData.int made91.2.1), (PyData.int made91.2.2)])) fun is_triple92 =>
  bd (F__law_common s_86 t87) fun law_common93 =>
  bd (cond (iEq law_common93 (1 : Int)) (bd (imod (s_86 + t87) (2 : Int)) fun v94 =>
  some (iEq v94 (1 : Int))) (some false)) fun v95 =>
  some (bEq is_triple92 v95))))))
theorem k_law {script : PV} {r} (h : F_law script = some r) : p_law [script] = some (PyData.bool r) := by
  unfold p_law
  refine runP_of ⟨rfl, by decide⟩ ?_
  unfold b_law
  unfold F_law at h
  show RO' _ _ [(0, .va script)] _ _
  obtain ⟨P1, hP1, h⟩ := bd_ok h
  refine ro_seq (ro_asgO 1 (ee_call (ea_cons (ee_nm 0 rfl) ea_nil) hP1) (by decide) (by decide)) ?_
  obtain ⟨d2, hd2, h⟩ := bd_ok h
  obtain ⟨l3, hl3, h⟩ := bd_ok h
  obtain ⟨l8, hl8, h⟩ := bd_ok h
  obtain ⟨q9, hq9, h⟩ := bd_ok h
  have hq9 : shortL l3 = true := by rcases cond_ok hq9 with ⟨q, _⟩ | ⟨_, q⟩; exact q; cases q
  obtain ⟨v10, hv10, h⟩ := bd_ok h
  refine ro_seq (ro_asg 2 (ee_join ee_k (ee_lcP PyData.int PyData.str (S1 := (fun (x_4 : Int) (y : PV) => [(16, .va (PyData.int x_4)), (0, .va script), (1, .ow y)])) (fun y : PV => [(0, .va script), (1, .ow y)]) (ei_rng1 (ee_callO 1 rfl (ea_cons ee_k ea_nil) rfl (drw_ok hd2)) hl3) (by decide) ⟨.inl rfl, .inl rfl, trivial⟩ (fun x_4 t5 => (eb_nm 16 (by decide) (by decide))) (fun x_4 t5 r h => by
      obtain ⟨d6, hd6, h⟩ := bd_ok h
      obtain ⟨v7, hv7, h⟩ := bd_ok h
      have h := Option.some.inj h; subst h; exact ee_wk (ee_bin ee_k (ee_callO 1 rfl (ea_cons ee_k ea_nil) rfl (drw_ok hd6)) (vS_ok hv7)) ⟨.inl rfl, .inl rfl, .inl rfl, trivial⟩) hl8 hq9 (fun _ _ => ⟨.inl rfl, .inl rfl, trivial⟩) (fun _ => ⟨.inl rfl, .inl rfl, trivial⟩)) (vS_ok hv10)) (by decide) (by decide)) ?_
  obtain ⟨triple_at11, htriple_at11, h⟩ := bd_ok h
  refine ro_seq (ro_asgB (ee_call (ea_cons (ee_nm 2 rfl) ea_nil) (@k_triple_at v10 _ htriple_at11)) (eb_tup (ebs_cons (eb_nm 3 (by decide) (by decide)) (ebs_cons (eb_nm 4 (by decide) (by decide)) (ebs_cons (eb_nm 5 (by decide) (by decide)) ebs_nil))) rfl)) ?_
  refine ro_ifdist ?_
  obtain ⟨check_nought12, hcheck_nought12, h⟩ := bd_ok h
  obtain ⟨v14, hv14, h⟩ := bd_ok h
  rcases cond_ok h with ⟨hc, h⟩ | ⟨hc, h⟩
  · refine ro_ifT (et_or hv14 (et_nt (et_tr (ee_call (ea_cons (ee_tup (ea_cons ee_k (ea_cons ee_k (ea_cons (ee_un ee_k pNeg_I) ea_nil))) (Nat.le_of_ble_eq_true rfl)) (ea_cons (ee_tup (ea_cons ee_k (ea_cons (ee_tup (ea_cons (ee_nm 3 rfl) (ea_cons (ee_nm 4 rfl) (ea_cons (ee_nm 5 rfl) ea_nil))) (Nat.le_of_ble_eq_true rfl)) ea_nil)) (Nat.le_of_ble_eq_true rfl)) ea_nil)) (@k_check_nought ((1 : Int), (1 : Int), (-1 : Int)) (("nought" : Str), (triple_at11.1, triple_at11.2.1, triple_at11.2.2)) _ hcheck_nought12)) rfl)) (fun c h => by
    obtain ⟨triple_path13, htriple_path13, h⟩ := bd_ok h
    have h := Option.some.inj h; subst h; exact (et_b (ee_bin (ee_call (ea_cons (ee_tup (ea_cons (ee_nm 3 rfl) (ea_cons (ee_nm 4 rfl) (ea_cons (ee_nm 5 rfl) ea_nil))) (Nat.le_of_ble_eq_true rfl)) ea_nil) (@k_triple_path (PyData.tuple [(PyData.int triple_at11.1), (PyData.int triple_at11.2.1), (PyData.int triple_at11.2.2)]) _ htriple_path13)) (ee_nm 2 rfl) pNe_S)))) hc ?_
    have h := Option.some.inj h; subst h; exact (ro_seqR (ro_wkR (ro_ret ee_k) trivial))
  · refine ro_ifF (et_or hv14 (et_nt (et_tr (ee_call (ea_cons (ee_tup (ea_cons ee_k (ea_cons ee_k (ea_cons (ee_un ee_k pNeg_I) ea_nil))) (Nat.le_of_ble_eq_true rfl)) (ea_cons (ee_tup (ea_cons ee_k (ea_cons (ee_tup (ea_cons (ee_nm 3 rfl) (ea_cons (ee_nm 4 rfl) (ea_cons (ee_nm 5 rfl) ea_nil))) (Nat.le_of_ble_eq_true rfl)) ea_nil)) (Nat.le_of_ble_eq_true rfl)) ea_nil)) (@k_check_nought ((1 : Int), (1 : Int), (-1 : Int)) (("nought" : Str), (triple_at11.1, triple_at11.2.1, triple_at11.2.2)) _ hcheck_nought12)) rfl)) (fun c h => by
    obtain ⟨triple_path13, htriple_path13, h⟩ := bd_ok h
    have h := Option.some.inj h; subst h; exact (et_b (ee_bin (ee_call (ea_cons (ee_tup (ea_cons (ee_nm 3 rfl) (ea_cons (ee_nm 4 rfl) (ea_cons (ee_nm 5 rfl) ea_nil))) (Nat.le_of_ble_eq_true rfl)) ea_nil) (@k_triple_path (PyData.tuple [(PyData.int triple_at11.1), (PyData.int triple_at11.2.1), (PyData.int triple_at11.2.2)]) _ htriple_path13)) (ee_nm 2 rfl) pNe_S)))) hc ?_
    refine ro_seq ro_skip ?_
    obtain ⟨point_common15, hpoint_common15, h⟩ := bd_ok h
    refine ro_seq (ro_asg 6 (ee_call (ea_cons (ee_tup (ea_cons (ee_nm 3 rfl) (ea_cons (ee_nm 4 rfl) ea_nil)) (Nat.le_of_ble_eq_true rfl)) (ea_cons (ee_tup (ea_cons (ee_nm 5 rfl) (ea_cons ee_k ea_nil)) (Nat.le_of_ble_eq_true rfl)) ea_nil)) (@k_point_common (triple_at11.1, triple_at11.2.1) (triple_at11.2.2, (0 : Int)) _ hpoint_common15)) (by decide) (by decide)) ?_
    obtain ⟨point_product16, hpoint_product16, h⟩ := bd_ok h
    refine ro_seq (ro_asg 7 (ee_call (ea_cons (ee_nm 6 rfl) (ea_cons (ee_nm 6 rfl) ea_nil)) (@k_point_product point_common15 point_common15 _ hpoint_product16)) (by decide) (by decide)) ?_
    refine ro_ifdist ?_
    obtain ⟨norm17, hnorm17, h⟩ := bd_ok h
    obtain ⟨v22, hv22, h⟩ := bd_ok h
    rcases cond_ok h with ⟨hc, h⟩ | ⟨hc, h⟩
    · refine ro_ifT (et_or hv22 (et_b (ee_bin (ee_call (ea_cons (ee_nm 6 rfl) ea_nil) (@k_norm point_common15 _ hnorm17)) (ee_nm 5 rfl) pNe_I)) (fun c h => by
    obtain ⟨plain_point18, hplain_point18, h⟩ := bd_ok h
    obtain ⟨plain_point19, hplain_point19, h⟩ := bd_ok h
    obtain ⟨plain_point20, hplain_point20, h⟩ := bd_ok h
    obtain ⟨v21, hv21, h⟩ := bd_ok h
    have h := Option.some.inj h; subst h; exact (et_b (ee_bin (ee_call (ea_cons (ee_nm 7 rfl) ea_nil) (@k_plain_point point_product16 _ hplain_point18)) (ee_tup (ea_cons (ee_call (ea_cons (ee_tup (ea_cons (ee_nm 3 rfl) (ea_cons (ee_nm 4 rfl) ea_nil)) (Nat.le_of_ble_eq_true rfl)) ea_nil) (@k_plain_point (triple_at11.1, triple_at11.2.1) _ hplain_point19)) (ea_cons (ee_call (ea_cons (ee_tup (ea_cons (ee_nm 3 rfl) (ea_cons (ee_bin ee_k (ee_nm 4 rfl) pSub_I) ea_nil)) (Nat.le_of_ble_eq_true rfl)) ea_nil) (@k_plain_point (triple_at11.1, (0 : Int) - triple_at11.2.1) _ hplain_point20)) ea_nil)) (Nat.le_of_ble_eq_true rfl)) (vB_ok hv21))))) hc ?_
      have h := Option.some.inj h; subst h; exact (ro_seqR (ro_wkR (ro_ret ee_k) trivial))
    · refine ro_ifF (et_or hv22 (et_b (ee_bin (ee_call (ea_cons (ee_nm 6 rfl) ea_nil) (@k_norm point_common15 _ hnorm17)) (ee_nm 5 rfl) pNe_I)) (fun c h => by
    obtain ⟨plain_point18, hplain_point18, h⟩ := bd_ok h
    obtain ⟨plain_point19, hplain_point19, h⟩ := bd_ok h
    obtain ⟨plain_point20, hplain_point20, h⟩ := bd_ok h
    obtain ⟨v21, hv21, h⟩ := bd_ok h
    have h := Option.some.inj h; subst h; exact (et_b (ee_bin (ee_call (ea_cons (ee_nm 7 rfl) ea_nil) (@k_plain_point point_product16 _ hplain_point18)) (ee_tup (ea_cons (ee_call (ea_cons (ee_tup (ea_cons (ee_nm 3 rfl) (ea_cons (ee_nm 4 rfl) ea_nil)) (Nat.le_of_ble_eq_true rfl)) ea_nil) (@k_plain_point (triple_at11.1, triple_at11.2.1) _ hplain_point19)) (ea_cons (ee_call (ea_cons (ee_tup (ea_cons (ee_nm 3 rfl) (ea_cons (ee_bin ee_k (ee_nm 4 rfl) pSub_I) ea_nil)) (Nat.le_of_ble_eq_true rfl)) ea_nil) (@k_plain_point (triple_at11.1, (0 : Int) - triple_at11.2.1) _ hplain_point20)) ea_nil)) (Nat.le_of_ble_eq_true rfl)) (vB_ok hv21))))) hc ?_
      refine ro_seq ro_skip ?_
      refine ro_ifdist ?_
      obtain ⟨v23, hv23, h⟩ := bd_ok h
      obtain ⟨v31, hv31, h⟩ := bd_ok h
      rcases cond_ok h with ⟨hc, h⟩ | ⟨hc, h⟩
      · refine ro_ifT (et_an hv31 (et_b (ee_bin (ee_nm 5 rfl) (ee_bin ee_k ee_k (pPow_I hv23)) pLt_I)) (fun c h => by
    obtain ⟨two_paper24, htwo_paper24, h⟩ := bd_ok h
    obtain ⟨v30, hv30, h⟩ := bd_ok h
    have h := Option.some.inj h; subst h; exact (et_or hv30 (et_b (ee_bin (ee_bin (ee_call (ea_cons (ee_nm 5 rfl) ea_nil) (@k_two_paper triple_at11.2.2 _ htwo_paper24)) ee_k rfl) ee_k pNe_S)) (fun c h => by
    obtain ⟨parts_of25, hparts_of25, h⟩ := bd_ok h
    obtain ⟨l28, hl28, h⟩ := bd_ok h
    obtain ⟨q29, hq29, h⟩ := bd_ok h
    have hq29 : shortL parts_of25 = true := by rcases cond_ok hq29 with ⟨q, _⟩ | ⟨_, q⟩; exact q; cases q
    have h := Option.some.inj h; subst h; exact (et_b (ee_bin (ee_call (ea_cons (ee_lc (fun y : (Int × Int) => (PyData.tuple [(PyData.int y.1), (PyData.int y.2)])) PyData.int (ei_Q (ee_call (ea_cons (ee_nm 5 rfl) ea_nil) (@k_parts_of triple_at11.2.2 _ hparts_of25))) (by decide) (fun x_26 => (eb_tup (ebs_cons (eb_nm 19 (by decide) (by decide)) (ebs_cons (eb_nm 18 (by decide) (by decide)) ebs_nil)) rfl)) (fun x_26 _ h => by
      obtain ⟨v27, hv27, h⟩ := bd_ok h
      have h := Option.some.inj h; subst h; exact (et_b (ee_bin (ee_bin (ee_nm 19 rfl) ee_k (pMod_I hv27)) ee_k pNe_I))) (fun x_26 _ h => by
      have h := Option.some.inj h; subst h; exact (ee_nm 19 rfl)) hl28 hq29 (fun _ => rfl)) ea_nil) pLen_L) ee_k pGt_I)))))) hc ?_
        have h := Option.some.inj h; subst h; exact (ro_seqR (ro_wkR (ro_ret ee_k) trivial))
      · refine ro_ifF (et_an hv31 (et_b (ee_bin (ee_nm 5 rfl) (ee_bin ee_k ee_k (pPow_I hv23)) pLt_I)) (fun c h => by
    obtain ⟨two_paper24, htwo_paper24, h⟩ := bd_ok h
    obtain ⟨v30, hv30, h⟩ := bd_ok h
    have h := Option.some.inj h; subst h; exact (et_or hv30 (et_b (ee_bin (ee_bin (ee_call (ea_cons (ee_nm 5 rfl) ea_nil) (@k_two_paper triple_at11.2.2 _ htwo_paper24)) ee_k rfl) ee_k pNe_S)) (fun c h => by
    obtain ⟨parts_of25, hparts_of25, h⟩ := bd_ok h
    obtain ⟨l28, hl28, h⟩ := bd_ok h
    obtain ⟨q29, hq29, h⟩ := bd_ok h
    have hq29 : shortL parts_of25 = true := by rcases cond_ok hq29 with ⟨q, _⟩ | ⟨_, q⟩; exact q; cases q
    have h := Option.some.inj h; subst h; exact (et_b (ee_bin (ee_call (ea_cons (ee_lc (fun y : (Int × Int) => (PyData.tuple [(PyData.int y.1), (PyData.int y.2)])) PyData.int (ei_Q (ee_call (ea_cons (ee_nm 5 rfl) ea_nil) (@k_parts_of triple_at11.2.2 _ hparts_of25))) (by decide) (fun x_26 => (eb_tup (ebs_cons (eb_nm 19 (by decide) (by decide)) (ebs_cons (eb_nm 18 (by decide) (by decide)) ebs_nil)) rfl)) (fun x_26 _ h => by
      obtain ⟨v27, hv27, h⟩ := bd_ok h
      have h := Option.some.inj h; subst h; exact (et_b (ee_bin (ee_bin (ee_nm 19 rfl) ee_k (pMod_I hv27)) ee_k pNe_I))) (fun x_26 _ h => by
      have h := Option.some.inj h; subst h; exact (ee_nm 19 rfl)) hl28 hq29 (fun _ => rfl)) ea_nil) pLen_L) ee_k pGt_I)))))) hc ?_
        refine ro_seq ro_skip ?_
        refine ro_ifdist ?_
        rcases cond_ok h with ⟨hc, h⟩ | ⟨hc, h⟩
        · refine ro_ifT (et_b (ee_bin (ee_nm 5 rfl) ee_k pLt_I)) hc ?_
          refine ro_assoc ?_
          obtain ⟨point_parts32, hpoint_parts32, h⟩ := bd_ok h
          refine ro_seq (ro_asgB (ee_call (ea_cons (ee_tup (ea_cons (ee_nm 3 rfl) (ea_cons (ee_nm 4 rfl) ea_nil)) (Nat.le_of_ble_eq_true rfl)) ea_nil) (@k_point_parts (triple_at11.1, triple_at11.2.1) _ hpoint_parts32)) (eb_tup (ebs_cons (eb_nm 14 (by decide) (by decide)) (ebs_cons (eb_nm 15 (by decide) (by decide)) ebs_nil)) rfl)) ?_
          refine ro_ifdist ?_
          obtain ⟨l36, hl36, h⟩ := bd_ok h
          obtain ⟨q37, hq37, h⟩ := bd_ok h
          have hq37 : shortL point_parts32.2 = true := by rcases cond_ok hq37 with ⟨q, _⟩ | ⟨_, q⟩; exact q; cases q
          rcases cond_ok h with ⟨hc, h⟩ | ⟨hc, h⟩
          · refine ro_ifT (et_b (ee_bin (ee_call (ea_cons (ee_lc (fun y : (PV × PV) => (PyData.tuple [y.1, y.2])) (fun y : PV => y) (ei_Q (ee_nm 15 rfl)) (by decide) (fun x_33 => (eb_tup (ebs_cons (eb_nm 17 (by decide) (by decide)) (ebs_cons (eb_nm 18 (by decide) (by decide)) ebs_nil)) rfl)) (fun x_33 _ h => by
      obtain ⟨v34, hv34, h⟩ := bd_ok h
      obtain ⟨v35, hv35, h⟩ := bd_ok h
      have h := Option.some.inj h; subst h; exact (et_b (ee_bin (ee_bin (ee_eq (ee_nm 18 rfl) (asI_ok hv34)) ee_k (pMod_I hv35)) ee_k pNe_I))) (fun x_33 _ h => by
      have h := Option.some.inj h; subst h; exact (ee_nm 18 rfl)) hl36 hq37 (fun _ => rfl)) ea_nil) pLen_L) ee_k pGt_I)) hc ?_
            have h := Option.some.inj h; subst h; exact (ro_seqR (ro_wkR (ro_ret ee_k) trivial))
          · refine ro_ifF (et_b (ee_bin (ee_call (ea_cons (ee_lc (fun y : (PV × PV) => (PyData.tuple [y.1, y.2])) (fun y : PV => y) (ei_Q (ee_nm 15 rfl)) (by decide) (fun x_33 => (eb_tup (ebs_cons (eb_nm 17 (by decide) (by decide)) (ebs_cons (eb_nm 18 (by decide) (by decide)) ebs_nil)) rfl)) (fun x_33 _ h => by
      obtain ⟨v34, hv34, h⟩ := bd_ok h
      obtain ⟨v35, hv35, h⟩ := bd_ok h
      have h := Option.some.inj h; subst h; exact (et_b (ee_bin (ee_bin (ee_eq (ee_nm 18 rfl) (asI_ok hv34)) ee_k (pMod_I hv35)) ee_k pNe_I))) (fun x_33 _ h => by
      have h := Option.some.inj h; subst h; exact (ee_nm 18 rfl)) hl36 hq37 (fun _ => rfl)) ea_nil) pLen_L) ee_k pGt_I)) hc ?_
            refine ro_seq ro_skip ?_
            obtain ⟨d38, hd38, h⟩ := bd_ok h
            obtain ⟨n_39, hn_39, h⟩ := bd_ok h
            refine ro_seq (ro_asg 8 (ee_eq (d' := (PyData.int n_39)) (ee_bin ee_k (ee_callO 1 rfl (ea_cons ee_k ea_nil) rfl (drw_ok hd38)) pAdd_I) (by cases hn_39; rfl)) (by decide) (by decide)) ?_
            obtain ⟨triples_up_to40, htriples_up_to40, h⟩ := bd_ok h
            refine ro_seq (ro_asg 9 (ee_call (ea_cons (ee_nm 8 rfl) ea_nil) (@k_triples_up_to n_39 _ htriples_up_to40)) (by decide) (by decide)) ?_
            refine ro_ifdist ?_
            obtain ⟨l41, hl41, h⟩ := bd_ok h
            obtain ⟨l44, hl44, h⟩ := bd_ok h
            obtain ⟨q45, hq45, h⟩ := bd_ok h
            have hq45 : shortL l41 = true := by rcases cond_ok hq45 with ⟨q, _⟩ | ⟨_, q⟩; exact q; cases q
            obtain ⟨v46, hv46, h⟩ := bd_ok h
            obtain ⟨v47, hv47, h⟩ := bd_ok h
            obtain ⟨v48, hv48, h⟩ := bd_ok h
            obtain ⟨v54, hv54, h⟩ := bd_ok h
            rcases cond_ok h with ⟨hc, h⟩ | ⟨hc, h⟩
            · refine ro_ifT (et_or hv54 (et_b (ee_bin (ee_call (ea_cons (ee_lc (fun y : PV => y) PyData.str (ei_V (ee_nm 9 rfl) hl41) (by decide) (fun x_42 => (eb_nm 12 (by decide) (by decide))) (fun _ _ h => by cases h; exact et_ys) (fun x_42 _ h => by
      obtain ⟨triple_path43, htriple_path43, h⟩ := bd_ok h
      have h := Option.some.inj h; subst h; exact (ee_call (ea_cons (ee_nm 12 rfl) ea_nil) (@k_triple_path x_42 _ htriple_path43))) hl44 hq45 (fun _ => rfl)) ea_nil) hv46) (ee_lenN 9 rfl (vI_ok hv47)) (vB_ok hv48))) (fun c h => by
    obtain ⟨l49, hl49, h⟩ := bd_ok h
    obtain ⟨l52, hl52, h⟩ := bd_ok h
    obtain ⟨q53, hq53, h⟩ := bd_ok h
    have hq53 : shortL l49 = true := by rcases cond_ok hq53 with ⟨q, _⟩ | ⟨_, q⟩; exact q; cases q
    have h := Option.some.inj h; subst h; exact (et_b (ee_bin (ee_call (ea_cons (ee_lc (fun y : PV => y) (fun y : PV => y) (ei_V (ee_nm 9 rfl) hl49) (by decide) (fun x_50 => (eb_nm 12 (by decide) (by decide))) (fun x_50 _ h => by
      obtain ⟨is_triple51, his_triple51, h⟩ := bd_ok h
      have h := Option.some.inj h; subst h; exact (et_nt (et_tr (ee_call (ea_cons (ee_nm 12 rfl) ea_nil) (@k_is_triple x_50 _ his_triple51)) rfl))) (fun x_50 _ h => by
      have h := Option.some.inj h; subst h; exact (ee_nm 12 rfl)) hl52 hq53 (fun _ => rfl)) ea_nil) pLen_L) ee_k pGt_I)))) hc ?_
              have h := Option.some.inj h; subst h; exact (ro_seqR (ro_wkR (ro_ret ee_k) trivial))
            · refine ro_ifF (et_or hv54 (et_b (ee_bin (ee_call (ea_cons (ee_lc (fun y : PV => y) PyData.str (ei_V (ee_nm 9 rfl) hl41) (by decide) (fun x_42 => (eb_nm 12 (by decide) (by decide))) (fun _ _ h => by cases h; exact et_ys) (fun x_42 _ h => by
      obtain ⟨triple_path43, htriple_path43, h⟩ := bd_ok h
      have h := Option.some.inj h; subst h; exact (ee_call (ea_cons (ee_nm 12 rfl) ea_nil) (@k_triple_path x_42 _ htriple_path43))) hl44 hq45 (fun _ => rfl)) ea_nil) hv46) (ee_lenN 9 rfl (vI_ok hv47)) (vB_ok hv48))) (fun c h => by
    obtain ⟨l49, hl49, h⟩ := bd_ok h
    obtain ⟨l52, hl52, h⟩ := bd_ok h
    obtain ⟨q53, hq53, h⟩ := bd_ok h
    have hq53 : shortL l49 = true := by rcases cond_ok hq53 with ⟨q, _⟩ | ⟨_, q⟩; exact q; cases q
    have h := Option.some.inj h; subst h; exact (et_b (ee_bin (ee_call (ea_cons (ee_lc (fun y : PV => y) (fun y : PV => y) (ei_V (ee_nm 9 rfl) hl49) (by decide) (fun x_50 => (eb_nm 12 (by decide) (by decide))) (fun x_50 _ h => by
      obtain ⟨is_triple51, his_triple51, h⟩ := bd_ok h
      have h := Option.some.inj h; subst h; exact (et_nt (et_tr (ee_call (ea_cons (ee_nm 12 rfl) ea_nil) (@k_is_triple x_50 _ his_triple51)) rfl))) (fun x_50 _ h => by
      have h := Option.some.inj h; subst h; exact (ee_nm 12 rfl)) hl52 hq53 (fun _ => rfl)) ea_nil) pLen_L) ee_k pGt_I)))) hc ?_
              refine ro_seq ro_skip ?_
              obtain ⟨d55, hd55, h⟩ := bd_ok h
              obtain ⟨d56, hd56, h⟩ := bd_ok h
              obtain ⟨s_57, hs_57, h⟩ := bd_ok h
              obtain ⟨t58, ht58, h⟩ := bd_ok h
              refine ro_seq (ro_asg2 10 11 (ea_cons (ee_eq (d' := (PyData.int s_57)) (ee_bin ee_k (ee_callO 1 rfl (ea_cons ee_k ea_nil) rfl (drw_ok hd55)) pAdd_I) (by cases hs_57; rfl)) (ea_cons (ee_eq (d' := (PyData.int t58)) (ee_bin ee_k (ee_callO 1 rfl (ea_cons ee_k ea_nil) rfl (drw_ok hd56)) pAdd_I) (by cases ht58; rfl)) ea_nil)) (by decide) (by decide) (by decide) (by decide)) ?_
              obtain ⟨point_product59, hpoint_product59, h⟩ := bd_ok h
              refine ro_seq (ro_asg 12 (ee_call (ea_cons (ee_tup (ea_cons (ee_nm 10 rfl) (ea_cons (ee_nm 11 rfl) ea_nil)) (Nat.le_of_ble_eq_true rfl)) (ea_cons (ee_tup (ea_cons (ee_nm 10 rfl) (ea_cons (ee_nm 11 rfl) ea_nil)) (Nat.le_of_ble_eq_true rfl)) ea_nil)) (@k_point_product (s_57, t58) (s_57, t58) _ hpoint_product59)) (by decide) (by decide)) ?_
              obtain ⟨law_abs60, hlaw_abs60, h⟩ := bd_ok h
              obtain ⟨norm61, hnorm61, h⟩ := bd_ok h
              obtain ⟨made62, hmade62, h⟩ := bd_ok h
              refine ro_seq (ro_asg 13 (ee_eq (d' := (PyData.tuple [(PyData.int made62.1), (PyData.int made62.2.1), (PyData.int made62.2.2)])) (ee_tup (ea_cons (ee_call (ea_cons (ee_ixN 12 rfl ee_k rfl rfl) ea_nil) (@k__law_abs point_product59.1 _ hlaw_abs60)) (ea_cons (ee_ixN 12 rfl ee_k rfl rfl) (ea_cons (ee_call (ea_cons (ee_tup (ea_cons (ee_nm 10 rfl) (ea_cons (ee_nm 11 rfl) ea_nil)) (Nat.le_of_ble_eq_true rfl)) ea_nil) (@k_norm (s_57, t58) _ hnorm61)) ea_nil))) (Nat.le_of_ble_eq_true rfl)) (by cases hmade62; rfl)) (by decide) (by decide)) ?_
              obtain ⟨is_triple63, his_triple63, h⟩ := bd_ok h
              obtain ⟨law_common64, hlaw_common64, h⟩ := bd_ok h
              obtain ⟨v66, hv66, h⟩ := bd_ok h
              have h := Option.some.inj h; subst h; exact (ro_wkR (ro_ret (ee_bin (ee_call (ea_cons (ee_nm 13 rfl) ea_nil) (@k_is_triple (PyData.tuple [(PyData.int made62.1), (PyData.int made62.2.1), (PyData.int made62.2.2)]) _ his_triple63)) (ee_an hv66 (ee_bin (ee_call (ea_cons (ee_nm 10 rfl) (ea_cons (ee_nm 11 rfl) ea_nil)) (@k__law_common s_57 t58 _ hlaw_common64)) ee_k pEq_I) (fun c h => by
    obtain ⟨v65, hv65, h⟩ := bd_ok h
    have h := Option.some.inj h; subst h; exact (ee_bin (ee_bin (ee_bin (ee_nm 10 rfl) (ee_nm 11 rfl) pAdd_I) ee_k (pMod_I hv65)) ee_k pEq_I))) pEq_B)) trivial)
        · refine ro_ifF (et_b (ee_bin (ee_nm 5 rfl) ee_k pLt_I)) hc ?_
          refine ro_seq ro_skip ?_
          obtain ⟨d67, hd67, h⟩ := bd_ok h
          obtain ⟨n_68, hn_68, h⟩ := bd_ok h
          refine ro_seq (ro_asg 8 (ee_eq (d' := (PyData.int n_68)) (ee_bin ee_k (ee_callO 1 rfl (ea_cons ee_k ea_nil) rfl (drw_ok hd67)) pAdd_I) (by cases hn_68; rfl)) (by decide) (by decide)) ?_
          obtain ⟨triples_up_to69, htriples_up_to69, h⟩ := bd_ok h
          refine ro_seq (ro_asg 9 (ee_call (ea_cons (ee_nm 8 rfl) ea_nil) (@k_triples_up_to n_68 _ htriples_up_to69)) (by decide) (by decide)) ?_
          refine ro_ifdist ?_
          obtain ⟨l70, hl70, h⟩ := bd_ok h
          obtain ⟨l73, hl73, h⟩ := bd_ok h
          obtain ⟨q74, hq74, h⟩ := bd_ok h
          have hq74 : shortL l70 = true := by rcases cond_ok hq74 with ⟨q, _⟩ | ⟨_, q⟩; exact q; cases q
          obtain ⟨v75, hv75, h⟩ := bd_ok h
          obtain ⟨v76, hv76, h⟩ := bd_ok h
          obtain ⟨v77, hv77, h⟩ := bd_ok h
          obtain ⟨v83, hv83, h⟩ := bd_ok h
          rcases cond_ok h with ⟨hc, h⟩ | ⟨hc, h⟩
          · refine ro_ifT (et_or hv83 (et_b (ee_bin (ee_call (ea_cons (ee_lc (fun y : PV => y) PyData.str (ei_V (ee_nm 9 rfl) hl70) (by decide) (fun x_71 => (eb_nm 12 (by decide) (by decide))) (fun _ _ h => by cases h; exact et_ys) (fun x_71 _ h => by
      obtain ⟨triple_path72, htriple_path72, h⟩ := bd_ok h
      have h := Option.some.inj h; subst h; exact (ee_call (ea_cons (ee_nm 12 rfl) ea_nil) (@k_triple_path x_71 _ htriple_path72))) hl73 hq74 (fun _ => rfl)) ea_nil) hv75) (ee_lenN 9 rfl (vI_ok hv76)) (vB_ok hv77))) (fun c h => by
    obtain ⟨l78, hl78, h⟩ := bd_ok h
    obtain ⟨l81, hl81, h⟩ := bd_ok h
    obtain ⟨q82, hq82, h⟩ := bd_ok h
    have hq82 : shortL l78 = true := by rcases cond_ok hq82 with ⟨q, _⟩ | ⟨_, q⟩; exact q; cases q
    have h := Option.some.inj h; subst h; exact (et_b (ee_bin (ee_call (ea_cons (ee_lc (fun y : PV => y) (fun y : PV => y) (ei_V (ee_nm 9 rfl) hl78) (by decide) (fun x_79 => (eb_nm 12 (by decide) (by decide))) (fun x_79 _ h => by
      obtain ⟨is_triple80, his_triple80, h⟩ := bd_ok h
      have h := Option.some.inj h; subst h; exact (et_nt (et_tr (ee_call (ea_cons (ee_nm 12 rfl) ea_nil) (@k_is_triple x_79 _ his_triple80)) rfl))) (fun x_79 _ h => by
      have h := Option.some.inj h; subst h; exact (ee_nm 12 rfl)) hl81 hq82 (fun _ => rfl)) ea_nil) pLen_L) ee_k pGt_I)))) hc ?_
            have h := Option.some.inj h; subst h; exact (ro_seqR (ro_wkR (ro_ret ee_k) trivial))
          · refine ro_ifF (et_or hv83 (et_b (ee_bin (ee_call (ea_cons (ee_lc (fun y : PV => y) PyData.str (ei_V (ee_nm 9 rfl) hl70) (by decide) (fun x_71 => (eb_nm 12 (by decide) (by decide))) (fun _ _ h => by cases h; exact et_ys) (fun x_71 _ h => by
      obtain ⟨triple_path72, htriple_path72, h⟩ := bd_ok h
      have h := Option.some.inj h; subst h; exact (ee_call (ea_cons (ee_nm 12 rfl) ea_nil) (@k_triple_path x_71 _ htriple_path72))) hl73 hq74 (fun _ => rfl)) ea_nil) hv75) (ee_lenN 9 rfl (vI_ok hv76)) (vB_ok hv77))) (fun c h => by
    obtain ⟨l78, hl78, h⟩ := bd_ok h
    obtain ⟨l81, hl81, h⟩ := bd_ok h
    obtain ⟨q82, hq82, h⟩ := bd_ok h
    have hq82 : shortL l78 = true := by rcases cond_ok hq82 with ⟨q, _⟩ | ⟨_, q⟩; exact q; cases q
    have h := Option.some.inj h; subst h; exact (et_b (ee_bin (ee_call (ea_cons (ee_lc (fun y : PV => y) (fun y : PV => y) (ei_V (ee_nm 9 rfl) hl78) (by decide) (fun x_79 => (eb_nm 12 (by decide) (by decide))) (fun x_79 _ h => by
      obtain ⟨is_triple80, his_triple80, h⟩ := bd_ok h
      have h := Option.some.inj h; subst h; exact (et_nt (et_tr (ee_call (ea_cons (ee_nm 12 rfl) ea_nil) (@k_is_triple x_79 _ his_triple80)) rfl))) (fun x_79 _ h => by
      have h := Option.some.inj h; subst h; exact (ee_nm 12 rfl)) hl81 hq82 (fun _ => rfl)) ea_nil) pLen_L) ee_k pGt_I)))) hc ?_
            refine ro_seq ro_skip ?_
            obtain ⟨d84, hd84, h⟩ := bd_ok h
            obtain ⟨d85, hd85, h⟩ := bd_ok h
            obtain ⟨s_86, hs_86, h⟩ := bd_ok h
            obtain ⟨t87, ht87, h⟩ := bd_ok h
            refine ro_seq (ro_asg2 10 11 (ea_cons (ee_eq (d' := (PyData.int s_86)) (ee_bin ee_k (ee_callO 1 rfl (ea_cons ee_k ea_nil) rfl (drw_ok hd84)) pAdd_I) (by cases hs_86; rfl)) (ea_cons (ee_eq (d' := (PyData.int t87)) (ee_bin ee_k (ee_callO 1 rfl (ea_cons ee_k ea_nil) rfl (drw_ok hd85)) pAdd_I) (by cases ht87; rfl)) ea_nil)) (by decide) (by decide) (by decide) (by decide)) ?_
            obtain ⟨point_product88, hpoint_product88, h⟩ := bd_ok h
            refine ro_seq (ro_asg 12 (ee_call (ea_cons (ee_tup (ea_cons (ee_nm 10 rfl) (ea_cons (ee_nm 11 rfl) ea_nil)) (Nat.le_of_ble_eq_true rfl)) (ea_cons (ee_tup (ea_cons (ee_nm 10 rfl) (ea_cons (ee_nm 11 rfl) ea_nil)) (Nat.le_of_ble_eq_true rfl)) ea_nil)) (@k_point_product (s_86, t87) (s_86, t87) _ hpoint_product88)) (by decide) (by decide)) ?_
            obtain ⟨law_abs89, hlaw_abs89, h⟩ := bd_ok h
            obtain ⟨norm90, hnorm90, h⟩ := bd_ok h
            obtain ⟨made91, hmade91, h⟩ := bd_ok h
            refine ro_seq (ro_asg 13 (ee_eq (d' := (PyData.tuple [(PyData.int made91.1), (PyData.int made91.2.1), (PyData.int made91.2.2)])) (ee_tup (ea_cons (ee_call (ea_cons (ee_ixN 12 rfl ee_k rfl rfl) ea_nil) (@k__law_abs point_product88.1 _ hlaw_abs89)) (ea_cons (ee_ixN 12 rfl ee_k rfl rfl) (ea_cons (ee_call (ea_cons (ee_tup (ea_cons (ee_nm 10 rfl) (ea_cons (ee_nm 11 rfl) ea_nil)) (Nat.le_of_ble_eq_true rfl)) ea_nil) (@k_norm (s_86, t87) _ hnorm90)) ea_nil))) (Nat.le_of_ble_eq_true rfl)) (by cases hmade91; rfl)) (by decide) (by decide)) ?_
            obtain ⟨is_triple92, his_triple92, h⟩ := bd_ok h
            obtain ⟨law_common93, hlaw_common93, h⟩ := bd_ok h
            obtain ⟨v95, hv95, h⟩ := bd_ok h
            have h := Option.some.inj h; subst h; exact (ro_wkR (ro_ret (ee_bin (ee_call (ea_cons (ee_nm 13 rfl) ea_nil) (@k_is_triple (PyData.tuple [(PyData.int made91.1), (PyData.int made91.2.1), (PyData.int made91.2.2)]) _ his_triple92)) (ee_an hv95 (ee_bin (ee_call (ea_cons (ee_nm 10 rfl) (ea_cons (ee_nm 11 rfl) ea_nil)) (@k__law_common s_86 t87 _ hlaw_common93)) ee_k pEq_I) (fun c h => by
    obtain ⟨v94, hv94, h⟩ := bd_ok h
    have h := Option.some.inj h; subst h; exact (ee_bin (ee_bin (ee_bin (ee_nm 10 rfl) (ee_nm 11 rfl) pAdd_I) ee_k (pMod_I hv94)) ee_k pEq_I))) pEq_B)) trivial)
end Fx


namespace Fx
open PySem PySem.Spec L2
open PyProof.Rows hiding St
def mkP (cells : List Int) (i : Nat) (cur : Int) (cnt : Nat) (salt : Int) : PV := .list [.list (cells.map .int), .int i, .int cur, .int cnt, .int salt]
def dS1 : SF := (sIf (tAn (tB' (bin pLe (ixN' 0 (kE (.int 2))) (kE (.int 0)))) (tB' (bin pLt (ixN' 0 (kE (.int 1))) (callF pLen (aCons (ixN' 0 (kE (.int 0))) aNil))))) (sSeq (asg 3 (bin pIx (ixN' 0 (kE (.int 0))) (ixN' 0 (kE (.int 1))))) (sSeq (setIx 0 (kE (.int 1)) (bin pAdd (ixN' 0 (kE (.int 1))) (kE (.int 1)))) (sSeq (setIx 0 (kE (.int 2)) (nm 3)) (sIf (tB' (bin pLt (nm 3) (kE (.int 1000000000000000000)))) (setIx 0 (kE (.int 2)) (callF p__law_spread (aCons (nm 3) aNil))) sSkip)))) sSkip)
theorem at5_0 {a b c d e : PV} : pIx (.list [a, b, c, d, e]) (.int 0) = some a := rfl
theorem at5_1 {a b c d e : PV} : pIx (.list [a, b, c, d, e]) (.int 1) = some b := rfl
theorem at5_2 {a b c d e : PV} : pIx (.list [a, b, c, d, e]) (.int 2) = some c := rfl
theorem at5_3 {a b c d e : PV} : pIx (.list [a, b, c, d, e]) (.int 3) = some d := rfl
theorem at5_4 {a b c d e : PV} : pIx (.list [a, b, c, d, e]) (.int 4) = some e := rfl
theorem ix5_1 : ixN 5 1 = some 1 := rfl
theorem ix5_2 : ixN 5 2 = some 2 := rfl
theorem ix5_3 : ixN 5 3 = some 3 := rfl
theorem pAdd_int {i j : Int} : pAdd (.int i) (.int j) = some (.int (i + j)) := rfl
theorem pLe_int {i j : Int} : pLe (.int i) (.int j) = some (.bool (decide (i ≤ j))) := rfl
theorem pLt_int {i j : Int} : pLt (.int i) (.int j) = some (.bool (decide (i < j))) := rfl
theorem fits_of {a b : Int} (ha : a.natAbs < 2 ^ 4000) (hb : b.natAbs < 2 ^ 4000) : fits a b = true := by
  unfold fits
  have h1 : a.natAbs.log2 ≤ 4000 := by
    by_cases h : a.natAbs = 0
    · rw [h]; decide
    · exact Nat.le_of_lt ((Nat.log2_lt h).mpr ha)
  have h2 : b.natAbs.log2 ≤ 4000 := by
    by_cases h : b.natAbs = 0
    · rw [h]; decide
    · exact Nat.le_of_lt ((Nat.log2_lt h).mpr hb)
  exact decide_eq_true (by omega)

theorem pMul_int {i j : Int} (h : fits i j = true) : pMul (.int i) (.int j) = some (.int (i * j)) := by
  show (if fits i j = true then _ else _) = _
  rw [if_pos h]
theorem pMod_int {i j : Int} (h : j ≠ 0) : pMod (.int i) (.int j) = some (.int (i.fmod j)) := by
  show (if j ≠ 0 then _ else _) = _
  rw [if_pos h]
theorem pDiv_int {i j : Int} (h : j ≠ 0) (h2 : j.natAbs.log2 < 9000) : pDiv (.int i) (.int j) = some (.int (i.fdiv j)) := by
  show (if j ≠ 0 ∧ j.natAbs.log2 < 9000 then _ else _) = _
  rw [if_pos ⟨h, h2⟩]
theorem fmod_lo {i j : Int} (h : 0 < j) : 0 ≤ i.fmod j := Int.fmod_nonneg_of_pos _ h
theorem fmod_hi {i j : Int} (h : 0 < j) : i.fmod j < j := Int.fmod_lt_of_pos _ h
theorem abs_lt {i : Int} {n : Nat} (h0 : 0 ≤ i) (h : i < (2 : Int) ^ n) (hn : n ≤ 4000 := by decide) : i.natAbs < 2 ^ 4000 := by
  have : (i.natAbs : Int) < ((2 ^ n : Nat) : Int) := by
    rw [Int.natAbs_of_nonneg h0]; exact_mod_cast h
  have h2 : i.natAbs < 2 ^ n := by exact_mod_cast this
  exact Nat.lt_of_lt_of_le h2 (Nat.pow_le_pow_right (by decide) hn)
def spB : SF := (sSeq (asg 1 (bin pMod (callF pInt1 (aCons (bin pAdd (bin pAdd (bin pMul (nm 1) (kE (.int 48271))) (kE (.int 12345))) (nm 3)) aNil)) (kE (.int 2147483647)))) (asg 2 (bin pAdd (bin pMul (nm 2) (kE (.int 2147483647))) (nm 1))))
theorem spB_ok (c : Sl) (b s k : Int) (hb0 : 0 ≤ b) (hb : b < 2147483647) (hs0 : 0 ≤ s) (n : Nat) (hs : s < 2 ^ n) (hn : n ≤ 4000) : ∃ b' s', spB [c, .va (.int b), .va (.int s), .va (.int k)] = some (.nx [c, .va (.int b'), .va (.int s'), .va (.int k)]) ∧ 0 ≤ b' ∧ b' < 2147483647 ∧ 0 ≤ s' ∧ s' < 2 ^ (n + 32) := by
  have f1 : fits b 48271 = true := fits_of (abs_lt (n := 31) hb0 (by omega)) (by decide)
  have f2 : fits s 2147483647 = true := fits_of (abs_lt hs0 hs hn) (by decide)
  refine ⟨(b * 48271 + 12345 + k).fmod 2147483647, s * 2147483647 + (b * 48271 + 12345 + k).fmod 2147483647, ?_, fmod_lo (by decide), fmod_hi (by decide), ?_, ?_⟩
  · simp only [spB, sSeq, asg, bin, callF, aCons, aNil, nm, kE, List.getElem?_cons_succ, List.getElem?_cons_zero, pMul_int f1, pAdd_int, pInt1, pMod_int (show (2147483647 : Int) ≠ 0 by decide), setV, List.set_cons_succ, List.set_cons_zero, pMul_int f2]
  · have := fmod_lo (i := b * 48271 + 12345 + k) (show (0 : Int) < 2147483647 by decide)
    omega
  · have := fmod_hi (i := b * 48271 + 12345 + k) (show (0 : Int) < 2147483647 by decide)
    have e : (2 : Int) ^ (n + 32) = 2 ^ n * 4294967296 := by rw [Int.pow_add]; rfl
    rw [e]; omega
theorem spread_ok (c : Int) : ∃ s, p__law_spread [.int c] = some (.int s) := by
  have h0 := fmod_lo (i := c) (show (0 : Int) < 2147483647 by decide)
  have h1 := fmod_hi (i := c) (show (0 : Int) < 2147483647 by decide)
  obtain ⟨b1, s1, e1, p1, q1, u1, v1⟩ := spB_ok (.va (.int c)) _ 1 0 h0 h1 (by decide) 1 (by decide) (by decide)
  obtain ⟨b2, s2, e2, p2, q2, u2, v2⟩ := spB_ok (.va (.int c)) _ s1 1 p1 q1 u1 _ v1 (by decide)
  obtain ⟨b3, s3, e3, p3, q3, u3, v3⟩ := spB_ok (.va (.int c)) _ s2 2 p2 q2 u2 _ v2 (by decide)
  obtain ⟨b4, s4, e4, p4, q4, u4, v4⟩ := spB_ok (.va (.int c)) _ s3 3 p3 q3 u3 _ v3 (by decide)
  refine ⟨s4, ?_⟩
  have eb : b__law_spread = sSeq (asg 1 (bin pMod (callF pInt1 (aCons (nm 0) aNil)) (kE (.int 2147483647)))) (sSeq (asg 2 (kE (.int 1))) (sSeq (sFor (wRng1 (kE (.int 4))) (bNm 3) spB) (sRet (nm 2)))) := rfl
  have hr : rngL 0 4 = [.int 0, .int 1, .int 2, .int 3] := rfl
  have n1 : (2147483647 : Int) ≠ 0 := by decide
  simp [p__law_spread, runP, eb, start0, sSeq, asg, bin, callF, aCons, aNil, nm, kE, pInt1, pMod_int n1, setV, sFor, wRng1, hr, foF, bNm, e1, e2, e3, e4, sRet, List.replicate]
theorem map_get {cells : List Int} {i : Nat} (h : i < cells.length) : ∃ c, pIx (.list (cells.map .int)) (.int i) = some (.int c) := by
  refine ⟨cells[i], ?_⟩
  show atI _ _ = _
  unfold atI ixN
  simp [h]
theorem dS1_ok (cells : List Int) (i : Nat) (cur : Int) (cnt : Nat) (salt : Int) (m : Sl) : ∃ i' cur' s3, (s3 = .no ∨ ∃ d, s3 = .va d) ∧ dS1 [.io (mkP cells i cur cnt salt), m, .no, .no, .no] = some (.nx [.io (mkP cells i' cur' cnt salt), m, .no, s3, .no]) := by
  by_cases h1 : cur ≤ 0
  · by_cases h2 : i < cells.length
    · obtain ⟨c, hc⟩ := map_get h2
      obtain ⟨s, hs⟩ := spread_ok c
      by_cases h3 : c < 1000000000000000000
      · refine ⟨i + 1, s, .va (.int c), .inr ⟨_, rfl⟩, ?_⟩
        simp [dS1, mkP, sIf, tAn, tB', bin, ixN', Fx.cont, kE, at5_0, at5_1, at5_2, pLe_int, pLt_int, h1, h2, h3, callF, aCons, aNil, pLen, sSeq, asg, setV, hc, setIx, isL, Fx.mine, pAdd_int, ix5_1, ix5_2, putM, nm, hs]
      · refine ⟨i + 1, c, .va (.int c), .inr ⟨_, rfl⟩, ?_⟩
        simp [dS1, mkP, sIf, tAn, tB', bin, ixN', Fx.cont, kE, at5_0, at5_1, at5_2, pLe_int, pLt_int, h1, h2, h3, callF, aCons, aNil, pLen, sSeq, asg, setV, hc, setIx, isL, Fx.mine, pAdd_int, ix5_1, ix5_2, putM, nm, hs, sSkip]
    · refine ⟨i, cur, .no, .inl rfl, ?_⟩
      simp [dS1, mkP, sIf, tAn, tB', bin, ixN', Fx.cont, kE, at5_0, at5_1, at5_2, pLe_int, pLt_int, h1, h2, callF, aCons, aNil, pLen, sSkip]
  · refine ⟨i, cur, .no, .inl rfl, ?_⟩
    simp [dS1, mkP, sIf, tAn, tB', bin, ixN', Fx.cont, kE, at5_0, at5_1, at5_2, pLe_int, pLt_int, h1, sSkip]
def PoolOk (c : Nat) (p : PV) : Prop := ∃ (cells : List Int) (i : Nat) (cur : Int) (cnt : Nat) (salt : Int), p = mkP cells i cur cnt salt ∧ cnt ≤ c ∧ 0 ≤ salt ∧ salt < 1000003
def dS2 : SF := (sSeq (setIx 0 (kE (.int 3)) (bin pAdd (ixN' 0 (kE (.int 3))) (kE (.int 1)))) (sSeq (sIf (tB' (bin pLe (ixN' 0 (kE (.int 2))) (kE (.int 0)))) (sSeq (asg 4 (bin pMod (callF pInt1 (aCons (bin pAdd (bin pAdd (bin pMul (ixN' 0 (kE (.int 4))) (kE (.int 48271))) (bin pMul (ixN' 0 (kE (.int 3))) (kE (.int 69621)))) (kE (.int 1))) aNil)) (kE (.int 2147483647)))) (sSeq (asg 4 (bin pMod (callF pInt1 (aCons (bin pAdd (bin pMul (nm 4) (kE (.int 16807))) (ixN' 0 (kE (.int 3)))) aNil)) (kE (.int 2147483629)))) (sRet (bin pMod (bin pDiv (nm 4) (kE (.int 5))) (nm 1))))) sSkip) (sSeq (asg 2 (bin pMod (callF pInt1 (aCons (ixN' 0 (kE (.int 2))) aNil)) (nm 1))) (sSeq (setIx 0 (kE (.int 2)) (bin pDiv (ixN' 0 (kE (.int 2))) (nm 1))) (sRet (nm 2))))))
theorem dS2_ok (cells : List Int) (i : Nat) (cur : Int) (cnt : Nat) (salt : Int) (m : Int) (s3 : Sl) (h3 : s3 = .no ∨ ∃ d, s3 = .va d) (hc : cnt < 100000) (hs0 : 0 ≤ salt) (hs : salt < 1000003) (hm : 0 < m) (hm2 : m.natAbs.log2 < 9000) : ∃ v p' r, dS2 [.io (mkP cells i cur cnt salt), .va (.int m), .no, s3, .no] = some (.rt (.int v) (.io p' :: r)) ∧ 0 ≤ v ∧ v < m ∧ PoolOk (cnt + 1) p' := by
  have f1 : fits salt 48271 = true := fits_of (abs_lt (n := 31) hs0 (by omega)) (by decide)
  have f2 : fits ((cnt : Int) + 1) 69621 = true := fits_of (abs_lt (n := 31) (by omega) (by omega)) (by decide)
  have hm' : m ≠ 0 := by omega
  have n1 : (2147483647 : Int) ≠ 0 := by decide
  have n2 : (2147483629 : Int) ≠ 0 := by decide
  have n3 : (5 : Int) ≠ 0 := by decide
  have n4 : (5 : Int).natAbs.log2 < 9000 := by decide
  by_cases h1 : cur ≤ 0
  · generalize hb : (salt * 48271 + ((cnt : Int) + 1) * 69621 + 1).fmod 2147483647 = b
    have b0 : 0 ≤ b := hb ▸ fmod_lo (by decide)
    have b1 : b < 2147483647 := hb ▸ fmod_hi (by decide)
    have f3 : fits b 16807 = true := fits_of (abs_lt (n := 31) b0 (by omega)) (by decide)
    refine ⟨(((b * 16807 + ((cnt : Int) + 1)).fmod 2147483629).fdiv 5).fmod m, mkP cells i cur (cnt + 1) salt, [.va (.int m), .no, s3, .va (.int ((b * 16807 + ((cnt : Int) + 1)).fmod 2147483629))], ?_, fmod_lo hm, fmod_hi hm, ⟨cells, i, cur, cnt + 1, salt, rfl, Nat.le_refl _, hs0, hs⟩⟩
    simp [dS2, mkP, sIf, tB', bin, ixN', Fx.cont, kE, at5_2, at5_3, at5_4, pLe_int, h1, callF, aCons, aNil, sSeq, asg, setV, setIx, isL, Fx.mine, pAdd_int, ix5_3, putM, nm, pMul_int f1, pMul_int f2, pMod_int n1, pMod_int n2, pInt1, hb, pMul_int f3, sRet, pDiv_int n3 n4, pMod_int hm']
  · refine ⟨cur.fmod m, mkP cells i (cur.fdiv m) (cnt + 1) salt, [.va (.int m), .va (.int (cur.fmod m)), s3, .no], ?_, fmod_lo hm, fmod_hi hm, ⟨cells, i, _, cnt + 1, salt, rfl, Nat.le_refl _, hs0, hs⟩⟩
    simp [dS2, mkP, sIf, tB', bin, ixN', Fx.cont, kE, at5_2, at5_3, at5_4, pLe_int, h1, callF, aCons, aNil, sSeq, asg, setV, setIx, isL, Fx.mine, pAdd_int, ix5_2, ix5_3, putM, nm, pInt1, sRet, pDiv_int hm' hm2, pMod_int hm', sSkip]
theorem PoolOk.mono {c c' : Nat} {p : PV} (h : PoolOk c p) (hc : c ≤ c') : PoolOk c' p := by
  obtain ⟨cells, i, cur, cnt, salt, e, h1, h2⟩ := h
  exact ⟨cells, i, cur, cnt, salt, e, Nat.le_trans h1 hc, h2⟩
theorem draw_ok {c : Nat} {p : PV} {m : Int} (hp : PoolOk c p) (hc : c < 100000) (hm : 0 < m) (hm2 : m.natAbs.log2 < 9000) : ∃ v p', p__law_draw p [.int m] = some (p', .int v) ∧ 0 ≤ v ∧ v < m ∧ PoolOk (c + 1) p' := by
  obtain ⟨cells, i, cur, cnt, salt, rfl, h1, h2, h3⟩ := hp
  have eb : b__law_draw = sSeq dS1 dS2 := rfl
  obtain ⟨i', cur', s3, hs3, e⟩ := dS1_ok cells i cur cnt salt (.va (.int m))
  obtain ⟨v, p', r, e2, a, b, q⟩ := dS2_ok cells i' cur' cnt salt m s3 hs3 (by omega) h2 h3 hm hm2
  refine ⟨v, p', ?_, a, b, q.mono (by omega)⟩
  simp [p__law_draw, runIO, start1, start0, List.replicate, eb, sSeq, e, e2]
theorem poolB_ok (sc : Sl) (s c : Int) (h0 : 0 ≤ s) (h : s < 1000003) : ∃ s', (asg 1 (bin pMod (callF pInt1 (aCons (bin pAdd (bin pMul (nm 1) (kE (.int 31))) (nm 2)) aNil)) (kE (.int 1000003)))) [sc, .va (.int s), .va (.int c)] = some (.nx [sc, .va (.int s'), .va (.int c)]) ∧ 0 ≤ s' ∧ s' < 1000003 := by
  have f1 : fits s 31 = true := fits_of (abs_lt (n := 31) h0 (by omega)) (by decide)
  have n1 : (1000003 : Int) ≠ 0 := by decide
  refine ⟨(s * 31 + c).fmod 1000003, ?_, fmod_lo (by decide), fmod_hi (by decide)⟩
  simp [asg, bin, callF, aCons, aNil, nm, kE, pMul_int f1, pAdd_int, pInt1, pMod_int n1, setV]
theorem poolL_ok (sc : Sl) (b : SF) (hb : ∀ s c : Int, 0 ≤ s → s < 1000003 → ∃ s', b [sc, .va (.int s), .va (.int c)] = some (.nx [sc, .va (.int s'), .va (.int c)]) ∧ 0 ≤ s' ∧ s' < 1000003) : ∀ (cs : List Int) (s : Int) (l : Sl), (l = .no ∨ ∃ d, l = .va d) → 0 ≤ s → s < 1000003 → ∃ s' l', foF (bNm 2) b (cs.map .int) [sc, .va (.int s), l] = some (.nx [sc, .va (.int s'), l']) ∧ 0 ≤ s' ∧ s' < 1000003
  | [], s, l, hl, h0, h => ⟨s, l, rfl, h0, h⟩
  | c :: cs, s, l, hl, h0, h => by
    obtain ⟨s1, e1, p1, q1⟩ := hb s c h0 h
    obtain ⟨s2, l2, e2, p2, q2⟩ := poolL_ok sc b hb cs s1 (.va (.int c)) (.inr ⟨_, rfl⟩) p1 q1
    refine ⟨s2, l2, ?_, p2, q2⟩
    rcases hl with rfl | ⟨d, rfl⟩ <;> simp [foF, bNm, setV, e1, e2]
theorem cut_map (ns : List Int) (lo hi : Option Int) : ∃ cs : List Int, cutD (ns.map .int) lo hi = cs.map .int := by
  unfold cutD
  rw [← List.map_drop, ← List.map_take]
  exact ⟨_, rfl⟩
theorem pool_ok (ns : List Int) : ∃ p, p__law_pool [scrD ns] = some p ∧ PoolOk 0 p := by
  obtain ⟨cs, e2⟩ := cut_map ns none (some 63)
  obtain ⟨s, l, e, h0, h1⟩ := poolL_ok (.va (scrD ns)) _ (fun s c a b => poolB_ok (.va (scrD ns)) s c a b) cs 7 .no (.inl rfl) (by decide) (by decide)
  refine ⟨mkP ns 0 0 0 s, ?_, ⟨ns, 0, 0, 0, s, rfl, Nat.le_refl _, h0, h1⟩⟩
  have e3 : pList [scrD ns] = some (.list (ns.map .int)) := rfl
  have e4 : (5 : Nat) ≤ sizeLine := by decide
  have e5 : pSl (scrD ns) none (some 63) = some (.list (cs.map .int)) := congrArg (fun z => some (PyData.list z)) e2
  simp [p__law_pool, runN, start0, List.replicate, b__law_pool, sSeq, asg, kE, setV, sFor, wSeq, eSl, nm, oNo, oSo, e5, items, e, sRetO, eLst, aCons, aNil, callF, e3, e4, mkP]
theorem pool_all {ns : List Int} {β : Type} {f : PV → Option β} {b : β} (h : ∀ p, PoolOk 0 p → f p = some b) : bd (p__law_pool [scrD ns]) f = some b := by
  obtain ⟨p, e, hp⟩ := pool_ok ns
  rw [e]
  exact h p hp
theorem drw_all {c : Nat} {p : PV} {m : Int} {β : Type} {f : PV × Int → Option β} {b : β} (hp : PoolOk c p) (hc : c < 100000) (hm : 0 < m) (hm2 : m.natAbs.log2 < 9000) (h : ∀ p' v, 0 ≤ v → v < m → PoolOk (c + 1) p' → f (p', v) = some b) : bd (drw p__law_draw p m) f = some b := by
  obtain ⟨v, p', e, h1, h2, h3⟩ := draw_ok hp hc hm hm2
  unfold drw
  rw [e]
  exact h p' v h1 h2 h3
theorem drw_get {c : Nat} {p : PV} {m : Int} (hp : PoolOk c p) (hc : c < 100000) (hm : 0 < m) (hm2 : m.natAbs.log2 < 9000) : ∃ p' v, drw p__law_draw p m = some (p', v) ∧ 0 ≤ v ∧ v < m ∧ PoolOk (c + 1) p' := by
  obtain ⟨v, p', e, h1, h2, h3⟩ := draw_ok hp hc hm hm2
  refine ⟨p', v, ?_, h1, h2, h3⟩
  unfold drw
  rw [e]
end Fx

namespace Fx
open PySem PySem.Spec L2
open PyProof.Rows hiding St
theorem log_le {n p : Nat} (h : n < 2 ^ p) : n.log2 ≤ p := by
  by_cases h0 : n = 0
  · subst h0; exact Nat.le_trans (by decide) (Nat.zero_le _)
  · exact Nat.le_of_lt ((Nat.log2_lt h0).mpr h)
theorem imul_p {a b : Int} {p q : Nat} (ha : a.natAbs < 2 ^ p) (hb : b.natAbs < 2 ^ q) (h : p + q < 1000000) : imul a b = some (a * b) := by
  unfold imul fitsB
  have h1 := log_le ha
  have h2 := log_le hb
  rw [blt_dec, decide_eq_true (by omega)]
  rfl
theorem idiv_p {a b : Int} {p : Nat} (h : 0 < b) (hb : b.natAbs < 2 ^ p) (hp : p < 9000) : idiv a b = some (a / b) := by
  unfold idiv
  have h1 := log_le hb
  rw [iEq_eq, decide_eq_false (by omega), blt_dec, decide_eq_true (by omega)]
  show some (a.fdiv b) = _
  rw [Int.fdiv_eq_ediv_of_nonneg _ (by omega)]
theorem imod_p {a b : Int} (h : 0 < b) : imod a b = some (a % b) := by
  unfold imod
  rw [iEq_eq, decide_eq_false (by omega), cond_false, Int.fmod_eq_emod_of_nonneg _ (by omega)]
theorem bits_add {a b : Int} {p : Nat} (ha : a.natAbs < 2 ^ p) (hb : b.natAbs < 2 ^ p) : (a + b).natAbs < 2 ^ (p + 1) := by
  rw [Nat.pow_succ]; omega
theorem bits_sub {a b : Int} {p : Nat} (ha : a.natAbs < 2 ^ p) (hb : b.natAbs < 2 ^ p) : (a - b).natAbs < 2 ^ (p + 1) := by
  rw [Nat.pow_succ]; omega
theorem bits_mul {a b : Int} {p q : Nat} (ha : a.natAbs < 2 ^ p) (hb : b.natAbs < 2 ^ q) : (a * b).natAbs < 2 ^ (p + q) := by
  rw [Int.natAbs_mul, Nat.pow_add]
  exact Nat.mul_lt_mul'' ha hb
theorem bits_up {a : Int} {p q : Nat} (ha : a.natAbs < 2 ^ p) (h : p ≤ q) : a.natAbs < 2 ^ q := Nat.lt_of_lt_of_le ha (Nat.pow_le_pow_right (by decide) h)
theorem bits_neg {a : Int} {p : Nat} (ha : a.natAbs < 2 ^ p) : (-a).natAbs < 2 ^ p := by omega
theorem bits_lt {a b : Int} {p : Nat} (h0 : 0 ≤ a) (h : a ≤ b) (hb : b.natAbs < 2 ^ p) : a.natAbs < 2 ^ p := by omega
theorem iLe_d {a b : Int} : iLe a b = decide (a ≤ b) := iLe_eq a b
theorem iEq_t {a b : Int} (h : a = b) : iEq a b = true := by rw [iEq_eq]; exact decide_eq_true h
theorem iEq_f {a b : Int} (h : a ≠ b) : iEq a b = false := by rw [iEq_eq]; exact decide_eq_false h
theorem iLt_t {a b : Int} (h : a < b) : iLt a b = true := by rw [iLt_eq]; exact decide_eq_true h
theorem iLt_f {a b : Int} (h : ¬ a < b) : iLt a b = false := by rw [iLt_eq]; exact decide_eq_false h
theorem iLe_t {a b : Int} (h : a ≤ b) : iLe a b = true := by rw [iLe_eq]; exact decide_eq_true h
theorem iLe_f {a b : Int} (h : ¬ a ≤ b) : iLe a b = false := by rw [iLe_eq]; exact decide_eq_false h
theorem iRng1_n {k : Nat} (h : k < 2 ^ 62) : iRng1 (k : Int) = some (rngI 0 k) := by
  unfold iRng1
  rw [iLe_t (by omega), iLt_t (by omega)]
  simp
theorem lApp_n {α : Type} {l : List α} {x : α} (h : l.length < 10000) : lApp l x = some (l ++ [x]) := by
  unfold lApp
  rw [blt_dec, decide_eq_true (Nat.lt_of_lt_of_le h (by decide)), cond_true]
theorem whS_stop {α : Type} {c : α → Option Bool} {b : α → Option α} {k : Nat} {a : α} (h : c a = some false) : whS c b (k + 1) a = some a := by
  unfold whS
  rw [h]
theorem whS_go {α : Type} {c : α → Option Bool} {b : α → Option α} {k : Nat} {a a' : α} (h : c a = some true) (h2 : b a = some a') : whS c b (k + 1) a = whS c b k a' := by
  conv => lhs; unfold whS
  rw [h]
  simp only [h2]
/-- a step of Euclid halves the product -/
theorem euc_half {a b : Nat} (h : b ≤ a) (h0 : 0 < b) : 2 * (b * (a % b)) < a * b := by
  have h1 := Nat.div_add_mod a b
  have h2 := Nat.mod_lt a h0
  have h3 : 0 < a / b := Nat.div_pos h h0
  have h4 : b * 1 ≤ b * (a / b) := Nat.mul_le_mul_left b h3
  have : 2 * (a % b) < a := by omega
  calc 2 * (b * (a % b)) = b * (2 * (a % b)) := by rw [Nat.mul_left_comm]
    _ < b * a := Nat.mul_lt_mul_of_pos_left this h0
    _ = a * b := Nat.mul_comm _ _
theorem atI_n {α : Type} {l : List α} {i : Nat} {x : α} (h : l[i]? = some x) : atI l (i : Int) = some x := by
  have hl : i < l.length := by
    rcases Nat.lt_or_ge i l.length with q | q
    · exact q
    · rw [List.getElem?_eq_none q] at h; cases h
  unfold atI ixN
  rw [if_pos (by omega), if_pos (by omega)]
  simp only [Option.bind_some, Int.toNat_natCast]
  exact h
theorem atI_neg {α : Type} {l : List α} {i : Nat} {x : α} (h0 : 0 < i) (hl : i ≤ l.length) (h : l[l.length - i]? = some x) : atI l (-(i : Int)) = some x := by
  unfold atI ixN
  rw [if_neg (by omega), if_pos (by omega)]
  simp only [Option.bind_some]
  rw [show (-(i : Int) + (l.length : Int)).toNat = l.length - i from by omega]
  exact h
theorem atI_m1 {α : Type} {l : List α} {x : α} (hl : 1 ≤ l.length) (h : l[l.length - 1]? = some x) : atI l (-1) = some x := atI_neg (i := 1) (by decide) hl h
theorem atI_m2 {α : Type} {l : List α} {x : α} (hl : 2 ≤ l.length) (h : l[l.length - 2]? = some x) : atI l (-2) = some x := atI_neg (i := 2) (by decide) hl h
end Fx

namespace Fx
open PySem PySem.Spec L2
open PyProof.Rows hiding St
def chkP (l : List Str) : Bool :=
  got (vS (pJoin ("" : Str) (PyData.list (List.map PyData.str l)))) fun v10 =>
  got (F_triple_at v10) fun triple_at11 =>
  got (F_check_nought ((1 : Int), (1 : Int), (-1 : Int)) (("nought" : Str), (triple_at11.1, triple_at11.2.1, triple_at11.2.2))) fun check_nought12 =>
  check_nought12 && got (F_triple_path (PyData.tuple [(PyData.int triple_at11.1), (PyData.int triple_at11.2.1), (PyData.int triple_at11.2.2)])) fun triple_path13 =>
  sEq triple_path13 v10 &&
  got (F_point_common (triple_at11.1, triple_at11.2.1) (triple_at11.2.2, (0 : Int))) fun point_common15 =>
  got (F_point_product point_common15 point_common15) fun point_product16 =>
  got (F_norm point_common15) fun norm17 =>
  iEq norm17 triple_at11.2.2 &&
  got (bd (F_plain_point point_product16) fun plain_point18 =>
  bd (F_plain_point (triple_at11.1, triple_at11.2.1)) fun plain_point19 =>
  bd (F_plain_point (triple_at11.1, (0 : Int) - triple_at11.2.1)) fun plain_point20 =>
  bd (vB (pInT not (PyData.tuple [(PyData.int plain_point18.1), (PyData.int plain_point18.2)]) (PyData.tuple [(PyData.tuple [(PyData.int plain_point19.1), (PyData.int plain_point19.2)]), (PyData.tuple [(PyData.int plain_point20.1), (PyData.int plain_point20.2)])]))) fun v21 =>
  some v21) (fun b => !b) &&
  got (bd (F_two_paper triple_at11.2.2) fun two_paper24 =>
  bd (cond (!(sEq two_paper24.1 ("squares" : Str))) (some true) (bd (F_parts_of triple_at11.2.2) fun parts_of25 =>
  bd (coS (fun x_26 => bd (imod x_26.1 (4 : Int)) fun v27 =>
  some (!(iEq v27 (1 : Int)))) (fun x_26 => some x_26.1) parts_of25) fun l28 =>
  bd (cond (shortL parts_of25) (some ()) none) fun q29 =>
  some (iLt (0 : Int) (l28.length : Int)))) fun v30 =>
  some v30) (fun b => !b) &&
  iLt triple_at11.2.2 1000000 &&
  cond (iLt triple_at11.2.2 (900 : Int)) (got (F_point_parts (triple_at11.1, triple_at11.2.1)) fun point_parts32 =>
  got (coS (fun x_33 => bd (asI x_33.2) fun v34 =>
  bd (imod v34 (2 : Int)) fun v35 =>
  some (!(iEq v35 (0 : Int)))) (fun x_33 => some x_33.2) point_parts32.2) fun l36 =>
  shortL point_parts32.2 && !(iLt (0 : Int) (l36.length : Int))) true
def chkN (n : Int) : Bool :=
  got (F_triples_up_to n) fun triples_up_to40 =>
  got (vItems triples_up_to40) fun l41 =>
  got (coS (fun _ => some true) (fun x_42 => bd (F_triple_path x_42) fun triple_path43 =>
  some triple_path43) l41) fun l44 =>
  shortL l41 && got (pLenSet [(PyData.list (List.map PyData.str l44))]) fun v46 =>
  got (vI (pLen [triples_up_to40])) fun v47 =>
  got (vB (pNe v46 (PyData.int v47))) fun v48 =>
  !v48 && got (coS (fun x_50 => bd (F_is_triple x_50) fun is_triple51 =>
  some (!(is_triple51))) (fun x_50 => some x_50) l41) fun l52 =>
  !(iLt (0 : Int) (l52.length : Int))
def chkS (s_57 t58 : Int) : Bool :=
  got (F_point_product (s_57, t58) (s_57, t58)) fun point_product59 =>
  got (F__law_abs point_product59.1) fun law_abs60 =>
  got (F_norm (s_57, t58)) fun norm61 =>
  got (F_is_triple (PyData.tuple [(PyData.int law_abs60), (PyData.int point_product59.2), (PyData.int norm61)])) fun is_triple63 =>
  got (F__law_common s_57 t58) fun law_common64 =>
  got (cond (iEq law_common64 (1 : Int)) (bd (imod (s_57 + t58) (2 : Int)) fun v65 =>
  some (iEq v65 (1 : Int))) (some false)) fun v66 =>
  bEq is_triple63 v66
/-- all rows of k letters -/
def rowsL : Nat → List (List Str)
  | 0 => [[]]
  | k + 1 => (rowsL k).map (fun l => ("u" : Str) :: l) ++ (rowsL k).map (fun l => ("m" : Str) :: l) ++ (rowsL k).map (fun l => ("d" : Str) :: l)
theorem rows_3 : (rowsL 0 ++ rowsL 1 ++ rowsL 2 ++ rowsL 3).all chkP = true := by decide +kernel
theorem rows_4 : (rowsL 4).all chkP = true := by decide +kernel
theorem rows_5a : ((rowsL 4).map (fun l => ("u" : Str) :: l)).all chkP = true := by decide +kernel
theorem rows_5b : ((rowsL 4).map (fun l => ("m" : Str) :: l)).all chkP = true := by decide +kernel
theorem rows_5c : ((rowsL 4).map (fun l => ("d" : Str) :: l)).all chkP = true := by decide +kernel
theorem chkS_all : (rngI 2 9).all (fun s => (rngI 1 9).all fun t => chkS s t) = true := by decide +kernel
theorem chkN_a : (rngI 5 100).all chkN = true := by decide +kernel
theorem chkN_b : (rngI 105 60).all chkN = true := by decide +kernel
theorem chkN_c : (rngI 165 40).all chkN = true := by decide +kernel
end Fx

namespace Fx
open PySem PySem.Spec L2
open PyProof.Rows hiding St
theorem rowsP {k : Nat} (hk : k ≤ 5) {l : List Str} (h : l ∈ rowsL k) : chkP l = true := by
  have go : ∀ {k : Nat}, k ≤ 3 → l ∈ rowsL k → chkP l = true := fun {k} hk h => all_mem rows_3 (by
    simp only [List.mem_append]
    rcases (by omega : k = 0 ∨ k = 1 ∨ k = 2 ∨ k = 3) with rfl | rfl | rfl | rfl
    · exact .inl (.inl (.inl h))
    · exact .inl (.inl (.inr h))
    · exact .inl (.inr h)
    · exact .inr h)
  rcases (by omega : k ≤ 3 ∨ k = 4 ∨ k = 5) with h3 | rfl | rfl
  · exact go h3 h
  · exact all_mem rows_4 h
  · have h : l ∈ (rowsL 4).map (fun l => ("u" : Str) :: l) ++ (rowsL 4).map (fun l => ("m" : Str) :: l) ++ (rowsL 4).map (fun l => ("d" : Str) :: l) := h
    rw [List.mem_append, List.mem_append] at h
    rcases h with (h | h) | h
    · exact all_mem rows_5a h
    · exact all_mem rows_5b h
    · exact all_mem rows_5c h
theorem chkN_all {n : Int} (h0 : 5 ≤ n) (h : n < 205) : chkN n = true := by
  by_cases h1 : n < 105
  · exact all_rng chkN_a h0 (by omega)
  · by_cases h2 : n < 165
    · exact all_rng chkN_b (by omega) (by omega)
    · exact all_rng chkN_c (by omega) (by omega)
abbrev letF : Int → PV → Option (Str × PV) := fun x_4 t5 => bd (drw p__law_draw t5 (3 : Int)) fun d6 =>
  bd (vS (pIx (PyData.str ("umd" : Str)) (PyData.int d6.2))) fun v7 =>
  some (v7, d6.1)
theorem let_all : ∀ (l : List Int) (c : Nat) (P : PV), PoolOk c P → c + l.length < 1000 → ∃ ls P', coP letF l P = some (ls, P') ∧ ls ∈ rowsL l.length ∧ PoolOk (c + l.length) P'
  | [], c, P, h, _ => ⟨[], P, rfl, by simp [rowsL], h⟩
  | x :: l, c, P, h, hc => by
    have hc' : c + (l.length + 1) < 1000 := hc
    obtain ⟨P1, d, e1, d0, d1, h1⟩ := drw_get h (m := 3) (by omega) (by decide) (by decide)
    obtain ⟨ls, P2, e2, m2, h2⟩ := let_all l (c + 1) P1 h1 (by omega)
    have hv : ∃ v, vS (pIx (PyData.str ("umd" : Str)) (PyData.int d)) = some v ∧ (v :: ls) ∈ rowsL (l.length + 1) := by
      unfold rowsL
      rcases (by omega : d = 0 ∨ d = 1 ∨ d = 2) with rfl | rfl | rfl
      · exact ⟨"u", by decide +kernel, by simp [m2]⟩
      · exact ⟨"m", by decide +kernel, by simp [m2]⟩
      · exact ⟨"d", by decide +kernel, by simp [m2]⟩
    obtain ⟨v, ev, mv⟩ := hv
    refine ⟨v :: ls, P2, ?_, mv, ?_⟩
    · unfold coP
      have e : letF x P = some (v, P1) := by
        show bd (drw p__law_draw P 3) _ = _
        rw [e1, bd_some]
        dsimp only
        rw [ev, bd_some]
      rw [e]
      simp only [e2]
    · have : c + (x :: l).length = c + 1 + l.length := by simp; omega
      rw [this]; exact h2
theorem tail_true {c : Nat} {P : PV} (hP : PoolOk c P) (hc : c < 100) : (bd (drw p__law_draw P (200 : Int)) fun d67 =>
  bd (some ((5 : Int) + d67.2)) fun n_68 =>
  bd (F_triples_up_to n_68) fun triples_up_to69 =>
  bd (vItems triples_up_to69) fun l70 =>
  bd (coS (fun _ => some true) (fun x_71 => bd (F_triple_path x_71) fun triple_path72 =>
  some triple_path72) l70) fun l73 =>
  bd (cond (shortL l70) (some ()) none) fun q74 =>
  bd (pLenSet [(PyData.list (List.map PyData.str l73))]) fun v75 =>
  bd (vI (pLen [triples_up_to69])) fun v76 =>
  bd (vB (pNe v75 (PyData.int v76))) fun v77 =>
  bd (cond v77 (some true) (bd (vItems triples_up_to69) fun l78 =>
  bd (coS (fun x_79 => bd (F_is_triple x_79) fun is_triple80 =>
  some (!(is_triple80))) (fun x_79 => some x_79) l78) fun l81 =>
  bd (cond (shortL l78) (some ()) none) fun q82 =>
  some (iLt (0 : Int) (l81.length : Int)))) fun v83 =>
  cond v83 (some false) (bd (drw p__law_draw d67.1 (9 : Int)) fun d84 =>
  bd (drw p__law_draw d84.1 (9 : Int)) fun d85 =>
  bd (some ((2 : Int) + d84.2)) fun s_86 =>
  bd (some ((1 : Int) + d85.2)) fun t87 =>
  bd (F_point_product (s_86, t87) (s_86, t87)) fun point_product88 =>
  bd (F__law_abs point_product88.1) fun law_abs89 =>
  bd (F_norm (s_86, t87)) fun norm90 =>
  bd (some (law_abs89, point_product88.2, norm90)) fun made91 =>
  bd (F_is_triple (PyData.tuple [(PyData.int made91.1), (PyData.int made91.2.1), (PyData.int made91.2.2)])) fun is_triple92 =>
  bd (F__law_common s_86 t87) fun law_common93 =>
  bd (cond (iEq law_common93 (1 : Int)) (bd (imod (s_86 + t87) (2 : Int)) fun v94 =>
  some (iEq v94 (1 : Int))) (some false)) fun v95 =>
  some (bEq is_triple92 v95))) = some true := by
  obtain ⟨P1, d, e1, d0, d1, h1⟩ := drw_get hP (m := 200) (by omega) (by decide) (by decide)
  rw [e1, bd_some, bd_some]
  dsimp only
  have ok := chkN_all (n := 5 + d) (by omega) (by omega)
  unfold chkN at ok
  obtain ⟨T, eT, ok⟩ := got_ok ok
  obtain ⟨l, el, ok⟩ := got_ok ok
  obtain ⟨ps, eps, ok⟩ := got_ok ok
  rw [Bool.and_eq_true] at ok
  obtain ⟨sl, ok⟩ := ok
  obtain ⟨v1, ev1, ok⟩ := got_ok ok
  obtain ⟨v2, ev2, ok⟩ := got_ok ok
  obtain ⟨v3, ev3, ok⟩ := got_ok ok
  rw [Bool.and_eq_true] at ok
  obtain ⟨nv3, ok⟩ := ok
  obtain ⟨bad, eb, ok⟩ := got_ok ok
  have v3f : v3 = false := by cases v3 <;> simp_all
  subst v3f
  have okf : iLt 0 (bad.length : Int) = false := by cases h : iLt 0 (bad.length : Int) <;> simp_all
  rw [eT, bd_some, el, bd_some, eps, bd_some, sl, cond_true, bd_some, ev1, bd_some, ev2, bd_some, ev3, bd_some, cond_false, bd_some, eb, bd_some, sl, cond_true, bd_some, okf, bd_some, cond_false]
  obtain ⟨P2, a, e2, a0, a1, h2⟩ := drw_get h1 (m := 9) (by omega) (by decide) (by decide)
  rw [e2, bd_some]
  dsimp only
  obtain ⟨P3, b, e3, b0, b1, h3⟩ := drw_get h2 (m := 9) (by omega) (by decide) (by decide)
  rw [e3, bd_some, bd_some, bd_some]
  dsimp only
  have ok2 : chkS (2 + a) (1 + b) = true := all_rng (p := fun t => chkS (2 + a) t) (lo := 1) (k := 9) (all_rng (p := fun s => (rngI 1 9).all fun t => chkS s t) (lo := 2) (k := 9) chkS_all (by omega) (by omega)) (by omega) (by omega)
  unfold chkS at ok2
  obtain ⟨w1, ew1, ok2⟩ := got_ok ok2
  obtain ⟨w2, ew2, ok2⟩ := got_ok ok2
  obtain ⟨w3, ew3, ok2⟩ := got_ok ok2
  obtain ⟨w4, ew4, ok2⟩ := got_ok ok2
  obtain ⟨w5, ew5, ok2⟩ := got_ok ok2
  obtain ⟨w6, ew6, ok2⟩ := got_ok ok2
  rw [ew1, bd_some, ew2, bd_some, ew3, bd_some, bd_some]
  dsimp only
  rw [ew4, bd_some, ew5, bd_some, ew6, bd_some, ok2]
theorem law_true (ns : List Int) : F_law (scrD ns) = some true := by
  unfold F_law
  refine pool_all fun P1 h1 => ?_
  obtain ⟨P2, d, e2, d0, d1, h2⟩ := drw_get h1 (m := 6) (by decide) (by decide) (by decide)
  rw [e2, bd_some]
  dsimp only
  obtain ⟨d, rfl⟩ : ∃ k : Nat, d = (k : Int) := ⟨d.toNat, by omega⟩
  have lr : ∀ (k : Nat) (lo : Int), (rngI lo k).length = k := fun k => by
    induction k with
    | zero => intro lo; rfl
    | succ k ih => intro lo; unfold rngI; rw [List.length_cons, ih]
  obtain ⟨ls, P3, e3, m3, h3⟩ := let_all (rngI 0 d) 1 P2 h2 (by rw [lr]; omega)
  rw [lr] at m3 h3
  have ok := rowsP (by omega) m3
  have sh : shortL (rngI 0 d) = true := by
    unfold shortL
    rw [lr]
    exact Nat.ble_eq_true_of_le (Nat.le_trans (show d ≤ 6 by omega) (by decide))
  rw [iRng1_n (by omega), bd_some, e3, bd_some, sh, cond_true, bd_some]
  dsimp only
  unfold chkP at ok
  obtain ⟨v10, e10, ok⟩ := got_ok ok
  obtain ⟨tr, etr, ok⟩ := got_ok ok
  obtain ⟨cn, ecn, ok⟩ := got_ok ok
  rw [Bool.and_eq_true] at ok
  obtain ⟨hcn, ok⟩ := ok
  obtain ⟨tp, etp, ok⟩ := got_ok ok
  rw [Bool.and_eq_true] at ok
  obtain ⟨htp, ok⟩ := ok
  obtain ⟨pc, epc, ok⟩ := got_ok ok
  obtain ⟨pp, epp, ok⟩ := got_ok ok
  obtain ⟨nm, enm, ok⟩ := got_ok ok
  rw [Bool.and_eq_true, Bool.and_eq_true, Bool.and_eq_true, Bool.and_eq_true] at ok
  obtain ⟨⟨⟨⟨hnm, okA⟩, okB⟩, okC⟩, okD⟩ := ok
  obtain ⟨b1, eb1, fb1⟩ := got_ok okA
  obtain ⟨b2, eb2, fb2⟩ := got_ok okB
  have hb1 : b1 = false := by cases b1 <;> simp_all
  have hb2 : b2 = false := by cases b2 <;> simp_all
  subst hb1 hb2 hcn
  have e106 : ipow 10 6 = some 1000000 := by rfl
  rw [e10, bd_some, etr, bd_some, ecn, bd_some, Bool.not_true, cond_false, etp, bd_some, htp, Bool.not_true, bd_some, cond_false, epc, bd_some, epp, bd_some, enm, bd_some, hnm, Bool.not_true, cond_false, eb1, bd_some, cond_false, e106, bd_some, okC, cond_true, eb2, bd_some, cond_false]
  by_cases z : iLt tr.2.2 900 = true
  · rw [z, cond_true] at okD
    obtain ⟨q, eq, okD⟩ := got_ok okD
    obtain ⟨l36, e36, okD⟩ := got_ok okD
    rw [Bool.and_eq_true] at okD
    have f36 : iLt 0 (l36.length : Int) = false := by cases h : iLt 0 (l36.length : Int) <;> simp_all
    rw [z, cond_true, eq, bd_some, e36, bd_some, okD.1, cond_true, bd_some, f36, cond_false]
    exact tail_true h3 (by omega)
  · have z : iLt tr.2.2 900 = false := by cases h : iLt tr.2.2 900 <;> simp_all
    rw [z, cond_false]
    exact tail_true h3 (by omega)
theorem all_true (ns : List Int) : p_law [scrD ns] = some (.bool true) := k_law (law_true ns)
end Fx

open PySem PySem.W PySem.Calls PyProof.Rows
theorem PySem.Challenge.cw_numberwright_k64_whole_triples_across_holds : PySem.Challenge.rw_numberwright_k64_whole_triples_across.Holds := by
  exact Fx.holds_of Fx.all_true (by w_witness2)

