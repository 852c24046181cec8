import PyProof.Rows.All
import Wide.All
import OpenK.AllK
import Wide.FinOn
import HandS.ForMost
import HandS.EndBits
import HandS.Deep
import HandS.IsInst
import HandS.TupAny
import HandS.TupLe
import HandS.Wide
import HandS.TupMul
import HandS.Zip
import HandS.Walk
import KE.KDictDisplayH
import PyProof.FactsAll.dict_1
import HandS.TupLen
import KE.SortData
import HandS.SortInts
import HandS.More
import KE.KSortedM
import KE.KDictPairs
import HandS.Dict
import HandS.SetKeys
import HandS.ExcOwn
import KE.GoesEnum
import KE.GoesMore
import HandS.Set
import HandS.SetFor
import HandS.Strs
import HandS.Conv
import HandS.Style
import HandS.ListItems
import HandS.DictTup
import HandS.Small
import HandS.ExcIs
import HandS.ExcField
import HandS.TryMany
import HandS.ExcInit
import HandS.WordsExc
import KE.KExcIs
import PySem.Challenge.RW_storejudge_k52_what_implies_what
set_option Elab.async false
set_option linter.all false
set_option maxRecDepth 100000
set_option maxHeartbeats 4000000
/-! Data, stores, and what they stand for in a heap of the hand layer. -/
namespace CI
open PySem PySem.Spec PyProof.Rows L2

/-- the longest list or tuple that the tree of data speaks of -/
def big : Nat := 1000000
theorem big_le : big ≤ sizeLine := by rw [sizeLine_eq]; decide
theorem le_line {n : Nat} (h : n ≤ big) : n ≤ sizeLine := Nat.le_trans h big_le
theorem lt_line {n : Nat} (h : n ≤ big) : n < sizeLine := Nat.lt_of_le_of_lt h (by rw [sizeLine_eq]; decide)

inductive D where
  | non | bl (b : Bool) | int (i : Int) | str (x : Str)
  | tup (ds : List D) | lst (ds : List D) | ro (ds : List D) | dct (kvs : List (Key × D)) | adr (n : Nat)
  deriving Inhabited

/-- what stands in the store: it may be changed -/
inductive Ob where
  | lst (ds : List D) | dct (kvs : List (Key × D)) | ins (C : Str) (fs : List (Str × D)) | dcn (kvs : List (D × D))
  deriving Inhabited

/-- an exception: its class, its fields; the names where it came up -/
structure Exn where
  cls : Str
  fs : List (Str × D)
  env : List (Option D)

abbrev Store := List Ob
inductive Res (α : Type) where
  | ok (a : α) (S : Store) | exc (x : Exn) (S : Store) | bad

abbrev M (α : Type) := Store → Res α
def ret {α : Type} (a : α) : M α := fun S => .ok a S
def bnd {α β : Type} (m : M α) (f : α → M β) : M β := fun S => match m S with
  | .ok a S' => f a S'
  | .exc x S' => .exc x S'
  | .bad => .bad
def fail {α : Type} : M α := fun _ => .bad
instance : Monad M where
  pure := ret
  bind := bnd

/-- a tuple without a dict of its own, that stays -/
def TupA (K : PySem.W.Frag) (F : Hp) (a : Addr) (xs : List V) : Prop :=
  (∃ o, F a = some (.frz o (.tup xs)) ∧ o.dict = none) ∨
    ∃ (o : Obj) (its : Array Value) (n : Nat), K.lookup a = some o ∧ o.cls = .type "tuple" ∧ o.dict = none ∧ o.data = .seq its n ∧ its.size ≤ sizeLine ∧ Vals xs its.toList
theorem TupA.sq {K : PySem.W.Frag} {F : Hp} {a : Addr} {xs : List V} (h : TupA K F a xs) : SqT K F a xs := by
  rcases h with ⟨o, h, _⟩ | ⟨o, its, n, h1, h2, _, h3, h4, h5⟩
  · exact .inl (.inr ⟨o, h⟩)
  · exact .inr ⟨o, its, n, h1, h2, h3, h4, h5⟩
theorem TupA.mono {K : PySem.W.Frag} {F F' : Hp} {a : Addr} {xs : List V} (s : ∀ a o, F a = some o → F' a = some o) (h : TupA K F a xs) : TupA K F' a xs := by
  rcases h with ⟨o, h, d⟩ | h
  · exact .inl ⟨o, s _ _ h, d⟩
  · exact .inr h

/-! ### what a datum stands for -/
section
variable (K : PySem.W.Frag) (ι : List Addr) (F : Hp)
mutual
inductive Rep : V → D → Prop
  | non : Rep .non .non
  | bl (b : Bool) : Rep (.bl b) (.bl b)
  | int (i : Int) : Rep (.int i) (.int i)
  | str (x : Str) : Rep (.str x) (.str x)
  | tup {a : Addr} {xs : List V} {ds : List D} (h : TupA K F a xs) (r : Reps xs ds) (z : ds.length ≤ big) : Rep (.ref a) (.tup ds)
  | lst {a : Addr} {xs : List V} {ds : List D} (h : F a = some (.lst xs)) (r : Reps xs ds) (z : ds.length ≤ big) : Rep (.ref a) (.lst ds)
  | ro {a : Addr} {xs : List V} {ds : List D} (h : SqL K F a xs) (r : Reps xs ds) (z : ds.length ≤ big) : Rep (.ref a) (.ro ds)
  | dct {a : Addr} {kvs : List (Key × V)} {kds : List (Key × D)} (h : F a = some (.dK kvs)) (r : RepKs kvs kds) (z : kds.length ≤ big) : Rep (.ref a) (.dct kds)
  | adr {a : Addr} {n : Nat} (h : ι[n]? = some a) : Rep (.ref a) (.adr n)
inductive Reps : List V → List D → Prop
  | nil : Reps [] []
  | cons {v : V} {vs : List V} {d : D} {ds : List D} (h : Rep v d) (t : Reps vs ds) : Reps (v :: vs) (d :: ds)
inductive RepKs : List (Key × V) → List (Key × D) → Prop
  | nil : RepKs [] []
  | cons {k : Key} {v : V} {kvs : List (Key × V)} {d : D} {kds : List (Key × D)} (h : Rep v d) (t : RepKs kvs kds) : RepKs ((k, v) :: kvs) ((k, d) :: kds)
end
end

/-- later: more objects, more of what stays -/
structure Le (ι : List Addr) (F : Hp) (ι' : List Addr) (F' : Hp) : Prop where
  pre : ∃ t, ι' = ι ++ t
  sub : ∀ a o, F a = some o → F' a = some o
theorem Le.refl (ι : List Addr) (F : Hp) : Le ι F ι F := ⟨⟨[], (List.append_nil _).symm⟩, fun _ _ h => h⟩
theorem Le.trans {ι ι1 ι2 : List Addr} {F F1 F2 : Hp} (a : Le ι F ι1 F1) (b : Le ι1 F1 ι2 F2) : Le ι F ι2 F2 := by
  obtain ⟨t, rfl⟩ := a.pre
  obtain ⟨u, rfl⟩ := b.pre
  exact ⟨⟨t ++ u, (List.append_assoc _ _ _)⟩, fun x o h => b.sub x o (a.sub x o h)⟩
theorem Le.at {ι ι' : List Addr} {F F' : Hp} (l : Le ι F ι' F') {n : Nat} {a : Addr} (h : ι[n]? = some a) : ι'[n]? = some a := by
  obtain ⟨t, rfl⟩ := l.pre
  obtain ⟨q, e⟩ := List.getElem?_eq_some_iff.mp h
  rw [List.getElem?_append_left q]; exact h
theorem SqL.mono {K : PySem.W.Frag} {F F' : Hp} {a : Addr} {xs : List V} (s : ∀ a o, F a = some o → F' a = some o) (h : SqL K F a xs) : SqL K F' a xs := by
  rcases h with (h | ⟨o, h⟩) | h
  · exact .inl (.inl (s _ _ h))
  · exact .inl (.inr ⟨o, s _ _ h⟩)
  · exact .inr h
section
variable {K : PySem.W.Frag} {ι ι' : List Addr} {F F' : Hp}
mutual
theorem Rep.mono (l : Le ι F ι' F') : ∀ {v : V} {d : D}, Rep K ι F v d → Rep K ι' F' v d
  | _, _, .non => .non
  | _, _, .bl b => .bl b
  | _, _, .int i => .int i
  | _, _, .str x => .str x
  | _, _, .tup h r z => .tup (h.mono l.sub) (Reps.mono l r) z
  | _, _, .lst h r z => .lst (l.sub _ _ h) (Reps.mono l r) z
  | _, _, .ro h r z => .ro (SqL.mono l.sub h) (Reps.mono l r) z
  | _, _, .dct h r z => .dct (l.sub _ _ h) (RepKs.mono l r) z
  | _, _, .adr h => .adr (l.at h)
theorem Reps.mono (l : Le ι F ι' F') : ∀ {vs : List V} {ds : List D}, Reps K ι F vs ds → Reps K ι' F' vs ds
  | _, _, .nil => .nil
  | _, _, .cons h t => .cons (Rep.mono l h) (Reps.mono l t)
theorem RepKs.mono (l : Le ι F ι' F') : ∀ {kvs : List (Key × V)} {kds : List (Key × D)}, RepKs K ι F kvs kds → RepKs K ι' F' kvs kds
  | _, _, .nil => .nil
  | _, _, .cons h t => .cons (Rep.mono l h) (RepKs.mono l t)
end
theorem Reps.length : ∀ {vs : List V} {ds : List D}, Reps K ι F vs ds → vs.length = ds.length
  | _, _, .nil => rfl
  | _, _, .cons _ t => by simp [Reps.length t]
theorem RepKs.length : ∀ {vs : List (Key × V)} {ds : List (Key × D)}, RepKs K ι F vs ds → vs.length = ds.length
  | _, _, .nil => rfl
  | _, _, .cons _ t => by simp [RepKs.length t]
theorem Reps.append : ∀ {vs ws : List V} {ds es : List D}, Reps K ι F vs ds → Reps K ι F ws es → Reps K ι F (vs ++ ws) (ds ++ es)
  | _, _, _, _, .nil, s => s
  | _, _, _, _, .cons h t, s => .cons h (Reps.append t s)
theorem Reps.get : ∀ {vs : List V} {ds : List D} {i : Nat} {v : V}, Reps K ι F vs ds → vs[i]? = some v → ∃ d, ds[i]? = some d ∧ Rep K ι F v d
  | _, _, _, _, .nil, e => by simp at e
  | _, _, 0, _, .cons h t, e => by
    simp at e; subst e; exact ⟨_, rfl, h⟩
  | _, _, i + 1, _, .cons h t, e => by
    obtain ⟨d, e1, r⟩ := Reps.get t (by simpa using e)
    exact ⟨d, by simpa using e1, r⟩
theorem Reps.at : ∀ {vs : List V} {ds : List D} {i : Nat} {d : D}, Reps K ι F vs ds → ds[i]? = some d → ∃ v, vs[i]? = some v ∧ Rep K ι F v d
  | _, _, _, _, .nil, e => by simp at e
  | _, _, 0, _, .cons h t, e => by
    simp at e; subst e; exact ⟨_, rfl, h⟩
  | _, _, i + 1, _, .cons h t, e => by
    obtain ⟨d, e1, r⟩ := Reps.at t (by simpa using e)
    exact ⟨d, by simpa using e1, r⟩
theorem Reps.take : ∀ {vs : List V} {ds : List D} (n : Nat), Reps K ι F vs ds → Reps K ι F (vs.take n) (ds.take n)
  | _, _, 0, _ => .nil
  | _, _, n + 1, .nil => .nil
  | _, _, n + 1, .cons h t => .cons h (Reps.take n t)
theorem Reps.drop : ∀ {vs : List V} {ds : List D} (n : Nat), Reps K ι F vs ds → Reps K ι F (vs.drop n) (ds.drop n)
  | _, _, 0, r => r
  | _, _, n + 1, .nil => .nil
  | _, _, n + 1, .cons h t => Reps.drop n t
theorem Reps.set {v : V} {d : D} (r : Rep K ι F v d) : ∀ {vs : List V} {ds : List D} (n : Nat), Reps K ι F vs ds → Reps K ι F (vs.set n v) (ds.set n d)
  | _, _, _, .nil => .nil
  | _, _, 0, .cons _ t => .cons r t
  | _, _, n + 1, .cons h t => .cons h (Reps.set r n t)
theorem Reps.reverse {vs : List V} {ds : List D} (h : Reps K ι F vs ds) : Reps K ι F vs.reverse ds.reverse := by
  induction vs generalizing ds with
  | nil => cases h; exact .nil
  | cons v vs ih =>
    cases h with
    | cons h t =>
      rw [List.reverse_cons, List.reverse_cons]
      exact (ih t).append (.cons h .nil)
theorem Reps.rep {vs : List V} {ds : List D} (h : Reps K ι F vs ds) : ∀ k : Nat, Reps K ι F (List.replicate k vs).flatten (List.replicate k ds).flatten
  | 0 => .nil
  | k + 1 => by
    rw [List.replicate_succ, List.replicate_succ, List.flatten_cons, List.flatten_cons]
    exact h.append (Reps.rep h k)
end

/-! ### the store in the heap -/
inductive RepFs (K : PySem.W.Frag) (ι : List Addr) (F : Hp) : List (Str × V) → List (Str × D) → Prop
  | nil : RepFs K ι F [] []
  | cons {k : Str} {v : V} {kvs : List (Str × V)} {d : D} {kds : List (Str × D)} (h : Rep K ι F v d) (t : RepFs K ι F kvs kds) : RepFs K ι F ((k, v) :: kvs) ((k, d) :: kds)
theorem RepFs.mono {K : PySem.W.Frag} {ι ι' : List Addr} {F F' : Hp} (l : Le ι F ι' F') {kvs : List (Str × V)} {kds : List (Str × D)} (h : RepFs K ι F kvs kds) : RepFs K ι' F' kvs kds := by
  induction h with
  | nil => exact .nil
  | cons h _ ih => exact .cons (h.mono l) ih

/-! ### dicts whose keys are tuples -/
mutual
def nkD : D → Option NestedKey
  | .non => some .none
  | .bl b => some (.num (if b = true then 1 else 0))
  | .int i => some (.num i)
  | .str x => some (.text x)
  | .tup ds => (nkDs ds).map .tup
  | _ => none
def nkDs : List D → Option (List NestedKey)
  | [] => some []
  | d :: ds => (nkD d).bind fun k => (nkDs ds).map (k :: ·)
end
/-- a tuple as a key -/
def nkO : D → Option NestedKey
  | .tup ds => (nkDs ds).bind fun ks => if (NestedKey.tup ks).depth ≤ 8 then some (.tup ks) else none
  | _ => none
def PinO (a : Addr) (o : Obj) : HO := .ext fun h => h.get? a = some o
inductive RepNs (K : PySem.W.Frag) (ι : List Addr) (F : Hp) : List (NestedKey × Addr × Value) → List (D × D) → Prop
  | nil : RepNs K ι F [] []
  | cons {k : NestedKey} {a : Addr} {v : V} {u : Value} {xs : List (NestedKey × Addr × Value)} {kd d : D} {kds : List (D × D)} (hk : nkO kd = some k) (rk : Rep K ι F (.ref a) kd) (rv : Rep K ι F v d) (ru : RelV v u) (t : RepNs K ι F xs kds) : RepNs K ι F ((k, a, u) :: xs) ((kd, d) :: kds)
theorem RepNs.mono {K : PySem.W.Frag} {ι ι' : List Addr} {F F' : Hp} (l : Le ι F ι' F') {xs : List (NestedKey × Addr × Value)} {kds : List (D × D)} (h : RepNs K ι F xs kds) : RepNs K ι' F' xs kds := by
  induction h with
  | nil => exact .nil
  | cons hk rk rv ru _ ih => exact .cons hk (rk.mono l) (rv.mono l) ru ih

/-- what all defs of a text lean on -/
structure Gx where
  P : Program
  w : World
  K : PySem.W.Frag
  mg : Str → Option Value
  base : Heap
  CX : CXT
  cls : Str → Option Addr
  xcls : Str → Option Addr
  /-- the fields of an exception that is held -/
  hd : Option (Addr × List (Str × D))
  /-- the name that holds it -/
  xv : Option (Nat × Addr)

inductive RepO (G : Gx) (ι : List Addr) (F H : Hp) (a : Addr) : Ob → Prop
  | lst {xs : List V} {ds : List D} (h : H a = some (.lst xs)) (r : Reps G.K ι F xs ds) (z : ds.length ≤ big) : RepO G ι F H a (.lst ds)
  | dct {kvs : List (Key × V)} {kds : List (Key × D)} (h : H a = some (.dK kvs)) (r : RepKs G.K ι F kvs kds) (z : kds.length ≤ big) : RepO G ι F H a (.dct kds)
  | ins {C dx : Addr} {c : Str} {fs : List (Str × V)} {ds : List (Str × D)} (h : H a = some (.ins C dx fs)) (hc : G.cls c = some C) (r : RepFs G.K ι F fs ds) (z : ds.length ≤ 100) : RepO G ι F H a (.ins c ds)
  | dcn {o : Obj} {es : Array DictEntry} {ep : Nat} {xs : List (NestedKey × Addr × Value)} {kds : List (D × D)} (h : H a = some (PinO a o)) (hc : o.ExactDict) (hd : o.data = .dict es ep) (hx : es.toList = xs.map fun x => ⟨x.1.hash G.w, .ref x.2.1, x.2.2⟩)
    (nd : (xs.map (·.1)).Nodup) (hs : (a == sysModules) = false) (r : RepNs G.K ι F xs kds) (z : kds.length ≤ big) : RepO G ι F H a (.dcn kds)

/-- the fields of the exception that is held -/
def Held (G : Gx) (ι : List Addr) (F W H : Hp) : Prop := ∀ d fs, G.hd = some (d, fs) → ∃ fv, H d = some (.xd fv) ∧ RepFs G.K ι F fv fs ∧ F d = none ∧ d ∉ ι ∧ W d = none
theorem Held.next {G : Gx} {ι ι' : List Addr} {F F' W W' H H' : Hp} (h : Held G ι F W H) (l : Le ι F ι' F') (k : ∀ d fv, H d = some (.xd fv) → F d = none → d ∉ ι → W d = none → H' d = some (.xd fv) ∧ F' d = none ∧ d ∉ ι' ∧ W' d = none) : Held G ι' F' W' H' := fun d fs e => by
  obtain ⟨fv, h1, h2, h3, h4, h5⟩ := h d fs e
  obtain ⟨k1, k2, k3, k4⟩ := k d fv h1 h3 h4 h5
  exact ⟨fv, k1, h2.mono l, k2, k3, k4⟩
structure HR (G : Gx) (ι : List Addr) (F W : Hp) (S : Store) (H : Hp) : Prop where
  sub : ∀ a o, F a = some o → H a = some o
  len : ι.length = S.length
  nd : ι.Nodup
  sep : ∀ a ∈ ι, F a = none
  aside : ∀ a o, W a = some o → H a = some o ∧ F a = none ∧ a ∉ ι
  obs : ∀ (n : Nat) (a : Addr) (ob : Ob), ι[n]? = some a → S[n]? = some ob → RepO G ι F H a ob
  held : Held G ι F W H

/-! ### environments -/
abbrev DEnv := List (Option D)
structure EnvR (G : Gx) (ι : List Addr) (F : Hp) (ρ : DEnv) (σ : L2.St) : Prop where
  len : ρ.length = σ.length
  at_ : ∀ (i : Nat) (d : D), ρ[i]? = some (some d) → ∃ v, σ[i]? = some (some v) ∧ Rep G.K ι F v d
  xv : ∀ (i : Nat) (a : Addr), G.xv = some (i, a) → ρ[i]? = some none → σ[i]? = some (some (.ref a))
theorem EnvR.mono {G : Gx} {ι ι' : List Addr} {F F' : Hp} {ρ : DEnv} {σ : L2.St} (h : EnvR G ι F ρ σ) (l : Le ι F ι' F') : EnvR G ι' F' ρ σ :=
  ⟨h.len, fun i d e => let ⟨v, e1, r⟩ := h.at_ i d e; ⟨v, e1, r.mono l⟩, h.xv⟩
theorem EnvR.set {G : Gx} {ι : List Addr} {F : Hp} {ρ : DEnv} {σ : L2.St} (h : EnvR G ι F ρ σ) (i : Nat) {d : D} {v : V} (r : Rep G.K ι F v d) : EnvR G ι F (ρ.set i (some d)) (σ.set i (some v)) := by
  refine ⟨by simp [h.len], fun j e he => ?_, fun j a ha e => ?_⟩
  rotate_left
  · by_cases hj : i = j
    · subst hj
      by_cases hi : i < ρ.length
      · rw [List.getElem?_set_self hi] at e; cases e
      · rw [List.getElem?_eq_none (by simpa using hi)] at e; cases e
    · rw [List.getElem?_set_ne hj] at e
      rw [List.getElem?_set_ne hj]
      exact h.xv j a ha e
  by_cases hj : i = j
  · subst hj
    by_cases hi : i < ρ.length
    · rw [List.getElem?_set_self hi] at he
      cases he
      exact ⟨v, List.getElem?_set_self (h.len ▸ hi), r⟩
    · rw [List.getElem?_eq_none (by simpa using hi)] at he; cases he
  · rw [List.getElem?_set_ne hj] at he
    rw [List.getElem?_set_ne hj]
    exact h.at_ j e he
theorem EnvR.unset {G : Gx} {ι : List Addr} {F : Hp} {ρ : DEnv} {σ : L2.St} (h : EnvR G ι F ρ σ) (hx : G.xv = none) (i : Nat) : EnvR G ι F (ρ.set i none) (σ.set i none) := by
  refine ⟨by simp [h.len], fun j e he => ?_, fun j a ha e => (by rw [hx] at ha; cases ha)⟩
  by_cases hj : i = j
  · subst hj
    by_cases hi : i < ρ.length
    · rw [List.getElem?_set_self hi] at he; cases he
    · rw [List.getElem?_eq_none (by simpa using hi)] at he; cases he
  · rw [List.getElem?_set_ne hj] at he
    rw [List.getElem?_set_ne hj]
    exact h.at_ j e he
def wipeD (ρ : DEnv) : List Nat → DEnv
  | [] => ρ
  | v :: vs => (wipeD ρ vs).set v none
theorem EnvR.wipe {G : Gx} {ι : List Addr} {F : Hp} {ρ : DEnv} {σ : L2.St} (h : EnvR G ι F ρ σ) (hx : G.xv = none) : ∀ vs : List Nat, EnvR G ι F (wipeD ρ vs) (wipe σ vs)
  | [] => h
  | v :: vs => (EnvR.wipe h hx vs).unset hx v

/-- what an exception stands for -/
def XR (G : Gx) (ι : List Addr) (F W : Hp) (x : Exn) (c : Value) (dd : Option Addr) (H : Hp) : Prop := ∃ C, G.xcls x.cls = some C ∧ c = .ref C ∧ match dd with
  | none => x.fs = []
  | some d => ∃ fv, H d = some (.xd fv) ∧ RepFs G.K ι F fv x.fs ∧ F d = none ∧ d ∉ ι ∧ W d = none
abbrev XS := L2.St → XK
def E0 : XS := fun _ => L2.E0
/-- what is wanted behind -/
abbrev RT (α : Type) := List Addr → Hp → Store → Hp → α → Prop
def Post (G : Gx) (ι : List Addr) (F W : Hp) (E : XS) {α : Type} (R : RT α) : Res α → Prop
  | .ok d S' => ∀ ι' F' H', Le ι F ι' F' → HR G ι' F' W S' H' → R ι' F' S' H' d
  | .exc x S' => ∀ (σ : L2.St) (c : Value) (dd : Option Addr) ι' F' H', EnvR G ι' F' x.env σ → Le ι F ι' F' → HR G ι' F' W S' H' → XR G ι' F' W x c dd H' → E σ c dd H'
  | .bad => False
/-- a value wanted -/
abbrev RV (G : Gx) (Q : VK) : RT D := fun ι' F' _ H' d => ∀ v, Rep G.K ι' F' v d → Q v H'
abbrev RVs (G : Gx) (Q : List V → Hp → Prop) : RT (List D) := fun ι' F' _ H' ds => ∀ vs, Reps G.K ι' F' vs ds → Q vs H'
section
variable {G : Gx} {ι ι1 : List Addr} {F F1 : Hp} {W : Hp} {E : XS} {α β : Type}
theorem Post.le {R : RT α} {r : Res α} (l : Le ι F ι1 F1) (h : Post G ι F W E R r) : Post G ι1 F1 W E R r := by
  cases r with
  | ok d S' => exact fun ι' F' H' l' hr => h ι' F' H' (l.trans l') hr
  | exc x S' => exact fun σ c dd ι' F' H' e l' hr => h σ c dd ι' F' H' e (l.trans l') hr
  | bad => exact h
theorem Post.mono {R R' : RT α} {r : Res α} (h : Post G ι F W E R r)
    (k : ∀ ι' F' S' H' d, Le ι F ι' F' → HR G ι' F' W S' H' → R ι' F' S' H' d → R' ι' F' S' H' d) : Post G ι F W E R' r := by
  cases r with
  | ok d S' => exact fun ι' F' H' l' hr => k _ _ _ _ _ l' hr (h ι' F' H' l' hr)
  | exc x S' => exact h
  | bad => exact h
/-- the first part of a row of two -/
theorem Post.seq {R : RT β} {R1 : RT α} {m : M α} {f : α → M β} {S : Store} (h : Post G ι F W E R (bnd m f S))
    (k : ∀ ι1 F1 S1 H1 d, Le ι F ι1 F1 → HR G ι1 F1 W S1 H1 → Post G ι1 F1 W E R (f d S1) → R1 ι1 F1 S1 H1 d) : Post G ι F W E R1 (m S) := by
  unfold CI.bnd at h
  cases e : m S with
  | ok d S' =>
    rw [e] at h
    exact fun ι' F' H' l hr => k _ _ _ _ _ l hr (h.le l)
  | exc x S' => rw [e] at h; exact h
  | bad => rw [e] at h; exact h
theorem Post.now {R : RT α} {d : α} {S : Store} {H : Hp} (h : Post G ι F W E R (.ok d S)) (hr : HR G ι F W S H) : R ι F S H d := h ι F H (Le.refl _ _) hr
end

/-! ### the readings -/
def tI (G : Gx) (E : XS) (m : DEnv → M D) : TE := fun σ H Q => ∃ ρ S ι F W, EnvR G ι F ρ σ ∧ HR G ι F W S H ∧ Post G ι F W E (RV G Q) (m ρ S)
def tIs (G : Gx) (E : XS) (m : DEnv → M (List D)) : TA := fun σ H Q => ∃ ρ S ι F W, EnvR G ι F ρ σ ∧ HR G ι F W S H ∧ Post G ι F W E (RVs G Q) (m ρ S)
def tIB (G : Gx) (E : XS) (m : DEnv → M Bool) : TT := fun σ H Q => ∃ ρ S ι F W, EnvR G ι F ρ σ ∧ HR G ι F W S H ∧ Post G ι F W E (fun _ _ _ H' b => Q b H') (m ρ S)

theorem PE.imp {X : Cx} {e : Expr} {t t' : TE} (h : PE X e t) (k : ∀ σ H Q, t' σ H Q → t σ H Q) : PE X e t' := ⟨fun pins s σ H Q I q => h.run pins s σ H Q I (k _ _ _ q)⟩
theorem PT.imp {X : Cx} {e : Expr} {t t' : TT} (h : PT X e t) (k : ∀ σ H Q, t' σ H Q → t σ H Q) : PT X e t' := ⟨fun pins s σ H Q I q => h.run pins s σ H Q I (k _ _ _ q)⟩
theorem PW.imp {X : Cx} {e : Expr} {t t' : TT} (h : PW X e t) (k : ∀ σ H Q, t' σ H Q → t σ H Q) : PW X e t' := ⟨fun w pins s σ H Q I q => h.run w pins s σ H Q I (k _ _ _ q)⟩
theorem PA.imp {X : Cx} {e : List Expr} {t t' : TA} (h : PA X e t) (k : ∀ σ H Q, t' σ H Q → t σ H Q) : PA X e t' := ⟨fun p pins s σ H Q I q => h.run p pins s σ H Q I (k _ _ _ q)⟩
theorem PS.imp {X : Cx} {e : Stmt} {t t' : TS} (h : PS X e t) (k : ∀ D σ H, t' D σ H → t D σ H) : PS X e t' := ⟨fun pins s σ H D I q => h.run pins s σ H D I (k _ _ _ q)⟩
theorem PSs.imp {X : Cx} {e : List Stmt} {t t' : TS} (h : PSs X e t) (k : ∀ D σ H, t' D σ H → t D σ H) : PSs X e t' := ⟨fun pins s σ H D I q => h.run pins s σ H D I (k _ _ _ q)⟩

/-- one more object, as data that stay -/
theorem HR.keep {G : Gx} {ι : List Addr} {F H : Hp} {W : Hp} {S : Store} (h : HR G ι F W S H) {p : Addr} (hp : H p = none) (o : HO) :
    HR G ι (upd F p o) W S (upd H p o) ∧ Le ι F ι (upd F p o) := by
  have fp : F p = none := by
    cases q : F p with
    | none => rfl
    | some u => rw [h.sub p u q] at hp; cases hp
  have l : Le ι F ι (upd F p o) := ⟨⟨[], (List.append_nil _).symm⟩, fun a u e => by rw [upd_ne (ne_of_none e fp)]; exact e⟩
  have np : ∀ a ∈ ι, a ≠ p := fun a ha e => by
    subst e
    obtain ⟨n, hn⟩ := List.mem_iff_getElem?.mp ha
    obtain ⟨q, _⟩ := List.getElem?_eq_some_iff.mp hn
    have q' : n < S.length := h.len ▸ q
    have := h.obs n a S[n] hn (List.getElem?_eq_getElem q')
    generalize S[n] = ob0 at this
    cases this with
    | lst e _ _ => rw [hp] at e; cases e
    | dct e _ _ => rw [hp] at e; cases e
    | ins e _ _ _ => rw [hp] at e; cases e
    | dcn e _ _ _ _ _ _ _ => rw [hp] at e; cases e
  refine ⟨⟨fun a u e => ?_, h.len, h.nd, fun a ha => ?_, fun a u e => ?_, fun n a ob e1 e2 => ?_, h.held.next l fun d fv q1 q2 q3 q4 => ⟨by rw [upd_ne (ne_of_none q1 hp)]; exact q1, by rw [upd_ne (ne_of_none q1 hp)]; exact q2, q3, q4⟩⟩, l⟩
  · by_cases ha : a = p
    · subst ha; rw [upd_same] at e ⊢; exact e
    · rw [upd_ne ha] at e ⊢; exact h.sub a u e
  · rw [upd_ne (np a ha)]; exact h.sep a ha
  · obtain ⟨e1, e2, e3⟩ := h.aside a u e
    have ha : a ≠ p := ne_of_none e1 hp
    exact ⟨by rw [upd_ne ha]; exact e1, by rw [upd_ne ha]; exact e2, e3⟩
  · have hn := np a (List.mem_of_getElem? e1)
    cases h.obs n a ob e1 e2 with
    | lst e r z => exact .lst (by rw [upd_ne hn]; exact e) (r.mono l) z
    | dct e r z => exact .dct (by rw [upd_ne hn]; exact e) (r.mono l) z
    | ins e c r z => exact .ins (by rw [upd_ne hn]; exact e) c (r.mono l) z
    | dcn e c q x n s r z => exact .dcn (by rw [upd_ne hn]; exact e) c q x n s (r.mono l) z
/-- one more object in the store -/
theorem HR.lay {G : Gx} {ι : List Addr} {F H : Hp} {W : Hp} {S : Store} (h : HR G ι F W S H) {p : Addr} (hp : H p = none) (o : HO) (ob : Ob) (r : ∀ ι', Le ι F ι' F → RepO G ι' F (upd H p o) p ob) :
    HR G (ι ++ [p]) F W (S ++ [ob]) (upd H p o) ∧ Le ι F (ι ++ [p]) F := by
  have fp : F p = none := by
    cases q : F p with
    | none => rfl
    | some u => rw [h.sub p u q] at hp; cases hp
  have l : Le ι F (ι ++ [p]) F := ⟨⟨[p], rfl⟩, fun _ _ e => e⟩
  have np : ∀ a ∈ ι, a ≠ p := fun a ha e => by
    subst e
    obtain ⟨n, hn⟩ := List.mem_iff_getElem?.mp ha
    obtain ⟨q, _⟩ := List.getElem?_eq_some_iff.mp hn
    have q' : n < S.length := h.len ▸ q
    have := h.obs n a S[n] hn (List.getElem?_eq_getElem q')
    generalize S[n] = ob0 at this
    cases this with
    | lst e _ _ => rw [hp] at e; cases e
    | dct e _ _ => rw [hp] at e; cases e
    | ins e _ _ _ => rw [hp] at e; cases e
    | dcn e _ _ _ _ _ _ _ => rw [hp] at e; cases e
  refine ⟨⟨fun a u e => ?_, by simp [h.len], ?_, fun a ha => ?_, fun a u e => ?_, fun n a ob' e1 e2 => ?_, h.held.next l fun d fv q1 q2 q3 q4 => ⟨by rw [upd_ne (ne_of_none q1 hp)]; exact q1, q2, fun z => (List.mem_append.mp z).elim q3 fun z => ne_of_none q1 hp (List.mem_singleton.mp z), q4⟩⟩, l⟩
  · rw [upd_ne (ne_of_none e fp)]; exact h.sub a u e
  · rw [List.nodup_append]
    exact ⟨h.nd, by simp, fun a ha b hb => by rw [List.mem_singleton.mp hb]; exact np a ha⟩
  · rcases List.mem_append.mp ha with q | q
    · exact h.sep a q
    · rw [List.mem_singleton.mp q]; exact fp
  · obtain ⟨e1, e2, e3⟩ := h.aside a u e
    have ha : a ≠ p := ne_of_none e1 hp
    refine ⟨by rw [upd_ne ha]; exact e1, e2, fun q => ?_⟩
    rcases List.mem_append.mp q with q | q
    · exact e3 q
    · exact ha (List.mem_singleton.mp q)
  · by_cases hn : n < ι.length
    · rw [List.getElem?_append_left hn] at e1
      rw [List.getElem?_append_left (h.len ▸ hn)] at e2
      have hne := np a (List.mem_of_getElem? e1)
      cases h.obs n a ob' e1 e2 with
      | lst e r z => exact .lst (by rw [upd_ne hne]; exact e) (r.mono l) z
      | dct e r z => exact .dct (by rw [upd_ne hne]; exact e) (r.mono l) z
      | ins e c r z => exact .ins (by rw [upd_ne hne]; exact e) c (r.mono l) z
      | dcn e c q x n s r z => exact .dcn (by rw [upd_ne hne]; exact e) c q x n s (r.mono l) z
    · have hn' : ι.length ≤ n := Nat.le_of_not_lt hn
      rw [List.getElem?_append_right hn'] at e1
      rw [List.getElem?_append_right (h.len ▸ hn')] at e2
      have e0 : n - ι.length = 0 := by
        obtain ⟨q, _⟩ := List.getElem?_eq_some_iff.mp e1
        simp at q; omega
      have e0' : n - S.length = 0 := by rw [← h.len]; exact e0
      rw [e0] at e1
      rw [e0'] at e2
      simp at e1 e2
      subst e1 e2
      exact r _ l
/-- an object of the store is changed -/
theorem HR.write {G : Gx} {ι : List Addr} {F H : Hp} {W : Hp} {S : Store} (h : HR G ι F W S H) {p : Addr} {n : Nat} (hp : ι[n]? = some p) (o : HO) (ob : Ob) (r : RepO G ι F (upd H p o) p ob) : HR G ι F W (S.set n ob) (upd H p o) := by
  have fp : F p = none := h.sep p (List.mem_of_getElem? hp)
  refine ⟨fun a u e => by rw [upd_ne (ne_of_none e fp)]; exact h.sub a u e, by simp [h.len], h.nd, h.sep, fun a u e => ?_, fun m a ob' e1 e2 => ?_, h.held.next (Le.refl _ _) fun d fv q1 q2 q3 q4 => ⟨by rw [upd_ne (show d ≠ p from fun z => q3 (by rw [z]; exact List.mem_of_getElem? hp))]; exact q1, q2, q3, q4⟩⟩
  · obtain ⟨e1, e2, e3⟩ := h.aside a u e
    have ha : a ≠ p := fun q => e3 (q ▸ List.mem_of_getElem? hp)
    exact ⟨by rw [upd_ne ha]; exact e1, e2, e3⟩
  by_cases hm : n = m
  · subst hm
    rw [hp] at e1; cases e1
    obtain ⟨q, _⟩ := List.getElem?_eq_some_iff.mp hp
    rw [List.getElem?_set_self (h.len ▸ q)] at e2
    cases e2
    exact r
  · rw [List.getElem?_set_ne hm] at e2
    have hne : a ≠ p := by
      rintro rfl
      obtain ⟨q1, z1⟩ := List.getElem?_eq_some_iff.mp hp
      obtain ⟨q2, z2⟩ := List.getElem?_eq_some_iff.mp e1
      exact hm ((List.getElem_inj h.nd).mp (z1.trans z2.symm))
    cases h.obs m a ob' e1 e2 with
    | lst e r z => exact .lst (by rw [upd_ne hne]; exact e) r z
    | dct e r z => exact .dct (by rw [upd_ne hne]; exact e) r z
    | ins e c r z => exact .ins (by rw [upd_ne hne]; exact e) c r z
    | dcn e c q x n s r z => exact .dcn (by rw [upd_ne hne]; exact e) c q x n s r z
end CI

/-! Operators and built-ins on data. -/
namespace CI
open PySem PySem.Spec PyProof.Rows L2 HT

/-- what looks at the store alone -/
def look {α : Type} (f : Store → Option α) : M α := fun S => match f S with
  | some a => .ok a S
  | none => .bad
theorem Post.look {G : Gx} {ι : List Addr} {F : Hp} {W : Hp} {E : XS} {α : Type} {R : RT α} {f : Store → Option α} {S : Store} {H : Hp} (hr : HR G ι F W S H) (h : Post G ι F W E R (look f S)) :
    ∃ a, f S = some a ∧ R ι F S H a := by
  unfold CI.look at h
  cases e : f S with
  | some a => rw [e] at h; exact ⟨a, rfl, h.now hr⟩
  | none => rw [e] at h; exact h.elim

/-! ### data as the library's data -/
mutual
def py0 : D → PyData
  | .non => .none
  | .bl b => .bool b
  | .int i => .int i
  | .str x => .str x
  | .tup ds => .tuple (py0s ds)
  | .lst ds => .list (py0s ds)
  | .ro ds => .list (py0s ds)
  | .dct _ => .dict []
  | .adr _ => .dict []
def py0s : List D → List PyData
  | [] => []
  | d :: ds => py0 d :: py0s ds
end
def py (S : Store) (d : D) : PyData := match d with
  | .adr n => (match S[n]? with | some (.lst ds) => .list (py0s ds) | _ => .dict [])
  | d => py0 d

section
variable {K : PySem.W.Frag} {ι : List Addr} {F H : Hp}
mutual
theorem Rep.dp (s : ∀ a o, F a = some o → H a = some o) : ∀ {v : V} {d : D}, Rep K ι F v d → (py0 d).canLay0 = true → Dp K H v (py0 d)
  | _, _, .non, _ => .non
  | _, _, .bl b, _ => .bl b
  | _, _, .int i, _ => .int i
  | _, _, .str x, _ => .str x
  | _, _, .tup h r z, c => by
    simp only [py0, PyData.canLay0] at c ⊢
    exact .tup (h.mono s).sq (Reps.dp s r c)
  | _, _, .lst h r z, c => by
    simp only [py0, PyData.canLay0] at c ⊢
    exact .lst (.of (s _ _ h)) (Reps.dp s r c)
  | _, _, .ro h r z, c => by
    simp only [py0, PyData.canLay0] at c ⊢
    exact .lst (SqL.mono s h) (Reps.dp s r c)
  | _, _, .dct h r z, c => by simp [py0, PyData.canLay0] at c
  | _, _, .adr h, c => by simp [py0, PyData.canLay0] at c
theorem Reps.dp (s : ∀ a o, F a = some o → H a = some o) : ∀ {vs : List V} {ds : List D}, Reps K ι F vs ds → PyData.canLayAll0 (py0s ds) = true → DpAll K H vs (py0s ds)
  | _, _, .nil, _ => .nil
  | _, _, .cons h t, c => by
    simp only [py0s, PyData.canLayAll0, Bool.and_eq_true] at c ⊢
    exact .cons (Rep.dp s h c.1) (Reps.dp s t c.2)
end
end
theorem Rep.dpS {G : Gx} {ι : List Addr} {F H : Hp} {W : Hp} {S : Store} (hr : HR G ι F W S H) {v : V} {d : D} (r : Rep G.K ι F v d) (c : SeqAt.shaped (py S d) = true) : Dp G.K H v (py S d) := by
  have c' := SeqAt.canLay_of_shaped c
  cases r with
  | @adr a n h =>
    unfold py at c' ⊢
    simp only at c' ⊢
    obtain ⟨q, _⟩ := List.getElem?_eq_some_iff.mp h
    have q' : n < S.length := hr.len ▸ q
    have o := hr.obs n a S[n] h (List.getElem?_eq_getElem q')
    rw [List.getElem?_eq_getElem q'] at c' ⊢
    generalize S[n] = ob at o c' ⊢
    cases o with
    | lst e r z =>
      simp only [PyData.canLay0] at c' ⊢
      exact .lst (.of e) (Reps.dp hr.sub r c')
    | dct e r z => simp [PyData.canLay0] at c'
    | ins e _ r z => simp [PyData.canLay0] at c'
    | dcn _ _ _ _ _ _ _ _ => simp [PyData.canLay0] at c'
  | non => exact .non
  | bl b => exact .bl b
  | int i => exact .int i
  | str x => exact .str x
  | tup h r z => exact Rep.dp hr.sub (.tup h r z) c'
  | lst h r z => exact Rep.dp hr.sub (.lst h r z) c'
  | ro h r z => exact Rep.dp hr.sub (.ro h r z) c'
  | dct h r z => exact Rep.dp hr.sub (.dct h r z) c'

/-- == -/
def eqO (S : Store) (a b : D) : Option Bool := if SeqAt.shaped (py S a) = true ∧ SeqAt.shaped (py S b) = true then some (PyData.eqv (py S a) (py S b)) else none

/-! ### sequences -/
/-- a list's items -/
def lstO (S : Store) : D → Option (List D)
  | .lst ds => some ds
  | .ro ds => some ds
  | .adr n => (match S[n]? with | some (.lst ds) => some ds | _ => none)
  | _ => none
def tupO : D → Option (List D)
  | .tup ds => some ds
  | _ => none
/-- .. or a tuple's -/
def seqO (S : Store) : D → Option (List D)
  | .tup ds => some ds
  | d => lstO S d
theorem Rep.lstO {G : Gx} {ι : List Addr} {F H : Hp} {W : Hp} {S : Store} (hr : HR G ι F W S H) {v : V} {d : D} {ds : List D} (r : Rep G.K ι F v d) (e : lstO S d = some ds) :
    ∃ a xs, v = .ref a ∧ SqL G.K H a xs ∧ Reps G.K ι F xs ds ∧ ds.length ≤ big := by
  cases r with
  | @adr a n h =>
    unfold CI.lstO at e
    simp only at e
    obtain ⟨q, _⟩ := List.getElem?_eq_some_iff.mp h
    have q' : n < S.length := hr.len ▸ q
    have o := hr.obs n a S[n] h (List.getElem?_eq_getElem q')
    rw [List.getElem?_eq_getElem q'] at e
    generalize S[n] = ob at o e
    cases o with
    | lst e' r z =>
      cases e
      exact ⟨_, _, rfl, .of e', r, z⟩
    | dct e' r z => cases e
    | ins e' _ r z => cases e
    | dcn _ _ _ _ _ _ _ _ => cases e
  | lst h r z => cases e; exact ⟨_, _, rfl, .of (hr.sub _ _ h), r, z⟩
  | ro h r z => cases e; exact ⟨_, _, rfl, SqL.mono hr.sub h, r, z⟩
  | non => cases e
  | bl b => cases e
  | int i => cases e
  | str x => cases e
  | tup h r z => cases e
  | dct h r z => cases e
theorem Rep.tupO {G : Gx} {ι : List Addr} {F H : Hp} {W : Hp} {S : Store} (hr : HR G ι F W S H) {v : V} {d : D} {ds : List D} (r : Rep G.K ι F v d) (e : tupO d = some ds) :
    ∃ a xs, v = .ref a ∧ TupA G.K H a xs ∧ Reps G.K ι F xs ds ∧ ds.length ≤ big ∧ d = .tup ds := by
  cases r with
  | tup h r z => cases e; exact ⟨_, _, rfl, h.mono hr.sub, r, z, rfl⟩
  | _ => cases e
theorem Rep.seqO {G : Gx} {ι : List Addr} {F H : Hp} {W : Hp} {S : Store} (hr : HR G ι F W S H) {v : V} {d : D} {ds : List D} (r : Rep G.K ι F v d) (e : seqO S d = some ds) :
    ∃ a xs, v = .ref a ∧ (SqL G.K H a xs ∨ SqT G.K H a xs) ∧ Reps G.K ι F xs ds ∧ ds.length ≤ big := by
  cases r with
  | tup h r z => cases e; exact ⟨_, _, rfl, .inr (h.mono hr.sub).sq, r, z⟩
  | non => cases e
  | bl b => cases e
  | int i => cases e
  | str x => cases e
  | dct h r z => cases e
  | lst h r z =>
    obtain ⟨a, xs, q1, q2, q3, q4⟩ := Rep.lstO hr (.lst h r z) e
    exact ⟨a, xs, q1, .inl q2, q3, q4⟩
  | ro h r z =>
    obtain ⟨a, xs, q1, q2, q3, q4⟩ := Rep.lstO hr (.ro h r z) e
    exact ⟨a, xs, q1, .inl q2, q3, q4⟩
  | adr h =>
    obtain ⟨a, xs, q1, q2, q3, q4⟩ := Rep.lstO hr (.adr h) e
    exact ⟨a, xs, q1, .inl q2, q3, q4⟩

/-- a new list: as data that stay, or in the store -/
def fin (m : Bool) (ds : List D) : M D := fun S => if m = true then .ok (.adr S.length) (S ++ [.lst ds]) else .ok (.lst ds) S
theorem Post.fin {G : Gx} {ι : List Addr} {F : Hp} {W : Hp} {E : XS} {Q : VK} {S : Store} {H : Hp} {m : Bool} {xs : List V} {ds : List D} (hr : HR G ι F W S H) (r : Reps G.K ι F xs ds) (z : ds.length ≤ big)
    (h : Post G ι F W E (RV G Q) (fin m ds S)) : ∀ p, H p = none → Q (.ref p) (upd H p (.lst xs)) := fun p hp => by
  unfold CI.fin at h
  by_cases hm : m = true
  · rw [if_pos hm] at h
    obtain ⟨h1, l⟩ := hr.lay hp (.lst xs) (.lst ds) fun ι' l => .lst upd_same (r.mono l) z
    refine h _ _ _ l h1 _ (.adr ?_)
    rw [← hr.len, List.getElem?_append_right (Nat.le_refl _), Nat.sub_self]
    rfl
  · rw [if_neg hm] at h
    obtain ⟨h1, l⟩ := hr.keep hp (.lst xs)
    exact h _ _ _ l h1 _ (.lst upd_same (r.mono l) z)
/-- a new tuple -/
theorem Post.tup {G : Gx} {ι : List Addr} {F : Hp} {W : Hp} {E : XS} {Q : VK} {S : Store} {H : Hp} {xs : List V} {ds : List D} (hr : HR G ι F W S H) (r : Reps G.K ι F xs ds) (z : ds.length ≤ big)
    (h : Post G ι F W E (RV G Q) (.ok (.tup ds) S)) : ∀ p o, o.dict = none → H p = none → Q (.ref p) (upd H p (.frz o (.tup xs))) := fun p o ho hp => by
  obtain ⟨h1, l⟩ := hr.keep hp (.frz o (.tup xs))
  exact h _ _ _ l h1 _ (.tup (.inl ⟨o, upd_same, ho⟩) (r.mono l) z)

/-! ### tuples that are made -/
def tupObj (its : List Value) : Obj := { cls := .type "tuple", data := .seq its.toArray }
theorem laidT {X : Cx} {pins : List (Addr × Obj)} {σ : L2.St} {H : Hp} {s : Shared} {xs : List V} {its : List Value} {t' : Nat} (I : Inv X pins σ H s) (r : Vals xs its) (z : xs.length ≤ sizeLine) :
    Inv X pins σ (upd H s.heap.objs.size (.frz (tupObj its) (.tup xs))) { s with heap := s.heap.push (tupObj its), toks := t' } :=
  I.laid (t' := t') (fun b u e => Heap.get?_push_of_some _ e) (Nat.le_refl _) ⟨Heap.get?_push_size _ rfl, z, its, r, ⟨_, Heap.get?_push_size _ rfl, rfl, _, rfl⟩⟩
def tTupF (t : TA) : TE := fun σ H Q => t σ H fun xs H1 => xs.length ≤ sizeLine ∧ ∀ p o, o.dict = none → H1 p = none → Q (.ref p) (upd H1 p (.frz o (.tup xs)))
section
variable {X : Cx}
theorem pe_tupF {es : List Expr} {pos : Pos} {t : TA} {x1} (h : PA X es t) : PE X (.Tuple es x1 pos) (tTupF t) := by
  refine ⟨fun pins s σ H Q I hq => ?_⟩
  refine wpAny_Tuple_spliced (thn (h.run pos pins s σ H _ I hq) fun us s1 ⟨xs, H1, I1, r, z, q⟩ => ⟨by rw [← r.length]; exact z, ?_⟩)
  exact ⟨.ref s1.heap.objs.size, _, laidT (t' := s1.toks) I1 r z, rfl, q _ _ rfl (I1.hok.fresh (Nat.le_refl _))⟩
def rCatF (K : PySem.W.Frag) : R2 := fun x y H Q => ∃ a b xs ys, x = .ref a ∧ y = .ref b ∧ SqT K H a xs ∧ SqT K H b ys ∧ xs.length + ys.length ≤ sizeLine ∧
  (xs = [] → Q (.ref b) H) ∧ (xs ≠ [] → ys = [] → Q (.ref a) H) ∧ (xs ≠ [] → ys ≠ [] → ∀ p o, o.dict = none → H p = none → Q (.ref p) (upd H p (.frz o (.tup (xs ++ ys)))))
theorem op_catF : OpR X (binaryOp .Add) (rCatF X.K) := by
  intro pins s σ H x y v u Q I rx ry h
  obtain ⟨a, b, xs, ys, rfl, rfl, ha, hb, hz, q0, q1, q2⟩ := h
  cases rx
  cases ry
  obtain ⟨its, r1, p1, _⟩ := I.tuple ha
  obtain ⟨its2, r2, p2, _⟩ := I.tuple hb
  by_cases hx : xs = []
  · subst hx
    cases r1
    exact cat_tup0 p1 p2 ⟨.ref b, H, I, rfl, q0 rfl⟩
  · refine HT.cat_tup p1 p2 (fun z => hx (r1.nil_iff.mp z)) (fun z => ⟨.ref a, H, I, rfl, q1 hx (r2.nil_iff.mp z)⟩) (fun z => ?_) (by rw [← r1.length, ← r2.length]; exact hz)
    exact ⟨.ref s.heap.objs.size, _, laidT (t' := s.toks) I (r1.append r2) (by rw [List.length_append]; exact hz), rfl, q2 hx (fun w => z (r2.nil_iff.mpr w)) _ _ rfl (I.hok.fresh (Nat.le_refl _))⟩
def rSlF (K : PySem.W.Frag) : V → Option Int → Option Int → Hp → VK → Prop := fun x lo hi H Q => ∃ a xs, x = .ref a ∧ SqT K H a xs ∧
  (HT.sIx xs.length 0 lo = 0 ∧ HT.sIx xs.length xs.length hi = xs.length → Q (.ref a) H) ∧ (¬ (HT.sIx xs.length 0 lo = 0 ∧ HT.sIx xs.length xs.length hi = xs.length) → ∀ p o, o.dict = none → H p = none → Q (.ref p) (upd H p (.frz o (.tup (cutV xs lo hi)))))
theorem sl_tupF : SlR X (rSlF X.K) := by
  intro pins s σ H x v vl vu lo hi sl Q I rx hs pl pu h
  obtain ⟨a, xs, rfl, hx, q1, q2⟩ := h
  cases rx
  obtain ⟨its, r, ht, hz⟩ := I.tuple hx
  have hlen : its.toArray.size = xs.length := by rw [List.size_toArray]; exact r.length.symm
  refine ⟨"tuple", _, PyProof.Rows.slot_tuple_getitem.lookup, ht.typeIs, ?_⟩
  by_cases hw : HT.sIx xs.length 0 lo = 0 ∧ HT.sIx xs.length xs.length hi = xs.length
  · exact getItem_tuple_whole ht hs pl pu (by rw [hlen]; exact hw) ⟨.ref a, H, I, rfl, q1 hw⟩
  · refine HT.getItem_tuple_cut ht hs pl pu (by rw [hlen]; exact hw) ?_ (by rw [hlen]; exact hz)
    rw [hlen]
    exact ⟨.ref s.heap.objs.size, _, laidT (t' := s.toks) (xs := cutV xs lo hi) I ((r.drop (HT.sIx xs.length 0 lo)).take (HT.sIx xs.length xs.length hi - HT.sIx xs.length 0 lo)) (Nat.le_trans (cutV_length xs lo hi) hz), rfl, q2 hw _ _ rfl (I.hok.fresh (Nat.le_refl _))⟩
theorem call_tupleF : CallR X (.type "tuple") (fun xs H Q => ∃ p ys, xs = [.ref p] ∧ ((SqL X.K H p ys ∧ ∀ l o, o.dict = none → H l = none → Q (.ref l) (upd H l (.frz o (.tup ys)))) ∨ (SqT X.K H p ys ∧ Q (.ref p) H))) := by
  intro pins s σ H xs us Q I r h
  obtain ⟨p, ys, rfl, h⟩ := h
  obtain ⟨u, rfl, rx⟩ := vals1 r
  cases rx
  rcases h with ⟨hq, q⟩ | ⟨hq, q⟩
  · obtain ⟨its, r', pl, hz⟩ := I.list hq
    have hlen := r'.length
    refine call_tuple_list pl.isList (fun h' kp => ?_) (by simp only [List.size_toArray] <;> omega)
    have I1 : Inv X pins σ H { s with heap := h' } := I.kept (t' := s.toks) kp
    exact ⟨.ref h'.objs.size, _, laidT (t' := s.toks) I1 r' hz, rfl, q _ _ rfl (I1.hok.fresh (Nat.le_refl _))⟩
  · obtain ⟨its, r', pl, hz⟩ := I.tuple hq
    exact call_tuple_same pl ⟨.ref p, H, I, rfl, q⟩
def rRepF (K : PySem.W.Frag) : R2 := fun x y H Q => ∃ l k xs, x = .ref l ∧ y = .int k ∧ SqT K H l xs ∧ xs ≠ [] ∧ 2 ≤ k ∧ k ≤ 1000 ∧ xs.length ≤ 1000 ∧ ∀ p o, o.dict = none → H p = none → Q (.ref p) (upd H p (.frz o (.tup (List.replicate k.toNat xs).flatten)))
theorem op_repF : OpR X (binaryOp .Mult) (rRepF X.K) := by
  intro pins s σ H x y v u Q I rx ry h
  obtain ⟨l, k, xs, rfl, rfl, hT, hne, h1, h2, hz, q⟩ := h
  cases rx
  obtain ⟨t, rfl⟩ := ry
  obtain ⟨its, r, ⟨⟨cls, dd, data, sl⟩, ho, hc, n, hd⟩, hs⟩ := I.tuple hT
  simp only at hc hd
  subst hc hd
  have hle : its.length = xs.length := r.length.symm
  have hn : its ≠ [] := fun e => hne (by
    rw [e] at hle
    exact List.eq_nil_of_length_eq_zero hle.symm)
  have hi : its.toArray.isEmpty = false := by
    cases its with
    | nil => exact absurd rfl hn
    | cons a b => rfl
  have hsz0 : its.toArray.size = xs.length := by rw [List.size_toArray, hle]
  have hm : ((its.toArray.size : Nat) : Int) * k ≤ 1000000 := by
    rw [hsz0]
    have a1 : ((xs.length : Nat) : Int) * k ≤ 1000 * k := Int.mul_le_mul_of_nonneg_right (by omega) (by omega)
    omega
  have flen : (List.replicate k.toNat its).flatten.length ≤ sizeLine := by
    rw [PyProof.Rows.lm_len_rep_flat, hle, sizeLine_eq]
    have a1 : k.toNat * xs.length ≤ 1000 * 1000 := Nat.mul_le_mul (by omega) hz
    omega
  have c0 : (decide (k < -(2 ^ 63)) || decide (k ≥ 2 ^ 63)) = false := by
    rw [decide_eq_false (by omega), decide_eq_false (by omega)] <;> rfl
  have c1 : (its.toArray.isEmpty || k == 1) = false := by
    rw [hi, Bool.false_or]
    exact beq_eq_false_iff_ne.mpr (by omega)
  have c2 : (decide (k ≤ 0) || its.toArray.isEmpty) = false := by
    rw [hi, Bool.or_false]
    exact decide_eq_false (by omega)
  have c4 : Builtin.Tuple.tupleTooMany (((its.toArray.size : Nat) : Int) * k) = false := by
    unfold Builtin.Tuple.tupleTooMany
    rw [sizeLine_eq]
    exact decide_eq_false (by omega)
  refine wpAny_binaryOp_repeat_ref (T := "tuple") (U := "int") (by decide) ⟨_, ho, rfl⟩ (fun s' => typeIs_int s' k t) noFill_tuple_mul F.fills_int_mul F.slot_int_rmul repeat_tuple F.slot_int_index.lookup
    (call_meets F.slot_int_rmul (typeIs_int s k t) F.entry_int_rmul (F.args_int_rmul_2 _ _) (int_rmul_tuple k t l its.toArray n dd sl)
      ⟨ho, rfl, ⟨_, ho, rfl⟩, call_meets F.slot_tuple_mul ⟨_, ho, rfl⟩ F.entry_tuple_mul (F.args_tuple_mul_2 _ _) (tuple_mulW l its.toArray n dd sl k t c0 c1 c2 (by omega) c4 (by rw [size_rep, List.size_toArray]; exact flen)) ⟨ho, ?_⟩⟩)
  rw [size_rep]
  exact ⟨.ref s.heap.objs.size, _, laidT (t' := s.toks) I (r.rep k.toNat) (by rw [PyProof.Rows.lm_len_rep_flat, sizeLine_eq]; have a1 : k.toNat * xs.length ≤ 1000 * 1000 := Nat.mul_le_mul (by omega) hz; omega), rfl, q _ _ rfl (I.hok.fresh (Nat.le_refl _))⟩
theorem tuple_mul1 (l : Addr) (items : Array Value) (n : Nat) (dd : Option Addr) (sl : Array (Option Value)) (u : Tok) :
    Meets (Builtin.«tuple.__mul__» ⟨[.ref l, .int 1 u], []⟩) (fun _ R s => s.heap.get? l = some { cls := .type "tuple", dict := dd, data := .seq items n, slots := sl } ∧ R (.ok (.ret (Value.ref l))) s) :=
  .of_wp fun prog w A R s h => by
    obtain ⟨hp, g, d, tk, os⟩ := s
    obtain ⟨hl, h⟩ := h
    have f1 := AutoSeq1.idx_int
    wp_walk using wpAny_loadPart' hl
    repeat (first
      | (refine wpAny_ite_false (decide_eq_false (by decide)) ?_; wp_walk using wpAny_loadPart' hl)
      | (refine wpAny_ite_true (decide_eq_true (by simp)) ?_; wp_walk using wpAny_loadPart' hl))
    exact ⟨_, rfl, h⟩
def rRep1 (K : PySem.W.Frag) : R2 := fun x y H Q => ∃ l xs, x = .ref l ∧ y = .int 1 ∧ SqT K H l xs ∧ Q (.ref l) H
theorem op_rep1 : OpR X (binaryOp .Mult) (rRep1 X.K) := by
  intro pins s σ H x y v u Q I rx ry h
  obtain ⟨l, xs, rfl, rfl, hT, q⟩ := h
  cases rx
  obtain ⟨t, rfl⟩ := ry
  obtain ⟨its, r, ⟨⟨cls, dd, data, sl⟩, ho, hc, n, hd⟩, hs⟩ := I.tuple hT
  simp only at hc hd
  subst hc hd
  refine wpAny_binaryOp_repeat_ref (T := "tuple") (U := "int") (by decide) ⟨_, ho, rfl⟩ (fun s' => typeIs_int s' 1 t) noFill_tuple_mul F.fills_int_mul F.slot_int_rmul repeat_tuple F.slot_int_index.lookup
    (call_meets F.slot_int_rmul (typeIs_int s 1 t) F.entry_int_rmul (F.args_int_rmul_2 _ _) (int_rmul_tuple 1 t l its.toArray n dd sl)
      ⟨ho, rfl, ⟨_, ho, rfl⟩, call_meets F.slot_tuple_mul ⟨_, ho, rfl⟩ F.entry_tuple_mul (F.args_tuple_mul_2 _ _) (tuple_mul1 l its.toArray n dd sl t) ⟨ho, ?_⟩⟩)
  exact ⟨.ref l, H, I, rfl, q⟩
end
/-- a new dict -/
def finD (m : Bool) (ds : List (Key × D)) : M D := fun S => if m = true then .ok (.adr S.length) (S ++ [.dct ds]) else .ok (.dct ds) S
theorem Post.finD {G : Gx} {ι : List Addr} {F : Hp} {W : Hp} {E : XS} {Q : VK} {S : Store} {H : Hp} {m : Bool} {xs : List (Key × V)} {ds : List (Key × D)} (hr : HR G ι F W S H) (r : RepKs G.K ι F xs ds) (z : ds.length ≤ big)
    (h : Post G ι F W E (RV G Q) (finD m ds S)) : ∀ p, H p = none → Q (.ref p) (upd H p (.dK xs)) := fun p hp => by
  unfold CI.finD at h
  by_cases hm : m = true
  · rw [if_pos hm] at h
    obtain ⟨h1, l⟩ := hr.lay hp (.dK xs) (.dct ds) fun ι' l => .dct upd_same (r.mono l) z
    refine h _ _ _ l h1 _ (.adr ?_)
    rw [← hr.len, List.getElem?_append_right (Nat.le_refl _), Nat.sub_self]
    rfl
  · rw [if_neg hm] at h
    obtain ⟨h1, l⟩ := hr.keep hp (.dK xs)
    exact h _ _ _ l h1 _ (.dct upd_same (r.mono l) z)

/-! ### binary operators -/
def mulOk (i j : Int) : Bool := decide (i.natAbs < 2 ^ 64) || decide (j.natAbs < 2 ^ 64) || decide (i.natAbs.log2 + j.natAbs.log2 < 1000000)
def lstCat (m : Bool) (a b : D) : M D := fun S => match lstO S a, lstO S b with
  | some xs, some ys => if xs.length + ys.length ≤ big then fin m (xs ++ ys) S else .bad
  | _, _ => .bad
def addD (m : Bool) (a b : D) : M D := match a, b with
  | .int i, .int j => ret (.int (i + j))
  | .str x, .str y => if x.length + y.length ≤ big then ret (.str (x ++ y)) else fail
  | .tup xs, .tup ys => if xs.length + ys.length ≤ big then ret (.tup (xs ++ ys)) else fail
  | .ro _, _ => fail
  | _, .ro _ => fail
  | a, b => lstCat m a b
def mulD (m : Bool) (a b : D) : M D := match a, b with
  | .int i, .int j => if mulOk i j = true then ret (.int (i * j)) else fail
  | .lst xs, .int k => if 0 ≤ k ∧ k < 2 ^ 32 ∧ xs.length * k.toNat ≤ big then fin m (List.replicate k.toNat xs).flatten else fail
  | .adr n, .int k => fun S => (match S[n]? with
      | some (.lst xs) => if 0 ≤ k ∧ k < 2 ^ 32 ∧ xs.length * k.toNat ≤ big then CI.fin m (List.replicate k.toNat xs).flatten S else .bad
      | _ => .bad)
  | .tup xs, .int k => if k = 1 then ret (.tup xs) else if xs ≠ [] ∧ 2 ≤ k ∧ k ≤ 1000 ∧ xs.length ≤ 1000 then ret (.tup (List.replicate k.toNat xs).flatten) else fail
  | _, _ => fail
def binD (m : Bool) (op : Operator) (a b : D) : M D := match op with
  | .Add => addD m a b
  | .Mult => mulD m a b
  | .Sub => (match a, b with | .int i, .int j => ret (.int (i - j)) | _, _ => fail)
  | .FloorDiv => (match a, b with | .int i, .int j => if 0 < j ∧ j.natAbs.log2 < 9000 then ret (.int (i / j)) else fail | _, _ => fail)
  | .Mod => (match a, b with | .int i, .int j => if 0 < j then ret (.int (i % j)) else fail | _, _ => fail)
  | .Pow => (match a, b with | .int i, .int j => if 0 ≤ j ∧ j ≤ 1000000 ∧ i.natAbs < 2 ^ 64 then ret (.int (i ^ j.toNat)) else fail | _, _ => fail)
  | .RShift => (match a, b with | .int i, .int j => if 0 ≤ j then ret (.int (i / 2 ^ j.toNat)) else fail | _, _ => fail)
  | .BitAnd => (match a, b with | .int i, .int j => ret (.int (Builtin.bitAnd i j)) | _, _ => fail)
  | _ => fail

/-- by values, from data -/
def rG (G : Gx) (E : XS) (g : D → D → M D) : R2 := fun x y H Q => ∃ ι F W S d e, HR G ι F W S H ∧ Rep G.K ι F x d ∧ Rep G.K ι F y e ∧ Post G ι F W E (RV G Q) (g d e S)
theorem natAbs_lt {i : Int} {n : Nat} (h : i.natAbs < n) : -(n : Int) < i ∧ i < n := by omega
theorem mul_ok {i j : Int} (h : mulOk i j = true) : CMul i j ∨ CMulW i j := by
  unfold mulOk at h
  simp only [Bool.or_eq_true, decide_eq_true_eq] at h
  rcases h with (h | h) | h
  · exact .inl (.inl (natAbs_lt h))
  · exact .inl (.inr (natAbs_lt h))
  · exact .inr h
theorem Post.if_ {G : Gx} {ι : List Addr} {F : Hp} {W : Hp} {E : XS} {α : Type} {R : RT α} {c : Prop} [Decidable c] {m : M α} {S : Store} (h : Post G ι F W E R ((if c then m else fail) S)) : c ∧ Post G ι F W E R (m S) := by
  by_cases hc : c
  · rw [if_pos hc] at h; exact ⟨hc, h⟩
  · rw [if_neg hc] at h; exact h.elim
theorem Reps.nil_iff {K : PySem.W.Frag} {ι : List Addr} {F : Hp} {vs : List V} {ds : List D} (r : Reps K ι F vs ds) : vs = [] ↔ ds = [] := by
  cases r with
  | nil => simp
  | cons _ _ => simp
/-- a list of the store, or one that stays, as a tracked one -/
theorem Rep.trk {G : Gx} {ι : List Addr} {F H : Hp} {W : Hp} {S : Store} (hr : HR G ι F W S H) {v : V} {d : D} {ds : List D} (r : Rep G.K ι F v d) (e : CI.lstO S d = some ds) (nr : ∀ z, d ≠ .ro z) :
    ∃ a xs, v = .ref a ∧ H a = some (.lst xs) ∧ Reps G.K ι F xs ds ∧ ds.length ≤ big := by
  cases r with
  | @adr a n h =>
    unfold CI.lstO at e
    simp only at e
    obtain ⟨q, _⟩ := List.getElem?_eq_some_iff.mp h
    have q' : n < S.length := hr.len ▸ q
    have o := hr.obs n a S[n] h (List.getElem?_eq_getElem q')
    rw [List.getElem?_eq_getElem q'] at e
    generalize S[n] = ob at o e
    cases o with
    | lst e' r z =>
      cases e
      exact ⟨_, _, rfl, e', r, z⟩
    | dct e' r z => cases e
    | ins e' _ r z => cases e
    | dcn _ _ _ _ _ _ _ _ => cases e
  | lst h r z => cases e; exact ⟨_, _, rfl, hr.sub _ _ h, r, z⟩
  | ro h r z => exact absurd rfl (nr _)
  | non => cases e
  | bl b => cases e
  | int i => cases e
  | str x => cases e
  | tup h r z => cases e
  | dct h r z => cases e
theorem flat_len {α : Type} (xs : List α) (k : Nat) : (List.replicate k xs).flatten.length = xs.length * k := by
  rw [PyProof.Rows.lm_len_rep_flat, Nat.mul_comm]
section
variable {X : Cx} {G : Gx} {E : XS}
theorem cat_l (hK : X.K = G.K) {m : Bool} {pins : List (Addr × Obj)} {s : Shared} {σ : L2.St} {H : Hp} {x y : V} {v u : Value} {Q : VK} {ι : List Addr} {F : Hp} {W : Hp} {S : Store} {d e : D} (I : Inv X pins σ H s) (rx : RelV x v) (ry : RelV y u)
    (hr : HR G ι F W S H) (r1 : Rep G.K ι F x d) (r2 : Rep G.K ι F y e) (n1 : ∀ z, d ≠ .ro z) (n2 : ∀ z, e ≠ .ro z) (po : Post G ι F W E (RV G Q) (lstCat m d e S)) : wpAny (model X.prog X.w) X.A (binaryOp .Add v u) (EP X pins σ Q) X.xe s := by
  unfold lstCat at po
  cases q1 : CI.lstO S d with
  | none => rw [q1] at po; exact po.elim
  | some ds =>
    cases q2 : CI.lstO S e with
    | none => rw [q1, q2] at po; exact po.elim
    | some es =>
      rw [q1, q2] at po
      simp only at po
      by_cases hz : ds.length + es.length ≤ big
      · rw [if_pos hz] at po
        obtain ⟨a, xs, rfl, ha, ra, za⟩ := Rep.trk hr r1 q1 n1
        obtain ⟨b, ys, rfl, hb, rb, zb⟩ := Rep.trk hr r2 q2 n2
        refine op_cat pins s σ H _ _ v u Q I rx ry ⟨a, b, xs, ys, rfl, rfl, ha, hb, by rw [ra.length, rb.length]; exact le_line hz, po.fin hr (ra.append rb) (by rw [List.length_append]; exact hz)⟩
      · rw [if_neg hz] at po; exact po.elim
theorem op_add_D (hK : X.K = G.K) (m : Bool) : OpR X (binaryOp .Add) (rG G E (addD m)) := by
  intro pins s σ H x y v u Q I rx ry ⟨ι, F, W, S, d, e, hr, r1, r2, po⟩
  have dflt : (∀ z, d ≠ .ro z) → (∀ z, e ≠ .ro z) → addD m d e = lstCat m d e → wpAny (model X.prog X.w) X.A (binaryOp .Add v u) (EP X pins σ Q) X.xe s := fun n1 n2 q => by
    rw [q] at po
    exact cat_l hK I rx ry hr r1 r2 n1 n2 po
  cases r1 with
  | int i =>
    cases r2 with
    | int j => exact op_add pins s σ H _ _ v u Q I rx ry ⟨i, j, rfl, rfl, po.now hr _ (.int _)⟩
    | ro h r z => exact po.elim
    | _ => exact dflt (fun _ q => nomatch q) (fun _ q => nomatch q) rfl
  | str a =>
    cases r2 with
    | str b =>
      obtain ⟨hc, po⟩ := Post.if_ po
      exact op_add_str pins s σ H _ _ v u Q I rx ry ⟨a, b, rfl, rfl, le_line hc, po.now hr _ (.str _)⟩
    | ro h r z => exact po.elim
    | _ => exact dflt (fun _ q => nomatch q) (fun _ q => nomatch q) rfl
  | tup h1 ra z1 =>
    cases r2 with
    | tup h2 rb z2 =>
      obtain ⟨hc, po⟩ := Post.if_ po
      refine op_catF pins s σ H _ _ v u Q I rx ry ⟨_, _, _, _, rfl, rfl, hK ▸ (h1.mono hr.sub).sq, hK ▸ (h2.mono hr.sub).sq, by rw [ra.length, rb.length]; exact le_line hc, fun e => ?_, fun e1 e2 => ?_, fun e1 e2 => ?_⟩
      · have e' := ra.nil_iff.mp e
        subst e'
        exact po.now hr _ (.tup h2 rb z2)
      · have e' := rb.nil_iff.mp e2
        subst e'
        refine po.now hr _ ?_
        rw [List.append_nil]
        exact .tup h1 ra z1
      · exact Post.tup hr (ra.append rb) (by rw [List.length_append]; exact hc) po
    | ro h r z => exact po.elim
    | _ => exact dflt (fun _ q => nomatch q) (fun _ q => nomatch q) rfl
  | ro h r z => exact po.elim
  | non =>
    cases r2 with
    | ro h r z => exact po.elim
    | _ => exact dflt (fun _ q => nomatch q) (fun _ q => nomatch q) rfl
  | bl b =>
    cases r2 with
    | ro h r z => exact po.elim
    | _ => exact dflt (fun _ q => nomatch q) (fun _ q => nomatch q) rfl
  | dct h r z =>
    cases r2 with
    | ro h r z => exact po.elim
    | _ => exact dflt (fun _ q => nomatch q) (fun _ q => nomatch q) rfl
  | lst h r z =>
    cases r2 with
    | ro h r z => exact po.elim
    | _ => exact dflt (fun _ q => nomatch q) (fun _ q => nomatch q) rfl
  | adr h =>
    cases r2 with
    | ro h r z => exact po.elim
    | _ => exact dflt (fun _ q => nomatch q) (fun _ q => nomatch q) rfl
theorem op_mul_D (hK : X.K = G.K) (m : Bool) : OpR X (binaryOp .Mult) (rG G E (mulD m)) := by
  intro pins s σ H x y v u Q I rx ry ⟨ι, F, W, S, d, e, hr, r1, r2, po⟩
  cases r1 with
  | int i =>
    cases r2 with
    | int j =>
      obtain ⟨hc, po⟩ := Post.if_ po
      rcases mul_ok hc with q | q
      · exact op_mul pins s σ H _ _ v u Q I rx ry ⟨i, j, rfl, rfl, q, po.now hr _ (.int _)⟩
      · exact op_mulW pins s σ H _ _ v u Q I rx ry ⟨i, j, rfl, rfl, q, po.now hr _ (.int _)⟩
    | _ => exact po.elim
  | lst h r z =>
    cases r2 with
    | int k =>
      obtain ⟨⟨h0, h1, h2⟩, po⟩ := Post.if_ po
      exact op_rep pins s σ H _ _ v u Q I rx ry ⟨_, k, _, rfl, rfl, hr.sub _ _ h, by omega, by omega, by rw [r.length]; exact le_line h2, po.fin hr (r.rep _) (by rw [flat_len]; exact h2)⟩
    | _ => exact po.elim
  | @adr a0 n0 hn =>
    cases r2 with
    | int k =>
      have po : Post G ι F W E (RV G Q) (match S[n0]? with
        | some (.lst xs) => if 0 ≤ k ∧ k < 2 ^ 32 ∧ xs.length * k.toNat ≤ big then CI.fin m (List.replicate k.toNat xs).flatten S else .bad
        | _ => .bad) := po
      cases e : S[n0]? with
      | none => rw [e] at po; exact po.elim
      | some ob =>
        rw [e] at po
        have ro := hr.obs n0 _ ob hn e
        cases ro with
        | @lst xs1 ds1 h r z =>
          simp only at po
          by_cases hc : 0 ≤ k ∧ k < 2 ^ 32 ∧ ds1.length * k.toNat ≤ big
          · rw [if_pos hc] at po
            obtain ⟨h0, h1, h2⟩ := hc
            exact op_rep pins s σ H _ _ v u Q I rx ry ⟨_, k, _, rfl, rfl, h, by omega, by omega, by rw [r.length]; exact le_line h2, po.fin hr (r.rep _) (by rw [flat_len]; exact h2)⟩
          · rw [if_neg hc] at po; exact po.elim
        | _ => exact po.elim
    | _ => exact po.elim
  | @tup a0 xs0 ds0 h r z =>
    cases r2 with
    | int k =>
      by_cases k1 : k = 1
      · subst k1
        have po : Post G ι F W E (RV G Q) (ret (.tup ds0) S) := by
          have po := po
          unfold mulD at po
          simp only [if_true] at po
          exact po
        exact op_rep1 pins s σ H _ _ v u Q I rx ry ⟨_, _, rfl, rfl, hK ▸ (h.mono hr.sub).sq, po.now hr _ (.tup h r z)⟩
      have po : Post G ι F W E (RV G Q) ((if ds0 ≠ [] ∧ 2 ≤ k ∧ k ≤ 1000 ∧ ds0.length ≤ 1000 then ret (.tup (List.replicate k.toNat ds0).flatten) else fail) S) := by
        have po := po
        unfold mulD at po
        simp only [if_neg k1] at po
        exact po
      obtain ⟨⟨h0, h1, h2, h3⟩, po⟩ := Post.if_ po
      refine op_repF pins s σ H _ _ v u Q I rx ry ⟨_, k, _, rfl, rfl, hK ▸ (h.mono hr.sub).sq, fun e => h0 (r.nil_iff.mp e), h1, h2, by rw [r.length]; exact h3, Post.tup hr (r.rep _) ?_ po⟩
      rw [flat_len]
      exact Nat.le_trans (Nat.mul_le_mul h3 (show k.toNat ≤ 1000 by omega)) (by decide)
    | _ => exact po.elim
  | _ => exact po.elim
theorem op_bin_D (hK : X.K = G.K) (m : Bool) (op : Operator) : OpR X (binaryOp op) (rG G E (binD m op)) := by
  cases op with
  | Add => exact op_add_D hK m
  | Mult => exact op_mul_D hK m
  | Sub =>
    intro pins s σ H x y v u Q I rx ry ⟨ι, F, W, S, d, e, hr, r1, r2, po⟩
    cases r1 <;> cases r2 <;> first | exact po.elim | skip
    exact op_sub pins s σ H _ _ v u Q I rx ry ⟨_, _, rfl, rfl, po.now hr _ (.int _)⟩
  | FloorDiv =>
    intro pins s σ H x y v u Q I rx ry ⟨ι, F, W, S, d, e, hr, r1, r2, po⟩
    cases r1 <;> cases r2 <;> first | exact po.elim | skip
    obtain ⟨hc, po⟩ := Post.if_ po
    exact op_fdivW pins s σ H _ _ v u Q I rx ry ⟨_, _, rfl, rfl, hc, po.now hr _ (.int _)⟩
  | Mod =>
    intro pins s σ H x y v u Q I rx ry ⟨ι, F, W, S, d, e, hr, r1, r2, po⟩
    cases r1 <;> cases r2 <;> first | exact po.elim | skip
    obtain ⟨hc, po⟩ := Post.if_ po
    exact op_mod pins s σ H _ _ v u Q I rx ry ⟨_, _, rfl, rfl, hc, po.now hr _ (.int _)⟩
  | Pow =>
    intro pins s σ H x y v u Q I rx ry ⟨ι, F, W, S, d, e, hr, r1, r2, po⟩
    cases r1 <;> cases r2 <;> first | exact po.elim | skip
    obtain ⟨hc, po⟩ := Post.if_ po
    exact op_pow pins s σ H _ _ v u Q I rx ry ⟨_, _, rfl, rfl, hc, po.now hr _ (.int _)⟩
  | RShift =>
    intro pins s σ H x y v u Q I rx ry ⟨ι, F, W, S, d, e, hr, r1, r2, po⟩
    cases r1 <;> cases r2 <;> first | exact po.elim | skip
    obtain ⟨hc, po⟩ := Post.if_ po
    exact op_shr pins s σ H _ _ v u Q I rx ry ⟨_, _, rfl, rfl, hc, po.now hr _ (.int _)⟩
  | BitAnd =>
    intro pins s σ H x y v u Q I rx ry ⟨ι, F, W, S, d, e, hr, r1, r2, po⟩
    cases r1 <;> cases r2 <;> first | exact po.elim | skip
    exact op_and pins s σ H _ _ v u Q I rx ry ⟨_, _, rfl, rfl, po.now hr _ (.int _)⟩
  | _ =>
    intro pins s σ H x y v u Q I rx ry ⟨ι, F, W, S, d, e, hr, r1, r2, po⟩
    exact po.elim
end
end CI

/-! Dicts whose keys are tuples. -/
namespace CI
open PySem PySem.Spec PyProof.Rows L2

def nkVal (kds : List (D × D)) (k : NestedKey) : Option D := (kds.find? fun p => decide (nkO p.1 = some k)).map (·.2)
def nkPut (kds : List (D × D)) (kd : D) (k : NestedKey) (x : D) : List (D × D) := if (nkVal kds k).isSome = true then kds.map (fun p => if nkO p.1 = some k then (p.1, x) else p) else kds ++ [(kd, x)]
/-- a dict with such keys -/
def dcnS (S : Store) : D → Option (List (D × D))
  | .adr n => (match S[n]? with | some (.dcn kds) => some kds | _ => none)
  | _ => none
/-- .. or the empty one -/
def dcnO (S : Store) : D → Option (List (D × D))
  | .adr n => (match S[n]? with | some (.dcn kds) => some kds | some (.dct []) => some [] | _ => none)
  | _ => none
theorem nkPut_len {kds : List (D × D)} {kd x : D} {k : NestedKey} : (nkPut kds kd k x).length ≤ kds.length + 1 := by
  unfold nkPut
  split <;> simp
section
variable {K : PySem.W.Frag} {ι : List Addr} {F H : Hp}
theorem RepNs.val {k : NestedKey} : ∀ {xs : List (NestedKey × Addr × Value)} {kds : List (D × D)}, RepNs K ι F xs kds →
    (nkVal kds k = none ∧ atKey xs k = none) ∨ ∃ d a v u, nkVal kds k = some d ∧ atKey xs k = some (a, u) ∧ Rep K ι F v d ∧ RelV v u
  | _, _, .nil => .inl ⟨rfl, rfl⟩
  | _, _, .cons (k := j) (a := a) (v := v) (u := u) (kd := kd) (d := d) hk rk rv ru t => by
    by_cases e : j = k
    · exact .inr ⟨d, a, v, u, by simp [nkVal, hk, e], by simp [atKey, e], rv, ru⟩
    · have ne : ¬ nkO kd = some k := fun z => e (by rw [hk] at z; exact Option.some.inj z)
      rcases RepNs.val (k := k) t with ⟨h1, h2⟩ | ⟨d', a', v', u', h1, h2, r1, r2⟩
      · exact .inl ⟨by simpa [nkVal, ne] using h1, by simpa [atKey, e] using h2⟩
      · exact .inr ⟨d', a', v', u', by simpa [nkVal, ne] using h1, by simpa [atKey, e] using h2, r1, r2⟩
theorem RepNs.length : ∀ {xs : List (NestedKey × Addr × Value)} {kds : List (D × D)}, RepNs K ι F xs kds → xs.length = kds.length
  | _, _, .nil => rfl
  | _, _, .cons _ _ _ _ t => by simp [RepNs.length t]
theorem RepNs.putAt {k : NestedKey} {v : V} {u : Value} {x : D} (rv : Rep K ι F v x) (ru : RelV v u) : ∀ {xs : List (NestedKey × Addr × Value)} {kds : List (D × D)}, RepNs K ι F xs kds →
    RepNs K ι F (xs.map (putAt k u)) (kds.map fun p => if nkO p.1 = some k then (p.1, x) else p)
  | _, _, .nil => .nil
  | _, _, .cons (k := j) (kd := kd) hk rk rv' ru' t => by
    rw [List.map_cons, List.map_cons]
    by_cases e : j = k
    · have e' : nkO kd = some k := by rw [hk, e]
      rw [if_pos e']
      unfold PySem.putAt
      rw [if_pos e]
      exact .cons hk rk rv ru (RepNs.putAt rv ru t)
    · have ne : ¬ nkO kd = some k := fun z => e (by rw [hk] at z; exact Option.some.inj z)
      rw [if_neg ne]
      unfold PySem.putAt
      rw [if_neg e]
      exact .cons hk rk rv' ru' (RepNs.putAt rv ru t)
theorem RepNs.snoc {k : NestedKey} {a : Addr} {v : V} {u : Value} {kd x : D} (hk : nkO kd = some k) (rk : Rep K ι F (.ref a) kd) (rv : Rep K ι F v x) (ru : RelV v u) : ∀ {xs : List (NestedKey × Addr × Value)} {kds : List (D × D)}, RepNs K ι F xs kds →
    RepNs K ι F (xs ++ [(k, a, u)]) (kds ++ [(kd, x)])
  | _, _, .nil => .cons hk rk rv ru .nil
  | _, _, .cons h1 h2 h3 h4 t => .cons h1 h2 h3 h4 (RepNs.snoc hk rk rv ru t)
theorem RepNs.put {k : NestedKey} {a : Addr} {v : V} {u : Value} {kd x : D} (hk : nkO kd = some k) (rk : Rep K ι F (.ref a) kd) (rv : Rep K ι F v x) (ru : RelV v u) {xs : List (NestedKey × Addr × Value)} {kds : List (D × D)} (h : RepNs K ι F xs kds) :
    RepNs K ι F (storedH xs k a u) (nkPut kds kd k x) := by
  unfold storedH nkPut
  rcases h.val (k := k) with ⟨h1, h2⟩ | ⟨d', a', v', u', h1, h2, _, _⟩
  · rw [h1, h2, if_neg (by simp), if_neg (by simp)]
    exact h.snoc hk rk rv ru
  · rw [h1, h2]
    simp only [Option.isSome_some, if_true]
    exact h.putAt rv ru
theorem RepNs.keys : ∀ {xs : List (NestedKey × Addr × Value)} {kds : List (D × D)}, RepNs K ι F xs kds → Reps K ι F (xs.map fun x => V.ref x.2.1) (kds.map (·.1))
  | _, _, .nil => .nil
  | _, _, .cons _ rk _ _ t => .cons rk (RepNs.keys t)
end
section
variable {X : Cx} {G : Gx} {pins : List (Addr × Obj)} {σ : L2.St} {H F W : Hp} {s : Shared} {ι : List Addr} {S : Store}
mutual
theorem nested_is (I : Inv X pins σ H s) (sub : ∀ a o, F a = some o → H a = some o) : ∀ (d : D) {v : V} {k : NestedKey} {u : Value}, Rep X.K ι F v d → nkD d = some k → RelV v u → NestedIs s.heap k u
  | .non, _, _, u, r, h, ru => by
    cases r; cases h
    cases (show u = Value.none from ru)
    exact .none
  | .bl b, _, _, u, r, h, ru => by
    cases r; cases h
    cases (show u = Value.bool b from ru)
    exact .bool rfl
  | .int i, _, _, u, r, h, ru => by
    cases r; cases h
    obtain ⟨t, rfl⟩ := (show ∃ t, u = Value.int i t from ru)
    exact .int i t
  | .str x, _, _, u, r, h, ru => by
    cases r; cases h
    obtain ⟨t, rfl⟩ := (show ∃ t, u = Value.str x t from ru)
    exact .text x t
  | .tup ds, v, k, u, r, h, ru => by
    cases r with
    | @tup a xs _ ht rs z =>
      obtain ⟨ks, hks, rfl⟩ := Option.map_eq_some_iff.mp (show (nkDs ds).map NestedKey.tup = some k from h)
      cases (show u = Value.ref a from ru)
      obtain ⟨its, rv, ⟨o, h1, h2, n, h3⟩, _⟩ := I.tuple (ht.mono sub).sq
      exact .tup h1 h2 h3 (nesteds_are I sub ds rs hks rv)
  | .lst _, _, _, _, _, h, _ => by cases h
  | .ro _, _, _, _, _, h, _ => by cases h
  | .dct _, _, _, _, _, h, _ => by cases h
  | .adr _, _, _, _, _, h, _ => by cases h
theorem nesteds_are (I : Inv X pins σ H s) (sub : ∀ a o, F a = some o → H a = some o) : ∀ (ds : List D) {vs : List V} {ks : List NestedKey} {us : List Value}, Reps X.K ι F vs ds → nkDs ds = some ks → Vals vs us → NestedAll s.heap ks us
  | [], _, _, _, r, h, ru => by
    cases r; cases h; cases ru; exact .nil
  | d :: ds, _, ks, _, r, h, ru => by
    cases r with
    | cons r1 r2 =>
      cases ru with
      | cons u1 u2 =>
        obtain ⟨k, hk, h⟩ := Option.bind_eq_some_iff.mp (show (nkD d).bind (fun k => (nkDs ds).map (k :: ·)) = some ks from h)
        obtain ⟨ks', hks, rfl⟩ := Option.map_eq_some_iff.mp h
        exact .cons (nested_is I sub d r1 hk u1) (nesteds_are I sub ds r2 hks u2)
end
theorem key_is (I : Inv X pins σ H s) (sub : ∀ a o, F a = some o → H a = some o) {d : D} {v : V} {k : NestedKey} (r : Rep X.K ι F v d) (h : nkO d = some k) : ∃ a, v = .ref a ∧ (nestedKind X.prog X.w).is s.heap k a := by
  cases d with
  | tup ds =>
    obtain ⟨ks, h1, h2⟩ := Option.bind_eq_some_iff.mp (show (nkDs ds).bind (fun ks => if (NestedKey.tup ks).depth ≤ 8 then some (NestedKey.tup ks) else none) = some k from h)
    by_cases c : (NestedKey.tup ks).depth ≤ 8
    · rw [if_pos c] at h2
      cases h2
      have r' := r
      cases r with
      | @tup a xs _ ht rs z => exact ⟨a, rfl, nested_is I sub (.tup ds) r' (by show (nkDs ds).map NestedKey.tup = _; rw [h1]; rfl) rfl, c⟩
    · rw [if_neg c] at h2; cases h2
  | _ => cases h
theorem RepNs.all_is (I : Inv X pins σ H s) (sub : ∀ a o, F a = some o → H a = some o) : ∀ {xs : List (NestedKey × Addr × Value)} {kds : List (D × D)}, RepNs X.K ι F xs kds → ∀ x ∈ xs, (nestedKind X.prog X.w).is s.heap x.1 x.2.1
  | _, _, .nil, _, h => nomatch h
  | _, _, .cons hk rk _ _ t, x, h => by
    rcases List.mem_cons.mp h with e | h
    · rw [e]
      obtain ⟨a, ea, q⟩ := key_is I sub rk hk
      cases ea
      exact q
    · exact RepNs.all_is I sub t x h
/-- a dict with such keys, as it stands in the heap -/
theorem dcn_is (hK : X.K = G.K) (hw : X.w = G.w) (I : Inv X pins σ H s) (hr : HR G ι F W S H) {d : D} {v : V} {kds : List (D × D)} (r : Rep G.K ι F v d) (e : dcnO S d = some kds) :
    ∃ a n xs, v = .ref a ∧ d = .adr n ∧ ι[n]? = some a ∧ s.heap.DictOfH (nestedKind X.prog X.w) a xs ∧ RepNs G.K ι F xs kds ∧ (a == sysModules) = false ∧ kds.length ≤ big ∧ Mut (H a) := by
  cases r with
  | @adr a n h =>
    unfold dcnO at e
    simp only at e
    cases q : S[n]? with
    | none => rw [q] at e; cases e
    | some ob =>
      rw [q] at e
      have o := hr.obs n a ob h q
      cases o with
      | lst _ _ _ => cases e
      | ins _ _ _ _ => cases e
      | @dct kvs kds' ha rk z =>
        cases rk with
        | nil =>
          cases e
          obtain ⟨hz, hs, vs, kv, dd⟩ := dk_of I.hok ha
          cases kv
          obtain ⟨o, es, ep, g1, g2, g3, _, g4, _⟩ := dd
          refine ⟨a, n, [], rfl, rfl, h, ⟨o, es, ep, g1, g2, g3, ?_, (fun x hx => nomatch hx), .nil⟩, .nil, hs, Nat.zero_le _, by rw [ha]; exact True.intro⟩
          generalize es.toList = el at g4
          cases g4
          rfl
        | cons _ _ => cases e
      | @dcn o es ep xs _ ha hc hd hx nd hs r z =>
        cases e
        have ok := I.hok a _ ha
        have ho : s.heap.get? a = some o := ok.1
        refine ⟨a, n, xs, rfl, rfl, h, ⟨o, es, ep, ho, hc, hd, ?_, ?_, nd⟩, r, hs, z, by rw [ha]; exact True.intro⟩
        · rw [hx, ← hw]; rfl
        · exact (hK ▸ r : RepNs X.K ι F xs kds).all_is I hr.sub
  | _ => cases e
/-- .. told again -/
theorem dcn_back {P : Program} {w : World} {h' : Heap} {a : Addr} {xs : List (NestedKey × Addr × Value)} (dd : h'.DictOfH (nestedKind P w) a xs) : ∃ o es ep, h'.get? a = some o ∧ o.ExactDict ∧ o.data = .dict es ep ∧ es.toList = xs.map (fun x => ⟨x.1.hash w, .ref x.2.1, x.2.2⟩) ∧ (xs.map (·.1)).Nodup := by
  obtain ⟨o, es, ep, g1, g2, g3, g4, _, g5⟩ := dd
  exact ⟨o, es, ep, g1, g2, g3, g4, g5⟩
theorem room8 (hu : X.A.units + 65 < cLine) : (nestedKind X.prog X.w).room X.A.in1 := by
  show X.A.in1.units + 8 < cLine
  rw [Around.in1_units]
  omega
variable {E : XS}
theorem in_N (hK : X.K = G.K) (hw : X.w = G.w) (hu : X.A.units + 65 < cLine) (neg : Bool) {x y : V} {v u : Value} {Q : VK} {d e : D} {k : NestedKey} {kds : List (D × D)} (I : Inv X pins σ H s) (rx : RelV x v) (ry : RelV y u) (hr : HR G ι F W S H)
    (r1 : Rep G.K ι F x d) (r2 : Rep G.K ι F y e) (hk : nkO d = some k) (he : dcnO S e = some kds) (q : Q (.bl (if neg = true then !(nkVal kds k).isSome else (nkVal kds k).isSome)) H) :
    wpAny (model X.prog X.w) X.A (compareOp (if neg = true then .NotIn else .In) v u) (EP X pins σ Q) X.xe s := by
  obtain ⟨a, n, xs, rfl, rfl, hn, dd, rn, hs, _, _⟩ := dcn_is hK hw I hr r2 he
  obtain ⟨b, rfl, kb⟩ := key_is I hr.sub (hK ▸ r1) hk
  cases (show u = Value.ref a from ry)
  cases (show v = Value.ref b from rx)
  have ev : (atKey xs k).isSome = (nkVal kds k).isSome := by
    rcases rn.val (k := k) with ⟨h1, h2⟩ | ⟨_, _, _, _, h1, h2, _, _⟩ <;> rw [h1, h2] <;> rfl
  cases neg with
  | false => exact wpAny_in_heap (room8 hu) kb hs dd ⟨.bl _, H, I.tok _, rfl, by rw [ev]; exact q⟩
  | true =>
    refine notIn_keyed (room8 hu) kb hs ⟨xs, dd, rfl⟩ ⟨.bl _, H, I.tok _, rfl, ?_⟩
    rw [valueAt_pairsH, Option.isSome_map, ev]
    exact q
theorem get_N (hK : X.K = G.K) (hw : X.w = G.w) (hu : X.A.units + 65 < cLine) {x y : V} {v u : Value} {Q : VK} {d e : D} {k : NestedKey} {kds : List (D × D)} {z : D} (I : Inv X pins σ H s) (rx : RelV x v) (ry : RelV y u) (hr : HR G ι F W S H)
    (r1 : Rep G.K ι F x d) (r2 : Rep G.K ι F y e) (hk : nkO e = some k) (he : dcnO S d = some kds) (hz : nkVal kds k = some z) (q : ∀ w, Rep G.K ι F w z → Q w H) :
    wpAny (model X.prog X.w) X.A (getItem v u) (EP X pins σ Q) X.xe s ∧ s.TypeIs v "dict" := by
  obtain ⟨a, n, xs, rfl, rfl, hn, dd, rn, hs, _, _⟩ := dcn_is hK hw I hr r1 he
  obtain ⟨b, rfl, kb⟩ := key_is I hr.sub (hK ▸ r2) hk
  cases (show v = Value.ref a from rx)
  cases (show u = Value.ref b from ry)
  rcases rn.val (k := k) with ⟨h1, _⟩ | ⟨d', a', v', u', h1, h2, r3, r4⟩
  · rw [hz] at h1; cases h1
  · rw [hz] at h1
    cases h1
    exact ⟨wpAny_getItem_heap (room8 hu) kb dd h2 ⟨v', H, I.tok _, r4, q _ r3⟩, dd.typeIs⟩
theorem put_N (hK : X.K = G.K) (hw : X.w = G.w) (hu : X.A.units + 65 < cLine) {o i x : V} {ov iv u : Value} {e z : D} {n : Nat} {k : NestedKey} {kds : List (D × D)} {Q : Unit → Shared → Prop} (I : Inv X pins σ H s) (ro : RelV o ov) (ri : RelV i iv) (rx : RelV x u) (hr : HR G ι F W S H)
    (r1 : Rep G.K ι F o (.adr n)) (r2 : Rep G.K ι F i e) (r3 : Rep G.K ι F x z) (hk : nkO e = some k) (he : dcnO S (.adr n) = some kds) (hz : kds.length < big)
    (q : ∀ s' H', Inv X pins σ H' s' → HR G ι F W (S.set n (.dcn (nkPut kds e k z))) H' → Q () s') : wpAny (model X.prog X.w) X.A (setItem ov iv u) Q X.xe s := by
  obtain ⟨a, n', xs, rfl, en, hn, dd, rn, hs, _, mu⟩ := dcn_is hK hw I hr r1 he
  cases en
  obtain ⟨b, rfl, kb⟩ := key_is I hr.sub (hK ▸ r2) hk
  cases (show ov = Value.ref a from ro)
  cases (show iv = Value.ref b from ri)
  have hl : xs.length ≤ sizeLine := by rw [rn.length]; exact le_line (Nat.le_of_lt hz)
  refine wpAny_setItem_heap (hsz := hl) (room8 hu) kb dd fun h' dd' hs' => ?_
  obtain ⟨ob, es, ep, g1, g2, g3, g4, g5⟩ := dcn_back dd'
  have I1 : Inv X pins σ (upd H a (PinO a ob)) { s with heap := h', toks := s.toks + (nestedKind X.prog X.w).draws k } :=
    I.write (x := a) (e := a) mu (.inl rfl) (fun c q hc z => (hs'.2 c hc).trans z) ⟨ob, g1⟩ ⟨g1, ⟨ob, g1⟩, fun h1 h2 e1 e2 => e2 _ e1⟩
  refine q _ _ I1 (hr.write hn _ _ ?_)
  exact .dcn upd_same g2 g3 (by rw [g4, hw]) g5 hs (rn.put hk r2 r3 rx) (Nat.le_trans nkPut_len hz)
theorem vals_of {us : List Value} {vs : List V} (hl : us.length = vs.length) (h : ∀ (i : Nat) u, us[i]? = some u → ∃ v, vs[i]? = some v ∧ RelV v u) : Vals vs us := by
  induction vs generalizing us with
  | nil => cases us with
    | nil => exact .nil
    | cons _ _ => cases hl
  | cons v vs ih =>
    cases us with
    | nil => cases hl
    | cons u us =>
      obtain ⟨v', e, r⟩ := h 0 u rfl
      cases e
      exact .cons r (ih (by simpa using hl) fun i w e => h (i + 1) w (by simpa using e))
theorem raw_vals {xs : List (NestedKey × Addr × Value)} {es : Array DictEntry} {P : Program} {w : World} (he : es.toList = xs.map (entryOfKey (nestedKind P w))) {acc : Array Value} (ha : ItemsOf (fun i v => ∃ hi : i < es.size, v = es[i].key) acc es.size) :
    Vals (xs.map fun x => V.ref x.2.1) acc.toList := by
  have hs : es.size = xs.length := by rw [← Array.length_toList, he, List.length_map]
  refine vals_of (by rw [Array.length_toList, List.length_map, ← hs]; exact ha.1) fun i u e => ?_
  obtain ⟨hi, rfl⟩ := ha.2 i u (by rw [← Array.getElem?_toList]; exact e)
  have e2 : es.toList[i]? = some es[i] := by rw [Array.getElem?_toList, Array.getElem?_eq_getElem hi]
  rw [he, List.getElem?_map] at e2
  obtain ⟨x, ex, e3⟩ := Option.map_eq_some_iff.mp e2
  refine ⟨.ref x.2.1, by rw [List.getElem?_map, ex]; rfl, ?_⟩
  rw [← e3]
  rfl
theorem list_N (hK : X.K = G.K) (hw : X.w = G.w) (hc : X.calm = true) {x : V} {u : Value} {Q : VK} {d : D} {kds : List (D × D)} (I : Inv X pins σ H s) (rx : RelV x u) (hr : HR G ι F W S H) (r1 : Rep G.K ι F x d) (he : dcnO S d = some kds)
    (q : ∀ zs : List V, Reps G.K ι F zs (kds.map (·.1)) → ∀ l, H l = none → Q (.ref l) (upd H l (.lst zs))) : wpAny (model X.prog X.w) X.A (call (.type "list") [u]) (EP X pins σ Q) X.xe s := by
  obtain ⟨a, n, xs, rfl, rfl, hn, dd, rn, hs, z, _⟩ := dcn_is hK hw I hr r1 he
  cases (show u = Value.ref a from rx)
  obtain ⟨o, es, ep, g1, g2, g3, g4, g5⟩ := dd
  have hes : es.size = xs.length := by rw [← Array.length_toList, g4, List.length_map]
  have hz : xs.length ≤ sizeLine := by rw [rn.length]; exact le_line z
  refine PySem.W.kdl_call (PySem.KdlSrc.rawDict (es := es) (ep := ep) hs) (I.ok.hd hc) ⟨o, g1, g2, g3⟩ (by rw [hes]; exact hz) fun h' tk acc c hk hl ha => ?_
  have rv := raw_vals g4 ha
  exact ⟨.ref s.heap.objs.size, _, I.laid (t' := tk) hk (Nat.le_refl _) (show ObjOk X.prog X.w _ h' _ (.lst (xs.map fun x => V.ref x.2.1)) from ⟨by rw [List.length_map]; exact hz, acc.toList, c, rv, by rw [hl]⟩), rfl, q _ rn.keys _ (I.hok.fresh (Nat.le_refl _))⟩
theorem len_N (hK : X.K = G.K) (hw : X.w = G.w) {x : V} {u : Value} {Q : VK} {d : D} {kds : List (D × D)} (I : Inv X pins σ H s) (rx : RelV x u) (hr : HR G ι F W S H) (r1 : Rep G.K ι F x d) (he : dcnO S d = some kds)
    (q : Q (.int kds.length) H) : wpAny (model X.prog X.w) X.A (call (.builtin "len") [u]) (EP X pins σ Q) X.xe s := by
  obtain ⟨a, n, xs, rfl, rfl, hn, dd, rn, hs, z, _⟩ := dcn_is hK hw I hr r1 he
  cases (show u = Value.ref a from rx)
  refine call_len_dictH hs dd (by rw [rn.length]; have : big = 1000000 := rfl; omega) ⟨.int kds.length, H, (I.tok _).tok _, ⟨_, by rw [rn.length]⟩, q⟩
end
end CI

/-! Comparisons, subscripts, slices on data. -/
namespace CI
open PySem PySem.Spec PyProof.Rows L2

def keyO : D → Option Key
  | .int i => some (.inl i)
  | .str x => some (.inr x)
  | _ => none
def dctO (S : Store) : D → Option (List (Key × D))
  | .dct kds => some kds
  | .adr n => (match S[n]? with | some (.dct kds) => some kds | _ => none)
  | _ => none
def valD (kds : List (Key × D)) (k : Key) : Option D := (kds.find? fun kv => decide (kv.1 = k)).map (·.2)
theorem Rep.key {K : PySem.W.Frag} {ι : List Addr} {F : Hp} {v : V} {d : D} {k : Key} (r : Rep K ι F v d) (h : keyO d = some k) : v = kV k := by
  cases r with
  | int i => cases h; rfl
  | str x => cases h; rfl
  | _ => cases h
theorem RepKs.val {K : PySem.W.Frag} {ι : List Addr} {F : Hp} {k : Key} : ∀ {kvs : List (Key × V)} {kds : List (Key × D)}, RepKs K ι F kvs kds →
    (valD kds k = none ∧ valV kvs k = none) ∨ ∃ d v, valD kds k = some d ∧ valV kvs k = some v ∧ Rep K ι F v d
  | _, _, .nil => .inl ⟨rfl, rfl⟩
  | _, _, .cons (k := j) (v := v) (d := d) h t => by
    by_cases e : j = k
    · exact .inr ⟨d, v, by simp [valD, List.find?_cons, e], valV_pos e, h⟩
    · rcases RepKs.val t with ⟨h1, h2⟩ | ⟨d', v', h1, h2, r⟩
      · exact .inl ⟨by simpa [valD, List.find?_cons, e] using h1, (valV_neg e).trans h2⟩
      · exact .inr ⟨d', v', by simpa [valD, List.find?_cons, e] using h1, (valV_neg e).trans h2, r⟩
theorem Rep.dctO {G : Gx} {ι : List Addr} {F H : Hp} {W : Hp} {S : Store} (hr : HR G ι F W S H) {v : V} {d : D} {kds : List (Key × D)} (r : Rep G.K ι F v d) (e : dctO S d = some kds) :
    ∃ a kvs, v = .ref a ∧ H a = some (.dK kvs) ∧ RepKs G.K ι F kvs kds ∧ kds.length ≤ big := by
  cases r with
  | @adr a n h =>
    unfold CI.dctO at e
    simp only at e
    obtain ⟨q, _⟩ := List.getElem?_eq_some_iff.mp h
    have q' : n < S.length := hr.len ▸ q
    have o := hr.obs n a S[n] h (List.getElem?_eq_getElem q')
    rw [List.getElem?_eq_getElem q'] at e
    generalize S[n] = ob at o e
    cases o with
    | dct e' r z =>
      cases e
      exact ⟨_, _, rfl, e', r, z⟩
    | lst e' r z => cases e
    | ins e' _ r z => cases e
    | dcn _ _ _ _ _ _ _ _ => cases e
  | dct h r z => cases e; exact ⟨_, _, rfl, hr.sub _ _ h, r, z⟩
  | _ => cases e

/-! ### comparisons -/
def flatD : D → Bool
  | .non | .bl _ | .int _ | .str _ => true
  | _ => false
/-- x in c, but for keys that are tuples -/
def inO0 (S : Store) (x c : D) : Option Bool := match dctO S c with
  | some kds => (keyO x).map fun k => (valD kds k).isSome
  | none => match seqO S c with
    | some ds => if flatD x = true ∧ ds.all flatD = true then some (ds.any fun d => PyData.eqv (py0 d) (py0 x))
      else if (tupO c).isNone ∧ SeqAt.shaped (py S x) = true ∧ SeqAt.shaped (.list (py0s ds)) = true then some ((py0s ds).any fun z => PyData.eqv z (py S x))
      else if (tupO c).isSome ∧ SeqAt.shaped (py S x) = true ∧ SeqAt.shaped (.tuple (py0s ds)) = true then some ((py0s ds).any fun z => PyData.eqv z (py S x)) else none
    | none => none
/-- x in c -/
def inO (S : Store) (x c : D) : Option Bool := match nkO x with
  | none => inO0 S x c
  | some k => match dcnO S c with
    | some kds => some (nkVal kds k).isSome
    | none => inO0 S x c
theorem keyO_nk {d : D} {k : Key} (h : keyO d = some k) : nkO d = none := by cases d <;> first | rfl | cases h
theorem inO_k {S : Store} {x c : D} {k : Key} (h : keyO x = some k) : inO S x c = inO0 S x c := by
  unfold inO
  rw [keyO_nk h]
theorem inO_c {S : Store} {x c : D} (h : dcnO S c = none) : inO S x c = inO0 S x c := by
  unfold inO
  rw [h]
  cases nkO x <;> rfl
theorem dcnO_seq {S : Store} {c : D} {ds : List D} (h : seqO S c = some ds) : dcnO S c = none := by
  cases c with
  | adr n =>
    unfold dcnO
    have h : (match S[n]? with | some (.lst ds) => some ds | _ => none) = some ds := h
    cases q : S[n]? with
    | none => simp only [q]
    | some ob =>
      rw [q] at h
      cases ob with
      | lst _ => simp only [q]
      | _ => cases h
  | _ => rfl
theorem dcnS_seq {S : Store} {c : D} {ds : List D} (h : seqO S c = some ds) : dcnS S c = none := by
  cases c with
  | adr n =>
    unfold dcnS
    have h : (match S[n]? with | some (.lst ds) => some ds | _ => none) = some ds := h
    cases q : S[n]? with
    | none => simp only [q]
    | some ob =>
      rw [q] at h
      cases ob with
      | lst _ => simp only [q]
      | _ => cases h
  | _ => rfl
def ordO (f : Int → Int → Bool) : D → D → Option Bool
  | .int i, .int j => some (f i j)
  | _, _ => none
def isO : D → D → Option Bool
  | .non, .non => some true
  | .bl a, .bl b => some (decide (a = b))
  | _, .non => some false
  | _, _ => none
def eqX (S : Store) (a b : D) : Option Bool := match eqO S a b with
  | some k => some k
  | none => if (dctO S a).isSome = true ∧ (tupO b).isSome = true then some false else none
def cmpO (op : CmpOp) (S : Store) (a b : D) : Option Bool := match op with
  | .Eq => eqX S a b
  | .NotEq => (eqO S a b).map (!·)
  | .Lt => ordO (fun i j => decide (i < j)) a b
  | .LtE => ordO (fun i j => decide (i ≤ j)) a b
  | .Gt => ordO (fun i j => decide (j < i)) a b
  | .GtE => ordO (fun i j => decide (j ≤ i)) a b
  | .Is => isO a b
  | .IsNot => (isO a b).map (!·)
  | .In => inO S a b
  | .NotIn => (inO S a b).map (!·)
def cmpD (op : CmpOp) (a b : D) : M D := look fun S => (cmpO op S a b).map D.bl

theorem flat_V {K : PySem.W.Frag} {ι : List Addr} {F : Hp} {v : V} {d : D} (r : Rep K ι F v d) (h : flatD d = true) : flatV v = true := by
  cases r <;> first | rfl | cases h
theorem flat_eq {K : PySem.W.Frag} {ι : List Addr} {F : Hp} {v w : V} {d e : D} (r : Rep K ι F v d) (h : flatD d = true) (r' : Rep K ι F w e) (h' : flatD e = true) : eqV v w = PyData.eqv (py0 d) (py0 e) := by
  cases r <;> first | (cases h; done) | skip
  all_goals (cases r' <;> first | (cases h'; done) | rfl)
theorem flat_all {K : PySem.W.Frag} {ι : List Addr} {F : Hp} : ∀ {vs : List V} {ds : List D}, Reps K ι F vs ds → ds.all flatD = true → vs.all flatV = true
  | _, _, .nil, _ => rfl
  | _, _, .cons r t, h => by
    simp only [List.all_cons, Bool.and_eq_true] at h ⊢
    exact ⟨flat_V r h.1, flat_all t h.2⟩
theorem flat_any {K : PySem.W.Frag} {ι : List Addr} {F : Hp} {v : V} {d : D} (r : Rep K ι F v d) (h : flatD d = true) : ∀ {vs : List V} {ds : List D}, Reps K ι F vs ds → ds.all flatD = true → inV v vs = ds.any fun e => PyData.eqv (py0 e) (py0 d)
  | _, _, .nil, _ => rfl
  | _, _, .cons r' t, h' => by
    simp only [List.all_cons, Bool.and_eq_true] at h'
    have ih := flat_any r h t h'.2
    unfold inV at ih ⊢
    rw [List.any_cons, List.any_cons, flat_eq r' h'.1 r h, ih]

section
variable {X : Cx} {G : Gx} {E : XS}
theorem dec_non {K : PySem.W.Frag} {ι : List Addr} {F : Hp} {v : V} {d : D} {b : Bool} (r : Rep K ι F v d) (h : isO d .non = some b) : decide (v = .non) = b := by
  cases r <;> first | (cases h; rfl) | cases h
theorem op_is_D : OpR X (compareOp .Is) (fun x y H Q => ∃ ι F d e b, Rep G.K ι F x d ∧ Rep G.K ι F y e ∧ isO d e = some b ∧ Q (.bl b) H) := by
  intro pins s σ H x y v u Q I rx ry ⟨ι, F, d, e, b, r1, r2, h, q⟩
  cases r2 with
  | non => exact op_isN pins s σ H _ _ v u Q I rx ry ⟨rfl, by rw [dec_non r1 h]; exact q⟩
  | bl c =>
    cases r1 with
    | bl a => cases h; exact op_is_bl pins s σ H _ _ v u Q I rx ry ⟨a, c, rfl, rfl, q⟩
    | _ => cases h
  | _ => cases r1 <;> cases h
theorem op_isnot_D : OpR X (compareOp .IsNot) (fun x y H Q => ∃ ι F d e b, Rep G.K ι F x d ∧ Rep G.K ι F y e ∧ isO d e = some b ∧ Q (.bl (!b)) H) := by
  intro pins s σ H x y v u Q I rx ry ⟨ι, F, d, e, b, r1, r2, h, q⟩
  cases r2 with
  | non => exact op_notN pins s σ H _ _ v u Q I rx ry ⟨rfl, by rw [dec_non r1 h]; exact q⟩
  | bl c =>
    cases r1 with
    | bl a => cases h; exact op_isnot_bl pins s σ H _ _ v u Q I rx ry ⟨a, c, rfl, rfl, q⟩
    | _ => cases h
  | _ => cases r1 <;> cases h
theorem DGet.rep {G : Gx} {ι : List Addr} {F H : Hp} {a : Addr} {kvs : List (Key × V)} {kds : List (Key × D)} {y : V} {d : D} {k : Key} (h : H a = some (.dK kvs)) (rk : RepKs G.K ι F kvs kds) (r : Rep G.K ι F y d) (hk : keyO d = some k) :
    ∃ o, DGet H a y o ∧ o.isSome = (valD kds k).isSome ∧ ∀ e, valD kds k = some e → ∃ v, o = some v ∧ Rep G.K ι F v e := by
  have e := r.key hk
  subst e
  refine ⟨valV kvs k, .k h, ?_⟩
  rcases rk.val (k := k) with ⟨h1, h2⟩ | ⟨d', v', h1, h2, r'⟩
  · rw [h1, h2]; exact ⟨rfl, fun _ q => nomatch q⟩
  · rw [h1, h2]
    refine ⟨rfl, fun e q => ?_⟩
    cases q
    exact ⟨v', rfl, r'⟩
theorem op_in_D (hK : X.K = G.K) (hw : X.w = G.w) (hu : X.A.units + 65 < cLine) (neg : Bool) : OpR X (compareOp (if neg = true then .NotIn else .In)) (fun x y H Q => ∃ ι F W S d e b, HR G ι F W S H ∧ Rep G.K ι F x d ∧ Rep G.K ι F y e ∧ inO S d e = some b ∧ Q (.bl (if neg = true then !b else b)) H) := by
  intro pins s σ H x y v u Q I rx ry ⟨ι, F, W, S, d, e, b, hr, r1, r2, h0, q⟩
  have h : inO0 S d e = some b ∨ ∃ k kds, nkO d = some k ∧ dcnO S e = some kds ∧ b = (nkVal kds k).isSome := by
    unfold inO at h0
    cases hk : nkO d with
    | none => rw [hk] at h0; exact .inl h0
    | some k =>
      rw [hk] at h0
      simp only at h0
      cases he : dcnO S e with
      | none => rw [he] at h0; exact .inl h0
      | some kds =>
        rw [he] at h0
        cases h0
        exact .inr ⟨k, kds, rfl, rfl, rfl⟩
  clear h0
  rcases h with h | ⟨k, kds, hk, he, rfl⟩
  rotate_left
  · refine in_N hK hw hu neg I rx ry hr r1 r2 hk he ?_
    cases neg <;> exact q
  unfold inO0 at h
  cases hd : dctO S e with
  | some kds =>
    rw [hd] at h
    cases hk : keyO d with
    | none => rw [hk] at h; cases h
    | some k =>
      rw [hk] at h
      simp only [Option.map_some, Option.some.injEq] at h
      obtain ⟨a, kvs, rfl, ha, rk, _⟩ := Rep.dctO hr r2 hd
      obtain ⟨o, g, ho, _⟩ := DGet.rep ha rk r1 hk
      rw [← h, ← ho] at q
      cases (show u = Value.ref a from ry)
      cases neg with
      | false => exact d_in (by omega) I g rx fun s' I' => ⟨.bl _, H, I', rfl, q⟩
      | true => exact d_notIn (by omega) I g rx fun s' I' => ⟨.bl _, H, I', rfl, q⟩
  | none =>
    rw [hd] at h
    cases hs : seqO S e with
    | none => rw [hs] at h; cases h
    | some ds =>
      rw [hs] at h
      simp only at h
      by_cases hf : flatD d = true ∧ ds.all flatD = true
      · rw [if_pos hf] at h
        obtain ⟨a, xs, rfl, ha, rs, _⟩ := Rep.seqO hr r2 hs
        have z := flat_any r1 hf.1 rs hf.2
        cases h
        rw [← z] at q
        cases neg with
        | false => exact op_in_seq pins s σ H _ _ v u Q I rx ry ⟨a, xs, rfl, hK ▸ ha, flat_V r1 hf.1, flat_all rs hf.2, q⟩
        | true => exact op_notIn_seq pins s σ H _ _ v u Q I rx ry ⟨a, xs, rfl, hK ▸ ha, flat_V r1 hf.1, flat_all rs hf.2, q⟩
      · rw [if_neg hf] at h
        by_cases hc : (tupO e).isNone ∧ SeqAt.shaped (py S d) = true ∧ SeqAt.shaped (.list (py0s ds)) = true
        · rw [if_pos hc] at h
          obtain ⟨ht, hx, hl⟩ := hc
          have hs' : CI.lstO S e = some ds := by
            cases e <;> first | exact hs | (cases ht)
          obtain ⟨a, xs, rfl, ha, rs, _⟩ := Rep.lstO hr r2 hs'
          have dl : Dp G.K H (.ref a) (.list (py0s ds)) := .lst ha (Reps.dp hr.sub rs (by
            have := SeqAt.canLay_of_shaped hl
            simpa [PyData.canLay0] using this))
          have dx := Rep.dpS hr r1 hx
          cases h
          cases neg with
          | false => exact op_inD hu pins s σ H _ _ v u Q I rx ry ⟨_, _, hK ▸ dx, hK ▸ dl, hx, hl, q⟩
          | true => exact op_notInD hu pins s σ H _ _ v u Q I rx ry ⟨_, _, hK ▸ dx, hK ▸ dl, hx, hl, q⟩
        · rw [if_neg hc] at h
          by_cases hc : (tupO e).isSome ∧ SeqAt.shaped (py S d) = true ∧ SeqAt.shaped (.tuple (py0s ds)) = true
          · rw [if_pos hc] at h
            obtain ⟨ht, hx, hl⟩ := hc
            have ee : e = .tup ds := by
              cases e <;> first | (cases ht; done) | (cases hs; rfl)
            subst ee
            have dx := Rep.dpS hr r1 hx
            have dl : Dp G.K H y (.tuple (py0s ds)) := Rep.dpS hr r2 hl
            obtain ⟨as, q1⟩ := Dp.reads I _ x v (hK ▸ dx) rx
            obtain ⟨bs, q2⟩ := Dp.reads I _ y u (hK ▸ dl) ry
            cases h
            cases neg with
            | false => exact SeqAt.in_tuple_reads q2 q1 (SeqAt.canLay_of_shaped hl) (SeqAt.canLay_of_shaped hx) (room_in_shaped hx hu) ⟨.bl _, H, I, rfl, q⟩
            | true => exact SeqAt.notIn_tuple_reads q2 q1 (SeqAt.canLay_of_shaped hl) (SeqAt.canLay_of_shaped hx) (room_in_shaped hx hu) ⟨.bl _, H, I, rfl, q⟩
          · rw [if_neg hc] at h; cases h
section
open PySem.SeqAt AutoSeq1 MeetsSeq
theorem dict_declines (l b : Addr) (es : Array DictEntry) (n : Nat) (its : Array Value) (n2 : Nat) (dd dd2 : Option Addr) (sl sl2 : Array (Option Value)) :
    Meets (Builtin.«dict.__eq__» ⟨[.ref l, .ref b], []⟩) (fun _ R s => s.heap.get? l = some { cls := .type "dict", dict := dd, data := .dict es n, slots := sl } ∧ s.heap.get? b = some { cls := .type "tuple", dict := dd2, data := .seq its n2, slots := sl2 } ∧ R (.ok (.ret .notImplemented)) s) :=
  .of_wp fun prog w A R s h => by obtain ⟨hp, g, d, tk, os⟩ := s; obtain ⟨hl, hb, h⟩ := h; have f1 := F.sub_tuple_dict; wp_walk using wpAny_loadPart' hl, wpAny_loadPart' hb; exact ⟨_, rfl, h⟩
theorem tuple_declines (l b : Addr) (es : Array DictEntry) (n : Nat) (its : Array Value) (n2 : Nat) (dd dd2 : Option Addr) (sl sl2 : Array (Option Value)) :
    Meets (Builtin.«tuple.__eq__» ⟨[.ref b, .ref l], []⟩) (fun _ R s => s.heap.get? l = some { cls := .type "dict", dict := dd, data := .dict es n, slots := sl } ∧ s.heap.get? b = some { cls := .type "tuple", dict := dd2, data := .seq its n2, slots := sl2 } ∧ R (.ok (.ret .notImplemented)) s) :=
  .of_wp fun prog w A R s h => by obtain ⟨hp, g, d, tk, os⟩ := s; obtain ⟨hl, hb, h⟩ := h; have f1 := F.sub_dict_tuple; wp_walk using wpAny_loadPart' hl, wpAny_loadPart' hb; exact ⟨_, rfl, h⟩
theorem eq_dict_tuple {prog : Program} {w : World} {A : Around} {E : Value → Shared → Prop} {s : Shared} {Q : Value → Shared → Prop} {l b : Addr} {o1 o2 : Obj} {es : Array DictEntry} {n : Nat} {its : Array Value} {n2 : Nat}
    (h1 : s.heap.get? l = some o1) (c1 : o1.cls = .type "dict") (d1 : o1.data = .dict es n) (h2 : s.heap.get? b = some o2) (c2 : o2.cls = .type "tuple") (d2 : o2.data = .seq its n2) (hu : A.units < cLine) (h : Q (.bool false) s) :
    wpAny (model prog w) A (compareOp .Eq (.ref l) (.ref b)) Q E s := by
  have hne : l ≠ b := fun e => by
    subst e
    rw [h1] at h2; cases h2
    rw [c1] at c2; exact absurd c2 (by simp)
  obtain ⟨cls, dd, data, sl⟩ := o1
  obtain ⟨cls2, dd2, data2, sl2⟩ := o2
  simp only at c1 d1 c2 d2
  subst c1 d1 c2 d2
  exact rc_eq_decline_or (k := false) ⟨_, h1, rfl⟩ ⟨_, h2, rfl⟩ (by decide) F.sub_tuple_dict F.slot_dict_eq F.slot_tuple_eq_refl
    (fun _ hq => call_meets F.slot_dict_eq ⟨_, h1, rfl⟩ F.entry_dict_eq (F.args_dict_eq_2 _ _) (dict_declines l b es n its n2 dd dd2 sl sl2) ⟨h1, h2, hq⟩)
    (fun _ hq => call_meets F.slot_tuple_eq_refl ⟨_, h2, rfl⟩ F.entry_tuple_eq (F.args_tuple_eq_2 _ _) (tuple_declines l b es n its n2 dd dd2 sl sl2) ⟨h1, h2, hq⟩)
    (fun _ hq => wpAny_isSame_ref_other hne h1 h2 (by simp) hq) (.inr hu) h
end
theorem op_cmp_D (hK : X.K = G.K) (hw0 : X.w = G.w) (hu : X.A.units + 65 < cLine) (op : CmpOp) : OpR X (compareOp op) (rG G E (cmpD op)) := by
  intro pins s σ H x y v u Q I rx ry ⟨ι, F, W, S, d, e, hr, r1, r2, po⟩
  obtain ⟨w, hw, q⟩ := Post.look hr po
  have ord : ∀ {f : Int → Int → Bool}, (ordO f d e).map D.bl = some w → ∃ i j, d = .int i ∧ e = .int j ∧ x = .int i ∧ y = .int j ∧ w = .bl (f i j) := fun {f} h => by
    cases r1 <;> cases r2 <;> first | (cases h; done) | skip
    cases h
    exact ⟨_, _, rfl, rfl, rfl, rfl, rfl⟩
  have eqv : ∀ {f : Bool → Bool}, ((eqO S d e).map f).map D.bl = some w → SeqAt.shaped (py S d) = true ∧ SeqAt.shaped (py S e) = true ∧ w = .bl (f (PyData.eqv (py S d) (py S e))) := fun {f} h => by
    unfold eqO at h
    by_cases hc : SeqAt.shaped (py S d) = true ∧ SeqAt.shaped (py S e) = true
    · rw [if_pos hc] at h
      cases h
      exact ⟨hc.1, hc.2, rfl⟩
    · rw [if_neg hc] at h; cases h
  cases op with
  | Eq =>
    have hw' : (eqX S d e).map D.bl = some w := hw
    unfold eqX at hw'
    cases hq : eqO S d e with
    | some k =>
      rw [hq] at hw'
      obtain ⟨h1, h2, e1⟩ := eqv (f := fun b => b) (by rw [hq]; exact hw')
      subst e1
      exact op_eqD (by omega) pins s σ H _ _ v u Q I rx ry ⟨_, _, hK ▸ Rep.dpS hr r1 h1, hK ▸ Rep.dpS hr r2 h2, h1, h2, q _ (.bl _)⟩
    | none =>
      rw [hq] at hw'
      simp only at hw'
      by_cases c : (dctO S d).isSome = true ∧ (tupO e).isSome = true
      · rw [if_pos c] at hw'
        cases hw'
        obtain ⟨kds, h1⟩ := Option.isSome_iff_exists.mp c.1
        obtain ⟨ds, h2⟩ := Option.isSome_iff_exists.mp c.2
        obtain ⟨a, kvs, rfl, ha, _, _⟩ := Rep.dctO hr r1 h1
        obtain ⟨b, xs, rfl, hb, _, _, _⟩ := Rep.tupO hr r2 h2
        cases rx
        cases ry
        obtain ⟨_, _, _, _, o1, es, ep, g1, g2, g3, _⟩ := dk_of I.hok ha
        obtain ⟨its, _, ⟨o2, g4, g5, n2, g6⟩, _⟩ := I.tuple (hK ▸ hb.sq)
        exact eq_dict_tuple g1 g2.1 g3 g4 g5 g6 (by omega) ⟨.bl false, H, I, rfl, q _ (.bl _)⟩
      · rw [if_neg c] at hw'; cases hw'
  | NotEq =>
    obtain ⟨h1, h2, rfl⟩ := eqv (f := fun b => !b) (by simpa [cmpO] using hw)
    exact op_neD (by omega) pins s σ H _ _ v u Q I rx ry ⟨_, _, hK ▸ Rep.dpS hr r1 h1, hK ▸ Rep.dpS hr r2 h2, h1, h2, q _ (.bl _)⟩
  | Lt =>
    obtain ⟨i, j, _, _, rfl, rfl, rfl⟩ := ord hw
    exact op_lt pins s σ H _ _ v u Q I rx ry ⟨i, j, rfl, rfl, q _ (.bl _)⟩
  | LtE =>
    obtain ⟨i, j, _, _, rfl, rfl, rfl⟩ := ord hw
    exact op_le pins s σ H _ _ v u Q I rx ry ⟨i, j, rfl, rfl, q _ (.bl _)⟩
  | Gt =>
    obtain ⟨i, j, _, _, rfl, rfl, rfl⟩ := ord hw
    exact op_gt pins s σ H _ _ v u Q I rx ry ⟨i, j, rfl, rfl, q _ (.bl _)⟩
  | GtE =>
    obtain ⟨i, j, _, _, rfl, rfl, rfl⟩ := ord hw
    exact op_ge pins s σ H _ _ v u Q I rx ry ⟨i, j, rfl, rfl, q _ (.bl _)⟩
  | Is =>
    have hw' : (isO d e).map D.bl = some w := hw
    obtain ⟨b, hb, rfl⟩ := Option.map_eq_some_iff.mp hw'
    exact op_is_D (G := G) pins s σ H _ _ v u Q I rx ry ⟨ι, F, d, e, b, r1, r2, hb, q _ (.bl _)⟩
  | IsNot =>
    have hw' : ((isO d e).map (!·)).map D.bl = some w := hw
    rw [Option.map_map] at hw'
    obtain ⟨b, hb, rfl⟩ := Option.map_eq_some_iff.mp hw'
    exact op_isnot_D (G := G) pins s σ H _ _ v u Q I rx ry ⟨ι, F, d, e, b, r1, r2, hb, q _ (.bl _)⟩
  | In =>
    have hw' : (inO S d e).map D.bl = some w := hw
    obtain ⟨b, hb, rfl⟩ := Option.map_eq_some_iff.mp hw'
    exact op_in_D hK hw0 hu false pins s σ H _ _ v u Q I rx ry ⟨ι, F, W, S, d, e, b, hr, r1, r2, hb, q _ (.bl _)⟩
  | NotIn =>
    have hw' : ((inO S d e).map (!·)).map D.bl = some w := hw
    rw [Option.map_map] at hw'
    obtain ⟨b, hb, rfl⟩ := Option.map_eq_some_iff.mp hw'
    exact op_in_D hK hw0 hu true pins s σ H _ _ v u Q I rx ry ⟨ι, F, W, S, d, e, b, hr, r1, r2, hb, q _ (.bl _)⟩

/-! ### subscripts -/
def intO : D → Option Int
  | .int i => some i
  | _ => none
def ixG0 (S : Store) (a b : D) : Option D := match dctO S a with
    | some kds => (keyO b).bind (valD kds)
    | none => match seqO S a with
      | some ds => (intO b).bind (atI ds)
      | none => none
def ixG (S : Store) (a b : D) : Option D := match nkO b with
  | none => ixG0 S a b
  | some k => match dcnO S a with
    | some kds => nkVal kds k
    | none => ixG0 S a b
theorem ixG_k {S : Store} {a b : D} {k : Key} (h : keyO b = some k) : ixG S a b = ixG0 S a b := by
  unfold ixG
  rw [keyO_nk h]
def ixO (S : Store) (a b : D) : Option D := match a with
  | .str z => if z.length ≤ big then (intO b).bind fun i => (atI z.cps.toList i).map fun c => .str ⟨#[c]⟩ else none
  | a => ixG S a b
def ixD (a b : D) : M D := look fun S => ixO S a b
theorem Reps.atI {K : PySem.W.Frag} {ι : List Addr} {F : Hp} {vs : List V} {ds : List D} {i : Int} {d : D} (r : Reps K ι F vs ds) (h : L2.atI ds i = some d) : ∃ v, L2.atI vs i = some v ∧ Rep K ι F v d := by
  unfold L2.atI at h ⊢
  rw [r.length]
  cases q : ixN ds.length i with
  | none => rw [q] at h; cases h
  | some j =>
    rw [q] at h
    exact r.at h
theorem ix_dict (hu : X.A.units + 1 < cLine) : IxR X (fun x y H Q => ∃ a v, x = .ref a ∧ DGet H a y (some v) ∧ Q v H) := by
  intro value slice pins s σ H x y v u Q I rx ry h hs
  obtain ⟨a, z, rfl, g, q⟩ := h
  cases (show v = Value.ref a from rx)
  exact tail_any (dict_typeIs I g) PySem.F.slot_dict_getitem.lookup (d_getItem hu I g ry fun w' s3 I3 rw' => ⟨z, H, I3, rw', q⟩) hs
theorem ix_D (hK : X.K = G.K) (hw0 : X.w = G.w) (hu : X.A.units + 65 < cLine) : IxR X (rG G E ixD) := by
  intro value slice pins s σ H x y v u Q I rx ry ⟨ι, F, W, S, d, e, hr, r1, r2, po⟩ hs
  obtain ⟨w, hw, q⟩ := Post.look hr po
  have gen : ixG S d e = some w → wpAny (model X.prog X.w) X.A (subscriptTail value slice v u) (EP X pins σ Q) X.xe s := fun h => by
    have h : ixG0 S d e = some w ∨ ∃ k kds, nkO e = some k ∧ dcnO S d = some kds ∧ nkVal kds k = some w := by
      unfold ixG at h
      cases hk : nkO e with
      | none => rw [hk] at h; exact .inl h
      | some k =>
        rw [hk] at h
        simp only at h
        cases he : dcnO S d with
        | none => rw [he] at h; exact .inl h
        | some kds =>
          rw [he] at h
          exact .inr ⟨k, kds, rfl, rfl, h⟩
    rcases h with h | ⟨k, kds, hk, he, hz⟩
    rotate_left
    · obtain ⟨g1, g2⟩ := get_N (Q := Q) hK hw0 hu I rx ry hr r1 r2 hk he hz q
      exact tail_any g2 PySem.F.slot_dict_getitem.lookup g1 hs
    unfold ixG0 at h
    cases hd : dctO S d with
    | some kds =>
      rw [hd] at h
      simp only at h
      cases hk : keyO e with
      | none => rw [hk] at h; cases h
      | some k =>
        rw [hk] at h
        obtain ⟨a, kvs, rfl, ha, rk, _⟩ := Rep.dctO hr r1 hd
        obtain ⟨o, g, _, ho⟩ := DGet.rep ha rk r2 hk
        obtain ⟨z, rfl, rz⟩ := ho w h
        exact ix_dict (by omega) value slice pins s σ H _ _ v u Q I rx ry ⟨a, z, rfl, g, q _ rz⟩ hs
    | none =>
      rw [hd] at h
      simp only at h
      cases hq : seqO S d with
      | none => rw [hq] at h; cases h
      | some ds =>
        rw [hq] at h
        cases r2 with
        | int i =>
          have h : L2.atI ds i = some w := h
          obtain ⟨a, xs, rfl, ha, rs, _⟩ := Rep.seqO hr r1 hq
          obtain ⟨z, hz, rz⟩ := rs.atI h
          rcases ha with ha | ha
          · exact ix_list value slice pins s σ H _ _ v u Q I rx ry ⟨a, xs, i, z, rfl, rfl, hK ▸ ha, hz, q _ rz⟩ hs
          · exact ix_tup value slice pins s σ H _ _ v u Q I rx ry ⟨a, xs, i, z, rfl, rfl, hK ▸ ha, hz, q _ rz⟩ hs
        | _ => cases h
  cases r1 with
  | str z =>
    have hw : (if z.length ≤ big then (intO e).bind fun i => (L2.atI z.cps.toList i).map fun c => D.str ⟨#[c]⟩ else none) = some w := hw
    by_cases hz : z.length ≤ big
    · rw [if_pos hz] at hw
      cases r2 with
      | int i =>
        have hw : (L2.atI z.cps.toList i).map (fun c => D.str ⟨#[c]⟩) = some w := hw
        obtain ⟨c, hc, rfl⟩ := Option.map_eq_some_iff.mp hw
        exact ix_str value slice pins s σ H _ _ v u Q I rx ry ⟨z, i, c, rfl, rfl, le_line hz, hc, q _ (.str _)⟩ hs
      | _ => cases hw
    · rw [if_neg hz] at hw; cases hw
  | _ => exact gen hw

/-! ### slices -/
def partO : D → Option (Option Int)
  | .non => some none
  | .int i => some (some i)
  | _ => none
def cutD {α : Type} (xs : List α) (lo hi : Option Int) : List α := (xs.drop (HT.sIx xs.length 0 lo)).take (HT.sIx xs.length xs.length hi - HT.sIx xs.length 0 lo)
def slD (m : Bool) (a : D) (lo hi : Option Int) : M D := fun S => match a with
  | .str z => if z.length ≤ big then .ok (.str (cutS z lo hi)) S else .bad
  | .tup ds => .ok (.tup (cutD ds lo hi)) S
  | a => match lstO S a with
    | some ds => fin m (cutD ds lo hi) S
    | none => .bad
theorem cutD_length {α : Type} (xs : List α) (lo hi : Option Int) : (cutD xs lo hi).length ≤ xs.length := by
  unfold cutD
  rw [List.length_take, List.length_drop]
  omega
theorem cutD_whole {α : Type} {xs : List α} {lo hi : Option Int} (e : HT.sIx xs.length 0 lo = 0 ∧ HT.sIx xs.length xs.length hi = xs.length) : cutD xs lo hi = xs := by
  unfold cutD
  rw [e.1, e.2]
  exact List.take_of_length_le (by simp)
theorem Reps.cut {K : PySem.W.Frag} {ι : List Addr} {F : Hp} {vs : List V} {ds : List D} (r : Reps K ι F vs ds) (lo hi : Option Int) : Reps K ι F (cutV vs lo hi) (cutD ds lo hi) := by
  unfold cutV cutD
  rw [r.length]
  exact (r.drop _).take _
def rGS (G : Gx) (E : XS) (m : Bool) : V → Option Int → Option Int → Hp → VK → Prop := fun x lo hi H Q => ∃ ι F W S d, HR G ι F W S H ∧ Rep G.K ι F x d ∧ Post G ι F W E (RV G Q) (slD m d lo hi S)
theorem sl_D (hK : X.K = G.K) (m : Bool) : SlR X (rGS G E m) := by
  intro pins s σ H x v vl vu lo hi sl Q I rx hs pl pu ⟨ι, F, W, S, d, hr, r, po⟩
  have gen : Post G ι F W E (RV G Q) (match lstO S d with | some ds => fin m (cutD ds lo hi) S | none => Res.bad) → ∃ T id, typeLookup (.type T) "__getitem__" = pure (some (.builtin id)) ∧ s.TypeIs v T ∧ wpAny (model X.prog X.w) X.A (getItem v (.ref sl)) (EP X pins σ Q) X.xe s := fun po => by
    cases hq : lstO S d with
    | none => rw [hq] at po; exact po.elim
    | some ds =>
      rw [hq] at po
      obtain ⟨a, xs, rfl, ha, rs, z⟩ := Rep.lstO hr r hq
      exact sl_list pins s σ H _ v vl vu lo hi sl Q I rx hs pl pu ⟨a, xs, rfl, hK ▸ ha, po.fin hr (rs.cut lo hi) (Nat.le_trans (cutD_length _ _ _) z)⟩
  cases r with
  | str z =>
    unfold slD at po
    simp only at po
    by_cases hz : z.length ≤ big
    · rw [if_pos hz] at po
      exact sl_str pins s σ H _ v vl vu lo hi sl Q I rx hs pl pu ⟨z, rfl, le_line hz, po.now hr _ (.str _)⟩
    · rw [if_neg hz] at po; exact po.elim
  | tup h rs z =>
    refine sl_tupF pins s σ H _ v vl vu lo hi sl Q I rx hs pl pu ⟨_, _, rfl, hK ▸ (h.mono hr.sub).sq, fun e => ?_, fun e => ?_⟩
    · refine po.now hr _ ?_
      rw [rs.length] at e
      rw [cutD_whole e]
      exact .tup h rs z
    · exact Post.tup hr (rs.cut lo hi) (Nat.le_trans (cutD_length _ _ _) z) po
  | _ => exact gen po
end
end CI

namespace CI
open PySem PySem.Spec PyProof.Rows L2 HT

/-! ### sorted(xs) of data -/
def srtOk (ds : List D) : Bool := ds.all (fun d => (py0 d).canLay0 && decide ((py0 d).depth ≤ 60)) && (ds.all fun a => ds.all fun b => PySem.W.alike (py0 a) (py0 b)) &&
  (ds.all (fun d => match d with | .tup (_ :: _) => true | _ => false) || ds.all fun d => match d with | .int _ => true | .str _ => true | .lst _ => true | _ => false)
def srtD (ds : List D) : List D := ds.mergeSort (PySem.W.dataLe false py0)
def srtO (ds : List D) : Option (List D) := if srtOk ds = true then some (srtD ds) else none
theorem srtOk_is {ds : List D} (h : srtOk ds = true) : (∀ d ∈ ds, (py0 d).canLay0 = true ∧ (py0 d).depth ≤ 60) ∧ PySem.W.AllAlike (ds.map py0) ∧ PySem.W.Sortable (ds.map py0) := by
  unfold srtOk at h
  rw [Bool.and_eq_true, Bool.and_eq_true, Bool.or_eq_true] at h
  obtain ⟨⟨h1, h2⟩, h3⟩ := h
  refine ⟨fun d hd => ?_, fun x hx y hy => ?_, ?_⟩
  · have := List.all_eq_true.mp h1 d hd
    rw [Bool.and_eq_true] at this
    exact ⟨this.1, of_decide_eq_true this.2⟩
  · obtain ⟨d, hd, rfl⟩ := List.mem_map.mp hx
    obtain ⟨e, he, rfl⟩ := List.mem_map.mp hy
    exact List.all_eq_true.mp (List.all_eq_true.mp h2 d hd) e he
  · rcases h3 with h3 | h3
    · refine .inl fun x hx => ?_
      obtain ⟨d, hd, rfl⟩ := List.mem_map.mp hx
      have q := List.all_eq_true.mp h3 d hd
      cases d with
      | tup ds => cases ds with
        | nil => cases q
        | cons y r => exact ⟨_, _, by rw [py0, py0s]⟩
      | _ => cases q
    · refine .inr fun x hx => ?_
      obtain ⟨d, hd, rfl⟩ := List.mem_map.mp hx
      have q := List.all_eq_true.mp h3 d hd
      cases d with
      | int i => exact ⟨(by rw [py0]; exact fun z => nomatch z), fun xs z => by rw [py0] at z; cases z⟩
      | str i => exact ⟨(by rw [py0]; exact fun z => nomatch z), fun xs z => by rw [py0] at z; cases z⟩
      | lst i => exact ⟨(by rw [py0]; exact fun z => nomatch z), fun xs z => by rw [py0] at z; cases z⟩
      | _ => cases q
theorem each_of {K : PySem.W.Frag} {ι : List Addr} {F : Hp} : ∀ {us : List Value} {xs : List V} {ds : List D}, Reps K ι F xs ds → Vals xs us → PySem.W.EachIs (fun u d => ∃ x, Rep K ι F x d ∧ RelV x u) us ds
  | _, _, _, .nil, .nil => .nil
  | _, _, _, .cons r t, .cons v w => .cons ⟨_, r, v⟩ (each_of t w)
theorem each_back {K : PySem.W.Frag} {ι : List Addr} {F : Hp} : ∀ {us : List Value} {ds : List D}, PySem.W.EachIs (fun u d => ∃ x, Rep K ι F x d ∧ RelV x u) us ds → ∃ xs, Reps K ι F xs ds ∧ Vals xs us
  | _, _, .nil => ⟨[], .nil, .nil⟩
  | _, _, .cons ⟨x, r, v⟩ t => by
    obtain ⟨xs, rs, vs⟩ := each_back t
    exact ⟨x :: xs, .cons r rs, .cons v vs⟩
section
variable {X : Cx} {G : Gx} {E : XS}
theorem call_sortedD {pins : List (Addr × Obj)} {s : Shared} {σ : L2.St} {H : Hp} {Q : VK} {ι : List Addr} {F : Hp} {W : Hp} {S : Store} {b : Addr} {xs : List V} {ds : List D} {m : Bool} (hK : X.K = G.K) (hu : X.A.units + 65 < cLine) (I : Inv X pins σ H s) (hr : HR G ι F W S H) (hb : SqL X.K H b xs) (r : Reps G.K ι F xs ds) (z : ds.length ≤ big)
    (ok : srtOk ds = true) (po : Post G ι F W E (RV G Q) (fin m (srtD ds) S)) : wpAny (model X.prog X.w) X.A (call (.builtin "sorted") [.ref b]) (EP X pins σ Q) X.xe s := by
  obtain ⟨its, rv, pl, _⟩ := I.list hb
  obtain ⟨o1, o2, o3⟩ := srtOk_is ok
  have ev := each_of r rv
  have er : PySem.W.EachIs (fun v d => ∃ as, Reads s.heap v (py0 d) as) its ds := by
    refine (PySem.W.each_mem ev).mono fun u d ⟨⟨x, r1, r2⟩, hd⟩ => ?_
    exact Dp.reads I _ x u (hK ▸ r1.dp hr.sub (o1 d hd).1) r2
  have hz : ds.length = its.length := by rw [← r.length, rv.length]
  refine PySem.W.sorted_data pl.isList ev er o2 o3 (le_line z) (fun d hd => ?_) fun out ho he => ?_
  · have := (o1 d hd).2
    omega
  · obtain ⟨ys, ry, vy⟩ := each_back he
    obtain ⟨ep, at_⟩ := sortedAll_at s.heap its out.toArray
    have hl : ys.length = ds.length := by rw [ry.length]; exact List.length_mergeSort ..
    refine ⟨.ref _, upd H (s.heap.objs.size + 1) (.lst ys), I.laid (t' := s.toks) (fun _ _ => sortedAll_old) (Nat.le_succ _) ⟨by rw [hl]; exact le_line z, out, ep, vy, at_⟩, rfl, ?_⟩
    exact po.fin hr ry (by show (ds.mergeSort _).length ≤ _; rw [List.length_mergeSort]; exact z) _ (I.hok.fresh (Nat.le_succ _))
/-- sorted(..) of what can be gathered -/
theorem call_sortedC {pins : List (Addr × Obj)} {s : Shared} {σ : L2.St} {H : Hp} {Q : VK} {ι : List Addr} {F : Hp} {W : Hp} {S : Store} {v : Value} {zs : List V} {ds : List D} {m : Bool} (hK : X.K = G.K) (hu : X.A.units + 65 < cLine) (I : Inv X pins σ H s) (hr : HR G ι F W S H)
    (hcol : ∀ (R : List Value → Shared → Prop) (E' : Value → Shared → Prop), (∀ h' tk acc, (∀ b o, s.heap.get? b = some o → h'.get? b = some o) → Vals zs acc → R acc { s with heap := h', toks := tk }) → wpAny (model X.prog X.w) X.A.in1 (collect v) R E' s)
    (r : Reps G.K ι F zs ds) (z : ds.length ≤ big) (ok : srtOk ds = true) (po : Post G ι F W E (RV G Q) (fin m (srtD ds) S)) : wpAny (model X.prog X.w) X.A (call (.builtin "sorted") [v]) (EP X pins σ Q) X.xe s := by
  obtain ⟨o1, o2, o3⟩ := srtOk_is ok
  refine PySem.Calls.call_function_entry PyProof.Rows.kind_sorted PyProof.Rows.plain_sorted PyProof.Rows.entry_sorted (PyProof.Rows.args_sorted1 _) ?_
  unfold Builtin.«sorted»
  refine wpAny_bind (m := checkCount "sorted" 1 1 _) (wpAny_pure ?_)
  refine wpAny_bind (hcol _ _ fun h' tk acc hk rv => ?_)
  have I1 : Inv X pins σ H { s with heap := h', toks := tk } := I.kept hk
  have hz : ds.length = acc.length := by rw [← r.length, rv.length]
  refine wpAny_bind (wpAny_newList ?_ (by rw [← hz]; exact le_line z))
  have hoL : (h'.push (seqObj "list" acc.toArray 0)).get? h'.objs.size = some (seqObj "list" acc.toArray 0) := Heap.get?_push_size _ rfl
  show wpAny _ _ _ _ _ { s with heap := h'.push (seqObj "list" acc.toArray 0), toks := tk }
  have ev := each_of r rv
  have old : ∀ b o, h'.get? b = some o → (PySem.W.sortingHeap (h'.push (seqObj "list" acc.toArray 0)) h'.objs.size acc).get? b = some o := fun b o q => by
    rw [PySem.W.sortingHeap_old (Nat.ne_of_lt (Heap.lt_size q)) (Heap.get?_push_of_some _ q)]
  have er : PySem.W.EachIs (fun v d => ∃ as, Reads (PySem.W.sortingHeap (h'.push (seqObj "list" acc.toArray 0)) h'.objs.size acc) v (py0 d) as) acc ds := by
    refine (PySem.W.each_mem ev).mono fun u d ⟨⟨x, r1, r2⟩, hd⟩ => ?_
    obtain ⟨as, q⟩ := Dp.reads I1 _ x u (hK ▸ r1.dp hr.sub (o1 d hd).1) r2
    exact ⟨as, PyProof.Rows.Reads.keeps (fun b o => old b o) q⟩
  refine wpAny_bind (wpAny_holding (wpAny_call_entry PyProof.Rows.slot_list_sort ⟨_, hoL, rfl⟩ PyProof.Rows.entry_list_sort
    (PySem.W.list_sort_vals (κ := PySem.W.dataKind (PySem.W.sortingHeap (h'.push (seqObj "list" acc.toArray 0)) h'.objs.size acc) (ds.map py0)) (s := { s with heap := h'.push (seqObj "list" acc.toArray 0), toks := tk }) hoL
      (PySem.W.SortsAt.data (s := { s with heap := PySem.W.sortingHeap (h'.push (seqObj "list" acc.toArray 0)) h'.objs.size acc, toks := tk }) (PySem.W.each_map (R := fun v d => ∃ as, Reads (PySem.W.sortingHeap (h'.push (seqObj "list" acc.toArray 0)) h'.objs.size acc) v d as) py0 er) o2 o3 (PySem.W.bound_map fun d hd => ?_)) (by rw [← hz]; exact le_line z) ⟨_, rfl, ?_⟩) (PyProof.Rows.args_list_sort _)))
  · have := (o1 d hd).2
    simp only [Around.in1_units]
    omega
  have he := PySem.W.sortVals_data (enc := py0) false (R := fun u d => ∃ x, Rep G.K ι F x d ∧ RelV x u) ev er o2
  generalize hout : PySem.W.sortVals (PySem.W.dataKind (PySem.W.sortingHeap (h'.push (seqObj "list" acc.toArray 0)) h'.objs.size acc) (ds.map py0)) false acc acc = out at he ⊢
  obtain ⟨ys, ry, vy⟩ := each_back he
  obtain ⟨ep, at_⟩ := sortedHeap_at (vs := acc) (out := out.toArray) hoL
  have hl : ys.length = ds.length := by rw [ry.length]; exact List.length_mergeSort ..
  refine wpAny_pure ⟨_, rfl, .ref h'.objs.size, upd H h'.objs.size (.lst ys), I1.laid (t' := tk) (fun b u e => ?_) (Nat.le_refl _) ⟨by rw [hl]; exact le_line z, out, ep, vy, at_⟩, rfl, ?_⟩
  · rw [sortedHeap_old (Nat.ne_of_lt (Heap.lt_size e)) (by rw [Heap.size_push]; exact Nat.lt_succ_of_lt (Heap.lt_size e))]
    exact Heap.get?_push_of_some _ e
  · exact po.fin hr ry (by show (ds.mergeSort _).length ≤ _; rw [List.length_mergeSort]; exact z) _ (I1.hok.fresh (Nat.le_refl _))
theorem call_sortedT {pins : List (Addr × Obj)} {s : Shared} {σ : L2.St} {H : Hp} {Q : VK} {ι : List Addr} {F : Hp} {W : Hp} {S : Store} {b : Addr} {xs : List V} {ds : List D} {m : Bool} (hK : X.K = G.K) (hu : X.A.units + 65 < cLine) (I : Inv X pins σ H s) (hr : HR G ι F W S H) (hb : SqT X.K H b xs) (r : Reps G.K ι F xs ds) (z : ds.length ≤ big)
    (ok : srtOk ds = true) (po : Post G ι F W E (RV G Q) (fin m (srtD ds) S)) : wpAny (model X.prog X.w) X.A (call (.builtin "sorted") [.ref b]) (EP X pins σ Q) X.xe s := by
  obtain ⟨its, rv, ⟨o, h1, h2, n, h3⟩, hz⟩ := I.tuple hb
  exact call_sortedC hK hu I hr (fun R E' hR => wpAny_collect_seq b (.inr rfl) h1 h2 h3 (fun h' k => hR h' s.toks its k rv) (by rw [List.size_toArray, ← rv.length]; exact hz)) r z ok po
end
end CI

/-! Built-ins and methods on data. -/
namespace CI
open PySem PySem.Spec PyProof.Rows L2 HT

def rGs (G : Gx) (E : XS) (g : List D → M D) : List V → Hp → VK → Prop := fun xs H Q => ∃ ι F W S ds, HR G ι F W S H ∧ Reps G.K ι F xs ds ∧ Post G ι F W E (RV G Q) (g ds S)

theorem Reps.one {K : PySem.W.Frag} {ι : List Addr} {F : Hp} {xs : List V} {d : D} (r : Reps K ι F xs [d]) : ∃ x, xs = [x] ∧ Rep K ι F x d := by
  cases r with
  | cons h t => cases t; exact ⟨_, rfl, h⟩
theorem Reps.two {K : PySem.W.Frag} {ι : List Addr} {F : Hp} {xs : List V} {d e : D} (r : Reps K ι F xs [d, e]) : ∃ x y, xs = [x, y] ∧ Rep K ι F x d ∧ Rep K ι F y e := by
  cases r with
  | cons h t =>
    cases t with
    | cons h' t => cases t; exact ⟨_, _, rfl, h, h'⟩
theorem Reps.zero {K : PySem.W.Frag} {ι : List Addr} {F : Hp} {xs : List V} (r : Reps K ι F xs []) : xs = [] := by
  cases r; rfl

/-! ### lists of one kind -/
def boolsO : List D → Option (List Bool)
  | [] => some []
  | .bl b :: r => (boolsO r).map (b :: ·)
  | _ => none
def intsO : List D → Option (List Int)
  | [] => some []
  | .int i :: r => (intsO r).map (i :: ·)
  | _ => none
theorem boolsO_rep {K : PySem.W.Frag} {ι : List Addr} {F : Hp} : ∀ {vs : List V} {ds : List D} {bs : List Bool}, Reps K ι F vs ds → boolsO ds = some bs → vs = bs.map V.bl
  | _, _, _, .nil, h => by cases h; rfl
  | _, _, bs, .cons r t, h => by
    cases r with
    | bl b =>
      obtain ⟨cs, h1, rfl⟩ := Option.map_eq_some_iff.mp (show (boolsO _).map (b :: ·) = some bs from h)
      rw [List.map_cons, ← boolsO_rep t h1]
    | _ => cases h
theorem intsO_rep {K : PySem.W.Frag} {ι : List Addr} {F : Hp} : ∀ {vs : List V} {ds : List D} {bs : List Int}, Reps K ι F vs ds → intsO ds = some bs → vs = bs.map V.int
  | _, _, _, .nil, h => by cases h; rfl
  | _, _, bs, .cons r t, h => by
    cases r with
    | int b =>
      obtain ⟨cs, h1, rfl⟩ := Option.map_eq_some_iff.mp (show (intsO _).map (b :: ·) = some bs from h)
      rw [List.map_cons, ← intsO_rep t h1]
    | _ => cases h
theorem intsO_len : ∀ {ds : List D} {bs : List Int}, intsO ds = some bs → ds = bs.map D.int
  | [], _, h => by cases h; rfl
  | d :: ds, bs, h => by
    cases d with
    | int b =>
      obtain ⟨cs, h1, rfl⟩ := Option.map_eq_some_iff.mp (show (intsO ds).map (b :: ·) = some bs from h)
      rw [List.map_cons, ← intsO_len h1]
    | _ => cases h
theorem reps_ints {K : PySem.W.Frag} {ι : List Addr} {F : Hp} : ∀ ns : List Int, Reps K ι F (ns.map V.int) (ns.map D.int)
  | [] => .nil
  | n :: ns => .cons (.int n) (reps_ints ns)
/-- put in its place -/
def insI (x : Int) : List Int → List Int
  | [] => [x]
  | y :: r => if x ≤ y then x :: y :: r else y :: insI x r
def sortI : List Int → List Int
  | [] => []
  | x :: r => insI x (sortI r)
theorem insI_perm (x : Int) : ∀ l, (insI x l).Perm (x :: l)
  | [] => .refl _
  | y :: r => by
    unfold insI
    split
    · exact .refl _
    · exact ((insI_perm x r).cons y).trans (.swap x y r)
theorem sortI_perm : ∀ l, (sortI l).Perm l
  | [] => .refl _
  | x :: r => (insI_perm x _).trans ((sortI_perm r).cons x)
theorem insI_sorted (x : Int) : ∀ l, l.Pairwise (· ≤ ·) → (insI x l).Pairwise (· ≤ ·)
  | [], _ => by simp [insI]
  | y :: r, h => by
    unfold insI
    split
    · rename_i hxy
      refine List.pairwise_cons.mpr ⟨fun z hz => ?_, h⟩
      rcases List.mem_cons.mp hz with rfl | hz
      · exact hxy
      · exact Int.le_trans hxy ((List.pairwise_cons.mp h).1 z hz)
    · rename_i hxy
      refine List.pairwise_cons.mpr ⟨fun z hz => ?_, insI_sorted x r (List.pairwise_cons.mp h).2⟩
      rcases List.mem_cons.mp ((insI_perm x r).mem_iff.mp hz) with rfl | hz
      · omega
      · exact (List.pairwise_cons.mp h).1 z hz
theorem sortI_sorted : ∀ l, (sortI l).Pairwise (· ≤ ·)
  | [] => .nil
  | x :: r => insI_sorted x _ (sortI_sorted r)
theorem sortI_unique {ns ms : List Int} (h : ms.Perm ns) (s : ms.Pairwise (· ≤ ·)) : ms = sortI ns := PySem.W.ksm_same (h.trans (sortI_perm ns).symm) s (sortI_sorted ns)

/-! ### dicts of pairs -/
def putD (kds : List (Key × D)) (k : Key) (d : D) : List (Key × D) :=
  if (kds.any fun kv => decide (kv.1 = k)) = true then kds.map fun kv => if kv.1 = k then (kv.1, d) else kv else kds ++ [(k, d)]
def mergeD (kds more : List (Key × D)) : List (Key × D) := more.foldl (fun acc kv => putD acc kv.1 kv.2) kds
def pairsO : List D → Option (List (Key × D))
  | [] => some []
  | .tup [k, d] :: r => (keyO k).bind fun k => (pairsO r).map ((k, d) :: ·)
  | _ => none

section
variable {K : PySem.W.Frag} {ι : List Addr} {F : Hp}
theorem RepKs.any {k : Key} : ∀ {kvs : List (Key × V)} {kds : List (Key × D)}, RepKs K ι F kvs kds → (kvs.any fun kv => decide (kv.1 = k)) = kds.any fun kv => decide (kv.1 = k)
  | _, _, .nil => rfl
  | _, _, .cons _ t => by rw [List.any_cons, List.any_cons, RepKs.any t]
theorem RepKs.repl {k : Key} {v : V} {d : D} (r : Rep K ι F v d) : ∀ {kvs : List (Key × V)} {kds : List (Key × D)}, RepKs K ι F kvs kds →
    RepKs K ι F (kvs.map fun kv => if kv.1 = k then (kv.1, v) else kv) (kds.map fun kv => if kv.1 = k then (kv.1, d) else kv)
  | _, _, .nil => .nil
  | _, _, .cons (k := j) h t => by
    rw [List.map_cons, List.map_cons]
    by_cases e : j = k
    · simp only [e, if_true]; exact .cons r (RepKs.repl r t)
    · simp only [e, if_false]; exact .cons h (RepKs.repl r t)
theorem RepKs.append : ∀ {a b : List (Key × V)} {c d : List (Key × D)}, RepKs K ι F a c → RepKs K ι F b d → RepKs K ι F (a ++ b) (c ++ d)
  | _, _, _, _, .nil, s => s
  | _, _, _, _, .cons h t, s => .cons h (RepKs.append t s)
theorem RepKs.put {k : Key} {v : V} {d : D} (r : Rep K ι F v d) {kvs : List (Key × V)} {kds : List (Key × D)} (h : RepKs K ι F kvs kds) : RepKs K ι F (putK kvs k v) (putD kds k d) := by
  unfold putK putD
  rw [h.any]
  split
  · exact h.repl r
  · exact h.append (.cons r .nil)
theorem RepKs.merge : ∀ {more : List (Key × V)} {mo : List (Key × D)}, RepKs K ι F more mo → ∀ {kvs : List (Key × V)} {kds : List (Key × D)}, RepKs K ι F kvs kds → RepKs K ι F (mergeK kvs more) (mergeD kds mo)
  | _, _, .nil, _, _, s => s
  | _, _, .cons h t, _, _, s => RepKs.merge t (s.put h)
theorem putD_length (kds : List (Key × D)) (k : Key) (d : D) : (putD kds k d).length ≤ kds.length + 1 := by
  unfold putD
  split
  · rw [List.length_map]; omega
  · rw [List.length_append]; simp
theorem mergeD_length : ∀ (more kds : List (Key × D)), (mergeD kds more).length ≤ kds.length + more.length
  | [], _ => Nat.le_refl _
  | p :: more, kds => by
    have h1 := mergeD_length more (putD kds p.1 p.2)
    have h2 := putD_length kds p.1 p.2
    have e : mergeD kds (p :: more) = mergeD (putD kds p.1 p.2) more := rfl
    rw [e, List.length_cons]
    omega
/-- the pairs of a list, as they lie -/
theorem pairsO_rep : ∀ {vs : List V} {ds : List D} {kds : List (Key × D)}, Reps K ι F vs ds → pairsO ds = some kds →
    ∃ (ps : List Addr) (kvs : List (Key × V)), vs = ps.map V.ref ∧ RepKs K ι F kvs kds ∧ Paired (fun p kv => TupA K F p [kV kv.1, kv.2]) ps kvs
  | _, _, _, .nil, h => by cases h; exact ⟨[], [], rfl, .nil, .nil⟩
  | _, _, kds, .cons r t, h => by
    cases r with
    | @tup a xs ds h1 r1 z1 =>
      match ds, r1, z1, h with
      | [k, d], r1, _, h =>
        obtain ⟨x, y, rfl, rk, rd⟩ := r1.two
        obtain ⟨k', hk, h⟩ := Option.bind_eq_some_iff.mp (show (keyO k).bind (fun k => (pairsO _).map ((k, d) :: ·)) = some kds from h)
        obtain ⟨cs, h2, rfl⟩ := Option.map_eq_some_iff.mp h
        obtain ⟨ps, kvs, rfl, e2, e3⟩ := pairsO_rep t h2
        have := rk.key hk
        subst this
        exact ⟨a :: ps, (k', y) :: kvs, rfl, .cons rd e2, .cons h1 e3⟩
    | _ => cases h
end
theorem pairs_rel {X : Cx} {K : PySem.W.Frag} {F : Hp} (hK : X.K = K) {pins : List (Addr × Obj)} {σ : L2.St} {H : Hp} {s : Shared} (I : Inv X pins σ H s) (sb : ∀ a o, F a = some o → H a = some o) : ∀ {ps : List Addr} {kvs : List (Key × V)}, Paired (fun p kv => TupA K F p [kV kv.1, kv.2]) ps kvs →
    ∃ (prs : List (Key × Value)) (vps : List (Value × Value)), KV kvs prs ∧ prs.length = ps.length ∧ vps.length = ps.length ∧ (∀ (j : Nat) (k v : Value), vps[j]? = some (k, v) → ∃ b, ps[j]? = some b ∧ PairAt s.heap b k v) ∧
      (∀ (j : Nat) (k v : Value), vps[j]? = some (k, v) → ∃ q, prs[j]? = some (q, v) ∧ keyIs q k = true)
  | _, _, .nil => ⟨[], [], .nil, rfl, rfl, fun j k v e => by simp at e, fun j k v e => by simp at e⟩
  | _, _, .cons (a := p) (b := kv) h t => by
    obtain ⟨prs, vps, r, h1, h2, h3, h4⟩ := pairs_rel hK I sb t
    obtain ⟨its, rv, ht, _⟩ := I.tuple (xs := [kV kv.1, kv.2]) (a := p) (by rw [hK]; exact (h.mono sb).sq)
    obtain ⟨u, y, ei, ru, ry⟩ := vals2 rv
    subst ei
    refine ⟨(kv.1, y) :: prs, (u, y) :: vps, .cons ⟨rfl, ry⟩ r, by simp [h1], by simp [h2], fun j k v e => ?_, fun j k v e => ?_⟩
    · cases j with
      | zero => cases e; exact ⟨p, rfl, .inl ht⟩
      | succ j =>
        obtain ⟨b, e1, e2⟩ := h3 j k v (by simpa using e)
        exact ⟨b, by simpa using e1, e2⟩
    · cases j with
      | zero => cases e; exact ⟨kv.1, rfl, kV_is (P := X.prog) (w := X.w) ru⟩
      | succ j =>
        obtain ⟨q, e1, e2⟩ := h4 j k v (by simpa using e)
        exact ⟨q, by simpa using e1, e2⟩
theorem call_dict_D {X : Cx} {K : PySem.W.Frag} {F : Hp} (hK : X.K = K) (hc : X.calm = true) {pins : List (Addr × Obj)} {σ : L2.St} {H : Hp} {s : Shared} {Q : VK} (I : Inv X pins σ H s) (sb : ∀ a o, F a = some o → H a = some o) {a : Addr} {ps : List Addr} {kvs : List (Key × V)}
    (hp : Paired (fun p kv => TupA K F p [kV kv.1, kv.2]) ps kvs) (hs : SqL K H a (ps.map V.ref) ∨ TupA K H a (ps.map V.ref)) (hz : ps.length ≤ sizeLine)
    (q : ∀ p, H p = none → Q (.ref p) (upd H p (.dK (mergeK [] kvs)))) : wpAny (model X.prog X.w) X.A (call (.type "dict") [.ref a]) (EP X pins σ Q) X.xe s := by
  obtain ⟨prs, vps, rel, h1, h2, h3, h4⟩ := pairs_rel hK I sb hp
  have fin : ∀ h' tk, h'.DictOf (mixKind X.prog X.w) s.heap.objs.size (merged [] prs) → (∀ b o, b ∉ ([] : List Addr) → s.heap.get? b = some o → h'.get? b = some o) → EP X pins σ Q (.ref s.heap.objs.size) { s with heap := h', toks := tk } := fun h' tk hd' k => by
    have hm : (s.heap.objs.size == sysModules) = false := beq_eq_false_iff_ne.mpr (Nat.ne_of_gt I.big)
    have hlen : (mergeK [] kvs).length ≤ sizeLine := by
      refine Nat.le_trans (length_mergeK kvs []) ?_
      rw [List.length_nil, Nat.zero_add, rel.length, h1]
      exact hz
    exact ⟨.ref s.heap.objs.size, upd H s.heap.objs.size (.dK (mergeK [] kvs)), I.laid (t' := tk) (fun b o e => k b o (by simp) e) (Nat.le_refl _) (show ObjOk X.prog X.w _ _ _ (.dK (mergeK [] kvs)) from ⟨hlen, hm, merged [] prs, KV.merge rel .nil, hd'⟩), rfl, q _ (I.hok.fresh (Nat.le_refl _))⟩
  have have_ : PySem.PairsHave (mixKind X.prog X.w) vps.length (PySem.PairRel vps) prs := ⟨by rw [h1, h2], fun i key v e => by
    obtain ⟨q', e1, e2⟩ := h4 i key v e
    exact ⟨q', e1, e2⟩⟩
  have items : ∀ its : List Value, Vals (ps.map V.ref) its → PySem.PairItems s.heap its.toArray (fun j => ps.getD j 0) vps := fun its rv => by
    have ei := refs_at rv
    subst ei
    refine ⟨by simp [h2], fun j k v e => ?_⟩
    obtain ⟨b, e1, e2⟩ := h3 j k v e
    have e3 : ps.getD j 0 = b := by rw [List.getD_eq_getElem?_getD, e1]; rfl
    simp only [e3]
    exact ⟨by simp [e1], e2⟩
  rcases hs with hs | hs
  · obtain ⟨its, rv, pl, _⟩ := I.list (by rw [hK]; exact hs)
    obtain ⟨o, n, ho, hcl, hd, hdat⟩ := pl
    exact PySem.call_dict_pairs (knd := mixKind X.prog X.w) (kvs := prs) (PySem.PairArg.list a its.toArray (fun j => ps.getD j 0) vps) (I.ok.hd hc) ⟨⟨o, n, ho, hcl, hd, hdat⟩, items its rv⟩ have_ (by rw [h2]; exact hz) fin
  · have hs' : ∃ its : List Value, Vals (ps.map V.ref) its ∧ PySem.PlainSeq "tuple" s.heap a its.toArray := by
      rcases hs with ⟨o, e, hd⟩ | ⟨o, its, n, e1, e2, e3, e4, e5, e6⟩
      · obtain ⟨e1, z, its, r, o', e2, hc', n, hd'⟩ := I.hok a _ e
        rw [e1] at e2; cases e2
        exact ⟨its, r, o, n, e1, hc', hd, hd'⟩
      · exact ⟨its.toList, e6, o, n, (hK ▸ I.kIn) a o e1, e2, e3, by simpa using e4⟩
    obtain ⟨its, rv, pl⟩ := hs'
    exact PySem.call_dict_pairs (knd := mixKind X.prog X.w) (kvs := prs) (PySem.PairArg.tuple a its.toArray (fun j => ps.getD j 0) vps) (I.ok.hd hc) ⟨pl, items its rv⟩ have_ (by rw [h2]; exact hz) fin

/-! ### built-ins -/
inductive Bi where
  | len | list | tuple | all | any | dict | sorted | int | abs | min | max
def Bi.val : Bi → Value
  | .len => .builtin "len" | .list => .type "list" | .tuple => .type "tuple" | .all => .builtin "all" | .any => .builtin "any"
  | .dict => .type "dict" | .sorted => .builtin "sorted" | .int => .type "int" | .abs => .builtin "abs" | .min => .builtin "min" | .max => .builtin "max"
def Bi.name : Bi → Str
  | .len => "len" | .list => "list" | .tuple => "tuple" | .all => "all" | .any => "any"
  | .dict => "dict" | .sorted => "sorted" | .int => "int" | .abs => "abs" | .min => "min" | .max => "max"
theorem Bi.boot : ∀ b : Bi, bootBuiltins b.name = some b.val
  | .len => by decide +kernel
  | .list => by decide +kernel
  | .tuple => by decide +kernel
  | .all => by decide +kernel
  | .any => by decide +kernel
  | .dict => by decide +kernel
  | .sorted => by decide +kernel
  | .int => by decide +kernel
  | .abs => by decide +kernel
  | .min => by decide +kernel
  | .max => by decide +kernel
def kIntsO : List (Key × D) → Option (List Int)
  | [] => some []
  | (.inl i, _) :: r => (kIntsO r).map (i :: ·)
  | _ => none
theorem kIntsO_rep {K : PySem.W.Frag} {ι : List Addr} {F : Hp} : ∀ {kvs : List (Key × V)} {kds : List (Key × D)} {ks : List Int}, RepKs K ι F kvs kds → kIntsO kds = some ks → kvs.map (·.1) = ks.map Sum.inl
  | _, _, _, .nil, h => by cases h; rfl
  | _, _, ks, .cons (k := k) r t, h => by
    cases k with
    | inl i =>
      obtain ⟨cs, h1, rfl⟩ := Option.map_eq_some_iff.mp (show (kIntsO _).map (i :: ·) = some ks from h)
      rw [List.map_cons, List.map_cons, kIntsO_rep t h1]
    | inr _ => cases h
theorem dcnS_O {S : Store} {d : D} {kds : List (D × D)} (h : dcnS S d = some kds) : dcnO S d = some kds := by
  cases d with
  | adr n =>
    unfold dcnS at h
    unfold dcnO
    simp only at h ⊢
    cases q : S[n]? with
    | none => rw [q] at h; cases h
    | some ob =>
      rw [q] at h
      cases ob with
      | dcn _ => exact h
      | _ => cases h
  | _ => cases h
theorem sorted_N {X : Cx} {G : Gx} {E : XS} {pins : List (Addr × Obj)} {σ : L2.St} {H F W : Hp} {s : Shared} {ι : List Addr} {S : Store} (hK : X.K = G.K) (hw : X.w = G.w) (hc : X.calm = true) (hu : X.A.units + 65 < cLine) {x : V} {u : Value} {Q : VK} {d : D} {kds : List (D × D)} {m : Bool} (I : Inv X pins σ H s) (rx : RelV x u) (hr : HR G ι F W S H) (r1 : Rep G.K ι F x d) (he : dcnO S d = some kds)
    (ok : srtOk (kds.map (·.1)) = true) (po : Post G ι F W E (RV G Q) (fin m (srtD (kds.map (·.1))) S)) : wpAny (model X.prog X.w) X.A (call (.builtin "sorted") [u]) (EP X pins σ Q) X.xe s := by
  obtain ⟨a, n, xs, rfl, rfl, hn, dd, rn, hs, z, _⟩ := dcn_is hK hw I hr r1 he
  cases (show u = Value.ref a from rx)
  obtain ⟨o, es, ep, g1, g2, g3, g4, g5⟩ := dd
  have hes : es.size = xs.length := by rw [← Array.length_toList, g4, List.length_map]
  refine call_sortedC hK hu I hr (fun R E' hR => ?_) rn.keys (by rw [List.length_map]; exact z) ok po
  exact PySem.W.kdu_collect (A := X.A.in1) (PySem.KdlSrc.rawDict (es := es) (ep := ep) hs) (I.ok.hd hc) ⟨o, g1, g2, g3⟩ (by rw [hes, rn.length]; exact le_line z) fun h' tk acc hk ha => hR h' tk _ hk (raw_vals g4 ha)
def lenO (S : Store) (d : D) : Option Nat := match d with
  | .str z => if z.length ≤ big then some z.length else none
  | d => match dctO S d with
    | some kds => some kds.length
    | none => match seqO S d with
      | some ds => some ds.length
      | none => (dcnS S d).map (·.length)
def maxI : Int → List Int → Int
  | x, [] => x
  | x, y :: r => maxI (if y > x then y else x) r
def minI : Int → List Int → Int
  | x, [] => x
  | x, y :: r => minI (if y < x then y else x) r
theorem maxI_is : ∀ (r : List Int) (x : Int), maxI x r ∈ x :: r ∧ ∀ y ∈ x :: r, y ≤ maxI x r
  | [], x => ⟨List.mem_singleton.mpr rfl, fun y hy => by rw [List.mem_singleton.mp hy]; exact Int.le_refl _⟩
  | z :: r, x => by
    obtain ⟨h1, h2⟩ := maxI_is r (if z > x then z else x)
    have h3 := h2 _ (List.mem_cons_self ..)
    refine ⟨?_, fun y hy => ?_⟩
    · show maxI (if z > x then z else x) r ∈ _
      rcases List.mem_cons.mp h1 with e | h
      · rw [e]; split
        · exact List.mem_cons_of_mem _ (List.mem_cons_self ..)
        · exact List.mem_cons_self ..
      · exact List.mem_cons_of_mem _ (List.mem_cons_of_mem _ h)
    · show y ≤ maxI (if z > x then z else x) r
      rcases List.mem_cons.mp hy with rfl | hy
      · refine Int.le_trans ?_ h3; split <;> omega
      · rcases List.mem_cons.mp hy with rfl | hy
        · refine Int.le_trans ?_ h3; split <;> omega
        · exact h2 y (List.mem_cons_of_mem _ hy)
theorem minI_is : ∀ (r : List Int) (x : Int), minI x r ∈ x :: r ∧ ∀ y ∈ x :: r, minI x r ≤ y
  | [], x => ⟨List.mem_singleton.mpr rfl, fun y hy => by rw [List.mem_singleton.mp hy]; exact Int.le_refl _⟩
  | z :: r, x => by
    obtain ⟨h1, h2⟩ := minI_is r (if z < x then z else x)
    have h3 := h2 _ (List.mem_cons_self ..)
    refine ⟨?_, fun y hy => ?_⟩
    · show minI (if z < x then z else x) r ∈ _
      rcases List.mem_cons.mp h1 with e | h
      · rw [e]; split
        · exact List.mem_cons_of_mem _ (List.mem_cons_self ..)
        · exact List.mem_cons_self ..
      · exact List.mem_cons_of_mem _ (List.mem_cons_of_mem _ h)
    · show minI (if z < x then z else x) r ≤ y
      rcases List.mem_cons.mp hy with rfl | hy
      · refine Int.le_trans h3 ?_; split <;> omega
      · rcases List.mem_cons.mp hy with rfl | hy
        · refine Int.le_trans h3 ?_; split <;> omega
        · exact h2 y (List.mem_cons_of_mem _ hy)
def biD (m : Bool) (b : Bi) (args : List D) : M D := fun S => match b, args with
  | .len, [d] => (match lenO S d with | some n => .ok (.int n) S | none => .bad)
  | .list, [d] => (match seqO S d with
    | some ds => fin m ds S
    | none => match dcnS S d with | some kds => fin m (kds.map (·.1)) S | none => .bad)
  | .tuple, [d] => (match tupO d with
    | some ds => .ok (.tup ds) S
    | none => match lstO S d with | some ds => .ok (.tup ds) S | none => .bad)
  | .all, [d] => (match (lstO S d).bind boolsO with | some bs => .ok (.bl (bs.all id)) S | none => .bad)
  | .any, [d] => (match (lstO S d).bind boolsO with | some bs => .ok (.bl (bs.any id)) S | none => .bad)
  | .dict, [d] => (match (seqO S d).bind pairsO with | some kds => finD m (mergeD [] kds) S | none => .bad)
  | .sorted, [d] => (match (lstO S d).bind intsO with
    | some ns => fin m ((sortI ns).map D.int) S
    | none => match lstO S d with
      | some ds => if srtOk ds = true then fin m (srtD ds) S else .bad
      | none => match (dctO S d).bind kIntsO with
        | some ks => if ks.length < 64 then fin m ((sortI ks).map D.int) S else .bad
        | none => match tupO d with
          | some ds => if srtOk ds = true then fin m (srtD ds) S else .bad
          | none => match dcnS S d with
            | some kds => if srtOk (kds.map (·.1)) = true then fin m (srtD (kds.map (·.1))) S else .bad
            | none => .bad)
  | .int, [.int i] => .ok (.int i) S
  | .int, [.bl k] => .ok (.int (if k then 1 else 0)) S
  | .abs, [.int i] => .ok (.int (if i < 0 then -i else i)) S
  | .min, [.int i, .int j] => .ok (.int (if j < i then j else i)) S
  | .max, [.int i, .int j] => .ok (.int (if j > i then j else i)) S
  | .min, [d] => (match (lstO S d).bind intsO with
      | some (x :: r) => .ok (.int (minI x r)) S
      | _ => .bad)
  | .max, [d] => (match (lstO S d).bind intsO with
      | some (x :: r) => .ok (.int (maxI x r)) S
      | _ => .bad)
  | _, _ => .bad
theorem pairsO_len : ∀ {ds : List D} {kds : List (Key × D)}, pairsO ds = some kds → kds.length = ds.length
  | [], _, h => by cases h; rfl
  | .tup [k, d] :: r, kds, h => by
    obtain ⟨k', hk, h⟩ := Option.bind_eq_some_iff.mp (show (keyO k).bind (fun k => (pairsO r).map ((k, d) :: ·)) = some kds from h)
    obtain ⟨cs, h2, rfl⟩ := Option.map_eq_some_iff.mp h
    simp [pairsO_len h2]
section
variable {X : Cx} {G : Gx} {E : XS}
theorem bi_one {m : Bool} {b : Bi} {args : List D} {S : Store} (h : biD m b args S ≠ .bad) (n2 : b ≠ .min) (n3 : b ≠ .max) : ∃ d, args = [d] := by
  match args with
  | [] => cases b <;> exact absurd rfl h
  | [d] => exact ⟨d, rfl⟩
  | d :: e :: r => cases b <;> first | exact absurd rfl n2 | exact absurd rfl n3 | exact absurd rfl h | (cases d <;> exact absurd rfl h)
theorem Post.ne_bad {ι : List Addr} {F : Hp} {W : Hp} {α : Type} {R : RT α} {r : Res α} (h : Post G ι F W E R r) : r ≠ .bad := fun e => by
  subst e
  exact h.elim
/-- those that need a calm context -/
def Bi.calm : Bi → Bool
  | .len => false | .int => false | .abs => false | _ => true
theorem bi_D (hK : X.K = G.K) (hw0 : X.w = G.w) (hu : X.A.units + 65 < cLine) (m : Bool) (b : Bi) (hc : b.calm = true → X.calm = true) : CallR X b.val (rGs G E (biD m b)) := by
  intro pins s σ H xs us Q I rs ⟨ι, F, W, S, ds, hr, r, po⟩
  cases b with
  | len =>
    obtain ⟨d, rfl⟩ := bi_one po.ne_bad (by simp) (by simp)
    obtain ⟨x, rfl, r1⟩ := r.one
    unfold biD at po
    simp only at po
    cases hl : lenO S d with
    | none => rw [hl] at po; exact po.elim
    | some n =>
      rw [hl] at po
      have q := po.now hr _ (.int n)
      have gen : (match dctO S d with | some kds => some kds.length | none => match seqO S d with | some ds => some ds.length | none => (dcnS S d).map (·.length)) = some n → wpAny (model X.prog X.w) X.A (call (.builtin "len") us) (EP X pins σ Q) X.xe s := fun hl => by
        cases hd : dctO S d with
        | some kds =>
          rw [hd] at hl
          cases hl
          obtain ⟨a, kvs, rfl, ha, rk, _⟩ := Rep.dctO hr r1 hd
          exact call_lenD pins s σ H _ us Q I rs ⟨a, kvs, rfl, ha, by rw [rk.length]; exact q⟩
        | none =>
          rw [hd] at hl
          simp only at hl
          cases hs : seqO S d with
          | none =>
            rw [hs] at hl
            obtain ⟨kds, h1, rfl⟩ := Option.map_eq_some_iff.mp hl
            obtain ⟨u, rfl, ru⟩ := vals1 rs
            exact len_N hK hw0 I ru hr r1 (dcnS_O h1) q
          | some es =>
          rw [hs] at hl
          cases hl
          obtain ⟨a, xs, rfl, ha, rx, _⟩ := Rep.seqO hr r1 hs
          exact call_len pins s σ H _ us Q I rs ⟨.ref a, es.length, rfl, ha.elim (fun z => .inl ⟨xs, hK ▸ z, rx.length.symm⟩) (fun z => .inr ⟨xs, hK ▸ z, rx.length.symm⟩), q⟩
      cases r1 with
      | str z =>
        unfold lenO at hl
        simp only at hl
        by_cases hz : z.length ≤ big
        · rw [if_pos hz] at hl
          cases hl
          exact call_len_str pins s σ H _ us Q I rs ⟨z, rfl, le_line hz, q⟩
        · rw [if_neg hz] at hl; cases hl
      | _ => exact gen hl
  | list =>
    obtain ⟨d, rfl⟩ := bi_one po.ne_bad (by simp) (by simp)
    obtain ⟨x, rfl, r1⟩ := r.one
    unfold biD at po
    simp only at po
    cases hs : seqO S d with
    | none =>
      rw [hs] at po
      simp only at po
      cases h1 : dcnS S d with
      | none => rw [h1] at po; exact po.elim
      | some kds =>
        rw [h1] at po
        simp only at po
        obtain ⟨u, rfl, ru⟩ := vals1 rs
        have hz : kds.length ≤ big := by
          obtain ⟨_, _, _, _, _, _, _, _, _, z, _⟩ := dcn_is hK hw0 I hr r1 (dcnS_O h1)
          exact z
        exact list_N hK hw0 (hc rfl) I ru hr r1 (dcnS_O h1) fun zs rz => po.fin hr rz (by rw [List.length_map]; exact hz)
    | some es =>
      rw [hs] at po
      obtain ⟨a, xs, rfl, ha, rx, z⟩ := Rep.seqO hr r1 hs
      exact call_list_of pins s σ H _ us Q I rs ⟨a, xs, rfl, hK ▸ ha, po.fin hr rx z⟩
  | tuple =>
    obtain ⟨d, rfl⟩ := bi_one po.ne_bad (by simp) (by simp)
    obtain ⟨x, rfl, r1⟩ := r.one
    unfold biD at po
    simp only at po
    cases ht : tupO d with
    | some es =>
      rw [ht] at po
      obtain ⟨a, xs, rfl, ha, rx, z, rfl⟩ := Rep.tupO hr r1 ht
      exact call_tupleF pins s σ H _ us Q I rs ⟨a, xs, rfl, .inr ⟨hK ▸ ha.sq, po.now hr _ r1⟩⟩
    | none =>
      rw [ht] at po
      simp only at po
      cases hs : lstO S d with
      | none => rw [hs] at po; exact po.elim
      | some es =>
        rw [hs] at po
        obtain ⟨a, xs, rfl, ha, rx, z⟩ := Rep.lstO hr r1 hs
        exact call_tupleF pins s σ H _ us Q I rs ⟨a, xs, rfl, .inl ⟨hK ▸ ha, Post.tup hr rx z po⟩⟩
  | all =>
    obtain ⟨d, rfl⟩ := bi_one po.ne_bad (by simp) (by simp)
    obtain ⟨x, rfl, r1⟩ := r.one
    unfold biD at po
    simp only at po
    cases hs : (lstO S d).bind boolsO with
    | none => rw [hs] at po; exact po.elim
    | some bs =>
      rw [hs] at po
      obtain ⟨es, h1, h2⟩ := Option.bind_eq_some_iff.mp hs
      obtain ⟨a, xs, rfl, ha, rx, z⟩ := Rep.lstO hr r1 h1
      have := boolsO_rep rx h2
      subst this
      exact cr_all (hc rfl) pins s σ H _ us Q I rs ⟨a, bs, rfl, hK ▸ ha, po.now hr _ (.bl _)⟩
  | any =>
    obtain ⟨d, rfl⟩ := bi_one po.ne_bad (by simp) (by simp)
    obtain ⟨x, rfl, r1⟩ := r.one
    unfold biD at po
    simp only at po
    cases hs : (lstO S d).bind boolsO with
    | none => rw [hs] at po; exact po.elim
    | some bs =>
      rw [hs] at po
      obtain ⟨es, h1, h2⟩ := Option.bind_eq_some_iff.mp hs
      obtain ⟨a, xs, rfl, ha, rx, z⟩ := Rep.lstO hr r1 h1
      have := boolsO_rep rx h2
      subst this
      exact cr_any (hc rfl) pins s σ H _ us Q I rs ⟨a, bs, rfl, hK ▸ ha, po.now hr _ (.bl _)⟩
  | dict =>
    obtain ⟨d, rfl⟩ := bi_one po.ne_bad (by simp) (by simp)
    obtain ⟨x, rfl, r1⟩ := r.one
    unfold biD at po
    simp only at po
    cases hs : (seqO S d).bind pairsO with
    | none => rw [hs] at po; exact po.elim
    | some kds =>
      rw [hs] at po
      obtain ⟨es, h1, h2⟩ := Option.bind_eq_some_iff.mp hs
      have hz : es.length ≤ big ∧ ∃ a xs, x = .ref a ∧ (SqL G.K H a xs ∨ TupA G.K H a xs) ∧ Reps G.K ι F xs es := by
        cases r1 with
        | tup h rr z => cases h1; exact ⟨z, _, _, rfl, .inr (h.mono hr.sub), rr⟩
        | lst h rr z => cases h1; exact ⟨z, _, _, rfl, .inl (.of (hr.sub _ _ h)), rr⟩
        | ro h rr z => cases h1; exact ⟨z, _, _, rfl, .inl (SqL.mono hr.sub h), rr⟩
        | adr h =>
          obtain ⟨a, xs, e, h2, h3, h4⟩ := Rep.lstO hr (.adr h) h1
          exact ⟨h4, a, xs, e, .inl h2, h3⟩
        | _ => cases h1
      obtain ⟨hz, a, xs, rfl, ha, rx⟩ := hz
      obtain ⟨ps, kvs, rfl, rk, pk⟩ := pairsO_rep rx h2
      obtain ⟨u, rfl, ru⟩ := vals1 rs
      cases (show u = Value.ref a from ru)
      have hl := pairsO_len h2
      have hps : ps.length = es.length := by
        have := rx.length
        rw [List.length_map] at this
        exact this
      exact call_dict_D hK (hc rfl) I hr.sub pk ha (by rw [hps]; exact le_line hz) (po.finD hr (rk.merge .nil) (Nat.le_trans (mergeD_length _ _) (by simp [hl]; exact hz)))
  | sorted =>
    obtain ⟨d, rfl⟩ := bi_one po.ne_bad (by simp) (by simp)
    obtain ⟨x, rfl, r1⟩ := r.one
    unfold biD at po
    simp only at po
    cases hs : (lstO S d).bind intsO with
    | none =>
      rw [hs] at po
      simp only at po
      cases h1 : lstO S d with
      | none =>
        rw [h1] at po
        simp only at po
        cases h2 : (dctO S d).bind kIntsO with
        | none =>
          rw [h2] at po
          simp only at po
          cases h3 : tupO d with
          | some ds =>
            rw [h3] at po
            simp only at po
            by_cases ok : srtOk ds = true
            · rw [if_pos ok] at po
              obtain ⟨a, xs, rfl, ha, rx, z, _⟩ := Rep.tupO hr r1 h3
              obtain ⟨u, rfl, ru⟩ := vals1 rs
              cases (show u = Value.ref a from ru)
              exact call_sortedT hK hu I hr (hK ▸ ha.sq) rx z ok po
            · rw [if_neg ok] at po; exact po.elim
          | none =>
            rw [h3] at po
            simp only at po
            cases h4 : dcnS S d with
            | none => rw [h4] at po; exact po.elim
            | some kds =>
              rw [h4] at po
              simp only at po
              by_cases ok : srtOk (kds.map (·.1)) = true
              · rw [if_pos ok] at po
                obtain ⟨u, rfl, ru⟩ := vals1 rs
                exact sorted_N hK hw0 (hc rfl) hu I ru hr r1 (dcnS_O h4) ok po
              · rw [if_neg ok] at po; exact po.elim
        | some ks =>
          rw [h2] at po
          simp only at po
          by_cases c : ks.length < 64
          · rw [if_pos c] at po
            obtain ⟨kds, h3, h4⟩ := Option.bind_eq_some_iff.mp h2
            obtain ⟨a, kvs, rfl, ha, rk, _⟩ := Rep.dctO hr r1 h3
            refine L2.call_sortedDI (hc rfl) pins s σ H _ us Q I rs ⟨a, kvs, ks, rfl, .inl ha, kIntsO_rep rk h4, c, fun ys p hp hso hn => ?_⟩
            rw [sortI_unique hp hso]
            refine po.fin hr (reps_ints _) ?_ p hn
            rw [List.length_map, (sortI_perm ks).length_eq]
            have : big = 1000000 := rfl
            omega
          · rw [if_neg c] at po; exact po.elim
      | some es =>
        rw [h1] at po
        simp only at po
        by_cases ok : srtOk es = true
        · rw [if_pos ok] at po
          obtain ⟨a, xs, rfl, ha, rx, z⟩ := Rep.lstO hr r1 h1
          obtain ⟨u, rfl, ru⟩ := vals1 rs
          cases (show u = Value.ref a from ru)
          exact call_sortedD hK hu I hr (hK ▸ ha) rx z ok po
        · rw [if_neg ok] at po; exact po.elim
    | some ns =>
      rw [hs] at po
      obtain ⟨es, h1, h2⟩ := Option.bind_eq_some_iff.mp hs
      obtain ⟨a, xs, rfl, ha, rx, z⟩ := Rep.lstO hr r1 h1
      have := intsO_rep rx h2
      subst this
      have hl : (sortI ns).length ≤ big := by
        rw [(sortI_perm ns).length_eq]
        have := rx.length
        rw [List.length_map] at this
        omega
      refine cr_sortedI pins s σ H _ us Q I rs ⟨a, ns, rfl, hK ▸ ha, fun ns' p hp hso hn => ?_⟩
      rw [sortI_unique hp hso]
      exact po.fin hr (reps_ints _) (by rw [List.length_map]; exact hl) p hn
  | int =>
    obtain ⟨d, rfl⟩ := bi_one po.ne_bad (by simp) (by simp)
    obtain ⟨x, rfl, r1⟩ := r.one
    cases r1 with
    | int i => exact call_int1 pins s σ H _ us Q I rs (.inl ⟨i, rfl, po.now hr _ (.int _)⟩)
    | bl k => exact call_int1 pins s σ H _ us Q I rs (.inr ⟨k, rfl, po.now hr _ (.int _)⟩)
    | _ => exact po.elim
  | abs =>
    obtain ⟨d, rfl⟩ := bi_one po.ne_bad (by simp) (by simp)
    obtain ⟨x, rfl, r1⟩ := r.one
    cases r1 with
    | int i => exact call_abs pins s σ H _ us Q I rs ⟨i, rfl, po.now hr _ (.int _)⟩
    | _ => exact po.elim
  | min =>
    match ds, r, po with
    | [.int i, .int j], r, po =>
      obtain ⟨x, y, rfl, r1, r2⟩ := r.two
      cases r1
      cases r2
      exact call_min2 (hc rfl) pins s σ H _ us Q I rs ⟨i, j, rfl, po.now hr _ (.int _)⟩
    | [d], r, po =>
      obtain ⟨x, rfl, r1⟩ := r.one
      unfold biD at po
      simp only at po
      cases hs : (lstO S d).bind intsO with
      | none => rw [hs] at po; exact po.elim
      | some ns =>
        rw [hs] at po
        cases ns with
        | nil => exact po.elim
        | cons n ns =>
          obtain ⟨es, h1, h2⟩ := Option.bind_eq_some_iff.mp hs
          obtain ⟨a, xs, rfl, ha, rx, z⟩ := Rep.lstO hr r1 h1
          have := intsO_rep rx h2
          subst this
          refine cr_min (hc rfl) pins s σ H _ us Q I rs ⟨a, _, rfl, hK ▸ ha, by simp, fun m hm hy => ?_⟩
          obtain ⟨q1, q2⟩ := minI_is ns n
          rw [Int.le_antisymm (hy _ q1) (q2 m hm)]
          exact po.now hr _ (.int _)
  | max =>
    match ds, r, po with
    | [.int i, .int j], r, po =>
      obtain ⟨x, y, rfl, r1, r2⟩ := r.two
      cases r1
      cases r2
      exact call_max2 (hc rfl) pins s σ H _ us Q I rs ⟨i, j, rfl, po.now hr _ (.int _)⟩
    | [d], r, po =>
      obtain ⟨x, rfl, r1⟩ := r.one
      unfold biD at po
      simp only at po
      cases hs : (lstO S d).bind intsO with
      | none => rw [hs] at po; exact po.elim
      | some ns =>
        rw [hs] at po
        cases ns with
        | nil => exact po.elim
        | cons n ns =>
          obtain ⟨es, h1, h2⟩ := Option.bind_eq_some_iff.mp hs
          obtain ⟨a, xs, rfl, ha, rx, z⟩ := Rep.lstO hr r1 h1
          have := intsO_rep rx h2
          subst this
          refine cr_max (hc rfl) pins s σ H _ us Q I rs ⟨a, _, rfl, hK ▸ ha, by simp, fun m hm hy => ?_⟩
          obtain ⟨q1, q2⟩ := maxI_is ns n
          rw [Int.le_antisymm (q2 m hm) (hy _ q1)]
          exact po.now hr _ (.int _)
end
end CI

/-! Expressions, by plain functions of the environment. -/
namespace CI
open PySem PySem.Spec PyProof.Rows L2 HT

section
variable {X : Cx} {G : Gx} {E : XS}
theorem bnd_assoc {α β γ : Type} (m : M α) (f : α → M β) (g : β → M γ) : bnd (bnd m f) g = bnd m fun a => bnd (f a) g := by
  funext S
  unfold CI.bnd
  cases m S <;> rfl
theorem ret_bnd {α β : Type} (a : α) (f : α → M β) : bnd (ret a) f = f a := rfl
theorem fail_bnd {α β : Type} (f : α → M β) : bnd fail f = fail := rfl
/-- what a context must bear -/
structure Fit0 (X : Cx) (G : Gx) (E : XS) : Prop where
  hK : X.K = G.K
  mg : X.mg = G.mg
  nd : X.N.Nodup
  room : X.A.units + 65 < cLine
  w : X.w = G.w
structure Fit (X : Cx) (G : Gx) (E : XS) : Prop extends Fit0 X G E where
  calm : X.calm = true
  xv : G.xv = none
instance {X : Cx} {G : Gx} {E : XS} : Coe (Fit X G E) (Fit0 X G E) := ⟨Fit.toFit0⟩

theorem Rep.top {K : PySem.W.Frag} {v : V} {d : D} (r : Rep K [] (fun _ => none) v d) (ι : List Addr) (F : Hp) : Rep K ι F v d :=
  r.mono ⟨⟨ι, rfl⟩, fun _ _ e => by cases e⟩

def asB (d : D) : M Bool := match d with
  | .bl b => ret b
  | _ => fail

/-! ### names and constants -/
def varM (i : Nat) : DEnv → M D := fun ρ => look fun _ => (ρ[i]?).join
theorem eI_var {i : Nat} {x : Str} {pos : Pos} (hN : X.N[i]? = some x) (hv : Vis X.env.scope x) (hd : (x == ("__debug__" : Str)) = false) (hcd : (x == ("__classdict__" : Str)) = false) : PE X (.Name x pos) (tI G E (varM i)) :=
  PE.imp (pe_var hN hv hd hcd) fun σ H Q ⟨ρ, S, ι, F, W, he, hr, po⟩ => by
    obtain ⟨d, e, q⟩ := Post.look hr po
    cases q1 : ρ[i]? with
    | none => rw [q1] at e; cases e
    | some o =>
      rw [q1] at e
      have e : o = some d := e
      subst e
      obtain ⟨v, e2, r⟩ := he.at_ i d q1
      exact ⟨v, e2, q _ r⟩
def constM (d : D) : DEnv → M D := fun _ => ret d
theorem eI_int {i j pos} : PE X (.Constant (.int i) j pos) (tI G E (constM (.int i))) := PE.imp pe_int fun σ H Q ⟨ρ, S, ι, F, W, he, hr, po⟩ => po.now hr _ (.int _)
theorem eI_bl {i j pos} : PE X (.Constant (.bool i) j pos) (tI G E (constM (.bl i))) := PE.imp pe_bl fun σ H Q ⟨ρ, S, ι, F, W, he, hr, po⟩ => po.now hr _ (.bl _)
theorem eI_non {j pos} : PE X (.Constant .none j pos) (tI G E (constM .non)) := PE.imp pe_non fun σ H Q ⟨ρ, S, ι, F, W, he, hr, po⟩ => po.now hr _ .non
theorem eI_str {i j pos} : PE X (.Constant (.str i) j pos) (tI G E (constM (.str i))) := PE.imp pe_str fun σ H Q ⟨ρ, S, ι, F, W, he, hr, po⟩ => po.now hr _ (.str _)
theorem eI_glob {x : Str} {v : V} {u : Value} {d : D} {pos : Pos} (hg : Gl X x) (hm : X.mg x = some u) (r : RelV v u) (rd : Rep G.K [] (fun _ => none) v d) (hd : (x == ("__debug__" : Str)) = false) : PE X (.Name x pos) (tI G E (constM d)) :=
  PE.imp (pe_glob hg hm r hd) fun σ H Q ⟨ρ, S, ι, F, W, he, hr, po⟩ => po.now hr _ (rd.top ι F)

/-! ### operators -/
variable {a b c : Expr} {fa fb fc : DEnv → M D} {pos : Pos}
theorem two {g : D → D → M D} {σ : L2.St} {H : Hp} {Q : VK} (h : tI G E (fun ρ => bnd (fa ρ) fun d => bnd (fb ρ) fun e => g d e) σ H Q) : tOp (rG G E g) (tI G E fa) (tI G E fb) σ H Q := by
  obtain ⟨ρ, S, ι, F, W, he, h0, po⟩ := h
  refine ⟨ρ, S, ι, F, W, he, h0, po.seq fun ι1 F1 S1 H1 d l1 h1 po => fun v1 r1 => ?_⟩
  refine ⟨ρ, S1, ι1, F1, W, he.mono l1, h1, po.seq fun ι2 F2 S2 H2 e l2 h2 po => fun v2 r2 => ?_⟩
  exact ⟨ι2, F2, W, S2, d, e, h2, r1.mono l2, r2, po⟩
theorem tI_B {f : DEnv → M D} {σ : L2.St} {H : Hp} {Q : Bool → Hp → Prop} (h : tIB G E (fun ρ => bnd (f ρ) asB) σ H Q) : tI G E f σ H fun x H1 => ∃ k, x = .bl k ∧ Q k H1 := by
  obtain ⟨ρ, S, ι, F, W, he, h0, po⟩ := h
  refine ⟨ρ, S, ι, F, W, he, h0, po.seq fun ι1 F1 S1 H1 d l1 h1 po => fun v1 r1 => ?_⟩
  cases r1 with
  | bl b => exact ⟨b, rfl, po.now h1⟩
  | _ => exact po.elim
/-- a test by its value -/
abbrev tsM (f : DEnv → M D) : DEnv → M Bool := fun ρ => bnd (f ρ) asB
theorem eI_bin (f : Fit0 X G E) (m : Bool) (op : Operator) (ha : PE X a (tI G E fa)) (hb : PE X b (tI G E fb)) : PE X (.BinOp a op b pos) (tI G E fun ρ => bnd (fa ρ) fun d => bnd (fb ρ) fun e => binD m op d e) :=
  PE.imp (pe_op (op_bin_D (E := E) f.hK m op) ha hb) fun σ H Q h => two h
theorem eI_cmp (f : Fit0 X G E) (op : CmpOp) (hm : behindInMarks op b = false) (ha : PE X a (tI G E fa)) (hb : PE X b (tI G E fb)) : PE X (.Compare a [op] [b] pos) (tI G E fun ρ => bnd (fa ρ) fun d => bnd (fb ρ) fun e => cmpD op d e) :=
  PE.imp (pe_cmpR (op_cmp_D (E := E) f.hK f.w f.room op) ha hb hm) fun σ H Q h => two h
theorem bI_cmp (f : Fit0 X G E) (op : CmpOp) (hm : behindInMarks op b = false) (ha : PE X a (tI G E fa)) (hb : PE X b (tI G E fb)) : PT X (.Compare a [op] [b] pos) (tIB G E (tsM fun ρ => bnd (fa ρ) fun d => bnd (fb ρ) fun e => cmpD op d e)) :=
  PT.imp (pt_cmpR (op_cmp_D (E := E) f.hK f.w f.room op) ha hb hm) fun σ H Q h => two (tI_B h)
theorem bI_val {e : Expr} {f : DEnv → M D} (h : PE X e (tI G E f)) (he : ∀ whole, isTrue e X.env whole = (do let v ← whole; standAt e.pos; holding [v] (truthy v))) : PT X e (tIB G E (tsM f)) :=
  PT.imp (pt_val h he) fun σ H Q h => tI_B h
/-- two comparisons -/
def chainM (o1 o2 : CmpOp) (d e : D) (mc : M D) : M D := bnd (cmpD o1 d e) fun k => bnd (asB k) fun k => if k = true then bnd mc fun w => cmpD o2 e w else ret (.bl false)
theorem three (o1 o2 : CmpOp) {σ : L2.St} {H : Hp} {Q : VK} (h : tI G E (fun ρ => bnd (fa ρ) fun d => bnd (fb ρ) fun e => chainM o1 o2 d e (fc ρ)) σ H Q) :
    tChain (rG G E (cmpD o1)) (rG G E (cmpD o2)) (tI G E fa) (tI G E fb) (tI G E fc) σ H Q := by
  obtain ⟨ρ, S, ι, F, W, he, h0, po⟩ := h
  refine ⟨ρ, S, ι, F, W, he, h0, po.seq fun ι1 F1 S1 H1 d l1 h1 po => fun v1 r1 => ?_⟩
  refine ⟨ρ, S1, ι1, F1, W, he.mono l1, h1, po.seq fun ι2 F2 S2 H2 e l2 h2 po => fun v2 r2 => ?_⟩
  refine ⟨ι2, F2, W, S2, d, e, h2, r1.mono l2, r2, po.seq fun ι3 F3 S3 H3 k l3 h3 po => fun v3 r3 => ?_⟩
  cases r3 with
  | bl k =>
    refine ⟨k, rfl, ?_⟩
    cases k with
    | false => exact po.now h3 _ (.bl _)
    | true =>
      refine ⟨ρ, S3, ι3, F3, W, (he.mono l1).mono (l2.trans l3), h3, Post.seq (m := fc ρ) po fun ι4 F4 S4 H4 w l4 h4 po => fun v4 r4 => ?_⟩
      exact ⟨ι4, F4, W, S4, e, w, h4, r2.mono (l3.trans l4), r4, po⟩
  | _ => exact po.elim
theorem eI_chain (f : Fit0 X G E) (o1 o2 : CmpOp) (hm : lastMarks [o1, o2] [b, c] = false) (ha : PE X a (tI G E fa)) (hb : PE X b (tI G E fb)) (hc : PE X c (tI G E fc)) :
    PE X (.Compare a [o1, o2] [b, c] pos) (tI G E fun ρ => bnd (fa ρ) fun d => bnd (fb ρ) fun e => chainM o1 o2 d e (fc ρ)) :=
  PE.imp (pe_chain (op_cmp_D (E := E) f.hK f.w f.room o1) (op_cmp_D (E := E) f.hK f.w f.room o2) ha hb hc hm) fun σ H Q h => three o1 o2 h
theorem bI_chain (f : Fit0 X G E) (o1 o2 : CmpOp) (hm : lastMarks [o1, o2] [b, c] = false) (ha : PE X a (tI G E fa)) (hb : PE X b (tI G E fb)) (hc : PE X c (tI G E fc)) :
    PT X (.Compare a [o1, o2] [b, c] pos) (tIB G E (tsM fun ρ => bnd (fa ρ) fun d => bnd (fb ρ) fun e => chainM o1 o2 d e (fc ρ))) :=
  PT.imp (pt_chain (op_cmp_D (E := E) f.hK f.w f.room o1) (op_cmp_D (E := E) f.hK f.w f.room o2) ha hb hc hm) fun σ H Q h => three o1 o2 (tI_B h)

/-! ### - , not, and, or, if -/
def negD (d : D) : M D := match d with | .int i => ret (.int (-i)) | _ => fail
theorem eI_neg (ha : PE X a (tI G E fa)) : PE X (.UnaryOp .USub a pos) (tI G E fun ρ => bnd (fa ρ) negD) :=
  PE.imp (pe_un un_neg ha) fun σ H Q ⟨ρ, S, ι, F, W, he, h0, po⟩ => ⟨ρ, S, ι, F, W, he, h0, po.seq fun ι1 F1 S1 H1 d l1 h1 po => fun v1 r1 => by
    cases r1 with
    | int i => exact ⟨i, rfl, po.now h1 _ (.int _)⟩
    | _ => exact po.elim⟩
def notM (fa : DEnv → M D) : DEnv → M D := fun ρ => bnd (tsM fa ρ) fun k => ret (.bl (!k))
theorem eI_not (ha : PE X a (tI G E fa)) : PE X (.UnaryOp .Not a pos) (tI G E (notM fa)) :=
  PE.imp (pe_not ha) fun σ H Q ⟨ρ, S, ι, F, W, he, h0, po⟩ => by
    refine tI_B (Q := fun k H1 => Q (.bl (!k)) H1) ⟨ρ, S, ι, F, W, he, h0, po.seq fun ι1 F1 S1 H1 k l1 h1 po => po.now h1 _ (.bl _)⟩
theorem bI_not (ha : PT X a (tIB G E (tsM fa))) : PT X (.UnaryOp .Not a pos) (tIB G E (tsM (notM fa))) :=
  PT.imp (pt_not ha) fun σ H Q ⟨ρ, S, ι, F, W, he, h0, po⟩ => by
    refine ⟨ρ, S, ι, F, W, he, h0, ?_⟩
    rw [show tsM (notM fa) ρ = bnd (tsM fa ρ) (fun k => ret (!k)) from bnd_assoc _ _ _] at po
    exact po.seq fun ι1 F1 S1 H1 k l1 h1 po => po.now h1
def andM (fa fb : DEnv → M D) : DEnv → M D := fun ρ => bnd (tsM fa ρ) fun k => if k = true then fb ρ else ret (.bl false)
def orM (fa fb : DEnv → M D) : DEnv → M D := fun ρ => bnd (tsM fa ρ) fun k => if k = true then ret (.bl true) else fb ρ
variable {rest : List Expr}
theorem eI_one {op} (ha : PE X a (tI G E fa)) : PE X (.BoolOp op [a] pos) (tI G E fa) := pe_one ha
theorem eI_and (ha : PE X a (tI G E fa)) (hb : PE X (.BoolOp .And (b :: rest) pos) (tI G E fb)) : PE X (.BoolOp .And (a :: b :: rest) pos) (tI G E (andM fa fb)) :=
  PE.imp (pe_and ha hb) fun σ H Q ⟨ρ, S, ι, F, W, he, h0, po⟩ => by
    refine tI_B (Q := fun k H1 => if k = true then tI G E fb σ H1 Q else Q (.bl false) H1) ⟨ρ, S, ι, F, W, he, h0, po.seq fun ι1 F1 S1 H1 k l1 h1 po => ?_⟩
    cases k with
    | true => exact ⟨ρ, S1, ι1, F1, W, he.mono l1, h1, po⟩
    | false => exact po.now h1 _ (.bl _)
theorem eI_or (ha : PE X a (tI G E fa)) (hb : PE X (.BoolOp .Or (b :: rest) pos) (tI G E fb)) : PE X (.BoolOp .Or (a :: b :: rest) pos) (tI G E (orM fa fb)) :=
  PE.imp (pe_or ha hb) fun σ H Q ⟨ρ, S, ι, F, W, he, h0, po⟩ => by
    refine tI_B (Q := fun k H1 => if k = true then Q (.bl true) H1 else tI G E fb σ H1 Q) ⟨ρ, S, ι, F, W, he, h0, po.seq fun ι1 F1 S1 H1 k l1 h1 po => ?_⟩
    cases k with
    | true => exact po.now h1 _ (.bl _)
    | false => exact ⟨ρ, S1, ι1, F1, W, he.mono l1, h1, po⟩
theorem wI_and1 (ha : PT X a (tIB G E (tsM fa))) : PW X (.BoolOp .And [a] pos) (tIB G E (tsM fa)) := pw_and1 ha
theorem wI_or1 (ha : PT X a (tIB G E (tsM fa))) : PW X (.BoolOp .Or [a] pos) (tIB G E (tsM fa)) := pw_or1 ha
theorem wI_and (ha : PT X a (tIB G E (tsM fa))) (hb : PW X (.BoolOp .And (b :: rest) pos) (tIB G E (tsM fb))) : PW X (.BoolOp .And (a :: b :: rest) pos) (tIB G E (tsM (andM fa fb))) :=
  PW.imp (pw_and ha hb) fun σ H Q ⟨ρ, S, ι, F, W, he, h0, po⟩ => by
    have e : tsM (andM fa fb) ρ = bnd (tsM fa ρ) (fun k => if k = true then tsM fb ρ else ret false) := by
      refine (bnd_assoc _ _ _).trans ?_
      congr 1
      funext k
      cases k <;> rfl
    rw [e] at po
    refine ⟨ρ, S, ι, F, W, he, h0, po.seq fun ι1 F1 S1 H1 k l1 h1 po => ?_⟩
    cases k with
    | true => exact ⟨ρ, S1, ι1, F1, W, he.mono l1, h1, po⟩
    | false => exact po.now h1
theorem wI_or (ha : PT X a (tIB G E (tsM fa))) (hb : PW X (.BoolOp .Or (b :: rest) pos) (tIB G E (tsM fb))) : PW X (.BoolOp .Or (a :: b :: rest) pos) (tIB G E (tsM (orM fa fb))) :=
  PW.imp (pw_or ha hb) fun σ H Q ⟨ρ, S, ι, F, W, he, h0, po⟩ => by
    have e : tsM (orM fa fb) ρ = bnd (tsM fa ρ) (fun k => if k = true then ret true else tsM fb ρ) := by
      refine (bnd_assoc _ _ _).trans ?_
      congr 1
      funext k
      cases k <;> rfl
    rw [e] at po
    refine ⟨ρ, S, ι, F, W, he, h0, po.seq fun ι1 F1 S1 H1 k l1 h1 po => ?_⟩
    cases k with
    | true => exact po.now h1
    | false => exact ⟨ρ, S1, ι1, F1, W, he.mono l1, h1, po⟩
def ifM (fc fa fb : DEnv → M D) : DEnv → M D := fun ρ => bnd (tsM fc ρ) fun k => if k = true then fa ρ else fb ρ
theorem eI_if (hc : PT X c (tIB G E (tsM fc))) (ha : PE X a (tI G E fa)) (hb : PE X b (tI G E fb)) : PE X (.IfExp c a b pos) (tI G E (ifM fc fa fb)) :=
  PE.imp (pe_ifExp hc ha hb) fun σ H Q ⟨ρ, S, ι, F, W, he, h0, po⟩ => by
    refine ⟨ρ, S, ι, F, W, he, h0, po.seq fun ι1 F1 S1 H1 k l1 h1 po => ?_⟩
    cases k with
    | true => exact ⟨ρ, S1, ι1, F1, W, he.mono l1, h1, po⟩
    | false => exact ⟨ρ, S1, ι1, F1, W, he.mono l1, h1, po⟩

/-! ### rows of expressions -/
variable {es : List Expr} {fs : DEnv → M (List D)}
def nilM : DEnv → M (List D) := fun _ => ret []
def consM (fa : DEnv → M D) (fs : DEnv → M (List D)) : DEnv → M (List D) := fun ρ => bnd (fa ρ) fun d => bnd (fs ρ) fun ds => ret (d :: ds)
theorem aI_nil : PA X [] (tIs G E nilM) := PA.imp pa_nil fun σ H Q ⟨ρ, S, ι, F, W, he, h0, po⟩ => po.now h0 _ .nil
theorem aI_cons (ha : PE X a (tI G E fa)) (hs : PA X es (tIs G E fs)) (hst : starEach (a :: es) X.env = (false, eval a X.env) :: starEach es X.env) : PA X (a :: es) (tIs G E (consM fa fs)) :=
  PA.imp (pa_cons ha hs hst) fun σ H Q ⟨ρ, S, ι, F, W, he, h0, po⟩ => ⟨ρ, S, ι, F, W, he, h0, po.seq fun ι1 F1 S1 H1 d l1 h1 po => fun v1 r1 =>
    ⟨ρ, S1, ι1, F1, W, he.mono l1, h1, po.seq fun ι2 F2 S2 H2 ds l2 h2 po => fun vs rs => po.now h2 _ (.cons (r1.mono l2) rs)⟩⟩
def tupM (fs : DEnv → M (List D)) : DEnv → M D := fun ρ => bnd (fs ρ) fun ds => if ds.length ≤ big then ret (.tup ds) else fail
def lstM (m : Bool) (fs : DEnv → M (List D)) : DEnv → M D := fun ρ => bnd (fs ρ) fun ds => if ds.length ≤ big then fin m ds else fail
theorem eI_tup {x1} (hs : PA X es (tIs G E fs)) : PE X (.Tuple es x1 pos) (tI G E (tupM fs)) :=
  PE.imp (pe_tupF hs) fun σ H Q ⟨ρ, S, ι, F, W, he, h0, po⟩ => ⟨ρ, S, ι, F, W, he, h0, po.seq fun ι1 F1 S1 H1 ds l1 h1 po => fun vs rs => by
    obtain ⟨hz, po⟩ := Post.if_ po
    exact ⟨by rw [rs.length]; exact le_line hz, Post.tup h1 rs hz po⟩⟩
theorem eI_lst (m : Bool) (hs : PA X es (tIs G E fs)) : PE X (.List es pos) (tI G E (lstM m fs)) :=
  PE.imp (pe_lst hs) fun σ H Q ⟨ρ, S, ι, F, W, he, h0, po⟩ => ⟨ρ, S, ι, F, W, he, h0, po.seq fun ι1 F1 S1 H1 ds l1 h1 po => fun vs rs => by
    obtain ⟨hz, po⟩ := Post.if_ po
    exact ⟨by rw [rs.length]; exact le_line hz, po.fin h1 rs hz⟩⟩

/-! ### subscripts, slices -/
theorem eI_ix (f : Fit0 X G E) (hs : PlainIx b) (ha : PE X a (tI G E fa)) (hb : PE X b (tI G E fb)) : PE X (.Subscript a b pos) (tI G E fun ρ => bnd (fa ρ) fun d => bnd (fb ρ) fun e => ixD d e) :=
  PE.imp (pe_ix (ix_D (E := E) f.hK f.w f.room) ha hb hs) fun σ H Q h => two h
def partM (d : D) : M (Option Int) := look fun _ => partO d
def tIP (G : Gx) (E : XS) (m : DEnv → M D) : TO := fun σ H Q => ∃ ρ S ι F W, EnvR G ι F ρ σ ∧ HR G ι F W S H ∧ Post G ι F W E (fun _ _ _ H' o => Q o H') (bnd (m ρ) partM S)
theorem PO.imp {e : Option Expr} {t t' : TO} (h : PO X e t) (k : ∀ σ H Q, t' σ H Q → t σ H Q) : PO X e t' := ⟨fun pins s σ H Q I q => h.run pins s σ H Q I (k _ _ _ q)⟩
theorem oI_none : PO X none (tIP G E (constM .non)) := PO.imp po_none fun σ H Q ⟨ρ, S, ι, F, W, he, h0, po⟩ => po.now h0
def noN (fa : DEnv → M D) : DEnv → M D := fun ρ => bnd (fa ρ) fun d => match d with | .int i => ret (.int i) | _ => fail
theorem oI_int (ha : PE X a (tI G E fa)) : PO X (some a) (tIP G E (noN fa)) :=
  PO.imp (po_some ha) fun σ H Q ⟨ρ, S, ι, F, W, he, h0, po⟩ => ⟨ρ, S, ι, F, W, he, h0, by
    rw [show bnd (noN fa ρ) partM = _ from bnd_assoc _ _ _] at po
    refine po.seq fun ι1 F1 S1 H1 d l1 h1 po => fun v1 r1 => ?_
    cases r1 with
    | int i => exact ⟨i, rfl, po.now h1⟩
    | _ => exact po.elim⟩
def slM (m : Bool) (fa fl fh : DEnv → M D) : DEnv → M D := fun ρ => bnd (fa ρ) fun d => bnd (bnd (fl ρ) partM) fun lo => bnd (bnd (fh ρ) partM) fun hi => slD m d lo hi
theorem eI_sl (f : Fit0 X G E) (m : Bool) {lo hi : Option Expr} {fl fh : DEnv → M D} {p2 : Pos} (ha : PE X a (tI G E fa)) (hl : PO X lo (tIP G E fl)) (hh : PO X hi (tIP G E fh)) : PE X (.Subscript a (.Slice lo hi none p2) pos) (tI G E (slM m fa fl fh)) :=
  PE.imp (pe_slice (sl_D (E := E) f.hK m) ha hl hh) fun σ H Q ⟨ρ, S, ι, F, W, he, h0, po⟩ => ⟨ρ, S, ι, F, W, he, h0, po.seq fun ι1 F1 S1 H1 d l1 h1 po => fun v1 r1 =>
    ⟨ρ, S1, ι1, F1, W, he.mono l1, h1, po.seq fun ι2 F2 S2 H2 lo l2 h2 po => ⟨ρ, S2, ι2, F2, W, (he.mono l1).mono l2, h2, po.seq fun ι3 F3 S3 H3 hi l3 h3 po => ⟨ι3, F3, W, S3, d, h3, r1.mono (l2.trans l3), po⟩⟩⟩⟩
end
end CI

/-! Calls. -/
namespace CI
open PySem PySem.Spec PyProof.Rows L2 HT

def noStar : Expr → Bool
  | .Starred .. => false
  | _ => true
theorem star_cons {e : Expr} {es : List Expr} {env : Env} (h : noStar e = true) : starEach (e :: es) env = (false, eval e env) :: starEach es env := by
  cases e <;> first | rfl | cases h
theorem star_any {pos : Pos} {env : Env} : ∀ {es : List Expr}, es.all noStar = true → (backTo pos (starEach es env)).any (·.1) = false
  | [], _ => rfl
  | e :: es, h => by
    rw [List.all_cons, Bool.and_eq_true] at h
    rw [star_cons h.1]
    show (false || (backTo pos (starEach es env)).any (·.1)) = false
    rw [star_any h.2]
    rfl
theorem star_all {pos : Pos} {env : Env} : ∀ {es : List Expr}, es.all noStar = true → (backTo pos (starEach es env)).all (fun x => !x.1) = true
  | [], _ => rfl
  | e :: es, h => by
    rw [List.all_cons, Bool.and_eq_true] at h
    rw [star_cons h.1]
    show (true && (backTo pos (starEach es env)).all (fun x => !x.1)) = true
    rw [star_all h.2]
    rfl

section
variable {X : Cx} {G : Gx} {E : XS} {a e : Expr} {es : List Expr} {fa : DEnv → M D} {fs : DEnv → M (List D)} {p pos apos : Pos} {x : Str}
def appM (fs : DEnv → M (List D)) (g : List D → M D) : DEnv → M D := fun ρ => bnd (fs ρ) g
theorem apply {g : List D → M D} {σ : L2.St} {H : Hp} {Q : VK} (h : tI G E (appM fs g) σ H Q) : tCB (rGs G E g) (tIs G E fs) σ H Q := by
  obtain ⟨ρ, S, ι, F, W, he, h0, po⟩ := h
  exact ⟨ρ, S, ι, F, W, he, h0, po.seq fun ι1 F1 S1 H1 ds l1 h1 po => fun vs rs => ⟨ι1, F1, W, S1, ds, h1, rs, po⟩⟩
theorem eI_bi (f : Fit0 X G E) (m : Bool) (b : Bi) (hc : b.calm = true → X.calm = true) (hg : Gl X b.name) (hm : X.mg b.name = none) (hs : PA X (e :: es) (tIs G E fs)) (ns : (e :: es).all noStar = true) : PE X (.Call (.Name b.name p) (e :: es) [] pos) (tI G E (appM fs (biD m b))) := by
  have ns' := ns
  rw [List.all_cons, Bool.and_eq_true] at ns'
  have c := bi_D (E := E) f.hK f.w f.room m b hc
  have bo := b.boot
  cases b <;> first
    | exact PE.imp (pe_callB c hg hm bo hs (by decide) (by decide) (star_cons ns'.1) (star_any ns'.2)) fun σ H Q h => apply h
    | exact PE.imp (pe_callTy c hg hm bo hs (by decide) (by decide) (star_cons ns'.1) (star_any ns'.2)) fun σ H Q h => apply h

/-! ### isinstance -/
def tyO (S : Store) : D → Option String
  | .non => some "NoneType" | .bl _ => some "bool" | .int _ => some "int" | .str _ => some "str" | .tup _ => some "tuple" | .lst _ => some "list" | .ro _ => some "list" | .dct _ => some "dict"
  | .adr n => match S[n]? with | some (.lst _) => some "list" | some (.dct _) => some "dict" | _ => none
def tyNames : List String := ["NoneType", "bool", "int", "str", "tuple", "list", "dict"]
def clNames : List String := ["bool", "int", "str", "tuple", "list", "dict"]
def subTy (a b : String) : Bool := a == b || (a == "bool" && b == "int")
theorem kit_all : ∀ a ∈ tyNames, ∀ b ∈ clNames, kitB a b = some (subTy a b) := by decide +kernel
theorem tyO_mem {S : Store} {d : D} {t : String} (h : tyO S d = some t) : t ∈ tyNames := by
  cases d with
  | adr n =>
    unfold tyO at h
    simp only at h
    cases q : S[n]? with
    | none => rw [q] at h; cases h
    | some o => rw [q] at h; cases o <;> cases h <;> decide
  | _ => cases h; decide
theorem Rep.ty {ι : List Addr} {F H : Hp} {W : Hp} {S : Store} (hr : HR G ι F W S H) {v : V} {d : D} {t : String} (r : Rep G.K ι F v d) (h : tyO S d = some t) : TyX G.K H v (.type t) := by
  have sql : ∀ {a : Addr} {xs : List V}, SqL G.K F a xs → TyX G.K H (.ref a) (.type "list") := fun {a xs} h => by
    rcases h with (h | ⟨o, h⟩) | ⟨o, its, n, h1, h2, _⟩
    · exact .base (.lst (hr.sub _ _ h))
    · exact .base (.frz (hr.sub _ _ h))
    · exact .kList h1 h2
  cases r with
  | non => cases h; exact .base .non
  | bl b => cases h; exact .base (.bl b)
  | int i => cases h; exact .base (.int i)
  | str x => cases h; exact .base (.str x)
  | tup h' r z =>
    cases h
    rcases h' with ⟨o, h1, _⟩ | ⟨o, its, n, h1, h2, _⟩
    · exact .fTuple (hr.sub _ _ h1)
    · exact .kTuple h1 h2
  | lst h' r z => cases h; exact .base (.lst (hr.sub _ _ h'))
  | ro h' r z => cases h; exact sql h'
  | dct h' r z => cases h; exact .base (.dK (hr.sub _ _ h'))
  | @adr a n h' =>
    unfold tyO at h
    simp only at h
    obtain ⟨q, _⟩ := List.getElem?_eq_some_iff.mp h'
    have q' : n < S.length := hr.len ▸ q
    have o := hr.obs n a S[n] h' (List.getElem?_eq_getElem q')
    rw [List.getElem?_eq_getElem q'] at h
    generalize S[n] = ob at o h
    cases o with
    | lst e' r z => cases h; exact .base (.lst e')
    | dct e' r z => cases h; exact .base (.dK e')
    | ins e' _ r z => cases h
    | dcn _ _ _ _ _ _ _ _ => cases h
def isiM (fa : DEnv → M D) (ts : List String) : DEnv → M D := fun ρ => bnd (fa ρ) fun d => look fun S => (tyO S d).map fun t => D.bl (ts.any (subTy t))
theorem eI_isi (f : Fit0 X G E) {T : String} {p2 : Pos} (hT : T ∈ clNames) (hb : bootBuiltins (Str.ofString T) = some (.type T)) (hn : (Str.ofString T) ≠ ("__name__" : Str)) (hd : ((Str.ofString T) == ("__debug__" : Str)) = false)
    (hg : Gl X "isinstance") (hm : X.mg "isinstance" = none) (hg2 : Gl X (Str.ofString T)) (hm2 : X.mg (Str.ofString T) = none) (ha : PE X a (tI G E fa)) (ns : noStar a = true) :
    PE X (.Call (.Name "isinstance" p) [a, .Name (Str.ofString T) p2] [] pos) (tI G E (isiM fa [T])) :=
  PE.imp (pe_callB call_isi hg hm (by decide +kernel) (pa_cons ha (pa_cons (pe_bltn (v := .ty T) hg2 hm2 hb rfl hn hd) pa_nil) (star_cons ns)) (by decide) (by decide) (star_cons ns) rfl)
    fun σ H Q ⟨ρ, S, ι, F, W, he, h0, po⟩ => ⟨ρ, S, ι, F, W, he, h0, po.seq fun ι1 F1 S1 H1 d l1 h1 po => fun v1 r1 => by
      obtain ⟨w, hw, q⟩ := Post.look h1 po
      obtain ⟨t, ht, rfl⟩ := Option.map_eq_some_iff.mp hw
      refine ⟨v1, .ty T, .type t, .type T, subTy t T, rfl, .ty T, f.hK ▸ r1.ty h1 ht, kit_ty (kit_all t (tyO_mem ht) T hT), ?_⟩
      have e : [T].any (subTy t) = subTy t T := by simp
      rw [e] at q
      exact q _ (.bl _)⟩
theorem kitAny_two {K : PySem.W.Frag} {t T U : String} (h1 : t ∈ tyNames) (h2 : T ∈ clNames) (h3 : U ∈ clNames) : PySem.W.kitAny K (.type t) [.type T, .type U] = some ([T, U].any (subTy t)) := by
  refine kitAny_cons (kit_ty (kit_all t h1 T h2)) (fun e => ?_) fun e => ?_
  · refine kitAny_cons (kit_ty (kit_all t h1 U h3)) (fun e2 => ?_) fun e2 => ?_
    · simp [e, e2]
      rfl
    · simp [e2]
  · simp [e]
theorem eI_isi2 (f : Fit0 X G E) {T U : String} {p2 p3 p4 : Pos} {x1} (hT : T ∈ clNames) (hU : U ∈ clNames) (hb : bootBuiltins (Str.ofString T) = some (.type T)) (hn : (Str.ofString T) ≠ ("__name__" : Str)) (hd : ((Str.ofString T) == ("__debug__" : Str)) = false)
    (hbU : bootBuiltins (Str.ofString U) = some (.type U)) (hnU : (Str.ofString U) ≠ ("__name__" : Str)) (hdU : ((Str.ofString U) == ("__debug__" : Str)) = false)
    (hg : Gl X "isinstance") (hm : X.mg "isinstance" = none) (hg2 : Gl X (Str.ofString T)) (hm2 : X.mg (Str.ofString T) = none) (hg3 : Gl X (Str.ofString U)) (hm3 : X.mg (Str.ofString U) = none) (ha : PE X a (tI G E fa)) (ns : noStar a = true) :
    PE X (.Call (.Name "isinstance" p) [a, .Tuple [.Name (Str.ofString T) p2, .Name (Str.ofString U) p3] x1 p4] [] pos) (tI G E (isiM fa [T, U])) :=
  PE.imp (pe_callB call_isiT hg hm (by decide +kernel) (pa_cons ha (pa_cons (pe_tup (pa_cons (pe_bltn (v := .ty T) hg2 hm2 hb rfl hn hd) (pa_cons (pe_bltn (v := .ty U) hg3 hm3 hbU rfl hnU hdU) pa_nil))) pa_nil) (star_cons ns)) (by decide) (by decide) (star_cons ns) rfl)
    fun σ H Q ⟨ρ, S, ι, F, W, he, h0, po⟩ => ⟨ρ, S, ι, F, W, he, h0, po.seq fun ι1 F1 S1 H1 d l1 h1 po => fun v1 r1 => by
      refine ⟨by show 2 ≤ sizeLine; decide, fun tp hp => ?_⟩
      obtain ⟨h2, l2⟩ := h1.keep hp (.tup [.ty T, .ty U])
      obtain ⟨w, hw, q⟩ := Post.look h2 (po.le l2)
      obtain ⟨t, ht, rfl⟩ := Option.map_eq_some_iff.mp hw
      exact ⟨v1, tp, [.ty T, .ty U], .type t, [.type T, .type U], _, rfl, upd_same, .cons (.ty T) (.cons (.ty U) .nil), f.hK ▸ (r1.mono l2).ty h2 ht, kitAny_two (tyO_mem ht) hT hU, q _ (.bl _)⟩⟩

/-! ### methods of built-in types -/
inductive Ty where
  | list | str | dict
def Ty.nm : Ty → String
  | .list => "list" | .str => "str" | .dict => "dict"
def rcvO (t : Ty) (S : Store) (d : D) : Bool := match t with
  | .list => (lstO S d).isSome
  | .str => (match d with | .str _ => true | _ => false)
  | .dict => (dctO S d).isSome
def rcvM (t : Ty) (d : D) : M Unit := fun S => if rcvO t S d = true then .ok () S else .bad
def rM (G : Gx) (E : XS) (g : D → List D → M D) : V → List V → Hp → VK → Prop := fun x xs H Q => ∃ ι F W S d ds, HR G ι F W S H ∧ Rep G.K ι F x d ∧ Reps G.K ι F xs ds ∧ Post G ι F W E (RV G Q) (g d ds S)
def methM (t : Ty) (fa : DEnv → M D) (fs : DEnv → M (List D)) (g : D → List D → M D) : DEnv → M D := fun ρ => bnd (fa ρ) fun d => bnd (rcvM t d) fun _ => bnd (fs ρ) fun ds => g d ds
theorem Post.rcv {ι : List Addr} {F : Hp} {W : Hp} {R : RT D} {t : Ty} {d : D} {S : Store} {H : Hp} {v : V} {m : M D} (hr : HR G ι F W S H) (r : Rep G.K ι F v d) (h : Post G ι F W E R (bnd (rcvM t d) (fun _ => m) S)) : tyV G.K t.nm v H ∧ Post G ι F W E R (m S) := by
  unfold CI.bnd rcvM at h
  by_cases c : rcvO t S d = true
  · rw [if_pos c] at h
    refine ⟨?_, h⟩
    cases t with
    | list =>
      obtain ⟨ds, hd⟩ := Option.isSome_iff_exists.mp (show (lstO S d).isSome = true from c)
      obtain ⟨a, xs, rfl, ha, _⟩ := Rep.lstO hr r hd
      exact .inl ⟨rfl, xs, ha⟩
    | str =>
      cases r with
      | str z => rfl
      | _ => cases c
    | dict =>
      obtain ⟨ds, hd⟩ := Option.isSome_iff_exists.mp (show (dctO S d).isSome = true from c)
      obtain ⟨a, xs, rfl, ha, _⟩ := Rep.dctO hr r hd
      exact .inr (.inr (.inl ⟨rfl, .inl ⟨xs, ha⟩⟩))
  · rw [if_neg c] at h; exact h.elim
theorem meth {t : Ty} {g : D → List D → M D} {σ : L2.St} {H : Hp} {Q : VK} (hK : X.K = G.K) (h : tI G E (methM t fa fs g) σ H Q) : tBM X.K t.nm (rM G E g) (tI G E fa) (tIs G E fs) σ H Q := by
  obtain ⟨ρ, S, ι, F, W, he, h0, po⟩ := h
  refine ⟨ρ, S, ι, F, W, he, h0, po.seq fun ι1 F1 S1 H1 d l1 h1 po => fun v r => ?_⟩
  obtain ⟨ht, po⟩ := Post.rcv h1 r po
  exact ⟨hK ▸ ht, ρ, S1, ι1, F1, W, he.mono l1, h1, po.seq fun ι2 F2 S2 H2 ds l2 h2 po => fun vs rs => ⟨ι2, F2, W, S2, d, ds, h2, r.mono l2, rs, po⟩⟩
theorem meth0 {t : Ty} {g : D → List D → M D} {σ : L2.St} {H : Hp} {Q : VK} (hK : X.K = G.K) (h : tI G E (methM t fa nilM g) σ H Q) : tBM0 X.K t.nm (rM G E g) (tI G E fa) σ H Q := by
  obtain ⟨ρ, S, ι, F, W, he, h0, po⟩ := h
  refine ⟨ρ, S, ι, F, W, he, h0, po.seq fun ι1 F1 S1 H1 d l1 h1 po => fun v r => ?_⟩
  obtain ⟨ht, po⟩ := Post.rcv h1 r po
  exact ⟨hK ▸ ht, ι1, F1, W, S1, d, [], h1, r, .nil, po⟩
theorem eI_meth (f : Fit0 X G E) {t : Ty} {id : String} {name : Str} {g : D → List D → M D} (pa : PlainAttrs t.nm) (slot : Slot t.nm name id) (hty : typeOf (.builtin id) = pure (.type "method_descriptor")) (hm : MtR X id (rM G E g)) (ha : PE X a (tI G E fa))
    (hs : PA X es (tIs G E fs)) (ns : es.all noStar = true) (hf : es = [] → fs = nilM) (hbase : attributeBase a name X.env (eval a X.env) = eval a X.env) (hline : (apos.endLine == pos.line) = true) (hlen : es.length < 30) :
    PE X (.Call (.Attribute a name apos) es [] pos) (tI G E (methM t fa fs g)) := by
  cases es with
  | nil =>
    rw [hf rfl]
    exact PE.imp (pe_bm0 pa slot hty hm ha hbase hline) fun σ H Q h => meth0 f.hK h
  | cons e es =>
    have ns' := ns
    rw [List.all_cons, Bool.and_eq_true] at ns'
    refine PE.imp (pe_bm pa slot hty hm ha hs hbase ?_ hline (star_cons ns'.1) (star_any ns'.2)) fun σ H Q h => meth f.hK h
    rw [star_all ns, Bool.and_eq_true, Bool.and_eq_true]
    exact ⟨⟨rfl, rfl⟩, decide_eq_true (by simpa using hlen)⟩

/-! ### which methods -/
inductive Me where
  | append | index | upper | extend | pop | clear | insert | get | popD | clearD | setd
def Me.ty : Me → Ty
  | .append => .list | .index => .list | .upper => .str | .extend => .list | .pop => .list | .clear => .list | .insert => .list | .get => .dict | .popD => .dict | .clearD => .dict | .setd => .dict
def Me.name : Me → Str
  | .append => "append" | .index => "index" | .upper => "upper" | .extend => "extend" | .pop => "pop" | .clear => "clear" | .insert => "insert" | .get => "get" | .popD => "pop" | .clearD => "clear" | .setd => "setdefault"
def dropD (kds : List (Key × D)) (k : Key) : List (Key × D) := kds.filter fun kv => decide (kv.1 ≠ k)
theorem RepKs.drop {K : PySem.W.Frag} {ι : List Addr} {F : Hp} {k : Key} : ∀ {kvs : List (Key × V)} {kds : List (Key × D)}, RepKs K ι F kvs kds → RepKs K ι F (dropK kvs k) (dropD kds k)
  | _, _, .nil => .nil
  | _, _, .cons (k := j) (v := v) (d := d) h t => by
    unfold dropK dropD
    rw [List.filter_cons, List.filter_cons]
    by_cases e : j = k
    · simp only [e, ne_eq, not_true_eq_false, decide_false]
      exact RepKs.drop t
    · simp only [ne_eq, e, not_false_eq_true, decide_true, if_true]
      exact .cons h (RepKs.drop t)
theorem Reps.eraseIdx {K : PySem.W.Frag} {ι : List Addr} {F : Hp} : ∀ {vs : List V} {ds : List D} (n : Nat), Reps K ι F vs ds → Reps K ι F (vs.eraseIdx n) (ds.eraseIdx n)
  | _, _, _, .nil => .nil
  | _, _, 0, .cons _ t => t
  | _, _, n + 1, .cons h t => .cons h (Reps.eraseIdx n t)
theorem Reps.dropLast {K : PySem.W.Frag} {ι : List Addr} {F : Hp} {vs : List V} {ds : List D} (r : Reps K ι F vs ds) : Reps K ι F vs.dropLast ds.dropLast := by
  rw [List.dropLast_eq_take, List.dropLast_eq_take, r.length]
  exact r.take _
/-- insert by a place from 0 on -/
def insL (ds : List D) (i : Int) (x : D) : List D := ds.take i.toNat ++ [x] ++ ds.drop i.toNat
def idxO (x : D) : List D → Option Nat
  | [] => none
  | d :: ds => if PyData.eqv (py0 d) (py0 x) = true then some 0 else (idxO x ds).map (· + 1)
def meD (m : Me) (d : D) (args : List D) : M D := fun S => match m, d, args with
  | .append, .adr n, [x] => (match S[n]? with
    | some (.lst ds) => if ds.length < big then .ok .non (S.set n (.lst (ds ++ [x]))) else .bad
    | _ => .bad)
  | .index, d, [x] => (match lstO S d with
    | some ds => if flatD x = true ∧ ds.all flatD = true then (match idxO x ds with | some j => .ok (.int j) S | none => .bad) else .bad
    | none => .bad)
  | .upper, .str z, [] => if z.length ≤ 5592405 then .ok (.str (Txt.upper z)) S else .bad
  | .extend, .adr n, [x] => (match S[n]?, x with
    | some (.lst ds), .lst es => if ds.length + es.length ≤ big then .ok .non (S.set n (.lst (ds ++ es))) else .bad
    | _, _ => .bad)
  | .pop, .adr n, [] => (match S[n]? with
    | some (.lst ds) => (match ds[ds.length - 1]? with | some x => .ok x (S.set n (.lst ds.dropLast)) | none => .bad)
    | _ => .bad)
  | .pop, .adr n, [.int i] => (match S[n]? with
    | some (.lst ds) => if -(2 ^ 62) ≤ i ∧ i < 2 ^ 62 then (match seqIndex? i ds.length with
      | some k => (match ds[k]? with | some x => .ok x (S.set n (.lst (ds.eraseIdx k))) | none => .bad)
      | none => .bad) else .bad
    | _ => .bad)
  | .clear, .adr n, [] => (match S[n]? with
    | some (.lst ds) => .ok .non (S.set n (.lst []))
    | _ => .bad)
  | .insert, .adr n, [.int i, x] => (match S[n]? with
    | some (.lst ds) => if ds.length < big ∧ 0 ≤ i ∧ i < 2 ^ 62 then .ok .non (S.set n (.lst (insL ds i x))) else .bad
    | _ => .bad)
  | .get, d, [k] => (match dctO S d, keyO k with
    | some kds, some k => .ok ((valD kds k).getD .non) S
    | _, _ => .bad)
  | .get, d, [k, x] => (match dctO S d, keyO k with
    | some kds, some k => .ok ((valD kds k).getD x) S
    | _, _ => .bad)
  | .popD, .adr n, [k] => (match S[n]?, keyO k with
    | some (.dct kds), some k => (match valD kds k with | some x => .ok x (S.set n (.dct (dropD kds k))) | none => .bad)
    | _, _ => .bad)
  | .clearD, .adr n, [] => (match S[n]? with
    | some (.dct kds) => .ok .non (S.set n (.dct []))
    | _ => .bad)
  | .setd, .adr n, [k, x] => (match S[n]?, keyO k with
    | some (.dct kds), some k => if kds.length < big then (match valD kds k with | some y => .ok y S | none => .ok x (S.set n (.dct (putD kds k x)))) else .bad
    | _, _ => .bad)
  | _, _, _ => .bad
theorem idxO_spec {x : D} : ∀ {ds : List D} {j : Nat}, idxO x ds = some j → (∃ z, ds[j]? = some z ∧ PyData.eqv (py0 z) (py0 x) = true) ∧ ∀ (m : Nat) (z' : D), m < j → ds[m]? = some z' → PyData.eqv (py0 z') (py0 x) = false
  | [], _, h => by cases h
  | d :: ds, j, h => by
    unfold idxO at h
    by_cases c : PyData.eqv (py0 d) (py0 x) = true
    · rw [if_pos c] at h
      cases h
      exact ⟨⟨d, rfl, c⟩, fun m z' hm => absurd hm (Nat.not_lt_zero m)⟩
    · rw [if_neg c] at h
      obtain ⟨k, hk, rfl⟩ := Option.map_eq_some_iff.mp h
      obtain ⟨⟨z, h1, h2⟩, h3⟩ := idxO_spec hk
      refine ⟨⟨z, by simpa using h1, h2⟩, fun m z' hm e => ?_⟩
      cases m with
      | zero =>
        simp at e
        subst e
        simpa using c
      | succ m => exact h3 m z' (by omega) (by simpa using e)
theorem HR.adrL {ι : List Addr} {F H : Hp} {W : Hp} {S : Store} (hr : HR G ι F W S H) {a : Addr} {n : Nat} {ds : List D} (h : ι[n]? = some a) (e : S[n]? = some (.lst ds)) : ∃ xs, H a = some (.lst xs) ∧ Reps G.K ι F xs ds ∧ ds.length ≤ big := by
  have o := hr.obs n a _ h e
  cases o with
  | lst e' r z => exact ⟨_, e', r, z⟩
theorem HR.adrD {ι : List Addr} {F H : Hp} {W : Hp} {S : Store} (hr : HR G ι F W S H) {a : Addr} {n : Nat} {ds : List (Key × D)} (h : ι[n]? = some a) (e : S[n]? = some (.dct ds)) : ∃ xs, H a = some (.dK xs) ∧ RepKs G.K ι F xs ds ∧ ds.length ≤ big := by
  have o := hr.obs n a _ h e
  cases o with
  | dct e' r z => exact ⟨_, e', r, z⟩
theorem mt_me (hK : X.K = G.K) (hu : X.A.units + 65 < cLine) (m : Me) : ∃ id, PlainAttrs m.ty.nm ∧ Slot m.ty.nm m.name id ∧ typeOf (.builtin id) = pure (.type "method_descriptor") ∧ MtR X id (rM G E (meD m)) := by
  cases m with
  | append =>
    refine ⟨_, PySem.F.plainAttrs_list, PySem.F.slot_list_append, PySem.F.type_list_append, ?_⟩
    intro pins s σ H x xs v us Q I rx rs ⟨ι, F, W, S, d, ds, hr, r, rr, po⟩
    cases r with
    | @adr a n h =>
      match ds, rr, po with
      | [y], rr, po =>
        obtain ⟨w, rfl, rw_⟩ := rr.one
        unfold meD at po
        simp only at po
        cases q : S[n]? with
        | none => rw [q] at po; exact po.elim
        | some o =>
          cases o with
          | lst es =>
            rw [q] at po
            simp only at po
            by_cases c : es.length < big
            · rw [if_pos c] at po
              obtain ⟨ys, ha, ry, z⟩ := hr.adrL h q
              refine mt_append pins s σ H _ _ v us Q I rx rs ⟨a, ys, w, rfl, rfl, ha, by rw [ry.length]; exact lt_line (Nat.le_of_lt c), ?_⟩
              have h' := hr.write h (.lst (ys ++ [w])) (.lst (es ++ [y])) (.lst upd_same (ry.append (.cons rw_ .nil)) (by simp; omega))
              exact po.now h' _ .non
            · rw [if_neg c] at po; exact po.elim
          | _ => rw [q] at po; exact po.elim
      | [], _, po => exact po.elim
      | _ :: _ :: _, _, po => exact po.elim
    | _ => exact po.elim
  | index =>
    refine ⟨_, PySem.F.plainAttrs_list, PySem.F.slot_list_index, PySem.F.type_list_index, ?_⟩
    intro pins s σ H x xs v us Q I rx rs ⟨ι, F, W, S, d, ds, hr, r, rr, po⟩
    have po' : Post G ι F W E (RV G Q) (meD .index d ds S) := po
    match ds, rr, po' with
    | [y], rr, po =>
      obtain ⟨w, rfl, rw_⟩ := rr.one
      have po : Post G ι F W E (RV G Q) (match lstO S d with
        | some ds => if flatD y = true ∧ ds.all flatD = true then (match idxO y ds with | some j => Res.ok (.int j) S | none => .bad) else .bad
        | none => .bad) := by cases d <;> exact po
      cases q : lstO S d with
      | none => rw [q] at po; exact po.elim
      | some es =>
        rw [q] at po
        simp only at po
        by_cases c : flatD y = true ∧ es.all flatD = true
        · rw [if_pos c] at po
          cases q2 : idxO y es with
          | none => rw [q2] at po; exact po.elim
          | some j =>
            rw [q2] at po
            obtain ⟨a, ys, rfl, ha, ry, z⟩ := Rep.lstO hr r q
            obtain ⟨⟨z, e1, e2⟩, e3⟩ := idxO_spec q2
            obtain ⟨vz, e4, e5⟩ := ry.at e1
            have fl : ∀ {m : Nat} {z : D}, es[m]? = some z → flatD z = true := fun {m z} e => List.all_eq_true.mp c.2 z (List.mem_of_getElem? e)
            refine mt_index pins s σ H _ _ v us Q I rx rs ⟨a, ys, w, j, vz, rfl, rfl, hK ▸ ha, flat_V rw_ c.1, flat_all ry c.2, e4, (flat_eq e5 (fl e1) rw_ c.1).trans e2, fun m z' hm e => ?_, po.now hr _ (.int _)⟩
            obtain ⟨d', e6, e7⟩ := ry.get e
            exact (flat_eq e7 (fl e6) rw_ c.1).trans (e3 m d' hm e6)
        · rw [if_neg c] at po; exact po.elim
    | [], _, po => cases d <;> exact po.elim
    | _ :: _ :: _, _, po => cases d <;> exact po.elim
  | upper =>
    refine ⟨_, PySem.F.plainAttrs_str, PySem.F.slot_str_upper, PySem.F.type_str_upper, ?_⟩
    intro pins s σ H x xs v us Q I rx rs ⟨ι, F, W, S, d, ds, hr, r, rr, po⟩
    cases r with
    | str z =>
      match ds, rr, po with
      | [], rr, po =>
        have := rr.zero
        subst this
        unfold meD at po
        simp only at po
        by_cases c : z.length ≤ 5592405
        · rw [if_pos c] at po
          exact mt_upper pins s σ H _ _ v us Q I rx rs ⟨z, rfl, rfl, c, po.now hr _ (.str _)⟩
        · rw [if_neg c] at po; exact po.elim
      | _ :: _, _, po => exact po.elim
    | _ => exact po.elim

  | extend =>
    refine ⟨_, PySem.F.plainAttrs_list, PySem.F.slot_list_extend, PySem.F.type_list_extend, ?_⟩
    intro pins s σ H x xs v us Q I rx rs ⟨ι, F, W, S, d, ds, hr, r, rr, po⟩
    cases r with
    | @adr a n h =>
      match ds, rr, po with
      | [y], rr, po =>
        obtain ⟨w, rfl, rw_⟩ := rr.one
        unfold meD at po
        simp only at po
        cases q : S[n]? with
        | none => rw [q] at po; exact po.elim
        | some o =>
          cases o with
          | lst es =>
            rw [q] at po
            cases rw_ with
            | @lst b ys fs hb rb zb =>
              simp only at po
              by_cases c : es.length + fs.length ≤ big
              · rw [if_pos c] at po
                obtain ⟨xs', ha, ry, z⟩ := hr.adrL h q
                refine mt_extend pins s σ H _ _ v us Q I rx rs ⟨a, b, xs', ys, rfl, rfl, ha, hr.sub _ _ hb, by rw [ry.length, rb.length]; exact le_line c, ?_⟩
                exact po.now (hr.write h _ (.lst (es ++ fs)) (.lst upd_same (ry.append rb) (by rw [List.length_append]; exact c))) _ .non
              · rw [if_neg c] at po; exact po.elim
            | _ => exact po.elim
          | _ => rw [q] at po; exact po.elim
      | [], _, po => exact po.elim
      | _ :: _ :: _, _, po => exact po.elim
    | _ => exact po.elim
  | pop =>
    refine ⟨_, PySem.F.plainAttrs_list, PySem.F.slot_list_pop, PySem.F.type_list_pop, ?_⟩
    intro pins s σ H x xs v us Q I rx rs ⟨ι, F, W, S, d, ds, hr, r, rr, po⟩
    cases r with
    | @adr a n h =>
      match ds, rr, po with
      | [], rr, po =>
        have := rr.zero
        subst this
        unfold meD at po
        simp only at po
        cases q : S[n]? with
        | none => rw [q] at po; exact po.elim
        | some o =>
          cases o with
          | lst es =>
            rw [q] at po
            simp only at po
            cases e : es[es.length - 1]? with
            | none => rw [e] at po; exact po.elim
            | some y =>
              rw [e] at po
              obtain ⟨xs', ha, ry, z⟩ := hr.adrL h q
              obtain ⟨w, e1, e2⟩ := ry.at e
              refine mt_pop pins s σ H _ _ v us Q I rx rs ⟨a, xs', w, rfl, rfl, ha, by rw [ry.length]; exact e1, ?_⟩
              exact po.now (hr.write h _ (.lst es.dropLast) (.lst upd_same ry.dropLast (by rw [List.length_dropLast]; omega))) _ e2
          | _ => rw [q] at po; exact po.elim
      | [.int i], rr, po =>
        obtain ⟨w, rfl, rw_⟩ := rr.one
        cases rw_
        unfold meD at po
        simp only at po
        cases q : S[n]? with
        | none => rw [q] at po; exact po.elim
        | some o =>
          cases o with
          | lst es =>
            rw [q] at po
            simp only at po
            by_cases c : -(2 ^ 62) ≤ i ∧ i < 2 ^ 62
            · rw [if_pos c] at po
              cases e0 : seqIndex? i es.length with
              | none => rw [e0] at po; exact po.elim
              | some k =>
                rw [e0] at po
                simp only at po
                cases e : es[k]? with
                | none => rw [e] at po; exact po.elim
                | some y =>
                  rw [e] at po
                  obtain ⟨xs', ha, ry, z⟩ := hr.adrL h q
                  obtain ⟨w, e1, e2⟩ := ry.at e
                  refine mt_popAt pins s σ H _ _ v us Q I rx rs ⟨a, xs', i, k, w, rfl, rfl, ha, by omega, by omega, by rw [ry.length]; exact e0, e1, ?_⟩
                  exact po.now (hr.write h _ (.lst (es.eraseIdx k)) (.lst upd_same (ry.eraseIdx k) (Nat.le_trans (List.length_eraseIdx_le ..) z))) _ e2
            · rw [if_neg c] at po; exact po.elim
          | _ => rw [q] at po; exact po.elim
      | .non :: _, _, po => exact po.elim
      | .bl _ :: _, _, po => exact po.elim
      | .str _ :: _, _, po => exact po.elim
      | .tup _ :: _, _, po => exact po.elim
      | .lst _ :: _, _, po => exact po.elim
      | .ro _ :: _, _, po => exact po.elim
      | .dct _ :: _, _, po => exact po.elim
      | .adr _ :: _, _, po => exact po.elim
      | .int _ :: _ :: _, _, po => exact po.elim
    | _ => exact po.elim
  | clear =>
    refine ⟨_, PySem.F.plainAttrs_list, PySem.F.slot_list_clear, PySem.F.type_list_clear, ?_⟩
    intro pins s σ H x xs v us Q I rx rs ⟨ι, F, W, S, d, ds, hr, r, rr, po⟩
    cases r with
    | @adr a n h =>
      match ds, rr, po with
      | [], rr, po =>
        have := rr.zero
        subst this
        unfold meD at po
        simp only at po
        cases q : S[n]? with
        | none => rw [q] at po; exact po.elim
        | some o =>
          cases o with
          | lst es =>
            rw [q] at po
            obtain ⟨xs', ha, ry, z⟩ := hr.adrL h q
            exact mt_clear pins s σ H _ _ v us Q I rx rs ⟨a, xs', rfl, rfl, ha, po.now (hr.write h _ (.lst []) (.lst upd_same .nil (by simp))) _ .non⟩
          | _ => rw [q] at po; exact po.elim
      | _ :: _, _, po => exact po.elim
    | _ => exact po.elim
  | insert =>
    refine ⟨_, PySem.F.plainAttrs_list, PySem.F.slot_list_insert, PySem.F.type_list_insert, ?_⟩
    intro pins s σ H x xs v us Q I rx rs ⟨ι, F, W, S, d, ds, hr, r, rr, po⟩
    cases r with
    | @adr a n h =>
      match ds, rr, po with
      | [.int i, y], rr, po =>
        obtain ⟨w, w2, rfl, rw_, r2⟩ := rr.two
        cases rw_
        unfold meD at po
        simp only at po
        cases q : S[n]? with
        | none => rw [q] at po; exact po.elim
        | some o =>
          cases o with
          | lst es =>
            rw [q] at po
            simp only at po
            by_cases c : es.length < big ∧ 0 ≤ i ∧ i < 2 ^ 62
            · rw [if_pos c] at po
              obtain ⟨xs', ha, ry, z⟩ := hr.adrL h q
              refine mt_insert pins s σ H _ _ v us Q I rx rs ⟨a, xs', i, w2, rfl, rfl, ha, by rw [ry.length]; exact lt_line (Nat.le_of_lt c.1), c.2.1, by omega, ?_⟩
              refine po.now (hr.write h _ (.lst (insL es i y)) (.lst upd_same (((ry.take _).append (.cons r2 .nil)).append (ry.drop _)) ?_)) _ .non
              have := c.1
              unfold insL
              simp
              omega
            · rw [if_neg c] at po; exact po.elim
          | _ => rw [q] at po; exact po.elim
      | [], _, po => exact po.elim
      | [z], _, po => cases z <;> exact po.elim
      | .non :: _ :: _, _, po => exact po.elim
      | .bl _ :: _ :: _, _, po => exact po.elim
      | .str _ :: _ :: _, _, po => exact po.elim
      | .tup _ :: _ :: _, _, po => exact po.elim
      | .lst _ :: _ :: _, _, po => exact po.elim
      | .ro _ :: _ :: _, _, po => exact po.elim
      | .dct _ :: _ :: _, _, po => exact po.elim
      | .adr _ :: _ :: _, _, po => exact po.elim
      | .int _ :: _ :: _ :: _, _, po => exact po.elim
    | _ => exact po.elim
  | get =>
    refine ⟨_, PySem.F.plainAttrs_dict, PySem.F.slot_dict_get, PySem.F.type_dict_get, ?_⟩
    intro pins s σ H x xs v us Q I rx rs ⟨ι, F, W, S, d, ds, hr, r, rr, po⟩
    have po' : Post G ι F W E (RV G Q) (meD .get d ds S) := po
    match ds, rr, po' with
    | [y], rr, po =>
      obtain ⟨w, rfl, rw_⟩ := rr.one
      have po : Post G ι F W E (RV G Q) (match dctO S d, keyO y with | some kds, some k => Res.ok ((valD kds k).getD .non) S | _, _ => .bad) := by cases d <;> exact po
      cases q : dctO S d with
      | none => rw [q] at po; exact po.elim
      | some kds =>
        rw [q] at po
        cases q2 : keyO y with
        | none => rw [q2] at po; exact po.elim
        | some k =>
          rw [q2] at po
          simp only at po
          obtain ⟨a, kvs, rfl, ha, rk, z⟩ := Rep.dctO hr r q
          have ek := rw_.key q2
          subst ek
          obtain ⟨u, rfl, ru⟩ := rs.one
          cases rx
          rcases rk.val (k := k) with ⟨e1, e2⟩ | ⟨d', v', e1, e2, e3⟩
          · rw [e1] at po
            exact d_get1 (o := none) (by omega) I (.inl ⟨kvs, k, .inl ha, rfl, e2.symm⟩) ru fun w' s' J r' => ⟨_, H, J, r', po.now hr _ .non⟩
          · rw [e1] at po
            exact d_get1 (o := some v') (by omega) I (.inl ⟨kvs, k, .inl ha, rfl, e2.symm⟩) ru fun w' s' J r' => ⟨_, H, J, r', po.now hr _ e3⟩
    | [y, y2], rr, po =>
      obtain ⟨w, w2, rfl, rw_, rw2⟩ := rr.two
      have po : Post G ι F W E (RV G Q) (match dctO S d, keyO y with | some kds, some k => Res.ok ((valD kds k).getD y2) S | _, _ => .bad) := by cases d <;> exact po
      cases q : dctO S d with
      | none => rw [q] at po; exact po.elim
      | some kds =>
        rw [q] at po
        cases q2 : keyO y with
        | none => rw [q2] at po; exact po.elim
        | some k =>
          rw [q2] at po
          simp only at po
          obtain ⟨a, kvs, rfl, ha, rk, z⟩ := Rep.dctO hr r q
          have ek := rw_.key q2
          subst ek
          obtain ⟨u, u2, rfl, ru, ru2⟩ := rs.two
          cases rx
          rcases rk.val (k := k) with ⟨e1, e2⟩ | ⟨d', v', e1, e2, e3⟩
          · rw [e1] at po
            exact d_get2 (o := none) (by omega) I (.inl ⟨kvs, k, .inl ha, rfl, e2.symm⟩) ru ru2 fun w' s' J r' => ⟨_, H, J, r', po.now hr _ rw2⟩
          · rw [e1] at po
            exact d_get2 (o := some v') (by omega) I (.inl ⟨kvs, k, .inl ha, rfl, e2.symm⟩) ru ru2 fun w' s' J r' => ⟨_, H, J, r', po.now hr _ e3⟩
    | [], _, po => cases d <;> exact po.elim
    | _ :: _ :: _ :: _, _, po => cases d <;> exact po.elim
  | popD =>
    refine ⟨_, PySem.F.plainAttrs_dict, PySem.F.slot_dict_pop, PySem.F.type_dict_pop, ?_⟩
    intro pins s σ H x xs v us Q I rx rs ⟨ι, F, W, S, d, ds, hr, r, rr, po⟩
    cases r with
    | @adr a n h =>
      match ds, rr, po with
      | [y], rr, po =>
        obtain ⟨w, rfl, rw_⟩ := rr.one
        unfold meD at po
        simp only at po
        cases q : S[n]? with
        | none => rw [q] at po; exact po.elim
        | some o =>
          cases o with
          | dct kds =>
            rw [q] at po
            cases q2 : keyO y with
            | none => rw [q2] at po; exact po.elim
            | some k =>
              rw [q2] at po
              simp only at po
              cases e : valD kds k with
              | none => rw [e] at po; exact po.elim
              | some y' =>
                rw [e] at po
                obtain ⟨kvs, ha, rk, z⟩ := hr.adrD h q
                have ek := rw_.key q2
                subst ek
                obtain ⟨u, rfl, ru⟩ := rs.one
                cases rx
                rcases rk.val (k := k) with ⟨e1, e2⟩ | ⟨d', v', e1, e2, e3⟩
                · rw [e] at e1; cases e1
                · rw [e] at e1
                  cases e1
                  refine d_pop I ha ru e2 (.inl rfl) fun w' s' J r' => ⟨_, _, J, r', ?_⟩
                  exact po.now (hr.write h _ (.dct (dropD kds k)) (.dct upd_same rk.drop (Nat.le_trans (List.length_filter_le ..) z))) _ e3
          | _ => rw [q] at po; exact po.elim
      | [], _, po => exact po.elim
      | _ :: _ :: _, _, po => exact po.elim
    | _ => exact po.elim
  | clearD =>
    refine ⟨_, PySem.F.plainAttrs_dict, PySem.F.slot_dict_clear, PySem.F.type_dict_clear, ?_⟩
    intro pins s σ H x xs v us Q I rx rs ⟨ι, F, W, S, d, ds, hr, r, rr, po⟩
    cases r with
    | @adr a n h =>
      match ds, rr, po with
      | [], rr, po =>
        have := rr.zero
        subst this
        cases rs
        cases rx
        unfold meD at po
        simp only at po
        cases q : S[n]? with
        | none => rw [q] at po; exact po.elim
        | some o =>
          cases o with
          | dct kds =>
            rw [q] at po
            obtain ⟨kvs, ha, rk, z⟩ := hr.adrD h q
            refine d_clear I ha fun s' J => ⟨.non, _, J, rfl, ?_⟩
            exact po.now (hr.write h _ (.dct []) (.dct upd_same .nil (by simp))) _ .non
          | _ => rw [q] at po; exact po.elim
      | _ :: _, _, po => exact po.elim
    | _ => exact po.elim
  | setd =>
    refine ⟨_, PySem.F.plainAttrs_dict, PySem.F.slot_dict_setdefault, PySem.F.type_dict_setdefault, ?_⟩
    intro pins s σ H x xs v us Q I rx rs ⟨ι, F, W, S, d, ds, hr, r, rr, po⟩
    cases r with
    | @adr a n h =>
      match ds, rr, po with
      | [y, y2], rr, po =>
        obtain ⟨w, w2, rfl, rw_, rw2⟩ := rr.two
        unfold meD at po
        simp only at po
        cases q : S[n]? with
        | none => rw [q] at po; exact po.elim
        | some o =>
          cases o with
          | dct kds =>
            rw [q] at po
            cases q2 : keyO y with
            | none => rw [q2] at po; exact po.elim
            | some k =>
              rw [q2] at po
              simp only at po
              by_cases c : kds.length < big
              · rw [if_pos c] at po
                obtain ⟨kvs, ha, rk, z⟩ := hr.adrD h q
                have ek := rw_.key q2
                subst ek
                obtain ⟨u, u2, rfl, ru, ru2⟩ := rs.two
                cases rx
                refine d_setd I ha ru ru2 (by rw [rk.length]; exact lt_line (Nat.le_of_lt c)) (fun v' ev w' s' J r' => ⟨_, H, J, r', ?_⟩) fun ev w' s' J r' => ⟨_, _, J, r', ?_⟩
                · rcases rk.val (k := k) with ⟨e1, e2⟩ | ⟨d', v2, e1, e2, e3⟩
                  · rw [ev] at e2; cases e2
                  · rw [ev] at e2
                    cases e2
                    rw [e1] at po
                    exact po.now hr _ e3
                · rcases rk.val (k := k) with ⟨e1, e2⟩ | ⟨d', v2, e1, e2, e3⟩
                  · rw [e1] at po
                    exact po.now (hr.write h _ (.dct (putD kds k y2)) (.dct upd_same (rk.put rw2) (Nat.le_trans (putD_length _ _ _) c))) _ rw2
                  · rw [ev] at e2; cases e2
              · rw [if_neg c] at po; exact po.elim
          | _ => rw [q] at po; exact po.elim
      | [], _, po => exact po.elim
      | [_], _, po => exact po.elim
      | _ :: _ :: _ :: _, _, po => exact po.elim
    | _ => exact po.elim

/-! ### own defs -/
/-- the names stand as they do where an exception comes up -/
def atM {α : Type} (ρ : DEnv) (m : M α) : M α := fun S => match m S with
  | .ok a S' => .ok a S'
  | .exc x S' => .exc { x with env := ρ } S'
  | .bad => .bad
theorem Post.atM {ι : List Addr} {F W : Hp} {α : Type} {R : RT α} {m : M α} {S : Store} {ρ : DEnv} {σ : L2.St} (he : EnvR G ι F ρ σ) (h : Post G ι F W E R (atM ρ m S)) : Post G ι F W (fun _ => E σ) R (m S) := by
  unfold CI.atM at h
  cases e : m S with
  | ok a S' => rw [e] at h; exact h
  | exc x S' => rw [e] at h; exact fun σ' c dd ι' F' H' _ l hr q => h σ c dd ι' F' H' (he.mono l) l hr q
  | bad => rw [e] at h; exact h
theorem Post.seqAt {ι : List Addr} {F W : Hp} {α β : Type} {R : RT β} {m : M α} {f : α → M β} {S : Store} {ρ : DEnv} (h : Post G ι F W E R (bnd m (fun a => CI.atM ρ (f a)) S)) {R1 : RT α}
    (k : ∀ ι1 F1 S1 H1 d, Le ι F ι1 F1 → HR G ι1 F1 W S1 H1 → Post G ι1 F1 W E R (CI.atM ρ (f d) S1) → R1 ι1 F1 S1 H1 d) : Post G ι F W E R1 (m S) := Post.seq h k
theorem PE.any {X : Cx} {e : Expr} {β : Type} {p : β → Prop} {t : β → TE} (h : ∀ b, p b → PE X e (t b)) : PE X e (fun σ H Q => ∃ b, p b ∧ t b σ H Q) := ⟨fun pins s σ H Q I ⟨b, hp, q⟩ => (h b hp).run pins s σ H Q I q⟩
def spC (G : Gx) (n : Nat) (g : List D → M D) : Sp := fun vs H Q E => vs.length = n ∧ ∃ ι F W S ds, HR G ι F W S H ∧ Reps G.K ι F vs ds ∧ Post G ι F W (fun _ => E) (RV G Q) (g ds S)
def callM (fs : DEnv → M (List D)) (g : List D → M D) : DEnv → M D := fun ρ => bnd (fs ρ) fun ds => atM ρ (g ds)
theorem eI_call (f : Fit X G E) {k n : Nat} {g : List D → M D} {fn : Addr} {fd : FuncData} {ps : List Str} (FO : FnOk X.prog X.w X.K X.mg X.base G.CX k fn fd ps (spC G n g)) (hn : ps.length = n) (hr : Room k X.A) (hg : Gl X x) (hm : X.mg x = some (.ref fn)) (hk : PySem.W.keepIn X.K (.ref fn) = true)
    (hb : Binds X.K fd ps []) (hx : ∀ σ, PassesAt G.CX X σ (E σ)) (hx0 : es = [] → ∀ σ, Passes G.CX X (E σ)) (hs : PA X es (tIs G E fs)) (ns : es.all noStar = true) (hf : es = [] → fs = nilM) (hdb : (x == ("__debug__" : Str)) = false) (hl : ∀ ds S, g ds S ≠ .bad → ds.length = n) :
    PE X (.Call (.Name x p) es [] pos) (tI G E (callM fs g)) := by
  have post : ∀ {σ : L2.St} {H : Hp} {Q : VK}, tI G E (callM fs g) σ H Q → tIs G E fs σ H (fun vs H1 => spC G n g vs H1 Q (E σ)) := fun {σ H Q} ⟨ρ, S, ι, F, W, he, h0, po⟩ => by
    refine ⟨ρ, S, ι, F, W, he, h0, Post.seq (m := fs ρ) po fun ι1 F1 S1 H1 ds l1 h1 po => fun vs rs => ?_⟩
    have po := po.atM (he.mono l1)
    exact ⟨by rw [rs.length]; exact hl _ _ po.ne_bad, ι1, F1, W, S1, ds, h1, rs, po⟩
  cases es with
  | nil =>
    rw [hf rfl] at post ⊢
    refine PE.imp (PE.any (p := fun _ : L2.St => True) fun σ0 _ => pe_call0 FO hr hg hm hk hb .nil (hx0 rfl σ0) hdb) fun σ H Q h => ⟨σ, trivial, ?_⟩
    obtain ⟨ρ, S, ι, F, W, he, h0, po⟩ := post h
    exact po.now h0 _ .nil
  | cons e es =>
    have ns' := ns
    rw [List.all_cons, Bool.and_eq_true] at ns'
    exact PE.imp (pe_callS FO hr hg hm hk hb hx hs hdb (star_cons ns'.1) (star_any ns'.2)) fun σ H Q h => post h
end
end CI

/-! Instances: fields, methods, making. -/
namespace CI
open PySem PySem.Spec PyProof.Rows L2 HT

theorem bnd_ok {α β : Type} {m : M α} {f : α → M β} {S S' : Store} {a : α} (e : m S = .ok a S') : bnd m f S = f a S' := by
  unfold CI.bnd
  rw [e]
theorem bnd_exc {α β : Type} {m : M α} {f : α → M β} {S S' : Store} {x : Exn} (e : m S = .exc x S') : bnd m f S = .exc x S' := by
  unfold CI.bnd
  rw [e]
theorem bnd_bad {α β : Type} {m : M α} {f : α → M β} {S : Store} (e : m S = .bad) : bnd m f S = .bad := by
  unfold CI.bnd
  rw [e]
theorem look_some {α : Type} {f : Store → Option α} {S : Store} {a : α} (e : f S = some a) : look f S = .ok a S := by
  unfold CI.look
  rw [e]
theorem look_none {α : Type} {f : Store → Option α} {S : Store} (e : f S = none) : look f S = .bad := by
  unfold CI.look
  rw [e]
def insO (S : Store) (d : D) : Option (Str × List (Str × D)) := match d with
  | .adr n => (match S[n]? with | some (.ins c fs) => some (c, fs) | _ => none)
  | _ => none
/-- a field of an instance of one of the classes cs -/
def fldO (cs : List Str) (f : Str) (S : Store) (d : D) : Option D := match insO S d with
  | some (c, fs) => if cs.contains c = true then fs.lookup f else none
  | none => none
def putFD (f : Str) (v : D) : List (Str × D) → List (Str × D)
  | [] => [(f, v)]
  | (g, x) :: r => if g = f then (g, v) :: r else (g, x) :: putFD f v r
def setfD (cs : List Str) (f : Str) (o x : D) : M Unit := fun S => match o with
  | .adr n => (match S[n]? with
    | some (.ins c fs) => if cs.contains c = true ∧ fs.length < 100 then .ok () (S.set n (.ins c (putFD f x fs))) else .bad
    | _ => .bad)
  | _ => .bad
theorem putFD_len (f : Str) (v : D) : ∀ fs : List (Str × D), (putFD f v fs).length ≤ fs.length + 1
  | [] => Nat.le_refl _
  | (g, x) :: r => by
    unfold putFD
    split
    · simp
    · have := putFD_len f v r; simp; omega
section
variable {X : Cx} {G : Gx} {E : XS} {a e : Expr} {es : List Expr} {fa : DEnv → M D} {fs : DEnv → M (List D)} {p pos apos : Pos} {x : Str}
theorem RepFs.lookup {ι : List Addr} {F : Hp} {f : Str} : ∀ {vs : List (Str × V)} {ds : List (Str × D)} {d : D}, RepFs G.K ι F vs ds → ds.lookup f = some d → ∃ v, vs.lookup f = some v ∧ Rep G.K ι F v d
  | _, _, _, .nil, h => by cases h
  | _, _, d, .cons (k := k) r t, h => by
    rw [List.lookup_cons] at h ⊢
    cases q : f == k with
    | true =>
      rw [q] at h
      cases h
      exact ⟨_, rfl, r⟩
    | false =>
      rw [q] at h
      exact RepFs.lookup t h
theorem RepFs.none_ {ι : List Addr} {F : Hp} {f : Str} : ∀ {vs : List (Str × V)} {ds : List (Str × D)}, RepFs G.K ι F vs ds → ds.lookup f = none → vs.lookup f = none
  | _, _, .nil, _ => rfl
  | _, _, .cons (k := k) r t, h => by
    rw [List.lookup_cons] at h ⊢
    cases q : f == k with
    | true => rw [q] at h; cases h
    | false => rw [q] at h; exact RepFs.none_ t h
theorem RepFs.length {ι : List Addr} {F : Hp} : ∀ {vs : List (Str × V)} {ds : List (Str × D)}, RepFs G.K ι F vs ds → vs.length = ds.length
  | _, _, .nil => rfl
  | _, _, .cons r t => by simp [RepFs.length t]
theorem RepFs.put {ι : List Addr} {F : Hp} {f : Str} {v : V} {d : D} (r : Rep G.K ι F v d) : ∀ {vs : List (Str × V)} {ds : List (Str × D)}, RepFs G.K ι F vs ds → RepFs G.K ι F (putF f v vs) (putFD f d ds)
  | _, _, .nil => .cons r .nil
  | _, _, .cons (k := k) h t => by
    unfold putF putFD
    split
    · exact .cons r t
    · exact .cons h (RepFs.put r t)
theorem Rep.insO {ι : List Addr} {F H : Hp} {W : Hp} {S : Store} (hr : HR G ι F W S H) {v : V} {d : D} {c : Str} {ds : List (Str × D)} (r : Rep G.K ι F v d) (h : insO S d = some (c, ds)) :
    ∃ a C dx fs n, v = .ref a ∧ d = .adr n ∧ S[n]? = some (.ins c ds) ∧ ι[n]? = some a ∧ H a = some (.ins C dx fs) ∧ G.cls c = some C ∧ RepFs G.K ι F fs ds ∧ ds.length ≤ 100 := by
  cases r with
  | @adr a n h' =>
    unfold CI.insO at h
    simp only at h
    cases q : S[n]? with
    | none => rw [q] at h; cases h
    | some o =>
      rw [q] at h
      cases o with
      | ins c' fs' =>
        cases h
        cases hr.obs n a _ h' q with
        | ins e hc rf z => exact ⟨a, _, _, _, n, rfl, rfl, q, h', e, hc, rf, z⟩
      | _ => cases h
  | _ => cases h
/-- what is known of classes -/
def ClsIs (G : Gx) (cs : List Str) (f : Str) : Prop := ∀ c ∈ cs, ∃ C, G.cls c = some C ∧ Cls G.K C ∧ NoAttr G.K C f
def fldM (cs : List Str) (f : Str) (fa : DEnv → M D) : DEnv → M D := fun ρ => bnd (fa ρ) fun d => look fun S => fldO cs f S d
theorem eI_fld (f : Fit X G E) {cs : List Str} {fn : Str} (hc : ClsIs G cs fn) (ha : PE X a (tI G E fa)) (hb : attributeBase a fn X.env (eval a X.env) = eval a X.env) : PE X (.Attribute a fn pos) (tI G E (fldM cs fn fa)) :=
  PE.imp (pe_fld ha hb) fun σ H Q ⟨ρ, S, ι, F, W, he, h0, po⟩ => ⟨ρ, S, ι, F, W, he, h0, po.seq fun ι1 F1 S1 H1 d l1 h1 po => fun v1 r1 => by
    obtain ⟨w, hw, q⟩ := Post.look h1 po
    unfold fldO at hw
    cases q1 : insO S1 d with
    | none => rw [q1] at hw; cases hw
    | some cf =>
      obtain ⟨c, ds⟩ := cf
      rw [q1] at hw
      simp only at hw
      by_cases hin : cs.contains c = true
      · rw [if_pos hin] at hw
        obtain ⟨ad, C, dx, fs, n, rfl, _, _, _, hH, hC, rf, _⟩ := r1.insO h1 q1
        obtain ⟨C', hC', cl, na⟩ := hc c (List.contains_iff_mem.mp hin)
        rw [hC] at hC'
        cases hC'
        obtain ⟨v, hv, rv⟩ := rf.lookup hw
        exact ⟨ad, C, dx, fs, v, rfl, hH, f.hK ▸ cl, f.hK ▸ na, hv, q _ rv⟩
      · rw [if_neg hin] at hw; cases hw⟩
/-- the store of a field, by values -/
theorem setf_run {ι : List Addr} {F H : Hp} {W : Hp} {S : Store} {cs : List Str} {fn : Str} (hc : ClsIs G cs fn) (hr : HR G ι F W S H) {v y : V} {o x : D} (r : Rep G.K ι F v o) (ry : Rep G.K ι F y x) {R : RT Unit} (po : Post G ι F W E R (setfD cs fn o x S)) :
    ∃ a C dx fs, v = .ref a ∧ H a = some (.ins C dx fs) ∧ Cls G.K C ∧ NoAttr G.K C fn ∧ fs.length < 1000 ∧ ∃ S', HR G ι F W S' (upd H a (.ins C dx (putF fn y fs))) ∧ R ι F S' (upd H a (.ins C dx (putF fn y fs))) () := by
  unfold setfD at po
  cases r with
  | @adr a n h' =>
    simp only at po
    cases q : S[n]? with
    | none => rw [q] at po; exact po.elim
    | some ob =>
      rw [q] at po
      cases ob with
      | ins c ds =>
        simp only at po
        by_cases hin : cs.contains c = true ∧ ds.length < 100
        · rw [if_pos hin] at po
          cases hr.obs n a _ h' q with
          | @ins C dx _ fs _ e hC rf z =>
            obtain ⟨C', hC', cl, na⟩ := hc c (List.contains_iff_mem.mp hin.1)
            rw [hC] at hC'
            cases hC'
            have h2 := hr.write h' (.ins C dx (putF fn y fs)) (.ins c (putFD fn x ds)) (.ins upd_same hC (rf.put ry) (by have := putFD_len fn x ds; omega))
            have hl := rf.length
            exact ⟨a, C, dx, fs, rfl, e, cl, na, by omega, _, h2, po.now h2⟩
        · rw [if_neg hin] at po; exact po.elim
      | _ => exact po.elim
  | _ => exact po.elim
def gFld (K : PySem.W.Frag) (to : TE) (f : Str) : TG := fun v σ H Q => to σ H fun x H2 => ∃ a C dx fs, x = .ref a ∧ H2 a = some (.ins C dx fs) ∧ Cls K C ∧ NoAttr K C f ∧ fs.length < 1000 ∧ Q σ (upd H2 a (.ins C dx (putF f v fs)))
theorem pg_fld {o : Expr} {to : TE} {f : Str} (ho : PE X o to) : PG X (.Attribute o f pos) (gFld X.K to f) := by
  refine ⟨fun pins s σ H v u Q I r h => ?_⟩
  rw [assign_Attribute]
  refine wpAny_bind (wpAny_holding (thn (ho.run pins s σ H _ I h) fun ov s1 ⟨x, H2, I2, rx, a, C, dx, fs, ex, ea, c, n, l, q2⟩ => ?_))
  subst ex
  obtain rfl : ov = Value.ref a := rx
  refine wpAny_bind (wpAny_standAt (wpAny_bind (wpAny_holding (setattr_ok I2 ea c n l r fun s3 I3 => ?_))))
  exact wpAny_release ⟨σ, _, I3, q2⟩
/-- o.f = e -/
def setfM (cs : List Str) (fn : Str) (fo fe : DEnv → M D) {β : Type} (k : DEnv → β) : DEnv → M β := fun ρ => bnd (fe ρ) fun x => bnd (fo ρ) fun d => bnd (setfD cs fn d x) fun _ => ret (k ρ)

/-! ### methods -/
def mOf (mt : List (Str × Nat)) (m : Str) (S : Store) (d : D) : Option Nat := match insO S d with
  | some (c, fs) => if (fs.lookup m).isSome = true then none else mt.lookup c
  | none => none
def mcallM (T : Nat → List D → M D) (mt : List (Str × Nat)) (m : Str) (fa : DEnv → M D) (fs : DEnv → M (List D)) : DEnv → M D := fun ρ => bnd (fa ρ) fun d => bnd (look fun S => mOf mt m S d) fun g => bnd (fs ρ) fun ds => atM ρ (T g (d :: ds))
theorem meth_form {o : Expr} {m : Str} {env : Env} (hbase : attributeBase o m env (eval o env) = eval o env) (ns : es.all noStar = true) (hline : (apos.endLine == pos.line) = true) (hlen : es.length < 30) :
    eval (.Call (.Attribute o m apos) es [] pos) env = (do
      let ov ← eval o env
      standAt apos.atName
      let (f, first) ← holding [ov] (getMethod ov m (do return (← importBound o env).getD true))
      callWith pos f first (backTo pos (starEach es env)) (backToKw pos (keywordEach [] env))) := by
  have hform : methodCallForm (es.length + ([] : List Keyword).length) (backTo pos (starEach es env)) (backToKw pos (keywordEach [] env)) = true := by
    unfold methodCallForm
    rw [star_all ns, Bool.and_eq_true, Bool.and_eq_true]
    exact ⟨⟨rfl, rfl⟩, decide_eq_true (show es.length + 0 + 0 < 30 by omega)⟩
  have hpos : methodCallPos true o env apos pos = pure pos := by unfold methodCallPos; simp [hline]
  rw [arm_eval_Call, hbase]
  refine congrArg _ ?_
  funext ov
  refine congrArg _ ?_
  funext _
  unfold methodCall
  rw [hform, hpos]
  unfold calleeOf
  rw [if_pos rfl]
  refine congrArg _ ?_
  funext q
  obtain ⟨f, first⟩ := q
  rfl
structure MB where
  c : Str
  g : Nat
  C : Addr
  fn : Addr
  k : Nat
  fd : FuncData
  ps : List Str
  n : Nat
structure MethAt (X : Cx) (G : Gx) (T : Nat → List D → M D) (m : Str) (b : MB) : Prop where
  cls : G.cls b.c = some b.C
  cl : Cls X.K b.C
  me : Meth X.K b.C m b.fn
  ok : FnOk X.prog X.w X.K X.mg X.base G.CX b.k b.fn b.fd b.ps (spC G b.n (T b.g))
  pl : b.ps.length = b.n
  room : Room b.k X.A
  binds : Binds X.K b.fd b.ps []
  len : ∀ ds S, T b.g ds S ≠ .bad → ds.length = b.n
theorem mOf_some {mt : List (Str × Nat)} {m : Str} {S : Store} {d : D} {g : Nat} (h : mOf mt m S d = some g) : ∃ c fs, insO S d = some (c, fs) ∧ fs.lookup m = none ∧ (c, g) ∈ mt := by
  unfold mOf at h
  cases q : insO S d with
  | none => rw [q] at h; cases h
  | some cf =>
    obtain ⟨c, fs⟩ := cf
    rw [q] at h
    simp only at h
    by_cases hs : (fs.lookup m).isSome = true
    · rw [if_pos hs] at h; cases h
    · rw [if_neg hs] at h
      refine ⟨c, fs, rfl, Option.not_isSome_iff_eq_none.mp hs, ?_⟩
      clear hs q
      induction mt with
      | nil => cases h
      | cons a r ih =>
        obtain ⟨c', g'⟩ := a
        rw [List.lookup_cons] at h
        cases q : c == c' with
        | true =>
          rw [q] at h
          have := eq_of_beq q
          cases h
          subst this
          exact List.mem_cons_self ..
        | false => rw [q] at h; exact List.mem_cons_of_mem _ (ih h)
theorem eI_mcall (f : Fit X G E) {T : Nat → List D → M D} {mt : List (Str × Nat)} {m : Str} (hne : mt ≠ []) (hmt : ∀ c g, (c, g) ∈ mt → ∃ b : MB, b.c = c ∧ b.g = g ∧ MethAt X G T m b) (hx : ∀ σ, Passes G.CX X (E σ)) (ha : PE X a (tI G E fa)) (hs : PA X es (tIs G E fs)) (ns : es.all noStar = true)
    (hf : es = [] → fs = nilM) (hbase : attributeBase a m X.env (eval a X.env) = eval a X.env) (hline : (apos.endLine == pos.line) = true) (hlen : es.length < 30) :
    PE X (.Call (.Attribute a m apos) es [] pos) (tI G E (mcallM T mt m fa fs)) := by
  have all : ∀ b : MB × L2.St, MethAt X G T m b.1 → PE X (.Call (.Attribute a m apos) es [] pos) (tMeth b.1.C m (spC G b.1.n (T b.1.g)) [] (E b.2) (tI G E fa) (tIs G E fs)) := fun b hb => by
    cases es with
    | nil =>
      rw [hf rfl]
      refine PE.imp (pe_meth0 ha hb.cl hb.me hb.ok hb.room hb.binds .nil (hx b.2) (meth_form hbase ns hline hlen)) fun σ H Q ⟨ρ, S, ι, F, W, he, h0, po⟩ => ?_
      exact ⟨ρ, S, ι, F, W, he, h0, po.mono fun ι' F' S' H' d l hr q v r => by
        obtain ⟨ad, dx, fs', e1, e2, e3, ρ2, S2, ι2, F2, W2, he2, h2, po2⟩ := q v r
        exact ⟨ad, dx, fs', e1, e2, e3, po2.now h2 [] .nil⟩⟩
    | cons e es =>
      have ns' := ns
      rw [List.all_cons, Bool.and_eq_true] at ns'
      exact pe_meth ha hb.cl hb.me hb.ok hb.room hb.binds .nil (hx b.2) hs (star_cons ns'.1) (star_any ns'.2) (meth_form hbase ns hline hlen)
  refine PE.imp (PE.any all) fun σ H Q ⟨ρ, S, ι, F, W, he, h0, po⟩ => ?_
  unfold mcallM at po
  cases e : fa ρ S with
  | bad =>
    unfold CI.bnd at po
    rw [e] at po
    exact po.elim
  | exc x S' =>
    have po : Post G ι F W E (RV G Q) (.exc x S') := by
      rw [bnd_exc e] at po
      exact po
    obtain ⟨⟨c, g⟩, r, e2⟩ : ∃ q r, mt = q :: r := by
      cases mt with
      | nil => exact absurd rfl hne
      | cons q r => exact ⟨q, r, rfl⟩
    obtain ⟨b, _, _, hb⟩ := hmt c g (by rw [e2]; exact List.mem_cons_self ..)
    exact ⟨(b, σ), hb, ρ, S, ι, F, W, he, h0, by rw [e]; exact po⟩
  | ok d S' =>
    have po : Post G ι F W E (RV G Q) (bnd (look fun S => mOf mt m S d) (fun g => bnd (fs ρ) fun ds => atM ρ (T g (d :: ds))) S') := by
      rw [bnd_ok e] at po
      exact po
    obtain ⟨g, hg⟩ : ∃ g, mOf mt m S' d = some g := by
      cases q : mOf mt m S' d with
      | some g => exact ⟨g, rfl⟩
      | none =>
        rw [bnd_bad (look_none (f := fun S => mOf mt m S d) q)] at po
        exact po.elim
    have po : Post G ι F W E (RV G Q) (bnd (fs ρ) (fun ds => atM ρ (T g (d :: ds))) S') := by
      rw [bnd_ok (look_some (f := fun S => mOf mt m S d) hg)] at po
      exact po
    obtain ⟨c, fds, hi, hn, hm⟩ := mOf_some hg
    obtain ⟨b, rfl, rfl, hb⟩ := hmt c g hm
    refine ⟨(b, σ), hb, ρ, S, ι, F, W, he, h0, ?_⟩
    rw [e]
    intro ι1 F1 H1 l1 h1 v r
    obtain ⟨ad, C, dx, fs', n, rfl, _, _, _, hH, hC, rf, _⟩ := r.insO h1 hi
    have hC' := hb.cls
    rw [hC] at hC'
    cases hC'
    refine ⟨ad, dx, fs', rfl, hH, rf.none_ hn, ρ, S', ι1, F1, W, he.mono l1, h1, (po.le l1).seq fun ι2 F2 S2 H2 ds l2 h2 po => fun vs rs => ?_⟩
    show spC G b.n (T b.g) (V.ref ad :: (vs ++ [])) H2 Q (E σ)
    rw [List.append_nil]
    have po := po.atM ((he.mono l1).mono l2)
    have hl := hb.len _ _ po.ne_bad
    exact ⟨by rw [List.length_cons, rs.length]; simpa using hl, ι2, F2, W, S2, _, h2, .cons (r.mono l2) rs, po⟩

/-! ### making -/
/-- an object that is nobody's concern -/
theorem HR.other {ι : List Addr} {F W : Hp} {S : Store} {H : Hp} {p : Addr} (h : HR G ι F W S H) (hp : H p = none) (o : HO) : HR G ι F W S (upd H p o) := by
  have fp : F p = none := by
    cases q : F p with
    | none => rfl
    | some u => rw [h.sub p u q] at hp; cases hp
  refine ⟨fun a u e => by rw [upd_ne (ne_of_none e fp)]; exact h.sub a u e, h.len, h.nd, h.sep, fun a u e => ?_, fun n a ob e1 e2 => ?_, h.held.next (Le.refl _ _) fun d fv q1 q2 q3 q4 => ⟨by rw [upd_ne (ne_of_none q1 hp)]; exact q1, q2, q3, q4⟩⟩
  · obtain ⟨q1, q2, q3⟩ := h.aside a u e
    exact ⟨by rw [upd_ne (ne_of_none q1 hp)]; exact q1, q2, q3⟩
  · cases h.obs n a ob e1 e2 with
    | lst q r z => exact .lst (by rw [upd_ne (ne_of_none q hp)]; exact q) r z
    | dct q r z => exact .dct (by rw [upd_ne (ne_of_none q hp)]; exact q) r z
    | ins q c r z => exact .ins (by rw [upd_ne (ne_of_none q hp)]; exact q) c r z
    | dcn q c x y n s r z => exact .dcn (by rw [upd_ne (ne_of_none q hp)]; exact q) c x y n s r z
structure MkB where
  C : Addr
  fn : Addr
  k : Nat
  fd : FuncData
  ps : List Str
structure MkAt (X : Cx) (G : Gx) (T : Nat → List D → M D) (x : Str) (g n : Nat) (b : MkB) : Prop where
  cls : G.cls x = some b.C
  mka : Mk X.K b.C b.fn
  ok : FnOk X.prog X.w X.K X.mg X.base G.CX b.k b.fn b.fd b.ps (spC G n (T g))
  pl : b.ps.length = n
  room : Room (b.k + 1) X.A
  binds : Binds X.K b.fd b.ps []
  mg : X.mg x = some (.ref b.C)
  len : ∀ ds S, T g ds S ≠ .bad → ds.length = n
def newI (c : Str) : M D := fun S => .ok (.adr S.length) (S ++ [.ins c []])
def mkD (T : Nat → List D → M D) (c : Str) (g : Nat) (ds : List D) : M D := bnd (newI c) fun o => bnd (T g (o :: ds)) fun r => match r with
  | .non => ret o
  | _ => fail
theorem eI_mk (f : Fit X G E) {T : Nat → List D → M D} {g n : Nat} {b : MkB} (hb : MkAt X G T x g n b) (hg : Gl X x) (hx : ∀ σ, Passes G.CX X (E σ)) (hs : PA X es (tIs G E fs)) (ns : es.all noStar = true) (hf : es = [] → fs = nilM) (hdb : (x == ("__debug__" : Str)) = false) :
    PE X (.Call (.Name x p) es [] pos) (tI G E (callM fs (mkD T x g))) := by
  have post : ∀ {σ : L2.St} {H : Hp} {Q : VK}, tI G E (callM fs (mkD T x g)) σ H Q → tMake b.C (spC G n (T g)) [] (E σ) (tIs G E fs) σ H Q := fun {σ H Q} ⟨ρ, S, ι, F, W, he, h0, po⟩ => by
    refine ⟨ρ, S, ι, F, W, he, h0, Post.seq (m := fs ρ) po fun ι1 F1 S1 H1 ds l1 h1 po => fun vs rs => ?_⟩
    intro ax dx nx ndx nex
    rw [List.append_nil]
    have h2 := h1.other ndx (.own ax)
    have nx2 : (upd H1 dx (.own ax)) ax = none := by rw [upd_ne (Ne.symm nex)]; exact nx
    obtain ⟨h3, l3⟩ := h2.lay nx2 (.ins b.C dx []) (.ins x []) fun ι' l => .ins upd_same hb.cls .nil (Nat.zero_le _)
    have po : Post G ι1 F1 W (fun _ => E σ) (RV G Q) (bnd (T g (.adr S1.length :: ds)) (fun r => match r with | .non => ret (.adr S1.length) | _ => fail) (S1 ++ [.ins x []])) := po.atM (he.mono l1)
    have hat : (ι1 ++ [ax])[S1.length]? = some ax := by
      rw [← h1.len, List.getElem?_append_right (Nat.le_refl _), Nat.sub_self]
      rfl
    have po := po.le l3
    have hl := hb.len (.adr S1.length :: ds) (S1 ++ [.ins x []]) (fun e => by
      unfold CI.bnd at po
      rw [e] at po
      exact po.elim)
    refine ⟨by rw [List.length_cons, rs.length]; simpa using hl, _, F1, W, _, _, h3, .cons (.adr hat) (rs.mono l3), po.seq fun ι4 F4 S4 H4 r l4 h4 po => fun v rv => ?_⟩
    cases rv with
    | non => exact ⟨rfl, po.now h4 _ (.adr (l4.at hat))⟩
    | _ => exact po.elim
  cases es with
  | nil =>
    rw [hf rfl] at post ⊢
    refine PE.imp (PE.any (p := fun _ : L2.St => True) fun σ0 _ => pe_make0 hb.mka hb.ok hb.room hg hb.mg hb.binds .nil (hx σ0) hdb) fun σ H Q h => ⟨σ, trivial, ?_⟩
    obtain ⟨ρ, S, ι, F, W, he, h0, po⟩ := post h
    exact po.now h0 _ .nil
  | cons e es =>
    have ns' := ns
    rw [List.all_cons, Bool.and_eq_true] at ns'
    exact PE.imp (PE.any (p := fun _ : L2.St => True) fun σ0 _ => pe_make hb.mka hb.ok hb.room hg hb.mg hb.binds .nil (hx σ0) hs hdb (star_cons ns'.1) (star_any ns'.2)) fun σ H Q h => ⟨σ, trivial, post h⟩
end
end CI

/-! enumerate of a tuple. -/
namespace CI
open PySem PySem.Spec PyProof.Rows L2 HT
theorem meets_enumerate_new1 {v : Value} {o : Obj} {H : Heap → Prop} (B : Begins v o H) :
    Meets (Builtin.«enumerate.__new__» ⟨[.type "enumerate", v], []⟩) (fun _ R s => H s.heap ∧
      R (.ok (.ret (.ref (s.heap.push o).objs.size))) { s with heap := (s.heap.push o).push { cls := .type "enumerate", data := .fields #[.none, .bool false, .ref s.heap.objs.size, rawInt 0, .none, .none] } }) :=
  .of_wp fun prog w A R s h => by
    obtain ⟨hp, g, d, tk, os⟩ := s; obtain ⟨h1, h⟩ := h
    have hsub := sub_enumerate
    have q1 : ∀ {A' : Around} {E : Value → Shared → Prop} {Q : Value → Shared → Prop}, Q (.ref hp.objs.size) ⟨hp.push o, g, d, tk, os⟩ → wpAny (model prog w) A' (pyIter v) Q E ⟨hp, g, d, tk, os⟩ :=
      fun q => B.iter prog w _ _ ⟨hp, g, d, tk, os⟩ _ h1 q
    wp_walk using q1
    refine wpAny_stack_any fun st => wpAny_pure ?_
    split
    · rename_i c _ _ _ _ _
      cases (c == Value.type "enumerate")
      · wp_walk using q1
        exact ⟨_, rfl, h⟩
      · wp_walk using q1
        exact ⟨_, rfl, h⟩
    · wp_walk using q1
      exact ⟨_, rfl, h⟩
theorem call_enum1 {prog : Program} {w : World} {A : Around} {E : Value → Shared → Prop} {s : Shared} {v : Value} {o : Obj} {H : Heap → Prop} {Q : Value → Shared → Prop} (B : Begins v o H) (h1 : H s.heap)
    (h : ∀ h', IsEnum h' (s.heap.objs.size + 1) s.heap.objs.size 0 .none → h'.get? s.heap.objs.size = some o → h'.objs.size = s.heap.objs.size + 2 →
      (∀ b o, s.heap.get? b = some o → h'.get? b = some o) → Q (.ref (s.heap.objs.size + 1)) { s with heap := h' }) :
    wpAny (model prog w) A (call (.type "enumerate") [v]) Q E s := by
  refine callType_new F.called_enumerate (by decide) (F.typeCall_enumerate_1 _) (F.newCall_enumerate_1 _) (fun obj => F.args_object_init_2 obj _) F.entry_enumerate_new
    (meets_enumerate_new1 B) ⟨h1, ?_⟩
  have hz : (s.heap.push o).objs.size = s.heap.objs.size + 1 := Heap.size_push ..
  show _ ∧ _
  rw [hz]
  have he : IsEnum ((s.heap.push o).push { cls := .type "enumerate", data := .fields #[.none, .bool false, .ref s.heap.objs.size, rawInt 0, .none, .none] }) (s.heap.objs.size + 1) s.heap.objs.size 0 .none := by
    have := Heap.get?_push_size (s.heap.push o) (o := { cls := .type "enumerate", data := .fields #[.none, .bool false, .ref s.heap.objs.size, rawInt 0, .none, .none] }) rfl
    rw [hz] at this; exact this
  refine ⟨⟨_, he, rfl⟩, h _ he (Heap.get?_push_of_some _ (Heap.get?_push_size _ B.free)) (by rw [Heap.size_push, hz]) fun b o x => Heap.get?_push_of_some _ (Heap.get?_push_of_some _ x)⟩
/-- the tuple at a, each item in a new pair -/
def IteT (K : PySem.W.Frag) (a : Addr) : It :=
  ⟨fun i H => ∃ (xs : List V) (x : V), SqT K H a xs ∧ xs[i]? = some x, fun i H v H' => ∃ T x, v = .ref T ∧ H T = none ∧ H' = upd H T (.tup [.int (i : Nat), x]) ∧ ∀ xs, SqT K H a xs → xs[i]? = some x, fun i H => ∃ xs : List V, SqT K H a xs ∧ xs.length ≤ i⟩
theorem turn_enumT {P : Program} {w : World} {K : PySem.W.Frag} {elts : List Expr} {kk : Nat} {tpos : Pos} (a e it : Addr) (hae : a ≠ e) (hai : a ≠ it) :
    Turn P w K (.Tuple elts kk tpos) (IteT K a) [e, it] e (fun i h => (∃ old, IsEnum h e it ((i : Nat) : Int) old) ∧ h.IsTupleIter it a i ∧ e ≠ it) where
  mem := by simp
  obj := fun i h st b hb => by
    obtain ⟨⟨old, he⟩, ⟨o, ho, hc, hd⟩, _⟩ := st
    have e' : b = e ∨ b = it := by simpa using hb
    rcases e' with z | z
    · rw [z]; exact ⟨_, he, fun v q => nomatch q⟩
    · rw [z]; exact ⟨o, ho, fun v q => by rw [hd] at q; cases q⟩
  keep := fun i h h' st k => let ⟨⟨old, he⟩, hi, hne⟩ := st; ⟨⟨old, k e (by simp) _ he⟩, hi.at fun o q => k it (by simp) o q, hne⟩
  item := by
    intro X hP hw hK hc i pins s σ H E I hf st hg
    subst hP hw hK
    obtain ⟨⟨old, he⟩, hit, hne⟩ := st
    obtain ⟨xs, x, hq, hx⟩ := hg
    obtain ⟨its, rv, p, hz⟩ := I.tuple hq
    obtain ⟨u, hu, ru⟩ := rv.get hx
    have hel : e < s.heap.objs.size := Heap.lt_size he
    have hil : it < s.heap.objs.size := by obtain ⟨_, q, _⟩ := hit; exact Heap.lt_size q
    have hh : X.A.in1.handled = none := I.ok.hd hc
    have hlt : i < its.toArray.size := by
      have := (List.getElem?_eq_some_iff.mp hu).1
      simpa using this
    refine wpAny_pyNext_enum_itemC (Draws.tuple hh it a hai its.toArray) he ⟨hit, p⟩ hlt hne (by simp; exact ⟨hne, fun z => hae z.symm⟩) fun y h' tk hP ho hst hT hsz hk => ?_
    obtain ⟨hit', _⟩ := hst
    have hy : y = u := by
      have : its.toArray[i]? = some u := by simpa using hu
      rw [this] at hP
      exact (Option.some.inj hP).symm
    subst hy
    refine ⟨_, rfl, wpAny_letOwnedTupleGo_enum (s := { s with heap := h', toks := tk + 1 }) ho fun h'' he' sb => ?_⟩
    have hT2 : h''.get? s.heap.objs.size = some { cls := .type "tuple", data := .seq #[.int i tk, y] } := (sb.2 _ (Nat.ne_of_gt hel)).trans hT
    have new : ObjOk X.prog X.w (upd H s.heap.objs.size (.tup [.int (i : Nat), x])) h'' s.heap.objs.size (.tup [.int (i : Nat), x]) :=
      ⟨by show 2 ≤ sizeLine; decide, [.int i tk, y], .cons ⟨_, rfl⟩ (.cons ru .nil), ⟨_, hT2, rfl, _, rfl⟩⟩
    have I1 : Inv X pins σ (upd H s.heap.objs.size (.tup [.int (i : Nat), x])) { s with heap := h'', toks := tk + 1 } :=
      I.turnedNew (ch := [e, it]) (fun b ob hb q => (sb.2 b (fun z => hb (by simp [z]))).trans (hk b ob (fun z => hb (by simp [z])) (fun z => hb (by simp [z])) q)) hf (Nat.le_refl _) new
    refine ⟨.ref s.heap.objs.size, _, I1, rfl, ⟨_, x, rfl, I.hok.fresh (Nat.le_refl _), rfl, fun ys hy => ?_⟩, ⟨⟨y, ?_⟩, hit'.at fun o q => (sb.2 it (Ne.symm hne)).trans q, hne⟩, fun b hb => ?_⟩
    · rw [show ys = xs from I.tuple_inj hy hq]; exact hx
    · have e1 : ((i + 1 : Nat) : Int) = (i : Int) + 1 := by omega
      rw [e1]; exact he'
    · have hb' : b < s.heap.objs.size := by
        have e' : b = e ∨ b = it := by simpa using hb
        rcases e' with z | z
        · rw [z]; exact hel
        · rw [z]; exact hil
      rw [upd_ne (Nat.ne_of_lt hb')]
      exact (hf b hb).1
  done := by
    intro X hP hw hK hc i pins s σ H E I hf st hg
    subst hP hw hK
    obtain ⟨⟨old, he⟩, hit, hne⟩ := st
    obtain ⟨xs, hq, hx⟩ := hg
    obtain ⟨its, rv, p, hz⟩ := I.tuple hq
    obtain ⟨f0, f1, f2, f3, f4, f5⟩ := hf it (by simp)
    have hl := rv.length
    have hh : X.A.in1.handled = none := I.ok.hd hc
    have D : Draws X.prog X.w X.A.in1 it [it, a] i (fun j v => its.toArray[j]? = some v) (fun j h => (h.IsTupleIter it a j ∧ h.IsTuple a its.toArray) ∧ j = i) := {
      live := fun _ _ st => let ⟨o, ho, _⟩ := st.1.1; ⟨o, ho⟩
      frame := fun _ _ _ st hk => ⟨⟨st.1.1.at fun o e => hk it (by simp) o e, st.1.2.at fun o e => hk a (by simp) o e⟩, st.2⟩
      item := fun j s Q E hj st hQ => absurd st.2 (Nat.ne_of_lt hj)
      done := fun s Q E st hE => wpAny_nextOf_tuple_end hh st.1.1 st.1.2 (by simp; omega) hE }
    exact wpAny_pyNext_enum_endD D he ⟨⟨hit, p⟩, rfl⟩ fun h' eb => ⟨rfl, I.turned (t' := s.toks) (fun b o hb q => eb b o hb q) f0 f1 f3 f4 f5⟩
  self := fun A i s Q E st h => let ⟨⟨_, he⟩, _⟩ := st; wpAny_pyIter_enum he h
/-- enumerate of a list or of a tuple -/
def iEnum2 (K : PySem.W.Frag) (ta : TA) : TI := fun σ H R => ta σ H fun vs H1 => ∃ a, vs = [.ref a] ∧ ((∃ xs, SqL K H1 a xs ∧ R (Ite K a) H1) ∨ ∃ xs, SqT K H1 a xs ∧ R (IteT K a) H1)
theorem pi_enum2 {X : Cx} {e : Expr} {ta : TA} {p pos tpos : Pos} {elts : List Expr} {kk : Nat} (hg : Gl X "enumerate") (hm : X.mg "enumerate" = none) (ha : PA X [e] ta) (hs : starEach [e] X.env = [(false, eval e X.env)] := by rfl) :
    PI X (.Tuple elts kk tpos) (.Call (.Name "enumerate" p) [e] [] pos) (iEnum2 X.K ta) := by
  refine ⟨fun pins s σ H R I h => ?_⟩
  refine Call_ (ld_blt I hg hm boot_enumerate (PyProof.Rows.callWith_type1 (thn (ha.run pos pins s σ H _ I h) fun us s1 ⟨vs, H1, I1, r1, q1⟩ => ?_) hs rfl))
  obtain ⟨a, ex, q⟩ := q1
  subst ex
  cases r1 with
  | cons r rr =>
    cases rr
    cases r
    have fp : ∀ b ∈ [s1.heap.objs.size + 1, s1.heap.objs.size], s1.heap.objs.size ≤ b := fun b hb => by
      have e' : b = s1.heap.objs.size + 1 ∨ b = s1.heap.objs.size := by simpa using hb
      rcases e' with z | z
      · rw [z]; exact Nat.le_add_right _ _
      · rw [z]; exact Nat.le_refl _
    rcases q with ⟨xs, hq, q⟩ | ⟨xs, hq, q⟩
    · obtain ⟨its, rv, p', hz⟩ := I1.list hq
      refine call_enumerate_list p'.isList fun h' he hit hsz hk => wpAny_pyIter_enum he ?_
      have I2 : Inv X pins σ H1 { s1 with heap := h' } := I1.kept (t' := s1.toks) hk
      exact ⟨s1.heap.objs.size + 1, [s1.heap.objs.size + 1, s1.heap.objs.size], _, _, H1, rfl, I2, turn_enum a (s1.heap.objs.size + 1) s1.heap.objs.size, ⟨⟨.none, he⟩, hit, Nat.succ_ne_self _⟩, fun b hb => I1.fpOk (fp b hb) (I1.hok.fresh (fp b hb)), q⟩
    · obtain ⟨its, rv, p', hz⟩ := I1.tuple hq
      have hal : a < s1.heap.objs.size := p'.lt
      refine call_enum1 (begins_tuple a its.toArray) p' fun h' he hit hsz hk => wpAny_pyIter_enum he ?_
      have I2 : Inv X pins σ H1 { s1 with heap := h' } := I1.kept (t' := s1.toks) hk
      exact ⟨s1.heap.objs.size + 1, [s1.heap.objs.size + 1, s1.heap.objs.size], _, _, H1, rfl, I2, turn_enumT a (s1.heap.objs.size + 1) s1.heap.objs.size (Nat.ne_of_lt (Nat.lt_succ_of_lt hal)) (Nat.ne_of_lt hal), ⟨⟨.none, he⟩, ⟨_, hit, rfl, rfl⟩, Nat.succ_ne_self _⟩, fun b hb => I1.fpOk (fp b hb) (I1.hok.fresh (fp b hb)), q⟩
end CI

/-! A set of the whole numbers of a list or a tuple. -/
namespace CI
open PySem PySem.Spec PyProof.Rows L2 HT
/-- a set that is new -/
abbrev nSet (w : World) : Obj := { cls := .type "set", dict := none, data := .set #[] 0 (.fresh 0 0 (!w.params.followText "set-order")) }
section
variable {P : Program} {w : World} {A : Around} {E : Value → Shared → Prop} {s : Shared}
/-- what the set at a has become -/
def SetN (w : World) (h0 h : Heap) (a : Addr) (ns : List Int) : Prop := (∃ c, SetR w h a (fun j => decide (j ∈ ns)) c ∧ c ≤ ns.length) ∧ ∀ b o, h0.get? b = some o → h.get? b = some o
theorem set_of_list {l : Addr} {xs : Array Value} (ns : List Int) {Q : Value → Shared → Prop} (nh : A.handled = none) (il : s.heap.IsList l xs) (ii : IntsAre xs.toList ns) (few : ns.length + 1 < scanBound)
    (go : ∀ (h' : Heap) (tk : Nat), SetN w s.heap h' s.heap.objs.size ns → Q (.ref s.heap.objs.size) { s with heap := h', toks := tk }) : wpAny (model P w) A (call (.type "set") [.ref l]) Q E s := by
  have zx : xs.size = ns.length := by
    have q := IntsAre.length ii
    rwa [Array.length_toList] at q
  have a1 := F.called_set.made
  have a2 := F.called_set.sub
  have a3 := F.called_set.notType
  have a4 := F.called_set.canCreate
  have a5 := F.typeCall_set_1 (.ref l)
  obtain ⟨c, tl, a6⟩ := F.called_set.mro
  refine wpAny_call (codeAny_of_tree ?_)
  show wpAny _ _ (callAny (.type "set") _) _ _ _
  refine wpAny_pure ⟨Code.quiet_builtin _ (by decide +kernel), codeAny_builtin F.entry_type_call ?_⟩
  rw [Around.under_plain (weight_type_call_type "set" [.ref l] []) rfl]
  repeat (any_goals (first | assumption | wp_step))
  refine codeAny_mono (code_set_led1 (.ref l) (E := E) (Q₁ := fun ob s1 => ob = .ref s.heap.objs.size ∧ s1 = { s with heap := s.heap.push (nSet w) }) ⟨rfl, rfl⟩) fun r s1 hr => ?_
  match r, hr with
  | .error e, hr => exact hr
  | .ok (.ret ob), hr =>
    obtain ⟨rfl, rfl⟩ := hr
    have g1 : (s.heap.push (nSet w)).get? s.heap.objs.size = some (nSet w) := Heap.get?_push_size _ rfl
    have g2 : Shared.TypeIs { s with heap := s.heap.push (nSet w) } (.ref s.heap.objs.size) "set" := ⟨_, g1, rfl⟩
    have b1 := F.called_set.init.lookup
    have b2 := F.called_set.init.bind (.ref s.heap.objs.size)
    repeat (any_goals (first | assumption | wp_step))
    refine codeAny_mono (codeAny_call_builtin (R := wants (fun r s2 => r = .none ∧ ∃ h' tk, s2 = { s with heap := h', toks := tk } ∧ SetN w s.heap h' s.heap.objs.size ns) E) F.called_set.init.plain F.entry_set_init (check_set_init_1 g2 ?_)) fun r2 s2 hr2 => ?_
    · obtain ⟨⟨k1, k2, k3, k4⟩, hol, hcl, nl, hdl⟩ := il
      simp only at hcl hdl
      subst hcl
      subst hdl
      have g3 : (s.heap.push (nSet w)).get? l = some { cls := .type "list", dict := k2, data := .seq xs nl, slots := k4 } := Heap.get?_push_of_some _ hol
      have c1 := F.sub_list_set
      have c2 := F.sub_list_frozenset
      have c3 : (Value.type "list" == Value.type "dict") = false := by decide
      have il1 : (s.heap.push (nSet w)).IsList l xs := ⟨_, g3, rfl, nl, rfl⟩
      unfold Builtin.«set.__init__» noKeywords Builtin.Frozenset.updateFrom
      generalize hP : pyIter = PI
      wp_walk
      subst hP
      refine wpAny_pyIter_list il1 ?_
      refine wpAny_bind (wpAny_runValue ?_)
      have ll : l < s.heap.objs.size := Heap.lt_size hol
      have z1 : (s.heap.push (nSet w)).objs.size = s.heap.objs.size + 1 := Heap.size_push ..
      have nh3 : A.in1.in1.in1.handled = none := by simp [nh]
      refine set_update_ints ((Walks.list nh3 _ l (by rw [z1]; exact Nat.ne_of_lt (Nat.lt_succ_of_lt ll)) xs).toS) s.heap.objs.size (by
        rw [z1]
        simp only [List.mem_cons, List.not_mem_nil, or_false, not_or]
        exact ⟨Nat.ne_of_lt (Nat.lt_succ_self _), Nat.ne_of_gt ll⟩) ns zx few (fun i v hv => ?_) (xs.size - 0) 0 _ (by omega) (Nat.zero_le _) ⟨⟨_, Heap.get?_push_size _ rfl, rfl, rfl⟩, (il1.push _)⟩ ⟨0, Nat.le_refl 0, setR_new_at (Heap.get?_push_of_some _ g1)⟩ ?_
      · have hi : i < ns.length := by rw [← zx]; exact (Array.getElem?_eq_some_iff.mp hv).1
        obtain ⟨t, e⟩ := IntsAre.int_at ii i v (by rw [Array.getElem?_toList]; exact hv)
        exact ⟨ns[i], t, List.getElem?_eq_getElem hi, by rw [e, List.getD_eq_getElem?_getD, List.getElem?_eq_getElem hi] <;> rfl⟩
      · intro s' c' hm hc' hS'
        obtain ⟨h', g', d', tk', os'⟩ := s'
        have eg : g' = s.gens := hm.gens
        have ed : d' = s.drawn := hm.drawn
        have eo : os' = s.os := hm.os
        subst eg
        subst ed
        subst eo
        show wpAny _ _ _ _ _ _
        refine wpAny_pure ?_
        show wpAny _ _ (PySem.ret Value.none) _ _ _
        refine wpAny_pure ⟨rfl, h', tk', rfl, ⟨c', hS', by rw [← zx]; exact hc'⟩, fun b o e => ?_⟩
        have lb := Heap.lt_size e
        refine hm.heap b o ?_ (Heap.get?_push_of_some _ (Heap.get?_push_of_some _ e))
        rw [z1]
        simp only [List.mem_cons, List.not_mem_nil, or_false, not_or]
        exact ⟨Nat.ne_of_lt lb, Nat.ne_of_lt (Nat.lt_succ_of_lt lb)⟩
    · match r2, hr2 with
      | .error e, hr2 => exact hr2
      | .ok (.ret r), hr2 =>
        obtain ⟨rfl, h', tk, rfl, hN⟩ := hr2
        repeat (any_goals (first | assumption | wp_step))
        exact go _ _ hN
end
end CI

/-! len(set(xs)), sorted(set(xs)), sorted(xs) of data, sorted(d.items()). -/
namespace CI
open PySem PySem.Spec PyProof.Rows L2 HT

/-! ### whole numbers in order, each once -/
def insU (x : Int) : List Int → List Int
  | [] => [x]
  | y :: r => if x < y then x :: y :: r else if x = y then y :: r else y :: insU x r
def ordI : List Int → List Int
  | [] => []
  | x :: r => insU x (ordI r)
theorem insU_mem {x k : Int} : ∀ {l : List Int}, k ∈ insU x l ↔ k = x ∨ k ∈ l
  | [] => by simp [insU]
  | y :: r => by
    unfold insU
    by_cases c : x < y
    · rw [if_pos c]; simp
    · rw [if_neg c]
      by_cases d : x = y
      · rw [if_pos d]; simp [d]
      · rw [if_neg d, List.mem_cons, insU_mem, List.mem_cons]
        constructor
        · rintro (h | h | h) <;> simp [h]
        · rintro (h | h | h) <;> simp [h]
theorem insU_lt {x : Int} : ∀ {l : List Int}, l.Pairwise (· < ·) → (insU x l).Pairwise (· < ·)
  | [], _ => by simp [insU]
  | y :: r, h => by
    obtain ⟨h1, h2⟩ := List.pairwise_cons.mp h
    unfold insU
    by_cases c : x < y
    · rw [if_pos c]
      refine List.pairwise_cons.mpr ⟨fun z hz => ?_, h⟩
      rcases List.mem_cons.mp hz with e | hz
      · rw [e]; exact c
      · have := h1 z hz; omega
    · rw [if_neg c]
      by_cases d : x = y
      · rw [if_pos d]; exact h
      · rw [if_neg d]
        refine List.pairwise_cons.mpr ⟨fun z hz => ?_, insU_lt h2⟩
        rcases insU_mem.mp hz with e | hz
        · omega
        · exact h1 z hz
theorem ordI_lt : ∀ l : List Int, (ordI l).Pairwise (· < ·)
  | [] => .nil
  | x :: r => insU_lt (ordI_lt r)
theorem ordI_mem {k : Int} : ∀ {l : List Int}, k ∈ ordI l ↔ k ∈ l
  | [] => Iff.rfl
  | x :: r => by
    show k ∈ insU x (ordI r) ↔ _
    rw [insU_mem, ordI_mem, List.mem_cons]
theorem lt_unique : ∀ {l m : List Int}, l.Pairwise (· < ·) → m.Pairwise (· < ·) → (∀ k, k ∈ l ↔ k ∈ m) → l = m
  | [], [], _, _, _ => rfl
  | [], y :: m, _, _, e => absurd ((e y).mpr (List.mem_cons_self ..)) (by simp)
  | x :: l, [], _, _, e => absurd ((e x).mp (List.mem_cons_self ..)) (by simp)
  | x :: l, y :: m, h1, h2, e => by
    obtain ⟨a1, a2⟩ := List.pairwise_cons.mp h1
    obtain ⟨b1, b2⟩ := List.pairwise_cons.mp h2
    have exy : x = y := by
      rcases List.mem_cons.mp ((e x).mp (List.mem_cons_self ..)) with q | q
      · exact q
      · rcases List.mem_cons.mp ((e y).mpr (List.mem_cons_self ..)) with p | p
        · exact p.symm
        · have := a1 y p
          have := b1 x q
          omega
    subst exy
    rw [lt_unique a2 b2 fun k => ?_]
    constructor
    · intro hk
      rcases List.mem_cons.mp ((e k).mp (List.mem_cons_of_mem _ hk)) with q | q
      · have := a1 k hk; omega
      · exact q
    · intro hk
      rcases List.mem_cons.mp ((e k).mpr (List.mem_cons_of_mem _ hk)) with q | q
      · have := b1 k hk; omega
      · exact q
theorem ordI_is {l ns : List Int} (h : l.Pairwise (· < ·)) (e : ∀ k, k ∈ l ↔ k ∈ ns) : ordI ns = l := lt_unique (ordI_lt ns) h fun k => ordI_mem.trans (e k).symm
theorem insU_len {x : Int} : ∀ l : List Int, (insU x l).length ≤ l.length + 1
  | [] => by simp [insU]
  | y :: r => by
    have := insU_len (x := x) r
    unfold insU
    by_cases c : x < y
    · rw [if_pos c]; simp
    · rw [if_neg c]
      by_cases d : x = y
      · rw [if_pos d]; simp
      · rw [if_neg d]; simp; omega
theorem ordI_len : ∀ l : List Int, (ordI l).length ≤ l.length
  | [] => Nat.le_refl _
  | x :: r => by
    have h1 := insU_len (x := x) (ordI r)
    have h2 := ordI_len r
    show (insU x (ordI r)).length ≤ r.length + 1
    omega

/-! ### sets -/
section
variable {X : Cx} {G : Gx} {E : XS}
theorem setR_count {w : World} {h : Heap} {a : Addr} {ns : List Int} {c : Nat} (R : SetR w h a (fun j => decide (j ∈ ns)) c) : c = (ordI ns).length := by
  obtain ⟨o, es, ep, t, _, _, _, _, nd, mem, _, _, sz, _⟩ := R
  have p := sortI_perm (es.toList.map keyOf)
  have q : ordI ns = sortI (es.toList.map keyOf) := ordI_is (lt_of_le_nodup _ (sortI_sorted _) (p.nodup_iff.mpr nd)) fun k => by
    rw [p.mem_iff, ← mem k]
    simp
  rw [q, p.length_eq, List.length_map, Array.length_toList, sz]
def rSetI (X : Cx) : List V → Hp → VK → Prop := fun xs H Q => ∃ a ns, xs = [.ref a] ∧ (SqL X.K H a (ns.map V.int) ∨ SqT X.K H a (ns.map V.int)) ∧ ns.length ≤ 4000 ∧
  ∀ p, H p = none → Q (.ref p) (upd H p (SetO X.w p (fun j => decide (j ∈ ns)) (ordI ns).length))
theorem call_setI (hc : X.calm = true) : CallR X (.type "set") (rSetI X) := by
  intro pins s σ H xs us Q I r ⟨a, ns, e, ha, few, q⟩
  subst e
  rw [Vals.ref1 r]
  have fin : ∀ (h' : Heap) (tk : Nat), SetN X.w s.heap h' s.heap.objs.size ns → EP X pins σ Q (.ref s.heap.objs.size) { s with heap := h', toks := tk } := fun h' tk ⟨⟨c, R, _⟩, k⟩ => by
    rw [setR_count R] at R
    exact ⟨.ref _, upd H s.heap.objs.size (SetO X.w s.heap.objs.size (fun j => decide (j ∈ ns)) (ordI ns).length), I.laid (t' := tk) k (Nat.le_refl _) (setO_new R), rfl, q _ (I.hok.fresh (Nat.le_refl _))⟩
  rcases ha with ha | ha
  · obtain ⟨its, rv, pl, _⟩ := I.list ha
    exact set_of_list ns (I.ok.hd hc) pl.isList (by simpa using rv.ints) (by unfold scanBound; omega) fin
  · obtain ⟨its, rv, pl, _⟩ := I.tuple ha
    exact call_set_tupI ns (I.ok.hd hc) pl (by simpa using rv.ints) (by unfold scanBound; omega) fun h' tk c R hc' k => fin h' tk ⟨⟨c, R, hc'⟩, k⟩
def rLenS (X : Cx) : List V → Hp → VK → Prop := fun xs H Q => ∃ a S n, xs = [V.ref a] ∧ H a = some (SetO X.w a S n) ∧ Q (.int (n : Nat)) H
theorem call_lenS : CallR X (.builtin "len") (rLenS X) := by
  intro pins s σ H xs us Q I r ⟨a, S, n, e, ha, q⟩
  subst e
  rw [Vals.ref1 r]
  obtain ⟨o, es, ep, t, ho, hx, hd, _, _, _, lt, hf, hn, _⟩ := setO_get I ha
  refine call_len_set ho hx hd hf (by unfold scanBound at lt; omega) ⟨.int n, H, I.tok _, ⟨_, by rw [hn]⟩, q⟩
/-- len(set(d)), sorted(set(d)) -/
def uniD (m k : Bool) (d : D) : M D := fun S => match (seqO S d).bind intsO with
  | some ns => if ns.length ≤ 4000 ∧ (ordI ns).length < 64 then (if k = true then fin m ((ordI ns).map D.int) S else .ok (.int (ordI ns).length) S) else .bad
  | none => .bad
def un1 (fa : DEnv → M D) (g : D → M D) : DEnv → M D := fun ρ => bnd (fa ρ) g
theorem setI_of {ι : List Addr} {F H : Hp} {W : Hp} {S : Store} {d : D} {v : V} {ns : List Int} (f : Fit X G E) (hr : HR G ι F W S H) (r : Rep G.K ι F v d) (e : (seqO S d).bind intsO = some ns) : ∃ a, v = .ref a ∧ (SqL X.K H a (ns.map V.int) ∨ SqT X.K H a (ns.map V.int)) := by
  obtain ⟨es, h1, h2⟩ := Option.bind_eq_some_iff.mp e
  obtain ⟨a, xs, rfl, ha, rx, z⟩ := Rep.seqO hr r h1
  have := intsO_rep rx h2
  subst this
  exact ⟨a, rfl, f.hK ▸ ha⟩
variable {a : Expr} {fa : DEnv → M D} {p p2 q pos : Pos}
theorem eI_lenSet (f : Fit X G E) (m : Bool) (hg : Gl X "len") (hm : X.mg "len" = none) (hg2 : Gl X "set") (hm2 : X.mg "set" = none) (ha : PE X a (tI G E fa)) (ns : noStar a = true) :
    PE X (.Call (.Name "len" p) [.Call (.Name "set" p2) [a] [] q] [] pos) (tI G E (un1 fa (uniD m false))) := by
  refine PE.imp (pe_callB call_lenS hg hm boot_len (pa_cons (pe_callTy (call_setI f.calm) hg2 hm2 boot_set (pa_cons ha pa_nil (star_cons ns)) (by decide) (by decide) (star_cons ns) rfl) pa_nil) (by decide) (by decide))
    fun σ H Q ⟨ρ, S, ι, F, W, he, h0, po⟩ => ⟨ρ, S, ι, F, W, he, h0, po.seq fun ι1 F1 S1 H1 d l1 h1 po => fun v1 r1 => ?_⟩
  unfold uniD at po
  cases e : (seqO S1 d).bind intsO with
  | none => rw [e] at po; exact po.elim
  | some ns =>
    rw [e] at po
    simp only at po
    by_cases c : ns.length ≤ 4000 ∧ (ordI ns).length < 64
    · rw [if_pos c] at po
      obtain ⟨b, rfl, hb⟩ := setI_of f h1 r1 e
      refine ⟨b, ns, rfl, hb, c.1, fun t ht => ⟨t, _, _, rfl, upd_same, ?_⟩⟩
      obtain ⟨h2, l2⟩ := h1.keep ht (SetO X.w t (fun j => decide (j ∈ ns)) (ordI ns).length)
      exact Post.now (po.le l2) h2 _ (.int _)
    · rw [if_neg c] at po; exact po.elim
theorem eI_srtSet (f : Fit X G E) (m : Bool) (hg : Gl X "sorted") (hm : X.mg "sorted" = none) (hg2 : Gl X "set") (hm2 : X.mg "set" = none) (ha : PE X a (tI G E fa)) (ns : noStar a = true) :
    PE X (.Call (.Name "sorted" p) [.Call (.Name "set" p2) [a] [] q] [] pos) (tI G E (un1 fa (uniD m true))) := by
  refine PE.imp (pe_callB (cr_sortedSet f.calm) hg hm (Bi.boot .sorted) (pa_cons (pe_callTy (call_setI f.calm) hg2 hm2 boot_set (pa_cons ha pa_nil (star_cons ns)) (by decide) (by decide) (star_cons ns) rfl) pa_nil) (by decide) (by decide))
    fun σ H Q ⟨ρ, S, ι, F, W, he, h0, po⟩ => ⟨ρ, S, ι, F, W, he, h0, po.seq fun ι1 F1 S1 H1 d l1 h1 po => fun v1 r1 => ?_⟩
  unfold uniD at po
  cases e : (seqO S1 d).bind intsO with
  | none => rw [e] at po; exact po.elim
  | some ns =>
    rw [e] at po
    simp only at po
    by_cases c : ns.length ≤ 4000 ∧ (ordI ns).length < 64
    · rw [if_pos c] at po
      simp only [if_true] at po
      obtain ⟨b, rfl, hb⟩ := setI_of f h1 r1 e
      refine ⟨b, ns, rfl, hb, c.1, fun t ht => ⟨t, _, _, rfl, upd_same, c.2, fun ns' l hs hk _ hl => ?_⟩⟩
      obtain ⟨h2, l2⟩ := h1.keep ht (SetO X.w t (fun j => decide (j ∈ ns)) (ordI ns).length)
      have e2 : ordI ns = ns' := ordI_is hs fun k => by rw [hk]; simp
      rw [← e2]
      exact (po.le l2).fin h2 (reps_ints _) (by rw [List.length_map]; unfold big; omega) l hl
    · rw [if_neg c] at po; exact po.elim

end
end CI

/-! sorted(d.items()), d of whole numbers by whole numbers. -/
namespace CI
open PySem PySem.Spec PyProof.Rows L2 HT

/-! ### many tuples that are tracked at once -/
def pT (p : Int × Int) : List V := [.int p.1, .int p.2]
def putF (ob : Addr → Obj) : Hp → List (Addr × (Int × Int)) → Hp
  | H, [] => H
  | H, q :: r => putF ob (upd H q.1 (.frz (ob q.1) (.tup (pT q.2)))) r
section
variable {ob : Addr → Obj}
theorem putF_keep : ∀ {r : List (Addr × (Int × Int))} {H : Hp}, (r.map (·.1)).Nodup → (∀ q ∈ r, H q.1 = none) → ∀ b u, H b = some u → putF ob H r b = some u
  | [], _, _, _, _, _, e => e
  | q :: r, H, nd, fr, b, u, e => by
    obtain ⟨n1, n2⟩ := List.nodup_cons.mp nd
    refine putF_keep n2 (fun t ht => ?_) b u ?_
    · rw [upd_ne (fun z => n1 (by have y : t.1 ∈ r.map (·.1) := List.mem_map_of_mem ht; rw [z] at y; exact y))]
      exact fr t (List.mem_cons_of_mem _ ht)
    · rw [upd_ne (fun z => by rw [z, fr q (List.mem_cons_self ..)] at e; cases e)]
      exact e
theorem putF_new : ∀ {r : List (Addr × (Int × Int))} {H : Hp}, ∀ b u, putF ob H r b = some u → H b = some u ∨ ∃ p, (b, p) ∈ r ∧ u = .frz (ob b) (.tup (pT p))
  | [], _, b, u, e => .inl e
  | q :: r, H, b, u, e => by
    rcases putF_new (r := r) b u e with h | ⟨p, h1, h2⟩
    · by_cases z : b = q.1
      · rw [z, upd_same] at h
        cases h
        exact .inr ⟨q.2, by rw [z]; exact List.mem_cons_self .., by rw [z]⟩
      · rw [upd_ne z] at h; exact .inl h
    · exact .inr ⟨p, List.mem_cons_of_mem _ h1, h2⟩
theorem putF_at : ∀ {r : List (Addr × (Int × Int))} {H : Hp}, (r.map (·.1)).Nodup → (∀ q ∈ r, H q.1 = none) → ∀ q ∈ r, putF ob H r q.1 = some (.frz (ob q.1) (.tup (pT q.2)))
  | q :: r, H, nd, fr, t, ht => by
    obtain ⟨n1, n2⟩ := List.nodup_cons.mp nd
    have fr' : ∀ t ∈ r, upd H q.1 (.frz (ob q.1) (.tup (pT q.2))) t.1 = none := fun t ht => by
      rw [upd_ne (fun z => n1 (by have y : t.1 ∈ r.map (·.1) := List.mem_map_of_mem ht; rw [z] at y; exact y))]
      exact fr t (List.mem_cons_of_mem _ ht)
    rcases List.mem_cons.mp ht with e | ht
    · subst e
      exact putF_keep n2 fr' _ _ upd_same
    · exact putF_at n2 fr' t ht
theorem putF_hr {G : Gx} {ι : List Addr} {W : Hp} {S : Store} : ∀ {r : List (Addr × (Int × Int))} {F H : Hp}, (r.map (·.1)).Nodup → (∀ q ∈ r, H q.1 = none) → HR G ι F W S H → HR G ι (putF ob F r) W S (putF ob H r) ∧ Le ι F ι (putF ob F r)
  | [], _, _, _, _, h => ⟨h, Le.refl _ _⟩
  | q :: r, F, H, nd, fr, h => by
    obtain ⟨n1, n2⟩ := List.nodup_cons.mp nd
    obtain ⟨h1, l1⟩ := h.keep (fr q (List.mem_cons_self ..)) (.frz (ob q.1) (.tup (pT q.2)))
    obtain ⟨h2, l2⟩ := putF_hr (r := r) n2 (fun t ht => by
      rw [upd_ne (fun z => n1 (by have y : t.1 ∈ r.map (·.1) := List.mem_map_of_mem ht; rw [z] at y; exact y))]
      exact fr t (List.mem_cons_of_mem _ ht)) h1
    exact ⟨h2, l1.trans l2⟩
end
theorem grow {X : Cx} {pins : List (Addr × Obj)} {σ : L2.St} {H H' : Hp} {s : Shared} {h' : Heap} {t' : Nat} (I : Inv X pins σ H s) (k : ∀ b u, s.heap.get? b = some u → h'.get? b = some u) (kp : ∀ b u, H b = some u → H' b = some u)
    (nw : ∀ b u, H' b = some u → H b = some u ∨ (s.heap.objs.size ≤ b ∧ ObjOk X.prog X.w H' h' b u)) : Inv X pins σ H' { s with heap := h', toks := t' } := by
  refine I.un ⟨fun b o q _ _ _ => k b o q, fun b o q _ _ _ => ⟨o.slots, k b o q⟩, fun b o q n _ => ?_, fun b o q _ => ⟨o, k b o q⟩, fun b xs q => kp b _ q, fun b o u q => kp b _ q, fun b ps q => ⟨#[], by rw [kp b _ q]; simp⟩⟩ fun b u q => ?_
  · cases e : H' b with
    | none => rfl
    | some u =>
      rcases nw b u e with z | ⟨z, _⟩
      · rw [n] at z; cases z
      · exact absurd (Heap.lt_size q) (Nat.not_lt.mpr z)
  · rcases nw b u q with z | ⟨_, z⟩
    · exact (I.hok b u z).stay (fun d v _ y => k d v y) (fun d y => kp d _ y) fun d xs y => kp d _ y
    · exact z

/-! ### the entries of a dict of whole numbers -/
def kvI : List (Key × D) → Option (List (Int × Int))
  | [] => some []
  | (.inl k, .int v) :: r => (kvI r).map ((k, v) :: ·)
  | _ => none
def pairD (p : Int × Int) : D := .tup [.int p.1, .int p.2]
def lexP (p q : Int × Int) : Bool := decide (p.1 < q.1 ∨ (p.1 = q.1 ∧ p.2 ≤ q.2))
def srtP (ps : List (Int × Int)) : List (Int × Int) := ps.mergeSort lexP
def EnI (e : DictEntry) (p : Int × Int) : Prop := (∃ t, e.key = .int p.1 t) ∧ ∃ t, e.val = .int p.2 t
theorem entries_kvI {P : Program} {w : World} {K : PySem.W.Frag} {ι : List Addr} {F : Hp} : ∀ {es : List DictEntry} {vs : List (Key × Value)} {kvs : List (Key × V)} {kds : List (Key × D)} {ps : List (Int × Int)}, Pairs (mixKind P w) es vs → KV kvs vs → RepKs K ι F kvs kds → kvI kds = some ps → PySem.W.EachIs EnI es ps
  | [], _, _, _, ps, .nil, .nil, .nil, e => by cases e; exact .nil
  | e :: es, q1 :: vs, q2 :: kvs, q3 :: kds, ps, .cons h1 h2 t1, .cons g t2, t3', q => by
    cases t3' with
    | @cons k v _ d _ r t3 =>
      obtain ⟨g1, g2⟩ := g
      have g1 : k = q1.1 := g1
      rw [← g1] at h1
      cases k with
      | inr _ => cases q
      | inl k =>
        cases d with
        | int i =>
          obtain ⟨ps', e1, rfl⟩ := Option.map_eq_some_iff.mp (show (kvI kds).map ((k, i) :: ·) = some ps from q)
          cases r
          obtain ⟨t, et⟩ := g2
          exact .cons ⟨(relV_key (k := .inl k) h1 : ∃ t, e.key = .int k t), t, by rw [h2]; exact et⟩ (entries_kvI t1 t2 t3 e1)
        | _ => cases q
def itemsD (m : Bool) (d : D) : M D := fun S => match (dctO S d).bind kvI with
  | some ps => fin m ((srtP ps).map pairD) S
  | none => .bad
def encP (p : Int × Int) : PyData := .tuple [.int p.1, .int p.2]
theorem enc_all (ps : List (Int × Int)) : PySem.W.AllAlike (ps.map encP) ∧ PySem.W.Sortable (ps.map encP) :=
  ⟨PySem.W.AllAlike.of fun p q => by simp [encP, PySem.W.alike, PySem.W.alikeAll], PySem.W.Sortable.tuples fun p => ⟨_, _, rfl⟩⟩
theorem reps_pairs {K : PySem.W.Frag} {ι : List Addr} {F : Hp} {ob : Addr → Obj} : ∀ {us : List Value} {ps : List (Int × Int)}, PySem.W.EachIs (fun u p => ∃ a, u = Value.ref a ∧ F a = some (.frz (ob a) (.tup (pT p))) ∧ (ob a).dict = none) us ps → ∃ xs, Reps K ι F xs (ps.map pairD) ∧ Vals xs us
  | _, _, .nil => ⟨[], .nil, .nil⟩
  | _, _, .cons ⟨a, e, h, d⟩ t => by
    obtain ⟨xs, rs, vs⟩ := reps_pairs t
    subst e
    exact ⟨.ref a :: xs, .cons (.tup (.inl ⟨_, h, d⟩) (.cons (.int _) (.cons (.int _) .nil)) (by simp [big])) rs, .cons rfl vs⟩
section
variable {X : Cx} {G : Gx} {E : XS} {e : Expr} {fa : DEnv → M D} {p apos cpos pos : Pos}
theorem eI_items (f : Fit X G E) (m : Bool) (hg : Gl X "sorted") (hm : X.mg "sorted" = none) (he : PE X e (tI G E fa)) (hbase : attributeBase e "items" X.env (eval e X.env) = eval e X.env) (hline : (apos.endLine == cpos.line) = true) :
    PE X (.Call (.Name "sorted" p) [.Call (.Attribute e "items" apos) [] [] cpos] [] pos) (tI G E (un1 fa (itemsD m))) := by
  refine ⟨fun pins s σ H Q I hq => ?_⟩
  obtain ⟨ρ, S, ι, F, W, hen, h0, po⟩ := hq
  have q0 : tI G E fa σ H (fun v1 H1 => ∃ ι1 F1 S1 d, HR G ι1 F1 W S1 H1 ∧ Rep G.K ι1 F1 v1 d ∧ Post G ι1 F1 W E (RV G Q) (itemsD m d S1)) :=
    ⟨ρ, S, ι, F, W, hen, h0, po.seq fun ι1 F1 S1 H1 d l1 h1 po => fun v1 r1 => ⟨ι1, F1, S1, d, h1, r1, po⟩⟩
  refine Call_ (ld_blt I hg hm (Bi.boot .sorted) ?_)
  refine callWith_builtin1 (args_cons ?_ rfl) rfl rfl
  refine wpAny_Call_method (T := "dict") (id := "dict.items") hbase rfl hline PySem.F.plainAttrs_dict PySem.F.slot_dict_items PySem.F.type_dict_items (thn (he.run pins s σ H _ I q0) fun u s1 ⟨x, H1, I1, rx, ι1, F1, S1, d, h1, r1, po⟩ => ?_)
  unfold itemsD at po
  cases ed : (dctO S1 d).bind kvI with
  | none => rw [ed] at po; exact po.elim
  | some ps =>
    rw [ed] at po
    simp only at po
    obtain ⟨kds, e1, e2⟩ := Option.bind_eq_some_iff.mp ed
    obtain ⟨a, kvs, rfl, ha, rk, zk⟩ := Rep.dctO h1 r1 e1
    obtain rfl : u = Value.ref a := rx
    obtain ⟨hz, hs0, vs, kv, hdo⟩ := I1.hok a _ ha
    have hdo' := hdo
    obtain ⟨o, es, ep, go, hx, hd, _, hp, _⟩ := hdo'
    have raw : DT.Raw s1.heap a es ep := ⟨o, go, hx, hd⟩
    have en := entries_kvI hp kv rk e2
    have I2 : Inv X pins σ H1 { s1 with heap := s1.heap.push { cls := .type "dict_items", data := .fields #[.ref a] } } := I1.kept (t' := s1.toks) fun b ob q => Heap.get?_push_of_some _ q
    have zes : es.size = ps.length := by have := en.length; rwa [Array.length_toList] at this
    have zps : ps.length ≤ big := by
      have h1 := Paired.length kv
      have : ∀ {es : List DictEntry} {vs : List (Key × Value)}, Pairs (mixKind X.prog X.w) es vs → es.length = vs.length := fun h => by
        induction h with
        | nil => rfl
        | cons _ _ _ ih => simp [ih]
      have h2 := this hp
      have h3 := rk.length
      rw [Array.length_toList] at h2
      omega
    refine ⟨hdo.typeIs, hdo.mapOf.noDict, ?_⟩
    show wpAny _ _ (callWith cpos (.builtin "dict.items") [.ref a] [] []) _ X.xe s1
    refine method_meetsIn PySem.F.slot_dict_items PySem.F.entry_dict_items rfl (PySem.evalArgs_none ⟨rfl, hdo.typeIs, PySem.F.args_dict_items_1 _, _, DT.meetsItems (es := es) (ep := ep) hs0, ⟨raw, ?_⟩⟩)
    refine args_nil ?_
    refine DT.sortedI (es := es) (ep := ep) (I1.ok.hd f.calm) ⟨_, Heap.get?_push_size _ rfl, rfl, rfl⟩ (raw.push _) (by rw [zes]; exact le_line zps) fun h' tk as hk hlt hl hG => ?_
    have la : as.length = ps.length := hl.trans zes
    have nd : as.Nodup := List.Pairwise.imp (fun {a b} (h : a < b) => Nat.ne_of_lt h) hG.rise
    have rm : (as.zip ps).map (·.1) = as := List.map_fst_zip (Nat.le_of_eq la)
    have at_ : ∀ q ∈ as.zip ps, ∃ t1 t2, h'.get? q.1 = some { cls := .type "tuple", data := .seq #[.int q.2.1 t1, .int q.2.2 t2] } := fun q hq => by
      obtain ⟨j, hj, ej⟩ := List.getElem_of_mem hq
      have ej' : (as.zip ps)[j]? = some q := by rw [List.getElem?_eq_getElem hj, ej]
      rw [List.getElem?_zip_eq_some] at ej'
      obtain ⟨en1, g1, g2⟩ := hG.pairs j q.1 ej'.1
      have mz : (en1, q.2) ∈ es.toList.zip ps := by
        have : (es.toList.zip ps)[j]? = some (en1, q.2) := by
          rw [List.getElem?_zip_eq_some]
          exact ⟨by rw [Array.getElem?_toList]; exact g1, ej'.2⟩
        exact List.mem_of_getElem? this
      obtain ⟨⟨t1, f1⟩, t2, f2⟩ := en.zip _ mz
      exact ⟨t1, t2, by rw [g2, f1, f2]⟩
    have lo : ∀ q ∈ as.zip ps, q.1 ∈ as := fun q hq => by
      have y : q.1 ∈ (as.zip ps).map (·.1) := List.mem_map_of_mem hq
      rwa [rm] at y
    have ev : PySem.W.EachIs (fun v p => ∃ a, v = Value.ref a ∧ (a, p) ∈ as.zip ps) (as.map Value.ref) ps := by
      refine PySem.W.EachIs.of_zip (by rw [List.length_map]; exact la) fun q hq => ?_
      rw [List.zip_map_left] at hq
      obtain ⟨t, ht, rfl⟩ := List.mem_map.mp hq
      exact ⟨t.1, rfl, ht⟩
    have er : PySem.W.EachIs (fun v p => ∃ bs, Reads (h'.push { cls := .type "list", data := .seq (as.map Value.ref).toArray }) v (encP p) bs ∧ h'.objs.size ∉ bs) (as.map Value.ref) ps := ev.mono fun v p ⟨a, e, hm⟩ => by
      subst e
      obtain ⟨t1, t2, g⟩ := at_ _ hm
      exact ⟨[], .tuple (Heap.get?_push_of_some _ g) rfl rfl (.cons (.int _ _) (.cons (.int _ _) .nil)), by simp⟩
    obtain ⟨al, sb⟩ := enc_all ps
    refine PySem.W.list_sort_data (n := 0) (Heap.get?_push_size _ rfl) ev er al sb (le_line zps) (fun p _ => ?_) fun out ho hE => ?_
    · have := f.room
      simp [encP, PyData.depth, PyData.depthAll]
      omega
    · have frs : ∀ q ∈ as.zip ps, H1 q.1 = none := fun q hq => I2.hok.fresh (Nat.le_of_lt (hG.above _ (lo q hq)))
      have nd' : ((as.zip ps).map (·.1)).Nodup := by rw [rm]; exact nd
      obtain ⟨h2, l2⟩ := putF_hr (ob := fun a => (h'.get? a).getD default) nd' frs h1
      have J : Inv X pins σ (putF (fun a => (h'.get? a).getD default) H1 (as.zip ps)) { s1 with heap := h', toks := tk } := grow I1 (fun b u q => hk b u (Heap.get?_push_of_some _ q)) (putF_keep nd' frs) fun b u hu => by
        rcases putF_new b u hu with z | ⟨q, z1, z2⟩
        · exact .inl z
        · obtain ⟨t1, t2, g⟩ := at_ _ z1
          subst z2
          exact .inr ⟨Nat.le_of_lt (Nat.lt_of_succ_lt (by have y := hG.above _ (lo _ z1); rw [Heap.size_push] at y; exact y)), by show h'.get? b = some ((h'.get? b).getD default); rw [g]; rfl, by show 2 ≤ sizeLine; decide, [.int q.1 t1, .int q.2 t2], .cons ⟨t1, rfl⟩ (.cons ⟨t2, rfl⟩ .nil), ⟨_, g, rfl, _, rfl⟩⟩
      have hE : PySem.W.EachIs (fun v p => ∃ a, v = Value.ref a ∧ (a, p) ∈ as.zip ps) out (srtP ps) := by
        have e : srtP ps = ps.mergeSort (PySem.W.dataLe false encP) := by
          unfold srtP
          rw [show PySem.W.dataLe false encP = lexP from PySem.W.dataLe_ii (fun p : Int × Int => p.1) fun p => p.2]
        rw [e]
        exact hE
      obtain ⟨ys, ry, vy⟩ := reps_pairs (K := G.K) (ι := ι1) (F := putF (fun a => (h'.get? a).getD default) F1 (as.zip ps)) (ob := fun a => (h'.get? a).getD default) (hE.mono fun v p ⟨a, e, hm⟩ => ⟨a, e, putF_at nd' (fun q hq => by
        cases z : F1 q.1 with
        | none => rfl
        | some u =>
          have := h1.sub _ _ z
          rw [frs q hq] at this
          cases this) (a, p) hm, by
        obtain ⟨t1, t2, g⟩ := at_ _ hm
        have g : h'.get? a = _ := g
        show ((h'.get? a).getD default).dict = none
        rw [g]; rfl⟩)
      have zo : ys.length = ps.length := by
        have := ry.length
        rw [List.length_map] at this
        rw [this]
        exact List.length_mergeSort ..
      obtain ⟨c, sat⟩ := sortedHeap_at (h := h'.push { cls := .type "list", data := .seq (as.map Value.ref).toArray }) (a := h'.objs.size) (vs := as.map Value.ref) (n := 0) (out := out.toArray) (Heap.get?_push_size _ rfl)
      have old : ∀ b u, h'.get? b = some u → (sortedHeap (h'.push { cls := .type "list", data := .seq (as.map Value.ref).toArray }) h'.objs.size (as.map Value.ref) out.toArray).get? b = some u := fun b u q => by
        have lt := Heap.lt_size q
        rw [sortedHeap_old (Nat.ne_of_lt lt) (by rw [Heap.size_push]; exact Nat.lt_succ_of_lt lt)]
        exact Heap.get?_push_of_some _ q
      refine ⟨.ref h'.objs.size, upd (putF (fun a => (h'.get? a).getD default) H1 (as.zip ps)) h'.objs.size (.lst ys), J.laid (t' := tk) old (Nat.le_refl _) ⟨by rw [zo]; exact le_line zps, out, c, vy, sat⟩, rfl, ?_⟩
      exact (po.le l2).fin h2 ry (by rw [List.length_map]; show (ps.mergeSort _).length ≤ _; rw [List.length_mergeSort]; exact zps) _ (J.hok.fresh (Nat.le_refl _))
/-! ### xs[::-1], list(range(..)) -/
def revD (m : Bool) (d : D) : M D := fun S => match lstO S d with
  | some ds => fin m ds.reverse S
  | none => .bad
theorem Reps.rev {K : PySem.W.Frag} {ι : List Addr} {F : Hp} : ∀ {xs : List V} {ds : List D}, Reps K ι F xs ds → Reps K ι F xs.reverse ds.reverse
  | _, _, .nil => .nil
  | _, _, .cons h t => by
    rw [List.reverse_cons, List.reverse_cons]
    exact (Reps.rev t).append (.cons h .nil)
theorem eI_rev (f : Fit X G E) (m : Bool) {k : Nat} {p1 p2 p3 : Pos} (he : PE X e (tI G E fa)) : PE X (.Subscript e (.Slice none none (some (.UnaryOp .USub (.Constant (.int 1) k p1) p2)) p3) pos) (tI G E (un1 fa (revD m))) :=
  PE.imp (pe_revL he) fun σ H Q ⟨ρ, S, ι, F, W, hen, h0, po⟩ => ⟨ρ, S, ι, F, W, hen, h0, po.seq fun ι1 F1 S1 H1 d l1 h1 po => fun v1 r1 => by
    unfold revD at po
    cases e : lstO S1 d with
    | none => rw [e] at po; exact po.elim
    | some ds =>
      rw [e] at po
      obtain ⟨a, xs, rfl, ha, rx, z⟩ := Rep.lstO h1 r1 e
      exact ⟨a, xs, rfl, f.hK ▸ ha, po.fin h1 rx.rev (by rw [List.length_reverse]; exact z)⟩⟩
def rgOk (i j : Int) : Bool := decide (-(2 ^ 62) ≤ i ∧ i < 2 ^ 62 ∧ -(2 ^ 62) ≤ j ∧ j < 2 ^ 62 ∧ (j - i).toNat ≤ big)
def rgD (i j : Int) : List D := (List.range (j - i).toNat).map fun n => D.int (i + (n : Nat))
def lrg1D (m : Bool) (d : D) : M D := fun S => match d with
  | .int j => if rgOk 0 j = true then fin m (rgD 0 j) S else .bad
  | _ => .bad
def lrg2D (m : Bool) (d e : D) : M D := fun S => match d, e with
  | .int i, .int j => if rgOk i j = true then fin m (rgD i j) S else .bad
  | _, _ => .bad
theorem reps_rg {K : PySem.W.Frag} {ι : List Addr} {F : Hp} {i j : Int} : Reps K ι F (rgV i j) (rgD i j) := by
  have h : ∀ l : List Int, Reps K ι F (l.map V.int) (l.map D.int) := reps_ints
  have := h ((List.range (j - i).toNat).map fun n => i + (n : Nat))
  rw [List.map_map, List.map_map] at this
  exact this
theorem rgOk_is {i j : Int} (h : rgOk i j = true) : RgOk i j ∧ (rgD i j).length ≤ big := by
  obtain ⟨h1, h2, h3, h4, h5⟩ := of_decide_eq_true h
  refine ⟨⟨h1, h2, h3, h4, Nat.le_trans h5 (by decide)⟩, ?_⟩
  unfold rgD
  rw [List.length_map, List.length_range]
  exact h5
variable {e2 : Expr} {fb : DEnv → M D} {q : Pos}
theorem eI_lrg1 (f : Fit X G E) (m : Bool) (hg : Gl X "list") (hm : X.mg "list" = none) (hg2 : Gl X "range") (hm2 : X.mg "range" = none) (he : PE X e (tI G E fa)) (ns : noStar e = true) :
    PE X (.Call (.Name "list" p) [.Call (.Name "range" q) [e] [] cpos] [] pos) (tI G E (un1 fa (lrg1D m))) :=
  PE.imp (pe_listRg f.calm hg hm (prg_1 hg2 hm2 he (star_cons ns))) fun σ H Q ⟨ρ, S, ι, F, W, hen, h0, po⟩ => ⟨ρ, S, ι, F, W, hen, h0, po.seq fun ι1 F1 S1 H1 d l1 h1 po => fun v1 r1 => by
    cases r1 with
    | int j =>
      unfold lrg1D at po
      simp only at po
      by_cases c : rgOk 0 j = true
      · rw [if_pos c] at po
        obtain ⟨c1, c2⟩ := rgOk_is c
        exact ⟨j, rfl, c1, po.fin h1 reps_rg c2⟩
      · rw [if_neg c] at po; exact po.elim
    | _ => exact po.elim⟩
def un2 (fa fb : DEnv → M D) (g : D → D → M D) : DEnv → M D := fun ρ => bnd (fa ρ) fun d => bnd (fb ρ) fun e => g d e
theorem eI_lrg2 (f : Fit X G E) (m : Bool) (hg : Gl X "list") (hm : X.mg "list" = none) (hg2 : Gl X "range") (hm2 : X.mg "range" = none) (he : PE X e (tI G E fa)) (he2 : PE X e2 (tI G E fb)) (ns : noStar e = true) (ns2 : noStar e2 = true) :
    PE X (.Call (.Name "list" p) [.Call (.Name "range" q) [e, e2] [] cpos] [] pos) (tI G E (un2 fa fb (lrg2D m))) :=
  PE.imp (pe_listRg f.calm hg hm (prg_2 hg2 hm2 he he2 (star_cons ns) (star_cons ns2) (star_any (by rw [List.all_cons, ns2]; rfl)))) fun σ H Q ⟨ρ, S, ι, F, W, hen, h0, po⟩ => ⟨ρ, S, ι, F, W, hen, h0, po.seq fun ι1 F1 S1 H1 d l1 h1 po => fun v1 r1 =>
    ⟨ρ, S1, ι1, F1, W, hen.mono l1, h1, po.seq fun ι2 F2 S2 H2 e l2 h2 po => fun v2 r2 => by
    cases r1 with
    | int i =>
      cases r2 with
      | int j =>
        unfold lrg2D at po
        simp only at po
        by_cases c : rgOk i j = true
        · rw [if_pos c] at po
          obtain ⟨c1, c2⟩ := rgOk_is c
          exact ⟨i, j, rfl, rfl, c1, po.fin h2 reps_rg c2⟩
        · rw [if_neg c] at po; exact po.elim
      | _ => exact po.elim
    | _ => exact po.elim⟩⟩
/-- a dict of the module, by a text -/
def mdiD (kvs : List (Str × D)) (d : D) : M D := match d with
  | .str x => (match kvs.lookup x with
    | some v => ret v
    | none => fail)
  | _ => fail
def mdnD (neg : Bool) (kvs : List (Str × D)) (d : D) : M D := match d with
  | .str x => ret (.bl (if neg = true then !(kvs.lookup x).isSome else (kvs.lookup x).isSome))
  | _ => fail
inductive Op1 where
  | lenS | srtS | itm | rev | lrg | mdi (kvs : List (Str × D)) | mdn (neg : Bool) (kvs : List (Str × D))
def op1D (f : Op1) (m : Bool) (d : D) : M D := match f with
  | .lenS => uniD m false d
  | .srtS => uniD m true d
  | .itm => itemsD m d
  | .rev => revD m d
  | .lrg => lrg1D m d
  | .mdi kvs => mdiD kvs d
  | .mdn neg kvs => mdnD neg kvs d
end
end CI

/-! Dicts of the module with text keys: NAME[x], x in NAME. -/
namespace CI
open PySem PySem.Spec PyProof.Rows L2 HT
structure MdAt (X : Cx) (G : Gx) (x : Str) (kvs : List (Str × D)) : Prop where
  ex : ∃ (td : Addr) (es : Array DictEntry) (n : Nat), X.mg x = some (.ref td) ∧ L2.KDict X.K X.w td es n ∧ (∀ k, kvs.lookup k = none → PySem.W.nsIn X.K td k = some none) ∧
    ∀ k d, kvs.lookup k = some d → ∃ (u : Value) (v : V), PySem.W.nsIn X.K td k = some (some u) ∧ RelV v u ∧ Rep G.K [] (fun _ => none) v d
section
variable {X : Cx} {G : Gx} {E : XS} {y : Str} {kvs : List (Str × D)} {a b : Expr} {fa fb : DEnv → M D} {p pos : Pos}
theorem eI_mdi (f : Fit0 X G E) (hd : MdAt X G y kvs) (hg : Gl X y) (hdb : (y == ("__debug__" : Str)) = false) (hs : PlainIx b) (hb : PE X b (tI G E fb)) : PE X (.Subscript (.Name y p) b pos) (tI G E (un1 fb (mdiD kvs))) := by
  obtain ⟨td, es, n, hm, kd, _, at_⟩ := hd.ex
  refine PE.imp (pe_ix ix_kdict (pe_glob (v := .ref td) hg hm rfl hdb) hb hs) fun σ H Q ⟨ρ, S, ι, F, W, he, h0, po⟩ => ?_
  show tI G E fb σ H _
  refine ⟨ρ, S, ι, F, W, he, h0, po.seq fun ι1 F1 S1 H1 d l1 h1 po => fun v1 r1 => ?_⟩
  unfold mdiD at po
  cases r1 with
  | str x =>
    simp only at po
    cases e : kvs.lookup x with
    | none => rw [e] at po; exact po.elim
    | some d =>
      rw [e] at po
      obtain ⟨u, v, e1, rv, rd⟩ := at_ x d e
      exact ⟨td, x, v, rfl, rfl, ⟨es, n, u, kd.at_, kd.lit, e1, rv⟩, po.now h1 _ (rd.top ι1 F1)⟩
  | _ => exact po.elim
theorem md_read {neg : Bool} {td : Addr} {es : Array DictEntry} {n : Nat} (at0 : ∀ k, kvs.lookup k = none → PySem.W.nsIn X.K td k = some none) (at1 : ∀ k d, kvs.lookup k = some d → ∃ (u : Value) (v : V), PySem.W.nsIn X.K td k = some (some u) ∧ RelV v u ∧ Rep G.K [] (fun _ => none) v d)
    {σ : L2.St} {H : Hp} {Q : VK} (h : tI G E (un1 fa (mdnD neg kvs)) σ H Q) : tI G E fa σ H fun x H1 => ∃ (z : Str) (r : Option Value), x = .str z ∧ (V.ref td = V.ref td) ∧ PySem.W.nsIn X.K td z = some r ∧ Q (.bl (if neg = true then !r.isSome else r.isSome)) H1 := by
  obtain ⟨ρ, S, ι, F, W, he, h0, po⟩ := h
  refine ⟨ρ, S, ι, F, W, he, h0, po.seq fun ι1 F1 S1 H1 d l1 h1 po => fun v1 r1 => ?_⟩
  unfold mdnD at po
  cases r1 with
  | str x =>
    simp only at po
    cases e : kvs.lookup x with
    | none =>
      rw [e] at po
      exact ⟨x, none, rfl, rfl, at0 x e, po.now h1 _ (.bl _)⟩
    | some d =>
      rw [e] at po
      obtain ⟨u, v, e1, _⟩ := at1 x d e
      exact ⟨x, some u, rfl, rfl, e1, po.now h1 _ (.bl _)⟩
  | _ => exact po.elim
theorem eI_mdn (f : Fit0 X G E) (neg : Bool) (hd : MdAt X G y kvs) (hg : Gl X y) (hdb : (y == ("__debug__" : Str)) = false) (ha : PE X a (tI G E fa)) : PE X (.Compare a [if neg = true then .NotIn else .In] [.Name y p] pos) (tI G E (un1 fa (mdnD neg kvs))) := by
  obtain ⟨td, es, n, hm, kd, at0, at1⟩ := hd.ex
  have pn : PE X (.Name y p) (tC (.ref td)) := pe_glob (v := .ref td) hg hm rfl hdb
  cases neg with
  | false => exact PE.imp (pe_cmpR (op_in_kd kd) ha pn rfl) fun σ H Q h => md_read (es := es) (n := n) at0 at1 h
  | true => exact PE.imp (pe_cmpR (op_notIn_kd kd) ha pn rfl) fun σ H Q h => md_read (es := es) (n := n) at0 at1 h
theorem bI_mdn (f : Fit0 X G E) (neg : Bool) (hd : MdAt X G y kvs) (hg : Gl X y) (hdb : (y == ("__debug__" : Str)) = false) (ha : PE X a (tI G E fa)) : PT X (.Compare a [if neg = true then .NotIn else .In] [.Name y p] pos) (tIB G E (tsM (un1 fa (mdnD neg kvs)))) := by
  obtain ⟨td, es, n, hm, kd, at0, at1⟩ := hd.ex
  have pn : PE X (.Name y p) (tC (.ref td)) := pe_glob (v := .ref td) hg hm rfl hdb
  cases neg with
  | false => exact PT.imp (pt_cmpR (op_in_kd kd) ha pn rfl) fun σ H Q h => md_read (es := es) (n := n) at0 at1 (tI_B h)
  | true => exact PT.imp (pt_cmpR (op_notIn_kd kd) ha pn rfl) fun σ H Q h => md_read (es := es) (n := n) at0 at1 (tI_B h)
end
end CI

/-! Targets, walks, comprehensions. -/
namespace CI
open PySem PySem.Spec PyProof.Rows L2 HT

/-! ### targets -/
inductive Tg where
  | n (i : Nat) | t (ts : List Tg) | fl (i : Nat) (cs : List Str) (f : Str)
/-- what a walk yields: a datum, or a pair that is made for this turn alone -/
inductive Itm where
  | one (d : D) | pair (d e : D)
mutual
def tgM : Tg → D → DEnv → M DEnv
  | .n i, d, ρ => ret (ρ.set i (some d))
  | .fl i cs f, d, ρ => bnd (varM i ρ) fun o => bnd (setfD cs f o d) fun _ => ret ρ
  | .t ts, d, ρ => match d with
    | .tup ds => if ds.length = ts.length then tgsM ts ds ρ else fail
    | _ => fail
def tgsM : List Tg → List D → DEnv → M DEnv
  | [], _, ρ => ret ρ
  | t :: ts, d :: ds, ρ => bnd (tgM t d ρ) fun ρ' => tgsM ts ds ρ'
  | _ :: _, [], _ => fail
end
def tgI (t : Tg) (it : Itm) (ρ : DEnv) : M DEnv := match it with
  | .one d => tgM t d ρ
  | .pair d e => match t with
    | .t [t1, t2] => bnd (tgM t1 d ρ) fun ρ' => bnd (tgM t2 e ρ') ret
    | _ => fail
mutual
def Tg.slots : Tg → List Nat
  | .n i => [i]
  | .fl _ _ _ => []
  | .t ts => slotsOf ts
def slotsOf : List Tg → List Nat
  | [] => []
  | t :: ts => t.slots ++ slotsOf ts
end
/-- alike but for some places -/
def Sm (sl : List Nat) (σ σ' : L2.St) : Prop := σ'.length = σ.length ∧ ∀ i, i ∉ sl → σ'[i]? = σ[i]?
theorem Sm.refl (sl : List Nat) (σ : L2.St) : Sm sl σ σ := ⟨rfl, fun _ _ => rfl⟩
theorem Sm.trans {s1 s2 : List Nat} {a b c : L2.St} (x : Sm s1 a b) (y : Sm s2 b c) : Sm (s1 ++ s2) a c :=
  ⟨y.1.trans x.1, fun i hi => (y.2 i fun z => hi (List.mem_append_right _ z)).trans (x.2 i fun z => hi (List.mem_append_left _ z))⟩
theorem Sm.set (i : Nat) (v : Option V) (σ : L2.St) : Sm [i] σ (σ.set i v) := ⟨by simp, fun j hj => by
  have : i ≠ j := fun e => hj (by simp [e])
  rw [List.getElem?_set_ne this]⟩
theorem wipe_at (vs : List Nat) (σ : L2.St) (j : Nat) : (L2.wipe σ vs)[j]? = if j ∈ vs ∧ j < σ.length then some none else σ[j]? := by
  induction vs with
  | nil => simp [L2.wipe]
  | cons v vs ih =>
    show ((L2.wipe σ vs).set v none)[j]? = _
    by_cases hv : v = j
    · subst hv
      by_cases hl : v < σ.length
      · rw [List.getElem?_set_self (by rw [L2.wipe_length]; exact hl), if_pos ⟨by simp, hl⟩]
      · rw [if_neg (fun z => hl z.2), List.getElem?_eq_none (by simp [L2.wipe_length]; omega), List.getElem?_eq_none (by omega)]
    · rw [List.getElem?_set_ne hv, ih]
      simp [Ne.symm hv]
theorem wipe_wipe (vs : List Nat) (σ : L2.St) : L2.wipe (L2.wipe σ vs) vs = L2.wipe σ vs := by
  apply List.ext_getElem?
  intro j
  rw [wipe_at, L2.wipe_length]
  by_cases hj : j ∈ vs ∧ j < σ.length
  · rw [if_pos hj, wipe_at, if_pos hj]
  · rw [if_neg hj]
theorem Sm.wipe {sl vs : List Nat} {σ σ' : L2.St} (x : Sm sl σ σ') (h : ∀ i ∈ sl, i ∈ vs) : L2.wipe σ' vs = L2.wipe σ vs := by
  apply List.ext_getElem?
  intro j
  rw [wipe_at, wipe_at, x.1]
  by_cases hj : j ∈ vs ∧ j < σ.length
  · rw [if_pos hj, if_pos hj]
  · rw [if_neg hj, if_neg hj]
    by_cases hjs : j ∈ sl
    · have hl : ¬ j < σ.length := fun z => hj ⟨h j hjs, z⟩
      rw [List.getElem?_eq_none (by rw [x.1]; omega), List.getElem?_eq_none (by omega)]
    · exact x.2 j hjs
abbrev RE (G : Gx) (sl : List Nat) (σ : L2.St) (Q : L2.St → Hp → Prop) : RT DEnv := fun ι' F' _ H' ρ' => ∀ σ', EnvR G ι' F' ρ' σ' → Sm sl σ σ' → Q σ' H'
def tGI (G : Gx) (E : XS) (t : Tg) : TG := fun v σ H Q => ∃ ρ S ι F W d, EnvR G ι F ρ σ ∧ HR G ι F W S H ∧ Rep G.K ι F v d ∧ Post G ι F W E (RE G t.slots σ Q) (tgM t d ρ S)
def tGIs (G : Gx) (E : XS) (ts : List Tg) : TGs := fun vs σ H Q => ∃ ρ S ι F W ds, EnvR G ι F ρ σ ∧ HR G ι F W S H ∧ Reps G.K ι F vs ds ∧ ds.length = ts.length ∧ Post G ι F W E (RE G (slotsOf ts) σ Q) (tgsM ts ds ρ S)
theorem PG.imp {X : Cx} {e : Expr} {t t' : TG} (h : PG X e t) (k : ∀ v σ H Q, t' v σ H Q → t v σ H Q) : PG X e t' := ⟨fun pins s σ H v u Q I r q => h.run pins s σ H v u Q I r (k _ _ _ _ q)⟩
theorem PGs.imp {X : Cx} {e : List Expr} {t t' : TGs} (h : PGs X e t) (k : ∀ v σ H Q, t' v σ H Q → t v σ H Q) : PGs X e t' := ⟨fun pins s σ H v u Q I r q => h.run pins s σ H v u Q I r (k _ _ _ _ q)⟩
section
variable {X : Cx} {G : Gx} {E : XS} {pos : Pos} {x : Str} {e : Expr} {es : List Expr} {t : Tg} {ts : List Tg}
theorem gI_name {i : Nat} (hN : X.N.Nodup) (hi : X.N[i]? = some x) (hx : Loc X.env.scope x) (hf : X.fn x = true ∨ X.env.scope.names.lookup x = some .local) : PG X (.Name x pos) (tGI G E (.n i)) :=
  PG.imp (pg_name hN hi hx hf) fun v σ H Q ⟨ρ, S, ι, F, W, d, he, h0, r, po⟩ => po.now h0 _ (he.set i r) (Sm.set i _ σ)
theorem gI_fl {i : Nat} {y fn : Str} {cs : List Str} {yp : Pos} (f : Fit X G E) (hc : ClsIs G cs fn) (hy : PE X (.Name y yp) (tI G E (varM i))) : PG X (.Attribute (.Name y yp) fn pos) (tGI G E (.fl i cs fn)) :=
  PG.imp (pg_fld hy) fun v σ H Q ⟨ρ, S, ι, F, W, d, he, h0, r, po⟩ => by
    unfold tgM at po
    refine ⟨ρ, S, ι, F, W, he, h0, po.seq fun ι1 F1 S1 H1 o l1 h1 po => fun ov ro => ?_⟩
    obtain ⟨a, C, dx, fs, rfl, hH, cl, na, hl, S2, h2, q⟩ := setf_run (R := fun ι' F' _ H' _ => Q σ H') hc h1 ro (r.mono l1) (po.seq fun ι2 F2 S2 H2 _ l2 h2 po => po.now h2 σ ((he.mono l1).mono l2) (Sm.refl _ _))
    exact ⟨a, C, dx, fs, rfl, hH, f.hK ▸ cl, f.hK ▸ na, hl, q⟩
theorem gI_nil : PGs X [] (tGIs G E []) := PGs.imp pgs_nil fun vs σ H Q ⟨ρ, S, ι, F, W, ds, he, h0, r, hl, po⟩ => by
  have : ds = [] := List.eq_nil_of_length_eq_zero hl
  subst this
  exact ⟨r.zero, po.now h0 _ he (Sm.refl _ _)⟩
theorem gI_cons (h1 : PG X e (tGI G E t)) (h2 : PGs X es (tGIs G E ts)) (hs : (assignEach (e :: es) X.env).map (·.2) = assign e X.env :: (assignEach es X.env).map (·.2)) : PGs X (e :: es) (tGIs G E (t :: ts)) :=
  PGs.imp (pgs_cons h1 h2 hs) fun vs σ H Q ⟨ρ, S, ι, F, W, ds, he, h0, r, hl, po⟩ => by
    cases r with
    | nil => cases hl
    | cons hv ht =>
      refine ⟨_, _, rfl, ρ, S, ι, F, W, _, he, h0, hv, Post.seq (f := fun ρ' => tgsM ts _ ρ') po fun ι1 F1 S1 H1 ρ1 l1 h1 po => fun σ1 e1 s1 => ?_⟩
      exact ⟨ρ1, S1, ι1, F1, W, _, e1, h1, ht.mono l1, by simpa using hl, po.mono fun ι2 F2 S2 H2 ρ2 _ _ q σ2 e2 s2 => q σ2 e2 (s1.trans s2)⟩
theorem gI_tup (hK : X.K = G.K) {k : Nat} (hc : X.calm = true) (h : PGs X es (tGIs G E ts)) (hn : (assignEach es X.env).length = ts.length) (hst : (assignEach es X.env).findIdx? (·.1) = none) : PG X (.Tuple es k pos) (tGI G E (.t ts)) :=
  PG.imp (pg_tup hc h hn hst) fun v σ H Q ⟨ρ, S, ι, F, W, d, he, h0, r, po⟩ => by
    cases r with
    | tup h1 rs z =>
      unfold tgM at po
      simp only at po
      obtain ⟨hl, po⟩ := Post.if_ po
      exact ⟨_, _, rfl, hK ▸ (h1.mono h0.sub).sq, by rw [rs.length]; exact hl, ρ, S, ι, F, W, _, he, h0, rs, hl, po⟩
    | _ => exact po.elim
end

/-! ### walks -/
inductive Src where
  | val (its : List Itm) | ref (n : Nat) | eref (n : Nat)
/-- at turn i: an item, the end, or nothing told -/
def Src.at : Src → Store → Nat → Option (Option Itm)
  | .val its, _, i => if i ≤ its.length then some its[i]? else none
  | .ref n, S, i => match S[n]? with
    | some (.lst ds) => some (ds[i]?.map .one)
    | _ => none
  | .eref n, S, i => match S[n]? with
    | some (.lst ds) => some (ds[i]?.map fun d => .pair (.int (i : Nat)) d)
    | _ => none
def RepI (K : PySem.W.Frag) (ι : List Addr) (F H : Hp) (x : V) : Itm → Prop
  | .one d => Rep K ι F x d
  | .pair d e => ∃ T y z, x = .ref T ∧ SqT K H T [y, z] ∧ Rep K ι F y d ∧ Rep K ι F z e
structure Wlk (G : Gx) (J : It) (ι0 : List Addr) (F0 : Hp) (src : Src) : Prop where
  go : ∀ i ι F W S H d, Le ι0 F0 ι F → HR G ι F W S H → src.at S i = some (some d) → J.go i H
  stop : ∀ i ι F W S H, Le ι0 F0 ι F → HR G ι F W S H → src.at S i = some none → J.stop i H
  yld : ∀ i ι F W S H d x H', Le ι0 F0 ι F → HR G ι F W S H → src.at S i = some (some d) → J.yld i H x H' → ∃ F', Le ι F ι F' ∧ HR G ι F' W S H' ∧ RepI G.K ι F' H' x d
def tII (G : Gx) (E : XS) (m : DEnv → M Src) : TI := fun σ H R => ∃ ρ S ι F W, EnvR G ι F ρ σ ∧ HR G ι F W S H ∧ Post G ι F W E (fun ι' F' _ H' src => ∀ J, Wlk G J ι' F' src → R J H') (m ρ S)
theorem PI.imp {X : Cx} {tg e : Expr} {t t' : TI} (h : PI X tg e t) (k : ∀ σ H Q, t' σ H Q → t σ H Q) : PI X tg e t' := ⟨fun pins s σ H Q I q => h.run pins s σ H Q I (k _ _ _ q)⟩

section
variable {X : Cx} {G : Gx} {E : XS} {pos p : Pos} {tg a b : Expr} {fa fb : DEnv → M D}
theorem val_at {its : List Itm} {S : Store} {i : Nat} {d : Itm} (h : (Src.val its).at S i = some (some d)) : its[i]? = some d := by
  unfold Src.at at h
  simp only at h
  by_cases c : i ≤ its.length
  · rw [if_pos c] at h; exact Option.some.inj h
  · rw [if_neg c] at h; cases h
theorem val_end {its : List Itm} {S : Store} {i : Nat} (h : (Src.val its).at S i = some none) : i = its.length := by
  unfold Src.at at h
  simp only at h
  by_cases c : i ≤ its.length
  · rw [if_pos c] at h
    have := List.getElem?_eq_none_iff.mp (Option.some.inj h)
    omega
  · rw [if_neg c] at h; cases h
theorem sql_inj {K : PySem.W.Frag} {F : Hp} {a : Addr} {xs ys : List V} (h : F a = some (.lst xs)) (h' : F a = some (.lst ys)) : xs = ys := by rw [h] at h'; cases h'; rfl
theorem one_at {ds : List D} {i : Nat} {d : Itm} (h : (ds.map Itm.one)[i]? = some d) : ∃ e, ds[i]? = some e ∧ d = .one e := by
  rw [List.getElem?_map] at h
  obtain ⟨e, h1, rfl⟩ := Option.map_eq_some_iff.mp h
  exact ⟨e, h1, rfl⟩
theorem wlk_lst {K : PySem.W.Frag} {a : Addr} {xs : List V} {ds : List D} {ι : List Addr} {F : Hp} (hK : K = G.K) (h : SqL G.K F a xs) (r : Reps G.K ι F xs ds) : Wlk G (Itl K a) ι F (.val (ds.map .one)) where
  go := fun i ι' F' W S H d l hr e => by
    obtain ⟨d', h1, rfl⟩ := one_at (val_at e)
    obtain ⟨v, h2, _⟩ := r.at h1
    exact ⟨xs, v, hK ▸ SqL.mono hr.sub (SqL.mono l.sub h), h2⟩
  stop := fun i ι' F' W S H l hr e => by
    have hi := val_end e
    exact ⟨xs, hK ▸ SqL.mono hr.sub (SqL.mono l.sub h), by rw [hi, List.length_map, r.length]; exact Nat.le_refl _⟩
  yld := fun i ι' F' W S H d x H' l hr e y => by
    obtain ⟨d', h1, rfl⟩ := one_at (val_at e)
    obtain ⟨rfl, y⟩ := y
    obtain ⟨v, h2, rv⟩ := r.at h1
    have h3 := y xs (hK ▸ SqL.mono hr.sub (SqL.mono l.sub h))
    rw [h2] at h3
    cases h3
    exact ⟨F', .refl _ _, hr, rv.mono l⟩
theorem wlk_tup {K : PySem.W.Frag} {a : Addr} {xs : List V} {ds : List D} {ι : List Addr} {F : Hp} (hK : K = G.K) (h : SqT G.K F a xs) (r : Reps G.K ι F xs ds) (sm : ∀ F F' : Hp, (∀ a o, F a = some o → F' a = some o) → SqT G.K F a xs → SqT G.K F' a xs) : Wlk G (Itt K a) ι F (.val (ds.map .one)) where
  go := fun i ι' F' W S H d l hr e => by
    obtain ⟨d', h1, rfl⟩ := one_at (val_at e)
    obtain ⟨v, h2, _⟩ := r.at h1
    exact ⟨xs, v, hK ▸ sm _ _ hr.sub (sm _ _ l.sub h), h2⟩
  stop := fun i ι' F' W S H l hr e => by
    have hi := val_end e
    exact ⟨xs, hK ▸ sm _ _ hr.sub (sm _ _ l.sub h), by rw [hi, List.length_map, r.length]; exact Nat.le_refl _⟩
  yld := fun i ι' F' W S H d x H' l hr e y => by
    obtain ⟨d', h1, rfl⟩ := one_at (val_at e)
    obtain ⟨rfl, y⟩ := y
    obtain ⟨v, h2, rv⟩ := r.at h1
    have h3 := y xs (hK ▸ sm _ _ hr.sub (sm _ _ l.sub h))
    rw [h2] at h3
    cases h3
    exact ⟨F', .refl _ _, hr, rv.mono l⟩
theorem sqt_mono {K : PySem.W.Frag} {a : Addr} {xs : List V} (F F' : Hp) (s : ∀ a o, F a = some o → F' a = some o) (h : SqT K F a xs) : SqT K F' a xs := by
  rcases h with (h | ⟨o, h⟩) | h
  · exact .inl (.inl (s _ _ h))
  · exact .inl (.inr ⟨o, s _ _ h⟩)
  · exact .inr h
theorem wlk_ref {K : PySem.W.Frag} {a : Addr} {n : Nat} {ι : List Addr} {F : Hp} (hK : K = G.K) (h : ι[n]? = some a) : Wlk G (Itl K a) ι F (.ref n) where
  go := fun i ι' F' W S H d l hr e => by
    unfold Src.at at e
    simp only at e
    cases q : S[n]? with
    | none => rw [q] at e; cases e
    | some o =>
      cases o with
      | lst ds =>
        rw [q] at e
        simp only [Option.some.injEq] at e
        obtain ⟨d', h1, rfl⟩ := Option.map_eq_some_iff.mp e
        obtain ⟨xs, ha, r, _⟩ := hr.adrL (l.at h) q
        obtain ⟨v, h2, _⟩ := r.at h1
        exact ⟨xs, v, hK ▸ .of ha, h2⟩
      | _ => rw [q] at e; cases e
  stop := fun i ι' F' W S H l hr e => by
    unfold Src.at at e
    simp only at e
    cases q : S[n]? with
    | none => rw [q] at e; cases e
    | some o =>
      cases o with
      | lst ds =>
        rw [q] at e
        simp only [Option.some.injEq, Option.map_eq_none_iff] at e
        obtain ⟨xs, ha, r, _⟩ := hr.adrL (l.at h) q
        exact ⟨xs, hK ▸ .of ha, by rw [r.length]; exact List.getElem?_eq_none_iff.mp e⟩
      | _ => rw [q] at e; cases e
  yld := fun i ι' F' W S H d x H' l hr e y => by
    unfold Src.at at e
    simp only at e
    cases q : S[n]? with
    | none => rw [q] at e; cases e
    | some o =>
      cases o with
      | lst ds =>
        rw [q] at e
        simp only [Option.some.injEq] at e
        obtain ⟨d', h1, rfl⟩ := Option.map_eq_some_iff.mp e
        obtain ⟨rfl, y⟩ := y
        obtain ⟨xs, ha, r, _⟩ := hr.adrL (l.at h) q
        obtain ⟨v, h2, rv⟩ := r.at h1
        have h3 := y xs (hK ▸ .of ha)
        rw [h2] at h3
        cases h3
        exact ⟨F', .refl _ _, hr, rv⟩
      | _ => rw [q] at e; cases e
/-- a list or a tuple, walked -/
def srcO (S : Store) : D → Option Src
  | .tup ds => some (.val (ds.map .one))
  | .lst ds => some (.val (ds.map .one))
  | .ro ds => some (.val (ds.map .one))
  | .adr n => (match S[n]? with | some (.lst _) => some (.ref n) | _ => none)
  | _ => none
def seqM (fa : DEnv → M D) : DEnv → M Src := fun ρ => bnd (fa ρ) fun d => look fun S => srcO S d
def iSeq (K : PySem.W.Frag) (tl : TE) : TI := fun σ H R => tl σ H fun x H1 => ∃ a, x = .ref a ∧ (((∃ xs, SqL K H1 a xs) ∧ R (Itl K a) H1) ∨ ((∃ xs, SqT K H1 a xs) ∧ R (Itt K a) H1))
theorem pi_seq {l : Expr} {tl : TE} (hl : PE X l tl) : PI X tg l (iSeq X.K tl) := by
  refine ⟨fun pins s σ H R I h => ?_⟩
  refine thn (hl.run pins s σ H _ I h) fun v s1 ⟨x, H1, I1, r1, q1⟩ => ?_
  obtain ⟨a, e, q⟩ := q1
  subst e
  cases r1
  rcases q with ⟨⟨xs, hq⟩, q⟩ | ⟨⟨xs, hq⟩, q⟩
  · obtain ⟨its, rv, p, hz⟩ := I1.list hq
    refine wpAny_pyIter_list p.isList ?_
    refine ⟨s1.heap.objs.size, [s1.heap.objs.size], _, _, H1, rfl, I1.kept (t' := s1.toks) fun b o e => Heap.get?_push_of_some _ e, turn_list a _, ⟨_, Heap.get?_push_size _ rfl, rfl, rfl⟩, fun b hb => ?_, q⟩
    have e : b = s1.heap.objs.size := by simpa using hb
    subst e
    exact I1.fpOk (Nat.le_refl _) (I1.hok.fresh (Nat.le_refl _))
  · obtain ⟨its, rv, p, hz⟩ := I1.tuple hq
    refine wpAny_pyIter_tuple (show s1.heap.IsTuple a its.toArray from p) ?_
    refine ⟨s1.heap.objs.size, [s1.heap.objs.size], _, _, H1, rfl, I1.kept (t' := s1.toks) fun b o e => Heap.get?_push_of_some _ e, turn_tuple a _, ⟨_, Heap.get?_push_size _ rfl, rfl, rfl⟩, fun b hb => ?_, q⟩
    have e : b = s1.heap.objs.size := by simpa using hb
    subst e
    exact I1.fpOk (Nat.le_refl _) (I1.hok.fresh (Nat.le_refl _))
theorem iI_seq (hK : X.K = G.K) (ha : PE X a (tI G E fa)) : PI X tg a (tII G E (seqM fa)) :=
  PI.imp (pi_seq ha) fun σ H R ⟨ρ, S, ι, F, W, he, h0, po⟩ => ⟨ρ, S, ι, F, W, he, h0, po.seq fun ι1 F1 S1 H1 d l1 h1 po => fun v r => by
    obtain ⟨src, hs, q⟩ := Post.look h1 po
    cases r with
    | tup h rs z => cases hs; exact ⟨_, rfl, .inr ⟨⟨_, hK ▸ (h.mono h1.sub).sq⟩, q _ (wlk_tup hK h.sq rs sqt_mono)⟩⟩
    | lst h rs z => cases hs; exact ⟨_, rfl, .inl ⟨⟨_, SqL.of (h1.sub _ _ h)⟩, q _ (wlk_lst hK (SqL.of h) rs)⟩⟩
    | ro h rs z => cases hs; exact ⟨_, rfl, .inl ⟨⟨_, hK ▸ SqL.mono h1.sub h⟩, q _ (wlk_lst hK h rs)⟩⟩
    | @adr a n h =>
      unfold srcO at hs
      simp only at hs
      cases q2 : S1[n]? with
      | none => rw [q2] at hs; cases hs
      | some o =>
        cases o with
        | lst ds =>
          rw [q2] at hs
          cases hs
          obtain ⟨xs, ha, _⟩ := h1.adrL h q2
          exact ⟨_, rfl, .inl ⟨⟨_, SqL.of ha⟩, q _ (wlk_ref hK h)⟩⟩
        | _ => rw [q2] at hs; cases hs
    | _ => cases hs⟩
/-- range -/
def rngI (lo : Int) (n : Nat) : List Itm := (List.range n).map fun (k : Nat) => .one (.int (lo + (k : Int)))
theorem rng_at {lo : Int} {n i : Nat} {d : Itm} (h : (rngI lo n)[i]? = some d) : i < n ∧ d = .one (.int (lo + i)) := by
  unfold rngI at h
  rw [List.getElem?_map] at h
  obtain ⟨k, h1, rfl⟩ := Option.map_eq_some_iff.mp h
  obtain ⟨h2, h3⟩ := List.getElem?_eq_some_iff.mp h1
  rw [List.length_range] at h2
  rw [List.getElem_range] at h3
  subst h3
  exact ⟨h2, rfl⟩
theorem wlk_rng {lo : Int} {n : Nat} {ι : List Addr} {F : Hp} : Wlk G (Itr lo n) ι F (.val (rngI lo n)) where
  go := fun i ι' F' W S H d l hr e => (rng_at (val_at e)).1
  stop := fun i ι' F' W S H l hr e => by
    have hi := val_end e
    rw [rngI, List.length_map, List.length_range] at hi
    exact Nat.le_of_eq hi.symm
  yld := fun i ι' F' W S H d x H' l hr e y => by
    obtain ⟨_, rfl⟩ := rng_at (val_at e)
    obtain ⟨rfl, rfl⟩ := y
    exact ⟨F', .refl _ _, hr, .int _⟩
def intO1 : D → Option Int
  | .int i => some i
  | _ => none
def rng1O (d : D) : Option Src := (intO1 d).bind fun j => if -(2 ^ 62) ≤ j ∧ j < 2 ^ 62 then some (.val (rngI 0 j.toNat)) else none
def rng2O (d e : D) : Option Src := (intO1 d).bind fun i => (intO1 e).bind fun j => if -(2 ^ 62) ≤ i ∧ i < 2 ^ 62 ∧ -(2 ^ 62) ≤ j ∧ j < 2 ^ 62 then some (.val (rngI i (j - i).toNat)) else none
def rng1M (fa : DEnv → M D) : DEnv → M Src := fun ρ => bnd (fa ρ) fun d => look fun _ => rng1O d
def rng2M (fa fb : DEnv → M D) : DEnv → M Src := fun ρ => bnd (fa ρ) fun d => bnd (fb ρ) fun e => look fun _ => rng2O d e
theorem iI_rng1 (hg : Gl X "range") (hm : X.mg "range" = none) (ha : PE X a (tI G E fa)) (ns : noStar a = true) : PI X tg (.Call (.Name "range" p) [a] [] pos) (tII G E (rng1M fa)) :=
  PI.imp (pi_range1 hg hm (pa_cons ha pa_nil (star_cons ns)) (star_cons ns)) fun σ H R ⟨ρ, S, ι, F, W, he, h0, po⟩ => ⟨ρ, S, ι, F, W, he, h0, po.seq fun ι1 F1 S1 H1 d l1 h1 po => fun v r => by
    obtain ⟨src, hs, q⟩ := Post.look h1 po
    cases r with
    | int j =>
      have hs : (if -(2 ^ 62) ≤ j ∧ j < 2 ^ 62 then some (Src.val (rngI 0 j.toNat)) else none) = some src := hs
      by_cases c : -(2 ^ 62) ≤ j ∧ j < 2 ^ 62
      · rw [if_pos c] at hs
        cases hs
        exact ⟨j, rfl, c.1, c.2, q _ wlk_rng⟩
      · rw [if_neg c] at hs; cases hs
    | _ => cases hs⟩
theorem iI_rng2 (hg : Gl X "range") (hm : X.mg "range" = none) (ha : PE X a (tI G E fa)) (hb : PE X b (tI G E fb)) (ns : noStar a = true) (nsb : noStar b = true) : PI X tg (.Call (.Name "range" p) [a, b] [] pos) (tII G E (rng2M fa fb)) :=
  PI.imp (pi_range2 hg hm (pa_cons ha (pa_cons hb pa_nil (star_cons nsb)) (star_cons ns)) ((star_cons ns).trans (by rw [star_cons nsb]; rfl)) (star_cons nsb)) fun σ H R ⟨ρ, S, ι, F, W, he, h0, po⟩ => ⟨ρ, S, ι, F, W, he, h0, po.seq fun ι1 F1 S1 H1 d l1 h1 po => fun v r =>
    ⟨ρ, S1, ι1, F1, W, he.mono l1, h1, po.seq fun ι2 F2 S2 H2 e l2 h2 po => fun v2 r2 => by
    obtain ⟨src, hs, q⟩ := Post.look h2 po
    cases r with
    | int i =>
      cases r2 with
      | int j =>
        have hs : (if -(2 ^ 62) ≤ i ∧ i < 2 ^ 62 ∧ -(2 ^ 62) ≤ j ∧ j < 2 ^ 62 then some (Src.val (rngI i (j - i).toNat)) else none) = some src := hs
        by_cases c : -(2 ^ 62) ≤ i ∧ i < 2 ^ 62 ∧ -(2 ^ 62) ≤ j ∧ j < 2 ^ 62
        · rw [if_pos c] at hs
          cases hs
          exact ⟨i, j, rfl, c, q _ wlk_rng⟩
        · rw [if_neg c] at hs; cases hs
      | _ => cases hs
    | _ => cases hs⟩⟩
/-- zip of two lists, or of two tuples, that stay -/
def zipI (xs ys : List D) : List Itm := (xs.zip ys).map fun p => .pair p.1 p.2
theorem zip_at {xs ys : List D} {i : Nat} {d : Itm} (h : (zipI xs ys)[i]? = some d) : ∃ a b, xs[i]? = some a ∧ ys[i]? = some b ∧ d = .pair a b := by
  unfold zipI at h
  rw [List.getElem?_map] at h
  obtain ⟨⟨a, b⟩, h1, rfl⟩ := Option.map_eq_some_iff.mp h
  have h2 := List.getElem?_zip_eq_some.mp h1
  exact ⟨a, b, h2.1, h2.2, rfl⟩
def stayO : D → Option (List D)
  | .lst ds => some ds
  | .ro ds => some ds
  | _ => none
def zipO (d e : D) : Option Src := match tupO d, tupO e with
  | some xs, some ys => some (.val (zipI xs ys))
  | none, none => (match stayO d, stayO e with | some xs, some ys => some (.val (zipI xs ys)) | _, _ => none)
  | _, _ => none
def zipM (fa fb : DEnv → M D) : DEnv → M Src := fun ρ => bnd (fa ρ) fun d => bnd (fb ρ) fun e => look fun _ => zipO d e
theorem HR.pair {ι : List Addr} {F H : Hp} {W : Hp} {S : Store} (hr : HR G ι F W S H) {T : Addr} (hT : H T = none) {x y : V} {d e : D} (rx : Rep G.K ι F x d) (ry : Rep G.K ι F y e) :
    ∃ F', Le ι F ι F' ∧ HR G ι F' W S (upd H T (.tup [x, y])) ∧ RepI G.K ι F' (upd H T (.tup [x, y])) (.ref T) (.pair d e) := by
  obtain ⟨h1, l⟩ := hr.keep hT (.tup [x, y])
  exact ⟨_, l, h1, T, x, y, rfl, .of upd_same, rx.mono l, ry.mono l⟩
theorem wlk_zip {K : PySem.W.Frag} {u w : Addr} {xs ys : List V} {ds es : List D} {ι : List Addr} {F : Hp} (hK : K = G.K) (h : SqL G.K F u xs) (h' : SqL G.K F w ys) (r : Reps G.K ι F xs ds) (r' : Reps G.K ι F ys es) : Wlk G (Itz K u w) ι F (.val (zipI ds es)) where
  go := fun i ι' F' W S H d l hr e => by
    obtain ⟨d1, d2, e1, e2, rfl⟩ := zip_at (val_at e)
    obtain ⟨v, h2, _⟩ := r.at e1
    obtain ⟨v', h3, _⟩ := r'.at e2
    exact ⟨xs, ys, v, v', hK ▸ SqL.mono hr.sub (SqL.mono l.sub h), hK ▸ SqL.mono hr.sub (SqL.mono l.sub h'), h2, h3⟩
  stop := fun i ι' F' W S H l hr e => by
    have hi := val_end e
    rw [zipI, List.length_map, List.length_zip] at hi
    refine ⟨xs, ys, hK ▸ SqL.mono hr.sub (SqL.mono l.sub h), hK ▸ SqL.mono hr.sub (SqL.mono l.sub h'), ?_⟩
    rw [r.length, r'.length]
    omega
  yld := fun i ι' F' W S H d x H' l hr e y => by
    obtain ⟨d1, d2, e1, e2, rfl⟩ := zip_at (val_at e)
    obtain ⟨T, x1, x2, rfl, hT, rfl, f1, f2⟩ := y
    obtain ⟨v, h2, rv⟩ := r.at e1
    obtain ⟨v', h3, rv'⟩ := r'.at e2
    have g1 := f1 xs (hK ▸ SqL.mono hr.sub (SqL.mono l.sub h))
    have g2 := f2 ys (hK ▸ SqL.mono hr.sub (SqL.mono l.sub h'))
    rw [h2] at g1
    rw [h3] at g2
    cases g1
    cases g2
    exact hr.pair hT (rv.mono l) (rv'.mono l)
theorem wlk_zipT {K : PySem.W.Frag} {u w : Addr} {xs ys : List V} {ds es : List D} {ι : List Addr} {F : Hp} (hK : K = G.K) (h : SqT G.K F u xs) (h' : SqT G.K F w ys) (r : Reps G.K ι F xs ds) (r' : Reps G.K ι F ys es) : Wlk G (RZ.ItzT K u w) ι F (.val (zipI ds es)) where
  go := fun i ι' F' W S H d l hr e => by
    obtain ⟨d1, d2, e1, e2, rfl⟩ := zip_at (val_at e)
    obtain ⟨v, h2, _⟩ := r.at e1
    obtain ⟨v', h3, _⟩ := r'.at e2
    exact ⟨xs, ys, v, v', hK ▸ sqt_mono _ _ hr.sub (sqt_mono _ _ l.sub h), hK ▸ sqt_mono _ _ hr.sub (sqt_mono _ _ l.sub h'), h2, h3⟩
  stop := fun i ι' F' W S H l hr e => by
    have hi := val_end e
    rw [zipI, List.length_map, List.length_zip] at hi
    refine ⟨xs, ys, hK ▸ sqt_mono _ _ hr.sub (sqt_mono _ _ l.sub h), hK ▸ sqt_mono _ _ hr.sub (sqt_mono _ _ l.sub h'), ?_⟩
    rw [r.length, r'.length]
    omega
  yld := fun i ι' F' W S H d x H' l hr e y => by
    obtain ⟨d1, d2, e1, e2, rfl⟩ := zip_at (val_at e)
    obtain ⟨T, x1, x2, rfl, hT, rfl, f1, f2⟩ := y
    obtain ⟨v, h2, rv⟩ := r.at e1
    obtain ⟨v', h3, rv'⟩ := r'.at e2
    have g1 := f1 xs (hK ▸ sqt_mono _ _ hr.sub (sqt_mono _ _ l.sub h))
    have g2 := f2 ys (hK ▸ sqt_mono _ _ hr.sub (sqt_mono _ _ l.sub h'))
    rw [h2] at g1
    rw [h3] at g2
    cases g1
    cases g2
    exact hr.pair hT (rv.mono l) (rv'.mono l)
theorem Rep.stay {K : PySem.W.Frag} {ι : List Addr} {F : Hp} {v : V} {d : D} {ds : List D} (r : Rep K ι F v d) (h : stayO d = some ds) : ∃ a xs, v = .ref a ∧ SqL K F a xs ∧ Reps K ι F xs ds ∧ ds.length ≤ big := by
  cases r with
  | lst h' r z => cases h; exact ⟨_, _, rfl, .of h', r, z⟩
  | ro h' r z => cases h; exact ⟨_, _, rfl, h', r, z⟩
  | _ => cases h
theorem Rep.tupF {K : PySem.W.Frag} {ι : List Addr} {F : Hp} {v : V} {d : D} {ds : List D} (r : Rep K ι F v d) (h : CI.tupO d = some ds) : ∃ a xs, v = .ref a ∧ TupA K F a xs ∧ Reps K ι F xs ds ∧ ds.length ≤ big := by
  cases r with
  | tup h' r z => cases h; exact ⟨_, _, rfl, h', r, z⟩
  | _ => cases h
theorem iI_zip (hK : X.K = G.K) {elts : List Expr} {kk : Nat} {tpos : Pos} (hg : Gl X "zip") (hm : X.mg "zip" = none) (ha : PE X a (tI G E fa)) (hb : PE X b (tI G E fb)) (ns : noStar a = true) (nsb : noStar b = true) :
    PI X (.Tuple elts kk tpos) (.Call (.Name "zip" p) [a, b] [] pos) (tII G E (zipM fa fb)) :=
  PI.imp (RZ.pi_zipA hg hm (pa_cons ha (pa_cons hb pa_nil (star_cons nsb)) (star_cons ns)) (star_cons ns) (star_any (by simp [nsb]))) fun σ H R ⟨ρ, S, ι, F, W, he, h0, po⟩ => ⟨ρ, S, ι, F, W, he, h0, po.seq fun ι1 F1 S1 H1 d l1 h1 po => fun v r =>
    ⟨ρ, S1, ι1, F1, W, he.mono l1, h1, po.seq fun ι2 F2 S2 H2 e l2 h2 po => fun v2 r2 => by
    obtain ⟨src, hs, q⟩ := Post.look h2 po
    have r := r.mono l2
    unfold zipO at hs
    cases q1 : tupO d with
    | some xs =>
      cases q2 : tupO e with
      | some ys =>
        rw [q1, q2] at hs
        cases hs
        obtain ⟨u, us, rfl, hu, ru, _⟩ := r.tupF q1
        obtain ⟨w, ws, rfl, hw, rw_, _⟩ := r2.tupF q2
        exact ⟨u, w, us, ws, rfl, .inr ⟨hK ▸ (hu.mono h2.sub).sq, hK ▸ (hw.mono h2.sub).sq, q _ (wlk_zipT hK hu.sq hw.sq ru rw_)⟩⟩
      | none => rw [q1, q2] at hs; cases hs
    | none =>
      cases q2 : tupO e with
      | some ys => rw [q1, q2] at hs; cases hs
      | none =>
        rw [q1, q2] at hs
        simp only at hs
        cases q3 : stayO d with
        | none => rw [q3] at hs; cases hs
        | some xs =>
          cases q4 : stayO e with
          | none => rw [q3, q4] at hs; cases hs
          | some ys =>
            rw [q3, q4] at hs
            cases hs
            obtain ⟨u, us, rfl, hu, ru, _⟩ := r.stay q3
            obtain ⟨w, ws, rfl, hw, rw_, _⟩ := r2.stay q4
            exact ⟨u, w, us, ws, rfl, .inl ⟨hK ▸ SqL.mono h2.sub hu, hK ▸ SqL.mono h2.sub hw, q _ (wlk_zip hK hu hw ru rw_)⟩⟩⟩⟩
/-- enumerate of a list that stays -/
def enumI : Nat → List D → List Itm
  | _, [] => []
  | k, d :: ds => .pair (.int k) d :: enumI (k + 1) ds
theorem enum_at : ∀ {xs : List D} {k i : Nat} {d : Itm}, (enumI k xs)[i]? = some d → ∃ a, xs[i]? = some a ∧ d = .pair (.int ((k + i : Nat) : Int)) a
  | [], _, _, _, h => by simp [enumI] at h
  | x :: xs, k, 0, d, h => by
    simp [enumI] at h
    subst h
    exact ⟨x, rfl, rfl⟩
  | x :: xs, k, i + 1, d, h => by
    obtain ⟨a, h1, rfl⟩ := enum_at (xs := xs) (k := k + 1) (i := i) (by simpa [enumI] using h)
    refine ⟨a, by simpa using h1, ?_⟩
    have : k + 1 + i = k + (i + 1) := by omega
    rw [this]
theorem enum_len : ∀ (xs : List D) (k : Nat), (enumI k xs).length = xs.length
  | [], _ => rfl
  | x :: xs, k => by simp [enumI, enum_len xs]
def enumO (S : Store) : D → Option Src
  | .tup ds => some (.val (enumI 0 ds))
  | .lst ds => some (.val (enumI 0 ds))
  | .ro ds => some (.val (enumI 0 ds))
  | .adr n => (match S[n]? with | some (.lst _) => some (.eref n) | _ => none)
  | _ => none
def enumM (fa : DEnv → M D) : DEnv → M Src := fun ρ => bnd (fa ρ) fun d => look fun S => enumO S d
theorem wlk_enum {K : PySem.W.Frag} {u : Addr} {xs : List V} {ds : List D} {ι : List Addr} {F : Hp} (hK : K = G.K) (h : SqL G.K F u xs) (r : Reps G.K ι F xs ds) : Wlk G (Ite K u) ι F (.val (enumI 0 ds)) where
  go := fun i ι' F' W S H d l hr e => by
    obtain ⟨d1, e1, rfl⟩ := enum_at (val_at e)
    obtain ⟨v, h2, _⟩ := r.at e1
    exact ⟨xs, v, hK ▸ SqL.mono hr.sub (SqL.mono l.sub h), h2⟩
  stop := fun i ι' F' W S H l hr e => by
    have hi := val_end e
    rw [enum_len] at hi
    exact ⟨xs, hK ▸ SqL.mono hr.sub (SqL.mono l.sub h), by rw [r.length]; omega⟩
  yld := fun i ι' F' W S H d x H' l hr e y => by
    obtain ⟨d1, e1, rfl⟩ := enum_at (val_at e)
    obtain ⟨T, x1, rfl, hT, rfl, f1⟩ := y
    obtain ⟨v, h2, rv⟩ := r.at e1
    have g1 := f1 xs (hK ▸ SqL.mono hr.sub (SqL.mono l.sub h))
    rw [h2] at g1
    cases g1
    rw [show (0 + i : Nat) = i by omega]
    exact hr.pair hT (.int _) (rv.mono l)
theorem wlk_enumT {K : PySem.W.Frag} {u : Addr} {xs : List V} {ds : List D} {ι : List Addr} {F : Hp} (hK : K = G.K) (h : SqT G.K F u xs) (r : Reps G.K ι F xs ds) : Wlk G (IteT K u) ι F (.val (enumI 0 ds)) where
  go := fun i ι' F' W S H d l hr e => by
    obtain ⟨d1, e1, rfl⟩ := enum_at (val_at e)
    obtain ⟨v, h2, _⟩ := r.at e1
    exact ⟨xs, v, hK ▸ sqt_mono _ _ hr.sub (sqt_mono _ _ l.sub h), h2⟩
  stop := fun i ι' F' W S H l hr e => by
    have hi := val_end e
    rw [enum_len] at hi
    exact ⟨xs, hK ▸ sqt_mono _ _ hr.sub (sqt_mono _ _ l.sub h), by rw [r.length]; omega⟩
  yld := fun i ι' F' W S H d x H' l hr e y => by
    obtain ⟨d1, e1, rfl⟩ := enum_at (val_at e)
    obtain ⟨T, x1, rfl, hT, rfl, f1⟩ := y
    obtain ⟨v, h2, rv⟩ := r.at e1
    have g1 := f1 xs (hK ▸ sqt_mono _ _ hr.sub (sqt_mono _ _ l.sub h))
    rw [h2] at g1
    cases g1
    rw [show (0 + i : Nat) = i by omega]
    exact hr.pair hT (.int _) (rv.mono l)
theorem eref_at {S : Store} {n i : Nat} {o : Option Itm} (e : (Src.eref n).at S i = some o) : ∃ ds, S[n]? = some (.lst ds) ∧ o = ds[i]?.map fun d => .pair (.int (i : Nat)) d := by
  unfold Src.at at e
  simp only at e
  cases q : S[n]? with
  | none => rw [q] at e; cases e
  | some ob =>
    cases ob with
    | lst ds =>
      rw [q] at e
      simp only [Option.some.injEq] at e
      exact ⟨ds, rfl, e.symm⟩
    | _ => rw [q] at e; cases e
theorem wlk_eref {K : PySem.W.Frag} {a : Addr} {n : Nat} {ι : List Addr} {F : Hp} (hK : K = G.K) (h : ι[n]? = some a) : Wlk G (Ite K a) ι F (.eref n) where
  go := fun i ι' F' W S H d l hr e => by
    obtain ⟨ds, q, e⟩ := eref_at e
    obtain ⟨d', h1, rfl⟩ := Option.map_eq_some_iff.mp e.symm
    obtain ⟨xs, ha, r, _⟩ := hr.adrL (l.at h) q
    obtain ⟨v, h2, _⟩ := r.at h1
    exact ⟨xs, v, hK ▸ .of ha, h2⟩
  stop := fun i ι' F' W S H l hr e => by
    obtain ⟨ds, q, e⟩ := eref_at e
    have e := Option.map_eq_none_iff.mp e.symm
    obtain ⟨xs, ha, r, _⟩ := hr.adrL (l.at h) q
    exact ⟨xs, hK ▸ .of ha, by rw [r.length]; exact List.getElem?_eq_none_iff.mp e⟩
  yld := fun i ι' F' W S H d x H' l hr e y => by
    obtain ⟨ds, q, e⟩ := eref_at e
    obtain ⟨d', h1, rfl⟩ := Option.map_eq_some_iff.mp e.symm
    obtain ⟨T, x1, rfl, hT, rfl, f1⟩ := y
    obtain ⟨xs, ha, r, _⟩ := hr.adrL (l.at h) q
    obtain ⟨v, h2, rv⟩ := r.at h1
    have g1 := f1 xs (hK ▸ .of ha)
    rw [h2] at g1
    cases g1
    exact hr.pair hT (.int _) rv
theorem iI_enum (hK : X.K = G.K) {elts : List Expr} {kk : Nat} {tpos : Pos} (hg : Gl X "enumerate") (hm : X.mg "enumerate" = none) (ha : PE X a (tI G E fa)) (ns : noStar a = true) :
    PI X (.Tuple elts kk tpos) (.Call (.Name "enumerate" p) [a] [] pos) (tII G E (enumM fa)) :=
  PI.imp (pi_enum2 hg hm (pa_cons ha pa_nil (star_cons ns)) (star_cons ns)) fun σ H R ⟨ρ, S, ι, F, W, he, h0, po⟩ => ⟨ρ, S, ι, F, W, he, h0, po.seq fun ι1 F1 S1 H1 d l1 h1 po => fun v r => by
    obtain ⟨src, hs, q⟩ := Post.look h1 po
    cases r with
    | tup h' r z =>
      cases hs
      exact ⟨_, rfl, .inr ⟨_, hK ▸ (h'.mono h1.sub).sq, q _ (wlk_enumT hK h'.sq r)⟩⟩
    | lst h' r z =>
      cases hs
      exact ⟨_, rfl, .inl ⟨_, SqL.of (h1.sub _ _ h'), q _ (wlk_enum hK (SqL.of h') r)⟩⟩
    | ro h' r z =>
      cases hs
      exact ⟨_, rfl, .inl ⟨_, hK ▸ SqL.mono h1.sub h', q _ (wlk_enum hK h' r)⟩⟩
    | @adr a n h' =>
      unfold enumO at hs
      simp only at hs
      cases q1 : S1[n]? with
      | none => rw [q1] at hs; cases hs
      | some ob =>
        cases ob with
        | lst ds =>
          rw [q1] at hs
          cases hs
          obtain ⟨xs, ha, _, _⟩ := h1.adrL h' q1
          exact ⟨_, rfl, .inl ⟨xs, SqL.of ha, q _ (wlk_eref hK h')⟩⟩
        | _ => rw [q1] at hs; cases hs
    | _ => cases hs⟩

/-! ### one turn's target -/
def tGT (G : Gx) (E : XS) (t : Tg) : TG := fun v σ H Q => ∃ ρ S ι F W it, EnvR G ι F ρ σ ∧ HR G ι F W S H ∧ RepI G.K ι F H v it ∧ Post G ι F W E (RE G t.slots σ Q) (tgI t it ρ S)
theorem gT_name {x : Str} {i : Nat} (hN : X.N.Nodup) (hi : X.N[i]? = some x) (hx : Loc X.env.scope x) (hf : X.fn x = true ∨ X.env.scope.names.lookup x = some .local) : PG X (.Name x pos) (tGT G E (.n i)) :=
  PG.imp (pg_name hN hi hx hf) fun v σ H Q ⟨ρ, S, ι, F, W, it, he, h0, r, po⟩ => by
    cases it with
    | one d => exact po.now h0 _ (he.set i r) (Sm.set i _ σ)
    | pair d e => exact po.elim
theorem gT_tup {es : List Expr} {ts : List Tg} (hK : X.K = G.K) {k : Nat} (hc : X.calm = true) (h : PGs X es (tGIs G E ts)) (hn : (assignEach es X.env).length = ts.length) (hst : (assignEach es X.env).findIdx? (·.1) = none) : PG X (.Tuple es k pos) (tGT G E (.t ts)) :=
  PG.imp (pg_tup hc h hn hst) fun v σ H Q ⟨ρ, S, ι, F, W, it, he, h0, r, po⟩ => by
    cases it with
    | one d =>
      cases r with
      | tup h1 rs z =>
        unfold tgI tgM at po
        simp only at po
        obtain ⟨hl, po⟩ := Post.if_ po
        exact ⟨_, _, rfl, hK ▸ (h1.mono h0.sub).sq, by rw [rs.length]; exact hl, ρ, S, ι, F, W, _, he, h0, rs, hl, po⟩
      | _ => exact po.elim
    | pair d e =>
      match ts, po with
      | [t1, t2], po =>
        obtain ⟨T, y, z, rfl, hT, ry, rz⟩ := r
        exact ⟨T, [y, z], rfl, hK ▸ hT, rfl, ρ, S, ι, F, W, [d, e], he, h0, .cons ry (.cons rz .nil), rfl, po⟩
      | [], po => exact po.elim
      | [t1], po => exact po.elim
      | t1 :: t2 :: t3 :: r, po => exact po.elim
end

/-! ### comprehensions -/
/-- no error leaves the block of a comprehension -/
def noExc {α : Type} (m : M α) : M α := fun S => match m S with
  | .ok a S' => .ok a S'
  | _ => .bad
theorem Post.noExc {G : Gx} {ι : List Addr} {F : Hp} {W : Hp} {E : XS} {α : Type} {R : RT α} {m : M α} {S : Store} (h : Post G ι F W E R (noExc m S)) : Post G ι F W E0 R (m S) := by
  unfold CI.noExc at h
  cases e : m S with
  | ok a S' => rw [e] at h; exact h
  | exc x S' => rw [e] at h; exact h.elim
  | bad => rw [e] at h; exact h.elim
/-- what a turn gives, if it gives something -/
def turnM (t : Tg) (fc fe : DEnv → M D) (ρ : DEnv) (it : Itm) : M (Option D) := noExc (bnd (tgI t it ρ) fun ρ' => bnd (tsM fc ρ') fun k => if k = true then bnd (fe ρ') fun d => ret (some d) else ret none)
def lcS (src : Src) (turn : Itm → M (Option D)) : Nat → Nat → List D → M (List D)
  | 0, _, _ => fail
  | f + 1, i, acc => fun S => match src.at S i with
    | none => .bad
    | some none => .ok acc S
    | some (some it) => bnd (turn it) (fun o => match o with
      | some d => if acc.length < big then lcS src turn f (i + 1) (acc ++ [d]) else fail
      | none => lcS src turn f (i + 1) acc) S
def Src.fuel : Src → Nat
  | .val its => its.length + 1
  | .ref _ => big + 2
  | .eref _ => big + 2
def lcM (m : Bool) (t : Tg) (fi : DEnv → M Src) (fc fe : DEnv → M D) (own : List Nat) : DEnv → M D := fun ρ => bnd (fi ρ) fun src => bnd (lcS src (turnM t fc fe (wipeD ρ own)) src.fuel 0 []) fun ds => fin m ds

section
variable {X : Cx} {G : Gx} {E : XS} {pos : Pos} {tg iter elt c : Expr}
theorem RepI.here {K : PySem.W.Frag} {ι : List Addr} {F H : Hp} {x : V} {it : Itm} (h : RepI K ι F H x it) : RepI K ι F H x it := h
/-- a list that is being made, kept aside -/
theorem HR.hold {ι : List Addr} {F W : Hp} {S : Store} {H : Hp} {p : Addr} (h : HR G ι F W S H) (hp : H p = none) (xs : List V) : HR G ι F (upd W p (.lst xs)) S (upd H p (.lst xs)) := by
  have fp : F p = none := by
    cases q : F p with
    | none => rfl
    | some u => rw [h.sub p u q] at hp; cases hp
  have np : p ∉ ι := fun ha => by
    obtain ⟨n, hn⟩ := List.mem_iff_getElem?.mp ha
    obtain ⟨q, _⟩ := List.getElem?_eq_some_iff.mp hn
    have q' : n < S.length := h.len ▸ q
    have o := h.obs n p S[n] hn (List.getElem?_eq_getElem q')
    generalize S[n] = ob at o
    cases o with
    | lst e _ _ => rw [hp] at e; cases e
    | dct e _ _ => rw [hp] at e; cases e
    | ins e _ _ _ => rw [hp] at e; cases e
    | dcn e _ _ _ _ _ _ _ => rw [hp] at e; cases e
  refine ⟨fun a u e => by rw [upd_ne (ne_of_none e fp)]; exact h.sub a u e, h.len, h.nd, h.sep, fun a u e => ?_, fun n a ob e1 e2 => ?_, h.held.next (Le.refl _ _) fun d fv q1 q2 q3 q4 => ⟨by rw [upd_ne (ne_of_none q1 hp)]; exact q1, q2, q3, by rw [upd_ne (ne_of_none q1 hp)]; exact q4⟩⟩
  · by_cases ha : a = p
    · subst ha
      rw [upd_same] at e ⊢
      exact ⟨e, fp, np⟩
    · rw [upd_ne ha] at e ⊢
      exact h.aside a u e
  · have na : a ≠ p := fun z => np (z ▸ List.mem_of_getElem? e1)
    cases h.obs n a ob e1 e2 with
    | lst q r z => exact .lst (by rw [upd_ne na]; exact q) r z
    | dct q r z => exact .dct (by rw [upd_ne na]; exact q) r z
    | ins q c r z => exact .ins (by rw [upd_ne na]; exact q) c r z
    | dcn q c x y n s r z => exact .dcn (by rw [upd_ne na]; exact q) c x y n s r z
/-- .. changed -/
theorem HR.rehold {ι : List Addr} {F W : Hp} {S : Store} {H : Hp} {p : Addr} {xs : List V} (h : HR G ι F (upd W p (.lst xs)) S H) (ys : List V) : HR G ι F (upd W p (.lst ys)) S (upd H p (.lst ys)) := by
  obtain ⟨_, fp, np⟩ := h.aside p _ upd_same
  refine ⟨fun a u e => by rw [upd_ne (ne_of_none e fp)]; exact h.sub a u e, h.len, h.nd, h.sep, fun a u e => ?_, fun n a ob e1 e2 => ?_, h.held.next (Le.refl _ _) fun d fv q1 q2 q3 q4 => (by have nd : d ≠ p := fun z => (by rw [z, upd_same] at q4; cases q4); rw [upd_ne nd] at q4; exact ⟨by rw [upd_ne nd]; exact q1, q2, q3, by rw [upd_ne nd]; exact q4⟩)⟩
  · by_cases ha : a = p
    · subst ha
      rw [upd_same] at e ⊢
      exact ⟨e, fp, np⟩
    · rw [upd_ne ha] at e ⊢
      exact h.aside a u (by rw [upd_ne ha]; exact e)
  · have na : a ≠ p := fun z => np (z ▸ List.mem_of_getElem? e1)
    cases h.obs n a ob e1 e2 with
    | lst q r z => exact .lst (by rw [upd_ne na]; exact q) r z
    | dct q r z => exact .dct (by rw [upd_ne na]; exact q) r z
    | ins q c r z => exact .ins (by rw [upd_ne na]; exact q) c r z
    | dcn q c x y n s r z => exact .dcn (by rw [upd_ne na]; exact q) c x y n s r z
/-- .. told -/
theorem lc_end {ι : List Addr} {F W : Hp} {Q : VK} {m : Bool} {p : Addr} {H : Hp} {S : Store} {acc : List D} {xs : List V} (hW : W p = none) (hr : HR G ι F (upd W p (.lst xs)) S H) (r : Reps G.K ι F xs acc) (z : acc.length ≤ big)
    (po : Post G ι F W E (RV G Q) (fin m acc S)) : Q (.ref p) H := by
  obtain ⟨hD, fp, np⟩ := hr.aside p _ upd_same
  have hr' : HR G ι F W S (fun b => if b = p then none else H b) := by
    refine ⟨fun a o q => ?_, hr.len, hr.nd, hr.sep, fun a u e => ?_, fun n a ob e1 e2 => ?_, hr.held.next (Le.refl _ _) fun d fv q1 q2 q3 q4 => (by have nd : d ≠ p := fun z => (by rw [z, upd_same] at q4; cases q4); rw [upd_ne nd] at q4; exact ⟨(if_neg nd).trans q1, q2, q3, q4⟩)⟩
    · have : a ≠ p := fun z => by rw [z, fp] at q; cases q
      show (if a = p then none else H a) = some o
      rw [if_neg this]
      exact hr.sub a o q
    · have : a ≠ p := fun z => by rw [z, hW] at e; cases e
      obtain ⟨e1, e2, e3⟩ := hr.aside a u (by rw [upd_ne this]; exact e)
      exact ⟨(if_neg this).trans e1, e2, e3⟩
    · have na : a ≠ p := fun z => np (z ▸ List.mem_of_getElem? e1)
      have ea : (if a = p then none else H a) = H a := if_neg na
      cases hr.obs n a ob e1 e2 with
      | lst q r z => exact .lst (ea.trans q) r z
      | dct q r z => exact .dct (ea.trans q) r z
      | ins q c r z => exact .ins (ea.trans q) c r z
      | dcn q c x y n s r z => exact .dcn (ea.trans q) c x y n s r z
  have e2 : upd (fun b => if b = p then none else H b) p (.lst xs) = H := by
    funext b
    unfold upd
    by_cases h : b = p
    · rw [if_pos h, h, hD]
    · rw [if_neg h]
      exact if_neg h
  have := po.fin hr' r z p (if_pos rfl)
  rw [e2] at this
  exact this
/-- the reading of a comprehension -/
theorem lc_read {t : Tg} {fi : DEnv → M Src} {fc fe : DEnv → M D} {own : List Nat} {m : Bool} {σ : L2.St} {H : Hp} {Q : VK} (hx : G.xv = none) (ho : ∀ i ∈ t.slots, i ∈ own) (h : tI G E (lcM m t fi fc fe own) σ H Q) :
    tLc (tII G E fi) (tGT G E0 t) (tIB G E0 (tsM fc)) (tI G E0 fe) own σ H Q := by
  obtain ⟨ρ, S, ι, F, W, he, h0, po⟩ := h
  refine ⟨ρ, S, ι, F, W, he, h0, po.seq fun ι1 F1 S1 H1 src l1 h1 po => fun J w => ?_⟩
  intro p hp
  have hW : W p = none := by
    cases q : W p with
    | none => rfl
    | some u => rw [(h1.aside p u q).1] at hp; cases hp
  have he1 := (he.mono l1).wipe hx own
  refine ⟨fun i k H2 => ∃ ι2 F2 S2 acc xs, Le ι1 F1 ι2 F2 ∧ HR G ι2 F2 (upd W p (.lst xs)) S2 H2 ∧ Reps G.K ι2 F2 xs acc ∧ acc.length ≤ big ∧
      Post G ι2 F2 W E (RV G Q) (bnd (lcS src (turnM t fc fe (wipeD ρ own)) k i acc) (fun ds => fin m ds) S2), ⟨src.fuel, ι1, F1, S1, [], [], .refl _ _, h1.hold hp [], .nil, Nat.zero_le _, po⟩, ?_⟩
  rintro i k H2 ⟨ι2, F2, S2, acc, xs, l2, h2, rs, z, po⟩
  cases k with
  | zero => exact po.elim
  | succ k =>
    cases q : src.at S2 i with
    | none =>
      unfold CI.bnd lcS at po
      rw [q] at po
      exact po.elim
    | some o =>
      cases o with
      | none =>
        refine .inl ⟨w.stop i _ _ _ _ _ l2 h2 q, ?_⟩
        have po : Post G ι2 F2 W E (RV G Q) (fin m acc S2) := by
          unfold CI.bnd lcS at po
          rw [q] at po
          exact po
        exact lc_end hW h2 rs z po
      | some it =>
        refine .inr ⟨w.go i _ _ _ _ _ it l2 h2 q, fun H' => ∃ m', m' < k + 1 ∧ ∃ ι2 F2 S2 acc xs, Le ι1 F1 ι2 F2 ∧ HR G ι2 F2 (upd W p (.lst xs)) S2 H' ∧ Reps G.K ι2 F2 xs acc ∧ acc.length ≤ big ∧
          Post G ι2 F2 W E (RV G Q) (bnd (lcS src (turnM t fc fe (wipeD ρ own)) m' (i + 1) acc) (fun ds => fin m ds) S2), fun H' q => q, fun x H' y => ?_⟩
        obtain ⟨F3, l3, h3, ri⟩ := w.yld i _ _ _ _ _ it x H' l2 h2 q y
        have rs3 := rs.mono l3
        have po : Post G ι2 F3 W E (RV G Q) (bnd (noExc (bnd (tgI t it (wipeD ρ own)) fun ρ' => bnd (tsM fc ρ') fun k => if k = true then bnd (fe ρ') fun d => ret (some d) else ret none))
            (fun o => bnd (match o with | some d => if acc.length < big then lcS src (turnM t fc fe (wipeD ρ own)) k (i + 1) (acc ++ [d]) else fail | none => lcS src (turnM t fc fe (wipeD ρ own)) k (i + 1) acc) fun ds => fin m ds) S2) := by
          rw [← bnd_assoc]
          have e : bnd (lcS src (turnM t fc fe (wipeD ρ own)) (k + 1) i acc) (fun ds => fin m ds) S2 = bnd (bnd (turnM t fc fe (wipeD ρ own) it) fun o => match o with | some d => if acc.length < big then lcS src (turnM t fc fe (wipeD ρ own)) k (i + 1) (acc ++ [d]) else fail | none => lcS src (turnM t fc fe (wipeD ρ own)) k (i + 1) acc) (fun ds => fin m ds) S2 := by
            unfold CI.bnd
            conv => lhs; unfold lcS
            rw [q]
            rfl
          rw [e] at po
          exact po.le l3
        -- the turn, without an error
        have post : ∀ {α : Type} {mm : M α} {f : α → M D} {S' : Store} {ι3 : List Addr} {F3 : Hp} {R : RT D}, Post G ι3 F3 W E R (bnd (noExc mm) f S') →
            ∀ xs, Post G ι3 F3 (upd W p (.lst xs)) E0 (fun ι' F' S'' H'' a => Post G ι' F' W E R (f a S'')) (mm S') := fun {α mm f S' ι3 F3 R} po xs => by
          unfold CI.bnd CI.noExc at po
          cases e : mm S' with
          | ok a S'' =>
            rw [e] at po
            exact fun ι' F' H'' l hr => po.le l
          | exc x S'' => rw [e] at po; exact po.elim
          | bad => rw [e] at po; exact po.elim
        have po2 := post po xs
        refine ⟨wipeD ρ own, S2, ι2, F3, upd W p (.lst xs), it, (he1.mono l2).mono l3, h3, ri, ?_⟩
        refine po2.seq fun ι4 F4 S4 H4 ρ4 l4 h4 po => fun σ4 e4 s4 => ⟨(s4.wipe ho).trans (wipe_wipe _ _), ?_⟩
        refine ⟨ρ4, S4, ι4, F4, upd W p (.lst xs), e4, h4, po.seq fun ι5 F5 S5 H5 b l5 h5 po => ?_⟩
        cases b with
        | false =>
          have po := po.now h5
          exact ⟨k, Nat.lt_succ_self k, ι5, F5, S5, acc, xs, ((l2.trans l3).trans l4).trans l5, h5, rs3.mono (l4.trans l5), z, po⟩
        | true =>
          refine ⟨ρ4, S5, ι5, F5, upd W p (.lst xs), e4.mono l5, h5, Post.seq (m := fe ρ4) po fun ι6 F6 S6 H6 d l6 h6 po => fun v r => ?_⟩
          have po := po.now h6
          have rs6 := rs3.mono ((l4.trans l5).trans l6)
          have hlen : acc.length < big := by
            by_cases c : acc.length < big
            · exact c
            · simp only [if_neg c] at po
              exact po.elim
          simp only [if_pos hlen] at po
          exact ⟨xs, (h6.aside p _ upd_same).1, by rw [rs.length]; exact lt_line z, k, Nat.lt_succ_self k, ι6, F6, S6, acc ++ [d], xs ++ [v], (((l2.trans l3).trans l4).trans l5).trans l6, h6.rehold _, rs6.append (.cons r .nil), by rw [List.length_append, List.length_singleton]; omega, po⟩
end
end CI

/-! Statements. -/
namespace CI
open PySem PySem.Spec PyProof.Rows L2 HT

theorem PTs.imp {X : Cx} {es : List Expr} {t t' : TT} (h : PTs X es t) (k : ∀ σ H Q, t' σ H Q → t σ H Q) : PTs X es t' := ⟨fun pins s σ H Q I q => h.run pins s σ H Q I (k _ _ _ q)⟩
section
variable {X : Cx} {G : Gx} {E : XS} {pos : Pos}
theorem cI_nil : PTs X [] (tIB G E (tsM (constM (.bl true)))) := PTs.imp pts_nil fun σ H Q ⟨ρ, S, ι, F, W, he, h0, po⟩ => po.now h0
theorem cI_one {c : Expr} {fc : DEnv → M D} (h : PT X c (tIB G E (tsM fc))) : PTs X [c] (tIB G E (tsM fc)) := pts_one h
section
variable {tg iter elt : Expr} {ifs : List Expr} {scope : Scope} {own : List (Str × Nat)} {t : Tg} {fi : DEnv → M Src} {fc fe : DEnv → M D} {m : Bool}
theorem eI_lc (f : Fit X G E) (hi : PI X tg iter (tII G E fi)) (ok : BlkOk X.N X.env.scope scope own)
    (hg : ∀ (s : Shared) (H : Hp) (C : Addr) (cl : List (Str × Addr)) (fp : List Addr), PG (X.blk s H scope (compEnvC scope cl C X.env) fp) tg (tGT G E0 t))
    (ht : ∀ (s : Shared) (H : Hp) (C : Addr) (cl : List (Str × Addr)) (fp : List Addr), PTs (X.blk s H scope (compEnvC scope cl C X.env) fp) ifs (tIB G E0 (tsM fc)))
    (he : ∀ (s : Shared) (H : Hp) (C : Addr) (cl : List (Str × Addr)) (fp : List Addr), PE (X.blk s H scope (compEnvC scope cl C X.env) fp) elt (tI G E0 fe)) (hs : ∀ x, foldedSetIterable iter X.env x = pure x) (ho : ∀ i ∈ t.slots, i ∈ own.map (·.2)) :
    PE X (.ListComp elt [⟨tg, iter, ifs, 0⟩] scope pos) (tI G E (lcM m t fi fc fe (own.map (·.2)))) :=
  PE.imp (pe_lc f.calm f.nd hi ok hg ht he hs) fun σ H Q h => lc_read f.xv ho h
end

/-! ### how a statement ends -/
inductive Fl where
  | nx (ρ : DEnv) | bk (ρ : DEnv) | ct (ρ : DEnv) | rt (d : D)
abbrev RF (G : Gx) (D : Ends) : RT Fl := fun ι' F' _ H' fl => match fl with
  | .nx ρ => ∀ σ, EnvR G ι' F' ρ σ → D.nx σ H'
  | .bk ρ => ∀ σ, EnvR G ι' F' ρ σ → D.bk σ H'
  | .ct ρ => ∀ σ, EnvR G ι' F' ρ σ → D.ct σ H'
  | .rt d => ∀ v, Rep G.K ι' F' v d → D.rt v H'
def tSI (G : Gx) (E : XS) (m : DEnv → M Fl) : TS := fun D σ H => ∃ ρ S ι F W, EnvR G ι F ρ σ ∧ HR G ι F W S H ∧ Post G ι F W E (RF G D) (m ρ S)
def nxM : DEnv → M Fl := fun ρ => ret (.nx ρ)
def thenF (b : DEnv → M Fl) (fl : Fl) : M Fl := match fl with
  | .nx ρ => b ρ
  | fl => ret fl
def thenM (a b : DEnv → M Fl) : DEnv → M Fl := fun ρ => bnd (a ρ) (thenF b)
variable {st : Stmt} {rest : List Stmt} {a b : DEnv → M Fl} {fe : DEnv → M D} {e : Expr}
theorem sI_nil : PSs X [] (tSI G E nxM) := PSs.imp pss_nil fun D σ H ⟨ρ, S, ι, F, W, he, h0, po⟩ => po.now h0 _ he
theorem sI_cons (h1 : PS X st (tSI G E a)) (h2 : PSs X rest (tSI G E b)) : PSs X (st :: rest) (tSI G E (thenM a b)) :=
  PSs.imp (pss_cons h1 h2) fun D σ H ⟨ρ, S, ι, F, W, he, h0, po⟩ => ⟨ρ, S, ι, F, W, he, h0, po.seq fun ι1 F1 S1 H1 fl l1 h1 po => by
    cases fl with
    | nx ρ' => exact fun σ' e' => ⟨ρ', S1, ι1, F1, W, e', h1, po⟩
    | bk ρ' => exact fun σ' e' => po.now h1 σ' e'
    | ct ρ' => exact fun σ' e' => po.now h1 σ' e'
    | rt d => exact fun v r => po.now h1 v r⟩
theorem sI_one (h1 : PS X st (tSI G E a)) : PSs X [st] (tSI G E a) := pss_one h1
theorem sI_pass : PS X (.Pass pos) (tSI G E nxM) := PS.imp ps_pass fun D σ H ⟨ρ, S, ι, F, W, he, h0, po⟩ => po.now h0 _ he
theorem sI_doc {x j pos pos'} : PS X (.Expr (.Constant (.str x) j pos) pos') (tSI G E nxM) := PS.imp ps_doc fun D σ H ⟨ρ, S, ι, F, W, he, h0, po⟩ => po.now h0 _ he
def bkM : DEnv → M Fl := fun ρ => ret (.bk ρ)
def ctM : DEnv → M Fl := fun ρ => ret (.ct ρ)
theorem sI_break : PS X (.Break pos) (tSI G E bkM) := PS.imp ps_break fun D σ H ⟨ρ, S, ι, F, W, he, h0, po⟩ => po.now h0 _ he
theorem sI_continue : PS X (.Continue pos) (tSI G E ctM) := PS.imp ps_continue fun D σ H ⟨ρ, S, ι, F, W, he, h0, po⟩ => po.now h0 _ he
def exprM (fe : DEnv → M D) : DEnv → M Fl := fun ρ => bnd (fe ρ) fun _ => ret (.nx ρ)
theorem sI_expr (he : PE X e (tI G E fe)) (hs : swapsWith e none pos.line X.env = pure false) : PS X (.Expr e pos) (tSI G E (exprM fe)) :=
  PS.imp (ps_expr he hs) fun D σ H ⟨ρ, S, ι, F, W, he, h0, po⟩ => ⟨ρ, S, ι, F, W, he, h0, po.seq fun ι1 F1 S1 H1 d l1 h1 po => fun v r => po.now h1 _ (he.mono l1)⟩
def retM (fe : DEnv → M D) : DEnv → M Fl := fun ρ => bnd (fe ρ) fun d => ret (.rt d)
theorem sI_ret (he : PE X e (tI G E fe)) : PS X (.Return (some e) pos) (tSI G E (retM fe)) :=
  PS.imp (ps_ret he) fun D σ H ⟨ρ, S, ι, F, W, he, h0, po⟩ => ⟨ρ, S, ι, F, W, he, h0, po.seq fun ι1 F1 S1 H1 d l1 h1 po => fun v r => po.now h1 v r⟩
theorem sI_retN : PS X (.Return none pos) (tSI G E (retM (constM .non))) := PS.imp ps_retN fun D σ H ⟨ρ, S, ι, F, W, he, h0, po⟩ => po.now h0 _ .non
def ifS (fc : DEnv → M D) (a b : DEnv → M Fl) : DEnv → M Fl := fun ρ => bnd (tsM fc ρ) fun k => if k = true then a ρ else b ρ
theorem sI_if {c : Expr} {p q : List Stmt} {fc : DEnv → M D} (hc : PT X c (tIB G E (tsM fc))) (ha : PSs X p (tSI G E a)) (hb : PSs X q (tSI G E b)) : PS X (.If c p q pos) (tSI G E (ifS fc a b)) :=
  PS.imp (ps_if hc ha hb) fun D σ H ⟨ρ, S, ι, F, W, he, h0, po⟩ => ⟨ρ, S, ι, F, W, he, h0, po.seq fun ι1 F1 S1 H1 k l1 h1 po => by
    cases k with
    | true => exact ⟨ρ, S1, ι1, F1, W, he.mono l1, h1, po⟩
    | false => exact ⟨ρ, S1, ι1, F1, W, he.mono l1, h1, po⟩⟩
def asgM (t : Tg) (fe : DEnv → M D) : DEnv → M Fl := fun ρ => bnd (fe ρ) fun d => bnd (tgM t d ρ) fun ρ' => ret (.nx ρ')
theorem asg_read {t : Tg} {D : Ends} {σ : L2.St} {H : Hp} (h : tSI G E (asgM t fe) D σ H) : tAsg (tI G E fe) (tGI G E t) D σ H := by
  obtain ⟨ρ, S, ι, F, W, he, h0, po⟩ := h
  refine ⟨ρ, S, ι, F, W, he, h0, po.seq fun ι1 F1 S1 H1 d l1 h1 po => fun v r => ?_⟩
  exact ⟨ρ, S1, ι1, F1, W, d, he.mono l1, h1, r, po.seq fun ι2 F2 S2 H2 ρ2 l2 h2 po => fun σ2 e2 _ => po.now h2 _ e2⟩
theorem sI_asg {tg : Expr} {t : Tg} (he : PE X e (tI G E fe)) (hg : PG X tg (tGI G E t)) (hs : swapsWithSole [tg] e pos.line X.env = pure false) (hw : swappedStores [tg] e X.env = pure none)
    (h1 : (assignEach [tg] X.env).map (·.2) = [assign tg X.env]) : PS X (.Assign [tg] e pos) (tSI G E (asgM t fe)) :=
  PS.imp (ps_asg he hg hs hw h1) fun D σ H h => asg_read h
theorem sI_set {i : Nat} {x : Str} {pos' : Pos} (hN : X.N.Nodup) (hi : X.N[i]? = some x) (hx : Loc X.env.scope x) (he : PE X e (tI G E fe)) (hs : swapsWith e (some (.Name x pos')) pos.line X.env = pure false) (hf : X.fn x = true ∨ X.env.scope.names.lookup x = some .local) :
    PS X (.Assign [.Name x pos'] e pos) (tSI G E (asgM (.n i) fe)) :=
  PS.imp (ps_set hN hi hx he hs hf) fun D σ H h => by
    obtain ⟨ρ, S, ι, F, W, he, h0, po⟩ := h
    exact ⟨ρ, S, ι, F, W, he, h0, po.seq fun ι1 F1 S1 H1 d l1 h1 po => fun v r => po.now h1 _ ((he.mono l1).set i r)⟩
theorem sI_setLc {tg iter elt : Expr} {ifs : List Expr} {scope : Scope} {own : List (Str × Nat)} {t : Tg} {fi : DEnv → M Src} {fc fe : DEnv → M D} {m : Bool} {i : Nat} {y : Str} {py spos : Pos} (f : Fit X G E) (hy : X.N[i]? = some y) (hyl : X.env.scope.names.lookup y = some .local)
    (hsw : swapsWith (.ListComp elt [⟨tg, iter, ifs, 0⟩] scope pos) (some (.Name y py)) spos.line X.env = pure true) (hi : PI X tg iter (tII G E fi)) (ok : BlkOk X.N X.env.scope scope own)
    (hg : ∀ (s : Shared) (H : Hp) (C : Addr) (cl : List (Str × Addr)) (fp : List Addr), PG (X.blk s H scope (compEnvC scope cl C X.env) fp) tg (tGT G E0 t))
    (ht : ∀ (s : Shared) (H : Hp) (C : Addr) (cl : List (Str × Addr)) (fp : List Addr), PTs (X.blk s H scope (compEnvC scope cl C X.env) fp) ifs (tIB G E0 (tsM fc)))
    (he : ∀ (s : Shared) (H : Hp) (C : Addr) (cl : List (Str × Addr)) (fp : List Addr), PE (X.blk s H scope (compEnvC scope cl C X.env) fp) elt (tI G E0 fe)) (hs : ∀ x, foldedSetIterable iter X.env x = pure x) (ho : ∀ i ∈ t.slots, i ∈ own.map (·.2)) :
    PS X (.Assign [.Name y py] (.ListComp elt [⟨tg, iter, ifs, 0⟩] scope pos) spos) (tSI G E (asgM (.n i) (lcM m t fi fc fe (own.map (·.2))))) :=
  PS.imp (ps_setLc f.calm f.nd hy hyl hsw hi ok hg ht he hs) fun D σ H h => by
    obtain ⟨ρ, S, ι, F, W, he, h0, po⟩ := h
    exact lc_read f.xv ho ⟨ρ, S, ι, F, W, he, h0, po.seq fun ι1 F1 S1 H1 d l1 h1 po => fun v r => po.now h1 _ ((he.mono l1).set i r)⟩

/-! ### loops -/
def loopF (next : DEnv → M Fl) (fl : Fl) : M Fl := match fl with
  | .nx ρ => next ρ
  | .ct ρ => next ρ
  | .bk ρ => ret (.nx ρ)
  | .rt d => ret (.rt d)
def forS (src : Src) (turn : Itm → DEnv → M Fl) : Nat → Nat → DEnv → M Fl
  | 0, _, _ => fail
  | f + 1, i, ρ => fun S => match src.at S i with
    | none => .bad
    | some none => .ok (.nx ρ) S
    | some (some it) => bnd (turn it ρ) (loopF (forS src turn f (i + 1))) S
def turnS (t : Tg) (b : DEnv → M Fl) (it : Itm) (ρ : DEnv) : M Fl := bnd (tgI t it ρ) b
def forM (t : Tg) (fi : DEnv → M Src) (b : DEnv → M Fl) : DEnv → M Fl := fun ρ => bnd (fi ρ) fun src => forS src (turnS t b) src.fuel 0 ρ
theorem sI_for {tg iter : Expr} {body : List Stmt} {t : Tg} {fi : DEnv → M Src} (f : Fit X G E) (hp : PassesOwn (model X.prog X.w) X.A X.env X.xe) (hi : PI X tg iter (tII G E fi)) (hg : PG X tg (tGT G E t)) (hb : PSs X body (tSI G E b)) (hs : ∀ x, foldedSetIterable iter X.env x = pure x) :
    PS X (.For tg iter body [] pos) (tSI G E (forM t fi b)) := by
  refine PS.imp (ps_for hp f.calm hi hg hb hs) fun D σ H ⟨ρ, S, ι, F, W, he, h0, po⟩ => ⟨ρ, S, ι, F, W, he, h0, po.seq fun ι1 F1 S1 H1 src l1 h1 po => fun J w => ?_⟩
  refine ⟨fun i k σ H2 => ∃ ρ2 S2 ι2 F2, Le ι1 F1 ι2 F2 ∧ EnvR G ι2 F2 ρ2 σ ∧ HR G ι2 F2 W S2 H2 ∧ Post G ι2 F2 W E (RF G D) (forS src (turnS t b) k i ρ2 S2), ⟨src.fuel, ρ, S1, ι1, F1, .refl _ _, he.mono l1, h1, po⟩, ?_⟩
  rintro i k σ H2 ⟨ρ2, S2, ι2, F2, l2, e2, h2, po⟩
  cases k with
  | zero => exact po.elim
  | succ k =>
    unfold forS at po
    cases q : src.at S2 i with
    | none => rw [q] at po; exact po.elim
    | some o =>
      rw [q] at po
      cases o with
      | none => exact .inl ⟨w.stop i _ _ _ _ _ l2 h2 q, po.now h2 _ e2⟩
      | some it =>
        refine .inr ⟨w.go i _ _ _ _ _ it l2 h2 q, fun σ' H' => ∃ k', k' < k + 1 ∧ ∃ ρ2 S2 ι2 F2, Le ι1 F1 ι2 F2 ∧ EnvR G ι2 F2 ρ2 σ' ∧ HR G ι2 F2 W S2 H' ∧ Post G ι2 F2 W E (RF G D) (forS src (turnS t b) k' (i + 1) ρ2 S2), fun σ' H' q => q, fun x H' y => ?_⟩
        obtain ⟨F3, l3, h3, ri⟩ := w.yld i _ _ _ _ _ it x H' l2 h2 q y
        have po : Post G ι2 F3 W E (RF G D) (bnd (turnS t b it ρ2) (loopF (forS src (turnS t b) k (i + 1))) S2) := po.le l3
        rw [show bnd (turnS t b it ρ2) (loopF (forS src (turnS t b) k (i + 1))) = _ from bnd_assoc _ _ _] at po
        refine ⟨ρ2, S2, ι2, F3, W, it, e2.mono l3, h3, ri, po.seq fun ι4 F4 S4 H4 ρ4 l4 h4 po => fun σ4 e4 _ => ?_⟩
        refine ⟨ρ4, S4, ι4, F4, W, e4, h4, Post.seq (m := b ρ4) po fun ι5 F5 S5 H5 fl l5 h5 po => ?_⟩
        cases fl with
        | nx ρ' => exact fun σ' e' => ⟨k, Nat.lt_succ_self k, ρ', S5, ι5, F5, ((l2.trans l3).trans l4).trans l5, e', h5, po⟩
        | ct ρ' => exact fun σ' e' => ⟨k, Nat.lt_succ_self k, ρ', S5, ι5, F5, ((l2.trans l3).trans l4).trans l5, e', h5, po⟩
        | bk ρ' => exact fun σ' e' => po.now h5 _ e'
        | rt d => exact fun v r => po.now h5 _ r
def whS (fc : DEnv → M D) (b : DEnv → M Fl) : Nat → DEnv → M Fl
  | 0, _ => fail
  | f + 1, ρ => bnd (tsM fc ρ) fun k => if k = true then bnd (b ρ) (loopF (whS fc b f)) else ret (.nx ρ)
def whM (fc : DEnv → M D) (b : DEnv → M Fl) : DEnv → M Fl := whS fc b (big + 2)
theorem sI_while {c : Expr} {body : List Stmt} {fc : DEnv → M D} (hp : PassesOwn (model X.prog X.w) X.A X.env X.xe) (hc : PT X c (tIB G E (tsM fc))) (hb : PSs X body (tSI G E b)) : PS X (.While c body [] pos) (tSI G E (whM fc b)) := by
  refine PS.imp (ps_while hp hc hb) fun D σ H ⟨ρ, S, ι, F, W, he, h0, po⟩ => ?_
  refine ⟨fun k σ H2 => ∃ ρ2 S2 ι2 F2, Le ι F ι2 F2 ∧ EnvR G ι2 F2 ρ2 σ ∧ HR G ι2 F2 W S2 H2 ∧ Post G ι2 F2 W E (RF G D) (whS fc b k ρ2 S2), ⟨big + 2, ρ, S, ι, F, .refl _ _, he, h0, po⟩, ?_⟩
  rintro k σ H2 ⟨ρ2, S2, ι2, F2, l2, e2, h2, po⟩
  cases k with
  | zero => exact po.elim
  | succ k =>
    refine ⟨ρ2, S2, ι2, F2, W, e2, h2, Post.seq (m := tsM fc ρ2) po fun ι3 F3 S3 H3 t l3 h3 po => ?_⟩
    cases t with
    | false => exact po.now h3 _ (e2.mono l3)
    | true =>
      refine ⟨fun σ' H' => ∃ k', k' < k + 1 ∧ ∃ ρ2 S2 ι2 F2, Le ι F ι2 F2 ∧ EnvR G ι2 F2 ρ2 σ' ∧ HR G ι2 F2 W S2 H' ∧ Post G ι2 F2 W E (RF G D) (whS fc b k' ρ2 S2), fun σ' H' q => q, ?_⟩
      refine ⟨ρ2, S3, ι3, F3, W, e2.mono l3, h3, Post.seq (m := b ρ2) po fun ι5 F5 S5 H5 fl l5 h5 po => ?_⟩
      cases fl with
      | nx ρ' => exact fun σ' e' => ⟨k, Nat.lt_succ_self k, ρ', S5, ι5, F5, (l2.trans l3).trans l5, e', h5, po⟩
      | ct ρ' => exact fun σ' e' => ⟨k, Nat.lt_succ_self k, ρ', S5, ι5, F5, (l2.trans l3).trans l5, e', h5, po⟩
      | bk ρ' => exact fun σ' e' => po.now h5 _ e'
      | rt d => exact fun v r => po.now h5 _ r
end
end CI

/-! Stores by subscripts, displays of dicts. -/
namespace CI
open PySem PySem.Spec PyProof.Rows L2 HT

/-! ### o[i] = x -/
def setD (o i x : D) : M Unit := fun S => match o with
  | .adr n => (match S[n]? with
    | some (.lst ds) => (match i with
      | .int k => (match L2.ixN ds.length k with
        | some j => .ok () (S.set n (.lst (ds.set j x)))
        | none => .bad)
      | _ => .bad)
    | some (.dct kds) => (match keyO i with
      | some k => if kds.length < big then .ok () (S.set n (.dct (putD kds k x))) else .bad
      | none => match nkO i, kds with
        | some k, [] => .ok () (S.set n (.dcn (nkPut [] i k x)))
        | _, _ => .bad)
    | some (.dcn kds) => (match nkO i with
      | some k => if kds.length < big then .ok () (S.set n (.dcn (nkPut kds i k x))) else .bad
      | none => .bad)
    | _ => .bad)
  | _ => .bad
section
variable {X : Cx} {G : Gx} {E : XS} {pos : Pos}
def rSetG (G : Gx) (E : XS) : TSet := fun o i v H Q => ∃ ι F W S d e x, HR G ι F W S H ∧ Rep G.K ι F o d ∧ Rep G.K ι F i e ∧ Rep G.K ι F v x ∧ Post G ι F W E (fun _ _ _ H' _ => Q H') (setD d e x S)
theorem set_G (hK : X.K = G.K) (hw : X.w = G.w) (hu : X.A.units + 65 < cLine) : PSet X (rSetG G E) := by
  intro pins s σ H o i v ov iv u Q I ro ri rv ⟨ι, F, W, S, d, e, x, hr, r1, r2, r3, po⟩
  cases r1 with
  | @adr a n h =>
    unfold setD at po
    simp only at po
    cases q : S[n]? with
    | none => rw [q] at po; exact po.elim
    | some ob =>
      rw [q] at po
      cases ob with
      | lst ds =>
        simp only at po
        cases r2 with
        | int k =>
          simp only at po
          cases q2 : L2.ixN ds.length k with
          | none => rw [q2] at po; exact po.elim
          | some j =>
            rw [q2] at po
            obtain ⟨xs, ha, rs, z⟩ := hr.adrL h q
            refine set_list pins s σ H _ _ _ ov iv u Q I ro ri rv ⟨a, xs, k, j, rfl, rfl, ha, by rw [rs.length]; exact q2, ?_⟩
            exact po.now (hr.write h _ _ (.lst upd_same (rs.set r3 j) (by rw [List.length_set]; exact z)))
        | _ => exact po.elim
      | dct kds =>
        simp only at po
        cases q2 : keyO e with
        | none =>
          rw [q2] at po
          simp only at po
          cases q3 : nkO e with
          | none => rw [q3] at po; exact po.elim
          | some k =>
            rw [q3] at po
            cases kds with
            | cons _ _ => exact po.elim
            | nil =>
              have he : dcnO S (.adr n) = some [] := by unfold dcnO; simp only [q]
              exact put_N hK hw hu I ro ri rv hr (.adr h) r2 r3 q3 he (by decide) fun s' H' I' h' => ⟨H', I', po.now h'⟩
        | some k =>
          rw [q2] at po
          simp only at po
          by_cases c : kds.length < big
          · rw [if_pos c] at po
            obtain ⟨xs, ha, rs, z⟩ := hr.adrD h q
            have ei := r2.key q2
            subst ei
            refine set_dict (by omega) pins s σ H _ _ _ ov iv u Q I ro ri rv ⟨a, _, rfl, .k ha (by rw [rs.length]; exact lt_line (Nat.le_of_lt c)), ?_⟩
            exact po.now (hr.write h _ _ (.dct upd_same (rs.put r3) (Nat.le_trans (putD_length _ _ _) c)))
          · rw [if_neg c] at po; exact po.elim
      | ins c fs => exact po.elim
      | dcn kds =>
        simp only at po
        cases q3 : nkO e with
        | none => rw [q3] at po; exact po.elim
        | some k =>
          rw [q3] at po
          simp only at po
          by_cases c : kds.length < big
          · rw [if_pos c] at po
            have he : dcnO S (.adr n) = some kds := by unfold dcnO; simp only [q]
            exact put_N hK hw hu I ro ri rv hr (.adr h) r2 r3 q3 he c fun s' H' I' h' => ⟨H', I', po.now h'⟩
          · rw [if_neg c] at po; exact po.elim
  | _ => exact po.elim
def setM (fo fi fe : DEnv → M D) : DEnv → M Fl := fun ρ => bnd (fe ρ) fun x => bnd (fo ρ) fun d => bnd (fi ρ) fun i => bnd (setD d i x) fun _ => ret (.nx ρ)
theorem sI_setIx (f : Fit X G E) {o i e : Expr} {fo fi fe : DEnv → M D} {tpos : Pos} (he : PE X e (tI G E fe)) (ho : PE X o (tI G E fo)) (hi : PE X i (tI G E fi))
    (ha : ∀ v, assign (.Subscript o i tpos) X.env v = (do
      let ov ← holding [v] (eval o X.env)
      let iv ← holding [v, ov] (eval i X.env)
      standAt tpos
      holding [v, ov, iv] (setItem ov iv v)
      release [v, ov, iv] []))
    (hs : swapsWithSole [.Subscript o i tpos] e pos.line X.env = pure false) (hw : swappedStores [.Subscript o i tpos] e X.env = pure none)
    (h1 : (assignEach [.Subscript o i tpos] X.env).map (·.2) = [assign (.Subscript o i tpos) X.env]) : PS X (.Assign [.Subscript o i tpos] e pos) (tSI G E (setM fo fi fe)) :=
  PS.imp (ps_asg he (pg_sub ho hi (set_G (G := G) (E := E) f.hK f.w f.room) ha) hs hw h1) fun D σ H ⟨ρ, S, ι, F, W, he, h0, po⟩ => by
    refine ⟨ρ, S, ι, F, W, he, h0, po.seq fun ι1 F1 S1 H1 x l1 h1 po => fun v r => ?_⟩
    refine ⟨ρ, S1, ι1, F1, W, he.mono l1, h1, po.seq fun ι2 F2 S2 H2 d l2 h2 po => fun ov ro => ?_⟩
    refine ⟨ρ, S2, ι2, F2, W, (he.mono l1).mono l2, h2, po.seq fun ι3 F3 S3 H3 i l3 h3 po => fun iv ri => ?_⟩
    exact ⟨ι3, F3, W, S3, d, i, x, h3, ro.mono l3, ri, r.mono (l2.trans l3), po.seq fun ι4 F4 S4 H4 _ l4 h4 po => po.now h4 _ (he.mono (((l1.trans l2).trans l3).trans l4))⟩

/-! ### o.f = e -/
theorem sI_setf (f : Fit X G E) {o e : Expr} {fo fe : DEnv → M D} {fn : Str} {cs : List Str} {tpos : Pos} (hc : ClsIs G cs fn) (he : PE X e (tI G E fe)) (ho : PE X o (tI G E fo)) (hs : swapsWith e (some (.Attribute o fn tpos)) pos.line X.env = pure false) :
    PS X (.Assign [.Attribute o fn tpos] e pos) (tSI G E (setfM cs fn fo fe Fl.nx)) :=
  PS.imp (ps_fld ho he hs) fun D σ H ⟨ρ, S, ι, F, W, he, h0, po⟩ => by
    unfold setfM at po
    refine ⟨ρ, S, ι, F, W, he, h0, po.seq fun ι1 F1 S1 H1 x l1 h1 po => fun v r => ?_⟩
    refine ⟨ρ, S1, ι1, F1, W, he.mono l1, h1, po.seq fun ι2 F2 S2 H2 d l2 h2 po => fun ov ro => ?_⟩
    obtain ⟨a, C, dx, fs, rfl, hH, cl, na, hl, S3, h3, q⟩ := setf_run (R := fun ι' F' _ H' _ => D.nx σ H') hc h2 ro (r.mono l2) (po.seq fun ι4 F4 S4 H4 _ l4 h4 po => po.now h4 σ (((he.mono l1).mono l2).mono l4))
    exact ⟨a, C, dx, fs, rfl, hH, f.hK ▸ cl, f.hK ▸ na, hl, q⟩
theorem sI_bad {st : Stmt} : PS X st (tSI G E fun _ => fail) := ⟨fun pins s σ H D I ⟨ρ, S, ι, F, W, he, h0, po⟩ => po.elim⟩

/-! ### {k: v, ..} -/
/-- any object that is being made, kept aside -/
theorem HR.holdO {ι : List Addr} {F W : Hp} {S : Store} {H : Hp} {p : Addr} (h : HR G ι F W S H) (hp : H p = none) (o : HO) : HR G ι F (upd W p o) S (upd H p o) := by
  have fp : F p = none := by
    cases q : F p with
    | none => rfl
    | some u => rw [h.sub p u q] at hp; cases hp
  have np : p ∉ ι := fun ha => by
    obtain ⟨n, hn⟩ := List.mem_iff_getElem?.mp ha
    obtain ⟨q, _⟩ := List.getElem?_eq_some_iff.mp hn
    have q' : n < S.length := h.len ▸ q
    have o := h.obs n p S[n] hn (List.getElem?_eq_getElem q')
    generalize S[n] = ob at o
    cases o with
    | lst e _ _ => rw [hp] at e; cases e
    | dct e _ _ => rw [hp] at e; cases e
    | ins e _ _ _ => rw [hp] at e; cases e
    | dcn e _ _ _ _ _ _ _ => rw [hp] at e; cases e
  refine ⟨fun a u e => by rw [upd_ne (ne_of_none e fp)]; exact h.sub a u e, h.len, h.nd, h.sep, fun a u e => ?_, fun n a ob e1 e2 => ?_, h.held.next (Le.refl _ _) fun d fv q1 q2 q3 q4 => ⟨by rw [upd_ne (ne_of_none q1 hp)]; exact q1, q2, q3, by rw [upd_ne (ne_of_none q1 hp)]; exact q4⟩⟩
  · by_cases ha : a = p
    · subst ha
      rw [upd_same] at e ⊢
      exact ⟨e, fp, np⟩
    · rw [upd_ne ha] at e ⊢
      exact h.aside a u e
  · have na : a ≠ p := fun z => np (z ▸ List.mem_of_getElem? e1)
    cases h.obs n a ob e1 e2 with
    | lst q r z => exact .lst (by rw [upd_ne na]; exact q) r z
    | dct q r z => exact .dct (by rw [upd_ne na]; exact q) r z
    | ins q c r z => exact .ins (by rw [upd_ne na]; exact q) c r z
    | dcn q c x y n s r z => exact .dcn (by rw [upd_ne na]; exact q) c x y n s r z
/-- .. let go: the heap without it -/
theorem HR.loose {ι : List Addr} {F W : Hp} {S : Store} {H : Hp} {p : Addr} {o : HO} (hW : W p = none) (hr : HR G ι F (upd W p o) S H) : HR G ι F W S (fun b => if b = p then none else H b) ∧ H p = some o := by
  obtain ⟨hD, fp, np⟩ := hr.aside p _ upd_same
  refine ⟨⟨fun a o q => ?_, hr.len, hr.nd, hr.sep, fun a u e => ?_, fun n a ob e1 e2 => ?_, hr.held.next (Le.refl _ _) fun d fv q1 q2 q3 q4 => (by have nd : d ≠ p := fun z => (by rw [z, upd_same] at q4; cases q4); rw [upd_ne nd] at q4; exact ⟨(if_neg nd).trans q1, q2, q3, q4⟩)⟩, hD⟩
  · have : a ≠ p := fun z => by rw [z, fp] at q; cases q
    show (if a = p then none else H a) = some o
    rw [if_neg this]
    exact hr.sub a o q
  · have : a ≠ p := fun z => by rw [z, hW] at e; cases e
    obtain ⟨e1, e2, e3⟩ := hr.aside a u (by rw [upd_ne this]; exact e)
    exact ⟨(if_neg this).trans e1, e2, e3⟩
  · have na : a ≠ p := fun z => np (z ▸ List.mem_of_getElem? e1)
    have ea : (if a = p then none else H a) = H a := if_neg na
    cases hr.obs n a ob e1 e2 with
    | lst q r z => exact .lst (ea.trans q) r z
    | dct q r z => exact .dct (ea.trans q) r z
    | ins q c r z => exact .ins (ea.trans q) c r z
    | dcn q c x y n s r z => exact .dcn (ea.trans q) c x y n s r z
theorem upd_loose {H : Hp} {p : Addr} (o : HO) : upd (fun b => if b = p then none else H b) p o = upd H p o := by
  funext b
  unfold upd
  by_cases h : b = p
  · rw [if_pos h, if_pos h]
  · rw [if_neg h, if_neg h]
    exact if_neg h
/-- the pairs of a display -/
def prsM : List ((DEnv → M D) × (DEnv → M D)) → DEnv → M (List (Key × D))
  | [], _ => ret []
  | (fk, fv) :: r, ρ => bnd (fk ρ) fun k => bnd (fv ρ) fun d => bnd (look fun _ => keyO k) fun k => bnd (prsM r ρ) fun ps => ret ((k, d) :: ps)
/-- no error in a row of parts, while something is held aside -/
theorem Post.aside {ι : List Addr} {F : Hp} {W : Hp} {α β : Type} {mm : M α} {f : α → M β} {S : Store} {R : RT β} (p : Addr) (o : HO) (po : Post G ι F W E R (bnd (CI.noExc mm) f S)) :
    Post G ι F (upd W p o) E0 (fun ι' F' S'' H'' a => Post G ι' F' W E R (f a S'')) (mm S) := by
  unfold CI.bnd CI.noExc at po
  cases e : mm S with
  | ok a S'' =>
    rw [e] at po
    exact fun ι' F' H'' l hr => po.le l
  | exc x S'' => rw [e] at po; exact po.elim
  | bad => rw [e] at po; exact po.elim
def tPs (G : Gx) (m : DEnv → M (List (Key × D))) : L2.St → Hp → (List (V × V) → Hp → Prop) → Prop := fun σ H Q => ∃ ρ S ι F W, EnvR G ι F ρ σ ∧ HR G ι F W S H ∧
  Post G ι F W E0 (fun ι' F' _ H' kds => ∀ kvs, RepKs G.K ι' F' kvs kds → Q (kvs.map fun kv => (kV kv.1, kv.2)) H') (m ρ S)
theorem prs_read : ∀ {ms : List ((DEnv → M D) × (DEnv → M D))} {σ : L2.St} {H : Hp} {Q : List (V × V) → Hp → Prop}, tPs G (prsM ms) σ H Q → tPairs (ms.map fun m => (tI G E0 m.1, tI G E0 m.2)) σ H Q
  | [], σ, H, Q, ⟨ρ, S, ι, F, W, he, h0, po⟩ => po.now h0 [] .nil
  | (fk, fv) :: r, σ, H, Q, ⟨ρ, S, ι, F, W, he, h0, po⟩ => by
    refine ⟨ρ, S, ι, F, W, he, h0, Post.seq (m := fk ρ) po fun ι1 F1 S1 H1 k l1 h1 po => fun v1 r1 => ?_⟩
    refine ⟨ρ, S1, ι1, F1, W, he.mono l1, h1, Post.seq (m := fv ρ) po fun ι2 F2 S2 H2 d l2 h2 po => fun v2 r2 => ?_⟩
    have e : ∃ kk, keyO k = some kk := by
      cases q : keyO k with
      | some kk => exact ⟨kk, rfl⟩
      | none =>
        unfold CI.bnd CI.look at po
        rw [q] at po
        exact po.elim
    obtain ⟨kk, ek⟩ := e
    have po : Post G ι2 F2 W E0 (fun ι' F' _ H' kds => ∀ kvs, RepKs G.K ι' F' kvs kds → Q (kvs.map fun kv => (kV kv.1, kv.2)) H') (bnd (prsM r ρ) (fun ps => ret ((kk, d) :: ps)) S2) := by
      have e2 : bnd (look fun _ => keyO k) (fun k => bnd (prsM r ρ) fun ps => ret ((k, d) :: ps)) S2 = bnd (prsM r ρ) (fun ps => ret ((kk, d) :: ps)) S2 := by
        unfold CI.bnd CI.look
        rw [ek]
      rw [e2] at po
      exact po
    refine prs_read (ms := r) ⟨ρ, S2, ι2, F2, W, (he.mono l1).mono l2, h2, po.seq fun ι3 F3 S3 H3 kds l3 h3 po => fun kvs rk => ?_⟩
    have z := po.now h3 ((kk, v2) :: kvs) (.cons (r2.mono l3) rk)
    rw [(r1.mono l2).key ek]
    exact z
def dispM (m : Bool) (ms : List ((DEnv → M D) × (DEnv → M D))) : DEnv → M D := fun ρ => bnd (noExc (prsM ms ρ)) fun kds => if kds.length ≤ 15 then finD m (mergeD [] kds) else fail
theorem eI_disp {keys : List (Option Expr)} {values : List Expr} {ms : List ((DEnv → M D) × (DEnv → M D))} {m : Bool} (hps : PPs X pos keys values (ms.map fun m => (tI G E0 m.1, tI G E0 m.2))) (hall : keys.all (·.isSome) = true) (hl : keys.length = values.length)
    (h0 : keys ≠ []) (h15 : keys.length ≤ 15) : PE X (.Dict keys values pos) (tI G E (dispM m ms)) :=
  PE.imp (pe_disp hps hall hl h0 h15) fun σ H Q ⟨ρ, S, ι, F, W, he, h0, po⟩ => fun p hp => by
    have hW : W p = none := by
      cases q : W p with
      | none => rfl
      | some u => rw [(h0.aside p u q).1] at hp; cases hp
    refine prs_read ⟨ρ, S, ι, F, upd W p (.dK []), he, h0.holdO hp (.dK []), (po.aside p (.dK [])).mono fun ι1 F1 S1 H1 kds l1 h1 po => fun kvs rk => ?_⟩
    obtain ⟨hc, po⟩ := Post.if_ po
    obtain ⟨h2, hD⟩ := h1.loose hW
    have rm : RepKs G.K ι1 F1 (mergeK [] kvs) (mergeD [] kds) := RepKs.merge rk .nil
    have hz : (mergeD [] kds).length ≤ big := by
      have a1 := mergeD_length kds []
      have a2 : big = 1000000 := rfl
      rw [List.length_nil] at a1
      omega
    have := Post.finD h2 rm hz po p (if_pos rfl)
    rw [upd_loose] at this
    exact ⟨hD, kvs, rfl, by rw [rk.length]; exact hc, this⟩
def newD (m : Bool) : DEnv → M D := fun _ => finD m []
theorem eI_dnew {m : Bool} : PE X (.Dict [] [] pos) (tI G E (newD m)) := PE.imp pe_dnewK fun σ H Q ⟨ρ, S, ι, F, W, he, h0, po⟩ => fun p hp => Post.finD h0 .nil (Nat.zero_le _) po p hp
theorem wpAny_Dict_H {prog : Program} {w : World} {K : Type} [DecidableEq K] {knd : HeapKind prog w K} {A : Around} {E : Value → Shared → Prop} {s : Shared} {env : Env} {keys : List (Option Expr)} {values : List Expr} {pos : Pos} {pairs : List (Sem Value × Sem Value)} {Q : Value → Shared → Prop} (hu : knd.room A)
    (hshape : (evalEachOpt keys env).zip ((evalEach values env).map fun v => do let x ← v; standAt pos; pure x) = pairs.map fun p => (some p.1, p.2)) (h0 : pairs ≠ []) (hlen : pairs.length ≤ 15)
    (h : wpAny (model prog w) A (evalPairs pairs) (fun vs s₁ => ∃ ps, CarriesH knd s₁.heap vs ps ∧ s₁.heap.DictOfH knd s.heap.objs.size [] ∧
      ∀ h' tk, h'.DictOfH knd s.heap.objs.size (storedAllH [] ps) → Heap.SameBut s.heap.objs.size s₁.heap h' → Q (.ref s.heap.objs.size) { s₁ with heap := h', toks := tk }) E
      { s with heap := s.heap.push { cls := .type "dict", data := .dict #[] } }) :
    wpAny (model prog w) A (eval (.Dict keys values pos) env) Q E s := by
  rw [arm_eval_Dict, hshape, dictDisplay_pairs pairs h0 (by omega)]
  exact wpAny_bind (wpAny_standAt (wpAny_bind (wpAny_subDictH (knd := knd) (Q := fun d s' => wpAny (model prog w) A (pure (Value.ref d)) Q E s') hu hlen
    (wpAny_mono h (fun vs s₁ h₁ => by obtain ⟨ps, hc, hm, hq⟩ := h₁; exact ⟨ps, hc, hm, fun h' tk a b => wpAny_pure (hq h' tk a b)⟩) fun _ _ e => e))))
/-- {k: v}, k a tuple -/
def dispN (fk fv : DEnv → M D) : DEnv → M D := fun ρ => bnd (noExc fun S => bnd (fk ρ) (fun k => bnd (fv ρ) fun d => ret (k, d)) S) fun p => fun S => match nkO p.1 with
  | some k => .ok (.adr S.length) (S ++ [.dcn [(p.1, p.2)]])
  | none => .bad
def tP1 (G : Gx) (m : DEnv → M (D × D)) : L2.St → Hp → (V → V → Hp → Prop) → Prop := fun σ H Q => ∃ ρ S ι F W, EnvR G ι F ρ σ ∧ HR G ι F W S H ∧
  Post G ι F W E0 (fun ι' F' _ H' p => ∀ x y, Rep G.K ι' F' x p.1 → Rep G.K ι' F' y p.2 → Q x y H') (m ρ S)
theorem eI_dispN (f : Fit X G E) {ek ev : Expr} {fk fv : DEnv → M D} (hk : PE X ek (tI G E0 fk)) (hv : PE X ev (tI G E0 fv)) : PE X (.Dict [some ek] [ev] pos) (tI G E (dispN fk fv)) := by
  have hps : PPs X pos [some ek] [ev] [(tI G E0 fk, tI G E0 fv)] := pps_cons hk hv pps_nil
  refine ⟨fun pins s σ H Q I ⟨ρ, S, ι, F, W, he, h0, po⟩ => ?_⟩
  have hp := I.hok.fresh (Nat.le_refl s.heap.objs.size)
  have hW : W s.heap.objs.size = none := by
    cases q : W s.heap.objs.size with
    | none => rfl
    | some u => rw [(h0.aside _ u q).1] at hp; cases hp
  have I1 := I.laid (a := s.heap.objs.size) (o := .dK []) (h' := s.heap.push { cls := .type "dict", data := .dict #[] }) (t' := s.toks) (fun _ _ q => Heap.get?_push_of_some _ q) (Nat.le_refl _) (dk_empty s.heap I.big)
  have hn := pairTrees_length [some ek] [ev] X.env pos rfl rfl
  have q0 : tPairs [(tI G E0 fk, tI G E0 fv)] σ (upd H s.heap.objs.size (.dK [])) fun ps H2 => ∃ x y ι2 F2 S2 d1 d2, ps = [(x, y)] ∧ HR G ι2 F2 (upd W s.heap.objs.size (.dK [])) S2 H2 ∧ Rep G.K ι2 F2 x d1 ∧ Rep G.K ι2 F2 y d2 ∧
      Post G ι2 F2 W E (RV G Q) ((fun p : D × D => (fun S => match nkO p.1 with | some k => .ok (.adr S.length) (S ++ [.dcn [(p.1, p.2)]]) | none => .bad : M D)) (d1, d2) S2) := by
    have po2 := po.aside s.heap.objs.size (.dK [])
    refine ⟨ρ, S, ι, F, upd W s.heap.objs.size (.dK []), he, h0.holdO hp (.dK []), Post.seq (m := fk ρ) po2 fun ι1 F1 S1 H1 d1 l1 h1 po => fun x r1 => ?_⟩
    refine ⟨ρ, S1, ι1, F1, _, he.mono l1, h1, Post.seq (m := fv ρ) po fun ι2 F2 S2 H2 d2 l2 h2 po => fun y r2 => ?_⟩
    exact ⟨x, y, ι2, F2, S2, d1, d2, rfl, h2, r1.mono l2, r2, po.now h2⟩
  refine wpAny_Dict_H (knd := nestedKind X.prog X.w) (pairs := pairTrees [some ek] [ev] X.env pos) (by
    show X.A.units + 8 < cLine
    have := f.room
    omega) (zip_pairTrees [some ek] [ev] X.env pos rfl rfl) (fun z => by rw [z] at hn; cases hn) (by rw [hn]; show 1 ≤ 15; omega)
    (thn (hps.run pins _ σ _ _ I1 q0) fun ws s2 ⟨ps, H2, I2, rel, x, y, ι2, F2, S2, d1, d2, e, h2, r1, r2, po⟩ => ?_)
  subst e
  simp only at po
  cases q3 : nkO d1 with
  | none => rw [q3] at po; exact po.elim
  | some k =>
    rw [q3] at po
    simp only at po
    obtain ⟨h3, hD⟩ := h2.loose hW
    obtain ⟨u, w, rfl, ru, rw_⟩ : ∃ u w, ws = [(u, w)] ∧ RelV x u ∧ RelV y w := by
      cases rel with
      | @cons _ q _ _ r0 t0 =>
        cases t0
        exact ⟨q.1, q.2, rfl, r0.1, r0.2⟩
    obtain ⟨a, rfl, ka⟩ := key_is I2 h2.sub (f.hK ▸ r1) q3
    cases (show u = Value.ref a from ru)
    obtain ⟨zz, hd, vs0, r00, dd⟩ := dk_of I2.hok hD
    cases r00
    obtain ⟨o, es, ep, g1, g2, g3, _, g4, _⟩ := dd
    have dd0 : s2.heap.DictOfH (nestedKind X.prog X.w) s.heap.objs.size [] := ⟨o, es, ep, g1, g2, g3, by generalize es.toList = el at g4; cases g4; rfl, (fun x hx => nomatch hx), .nil⟩
    refine ⟨[(k, a, w)], ⟨rfl, rfl, ka, True.intro⟩, dd0, fun h' tk dk hs => ?_⟩
    have dk : h'.DictOfH (nestedKind X.prog X.w) s.heap.objs.size [(k, a, w)] := dk
    obtain ⟨o', es', ep', k1, k2, k3, k4, k5⟩ := dcn_back dk
    have I3 : Inv X pins σ (upd H2 s.heap.objs.size (PinO s.heap.objs.size o')) { s2 with heap := h', toks := tk } :=
      I2.write (x := s.heap.objs.size) (e := s.heap.objs.size) (by rw [hD]; exact True.intro) (.inl rfl) (fun c q hc z => (hs.2 c hc).trans z) ⟨o', k1⟩ ⟨k1, ⟨o', k1⟩, fun h1 h2 e1 e2 => e2 _ e1⟩
    refine ⟨.ref s.heap.objs.size, _, I3, rfl, ?_⟩
    obtain ⟨h4, l4⟩ := h3.lay (p := s.heap.objs.size) (if_pos rfl) (PinO s.heap.objs.size o') (.dcn [(d1, d2)]) fun ι' l => .dcn upd_same k2 k3 (by rw [k4, f.w]) k5 hd (.cons q3 (r1.mono l) (r2.mono l) rw_ .nil) (by show 1 ≤ big; decide)
    rw [upd_loose] at h4
    refine po _ _ _ l4 h4 _ (.adr ?_)
    rw [← h3.len, List.getElem?_append_right (Nat.le_refl _), Nat.sub_self]
    rfl
end
end CI

/-! The tree of a def, turned into code for the evaluator. -/
namespace CI
open PySem PySem.Spec PyProof.Rows L2 HT

mutual
inductive Ex where
  | var (i : Nat) | con (d : D) | bin (m : Bool) (op : Operator) (a b : Ex) | cmp (op : CmpOp) (a b : Ex) | chain (o1 o2 : CmpOp) (a b c : Ex)
  | neg (a : Ex) | not (a : Ex) | and (a b : Ex) | or (a b : Ex) | ite (c a b : Ex) | tup (es : Exs) | lst (m : Bool) (es : Exs)
  | ix (a b : Ex) | noN (a : Ex) | sl (m : Bool) (a lo hi : Ex) | bi (m : Bool) (b : Bi) (es : Exs) | isi (a : Ex) (ts : List String) | meth (me : Me) (a : Ex) (es : Exs)
  | fld (cs : List Str) (f : Str) (a : Ex) | mk (x : Str) (g : Nat) (es : Exs) | mcall (mt : List (Str × Nat)) (m : Str) (a : Ex) (es : Exs)
  | op1 (f : Op1) (m : Bool) (a : Ex) | lrg2 (m : Bool) (a b : Ex)
  | call (g : Nat) (es : Exs) | lc (m : Bool) (t : Tg) (s : Sx) (c e : Ex) (own : List Nat) | disp (m : Bool) (ps : Exps) | dnew (m : Bool) | dispN (a b : Ex)
  | xis (i : Nat) (cs : List Str) | xfld (i : Nat) (f : Str)
inductive Exs where
  | nil | cons (e : Ex) (es : Exs)
inductive Exps where
  | nil | cons (k v : Ex) (ps : Exps)
inductive Sx where
  | seq (a : Ex) | rng1 (a : Ex) | rng2 (a b : Ex) | zip (a b : Ex) | enum (a : Ex)
end
mutual
inductive Stm where
  | bad | setf (cs : List Str) (f : Str) (o e : Ex)
  | pass | brk | cnt | expr (e : Ex) | ret (e : Ex) | ite (c : Ex) (a b : Stms) | asg (t : Tg) (e : Ex) | setix (o i e : Ex) | for_ (t : Tg) (s : Sx) (b : Stms) | whl (c : Ex) (b : Stms)
  | raise (c : Str) | raiseF (c f : Str) (e : Ex) | try_ (b : Stms) (h : Hds)
inductive Stms where
  | nil | cons (s : Stm) (ss : Stms)
inductive Hds where
  | nil | cons (cs : List Str) (i : Option Nat) (b : Stms) (r : Hds)
end
abbrev TabT := Nat → List D → M D
/-- what is asked of an exception that is held -/
def TX (x : Exn) : TabT := fun g ds => match g with
  | 0 => (match ds with
    | [.tup cs] => ret (.bl (cs.any fun d => match d with | .str y => x.cls == y | _ => false))
    | _ => fail)
  | 1 => (match ds with
    | [.str f] => look fun _ => x.fs.lookup f
    | _ => fail)
  | _ => fail
def xhM (i : Nat) (m : M D) : DEnv → M D := fun ρ => match ρ[i]? with
  | some none => m
  | _ => fail
def xisM (T : TabT) (i : Nat) (cs : List Str) : DEnv → M D := xhM i (T 0 [.tup (cs.map .str)])
def xfldM (T : TabT) (i : Nat) (f : Str) : DEnv → M D := xhM i (T 1 [.str f])
def raiseM (c : Str) : DEnv → M Fl := fun ρ S => .exc ⟨c, [], ρ⟩ S
def raiseFM (c f : Str) (fe : DEnv → M D) : DEnv → M Fl := fun ρ => bnd (fe ρ) fun d S => .exc ⟨c, [(f, d)], ρ⟩ S
def unO (i : Option Nat) (ρ : DEnv) : DEnv := match i with
  | some i => ρ.set i none
  | none => ρ
def goneF (i : Option Nat) (fl : Fl) : M Fl := match fl with
  | .nx ρ => ret (.nx (unO i ρ))
  | .bk ρ => ret (.bk (unO i ρ))
  | .ct ρ => ret (.ct (unO i ρ))
  | .rt d => ret (.rt d)
def hdM (cs : List Str) (i : Option Nat) (b : Exn → DEnv → M Fl) (r : Exn → M Fl) : Exn → M Fl := fun x S => if cs.contains x.cls = true then noExc (bnd (b x (unO i x.env)) (goneF i)) S else r x S
def tryM (b : DEnv → M Fl) (h : Exn → M Fl) : DEnv → M Fl := fun ρ S => match b ρ S with
  | .ok fl S' => .ok fl S'
  | .exc x S' => h x S'
  | .bad => .bad
mutual
def ev (T : TabT) : Ex → DEnv → M D
  | .var i => varM i
  | .con d => constM d
  | .bin m op a b => fun ρ => bnd (ev T a ρ) fun d => bnd (ev T b ρ) fun e => binD m op d e
  | .cmp op a b => fun ρ => bnd (ev T a ρ) fun d => bnd (ev T b ρ) fun e => cmpD op d e
  | .chain o1 o2 a b c => fun ρ => bnd (ev T a ρ) fun d => bnd (ev T b ρ) fun e => chainM o1 o2 d e (ev T c ρ)
  | .neg a => fun ρ => bnd (ev T a ρ) negD
  | .not a => notM (ev T a)
  | .and a b => andM (ev T a) (ev T b)
  | .or a b => orM (ev T a) (ev T b)
  | .ite c a b => ifM (ev T c) (ev T a) (ev T b)
  | .tup es => tupM (evs T es)
  | .lst m es => lstM m (evs T es)
  | .ix a b => fun ρ => bnd (ev T a ρ) fun d => bnd (ev T b ρ) fun e => ixD d e
  | .noN a => noN (ev T a)
  | .sl m a lo hi => slM m (ev T a) (ev T lo) (ev T hi)
  | .bi m b es => appM (evs T es) (biD m b)
  | .isi a ts => isiM (ev T a) ts
  | .meth me a es => methM me.ty (ev T a) (evs T es) (meD me)
  | .call g es => callM (evs T es) (T g)
  | .op1 f m a => un1 (ev T a) (op1D f m)
  | .lrg2 m a b => un2 (ev T a) (ev T b) (lrg2D m)
  | .fld cs f a => fldM cs f (ev T a)
  | .mk x g es => callM (evs T es) (mkD T x g)
  | .mcall mt m a es => mcallM T mt m (ev T a) (evs T es)
  | .lc m t s c e own => lcM m t (evi T s) (ev T c) (ev T e) own
  | .disp m ps => dispM m (evp T ps)
  | .dnew m => newD m
  | .dispN a b => dispN (ev T a) (ev T b)
  | .xis i cs => xisM T i cs
  | .xfld i f => xfldM T i f
def evs (T : TabT) : Exs → DEnv → M (List D)
  | .nil => nilM
  | .cons e es => consM (ev T e) (evs T es)
def evp (T : TabT) : Exps → List ((DEnv → M D) × (DEnv → M D))
  | .nil => []
  | .cons k v ps => (ev T k, ev T v) :: evp T ps
def evi (T : TabT) : Sx → DEnv → M Src
  | .seq a => seqM (ev T a)
  | .rng1 a => rng1M (ev T a)
  | .rng2 a b => rng2M (ev T a) (ev T b)
  | .zip a b => zipM (ev T a) (ev T b)
  | .enum a => enumM (ev T a)
end
mutual
def exS (T : TabT) : Stm → DEnv → M Fl
  | .pass => nxM
  | .bad => fun _ => fail
  | .setf cs f o e => setfM cs f (ev T o) (ev T e) Fl.nx
  | .brk => bkM
  | .cnt => ctM
  | .expr e => exprM (ev T e)
  | .ret e => retM (ev T e)
  | .ite c a b => ifS (ev T c) (exSs T a) (exSs T b)
  | .asg t e => asgM t (ev T e)
  | .setix o i e => setM (ev T o) (ev T i) (ev T e)
  | .for_ t s b => forM t (evi T s) (exSs T b)
  | .whl c b => whM (ev T c) (exSs T b)
  | .raise c => raiseM c
  | .raiseF c f e => raiseFM c f (ev T e)
  | .try_ b h => tryM (exSs T b) (exHs h)
def exSs (T : TabT) : Stms → DEnv → M Fl
  | .nil => nxM
  | .cons s ss => thenM (exS T s) (exSs T ss)
def exHs : Hds → Exn → M Fl
  | .nil => fun x S => .exc x S
  | .cons cs i b r => hdM cs i (fun x => exSs (TX x) b) (exHs r)
end

/-! ### what is known of the names of a text -/
structure TC where
  N : List Str
  sc : Scope
  fn : Str → Bool
  fns : List (Str × Nat × Nat)
  cons : List (Str × D)
  blt : List Str
  mks : List (Str × Nat × Nat)
  meths : List (Str × Str × Nat × Nat)
  flds : List (Str × Str)
  marks : List (Nat × Nat)
  /-- classes of exceptions: those under each; which are raised with a text -/
  xs : List (Str × List Str)
  xr : List Str
  xo : List (Str × Str)
  tr : Bool
  /-- dicts of the module -/
  mds : List (Str × List (Str × D))

structure FnAt (X : Cx) (G : Gx) (T : TabT) (x : Str) (g n : Nat) : Prop where
  ex : ∃ (k : Nat) (f : Addr) (fd : FuncData) (ps : List Str), FnOk X.prog X.w X.K X.mg X.base G.CX k f fd ps (spC G n (T g)) ∧ ps.length = n ∧ Room k X.A ∧ X.mg x = some (.ref f) ∧ PySem.W.keepIn X.K (.ref f) = true ∧ Binds X.K fd ps []
  len : ∀ ds S, T g ds S ≠ .bad → ds.length = n
structure Ok (c : TC) (X : Cx) (G : Gx) (E : XS) (T : TabT) : Prop where
  fit : Fit X G E
  N : X.N = c.N
  sc : X.env.scope = c.sc
  fn : X.fn = c.fn
  fns : ∀ x g n, (x, g, n) ∈ c.fns → FnAt X G T x g n
  cons : ∀ x d, (x, d) ∈ c.cons → ∃ v u, X.mg x = some u ∧ RelV v u ∧ Rep G.K [] (fun _ => none) v d
  blt : ∀ x ∈ c.blt, X.mg x = none
  mks : ∀ x g n, (x, g, n) ∈ c.mks → ∃ b, MkAt X G T x g n b
  meths : ∀ m cl g n, (m, cl, g, n) ∈ c.meths → ∃ b : MB, b.c = cl ∧ b.g = g ∧ MethAt X G T m b
  flds : ∀ cl f, (cl, f) ∈ c.flds → ∃ C, G.cls cl = some C ∧ Cls G.K C ∧ NoAttr G.K C f
  pass : ∀ σ, PassesAt G.CX X σ (E σ)
  passC : c.tr = false → ∀ σ, Passes G.CX X (E σ)
  p0 : ∀ Y : Cx, Y.prog = X.prog → Y.w = X.w → Passes G.CX Y L2.E0
  cx : G.CX = L2.CX X.prog X.w
  xs : ∀ h cs, (h, cs) ∈ c.xs → ∃ (v : V) (cv : Value), (X.mg h = some cv ∧ (∃ C, cv = .ref C ∧ v = .ref C) ∨ X.mg h = none ∧ bootBuiltins h = some cv ∧ h ≠ "__name__" ∧ ∃ B, cv = .type B ∧ v = .ty B) ∧ (h == ("__debug__" : Str)) = false ∧
    ∀ y C, G.xcls y = some C → PySem.W.exmOne X.K (.ref C) cv = some (cs.contains y) ∧ PySem.W.kitOne X.K (.ref C) cv = some (cs.contains y)
  xc : ∀ y C, G.xcls y = some C → ExcC X.K C ∧ XfC X.K C ∧ PySem.W.subIn X.K (.ref C) (.type "BaseException") = some true ∧ PySem.W.typeIn X.K (.ref C) = some (.type "type") ∧ PySem.W.keepIn X.K (.ref C) = true
  xo : ∀ b ∈ c.xo, ∀ y C, G.xcls y = some C → PySem.W.findIn X.K (.ref C) b.2 = some none
  xr : ∀ y, y ∈ c.xr → ∃ C, G.xcls y = some C ∧ PySem.W.excIn X.K C PySem.HandSPX.veTail "ValueError.__new__" = true ∧ X.mg y = some (.ref C) ∧ (y == ("__debug__" : Str)) = false
  md : ∀ x kvs, (x, kvs) ∈ c.mds → MdAt X G x kvs
theorem Ok.blk {c : TC} {X : Cx} {G : Gx} {E : XS} {T : TabT} (o : Ok c X G E T) (scope : Scope) (s : Shared) (H : Hp) (C : Addr) (cl : List (Str × Addr)) (fp : List Addr) :
    Ok { c with sc := relS scope c.sc, fn := fun x => scope.names.lookup x == some .cell, tr := false } (X.blk s H scope (compEnvC scope cl C X.env) fp) G E0 T where
  fit := ⟨⟨o.fit.hK, o.fit.mg, o.fit.nd, o.fit.room, o.fit.w⟩, o.fit.calm, o.fit.xv⟩
  N := o.N
  sc := by show relS scope X.env.scope = relS scope c.sc; rw [o.sc]
  fn := rfl
  fns := fun x g n h => ⟨(o.fns x g n h).ex, (o.fns x g n h).len⟩
  cons := o.cons
  blt := o.blt
  mks := fun x g n h => let ⟨b, q⟩ := o.mks x g n h; ⟨b, q.cls, q.mka, q.ok, q.pl, q.room, q.binds, q.mg, q.len⟩
  meths := fun m cl g n h => let ⟨b, e1, e2, q⟩ := o.meths m cl g n h; ⟨b, e1, e2, q.cls, q.cl, q.me, q.ok, q.pl, q.room, q.binds, q.len⟩
  flds := o.flds
  pass := fun σ pins H' s' e s2 I q => o.p0 (X.blk s H scope (compEnvC scope cl C X.env) fp) rfl rfl pins σ H' s' e s2 I q
  passC := fun _ σ => o.p0 _ rfl rfl
  p0 := o.p0
  cx := o.cx
  xs := o.xs
  xc := o.xc
  xo := o.xo
  xr := o.xr
  md := fun x kvs h => ⟨(o.md x kvs h).ex⟩

/-! ### the parts of the tree that are looked at -/
def gd {α : Type} (b : Bool) (o : Option α) : Option α := match b with
  | true => o
  | false => none
theorem gd_some {α : Type} {b : Bool} {o : Option α} {x : α} (h : gd b o = some x) : b = true ∧ o = some x := by
  cases b with
  | true => exact ⟨rfl, h⟩
  | false => cases h
theorem bd_some {α β : Type} {o : Option α} {f : α → Option β} {x : β} (h : o.bind f = some x) : ∃ a, o = some a ∧ f a = some x := Option.bind_eq_some_iff.mp h
/-- a display of one pair whose key is a tuple: by its form, or by a mark -/
def TC.isN (c : TC) (p : Pos) : List (Option Expr) → Bool
  | [some (.Tuple _ _ _)] => true
  | [some _] => c.marks.any fun q => q.1 == p.line && q.2 == p.col + 10000
  | _ => false
def TC.isMut (c : TC) (p : Pos) : Bool := c.marks.any fun q => q.1 == p.line && q.2 == p.col
def slotAt (N : List Str) (x : Str) : Option Nat := N.findIdx? (· == x)
theorem slotAt_ok {N : List Str} {x : Str} {i : Nat} (h : slotAt N x = some i) : N[i]? = some x := by
  obtain ⟨q, e, _⟩ := List.findIdx?_eq_some_iff_getElem.mp h
  rw [List.getElem?_eq_getElem q]
  rw [eq_of_beq e]
def visK (k : Option NameKind) : Bool := match k with
  | some .local => true | some .cell => true | some .free => true | _ => false
def globK (k : Option NameKind) : Bool := match k with
  | some .globalImplicit => true | _ => false
theorem visK_ok {sc : Scope} {x : Str} (h : visK (sc.names.lookup x) = true) : Vis sc x := by
  unfold visK at h
  split at h
  · exact .inl (by assumption)
  · exact .inr (.inl (by assumption))
  · exact .inr (.inr (by assumption))
  · cases h
theorem globK_ok {sc : Scope} {x : Str} (h : globK (sc.names.lookup x) = true) : sc.names.lookup x = some .globalImplicit := by
  unfold globK at h
  split at h
  · assumption
  · cases h
/-- a name that may be stored to -/
def stoK (c : TC) (x : Str) : Bool := match c.sc.names.lookup x with
  | some .local => true
  | some .cell => c.fn x
  | _ => false
theorem stoK_ok {c : TC} {x : Str} (h : stoK c x = true) : Loc c.sc x ∧ (c.fn x = true ∨ c.sc.names.lookup x = some .local) := by
  unfold stoK at h
  split at h
  · rename_i e; exact ⟨.inl e, .inr e⟩
  · rename_i e; exact ⟨.inr e, .inl h⟩
  · cases h
def plainName (x : Str) : Bool := !(x == ("__debug__" : Str)) && !(x == ("__classdict__" : Str))
theorem plainName_ok {x : Str} (h : plainName x = true) : (x == ("__debug__" : Str)) = false ∧ (x == ("__classdict__" : Str)) = false := by
  unfold plainName at h
  rw [Bool.and_eq_true, Bool.not_eq_true', Bool.not_eq_true'] at h
  exact h
def plainIx : Expr → Bool
  | .Name .. => true | .Constant .. => true | .BinOp .. => true | .UnaryOp .. => true | .Call .. => true | .Subscript .. => true | .Attribute .. => true | .Tuple .. => true | .IfExp .. => true | _ => false
theorem plainIx_ok {b : Expr} (h : plainIx b = true) : PlainIx b := by
  cases b <;> first
    | exact fun _ _ => rfl
    | cases h
def plainB : Expr → Bool
  | .Name .. => true | .Constant .. => true | .Subscript .. => true | .Attribute .. => true | .Call (.Attribute ..) .. => true | .Call (.Name ..) (_ :: _) .. => true | .BinOp .. => true | .List .. => true | _ => false
theorem plainB_ok {a : Expr} {name : Str} {env : Env} (h : plainB a = true) : attributeBase a name env (eval a env) = eval a env := by
  cases a with
  | Call f args kws pos =>
    cases f with
    | Name x q => cases args with
      | nil => cases h
      | cons a b => rfl
    | Attribute x q r => rfl
    | _ => cases h
  | _ => first
    | rfl
    | cases h
def plainT : Expr → Bool
  | .Name .. => true | .Constant .. => true | .Subscript .. => true | .Attribute .. => true | .Call .. => true | _ => false
theorem plainT_ok {e : Expr} {env : Env} (h : plainT e = true) : ∀ whole, isTrue e env whole = (do let v ← whole; standAt e.pos; holding [v] (truthy v)) := by
  cases e <;> first
    | exact fun _ => rfl
    | cases h
def isSet : Expr → Bool
  | .Set .. => true | _ => false
theorem isSet_ok {e : Expr} {env : Env} (h : isSet e = false) : ∀ x, foldedSetIterable e env x = pure x := by
  cases e <;> first
    | exact fun _ => rfl
    | cases h
def isComp : Expr → Bool
  | .ListComp .. => true | .SetComp .. => true | .DictComp .. => true | _ => false
theorem isComp_ok {e : Expr} {t : Option Expr} {l : Nat} {env : Env} (h : isComp e = false) : swapsWith e t l env = pure false := by
  cases e <;> first
    | rfl
    | cases h
theorem tgt_cons {e : Expr} {es : List Expr} {env : Env} (h : noStar e = true) : assignEach (e :: es) env = (false, assign e env) :: assignEach es env := by
  cases e <;> first | rfl | cases h
theorem tgt_len {env : Env} : ∀ {es : List Expr}, es.all noStar = true → (assignEach es env).length = es.length ∧ (assignEach es env).findIdx? (·.1) = none
  | [], _ => ⟨rfl, rfl⟩
  | e :: es, h => by
    rw [List.all_cons, Bool.and_eq_true] at h
    obtain ⟨h1, h2⟩ := tgt_len (env := env) h.2
    rw [tgt_cons h.1]
    refine ⟨by rw [List.length_cons, List.length_cons, h1], ?_⟩
    rw [List.findIdx?_cons, h2]
    rfl

/-! ### targets -/
mutual
def trG (c : TC) : Nat → Expr → Option Tg
  | 0, _ => none
  | n + 1, e => match e with
    | .Name x _ => gd (stoK c x) ((slotAt c.N x).map .n)
    | .Tuple es _ _ => gd (es.all noStar) ((trGs c n es).map .t)
    | _ => none
def trGs (c : TC) : Nat → List Expr → Option (List Tg)
  | 0, _ => none
  | n + 1, es => match es with
    | [] => some []
    | e :: es => (trG c n e).bind fun t => (trGs c n es).map (t :: ·)
end
section
variable {c : TC} {X : Cx} {G : Gx} {E : XS} {T : TabT}
theorem map_some {α β : Type} {o : Option α} {f : α → β} {x : β} (h : o.map f = some x) : ∃ a, o = some a ∧ f a = x := Option.map_eq_some_iff.mp h
theorem trGs_len : ∀ {n : Nat} {es : List Expr} {ts : List Tg}, trGs c n es = some ts → es.length = ts.length
  | 0, _, _, h => by cases h
  | n + 1, [], ts, h => by unfold trGs at h; cases h; rfl
  | n + 1, e :: es, ts, h => by
    unfold trGs at h
    obtain ⟨t, _, h⟩ := bd_some h
    obtain ⟨ts', h2, rfl⟩ := map_some h
    rw [List.length_cons, List.length_cons, trGs_len h2]
theorem trG_all (o : Ok c X G E T) : ∀ n : Nat, (∀ e t, trG c n e = some t → PG X e (tGI G E t)) ∧ (∀ es ts, trGs c n es = some ts → es.all noStar = true → PGs X es (tGIs G E ts))
  | 0 => ⟨fun _ _ h => (nomatch h), fun _ _ h _ => (nomatch h)⟩
  | n + 1 => by
    obtain ⟨i1, i2⟩ := trG_all o n
    refine ⟨fun e t h => ?_, fun es ts h hn => ?_⟩
    · unfold trG at h
      split at h
      · rename_i x p
        obtain ⟨h1, h⟩ := gd_some h
        obtain ⟨i, h2, rfl⟩ := map_some h
        obtain ⟨k1, k2⟩ := stoK_ok h1
        exact gI_name o.fit.nd (by rw [o.N]; exact slotAt_ok h2) (by rw [o.sc]; exact k1) (by rw [o.fn, o.sc]; exact k2)
      · rename_i es k p
        obtain ⟨h1, h⟩ := gd_some h
        obtain ⟨ts, h2, rfl⟩ := map_some h
        exact gI_tup o.fit.hK o.fit.calm (i2 es ts h2 h1) ((tgt_len h1).1.trans (trGs_len h2)) (tgt_len h1).2
      · cases h
    · unfold trGs at h
      split at h
      · cases h; exact gI_nil
      · rename_i e es
        obtain ⟨t, h1, h⟩ := bd_some h
        obtain ⟨ts', h2, rfl⟩ := map_some h
        rw [List.all_cons, Bool.and_eq_true] at hn
        exact gI_cons (i1 e t h1) (i2 es ts' h2 hn.2) (by rw [tgt_cons hn.1]; rfl)
theorem trG_ok (o : Ok c X G E T) {n : Nat} {e : Expr} {t : Tg} (h : trG c n e = some t) : PG X e (tGI G E t) := (trG_all o n).1 e t h
theorem trG_walk (o : Ok c X G E T) {n : Nat} {e : Expr} {t : Tg} (h : trG c n e = some t) : PG X e (tGT G E t) := by
  cases n with
  | zero => cases h
  | succ n =>
    unfold trG at h
    split at h
    · rename_i x p
      obtain ⟨h1, h⟩ := gd_some h
      obtain ⟨i, h2, rfl⟩ := map_some h
      obtain ⟨k1, k2⟩ := stoK_ok h1
      exact gT_name o.fit.nd (by rw [o.N]; exact slotAt_ok h2) (by rw [o.sc]; exact k1) (by rw [o.fn, o.sc]; exact k2)
    · rename_i es k p
      obtain ⟨h1, h⟩ := gd_some h
      obtain ⟨ts, h2, rfl⟩ := map_some h
      exact gT_tup o.fit.hK o.fit.calm ((trG_all o n).2 es ts h2 h1) ((tgt_len h1).1.trans (trGs_len h2)) (tgt_len h1).2
    · cases h
end
end CI

/-! Expressions: the translation and its rightness. -/
namespace CI
open PySem PySem.Spec PyProof.Rows L2 HT

def allBi : List Bi := [.len, .list, .tuple, .all, .any, .dict, .sorted, .int, .abs, .min, .max]
def biOf (x : Str) : Option Bi := allBi.find? fun b => b.name == x
theorem biOf_ok {x : Str} {b : Bi} (h : biOf x = some b) : b.name = x := eq_of_beq (List.find?_some (p := fun b : Bi => b.name == x) h)
def allMe : Bool → List Me
  | false => [.append, .index, .upper, .extend, .pop, .clear, .insert, .get, .setd]
  | true => [.append, .index, .upper, .extend, .popD, .clearD, .insert, .get, .setd]
def meOf (m : Bool) (x : Str) : Option Me := (allMe m).find? fun b => b.name == x
theorem meOf_ok {m : Bool} {x : Str} {b : Me} (h : meOf m x = some b) : b.name = x := eq_of_beq (List.find?_some (p := fun b : Me => b.name == x) h)
def clOf (x : Str) : Option String := clNames.find? fun b => Str.ofString b == x
theorem clOf_ok {x : Str} {b : String} (h : clOf x = some b) : x = Str.ofString b ∧ b ∈ clNames := ⟨(eq_of_beq (List.find?_some (p := fun b : String => Str.ofString b == x) h)).symm, List.mem_of_find?_eq_some h⟩
theorem cl_boot : ∀ T ∈ clNames, bootBuiltins (Str.ofString T) = some (.type T) ∧ (Str.ofString T) ≠ ("__name__" : Str) ∧ ((Str.ofString T) == ("__debug__" : Str)) = false := by decide +kernel
def tOk : Nat → Expr → Bool
  | 0, _ => false
  | n + 1, e => match e with
    | .Compare .. => true
    | .UnaryOp op a _ => (match op with | .Not => tOk n a | _ => false)
    | .BoolOp _ es _ => es.all (tOk n)
    | e => plainT e
def trName (c : TC) (x : Str) : Option Ex := gd (plainName x) (match c.sc.names.lookup x with
  | some .local => (slotAt c.N x).map .var
  | some .cell => (slotAt c.N x).map .var
  | some .free => (slotAt c.N x).map .var
  | some .globalImplicit => (c.cons.find? fun q => q.1 == x).map fun q => .con q.2
  | _ => none)
def bltIs (c : TC) (x nm : Str) : Bool := x == nm && globK (c.sc.names.lookup x) && c.blt.contains x
def fnOf (c : TC) (x : Str) : Option (Nat × Nat) := gd (globK (c.sc.names.lookup x) && plainName x) ((c.fns.find? fun q => q.1 == x).map (·.2))
def bltOf (c : TC) (x : Str) : Option Bi := gd (globK (c.sc.names.lookup x) && c.blt.contains x) (biOf x)
def clsAt (c : TC) : Expr → Option (List String)
  | .Name y _ => gd (globK (c.sc.names.lookup y) && c.blt.contains y) ((clOf y).map fun T => [T])
  | .Tuple [.Name y _, .Name z _] _ _ => gd ((globK (c.sc.names.lookup y) && c.blt.contains y) && (globK (c.sc.names.lookup z) && c.blt.contains z)) ((clOf y).bind fun T => (clOf z).map fun U => [T, U])
  | _ => none
def mkOf (c : TC) (x : Str) : Option (Nat × Nat) := gd (globK (c.sc.names.lookup x) && plainName x) ((c.mks.find? fun q => q.1 == x).map (·.2))
def clsOf (c : TC) (f : Str) : List Str := (c.flds.filter fun q => q.2 == f).map (·.1)
def mtOf (c : TC) (m : Str) : List (Str × Nat) := (c.meths.filter fun q => q.1 == m).map fun q => (q.2.1, q.2.2.1)
def isTup : Expr → Bool
  | .Tuple .. => true | _ => false
def mdOf (c : TC) (e : Expr) : Option (Str × List (Str × D)) := match e with
  | .Name y _ => gd (globK (c.sc.names.lookup y) && plainName y) (c.mds.find? fun q => q.1 == y)
  | _ => none
def mdC (c : TC) (op : CmpOp) (e : Expr) : Option (Bool × Str × List (Str × D)) := match op with
  | .In => (mdOf c e).map fun q => (false, q)
  | .NotIn => (mdOf c e).map fun q => (true, q)
  | _ => none
def patOf (c : TC) (f : Expr) (args : List Expr) : Option (Op1 × Expr) := match f, args with
  | .Name x _, [.Call (.Name y _) [a] [] _] => (match bltIs c x "len" && bltIs c y "set" with
    | true => some (.lenS, a)
    | false => (match bltIs c x "sorted" && bltIs c y "set" with
      | true => some (.srtS, a)
      | false => (match bltIs c x "list" && bltIs c y "range" with
        | true => some (.lrg, a)
        | false => none)))
  | .Name x _, [.Call (.Attribute o name apos) [] [] cpos] => gd (bltIs c x "sorted" && (name == "items" && (plainB o && apos.endLine == cpos.line))) (some (.itm, o))
  | _, _ => none
def pat2Of (c : TC) (f : Expr) (args : List Expr) : Option (Expr × Expr) := match f, args with
  | .Name x _, [.Call (.Name y _) [a, b] [] _] => gd (bltIs c x "list" && bltIs c y "range") (some (a, b))
  | _, _ => none
def ownOf (c : TC) (scope : Scope) : List (Str × Nat) := scope.names.filterMap fun y => match y.2 with
  | .local => (slotAt c.N y.1).map fun i => (y.1, i)
  | .cell => (slotAt c.N y.1).map fun i => (y.1, i)
  | _ => none
def inBlk (c : TC) (scope : Scope) : TC := { c with sc := relS scope c.sc, fn := fun x => scope.names.lookup x == some .cell, tr := false }
mutual
def trE (c : TC) : Nat → Expr → Option Ex
  | 0, _ => none
  | n + 1, e => match e with
    | .Name x _ => trName c x
    | .Constant k _ _ => (match k with
      | .int i => some (.con (.int i))
      | .bool b => some (.con (.bl b))
      | .none => some (.con .non)
      | .str x => some (.con (.str x))
      | _ => none)
    | .BinOp a op b p => (trE c n a).bind fun a' => (trE c n b).map fun b' => .bin (c.isMut p) op a' b'
    | .Compare a ops bs _ => (match ops, bs with
      | [op], [b] => (match mdC c op b with
        | some q => (trE c n a).map (.op1 (.mdn q.1 q.2.2) false)
        | none => gd (!behindInMarks op b) ((trE c n a).bind fun a' => (trE c n b).map fun b' => .cmp op a' b'))
      | [o1, o2], [b, d] => gd (!lastMarks [o1, o2] [b, d]) ((trE c n a).bind fun a' => (trE c n b).bind fun b' => (trE c n d).map fun d' => .chain o1 o2 a' b' d')
      | _, _ => none)
    | .UnaryOp op a _ => (match op with
      | .USub => (trE c n a).map .neg
      | .Not => (trE c n a).map .not
      | _ => none)
    | .BoolOp op es p => (match es with
      | [] => none
      | [a] => trE c n a
      | a :: b :: r => (trE c n a).bind fun a' => (trE c n (.BoolOp op (b :: r) p)).map fun b' => match op with | .And => .and a' b' | .Or => .or a' b')
    | .IfExp t a b _ => gd (tOk n t) ((trE c n t).bind fun t' => (trE c n a).bind fun a' => (trE c n b).map fun b' => .ite t' a' b')
    | .Tuple es _ _ => (trEs c n es).map .tup
    | .List es p => (trEs c n es).map (.lst (c.isMut p))
    | .Subscript a b p => (match mdOf c a with
      | some q => gd (plainIx b) ((trE c n b).map (.op1 (.mdi q.2) false))
      | none => match b with
      | .Slice lo hi st _ => (match st with
        | none => (trE c n a).bind fun a' => (trO c n lo).bind fun lo' => (trO c n hi).map fun hi' => .sl (c.isMut p) a' lo' hi'
        | some s => (match lo, hi, s with
          | none, none, .UnaryOp .USub (.Constant (.int k) _ _) _ => gd (k == 1) ((trE c n a).map (.op1 .rev (c.isMut p)))
          | _, _, _ => none))
      | b => gd (plainIx b) ((trE c n a).bind fun a' => (trE c n b).map fun b' => .ix a' b'))
    | .Call f args kws p => (match kws with
      | [] => (match patOf c f args with
      | some q => (trE c n q.2).map (.op1 q.1 (c.isMut p))
      | none => match pat2Of c f args with
      | some q => (trE c n q.1).bind fun a' => (trE c n q.2).map (.lrg2 (c.isMut p) a')
      | none => match f with
        | .Name x _ => (match fnOf c x with
          | some (g, m) => gd (args.length == m && (!args.isEmpty || !c.tr)) ((trEs c n args).map (.call g))
          | none => (match mkOf c x with
            | some (g, m) => gd (args.length + 1 == m && !c.tr) ((trEs c n args).map (.mk x g))
            | none => (match bltOf c x with
            | some b => gd (!args.isEmpty) ((trEs c n args).map (.bi (c.isMut p) b))
            | none => gd (bltIs c x "isinstance") (match args with
              | [a, t] => (clsAt c t).bind fun ts => (trE c n a).map fun a' => .isi a' ts
              | _ => none))))
        | .Attribute o name apos => gd (plainB o && (apos.endLine == p.line && decide (args.length < 30))) (match mtOf c name with
          | [] => ((meOf (c.isMut p) name).bind fun me => (trE c n o).bind fun o' => (trEs c n args).map (.meth me o'))
          | q :: r => gd (!c.tr) ((trE c n o).bind fun o' => (trEs c n args).map (.mcall (q :: r) name o')))
        | _ => none)
      | _ => none)
    | .Attribute o f _ => gd (plainB o) ((trE c n o).map (.fld (clsOf c f) f))
    | .ListComp elt gens scope p => (match gens with
      | [⟨tg, iter, ifs, k⟩] => gd (k == 0 && (blkC c.N c.sc scope (ownOf c scope) && !isSet iter)) ((trG (inBlk c scope) n tg).bind fun t => gd (t.slots.all fun i => ((ownOf c scope).map (·.2)).contains i) ((trI c n tg iter).bind fun s =>
        (trQ (inBlk c scope) n ifs).bind fun q => (trE (inBlk c scope) n elt).map fun e' => .lc (c.isMut p) t s q e' ((ownOf c scope).map (·.2))))
      | _ => none)
    | .Dict ks vs p => (match ks with
      | [] => (match vs with
        | [] => some (.dnew (c.isMut p))
        | _ => none)
      | k :: ks => if c.isN p (k :: ks) = true then (match k, ks, vs with
        | some k, [], [v] => (trE c n k).bind fun k' => (trE c n v).map fun v' => .dispN k' v'
        | _, _, _ => none) else gd (decide ((k :: ks).length ≤ 15)) ((trPs c n (k :: ks) vs).map (.disp (c.isMut p))))
    | _ => none
def trEs (c : TC) : Nat → List Expr → Option Exs
  | 0, _ => none
  | n + 1, es => match es with
    | [] => some .nil
    | e :: es => (trE c n e).bind fun e' => (trEs c n es).map (.cons e')
def trPs (c : TC) : Nat → List (Option Expr) → List Expr → Option Exps
  | 0, _, _ => none
  | n + 1, ks, vs => match ks, vs with
    | [], [] => some .nil
    | some k :: ks, v :: vs => (trE c n k).bind fun k' => (trE c n v).bind fun v' => (trPs c n ks vs).map (.cons k' v')
    | _, _ => none
def trO (c : TC) : Nat → Option Expr → Option Ex
  | 0, _ => none
  | n + 1, o => match o with
    | none => some (.con .non)
    | some e => (trE c n e).map .noN
def trQ (c : TC) : Nat → List Expr → Option Ex
  | 0, _ => none
  | n + 1, qs => match qs with
    | [] => some (.con (.bl true))
    | [q] => gd (tOk n q) (trE c n q)
    | _ => none
def trI (c : TC) : Nat → Expr → Expr → Option Sx
  | 0, _, _ => none
  | n + 1, tg, e => match e with
    | .Call f args kws p => (match f, kws with
      | .Name x q, [] => (match bltIs c x "range" with
        | true => (match args with
          | [a] => (trE c n a).map .rng1
          | [a, b] => (trE c n a).bind fun a' => (trE c n b).map fun b' => .rng2 a' b'
          | _ => none)
        | false => (match bltIs c x "zip" with
          | true => gd (isTup tg) (match args with
            | [a, b] => (trE c n a).bind fun a' => (trE c n b).map fun b' => .zip a' b'
            | _ => none)
          | false => (match bltIs c x "enumerate" with
            | true => gd (isTup tg) (match args with
              | [a] => (trE c n a).map .enum
              | _ => none)
            | false => (trE c n e).map .seq)))
      | _, _ => (trE c n e).map .seq)
    | e => (trE c n e).map .seq
end
end CI

/-! Expressions: the translation is right. -/
namespace CI
open PySem PySem.Spec PyProof.Rows L2 HT

section
variable {c : TC} {n : Nat}
theorem trE_ns {e : Expr} {x : Ex} (h : trE c n e = some x) : noStar e = true := by
  cases n with
  | zero => cases h
  | succ n => cases e <;> first
    | rfl
    | (unfold trE at h; cases h)
theorem trEs_ns : ∀ {n : Nat} {es : List Expr} {xs : Exs}, trEs c n es = some xs → es.all noStar = true
  | 0, _, _, h => nomatch h
  | n + 1, [], _, _ => rfl
  | n + 1, e :: es, xs, h => by
    unfold trEs at h
    obtain ⟨x, h1, h⟩ := bd_some h
    obtain ⟨xs', h2, _⟩ := map_some h
    rw [List.all_cons, trE_ns h1, trEs_ns h2]
    rfl
theorem trEs_nil {T : TabT} {es : List Expr} {xs : Exs} (h : trEs c n es = some xs) (e : es = []) : evs T xs = nilM := by
  subst e
  cases n with
  | zero => cases h
  | succ n => unfold trEs at h; cases h; unfold evs; rfl
end
theorem Ok.e0 {c : TC} {X : Cx} {G : Gx} {E : XS} {T : TabT} (o : Ok c X G E T) : Ok c X G E0 T := ⟨⟨⟨o.fit.hK, o.fit.mg, o.fit.nd, o.fit.room, o.fit.w⟩, o.fit.calm, o.fit.xv⟩, o.N, o.sc, o.fn, o.fns, o.cons, o.blt, o.mks, o.meths, o.flds, fun σ pins H s e s' I q => o.p0 X rfl rfl pins σ H s e s' I q, fun _ _ => o.p0 X rfl rfl, o.p0, o.cx, o.xs, o.xc, o.xo, o.xr, fun x kvs h => ⟨(o.md x kvs h).ex⟩⟩
theorem and_ok {a b : Bool} (h : (a && b) = true) : a = true ∧ b = true := by rw [Bool.and_eq_true] at h; exact h
theorem not_ok {a : Bool} (h : (!a) = true) : a = false := by cases a <;> first | rfl | cases h
section
variable {c : TC} {X : Cx} {G : Gx} {E : XS} {T : TabT}
theorem Ok.gl (o : Ok c X G E T) {x : Str} (h : globK (c.sc.names.lookup x) = true) : Gl X x := by
  show X.env.scope.names.lookup x = some .globalImplicit
  rw [o.sc]; exact globK_ok h
theorem trName_ok (o : Ok c X G E T) {x : Str} {p : Pos} {e : Ex} (h : trName c x = some e) : PE X (.Name x p) (tI G E (ev T e)) := by
  unfold trName at h
  obtain ⟨h0, h⟩ := gd_some h
  obtain ⟨d1, d2⟩ := plainName_ok h0
  have var : ∀ {i : Nat}, slotAt c.N x = some i → Vis c.sc x → PE X (.Name x p) (tI G E (ev T (.var i))) := fun {i} hi hv => by
    unfold ev
    exact eI_var (by rw [o.N]; exact slotAt_ok hi) (by rw [o.sc]; exact hv) d1 d2
  split at h
  · rename_i k; obtain ⟨i, h1, rfl⟩ := map_some h; exact var h1 (.inl k)
  · rename_i k; obtain ⟨i, h1, rfl⟩ := map_some h; exact var h1 (.inr (.inl k))
  · rename_i k; obtain ⟨i, h1, rfl⟩ := map_some h; exact var h1 (.inr (.inr k))
  · rename_i k
    obtain ⟨q, h1, rfl⟩ := map_some h
    obtain ⟨y, d⟩ := q
    have e1 : y = x := eq_of_beq (List.find?_some (p := fun q : Str × D => q.1 == x) h1)
    subst e1
    obtain ⟨v, u, hm, r, rd⟩ := o.cons y d (List.mem_of_find?_eq_some h1)
    unfold ev
    exact eI_glob (o.gl (by rw [k]; rfl)) hm r rd d1
  · cases h
theorem bltIs_ok (o : Ok c X G E T) {x nm : Str} (h : bltIs c x nm = true) : x = nm ∧ Gl X nm ∧ X.mg nm = none := by
  unfold bltIs at h
  obtain ⟨h, h3⟩ := and_ok h
  obtain ⟨h1, h2⟩ := and_ok h
  have e := eq_of_beq h1
  subst e
  exact ⟨rfl, o.gl h2, o.blt _ (List.contains_iff_mem.mp h3)⟩
structure TrOk (G : Gx) (T : TabT) (n : Nat) : Prop where
  e : ∀ (c : TC) (X : Cx) (E : XS) (e : Expr) (x : Ex), Ok c X G E T → trE c n e = some x → PE X e (tI G E (ev T x))
  es : ∀ (c : TC) (X : Cx) (E : XS) (es : List Expr) (xs : Exs), Ok c X G E T → trEs c n es = some xs → PA X es (tIs G E (evs T xs))
  ps : ∀ (c : TC) (X : Cx) (E : XS) (pos : Pos) (ks : List (Option Expr)) (vs : List Expr) (xs : Exps), Ok c X G E T → trPs c n ks vs = some xs → PPs X pos ks vs ((evp T xs).map fun m => (tI G E m.1, tI G E m.2)) ∧ ks.all (·.isSome) = true ∧ ks.length = vs.length
  o : ∀ (c : TC) (X : Cx) (E : XS) (e : Option Expr) (x : Ex), Ok c X G E T → trO c n e = some x → PO X e (tIP G E (ev T x))
  b : ∀ (m : Nat) (c : TC) (X : Cx) (E : XS) (e : Expr) (x : Ex), Ok c X G E T → tOk m e = true → trE c n e = some x → PT X e (tIB G E (tsM (ev T x)))
  w : ∀ (m : Nat) (c : TC) (X : Cx) (E : XS) (op : BoolOp) (es : List Expr) (pos : Pos) (x : Ex), Ok c X G E T → es.all (tOk m) = true → trE c n (.BoolOp op es pos) = some x → PW X (.BoolOp op es pos) (tIB G E (tsM (ev T x)))
  q : ∀ (c : TC) (X : Cx) (E : XS) (qs : List Expr) (x : Ex), Ok c X G E T → trQ c n qs = some x → PTs X qs (tIB G E (tsM (ev T x)))
  i : ∀ (c : TC) (X : Cx) (E : XS) (tg e : Expr) (s : Sx), Ok c X G E T → trI c n tg e = some s → PI X tg e (tII G E (evi T s))
theorem clsAt_ok {c : TC} {X : Cx} {G : Gx} {E : XS} {T : TabT} (o : Ok c X G E T) {t : Expr} {ts : List String} (h : clsAt c t = some ts) {a : Expr} {fa : DEnv → M D} {p pos : Pos} (hg : Gl X "isinstance") (hm : X.mg "isinstance" = none) (ha : PE X a (tI G E fa)) (ns : noStar a = true) :
    PE X (.Call (.Name "isinstance" p) [a, t] [] pos) (tI G E (isiM fa ts)) := by
  unfold clsAt at h
  split at h
  · rename_i y p2
    obtain ⟨h0, h⟩ := gd_some h
    obtain ⟨T', h1, rfl⟩ := map_some h
    obtain ⟨rfl, hT⟩ := clOf_ok h1
    obtain ⟨g1, g2⟩ := and_ok h0
    obtain ⟨b1, b2, b3⟩ := cl_boot T' hT
    exact eI_isi o.fit hT b1 b2 b3 hg hm (o.gl g1) (o.blt _ (List.contains_iff_mem.mp g2)) ha ns
  · rename_i y p2 z p3 k p4
    obtain ⟨h0, h⟩ := gd_some h
    obtain ⟨T', h1, h⟩ := bd_some h
    obtain ⟨U, h2, rfl⟩ := map_some h
    obtain ⟨rfl, hT⟩ := clOf_ok h1
    obtain ⟨rfl, hU⟩ := clOf_ok h2
    obtain ⟨h0, h3⟩ := and_ok h0
    obtain ⟨g1, g2⟩ := and_ok h0
    obtain ⟨g3, g4⟩ := and_ok h3
    obtain ⟨b1, b2, b3⟩ := cl_boot T' hT
    obtain ⟨c1, c2, c3⟩ := cl_boot U hU
    exact eI_isi2 o.fit hT hU b1 b2 b3 c1 c2 c3 hg hm (o.gl g1) (o.blt _ (List.contains_iff_mem.mp g2)) (o.gl g3) (o.blt _ (List.contains_iff_mem.mp g4)) ha ns
  · cases h
end
theorem clsOf_ok {c : TC} {X : Cx} {G : Gx} {E : XS} {T : TabT} (o : Ok c X G E T) (f : Str) : ClsIs G (clsOf c f) f := fun cl h => by
  unfold clsOf at h
  obtain ⟨⟨cl', f'⟩, hin, e⟩ := List.mem_map.mp h
  cases e
  obtain ⟨h1, hb⟩ := List.mem_filter.mp hin
  have e : f' = f := eq_of_beq hb
  rw [← e]
  exact o.flds _ _ h1
section
variable {G : Gx} {T : TabT} {n : Nat}
theorem patOf_ok {c : TC} {X : Cx} {E : XS} (o : Ok c X G E T) {f a : Expr} {args : List Expr} {op : Op1} {fa : DEnv → M D} {p : Pos} (h : patOf c f args = some (op, a)) (ha : PE X a (tI G E fa)) (ns : noStar a = true) (m : Bool) : PE X (.Call f args [] p) (tI G E (un1 fa (op1D op m))) := by
  unfold patOf at h
  split at h
  · split at h
    · rename_i hb
      obtain ⟨h1, h2⟩ := and_ok hb
      obtain ⟨e1, g1, m1⟩ := bltIs_ok o h1
      obtain ⟨e2, g2, m2⟩ := bltIs_ok o h2
      cases h
      subst e1 e2
      exact eI_lenSet o.fit m g1 m1 g2 m2 ha ns
    · split at h
      · rename_i hb
        obtain ⟨h1, h2⟩ := and_ok hb
        obtain ⟨e1, g1, m1⟩ := bltIs_ok o h1
        obtain ⟨e2, g2, m2⟩ := bltIs_ok o h2
        cases h
        subst e1 e2
        exact eI_srtSet o.fit m g1 m1 g2 m2 ha ns
      · split at h
        · rename_i hb
          obtain ⟨h1, h2⟩ := and_ok hb
          obtain ⟨e1, g1, m1⟩ := bltIs_ok o h1
          obtain ⟨e2, g2, m2⟩ := bltIs_ok o h2
          cases h
          subst e1 e2
          exact eI_lrg1 o.fit m g1 m1 g2 m2 ha ns
        · cases h
  · obtain ⟨hb, h⟩ := gd_some h
    obtain ⟨h1, hb⟩ := and_ok hb
    obtain ⟨h2, hb⟩ := and_ok hb
    obtain ⟨h3, h4⟩ := and_ok hb
    obtain ⟨e1, g1, m1⟩ := bltIs_ok o h1
    cases h
    have e2 := eq_of_beq h2
    subst e1 e2
    exact eI_items o.fit m g1 m1 ha (plainB_ok h3) h4
  · cases h
theorem pat2Of_ok {c : TC} {X : Cx} {E : XS} (o : Ok c X G E T) {f a b : Expr} {args : List Expr} {fa fb : DEnv → M D} {p : Pos} (h : pat2Of c f args = some (a, b)) (ha : PE X a (tI G E fa)) (hb : PE X b (tI G E fb)) (ns : noStar a = true) (ns2 : noStar b = true) (m : Bool) : PE X (.Call f args [] p) (tI G E (un2 fa fb (lrg2D m))) := by
  unfold pat2Of at h
  split at h
  · obtain ⟨h0, h⟩ := gd_some h
    obtain ⟨h1, h2⟩ := and_ok h0
    obtain ⟨e1, g1, m1⟩ := bltIs_ok o h1
    obtain ⟨e2, g2, m2⟩ := bltIs_ok o h2
    cases h
    subst e1 e2
    exact eI_lrg2 o.fit m g1 m1 g2 m2 ha hb ns ns2
  · cases h
theorem step_call (I : TrOk G T n) {c : TC} {X : Cx} {E : XS} {f : Expr} {args : List Expr} {kws : List Keyword} {p : Pos} {x : Ex} (o : Ok c X G E T) (h : trE c (n + 1) (.Call f args kws p) = some x) : PE X (.Call f args kws p) (tI G E (ev T x)) := by
  unfold trE at h
  simp only at h
  split at h
  · split at h
    · rename_i q hq
      obtain ⟨a', h1, rfl⟩ := map_some h
      unfold ev
      exact patOf_ok o hq (I.e c X E _ a' o h1) (trE_ns h1) _
    split at h
    · rename_i q hq
      obtain ⟨a', h1, h⟩ := bd_some h
      obtain ⟨b', h2, rfl⟩ := map_some h
      unfold ev
      exact pat2Of_ok o hq (I.e c X E _ a' o h1) (I.e c X E _ b' o h2) (trE_ns h1) (trE_ns h2) _
    split at h
    · rename_i x0 p0 _ _
      split at h
      · rename_i q g m hf
        obtain ⟨h0, h⟩ := gd_some h
        obtain ⟨xs, h1, rfl⟩ := map_some h
        unfold fnOf at hf
        obtain ⟨h2, hf⟩ := gd_some hf
        obtain ⟨h2, h3⟩ := and_ok h2
        obtain ⟨⟨y, g', m'⟩, hq, e⟩ := map_some hf
        cases e
        have e1 : y = x0 := eq_of_beq (List.find?_some (p := fun q : Str × Nat × Nat => q.1 == x0) hq)
        subst e1
        obtain ⟨⟨k, fa, fd, ps, FO, hn, hr, hm, hk, hb⟩, hl⟩ := o.fns y g m (List.mem_of_find?_eq_some hq)
        unfold ev
        exact eI_call o.fit FO hn hr (o.gl h2) hm hk hb o.pass (fun z => o.passC (by subst z; have := (and_ok h0).2; simpa using this)) (I.es c X E args xs o h1) (trEs_ns h1) (trEs_nil h1) (plainName_ok h3).1 hl
      · rename_i hf
        split at h
        · rename_i g m hf
          obtain ⟨h0, h⟩ := gd_some h
          obtain ⟨xs, h1, rfl⟩ := map_some h
          unfold mkOf at hf
          obtain ⟨h2, hf⟩ := gd_some hf
          obtain ⟨h2, h3⟩ := and_ok h2
          obtain ⟨⟨y, g', m'⟩, hq, e⟩ := map_some hf
          cases e
          have e1 : y = x0 := eq_of_beq (List.find?_some (p := fun q : Str × Nat × Nat => q.1 == x0) hq)
          subst e1
          obtain ⟨b, hb⟩ := o.mks y g m (List.mem_of_find?_eq_some hq)
          unfold ev
          exact eI_mk o.fit hb (o.gl h2) (o.passC (not_ok (and_ok h0).2)) (I.es c X E args xs o h1) (trEs_ns h1) (trEs_nil h1) (plainName_ok h3).1
        split at h
        · rename_i b hb
          obtain ⟨h0, h⟩ := gd_some h
          obtain ⟨xs, h1, rfl⟩ := map_some h
          unfold bltOf at hb
          obtain ⟨h2, hb⟩ := gd_some hb
          obtain ⟨g1, g2⟩ := and_ok h2
          have e := biOf_ok hb
          subst e
          unfold ev
          cases args with
          | nil => cases h0
          | cons a as => exact eI_bi o.fit _ b (fun _ => o.fit.calm) (o.gl g1) (o.blt _ (List.contains_iff_mem.mp g2)) (I.es c X E _ xs o h1) (trEs_ns h1)
        · replace h := gd_some h
          obtain ⟨h0, h⟩ := h
          obtain ⟨e, hg, hm⟩ := bltIs_ok o h0
          subst e
          split at h
          · rename_i a t _ _
            obtain ⟨ts, h1, h⟩ := bd_some h
            obtain ⟨a', h2, rfl⟩ := map_some h
            unfold ev
            exact clsAt_ok o h1 hg hm (I.e c X E a a' o h2) (trE_ns h2)
          · cases h
    · rename_i o' name apos _ _
      obtain ⟨h0, h⟩ := gd_some h
      obtain ⟨h0, h3⟩ := and_ok h0
      obtain ⟨h3, h4⟩ := and_ok h3
      split at h
      · obtain ⟨me, h1, h⟩ := bd_some h
        obtain ⟨a', h2, h⟩ := bd_some h
        obtain ⟨xs, h5, rfl⟩ := map_some h
        have e := meOf_ok h1
        subst e
        obtain ⟨id, pa, slot, hty, hm⟩ := mt_me (G := G) (E := E) o.fit.hK o.fit.room me
        unfold ev
        exact eI_meth o.fit pa slot hty hm (I.e c X E _ a' o h2) (I.es c X E _ xs o h5) (trEs_ns h5) (trEs_nil h5) (plainB_ok h0) h3 (of_decide_eq_true h4)
      · rename_i q r hm
        obtain ⟨htr, h⟩ := gd_some h
        obtain ⟨a', h2, h⟩ := bd_some h
        obtain ⟨xs, h5, rfl⟩ := map_some h
        unfold ev
        refine eI_mcall o.fit (by simp) (fun cl g hcg => ?_) (o.passC (not_ok htr)) (I.e c X E _ a' o h2) (I.es c X E _ xs o h5) (trEs_ns h5) (trEs_nil h5) (plainB_ok h0) h3 (of_decide_eq_true h4)
        rw [← hm] at hcg
        unfold mtOf at hcg
        obtain ⟨⟨m', cl', g', n'⟩, hin, e⟩ := List.mem_map.mp hcg
        cases e
        obtain ⟨hin2, hb⟩ := List.mem_filter.mp hin
        have e : m' = name := eq_of_beq hb
        obtain ⟨b, e1, e2, q⟩ := o.meths _ _ _ _ hin2
        exact ⟨b, e1, e2, e ▸ q⟩
    · cases h
  · cases h
theorem own_ok {c : TC} {X : Cx} {E : XS} {scope : Scope} (o : Ok c X G E T) (h : blkC c.N c.sc scope (ownOf c scope) = true) : BlkOk X.N X.env.scope scope (ownOf c scope) := by
  rw [o.N, o.sc]; exact blkOk_by h
theorem inBlk_ok {c : TC} {X : Cx} {E : XS} (o : Ok c X G E T) (scope : Scope) (s : Shared) (H : Hp) (C : Addr) (cl : List (Str × Addr)) (fp : List Addr) : Ok (inBlk c scope) (X.blk s H scope (compEnvC scope cl C X.env) fp) G E0 T := o.blk scope s H C cl fp
theorem step_comp (I : TrOk G T n) {c : TC} {X : Cx} {E : XS} {elt : Expr} {gens : List Comprehension} {scope : Scope} {p : Pos} {x : Ex} (o : Ok c X G E T) (h : trE c (n + 1) (.ListComp elt gens scope p) = some x) :
    ∃ tg iter ifs t s q e' m, gens = [⟨tg, iter, ifs, 0⟩] ∧ x = .lc m t s q e' ((ownOf c scope).map (·.2)) ∧ PI X tg iter (tII G E (evi T s)) ∧ BlkOk X.N X.env.scope scope (ownOf c scope) ∧
      (∀ (s : Shared) (H : Hp) (C : Addr) (cl : List (Str × Addr)) (fp : List Addr), PG (X.blk s H scope (compEnvC scope cl C X.env) fp) tg (tGT G E0 t)) ∧
      (∀ (s : Shared) (H : Hp) (C : Addr) (cl : List (Str × Addr)) (fp : List Addr), PTs (X.blk s H scope (compEnvC scope cl C X.env) fp) ifs (tIB G E0 (tsM (ev T q)))) ∧
      (∀ (s : Shared) (H : Hp) (C : Addr) (cl : List (Str × Addr)) (fp : List Addr), PE (X.blk s H scope (compEnvC scope cl C X.env) fp) elt (tI G E0 (ev T e'))) ∧ (∀ x, foldedSetIterable iter X.env x = pure x) ∧ (∀ i ∈ t.slots, i ∈ (ownOf c scope).map (·.2)) := by
  unfold trE at h
  simp only at h
  split at h
  · rename_i tg iter ifs k
    replace h := gd_some h
    obtain ⟨h0, h⟩ := h
    obtain ⟨h0, h1⟩ := and_ok h0
    obtain ⟨h1, h2⟩ := and_ok h1
    have ek := eq_of_beq h0
    subst ek
    obtain ⟨t, h3, h⟩ := bd_some h
    obtain ⟨h4, h⟩ := gd_some h
    obtain ⟨s, h5, h⟩ := bd_some h
    obtain ⟨q, h6, h⟩ := bd_some h
    obtain ⟨e', h7, rfl⟩ := map_some h
    refine ⟨tg, iter, ifs, t, s, q, e', _, rfl, rfl, I.i c X E tg iter s o h5, own_ok o h1, fun s H C cl fp => trG_walk (inBlk_ok o scope s H C cl fp) h3, fun s H C cl fp => I.q _ _ _ _ _ (inBlk_ok o scope s H C cl fp) h6,
      fun s H C cl fp => I.e _ _ _ _ _ (inBlk_ok o scope s H C cl fp) h7, isSet_ok (not_ok h2), fun i hi => ?_⟩
    exact List.contains_iff_mem.mp (List.all_eq_true.mp h4 i hi)
  · cases h
end
end CI

/-! Expressions: the translation is right, all heads. -/
namespace CI
open PySem PySem.Spec PyProof.Rows L2 HT

theorem isTup_ok {e : Expr} (h : isTup e = true) : ∃ a b c, e = .Tuple a b c := by
  cases e <;> first
    | exact ⟨_, _, _, rfl⟩
    | cases h
theorem mdOf_ok {c : TC} {X : Cx} {G : Gx} {E : XS} {T : TabT} (o : Ok c X G E T) {a : Expr} {q : Str × List (Str × D)} (h : mdOf c a = some q) : ∃ y p, a = .Name y p ∧ Gl X y ∧ (y == ("__debug__" : Str)) = false ∧ MdAt X G y q.2 := by
  unfold mdOf at h
  split at h
  · rename_i y p
    obtain ⟨h0, h⟩ := gd_some h
    obtain ⟨h1, h2⟩ := and_ok h0
    obtain ⟨z, kvs⟩ := q
    have e1 : z = y := eq_of_beq (List.find?_some (p := fun q : Str × List (Str × D) => q.1 == y) h)
    subst e1
    exact ⟨z, p, rfl, o.gl h1, (plainName_ok h2).1, o.md z kvs (List.mem_of_find?_eq_some h)⟩
  · cases h
theorem mdC_ok {c : TC} {X : Cx} {G : Gx} {E : XS} {T : TabT} (o : Ok c X G E T) {op : CmpOp} {b : Expr} {q : Bool × Str × List (Str × D)} (h : mdC c op b = some q) : ∃ y p, b = .Name y p ∧ op = (if q.1 = true then .NotIn else .In) ∧ Gl X y ∧ (y == ("__debug__" : Str)) = false ∧ MdAt X G y q.2.2 := by
  unfold mdC at h
  split at h
  · obtain ⟨r, h1, rfl⟩ := map_some h
    obtain ⟨y, p, e, g1, g2, g3⟩ := mdOf_ok o h1
    exact ⟨y, p, e, rfl, g1, g2, g3⟩
  · obtain ⟨r, h1, rfl⟩ := map_some h
    obtain ⟨y, p, e, g1, g2, g3⟩ := mdOf_ok o h1
    exact ⟨y, p, e, rfl, g1, g2, g3⟩
  · cases h
section
variable {G : Gx} {T : TabT} {n : Nat}
theorem step_e (I : TrOk G T n) (c : TC) (X : Cx) (E : XS) (e : Expr) (x : Ex) (o : Ok c X G E T) (h : trE c (n + 1) e = some x) : PE X e (tI G E (ev T x)) := by
  cases e with
  | Name y p => unfold trE at h; exact trName_ok o h
  | Constant k j p =>
    unfold trE at h
    cases k <;> first
      | (cases h; unfold ev; first | exact eI_int | exact eI_bl | exact eI_non | exact eI_str)
      | cases h
  | BinOp a op b p =>
    unfold trE at h
    obtain ⟨a', h1, h⟩ := bd_some h
    obtain ⟨b', h2, rfl⟩ := map_some h
    unfold ev
    exact eI_bin o.fit _ op (I.e c X E a a' o h1) (I.e c X E b b' o h2)
  | Compare a ops bs p =>
    unfold trE at h
    simp only at h
    split at h
    · rename_i op b
      split at h
      · rename_i q hq
        obtain ⟨a', h1, rfl⟩ := map_some h
        obtain ⟨y, p2, rfl, rfl, g1, g2, g3⟩ := mdC_ok o hq
        unfold ev
        exact eI_mdn o.fit.toFit0 _ g3 g1 g2 (I.e c X E a a' o h1)
      obtain ⟨h0, h⟩ := gd_some h
      obtain ⟨a', h1, h⟩ := bd_some h
      obtain ⟨b', h2, rfl⟩ := map_some h
      unfold ev
      exact eI_cmp o.fit op (not_ok h0) (I.e c X E a a' o h1) (I.e c X E b b' o h2)
    · rename_i o1 o2 b d
      obtain ⟨h0, h⟩ := gd_some h
      obtain ⟨a', h1, h⟩ := bd_some h
      obtain ⟨b', h2, h⟩ := bd_some h
      obtain ⟨d', h3, rfl⟩ := map_some h
      unfold ev
      exact eI_chain o.fit o1 o2 (not_ok h0) (I.e c X E a a' o h1) (I.e c X E b b' o h2) (I.e c X E d d' o h3)
    · cases h
  | UnaryOp op a p =>
    unfold trE at h
    cases op <;> first
      | (obtain ⟨a', h1, rfl⟩ := map_some h; unfold ev; first | exact eI_neg (I.e c X E a a' o h1) | exact eI_not (I.e c X E a a' o h1))
      | cases h
  | BoolOp op es p =>
    unfold trE at h
    simp only at h
    split at h
    · cases h
    · rename_i a
      exact eI_one (I.e c X E a x o h)
    · rename_i a b r
      obtain ⟨a', h1, h⟩ := bd_some h
      obtain ⟨b', h2, rfl⟩ := map_some h
      cases op with
      | And =>
        simp only
        unfold ev
        exact eI_and (I.e c X E a a' o h1) (I.e c X E _ b' o h2)
      | Or =>
        simp only
        unfold ev
        exact eI_or (I.e c X E a a' o h1) (I.e c X E _ b' o h2)
  | IfExp t a b p =>
    unfold trE at h
    obtain ⟨h0, h⟩ := gd_some h
    obtain ⟨t', h1, h⟩ := bd_some h
    obtain ⟨a', h2, h⟩ := bd_some h
    obtain ⟨b', h3, rfl⟩ := map_some h
    unfold ev
    exact eI_if (I.b n c X E t t' o h0 h1) (I.e c X E a a' o h2) (I.e c X E b b' o h3)
  | Tuple es k p =>
    unfold trE at h
    obtain ⟨xs, h1, rfl⟩ := map_some h
    unfold ev
    exact eI_tup (I.es c X E es xs o h1)
  | List es p =>
    unfold trE at h
    obtain ⟨xs, h1, rfl⟩ := map_some h
    unfold ev
    exact eI_lst _ (I.es c X E es xs o h1)
  | Subscript a b p =>
    unfold trE at h
    simp only at h
    split at h
    · rename_i q hq
      obtain ⟨h0, h⟩ := gd_some h
      obtain ⟨b', h1, rfl⟩ := map_some h
      obtain ⟨y, p2, rfl, g1, g2, g3⟩ := mdOf_ok o hq
      unfold ev
      exact eI_mdi o.fit.toFit0 g3 g1 g2 (plainIx_ok h0) (I.e c X E b b' o h1)
    split at h
    · rename_i lo hi st p2
      split at h
      · obtain ⟨a', h1, h⟩ := bd_some h
        obtain ⟨lo', h2, h⟩ := bd_some h
        obtain ⟨hi', h3, rfl⟩ := map_some h
        unfold ev
        exact eI_sl o.fit _ (I.e c X E a a' o h1) (I.o c X E lo lo' o h2) (I.o c X E hi hi' o h3)
      · split at h
        · obtain ⟨h0, h⟩ := gd_some h
          obtain ⟨a', h1, rfl⟩ := map_some h
          have e := eq_of_beq h0
          subst e
          unfold ev
          exact eI_rev o.fit _ (I.e c X E a a' o h1)
        · cases h
    · obtain ⟨h0, h⟩ := gd_some h
      obtain ⟨a', h1, h⟩ := bd_some h
      obtain ⟨b', h2, rfl⟩ := map_some h
      unfold ev
      exact eI_ix o.fit (plainIx_ok h0) (I.e c X E a a' o h1) (I.e c X E _ b' o h2)
  | Call f args kws p => exact step_call I o h
  | Attribute a f p =>
    unfold trE at h
    obtain ⟨h0, h⟩ := gd_some h
    obtain ⟨a', h1, rfl⟩ := map_some h
    unfold ev
    exact eI_fld o.fit (clsOf_ok o f) (I.e c X E a a' o h1) (plainB_ok h0)
  | ListComp elt gens scope p =>
    obtain ⟨tg, iter, ifs, t, s, q, e', m, rfl, rfl, h1, h2, h3, h4, h5, h6, h7⟩ := step_comp I o h
    unfold ev
    exact eI_lc o.fit h1 h2 h3 h4 h5 h6 h7
  | Dict ks vs p =>
    unfold trE at h
    simp only at h
    split at h
    · split at h
      · cases h
        unfold ev
        exact eI_dnew
      · cases h
    · rename_i k ks
      split at h
      · split at h
        · obtain ⟨k', h1, h⟩ := bd_some h
          obtain ⟨v', h2, rfl⟩ := map_some h
          unfold ev
          exact eI_dispN o.fit (I.e c X E0 _ k' o.e0 h1) (I.e c X E0 _ v' o.e0 h2)
        · cases h
      obtain ⟨h0, h⟩ := gd_some h
      obtain ⟨ps, h1, rfl⟩ := map_some h
      obtain ⟨h2, h3, h4⟩ := I.ps c X E0 p _ vs ps o.e0 h1
      unfold ev
      exact eI_disp h2 h3 h4 (by simp) (of_decide_eq_true h0)
  | _ => unfold trE at h; cases h
theorem step_es (I : TrOk G T n) (c : TC) (X : Cx) (E : XS) (es : List Expr) (xs : Exs) (o : Ok c X G E T) (h : trEs c (n + 1) es = some xs) : PA X es (tIs G E (evs T xs)) := by
  unfold trEs at h
  split at h
  · cases h; unfold evs; exact aI_nil
  · rename_i e es
    obtain ⟨x, h1, h⟩ := bd_some h
    obtain ⟨xs', h2, rfl⟩ := map_some h
    unfold evs
    exact aI_cons (I.e c X E e x o h1) (I.es c X E es xs' o h2) (star_cons (trE_ns h1))
theorem step_ps (I : TrOk G T n) (c : TC) (X : Cx) (E : XS) (pos : Pos) (ks : List (Option Expr)) (vs : List Expr) (xs : Exps) (o : Ok c X G E T) (h : trPs c (n + 1) ks vs = some xs) :
    PPs X pos ks vs ((evp T xs).map fun m => (tI G E m.1, tI G E m.2)) ∧ ks.all (·.isSome) = true ∧ ks.length = vs.length := by
  unfold trPs at h
  split at h
  · cases h; unfold evp; exact ⟨pps_nil, rfl, rfl⟩
  · rename_i k ks v vs
    obtain ⟨k', h1, h⟩ := bd_some h
    obtain ⟨v', h2, h⟩ := bd_some h
    obtain ⟨ps, h3, rfl⟩ := map_some h
    obtain ⟨h4, h5, h6⟩ := I.ps c X E pos ks vs ps o h3
    unfold evp
    exact ⟨pps_cons (I.e c X E k k' o h1) (I.e c X E v v' o h2) h4, by rw [List.all_cons, h5]; rfl, by rw [List.length_cons, List.length_cons, h6]⟩
  · cases h
theorem step_o (I : TrOk G T n) (c : TC) (X : Cx) (E : XS) (e : Option Expr) (x : Ex) (o : Ok c X G E T) (h : trO c (n + 1) e = some x) : PO X e (tIP G E (ev T x)) := by
  unfold trO at h
  split at h
  · cases h; unfold ev; exact oI_none
  · rename_i e
    obtain ⟨a, h1, rfl⟩ := map_some h
    unfold ev
    exact oI_int (I.e c X E e a o h1)
theorem step_w (I : TrOk G T n) (m : Nat) (c : TC) (X : Cx) (E : XS) (op : BoolOp) (es : List Expr) (pos : Pos) (x : Ex) (o : Ok c X G E T) (ht : es.all (tOk m) = true) (h : trE c (n + 1) (.BoolOp op es pos) = some x) :
    PW X (.BoolOp op es pos) (tIB G E (tsM (ev T x))) := by
  unfold trE at h
  simp only at h
  split at h
  · cases h
  · rename_i a
    rw [List.all_cons, Bool.and_eq_true] at ht
    cases op with
    | And => exact wI_and1 (I.b m c X E a x o ht.1 h)
    | Or => exact wI_or1 (I.b m c X E a x o ht.1 h)
  · rename_i a b r
    rw [List.all_cons, Bool.and_eq_true] at ht
    obtain ⟨a', h1, h⟩ := bd_some h
    obtain ⟨b', h2, rfl⟩ := map_some h
    cases op with
    | And =>
      simp only
      unfold ev
      exact wI_and (I.b m c X E a a' o ht.1 h1) (I.w m c X E _ _ pos b' o ht.2 h2)
    | Or =>
      simp only
      unfold ev
      exact wI_or (I.b m c X E a a' o ht.1 h1) (I.w m c X E _ _ pos b' o ht.2 h2)
theorem step_b (I : TrOk G T n) (m : Nat) (c : TC) (X : Cx) (E : XS) (e : Expr) (x : Ex) (o : Ok c X G E T) (ht : tOk m e = true) (h : trE c (n + 1) e = some x) : PT X e (tIB G E (tsM (ev T x))) := by
  cases m with
  | zero => cases ht
  | succ m =>
    cases e with
    | Compare a ops bs p =>
      unfold trE at h
      simp only at h
      split at h
      · rename_i op b
        split at h
        · rename_i q hq
          obtain ⟨a', h1, rfl⟩ := map_some h
          obtain ⟨y, p2, rfl, rfl, g1, g2, g3⟩ := mdC_ok o hq
          unfold ev
          exact bI_mdn o.fit.toFit0 _ g3 g1 g2 (I.e c X E a a' o h1)
        obtain ⟨h0, h⟩ := gd_some h
        obtain ⟨a', h1, h⟩ := bd_some h
        obtain ⟨b', h2, rfl⟩ := map_some h
        unfold ev
        exact bI_cmp o.fit op (not_ok h0) (I.e c X E a a' o h1) (I.e c X E b b' o h2)
      · rename_i o1 o2 b d
        obtain ⟨h0, h⟩ := gd_some h
        obtain ⟨a', h1, h⟩ := bd_some h
        obtain ⟨b', h2, h⟩ := bd_some h
        obtain ⟨d', h3, rfl⟩ := map_some h
        unfold ev
        exact bI_chain o.fit o1 o2 (not_ok h0) (I.e c X E a a' o h1) (I.e c X E b b' o h2) (I.e c X E d d' o h3)
      · cases h
    | UnaryOp op a p =>
      unfold tOk at ht
      unfold trE at h
      cases op <;> first
        | (obtain ⟨a', h1, rfl⟩ := map_some h; unfold ev; exact bI_not (I.b m c X E a a' o ht h1))
        | cases ht
    | BoolOp op es p =>
      unfold tOk at ht
      exact (step_w I m c X E op es p x o ht h).pt
    | Name y p => exact bI_val (step_e I c X E _ x o h) (plainT_ok rfl)
    | Constant k j p => exact bI_val (step_e I c X E _ x o h) (plainT_ok rfl)
    | Subscript a b p => exact bI_val (step_e I c X E _ x o h) (plainT_ok rfl)
    | Attribute a b p => exact bI_val (step_e I c X E _ x o h) (plainT_ok rfl)
    | Call a b d p => exact bI_val (step_e I c X E _ x o h) (plainT_ok rfl)
    | _ => unfold tOk at ht; cases ht
theorem step_q (I : TrOk G T n) (c : TC) (X : Cx) (E : XS) (qs : List Expr) (x : Ex) (o : Ok c X G E T) (h : trQ c (n + 1) qs = some x) : PTs X qs (tIB G E (tsM (ev T x))) := by
  unfold trQ at h
  split at h
  · cases h; unfold ev; exact cI_nil
  · rename_i q
    obtain ⟨h0, h⟩ := gd_some h
    exact cI_one (I.b n c X E q x o h0 h)
  · cases h
theorem step_i (I : TrOk G T n) (c : TC) (X : Cx) (E : XS) (tg e : Expr) (s : Sx) (o : Ok c X G E T) (h : trI c (n + 1) tg e = some s) : PI X tg e (tII G E (evi T s)) := by
  have sq : ∀ {e : Expr} {s : Sx}, (trE c n e).map Sx.seq = some s → PI X tg e (tII G E (evi T s)) := fun {e s} h => by
    obtain ⟨a, h1, rfl⟩ := map_some h
    unfold evi
    exact iI_seq o.fit.hK (I.e c X E e a o h1)
  unfold trI at h
  split at h
  · rename_i f args kws p
    split at h
    · rename_i x q
      split at h
      · rename_i hb
        obtain ⟨e, hg, hm⟩ := bltIs_ok o hb
        subst e
        split at h
        · rename_i a
          obtain ⟨a', h1, rfl⟩ := map_some h
          unfold evi
          exact iI_rng1 hg hm (I.e c X E a a' o h1) (trE_ns h1)
        · rename_i a b
          obtain ⟨a', h1, h⟩ := bd_some h
          obtain ⟨b', h2, rfl⟩ := map_some h
          unfold evi
          exact iI_rng2 hg hm (I.e c X E a a' o h1) (I.e c X E b b' o h2) (trE_ns h1) (trE_ns h2)
        · cases h
      · split at h
        · rename_i hb
          obtain ⟨e, hg, hm⟩ := bltIs_ok o hb
          subst e
          replace h := gd_some h
          obtain ⟨h0, h⟩ := h
          obtain ⟨_, _, _, rfl⟩ := isTup_ok h0
          split at h
          · rename_i a b
            obtain ⟨a', h1, h⟩ := bd_some h
            obtain ⟨b', h2, rfl⟩ := map_some h
            unfold evi
            exact iI_zip o.fit.hK hg hm (I.e c X E a a' o h1) (I.e c X E b b' o h2) (trE_ns h1) (trE_ns h2)
          · cases h
        · split at h
          · rename_i hb
            obtain ⟨e, hg, hm⟩ := bltIs_ok o hb
            subst e
            replace h := gd_some h
            obtain ⟨h0, h⟩ := h
            obtain ⟨_, _, _, rfl⟩ := isTup_ok h0
            split at h
            · rename_i a
              obtain ⟨a', h1, rfl⟩ := map_some h
              unfold evi
              exact iI_enum o.fit.hK hg hm (I.e c X E a a' o h1) (trE_ns h1)
            · cases h
          · exact sq h
    · exact sq h
  · exact sq h
theorem tr_ok : ∀ n : Nat, TrOk G T n
  | 0 => ⟨fun _ _ _ _ _ _ h => (nomatch h), fun _ _ _ _ _ _ h => (nomatch h), fun _ _ _ _ _ _ _ _ h => (nomatch h), fun _ _ _ _ _ _ h => (nomatch h), fun _ _ _ _ _ _ _ _ h => (nomatch h), fun _ _ _ _ _ _ _ _ _ _ h => (nomatch h), fun _ _ _ _ _ _ h => (nomatch h), fun _ _ _ _ _ _ _ h => (nomatch h)⟩
  | n + 1 =>
    let I := tr_ok n
    ⟨step_e I, step_es I, step_ps I, step_o I, step_b I, step_w I, step_q I, step_i I⟩
end
end CI

/-! Exceptions: the suites of except clauses. -/
namespace CI
open PySem PySem.Spec PyProof.Rows L2 HT

/-! ### isinstance of what is held -/
def rIsX (K : PySem.W.Frag) (D a : Addr) (dd : Option Addr) : List V → Hp → VK → Prop := fun xs H Q => ∃ (c : V) (b : Bool), xs = [.ref a, c] ∧ (∀ d, dd = some d → ∃ fs, H d = some (.xd fs)) ∧
  ((∃ cv, ClsV c cv ∧ PySem.W.kitOne K (.ref D) cv = some b) ∨ ∃ tp cs us, c = .ref tp ∧ H tp = some (.tup cs) ∧ Paired ClsV cs us ∧ PySem.W.kitAny K (.ref D) us = some b) ∧ Q (.bl b) H
theorem call_isX {X : Cx} {a D : Addr} {dd : Option Addr} {oe : Obj} {pn : List (Addr × Obj)} (C : ExcC X.K D) (hz : Zc (.ref D) dd oe) (hf : ∃ vs, oe.data = .fields vs) : CallR (X.suite a ((a, oe) :: pn)) (.builtin "isinstance") (rIsX X.K D a dd) := by
  intro pins s σ H xs us Q I r h
  obtain ⟨c, b, rfl, hd, hc, q⟩ := h
  obtain ⟨u1, u2, rfl, r1, r2⟩ := vals2 r
  cases (show u1 = Value.ref a from r1)
  have hget := (I.pin (a, oe) (List.mem_append.mpr (.inl List.mem_cons_self))).1
  obtain ⟨od, J⟩ : ∃ od, PySem.W.InstAt s.heap a oe D od := by
    obtain ⟨vs, hv⟩ := hf
    cases dd with
    | none => exact ⟨none, hget, hz.1, by unfold PySem.W.notCls; rw [hv] <;> rfl, by rw [hz.2]; exact trivial⟩
    | some d =>
      obtain ⟨fs, hH⟩ := hd d rfl
      have hx : ObjOk X.prog X.w H s.heap d (.xd fs) := I.hok d _ hH
      obtain ⟨mA, hns, _⟩ := hx
      obtain ⟨o, ho, _⟩ := lookIn_ns hns
      exact ⟨some o, hget, hz.1, by unfold PySem.W.notCls; rw [hv] <;> rfl, by rw [hz.2]; exact ho⟩
  have cl : (PySem.W.clsIn X.K D).isSome = true := by
    have := C.hd
    unfold PySem.W.hasDictIn at this
    cases e : PySem.W.clsIn X.K D with
    | none => rw [e] at this; cases this
    | some _ => rfl
  have Z : PySem.W.KitX X.K (.ref a) (.ref D) (fun h => PySem.W.InstAt h a oe D od) := PySem.W.kitx_exc cl C.hg C.hk C.hs C.ha C.hn C.ht C.hm
  rcases hc with ⟨cv, k, e⟩ | ⟨tp, cs, ws, rfl, hT, k, e⟩
  · have e2 := k.eq r2
    subst e2
    exact PySem.W.kia_one Z I.kIn J e (fun z => nomatch z) fun tk => ⟨.bl b, H, I.tok tk, rfl, q⟩
  · cases (show u2 = Value.ref tp from r2)
    obtain ⟨_, its, rv, o, h1, h2, n, h3⟩ := (show ObjOk X.prog X.w H s.heap tp (.tup cs) from I.hok tp _ hT)
    have e3 := ClsV.all k rv
    subst e3
    obtain ⟨oc, od2, dt, sl⟩ := o
    simp only at h2 h3
    subst h2 h3
    exact PySem.W.kia_tup Z I.kIn J h1 e (fun z => nomatch z) fun tk => ⟨.bl b, H, I.tok tk, rfl, q⟩

/-! ### what a suite must bear -/
structure Ho (c : TC) (Y : Cx) (G : Gx) (x : Exn) (n : Option (Str × Nat)) : Prop where
  fit : Fit0 Y G E0
  N : Y.N = c.N
  sc : Y.env.scope = c.sc
  fn : Y.fn = c.fn
  cons : ∀ x d, (x, d) ∈ c.cons → ∃ v u, Y.mg x = some u ∧ RelV v u ∧ Rep G.K [] (fun _ => none) v d
  blt : ∀ x ∈ c.blt, Y.mg x = none
  xs : ∀ h cs, (h, cs) ∈ c.xs → ∃ (v : V) (cv : Value), (Y.mg h = some cv ∧ (∃ C, cv = .ref C ∧ v = .ref C) ∨ Y.mg h = none ∧ bootBuiltins h = some cv ∧ h ≠ "__name__" ∧ ∃ B, cv = .type B ∧ v = .ty B) ∧ (h == ("__debug__" : Str)) = false ∧
    ∀ y C, G.xcls y = some C → PySem.W.exmOne Y.K (.ref C) cv = some (cs.contains y) ∧ PySem.W.kitOne Y.K (.ref C) cv = some (cs.contains y)
  isx : ∀ e j, n = some (e, j) → ∃ (a C : Addr) (dd : Option Addr), G.xv = some (j, a) ∧ G.xcls x.cls = some C ∧ CallR Y (.builtin "isinstance") (rIsX Y.K C a dd) ∧ (∀ d, dd = some d → G.hd = some (d, x.fs))
  fld : ∀ e j f p q, n = some (e, j) → (∃ b ∈ c.xo, b.2 = f) → plainName e = true → c.N[j]? = some e → Vis c.sc e → PE Y (.Attribute (.Name e p) f q) (tI G E0 (xfldM (TX x) j f))

section
variable {c : TC} {Y : Cx} {G : Gx} {x : Exn} {n : Option (Str × Nat)}
theorem Ho.gl (o : Ho c Y G x n) {y : Str} (h : globK (c.sc.names.lookup y) = true) : Gl Y y := by
  show Y.env.scope.names.lookup y = some .globalImplicit
  rw [o.sc]; exact globK_ok h
/-- the classes that an isinstance names -/
def clX (c : TC) : Expr → Option (List Str)
  | .Name h _ => gd (globK (c.sc.names.lookup h)) (c.xs.lookup h)
  | _ => none
def clXs (c : TC) : List Expr → Option (List Str)
  | [] => some []
  | e :: es => (clX c e).bind fun a => (clXs c es).map (a ++ ·)
theorem lookup_mem {α : Type} {y : Str} {a : α} : ∀ {l : List (Str × α)}, l.lookup y = some a → (y, a) ∈ l
  | [], h => by cases h
  | (z, b) :: r, h => by
    rw [List.lookup_cons] at h
    cases q : y == z with
    | true =>
      rw [q] at h
      cases h
      rw [eq_of_beq q]
      exact List.mem_cons_self ..
    | false => rw [q] at h; exact List.mem_cons_of_mem _ (lookup_mem h)
theorem clX_ok (o : Ho c Y G x n) {e : Expr} {cs : List Str} (h : clX c e = some cs) : ∃ (v : V) (cv : Value), ClsV v cv ∧ PE Y e (tC v) ∧ noStar e = true ∧ ∀ y C, G.xcls y = some C → PySem.W.kitOne Y.K (.ref C) cv = some (cs.contains y) := by
  cases e with
  | Name hn p =>
    obtain ⟨h0, h1⟩ := gd_some (show gd (globK (c.sc.names.lookup hn)) (c.xs.lookup hn) = some cs from h)
    obtain ⟨v, cv, hv, hdb, k⟩ := o.xs _ _ (lookup_mem h1)
    rcases hv with ⟨hm, C, rfl, rfl⟩ | ⟨hm, hb, hne, B, rfl, rfl⟩
    · exact ⟨_, _, .own C, pe_glob (o.gl h0) hm rfl hdb, rfl, fun y C h => (k y C h).2⟩
    · exact ⟨_, _, .ty B, pe_bltn (o.gl h0) hm hb rfl hne hdb, rfl, fun y C h => (k y C h).2⟩
  | _ => cases h
theorem clXs_ok (o : Ho c Y G x n) : ∀ {es : List Expr} {cs : List Str}, clXs c es = some cs → ∃ (vs : List V) (us : List Value), vs.length = es.length ∧ Paired ClsV vs us ∧ PA Y es (fun _ H Q => Q vs H) ∧ ∀ y C, G.xcls y = some C → PySem.W.kitAny Y.K (.ref C) us = some (cs.contains y)
  | [], cs, h => by
    cases h
    exact ⟨[], [], rfl, .nil, PA.imp pa_nil fun σ H Q h => h, fun y C _ => rfl⟩
  | e :: es, cs, h => by
    unfold clXs at h
    obtain ⟨a, h1, h⟩ := bd_some h
    obtain ⟨b, h2, rfl⟩ := map_some h
    obtain ⟨v, cv, k1, p1, ns, q1⟩ := clX_ok o h1
    obtain ⟨vs, us, hl, k2, p2, q2⟩ := clXs_ok o h2
    refine ⟨v :: vs, cv :: us, by rw [List.length_cons, List.length_cons, hl], .cons k1 k2, PA.imp (pa_cons p1 p2 (star_cons ns)) fun σ H Q h => h, fun y C hy => ?_⟩
    refine kitAny_cons (q1 y C hy) (fun e => ?_) fun e => ?_
    · rw [q2 y C hy]
      simp only [List.contains_eq_mem, List.mem_append, decide_eq_false_iff_not] at e ⊢
      simp [e]
    · simp only [List.contains_eq_mem, List.mem_append, decide_eq_true_eq] at e ⊢
      exact .inl e
def clsX (c : TC) : Expr → Option (List Str)
  | .Tuple es _ _ => gd (decide (es.length ≤ 100)) (clXs c es)
  | e => clX c e
theorem TX_is {x : Exn} {cs : List Str} {S : Store} : TX x 0 [.tup (cs.map .str)] S = .ok (.bl (cs.contains x.cls)) S := by
  unfold TX
  simp only [ret]
  congr 2
  rw [List.any_map, List.contains_eq_any_beq]
  rfl
theorem eI_xis (o : Ho c Y G x n) {e : Str} {j : Nat} {t : Expr} {cs : List Str} {p1 p2 p3 : Pos} (hn : n = some (e, j)) (h0 : plainName e = true) (hj : c.N[j]? = some e) (hv : Vis c.sc e) (hg : Gl Y "isinstance") (hm : Y.mg "isinstance" = none) (h : clsX c t = some cs) :
    PE Y (.Call (.Name "isinstance" p1) [.Name e p2, t] [] p3) (tI G E0 (xisM (TX x) j cs)) := by
  obtain ⟨a, C, dd, hxv, hC, cr, hdd⟩ := o.isx e j hn
  obtain ⟨d1, d2⟩ := plainName_ok h0
  have pv : PE Y (.Name e p2) (tVar j) := pe_var (by rw [o.N]; exact hj) (by rw [o.sc]; exact hv) d1 d2
  have key : ∀ {σ : L2.St} {H : Hp} {Q : VK}, tI G E0 (xisM (TX x) j cs) σ H Q → σ[j]? = some (some (.ref a)) ∧ ∃ S ι F W, HR G ι F W S H ∧ Post G ι F W E0 (RV G Q) (.ok (.bl (cs.contains x.cls)) S) := fun {σ H Q} ⟨ρ, S, ι, F, W, he, h0, po⟩ => by
    unfold xisM xhM at po
    cases q : ρ[j]? with
    | none => rw [q] at po; exact po.elim
    | some o' =>
      rw [q] at po
      cases o' with
      | some _ => exact po.elim
      | none =>
        simp only at po
        rw [TX_is] at po
        exact ⟨he.xv j a hxv q, S, ι, F, W, h0, po⟩
  have held : ∀ {ι : List Addr} {F W : Hp} {S : Store} {H : Hp}, HR G ι F W S H → ∀ d, dd = some d → ∃ fs, H d = some (.xd fs) := fun {ι F W S H} hr d e => by
    obtain ⟨fv, q, _⟩ := hr.held d _ (hdd d e)
    exact ⟨fv, q⟩
  have tup : ∀ {es : List Expr} {k1 p4}, es.length ≤ 100 → clXs c es = some cs → PE Y (.Call (.Name "isinstance" p1) [.Name e p2, .Tuple es k1 p4] [] p3) (tI G E0 (xisM (TX x) j cs)) := fun {es k1 p4} hle h => by
    obtain ⟨vs, us, hl, k, pc, q⟩ := clXs_ok o h
    refine PE.imp (pe_callB cr hg hm (by decide +kernel) (pa_cons pv (pa_cons (pe_tup pc) pa_nil) rfl) (by decide) (by decide) rfl rfl) fun σ H Q hh => ?_
    obtain ⟨e1, S, ι, F, W, h0, po⟩ := key hh
    refine ⟨_, e1, ?_⟩
    refine ⟨by rw [hl, sizeLine_eq]; omega, fun tp hp => ?_⟩
    obtain ⟨h2, l2⟩ := h0.keep hp (.tup vs)
    exact ⟨_, _, rfl, held h2, .inr ⟨tp, vs, us, rfl, upd_same, k, q _ _ hC⟩, (po.le l2).now h2 _ (.bl _)⟩
  have one : ∀ {t : Expr}, clX c t = some cs → PE Y (.Call (.Name "isinstance" p1) [.Name e p2, t] [] p3) (tI G E0 (xisM (TX x) j cs)) := fun {t} h => by
    obtain ⟨v, cv, k, pc, ns, q⟩ := clX_ok o h
    refine PE.imp (pe_callB cr hg hm (by decide +kernel) (pa_cons pv (pa_cons pc pa_nil (star_cons ns)) rfl) (by decide) (by decide) rfl (star_any (by rw [List.all_cons, ns]; rfl))) fun σ H Q hh => ?_
    obtain ⟨e1, S, ι, F, W, h0, po⟩ := key hh
    exact ⟨_, e1, _, _, rfl, held h0, .inl ⟨cv, k, q _ _ hC⟩, po.now h0 _ (.bl _)⟩
  cases t with
  | Tuple es k1 p4 =>
    obtain ⟨h1, h2⟩ := gd_some (show gd (decide (es.length ≤ 100)) (clXs c es) = some cs from h)
    exact tup (of_decide_eq_true h1) h2
  | _ => exact one h

/-! ### the suite's code -/
def isSl : Expr → Bool
  | .Slice .. => true | _ => false
def isE (n : Option (Str × Nat)) (y : Str) : Option Nat := match n with
  | some (e, j) => if e == y then some j else none
  | none => none
theorem isE_ok {n : Option (Str × Nat)} {y : Str} {j : Nat} (h : isE n y = some j) : n = some (y, j) := by
  unfold isE at h
  split at h
  · split at h
    · rename_i q; cases h; rw [eq_of_beq q]
    · cases h
  · cases h
def hotB (b : Bi) : Bool := !b.calm
/-- a name that stands for something in this context -/
def trHN (c : TC) (n : Option (Str × Nat)) (y : Str) : Option Ex := gd ((isE n y).isNone) (trName c y)
mutual
def trHE (c : TC) (n : Option (Str × Nat)) : Nat → Expr → Option Ex
  | 0, _ => none
  | k + 1, e => match e with
    | .Name y _ => trHN c n y
    | .Constant u _ _ => (match u with
      | .int i => some (.con (.int i))
      | .bool b => some (.con (.bl b))
      | .none => some (.con .non)
      | .str x => some (.con (.str x))
      | _ => none)
    | .BinOp a op b p => (trHE c n k a).bind fun a' => (trHE c n k b).map fun b' => .bin (c.isMut p) op a' b'
    | .Compare a ops bs _ => (match ops, bs with
      | [op], [b] => gd (!behindInMarks op b) ((trHE c n k a).bind fun a' => (trHE c n k b).map fun b' => .cmp op a' b')
      | _, _ => none)
    | .UnaryOp op a _ => (match op with
      | .Not => (trHE c n k a).map .not
      | _ => none)
    | .BoolOp op es p => (match es with
      | [a] => trHE c n k a
      | a :: b :: r => (trHE c n k a).bind fun a' => (trHE c n k (.BoolOp op (b :: r) p)).map fun b' => match op with | .And => .and a' b' | .Or => .or a' b'
      | [] => none)
    | .Tuple es _ _ => (trHEs c n k es).map .tup
    | .List es p => (trHEs c n k es).map (.lst (c.isMut p))
    | .Subscript a b _ => gd (plainIx b && !isSl b) ((trHE c n k a).bind fun a' => (trHE c n k b).map fun b' => .ix a' b')
    | .Call f args kws p => (match f, args, kws with
      | .Name y _, [.Name z _, t], [] => gd (bltIs c y "isinstance" && (plainName z && visK (c.sc.names.lookup z))) ((isE n z).bind fun j => gd (slotAt c.N z == some j) ((clsX c t).map (.xis j)))
      | .Name y _, [a], [] => (bltOf c y).bind fun b => gd (hotB b) ((trHEs c n k [a]).map (.bi (c.isMut p) b))
      | .Attribute o name apos, [a], [] => gd (plainB o && apos.endLine == p.line) (match meOf (c.isMut p) name with
        | some .append => (trHE c n k o).bind fun o' => (trHEs c n k [a]).map (.meth .append o')
        | _ => none)
      | _, _, _ => none)
    | .Attribute (.Name z _) f _ => gd (plainName z && (visK (c.sc.names.lookup z) && c.xo.any fun b => b.2 == f)) ((isE n z).bind fun j => gd (slotAt c.N z == some j) (some (.xfld j f)))
    | _ => none
def trHEs (c : TC) (n : Option (Str × Nat)) : Nat → List Expr → Option Exs
  | 0, _ => none
  | k + 1, es => match es with
    | [] => some .nil
    | e :: es => (trHE c n k e).bind fun e' => (trHEs c n k es).map (.cons e')
end

theorem Ho.bltIs (o : Ho c Y G x n) {y nm : Str} (h : bltIs c y nm = true) : y = nm ∧ Gl Y nm ∧ Y.mg nm = none := by
  unfold CI.bltIs at h
  obtain ⟨h1, h2⟩ := and_ok h
  obtain ⟨h1, h3⟩ := and_ok h1
  have e := eq_of_beq h1
  subst e
  exact ⟨rfl, o.gl h3, o.blt _ (List.contains_iff_mem.mp h2)⟩
theorem trHN_ok (o : Ho c Y G x n) {y : Str} {p : Pos} {e : Ex} (h : trHN c n y = some e) : PE Y (.Name y p) (tI G E0 (ev (TX x) e)) := by
  unfold trHN trName at h
  obtain ⟨_, h⟩ := gd_some h
  obtain ⟨h0, h⟩ := gd_some h
  obtain ⟨d1, d2⟩ := plainName_ok h0
  have var : ∀ {i : Nat}, slotAt c.N y = some i → Vis c.sc y → PE Y (.Name y p) (tI G E0 (ev (TX x) (.var i))) := fun {i} hi hv => by
    unfold ev
    exact eI_var (by rw [o.N]; exact slotAt_ok hi) (by rw [o.sc]; exact hv) d1 d2
  split at h
  · rename_i k; obtain ⟨i, h1, rfl⟩ := map_some h; exact var h1 (.inl k)
  · rename_i k; obtain ⟨i, h1, rfl⟩ := map_some h; exact var h1 (.inr (.inl k))
  · rename_i k; obtain ⟨i, h1, rfl⟩ := map_some h; exact var h1 (.inr (.inr k))
  · rename_i k
    obtain ⟨q, h1, rfl⟩ := map_some h
    obtain ⟨z, d⟩ := q
    have e1 : z = y := eq_of_beq (List.find?_some (p := fun q : Str × D => q.1 == y) h1)
    subst e1
    obtain ⟨v, u, hm, r, rd⟩ := o.cons z d (List.mem_of_find?_eq_some h1)
    unfold ev
    exact eI_glob (o.gl (by rw [k]; rfl)) hm r rd d1
  · cases h
theorem trHE_ns {k : Nat} {e : Expr} {x' : Ex} (h : trHE c n k e = some x') : noStar e = true := by
  cases k with
  | zero => cases h
  | succ k => cases e <;> first | rfl | (unfold trHE at h; cases h)
theorem trHEs_nil {T : TabT} {k : Nat} {es : List Expr} {xs : Exs} (h : trHEs c n k es = some xs) (e : es = []) : evs T xs = nilM := by
  subst e
  cases k with
  | zero => cases h
  | succ n => unfold trHEs at h; cases h; unfold evs; rfl
theorem trH_all (o : Ho c Y G x n) : ∀ k : Nat, (∀ e x', trHE c n k e = some x' → PE Y e (tI G E0 (ev (TX x) x'))) ∧ (∀ es xs, trHEs c n k es = some xs → PA Y es (tIs G E0 (evs (TX x) xs)) ∧ es.all noStar = true)
  | 0 => ⟨fun _ _ h => (nomatch h), fun _ _ h => (nomatch h)⟩
  | k + 1 => by
    obtain ⟨i1, i2⟩ := trH_all o k
    refine ⟨fun e x' h => ?_, fun es xs h => ?_⟩
    · unfold trHE at h
      split at h
      · exact trHN_ok o h
      · split at h <;> first
          | (cases h; unfold ev; first | exact eI_int | exact eI_bl | exact eI_non | exact eI_str)
          | cases h
      · rename_i a op b p
        obtain ⟨a', h1, h⟩ := bd_some h
        obtain ⟨b', h2, rfl⟩ := map_some h
        unfold ev
        exact eI_bin o.fit _ op (i1 _ _ h1) (i1 _ _ h2)
      · split at h
        · rename_i op b
          obtain ⟨h0, h⟩ := gd_some h
          obtain ⟨a', h1, h⟩ := bd_some h
          obtain ⟨b', h2, rfl⟩ := map_some h
          unfold ev
          exact eI_cmp o.fit op (not_ok h0) (i1 _ _ h1) (i1 _ _ h2)
        · cases h
      · split at h
        · obtain ⟨a', h1, rfl⟩ := map_some h
          unfold ev
          exact eI_not (i1 _ _ h1)
        · cases h
      · split at h
        · exact eI_one (i1 _ _ h)
        · rename_i op p a b r
          obtain ⟨a', h1, h⟩ := bd_some h
          obtain ⟨b', h2, rfl⟩ := map_some h
          split
          · unfold ev
            exact eI_and (i1 _ _ h1) (i1 _ _ h2)
          · unfold ev
            exact eI_or (i1 _ _ h1) (i1 _ _ h2)
        · cases h
      · obtain ⟨xs, h1, rfl⟩ := map_some h
        unfold ev
        exact eI_tup (i2 _ _ h1).1
      · obtain ⟨xs, h1, rfl⟩ := map_some h
        unfold ev
        exact eI_lst _ (i2 _ _ h1).1
      · obtain ⟨h0, h⟩ := gd_some h
        obtain ⟨h0, _⟩ := and_ok h0
        obtain ⟨a', h1, h⟩ := bd_some h
        obtain ⟨b', h2, rfl⟩ := map_some h
        unfold ev
        exact eI_ix o.fit (plainIx_ok h0) (i1 _ _ h1) (i1 _ _ h2)
      · split at h
        · rename_i y p1 z p2 t
          obtain ⟨h0, h⟩ := gd_some h
          obtain ⟨h0, h3⟩ := and_ok h0
          obtain ⟨h3, h4⟩ := and_ok h3
          obtain ⟨j, h1, h⟩ := bd_some h
          obtain ⟨h2, h⟩ := gd_some h
          obtain ⟨cs, h5, rfl⟩ := map_some h
          obtain ⟨e1, g1, m1⟩ := o.bltIs h0
          subst e1
          have e2 := eq_of_beq h2
          unfold ev
          exact eI_xis o (isE_ok h1) h3 (slotAt_ok e2) (visK_ok h4) g1 m1 h5
        · rename_i y p1 a
          obtain ⟨b, h1, h⟩ := bd_some h
          obtain ⟨h2, h⟩ := gd_some h
          obtain ⟨xs, h3, rfl⟩ := map_some h
          unfold bltOf at h1
          obtain ⟨g0, h1⟩ := gd_some h1
          obtain ⟨g1, g2⟩ := and_ok g0
          have e := biOf_ok h1
          subst e
          obtain ⟨q1, q2⟩ := i2 _ _ h3
          unfold ev
          exact eI_bi o.fit _ b (fun z => by unfold hotB at h2; rw [z] at h2; cases h2) (o.gl g1) (o.blt _ (List.contains_iff_mem.mp g2)) q1 q2
        · rename_i ob name apos a
          obtain ⟨h0, h⟩ := gd_some h
          obtain ⟨h0, h3⟩ := and_ok h0
          split at h
          · rename_i h1
            obtain ⟨o', h2, h⟩ := bd_some h
            obtain ⟨xs, h5, rfl⟩ := map_some h
            have e := meOf_ok h1
            subst e
            obtain ⟨id, pa, slot, hty, hm⟩ := mt_me (G := G) (E := E0) o.fit.hK o.fit.room .append
            obtain ⟨q1, q2⟩ := i2 _ _ h5
            unfold ev
            exact eI_meth o.fit pa slot hty hm (i1 _ _ h2) q1 q2 (fun z => nomatch z) (plainB_ok h0) h3 (by show 1 < 30; decide)
          · cases h
        · cases h
      · rename_i z p f q
        obtain ⟨h0, h⟩ := gd_some h
        obtain ⟨h0, h3⟩ := and_ok h0
        obtain ⟨h3, h4⟩ := and_ok h3
        obtain ⟨j, h1, h⟩ := bd_some h
        obtain ⟨h2, h⟩ := gd_some h
        cases h
        obtain ⟨b, hb, hbf⟩ := List.any_eq_true.mp h4
        have e2 := eq_of_beq h2
        unfold ev
        exact o.fld z j f p q (isE_ok h1) ⟨b, hb, eq_of_beq hbf⟩ h0 (slotAt_ok e2) (visK_ok h3)
      · cases h
    · unfold trHEs at h
      split at h
      · cases h
        unfold evs
        exact ⟨aI_nil, rfl⟩
      · rename_i e es
        obtain ⟨e', h1, h⟩ := bd_some h
        obtain ⟨xs', h2, rfl⟩ := map_some h
        obtain ⟨q1, q2⟩ := i2 _ _ h2
        have ns := trHE_ns h1
        unfold evs
        exact ⟨aI_cons (i1 _ _ h1) q1 (star_cons ns), by rw [List.all_cons, ns, q2]; rfl⟩
/-! statements -/
mutual
def trHS (c : TC) (n : Option (Str × Nat)) : Nat → Stmt → Option Stm
  | 0, _ => none
  | k + 1, st => match st with
    | .Pass _ => some .pass
    | .Expr e _ => gd (!isComp e) ((trHE c n k e).map .expr)
    | .Return (some e) _ => (trHE c n k e).map .ret
    | .Return none _ => some (.ret (.con .non))
    | .Assign [.Name y _] e _ => gd (stoK c y && (isE n y).isNone && !isComp e) ((slotAt c.N y).bind fun i => (trHE c n k e).map fun e' => .asg (.n i) e')
    | .If q a b _ => gd (plainT q) ((trHE c n k q).bind fun q' => (trHSs c n k a).bind fun a' => (trHSs c n k b).map fun b' => .ite q' a' b')
    | _ => none
def trHSs (c : TC) (n : Option (Str × Nat)) : Nat → List Stmt → Option Stms
  | 0, _ => none
  | k + 1, ss => match ss with
    | [] => some .nil
    | s :: ss => (trHS c n k s).bind fun s' => (trHSs c n k ss).map (.cons s')
end
theorem trHS_all (o : Ho c Y G x n) : ∀ k : Nat, (∀ st s, trHS c n k st = some s → PS Y st (tSI G E0 (exS (TX x) s))) ∧ (∀ ss xs, trHSs c n k ss = some xs → PSs Y ss (tSI G E0 (exSs (TX x) xs)))
  | 0 => ⟨fun _ _ h => (nomatch h), fun _ _ h => (nomatch h)⟩
  | k + 1 => by
    obtain ⟨i1, i2⟩ := trHS_all o k
    have te : ∀ {e : Expr} {x' : Ex}, trHE c n k e = some x' → PE Y e (tI G E0 (ev (TX x) x')) := fun {e x'} h => (trH_all o k).1 e x' h
    refine ⟨fun st s h => ?_, fun ss xs h => ?_⟩
    · unfold trHS at h
      split at h
      · cases h; unfold exS; exact sI_pass
      · obtain ⟨h0, h⟩ := gd_some h
        obtain ⟨e', h1, rfl⟩ := map_some h
        unfold exS
        exact sI_expr (te h1) (isComp_ok (not_ok h0))
      · obtain ⟨e', h1, rfl⟩ := map_some h
        unfold exS
        exact sI_ret (te h1)
      · cases h; unfold exS ev; exact sI_retN
      · rename_i y py e p
        obtain ⟨h0, h⟩ := gd_some h
        obtain ⟨h0, h3⟩ := and_ok h0
        obtain ⟨h0, _⟩ := and_ok h0
        obtain ⟨i, h1, h⟩ := bd_some h
        obtain ⟨e', h2, rfl⟩ := map_some h
        obtain ⟨k1, k2⟩ := stoK_ok h0
        unfold exS
        exact sI_set o.fit.nd (by rw [o.N]; exact slotAt_ok h1) (by rw [o.sc]; exact k1) (te h2) (isComp_ok (not_ok h3)) (by rw [o.fn, o.sc]; exact k2)
      · rename_i q a b p
        obtain ⟨h0, h⟩ := gd_some h
        obtain ⟨q', h1, h⟩ := bd_some h
        obtain ⟨a', h2, h⟩ := bd_some h
        obtain ⟨b', h3, rfl⟩ := map_some h
        unfold exS
        exact sI_if (bI_val (te h1) (plainT_ok h0)) (i2 a a' h2) (i2 b b' h3)
      · cases h
    · unfold trHSs at h
      split at h
      · cases h; unfold exSs; exact sI_nil
      · rename_i s ss
        obtain ⟨s', h1, h⟩ := bd_some h
        obtain ⟨xs', h2, rfl⟩ := map_some h
        unfold exSs
        exact sI_cons (i1 s s' h1) (i2 ss xs' h2)
end

/-! ### from the context around into the suite -/
/-- the context of a suite: the exception's fields, the name that holds it -/
abbrev Gx.hot (G : Gx) (h : Option (Addr × List (Str × D))) (v : Option (Nat × Addr)) : Gx := { G with hd := h, xv := v }
section
variable {G : Gx} {h : Option (Addr × List (Str × D))} {v : Option (Nat × Addr)} {ι : List Addr} {F W H : Hp} {S : Store}
theorem RepO.hot {a : Addr} {o : Ob} (r : RepO G ι F H a o) : RepO (G.hot h v) ι F H a o := by
  cases r with
  | lst e r z => exact .lst e r z
  | dct e r z => exact .dct e r z
  | ins e c r z => exact .ins e c r z
  | dcn e c q x n s r z => exact .dcn e c q x n s r z
theorem RepO.cold {a : Addr} {o : Ob} (r : RepO (G.hot h v) ι F H a o) : RepO G ι F H a o := by
  cases r with
  | lst e r z => exact .lst e r z
  | dct e r z => exact .dct e r z
  | ins e c r z => exact .ins e c r z
  | dcn e c q x n s r z => exact .dcn e c q x n s r z
theorem HR.hot (r : HR G ι F W S H) (q : Held (G.hot h v) ι F W H) : HR (G.hot h v) ι F W S H := ⟨r.sub, r.len, r.nd, r.sep, r.aside, fun n a ob e1 e2 => (r.obs n a ob e1 e2).hot, q⟩
theorem HR.cold (hg : G.hd = none) (r : HR (G.hot h v) ι F W S H) : HR G ι F W S H := ⟨r.sub, r.len, r.nd, r.sep, r.aside, fun n a ob e1 e2 => (r.obs n a ob e1 e2).cold, fun d fs e => by rw [hg] at e; cases e⟩
theorem EnvR.hot0 {ρ : DEnv} {σ : L2.St} (r : EnvR G ι F ρ σ) : EnvR (G.hot h none) ι F ρ σ := ⟨r.len, r.at_, fun i a e => nomatch e⟩
theorem EnvR.cold0 (hg : G.xv = none) {ρ : DEnv} {σ : L2.St} (r : EnvR (G.hot h none) ι F ρ σ) : EnvR G ι F ρ σ := ⟨r.len, r.at_, fun i a e => by rw [hg] at e; cases e⟩
theorem EnvR.hotN {i : Nat} {a : Addr} {ρ : DEnv} {σ : L2.St} (r : EnvR G ι F ρ σ) : EnvR (G.hot h (some (i, a))) ι F (ρ.set i none) (σ.set i (some (.ref a))) := by
  refine ⟨by simp [r.len], fun j d e => ?_, fun j b e q => ?_⟩
  · by_cases hj : i = j
    · subst hj
      by_cases hi : i < ρ.length
      · rw [List.getElem?_set_self hi] at e; cases e
      · rw [List.getElem?_eq_none (by simpa using hi)] at e; cases e
    · rw [List.getElem?_set_ne hj] at e
      rw [List.getElem?_set_ne hj]
      exact r.at_ j d e
  · cases e
    by_cases hi : i < ρ.length
    · exact List.getElem?_set_self (r.len ▸ hi)
    · rw [List.getElem?_eq_none (by simpa using hi)] at q; cases q
theorem EnvR.coldN (hg : G.xv = none) {i : Nat} {v : Option (Nat × Addr)} {ρ : DEnv} {σ : L2.St} (r : EnvR (G.hot h v) ι F ρ σ) : EnvR G ι F (ρ.set i none) (σ.set i none) := by
  refine ⟨by simp [r.len], fun j d e => ?_, fun j b e q => (by rw [hg] at e; cases e)⟩
  by_cases hj : i = j
  · subst hj
    by_cases hi : i < ρ.length
    · rw [List.getElem?_set_self hi] at e; cases e
    · rw [List.getElem?_eq_none (by simpa using hi)] at e; cases e
  · rw [List.getElem?_set_ne hj] at e
    rw [List.getElem?_set_ne hj]
    exact r.at_ j d e
def goneD (i : Option Nat) (D : Ends) : Ends := match i with
  | none => D
  | some i => { nx := fun σ' H' => D.nx (σ'.set i none) H', rt := D.rt, bk := fun σ' H' => D.bk (σ'.set i none) H', ct := fun σ' H' => D.ct (σ'.set i none) H' }
theorem Post.suite {E : XS} {D : Ends} (hh : G.hd = none) (hx : G.xv = none) {i : Option Nat} {m : M Fl} (hv : i = none → v = none) (po : Post G ι F W E (RF G D) (CI.noExc (CI.bnd m (goneF i)) S)) : Post (G.hot h v) ι F W E0 (RF (G.hot h v) (goneD i D)) (m S) := by
  unfold CI.noExc CI.bnd at po
  cases e : m S with
  | bad => rw [e] at po; exact po.elim
  | exc x S' => rw [e] at po; exact po.elim
  | ok fl S' =>
    rw [e] at po
    intro ι' F' H' l hr
    have hr' := hr.cold hh
    cases fl with
    | rt d =>
      have q : (RF G D) ι' F' S' H' (.rt d) := po ι' F' H' l hr'
      cases i with
      | none => exact q
      | some i => exact q
    | nx ρ =>
      have q : (RF G D) ι' F' S' H' (.nx (unO i ρ)) := po ι' F' H' l hr'
      cases i with
      | none => cases hv rfl; exact fun σ e => q σ (e.cold0 hx)
      | some i => exact fun σ e => q _ (e.coldN hx)
    | bk ρ =>
      have q : (RF G D) ι' F' S' H' (.bk (unO i ρ)) := po ι' F' H' l hr'
      cases i with
      | none => cases hv rfl; exact fun σ e => q σ (e.cold0 hx)
      | some i => exact fun σ e => q _ (e.coldN hx)
    | ct ρ =>
      have q : (RF G D) ι' F' S' H' (.ct (unO i ρ)) := po ι' F' H' l hr'
      cases i with
      | none => cases hv rfl; exact fun σ e => q σ (e.cold0 hx)
      | some i => exact fun σ e => q _ (e.coldN hx)
end

/-! ### the suite's context -/
section
variable {c : TC} {X : Cx} {G : Gx} {E : XS} {T : TabT}
theorem ho_of (o : Ok c X G E T) {x : Exn} {a C : Addr} {dd : Option Addr} {oe : Obj} {pn : List (Addr × Obj)} (hC : G.xcls x.cls = some C) (hz : Zc (.ref C) dd oe) (hf : ∃ vs, oe.data = .fields vs) (hn : dd = none → x.fs = []) (n : Option (Str × Nat)) :
    Ho c (X.suite a ((a, oe) :: pn)) (G.hot (dd.map fun d => (d, x.fs)) (n.map fun q => (q.2, a))) x n where
  fit := ⟨o.fit.hK, o.fit.mg, o.fit.nd, o.fit.room, o.fit.w⟩
  N := o.N
  sc := o.sc
  fn := o.fn
  cons := o.cons
  blt := o.blt
  xs := o.xs
  isx := fun e j hn => by
    subst hn
    exact ⟨a, C, dd, rfl, hC, call_isX (o.xc _ C hC).1 hz hf, fun d e => by rw [e]; rfl⟩
  fld := fun e j f p q hn hb h0 hj hv => by
    subst hn
    obtain ⟨b, hb1, hb2⟩ := hb
    obtain ⟨d1, d2⟩ := plainName_ok h0
    have xf := o.xc _ C hC
    have no := o.xo b hb1 _ C hC
    rw [hb2] at no
    have pv : PE (X.suite a ((a, oe) :: pn)) (.Name e p) (tVar j) := pe_var (by rw [show (X.suite a ((a, oe) :: pn)).N = X.N from rfl, o.N]; exact hj) (by show Vis X.env.scope e; rw [o.sc]; exact hv) d1 d2
    refine PE.imp (pe_xf xf.2.1 no hz hf pv rfl) fun σ H Q ⟨ρ, S, ι, F, W, he, h0, po⟩ => ?_
    unfold xfldM xhM at po
    cases q : ρ[j]? with
    | none => rw [q] at po; exact po.elim
    | some o' =>
      rw [q] at po
      cases o' with
      | some _ => exact po.elim
      | none =>
        simp only at po
        obtain ⟨dv, hl, po⟩ := Post.look (f := fun _ => x.fs.lookup f) h0 po
        have e1 := he.xv j a rfl q
        refine ⟨_, e1, rfl, rfl, ?_⟩
        cases dd with
        | none => rw [hn rfl] at hl; cases hl
        | some d =>
          obtain ⟨fv, q1, q2, _⟩ := h0.held d x.fs rfl
          obtain ⟨v, q3, q4⟩ := q2.lookup hl
          exact ⟨d, fv, v, rfl, q1, q3, po v q4⟩

/-! ### raise -/
def rsOf (e : Expr) : Option (Str × Option Expr) := match e with
  | .Call (.Name y _) [.Constant (.str _) _ _] [] _ => some (y, none)
  | _ => none
theorem sI_raise (o : Ok c X G E T) (tk : Takes X (fun cls d σ H => E σ cls d H)) {y m : Str} {j : Nat} {p p2 pos pos2 : Pos} (hg : globK (c.sc.names.lookup y) = true) (hy : y ∈ c.xr) :
    PS X (.Raise (some (.Call (.Name y p) [.Constant (.str m) j p2] [] pos)) none pos2) (tSI G E (raiseM y)) := by
  obtain ⟨C, hC, hx, hm, hdb⟩ := o.xr y hy
  obtain ⟨_, _, r1, r2, r3⟩ := o.xc y C hC
  refine PS.imp (ps_raise o.fit.calm tk (pmk_own F.excBase_ValueError hx hm r3 (raises_own r1 r2) (by show X.env.scope.names.lookup y = some .globalImplicit; rw [o.sc]; exact globK_ok hg) hdb)) fun D σ H ⟨ρ, S, ι, F, W, he, h0, po⟩ => ?_
  exact po σ (.ref C) none ι F H he (Le.refl _ _) h0 ⟨C, hC, rfl, rfl⟩

/-! ### try -/
def tsOf (G : Gx) (n : Option (Str × Nat)) (b : Stms) (a : Addr) (cls : Value) (d : Option Addr) : TS := fun D σ H => ∃ (x : Exn) (C : Addr), G.xcls x.cls = some C ∧ cls = .ref C ∧ (d = none → x.fs = []) ∧
  tSI (G.hot (d.map fun d => (d, x.fs)) (n.map fun q => (q.2, a))) E0 (exSs (TX x) b) D σ H
theorem ts_ok (o : Ok c X G E T) {n : Option (Str × Nat)} {k : Nat} {ss : List Stmt} {b : Stms} (hb : trHSs c n k ss = some b) {a : Addr} {oe : Obj} {cls : Value} {d : Option Addr} {pn : List (Addr × Obj)} (hz : Zc cls d oe) (hf : ∃ vs, oe.data = .fields vs) :
    PSs (X.suite a ((a, oe) :: pn)) ss (tsOf G n b a cls d) := ⟨fun pins s σ H D I ⟨x, C, hC, e, hn, h⟩ => by
  subst e
  exact ((trHS_all (ho_of o hC hz hf hn n) k).2 _ _ hb).run pins s σ H D I h⟩
/-- the clauses' code and what they wish -/
inductive HdR (c : TC) (X : Cx) (G : Gx) : Hds → List (Value × (Addr → Value → Option Addr → TS)) → Prop
  | nil : HdR c X G .nil []
  | cons {cs : List Str} {cv : Value} {b : Stms} {r : Hds} {l : List (Value × (Addr → Value → Option Addr → TS))} (h : ∀ y C, G.xcls y = some C → PySem.W.exmOne X.K (.ref C) cv = some (cs.contains y)) (t : HdR c X G r l) : HdR c X G (.cons cs none b r) ((cv, tsOf G none b) :: l)
theorem suite_read {D : Ends} {n : Option (Str × Nat)} {b : Stms} {x : Exn} {C a : Addr} {cls : Value} {d : Option Addr} {σ : L2.St} {ι : List Addr} {F W H : Hp} {S : Store} (hh : G.hd = none) (hx : G.xv = none) (he : EnvR G ι F x.env σ) (hr : HR G ι F W S H) (xr : XR G ι F W x cls d H)
    (po : Post G ι F W E (RF G D) (CI.noExc (CI.bnd (exSs (TX x) b (unO (n.map (·.2)) x.env)) (goneF (n.map (·.2)))) S)) : tsOf G n b a cls d (goneD (n.map (·.2)) D) (match n with | none => σ | some q => σ.set q.2 (some (.ref a))) H := by
  obtain ⟨C, hC, hc, hd⟩ := xr
  have hh2 : HR (G.hot (d.map fun d => (d, x.fs)) (n.map fun q => (q.2, a))) ι F W S H := hr.hot fun d' fs' e => by
    cases d with
    | none => cases e
    | some d => cases e; exact hd
  refine ⟨x, C, hC, hc, fun z => by subst z; exact hd, ?_⟩
  cases n with
  | none => exact ⟨x.env, S, ι, F, W, he.hot0, hh2, Post.suite hh hx (fun _ => rfl) po⟩
  | some q => exact ⟨x.env.set q.2 none, S, ι, F, W, he.hotN, hh2, Post.suite hh hx (fun z => nomatch z) po⟩
theorem hd_read {D : Ends} (hK : X.K = G.K) (hh : G.hd = none) (hx : G.xv = none) {h : Hds} {l : List (Value × (Addr → Value → Option Addr → TS))} (hl : HdR c X G h l) : ∀ {x : Exn} {cls : Value} {d : Option Addr} {σ : L2.St} {ι : List Addr} {F W H : Hp} {S : Store},
    EnvR G ι F x.env σ → HR G ι F W S H → XR G ι F W x cls d H → Post G ι F W E (RF G D) (exHs h x S) → wMany X.K (fun cls d σ H => E σ cls d H) D l cls d σ H := by
  induction hl with
  | nil =>
    intro x cls d σ ι F W H S he hr xr po
    unfold exHs at po
    exact po σ cls d ι F H he (Le.refl _ _) hr xr
  | @cons cs cv b r l hc t ih =>
    intro x cls d σ ι F W H S he hr xr po
    unfold exHs hdM at po
    have xr' := xr
    obtain ⟨C, hC, rfl, hd⟩ := xr
    refine ⟨_, hc _ _ hC, fun z a _ => ?_, fun z => ?_⟩
    · rw [if_pos z] at po
      exact suite_read (n := none) (C := C) hh hx he hr xr' po
    · rw [if_neg (by rw [z]; exact Bool.false_ne_true)] at po
      exact ih he hr xr' po
theorem try_read {D : Ends} {b : DEnv → M Fl} {h : Exn → M Fl} {W' : WX} {σ : L2.St} {H : Hp} (t : tSI G E (tryM b h) D σ H)
    (k : ∀ {x : Exn} {cls : Value} {d : Option Addr} {σ : L2.St} {ι : List Addr} {F W H : Hp} {S : Store}, EnvR G ι F x.env σ → HR G ι F W S H → XR G ι F W x cls d H → Post G ι F W E (RF G D) (h x S) → W' cls d σ H) :
    tSI G (fun σ cls d H => W' cls d σ H) b D σ H := by
  obtain ⟨ρ, S, ι, F, W, he, h0, po⟩ := t
  refine ⟨ρ, S, ι, F, W, he, h0, ?_⟩
  unfold tryM at po
  cases e : b ρ S with
  | ok fl S' => rw [e] at po; exact po
  | exc x S' => rw [e] at po; exact fun σ' cls d ι' F' H' he' l hr xr => k he' hr xr (po.le l)
  | bad => rw [e] at po; exact po
end
end CI

/-! Statements and defs: the translation and its rightness. -/
namespace CI
open PySem PySem.Spec PyProof.Rows L2 HT

def isTupE : Expr → Bool
  | .Tuple .. => true | _ => false
def isFun (sc : Scope) : Bool := match sc.kind with
  | .function => true | _ => false
theorem isFun_ok {sc : Scope} (h : isFun sc = true) : sc.kind = .function := by
  unfold isFun at h
  split at h
  · assumption
  · cases h
def isStr : Expr → Bool
  | .Constant (.str _) _ _ => true | _ => false
theorem isStr_ok {e : Expr} (h : isStr e = true) : ∃ x j p, e = .Constant (.str x) j p := by
  cases e with
  | Constant k j p => cases k <;> first | exact ⟨_, _, _, rfl⟩ | cases h
  | _ => cases h
theorem sole_tup {es : List Expr} {k : Nat} {p : Pos} {e : Expr} {l : Nat} {env : Env} : swapsWithSole [.Tuple es k p] e l env = pure false := by cases e <;> rfl
theorem sole_sub {o i : Expr} {p : Pos} {e : Expr} {l : Nat} {env : Env} : swapsWithSole [.Subscript o i p] e l env = pure false := by cases e <;> rfl
theorem sw_sub {o i : Expr} {p : Pos} {e : Expr} {env : Env} : swappedStores [.Subscript o i p] e env = pure none := by cases e <;> rfl
theorem sw_tup {es : List Expr} {k : Nat} {p : Pos} {e : Expr} {env : Env} (h : isTupE e = false) : swappedStores [.Tuple es k p] e env = pure none := by
  cases e <;> first
    | rfl
    | cases h
theorem asg_sub {o i : Expr} {p : Pos} {env : Env} (h : plainIx i = true) : ∀ v, assign (.Subscript o i p) env v = (do
      let ov ← holding [v] (eval o env)
      let iv ← holding [v, ov] (eval i env)
      standAt p
      holding [v, ov, iv] (setItem ov iv v)
      release [v, ov, iv] []) := by
  cases i <;> first
    | exact fun _ => rfl
    | cases h
theorem sw_att {o : Expr} {f : Str} {p : Pos} {e : Expr} {l : Nat} {env : Env} : swapsWith e (some (.Attribute o f p)) l env = pure false := by cases e <;> rfl
/-- a target of a row of targets: a name's field too -/
def trGA (c : TC) : Expr → Option Tg
  | .Attribute (.Name x _) f _ => gd (visK (c.sc.names.lookup x) && plainName x) ((slotAt c.N x).map fun i => .fl i (clsOf c f) f)
  | e => trG c 250 e
def trGAs (c : TC) : List Expr → Option (List Tg)
  | [] => some []
  | e :: es => (trGA c e).bind fun t => (trGAs c es).map (t :: ·)
section
variable {c : TC} {X : Cx} {G : Gx} {E : XS} {T : TabT}
theorem trGA_ok (o : Ok c X G E T) {e : Expr} {t : Tg} (h : trGA c e = some t) : PG X e (tGI G E t) := by
  unfold trGA at h
  split at h
  · rename_i x p f q
    obtain ⟨h0, h⟩ := gd_some h
    obtain ⟨h0, h1⟩ := and_ok h0
    obtain ⟨i, h2, rfl⟩ := map_some h
    obtain ⟨d1, d2⟩ := plainName_ok h1
    exact gI_fl o.fit (clsOf_ok o f) (eI_var (by rw [o.N]; exact slotAt_ok h2) (by rw [o.sc]; exact visK_ok h0) d1 d2)
  · exact trG_ok o h
theorem trGAs_ok (o : Ok c X G E T) : ∀ {es : List Expr} {ts : List Tg}, trGAs c es = some ts → es.all noStar = true → PGs X es (tGIs G E ts) ∧ es.length = ts.length
  | [], ts, h, _ => by cases h; exact ⟨gI_nil, rfl⟩
  | e :: es, ts, h, hn => by
    unfold trGAs at h
    obtain ⟨t, h1, h⟩ := bd_some h
    obtain ⟨ts', h2, rfl⟩ := map_some h
    rw [List.all_cons, Bool.and_eq_true] at hn
    obtain ⟨p, l⟩ := trGAs_ok o h2 hn.2
    exact ⟨gI_cons (trGA_ok o h1) p (by rw [tgt_cons hn.1]; rfl), by rw [List.length_cons, List.length_cons, l]⟩
end
/-- the name's store, at the end of a comprehension -/
def swB (c : TC) (scope : Scope) (py pos : Pos) (y : Str) : Bool := c.sc.names.lookup y == some .local && py.line == pos.line && !(scope.names.any fun (n, k) => n == y && (k == .local || k == .cell))
theorem sw_lc {c : TC} {env : Env} (hs : env.scope = c.sc) (hk : isFun c.sc = true) {elt : Expr} {gens : List Comprehension} {scope : Scope} {pos py : Pos} {y : Str} {l : Nat} :
    swapsWith (.ListComp elt gens scope pos) (some (.Name y py)) l env = pure (swB c scope py pos y) := by
  have hb : env.blockKind = .function := by
    unfold Env.blockKind
    rw [hs, isFun_ok hk]
    rfl
  have ky : env.kindOf y = c.sc.names.lookup y := by
    show env.scope.names.lookup y = _
    rw [hs]
  unfold swapsWith swB
  simp only [hb, ky, Expr.pos]
  rfl
def efuel : Nat := 250
def trHd (c : TC) (n : Nat) : List ExceptHandler → Option Hds
  | [] => some .nil
  | .ExceptHandler (some (.Name h _)) none (b₀ :: suite) _ :: r => gd (globK (c.sc.names.lookup h)) ((c.xs.lookup h).bind fun cs => (trHSs c none n (b₀ :: suite)).bind fun s => (trHd c n r).map (.cons cs none s))
  | _ => none
mutual
def trS (c : TC) : Nat → Stmt → Option Stm
  | 0, _ => none
  | n + 1, st => match st with
    | .Pass _ => some .pass
    | .Break _ => some .brk
    | .Raise o none _ => (match o with
      | some (.Call (.Name y _) [.Constant (.str _) _ _] [] _) => (match globK (c.sc.names.lookup y) && c.xr.contains y with
        | true => some (.raise y)
        | false => some .bad)
      | _ => some .bad)
    | .Raise .. => some .bad
    | .Try body hds orelse fin _ => (match orelse, fin, hds with
      | [], [], [.ExceptHandler (some (.Name h _)) (some e) (b₀ :: suite) _] => gd (globK (c.sc.names.lookup h) && c.sc.names.lookup e == some .local) ((c.xs.lookup h).bind fun cs => (slotAt c.N e).bind fun j =>
        (trSs { c with tr := true } n body).bind fun b => (trHSs c (some (e, j)) n (b₀ :: suite)).map fun s => .try_ b (.cons cs (some j) s .nil))
      | [], [], h :: r => (trHd c n (h :: r)).bind fun hs => (trSs { c with tr := true } n body).map fun b => .try_ b hs
      | _, _, _ => none)
    | .Continue _ => some .cnt
    | .Expr e _ => (match isStr e with
      | true => some .pass
      | false => gd (!isComp e) ((trE c efuel e).map .expr))
    | .Return o _ => (match o with
      | none => some (.ret (.con .non))
      | some e => (trE c efuel e).map .ret)
    | .If q a b _ => gd (tOk efuel q) ((trE c efuel q).bind fun q' => (trSs c n a).bind fun a' => (trSs c n b).map fun b' => .ite q' a' b')
    | .Assign ts e _ => (match ts with
      | [t] => (match t with
        | .Name x _ => gd (stoK c x && isFun c.sc) ((slotAt c.N x).bind fun i => (trE c efuel e).map fun e' => .asg (.n i) e')
        | .Tuple es _ _ => gd (!isTupE e && es.all noStar) ((trGAs c es).bind fun ts' => (trE c efuel e).map fun e' => .asg (.t ts') e')
        | .Attribute o f _ => (trE c efuel o).bind fun o' => (trE c efuel e).map fun e' => .setf (clsOf c f) f o' e'
        | .Subscript o i _ => gd (plainIx i) ((trE c efuel o).bind fun o' => (trE c efuel i).bind fun i' => (trE c efuel e).map fun e' => .setix o' i' e')
        | _ => none)
      | _ => none)
    | .For tg it b orelse _ => (match orelse with
      | [] => gd (!isSet it) ((trG c efuel tg).bind fun t => (trI c efuel tg it).bind fun s => (trSs c n b).map fun b' => .for_ t s b')
      | _ => none)
    | .While q b orelse _ => (match orelse with
      | [] => gd (tOk efuel q) ((trE c efuel q).bind fun q' => (trSs c n b).map fun b' => .whl q' b')
      | _ => none)
    | _ => none
def trSs (c : TC) : Nat → List Stmt → Option Stms
  | 0, _ => none
  | n + 1, ss => match ss with
    | [] => some .nil
    | s :: ss => (trS c n s).bind fun s' => (trSs c n ss).map (.cons s')
end
section
variable {c : TC} {X : Cx} {G : Gx} {E : XS} {T : TabT}
theorem set_ok (o : Ok c X G E T) {x : Str} {px pos : Pos} {e : Expr} {i : Nat} {e' : Ex} (h0 : stoK c x = true) (hf : isFun c.sc = true) (h1 : slotAt c.N x = some i) (h2 : trE c efuel e = some e') : PS X (.Assign [.Name x px] e pos) (tSI G E (asgM (.n i) (ev T e'))) := by
  obtain ⟨k1, k2⟩ := stoK_ok h0
  have plain : swapsWith e (some (.Name x px)) pos.line X.env = pure false → PS X (.Assign [.Name x px] e pos) (tSI G E (asgM (.n i) (ev T e'))) := fun hs =>
    sI_set o.fit.nd (by rw [o.N]; exact slotAt_ok h1) (by rw [o.sc]; exact k1) ((tr_ok efuel).e c X E e e' o h2) hs (by rw [o.fn, o.sc]; exact k2)
  cases e with
  | ListComp elt gens scope p =>
    have hsw := sw_lc (c := c) (env := X.env) o.sc hf (elt := elt) (gens := gens) (scope := scope) (pos := p) (py := px) (y := x) (l := pos.line)
    cases hb : swB c scope px p x with
    | false => rw [hb] at hsw; exact plain hsw
    | true =>
      rw [hb] at hsw
      have hl : c.sc.names.lookup x = some .local := by
        unfold swB at hb
        exact eq_of_beq (and_ok (and_ok hb).1).1
      obtain ⟨tg, iter, ifs, t, s, q, e2, m, rfl, rfl, g1, g2, g3, g4, g5, g6, g7⟩ := step_comp (tr_ok (efuel - 1)) o h2
      unfold ev
      exact sI_setLc o.fit (by rw [o.N]; exact slotAt_ok h1) (by rw [o.sc]; exact hl) hsw g1 g2 g3 g4 g5 g6 g7
  | SetComp _ _ _ _ => unfold efuel trE at h2; cases h2
  | DictComp _ _ _ _ _ => unfold efuel trE at h2; cases h2
  | _ => exact plain (isComp_ok rfl)
theorem Ok.tr (o : Ok c X G E T) {pn : List (Addr × Obj)} {xe : Value → Shared → Prop} {W : WX} (tk : Takes (X.tr pn xe) W) : Ok { c with tr := true } (X.tr pn xe) G (fun σ cls d H => W cls d σ H) T where
  fit := ⟨⟨o.fit.hK, o.fit.mg, o.fit.nd, o.fit.room, o.fit.w⟩, o.fit.calm, o.fit.xv⟩
  N := o.N
  sc := o.sc
  fn := o.fn
  fns := fun x g n h => ⟨(o.fns x g n h).ex, (o.fns x g n h).len⟩
  cons := o.cons
  blt := o.blt
  mks := fun x g n h => let ⟨b, q⟩ := o.mks x g n h; ⟨b, q.cls, q.mka, q.ok, q.pl, q.room, q.binds, q.mg, q.len⟩
  meths := fun m cl g n h => let ⟨b, e1, e2, q⟩ := o.meths m cl g n h; ⟨b, e1, e2, q.cls, q.cl, q.me, q.ok, q.pl, q.room, q.binds, q.len⟩
  flds := o.flds
  pass := fun σ => by
    have z := passAt tk σ
    rw [o.cx]
    exact z
  passC := fun z => nomatch z
  p0 := o.p0
  cx := o.cx
  xs := o.xs
  xc := o.xc
  xo := o.xo
  xr := o.xr
  md := fun x kvs h => ⟨(o.md x kvs h).ex⟩
theorem names_ok (o : Ok c X G E T) {h : Str} {cs : List Str} (h0 : globK (c.sc.names.lookup h) = true) (h1 : c.xs.lookup h = some cs) : ∃ cv, L2.Names X h cv ∧ ∀ y C, G.xcls y = some C → PySem.W.exmOne X.K (.ref C) cv = some (cs.contains y) := by
  obtain ⟨v, cv, hv, hd, k⟩ := o.xs h cs (lookup_mem h1)
  refine ⟨cv, ⟨by show X.env.scope.names.lookup h = some .globalImplicit; rw [o.sc]; exact globK_ok h0, hd, ?_⟩, fun y C hC => (k y C hC).1⟩
  rcases hv with ⟨hm, _⟩ | ⟨hm, hb, hne, _⟩
  · exact .inl hm
  · exact .inr ⟨hm, hb, hne⟩
theorem trHd_ok (o : Ok c X G E T) {n : Nat} : ∀ {hds : List ExceptHandler} {hs : Hds}, trHd c n hds = some hs → ∃ l, HdsOk X hds l ∧ HdR c X G hs l
  | [], hs, h => by unfold trHd at h; cases h; exact ⟨[], .nil, .nil⟩
  | hd :: r, hs, h => by
    unfold trHd at h
    split at h
    · rename_i q; cases q
    · rename_i hn p b₀ suite p2 r' q
      cases q
      obtain ⟨h0, h⟩ := gd_some h
      obtain ⟨cs, h1, h⟩ := bd_some h
      obtain ⟨s, h2, h⟩ := bd_some h
      obtain ⟨hs', h3, rfl⟩ := map_some h
      obtain ⟨l, k1, k2⟩ := trHd_ok o h3
      obtain ⟨cv, nm, hc⟩ := names_ok o h0 h1
      exact ⟨_, .cons nm (fun a oe cls d pn hz hf => ts_ok o h2 hz hf) k1, .cons hc k2⟩
    · cases h
theorem trS_all (hh : G.hd = none) : ∀ (n : Nat) {c : TC} {X : Cx} {E : XS} (o : Ok c X G E T) (hp : PassesOwn (model X.prog X.w) X.A X.env X.xe) (tk : Takes X (fun cls d σ H => E σ cls d H)) (hst : X.stack = X.env :: X.outer) (hfr : X.env.frame = some X.env.locals), (∀ st s, trS c n st = some s → PS X st (tSI G E (exS T s))) ∧ (∀ ss xs, trSs c n ss = some xs → PSs X ss (tSI G E (exSs T xs)))
  | 0, c, X, E, o, hp, tk, hst, hfr => ⟨fun _ _ h => (nomatch h), fun _ _ h => (nomatch h)⟩
  | n + 1, c, X, E, o, hp, tk, hst, hfr => by
    obtain ⟨i1, i2⟩ := trS_all hh n o hp tk hst hfr
    have te : ∀ {e : Expr} {x : Ex}, trE c efuel e = some x → PE X e (tI G E (ev T x)) := fun {e x} h => (tr_ok efuel).e c X E e x o h
    have tb : ∀ {e : Expr} {x : Ex}, tOk efuel e = true → trE c efuel e = some x → PT X e (tIB G E (tsM (ev T x))) := fun {e x} h0 h => (tr_ok efuel).b efuel c X E e x o h0 h
    refine ⟨fun st s h => ?_, fun ss xs h => ?_⟩
    · unfold trS at h
      split at h
      · cases h; unfold exS; exact sI_pass
      · cases h; unfold exS; exact sI_break
      · split at h
        · rename_i y p1 m j p2 p3
          split at h
          · rename_i hb
            obtain ⟨h1, h2⟩ := and_ok hb
            cases h
            unfold exS
            exact sI_raise o tk h1 (List.contains_iff_mem.mp h2)
          · cases h; unfold exS; exact sI_bad
        · cases h; unfold exS; exact sI_bad
      · cases h; unfold exS; exact sI_bad
      · rename_i body hds orelse fin p
        have bodyOk : ∀ {b : Stms}, trSs { c with tr := true } n body = some b → ∀ (W : WX) (pn : List (Addr × Obj)) (xe : Value → Shared → Prop), Takes (X.tr pn xe) W → PassesOwn (model X.prog X.w) X.A X.env xe → PSs (X.tr pn xe) body (tSI G (fun σ cls d H => W cls d σ H) (exSs T b)) :=
          fun {b} hb W pn xe tkW hpW => (trS_all hh n (o.tr tkW) hpW tkW hst hfr).2 _ _ hb
        split at h
        · rename_i hn ph e b₀ suite ph2
          obtain ⟨h0, h⟩ := gd_some h
          obtain ⟨h0, h1⟩ := and_ok h0
          obtain ⟨cs, h2, h⟩ := bd_some h
          obtain ⟨jj, h3, h⟩ := bd_some h
          obtain ⟨b, h4, h⟩ := bd_some h
          obtain ⟨s', h5, rfl⟩ := map_some h
          obtain ⟨cv, nm, hc⟩ := names_ok o h0 h2
          unfold exS
          refine PS.imp (ps_try_as hst hfr o.fit.nd (by rw [o.N]; exact slotAt_ok h3) (by show X.env.scope.names.lookup e = some .local; rw [o.sc]; exact eq_of_beq h1) nm tk (bodyOk h4) (fun a oe cls d pn hz hf => ts_ok o h5 hz hf)) fun D σ H t => ?_
          refine try_read t fun {x cls d σ ι F W H S} he hr xr po => ?_
          unfold exHs hdM at po
          have xr' := xr
          obtain ⟨C, hC, rfl, hd⟩ := xr
          refine ⟨_, hc _ _ hC, fun z a _ => ?_, fun z => ?_⟩
          · rw [if_pos z] at po
            exact suite_read (n := some (e, jj)) (C := C) hh o.fit.xv he hr xr' po
          · rw [if_neg (by rw [z]; exact Bool.false_ne_true)] at po
            unfold exHs at po
            exact po σ _ d ι F H he (Le.refl _ _) hr xr'
        · rename_i h' r'
          obtain ⟨hs, h1, h⟩ := bd_some h
          obtain ⟨b, h2, rfl⟩ := map_some h
          obtain ⟨l, k1, k2⟩ := trHd_ok o h1
          unfold exS
          refine PS.imp (ps_try_many hst hfr tk (bodyOk h2) k1) fun D σ H t => ?_
          exact try_read t fun {x cls d σ ι F W H S} he hr xr po => hd_read o.fit.hK hh o.fit.xv k2 he hr xr po
        · cases h
      · cases h; unfold exS; exact sI_continue
      · rename_i e p
        split at h
        · rename_i hs
          obtain ⟨x, j, p2, rfl⟩ := isStr_ok hs
          cases h; unfold exS; exact sI_doc
        · obtain ⟨h0, h⟩ := gd_some h
          obtain ⟨e', h1, rfl⟩ := map_some h
          unfold exS
          exact sI_expr (te h1) (isComp_ok (not_ok h0))
      · rename_i r p
        split at h
        · cases h; unfold exS ev; exact sI_retN
        · rename_i e
          obtain ⟨e', h1, rfl⟩ := map_some h
          unfold exS
          exact sI_ret (te h1)
      · rename_i q a b p
        obtain ⟨h0, h⟩ := gd_some h
        obtain ⟨q', h1, h⟩ := bd_some h
        obtain ⟨a', h2, h⟩ := bd_some h
        obtain ⟨b', h3, rfl⟩ := map_some h
        unfold exS
        exact sI_if (tb h0 h1) (i2 a a' h2) (i2 b b' h3)
      · rename_i ts e p
        split at h
        · split at h
          · rename_i t' x px
            obtain ⟨h0, h⟩ := gd_some h
            obtain ⟨h0, h3⟩ := and_ok h0
            obtain ⟨i, h1, h⟩ := bd_some h
            obtain ⟨e', h2, rfl⟩ := map_some h
            unfold exS
            exact set_ok o h0 h3 h1 h2
          · rename_i t' es k px
            obtain ⟨h0, h⟩ := gd_some h
            obtain ⟨h0, hns⟩ := and_ok h0
            obtain ⟨t2, h1, h⟩ := bd_some h
            obtain ⟨e', h2, rfl⟩ := map_some h
            unfold exS
            obtain ⟨pg, hl⟩ := trGAs_ok o h1 hns
            exact sI_asg (te h2) (gI_tup o.fit.hK o.fit.calm pg ((tgt_len hns).1.trans hl) (tgt_len hns).2) sole_tup (sw_tup (not_ok h0)) rfl
          · rename_i t' ob fn px
            obtain ⟨o', h1, h⟩ := bd_some h
            obtain ⟨e', h2, rfl⟩ := map_some h
            unfold exS
            exact sI_setf o.fit (clsOf_ok o fn) (te h2) (te h1) sw_att
          · rename_i t' ob ix px
            obtain ⟨h0, h⟩ := gd_some h
            obtain ⟨o', h1, h⟩ := bd_some h
            obtain ⟨i', h2, h⟩ := bd_some h
            obtain ⟨e', h3, rfl⟩ := map_some h
            unfold exS
            exact sI_setIx o.fit (te h3) (te h1) (te h2) (asg_sub h0) sole_sub sw_sub rfl
          · cases h
        · cases h
      · rename_i tg it b orelse p
        split at h
        · obtain ⟨h0, h⟩ := gd_some h
          obtain ⟨t, h1, h⟩ := bd_some h
          obtain ⟨s, h2, h⟩ := bd_some h
          obtain ⟨b', h3, rfl⟩ := map_some h
          unfold exS
          exact sI_for o.fit hp ((tr_ok efuel).i c X E tg it s o h2) (trG_walk o h1) (i2 b b' h3) (isSet_ok (not_ok h0))
        · cases h
      · rename_i q b orelse p
        split at h
        · obtain ⟨h0, h⟩ := gd_some h
          obtain ⟨q', h1, h⟩ := bd_some h
          obtain ⟨b', h3, rfl⟩ := map_some h
          unfold exS
          exact sI_while hp (tb h0 h1) (i2 b b' h3)
        · cases h
      · cases h
    · unfold trSs at h
      split at h
      · cases h; unfold exSs; exact sI_nil
      · rename_i s ss
        obtain ⟨s', h1, h⟩ := bd_some h
        obtain ⟨xs', h2, rfl⟩ := map_some h
        unfold exSs
        exact sI_cons (i1 s s' h1) (i2 ss xs' h2)
end

/-! ### defs -/
def startD (k : Nat) (ds : List D) : DEnv := ds.map some ++ List.replicate (k - ds.length) none
def endF : Fl → M D
  | .nx _ => ret .non
  | .rt d => ret d
  | _ => fail
structure Df where
  k : Nat
  n : Nat
  b : Stms
def run (tab : Nat → Option Df) : Nat → TabT
  | 0 => fun _ _ => fail
  | d + 1 => fun g ds => match tab g with
    | some df => if ds.length = df.n then bnd (exSs (run tab d) df.b (startD df.k ds)) endF else fail
    | none => fail
theorem startD_ok {G : Gx} (hx : G.xv = none) {ι : List Addr} {F : Hp} {N : List Str} {vs : List V} {ds : List D} (r : Reps G.K ι F vs ds) (h : vs.length ≤ N.length) : EnvR G ι F (startD N.length ds) (L2.start N vs) := by
  have hl := r.length
  refine ⟨by unfold startD L2.start; simp [hl], fun i d e => ?_, fun i a e => (by rw [hx] at e; cases e)⟩
  unfold startD at e
  by_cases hi : i < ds.length
  · rw [List.getElem?_append_left (by simpa using hi), List.getElem?_map] at e
    obtain ⟨d', h1, h2⟩ := Option.map_eq_some_iff.mp e
    cases h2
    obtain ⟨v, h3, rv⟩ := r.at h1
    refine ⟨v, ?_, rv⟩
    unfold L2.start
    rw [List.getElem?_append_left (by simpa [hl] using hi), List.getElem?_map, h3]
    rfl
  · rw [List.getElem?_append_right (by simpa using hi), List.getElem?_replicate] at e
    split at e <;> cases e
/-- what the names of a text stand for -/
structure Names where
  fns : List (Str × Nat × Nat)
  cons : List (Str × D)
  blt : List Str
  mks : List (Str × Nat × Nat)
  meths : List (Str × Str × Nat × Nat)
  flds : List (Str × Str)
  marks : List (Nat × Nat)
  xs : List (Str × List Str)
  xr : List Str
  xo : List (Str × Str)
  mds : List (Str × List (Str × D)) := []
def Names.tc (M : Names) (N : List Str) (sc : Scope) : TC := ⟨N, sc, fun _ => true, M.fns, M.cons, M.blt, M.mks, M.meths, M.flds, M.marks, M.xs, M.xr, M.xo, false, M.mds⟩
structure FnI (G : Gx) (M : Names) (tab : Nat → Option Df) (nm qn : Str) (g n : Nat) (f : Addr) (fd : FuncData) (ps : List Str) (st : Stmt) (N : List Str) (df : Df) : Prop where
  fun_ : L2.Fun G.K nm qn st f fd
  tab : tab g = some df
  dn : df.n = n
  pl : ps.length = n
  binds : Binds G.K fd ps []
  sc : FnScope N ps (defScope st)
  k : df.k = N.length
  body : ∃ fuel, trSs (M.tc N (defScope st)) fuel (defBody st) = some df.b
structure Known (G : Gx) (M : Names) (tab : Nat → Option Df) : Prop where
  fns : ∀ x g n, (x, g, n) ∈ M.fns → ∃ nm qn f fd ps st N df, FnI G M tab nm qn g n f fd ps st N df ∧ G.mg x = some (.ref f)
  cons : ∀ x d, (x, d) ∈ M.cons → ∃ v u, G.mg x = some u ∧ RelV v u ∧ Rep G.K [] (fun _ => none) v d
  blt : ∀ x ∈ M.blt, G.mg x = none
  mks : ∀ x g n, (x, g, n) ∈ M.mks → ∃ nm qn C f fd ps st N df, FnI G M tab nm qn g n f fd ps st N df ∧ G.cls x = some C ∧ Mk G.K C f ∧ G.mg x = some (.ref C)
  meths : ∀ m cl g n, (m, cl, g, n) ∈ M.meths → ∃ nm qn C f fd ps st N df, FnI G M tab nm qn g n f fd ps st N df ∧ G.cls cl = some C ∧ Cls G.K C ∧ Meth G.K C m f
  flds : ∀ cl f, (cl, f) ∈ M.flds → ∃ C, G.cls cl = some C ∧ Cls G.K C ∧ NoAttr G.K C f
  cx : G.CX = L2.CX G.P G.w
  hd0 : G.hd = none
  xv0 : G.xv = none
  xs : ∀ h cs, (h, cs) ∈ M.xs → ∃ (v : V) (cv : Value), (G.mg h = some cv ∧ (∃ C, cv = .ref C ∧ v = .ref C) ∨ G.mg h = none ∧ bootBuiltins h = some cv ∧ h ≠ "__name__" ∧ ∃ B, cv = .type B ∧ v = .ty B) ∧ (h == ("__debug__" : Str)) = false ∧
    ∀ y C, G.xcls y = some C → PySem.W.exmOne G.K (.ref C) cv = some (cs.contains y) ∧ PySem.W.kitOne G.K (.ref C) cv = some (cs.contains y)
  xc : ∀ y C, G.xcls y = some C → ExcC G.K C ∧ XfC G.K C ∧ PySem.W.subIn G.K (.ref C) (.type "BaseException") = some true ∧ PySem.W.typeIn G.K (.ref C) = some (.type "type") ∧ PySem.W.keepIn G.K (.ref C) = true
  xo : ∀ b ∈ M.xo, ∀ y C, G.xcls y = some C → PySem.W.findIn G.K (.ref C) b.2 = some none
  xr : ∀ y, y ∈ M.xr → ∃ C, G.xcls y = some C ∧ PySem.W.excIn G.K C PySem.HandSPX.veTail "ValueError.__new__" = true ∧ G.mg y = some (.ref C) ∧ (y == ("__debug__" : Str)) = false
  md : ∀ x kvs, (x, kvs) ∈ M.mds → ∃ (td : Addr) (es : Array DictEntry) (n : Nat), G.mg x = some (.ref td) ∧ L2.KDict G.K G.w td es n ∧ (∀ k, kvs.lookup k = none → PySem.W.nsIn G.K td k = some none) ∧ ∀ k d, kvs.lookup k = some d → ∃ (u : Value) (v : V), PySem.W.nsIn G.K td k = some (some u) ∧ RelV v u ∧ Rep G.K [] (fun _ => none) v d
theorem xq_own {K : PySem.W.Frag} {C H : Addr} {b : Bool} (h1 : PySem.W.subIn K (.ref H) (.type "BaseException") = some true) (hd : PySem.W.hasDictIn K H = true) (ht : PySem.W.typeIn K (.ref H) = some (.type "type"))
    (sx : PySem.W.subIn K (.ref C) (.ref C) = some true) (h4 : PySem.W.subIn K (.ref C) (.ref H) = some b) : PySem.W.exmOne K (.ref C) (.ref H) = some b ∧ PySem.W.kitOne K (.ref C) (.ref H) = some b := by
  refine ⟨PySem.W.exm_ref h1 hd ht h4, ?_⟩
  unfold PySem.W.kitOne
  by_cases e : (Value.ref C == Value.ref H) = true
  · rw [if_pos e]
    have z : C = H := Value.ref.inj (beq_iff_eq.mp e)
    subst z
    rw [sx] at h4
    exact h4
  · rw [if_neg e]
    unfold PySem.W.kitCls
    have hc : (PySem.W.clsIn K H).isSome = true := by
      unfold PySem.W.hasDictIn at hd
      cases q : PySem.W.clsIn K H with
      | none => rw [q] at hd; cases hd
      | some _ => rfl
    simp only
    rw [hc, ht]
    exact h4
theorem xq_ty {K : PySem.W.Frag} {C : Addr} {b : Bool} {T : String} (hm : PySem.W.kitMeta T = true) (h1 : PySem.W.subIn K (.type T) (.type "BaseException") = some true) (h4 : PySem.W.subIn K (.ref C) (.type T) = some b) : PySem.W.exmOne K (.ref C) (.type T) = some b ∧ PySem.W.kitOne K (.ref C) (.type T) = some b := by
  have k : PySem.W.kitCls K (.ref C) (.type T) = some b := by
    unfold PySem.W.kitCls
    simp only
    rw [if_pos hm]
    exact h4
  refine ⟨?_, ?_⟩
  · unfold PySem.W.exmOne
    rw [h1]
    exact k
  · unfold PySem.W.kitOne
    rw [if_neg (by intro z; cases (beq_iff_eq.mp z))]
    exact k
theorem xc_mk {K : PySem.W.Frag} {C : Addr} (hg : PySem.W.findIn K (.ref C) "__getattribute__" = some (some (.builtin "BaseException.__getattribute__"))) (hk : PySem.W.findIn K (.ref C) "__getattr__" = some none) (hs : PySem.W.subIn K (.ref C) (.type "BaseException") = some true)
    (hd : PySem.W.hasDictIn K C = true) (ha : PySem.W.findIn K (.ref C) "__class__" = some (some (.builtin "object.__class__"))) (hn : PySem.W.specialIn K (.builtin "object.__class__") "__get__" = some (some (.builtin "getset_descriptor.__get__"))) (ht : PySem.W.takesIn K (.builtin "object.__class__") = some true)
    (hm : PySem.W.mroIn K C (.type "object") = some true) (ty : PySem.W.typeIn K (.ref C) = some (.type "type")) (kp : PySem.W.keepIn K (.ref C) = true) :
    ExcC K C ∧ XfC K C ∧ PySem.W.subIn K (.ref C) (.type "BaseException") = some true ∧ PySem.W.typeIn K (.ref C) = some (.type "type") ∧ PySem.W.keepIn K (.ref C) = true :=
  ⟨⟨hg, hk, hs, hd, ha, hn, ht, hm⟩, ⟨hg, hk, hs, hd⟩, hs, ty, kp⟩
theorem run_len {tab : Nat → Option Df} {g n : Nat} {df : Df} (h1 : tab g = some df) (h2 : df.n = n) : ∀ (d : Nat) (ds : List D) (S : Store), run tab d g ds S ≠ .bad → ds.length = n
  | 0, ds, S, h => absurd rfl h
  | d + 1, ds, S, h => by
    unfold run at h
    rw [h1] at h
    simp only at h
    by_cases c : ds.length = df.n
    · exact c.trans h2
    · rw [if_neg c] at h; exact absurd rfl h
theorem fn_level {G : Gx} {M : Names} {tab : Nat → Option Df} (Kn : Known G M tab) : ∀ (d : Nat) (nm qn : Str) (g n : Nat) (f : Addr) (fd : FuncData) (ps : List Str) (st : Stmt) (N : List Str) (df : Df), FnI G M tab nm qn g n f fd ps st N df →
    FnOk G.P G.w G.K G.mg G.base (L2.CX G.P G.w) (2 * d) f fd ps (spC G n (run tab d g))
  | 0, nm, qn, g, n, f, fd, ps, st, N, df, i => ⟨fun vs H Q E h => h.1.trans i.pl.symm, fun A outer s H args us vs Q E hr he hb hv h => by
      obtain ⟨_, ι, F, W, S, ds, _, _, po⟩ := h
      exact po.elim⟩
  | d + 1, nm, qn, g, n, f, fd, ps, st, N, df, i => by
    have fo := fn_level Kn d
    refine L2.Fun.okX (k := 2 * d + 1) i.fun_ i.sc (fun vs H Q E h => h.1.trans i.pl.symm) fun cdv A outer s H vs Q E hr h => ?_
    obtain ⟨hl, ι, F, W, S, ds, h0, r, po⟩ := h
    obtain ⟨fuel, hb⟩ := i.body
    have tk : Takes (cxOf (L2.CX G.P G.w) G.P G.w G.K G.mg G.base N qn (defScope st) f cdv A outer s H E) (fun cls d _ H => E cls d H) := takes_of rfl rfl rfl rfl
    have hr2 : Room (2 * d) _ := hr.mono (Nat.le_succ _)
    have ok : Ok (M.tc N (defScope st)) (cxOf (L2.CX G.P G.w) G.P G.w G.K G.mg G.base N qn (defScope st) f cdv A outer s H E) G (fun _ => E) (run tab d) := {
      fit := ⟨⟨rfl, rfl, i.sc.nd, by have := hr.un; show (A.deeper _).units + 65 < cLine; omega, rfl⟩, rfl, Kn.xv0⟩
      N := rfl
      sc := rfl
      fn := rfl
      fns := fun x' g' n' hm => by
        obtain ⟨nm', qn', f', fd', ps', st', N', df', i', mg'⟩ := Kn.fns x' g' n' hm
        refine ⟨⟨2 * d, f', fd', ps', ?_, i'.pl, hr2, mg', i'.fun_.kp, i'.binds⟩, run_len i'.tab i'.dn d⟩
        rw [Kn.cx]
        exact fo nm' qn' g' n' f' fd' ps' st' N' df' i'
      cons := Kn.cons
      blt := Kn.blt
      mks := fun x' g' n' hm => by
        obtain ⟨nm', qn', C', f', fd', ps', st', N', df', i', cl', mk', mg'⟩ := Kn.mks x' g' n' hm
        refine ⟨⟨C', f', 2 * d, fd', ps'⟩, cl', mk', ?_, i'.pl, hr, i'.binds, mg', run_len i'.tab i'.dn d⟩
        show FnOk G.P G.w G.K G.mg G.base G.CX (2 * d) f' fd' ps' _
        rw [Kn.cx]
        exact fo nm' qn' g' n' f' fd' ps' st' N' df' i'
      meths := fun m' c' g' n' hm => by
        obtain ⟨nm', qn', C', f', fd', ps', st', N', df', i', cl', cls', me'⟩ := Kn.meths m' c' g' n' hm
        refine ⟨⟨c', g', C', f', 2 * d, fd', ps', n'⟩, rfl, rfl, cl', cls', me', ?_, i'.pl, hr2, i'.binds, run_len i'.tab i'.dn d⟩
        show FnOk G.P G.w G.K G.mg G.base G.CX (2 * d) f' fd' ps' _
        rw [Kn.cx]
        exact fo nm' qn' g' n' f' fd' ps' st' N' df' i'
      flds := Kn.flds
      pass := fun σ => by
        rw [Kn.cx]
        have z : Passes (L2.CX G.P G.w) (cxOf (L2.CX G.P G.w) G.P G.w G.K G.mg G.base N qn (defScope st) f cdv A outer s H E) E := passes_call tk fun _ _ _ _ h => h
        exact fun pins H' s' e s2 I q => z pins σ H' s' e s2 I q
      passC := fun _ _ => by rw [Kn.cx]; exact passes_call tk fun _ _ _ _ h => h
      cx := Kn.cx
      xs := Kn.xs
      xc := Kn.xc
      xo := Kn.xo
      xr := Kn.xr
      md := fun x kvs h => ⟨Kn.md x kvs h⟩
      p0 := fun Y hp hw => by
        have z : Passes (L2.CX Y.prog Y.w) Y L2.E0 := passL
        rw [hp, hw] at z
        rw [Kn.cx]
        exact z }
    refine ⟨_, (trS_all Kn.hd0 fuel ok (passes_of rfl) tk rfl rfl).2 _ _ hb, ?_⟩
    unfold run at po
    rw [i.tab] at po
    simp only at po
    obtain ⟨_, po⟩ := Post.if_ po
    have hN : vs.length ≤ N.length := by
      have := congrArg List.length i.sc.pre
      rw [List.length_take] at this
      have h2 := i.pl
      omega
    refine ⟨startD df.k ds, S, ι, F, W, by rw [i.k]; exact startD_ok Kn.xv0 r hN, h0, po.seq fun ι1 F1 S1 H1 fl l1 h1 po => ?_⟩
    cases fl with
    | nx ρ => exact fun σ e => po.now h1 _ .non
    | rt d => exact fun v r => po.now h1 v r
    | bk ρ => exact po.elim
    | ct ρ => exact po.elim
end CI

/-! The law's end; constants of a text. -/
namespace CI
open PySem PySem.Spec PyProof.Rows L2 HT

/-! ### constants -/
mutual
inductive KRep (K : PySem.W.Frag) : Value → D → Prop
  | non : KRep K .none .non
  | bl (b : Bool) : KRep K (.bool b) (.bl b)
  | int {i : Int} {t : Tok} : KRep K (.int i t) (.int i)
  | str {x : Str} {t : Tok} : KRep K (.str x t) (.str x)
  | tup {a : Addr} {its : Array Value} {n : Nat} {sl : Array (Option Value)} {ds : List D} (l : K.lookup a = some ⟨.type "tuple", none, .seq its n, sl⟩) (h : KReps K its.toList ds) (z : ds.length ≤ 1000) : KRep K (.ref a) (.tup ds)
inductive KReps (K : PySem.W.Frag) : List Value → List D → Prop
  | nil : KReps K [] []
  | cons {u : Value} {us : List Value} {d : D} {ds : List D} (h : KRep K u d) (t : KReps K us ds) : KReps K (u :: us) (d :: ds)
end
section
variable {K : PySem.W.Frag}
mutual
theorem KRep.rep : ∀ {u : Value} {d : D}, KRep K u d → ∃ v, RelV v u ∧ Rep K [] (fun _ => none) v d
  | _, _, .non => ⟨.non, rfl, .non⟩
  | _, _, .bl b => ⟨.bl b, rfl, .bl b⟩
  | _, _, .int => ⟨.int _, ⟨_, rfl⟩, .int _⟩
  | _, _, .str => ⟨.str _, ⟨_, rfl⟩, .str _⟩
  | _, _, .tup (a := a) (its := its) (n := n) (ds := ds) l h z => by
    obtain ⟨vs, hv, hr⟩ := KReps.reps h
    have e1 := hv.length
    have e2 := hr.length
    have e3 : its.size = ds.length := by simpa using e1.symm.trans e2
    refine ⟨.ref a, rfl, .tup (.inr ⟨_, its, n, l, rfl, rfl, rfl, ?_, hv⟩) hr ?_⟩
    · rw [sizeLine_eq]; omega
    · show ds.length ≤ 1000000; omega
theorem KReps.reps : ∀ {us : List Value} {ds : List D}, KReps K us ds → ∃ vs, Vals vs us ∧ Reps K [] (fun _ => none) vs ds
  | _, _, .nil => ⟨[], .nil, .nil⟩
  | _, _, .cons h t => by
    obtain ⟨v, h1, h2⟩ := KRep.rep h
    obtain ⟨vs, h3, h4⟩ := KReps.reps t
    exact ⟨v :: vs, .cons h1 h3, .cons h2 h4⟩
end
end
theorem con_of {K : PySem.W.Frag} {mg : Str → Option Value} {x : Str} {d : D} {u : Value} (h : mg x = some u) (r : KRep K u d) : ∃ v u, mg x = some u ∧ RelV v u ∧ Rep K [] (fun _ => none) v d := by
  obtain ⟨v, h1, h2⟩ := r.rep
  exact ⟨v, u, h, h1, h2⟩

/-! ### dicts of the module -/
inductive MdRep (K : PySem.W.Frag) (P : Params) : List DictEntry → List (Str × D) → Prop
  | nil : MdRep K P [] []
  | cons {k : Str} {t : Tok} {u : Value} {d : D} {es : List DictEntry} {kvs : List (Str × D)} (r : KRep K u d) (m : MdRep K P es kvs) : MdRep K P ({ hash := PyData.keyHash P k, key := .str k t, val := u } :: es) ((k, d) :: kvs)
theorem MdRep.lit {K : PySem.W.Frag} {P : Params} {es : List DictEntry} {kvs : List (Str × D)} (h : MdRep K P es kvs) : PySem.W.KeysLit P es := by
  induction h with
  | nil => exact trivial
  | cons r m ih => exact ⟨⟨_, _, rfl, rfl⟩, ih⟩
theorem MdRep.find {K : PySem.W.Frag} {P : Params} {es : List DictEntry} {kvs : List (Str × D)} (h : MdRep K P es kvs) (x : Str) :
    es.any (·.refKey) = false ∧ (kvs.lookup x = none → es.find? (·.key.isStr x) = none) ∧ ∀ d, kvs.lookup x = some d → ∃ e, es.find? (·.key.isStr x) = some e ∧ KRep K e.val d := by
  induction h with
  | nil => exact ⟨rfl, fun _ => rfl, fun d h => nomatch h⟩
  | @cons k t u d es kvs r m ih =>
    obtain ⟨i1, i2, i3⟩ := ih
    have hk : (Value.str k t).isStr x = (k == x) := rfl
    refine ⟨by rw [List.any_cons, i1]; rfl, fun hn => ?_, fun d' hd => ?_⟩
    · rw [List.lookup_cons] at hn
      cases q : x == k with
      | true => rw [q] at hn; cases hn
      | false =>
        rw [q] at hn
        have q2 : (k == x) = false := by rw [beq_eq_false_iff_ne] at q ⊢; exact fun e => q e.symm
        rw [List.find?_cons_of_neg (by show ¬ (Value.str k t).isStr x = true; rw [hk, q2]; exact Bool.false_ne_true)]
        exact i2 hn
    · rw [List.lookup_cons] at hd
      cases q : x == k with
      | true =>
        rw [q] at hd
        cases hd
        have e := eq_of_beq q
        exact ⟨_, List.find?_cons_of_pos (by show (Value.str k t).isStr x = true; rw [hk, e]; exact beq_self_eq_true _), r⟩
      | false =>
        rw [q] at hd
        have q2 : (k == x) = false := by rw [beq_eq_false_iff_ne] at q ⊢; exact fun e => q e.symm
        rw [List.find?_cons_of_neg (by show ¬ (Value.str k t).isStr x = true; rw [hk, q2]; exact Bool.false_ne_true)]
        exact i3 d' hd
theorem md_of {K : PySem.W.Frag} {w : World} {mg : Str → Option Value} {x : Str} {td : Addr} {es : Array DictEntry} {n : Nat} {kvs : List (Str × D)} (hm : mg x = some (.ref td)) (hl : K.lookup td = some ⟨.type "dict", none, .dict es n, #[]⟩) (hs : (td == sysModules) = false) (h : MdRep K w.params es.toList kvs) :
    ∃ (td : Addr) (es : Array DictEntry) (n : Nat), mg x = some (.ref td) ∧ L2.KDict K w td es n ∧ (∀ k, kvs.lookup k = none → PySem.W.nsIn K td k = some none) ∧ ∀ k d, kvs.lookup k = some d → ∃ (u : Value) (v : V), PySem.W.nsIn K td k = some (some u) ∧ RelV v u ∧ Rep K [] (fun _ => none) v d := by
  refine ⟨td, es, n, hm, ⟨hl, h.lit, hs⟩, fun k e => ?_, fun k d e => ?_⟩
  · obtain ⟨i1, i2, _⟩ := h.find k
    unfold PySem.W.nsIn
    rw [hl]
    simp only [i2 e, i1]
    rfl
  · obtain ⟨_, _, i3⟩ := h.find k
    obtain ⟨en, e1, r⟩ := i3 d e
    obtain ⟨v, r1, r2⟩ := r.rep
    refine ⟨en.val, v, ?_, r1, r2⟩
    unfold PySem.W.nsIn
    rw [hl]
    simp only [e1]

/-! ### the law -/
def spL (K : PySem.W.Frag) : Sp := fun vs H Q _ => ∃ (a : Addr) (ns : List Int), vs = [.ref a] ∧ ns.length ≤ 63 ∧ (∀ z ∈ ns, Builtin.Int.intBits z ≤ 1048576) ∧ SqL K H a (ns.map V.int) ∧ ∀ H', Q (.bl true) H'
theorem fn_law {G : Gx} (hh : G.hd = none) {d g : Nat} {m : TabT} {f : Addr} {fd : FuncData} {ps : List Str} (F : FnOk G.P G.w G.K G.mg G.base (L2.CX G.P G.w) d f fd ps (spC G 1 (m g)))
    (truth : ∀ ns : List Int, ns.length ≤ 63 → (∀ z ∈ ns, Builtin.Int.intBits z ≤ 1048576) → ∃ S, m g [.ro (ns.map D.int)] [] = .ok (.bl true) S) : FnOk G.P G.w G.K G.mg G.base (L2.CX G.P G.w) d f fd ps (spL G.K) := by
  refine F.imp fun vs H Q E ⟨a, ns, e, hl, hb, hS, q⟩ => ?_
  subst e
  obtain ⟨S, e⟩ := truth ns hl hb
  refine ⟨rfl, [], H, fun _ => none, [], [.ro (ns.map D.int)], ⟨fun _ _ h => h, rfl, List.nodup_nil, fun _ h => (nomatch h), fun _ _ h => (nomatch h), fun n a ob h => (nomatch h), fun d fs e => (by rw [hh] at e; cases e)⟩, .cons (.ro hS (reps_ints ns) (by show (ns.map D.int).length ≤ 1000000; rw [List.length_map]; omega)) .nil, ?_⟩
  rw [e]
  intro ι' F' H' l hr v r
  cases r with
  | bl b => exact q H'
/-- nothing raised reaches the end -/
theorem no_exc (P : Program) (w : World) (H : Hp) (s : Shared) (e : Value) (s' : Shared) (h : L2.CX P w [] H s (fun _ _ _ => False) e s') : False := by
  obtain ⟨_, _, _, _, _, _, _, _, _, _, _, _, z⟩ := h
  exact z
def gxOf (P : Program) (w : World) (K : PySem.W.Frag) (mg : Str → Option Value) (base : Heap) (cls xcls : Str → Option Addr) : Gx := ⟨P, w, K, mg, base, L2.CX P w, cls, xcls, none, none⟩
end CI

/-! Running the evaluator by hand: wishes about results. -/
namespace CI
open PySem PySem.Spec PyProof.Rows L2 HT

def wp {α : Type} (m : M α) (S : Store) (P : α → Store → Prop) : Prop := match m S with
  | .ok a S' => P a S'
  | _ => False
theorem wp_mono {α : Type} {m : M α} {S : Store} {P Q : α → Store → Prop} (h : wp m S P) (k : ∀ a S', P a S' → Q a S') : wp m S Q := by
  unfold wp at *
  split at h
  · exact k _ _ h
  · exact h
theorem wp_ok {α : Type} {m : M α} {S S' : Store} {a : α} {P : α → Store → Prop} (e : m S = .ok a S') : wp m S P = P a S' := by unfold wp; rw [e]
theorem wp_iff {α : Type} {m : M α} {S : Store} {P : α → Store → Prop} : wp m S P ↔ ∃ a S', m S = .ok a S' ∧ P a S' := by
  unfold wp
  constructor
  · intro h
    split at h
    · rename_i a S' e; exact ⟨a, S', e, h⟩
    · exact h.elim
  · rintro ⟨a, S', e, h⟩
    rw [e]; exact h
theorem ret_of_wp {α : Type} {m : M α} {a : α} (h : ∀ S, wp m S fun b S' => b = a ∧ S' = S) : m = ret a := by
  funext S
  obtain ⟨b, S', e, rfl, rfl⟩ := wp_iff.mp (h S)
  exact e
@[simp ↓] theorem wp_ret {α : Type} {a : α} {S : Store} {P : α → Store → Prop} : wp (ret a) S P = P a S := (rfl)
@[simp ↓] theorem wp_fail {α : Type} {S : Store} {P : α → Store → Prop} : wp fail S P = False := (rfl)
theorem wp_bnd {α β : Type} {m : M α} {f : α → M β} {S : Store} {P : β → Store → Prop} : wp (bnd m f) S P = wp m S fun a S' => wp (f a) S' P := by
  unfold wp bnd
  cases m S <;> rfl
@[simp ↓] theorem wp_ite {α : Type} {c : Prop} [Decidable c] {m n : M α} {S : Store} {P : α → Store → Prop} : wp (if c then m else n) S P = if c then wp m S P else wp n S P := by split <;> rfl
@[simp ↓] theorem wp_noExc {α : Type} {m : M α} {S : Store} {P : α → Store → Prop} : wp (noExc m) S P = wp m S P := by
  unfold wp noExc
  cases m S <;> rfl

theorem wp_atM {α : Type} {ρ : DEnv} {m : M α} {S : Store} {P : α → Store → Prop} : wp (atM ρ m) S P = wp m S P := by
  unfold wp atM
  cases m S <;> rfl
/-! Continuations, each with a name: so a rule works at the head alone. -/
abbrev Kn (α : Type) := α → Store → Prop
def ozk {α : Type} (o : Option α) (S : Store) (k : Kn α) : Prop := match o with
  | some a => k a S
  | none => False
@[simp] theorem ozk_some {α : Type} {a : α} {S : Store} {k : Kn α} : ozk (some a) S k = k a S := (rfl)
@[simp] theorem ozk_none {α : Type} {S : Store} {k : Kn α} : ozk (none : Option α) S k = False := (rfl)
@[simp] theorem ozk_if {α : Type} {c : Prop} [Decidable c] {a b : Option α} {S : Store} {k : Kn α} : ozk (if c then a else b) S k = if c then ozk a S k else ozk b S k := by split <;> rfl
theorem wp_look {α : Type} {f : Store → Option α} {S : Store} {k : Kn α} : wp (look f) S k = ozk (f S) S k := by
  unfold wp look ozk
  cases f S <;> rfl
def bzk (d : D) (S : Store) (k : Kn Bool) : Prop := match d with
  | .bl b => k b S
  | _ => False
@[simp] theorem bzk_bl {b : Bool} {S : Store} {k : Kn Bool} : bzk (.bl b) S k = k b S := (rfl)
theorem wp_asB {d : D} {S : Store} {k : Kn Bool} : wp (asB d) S k = bzk d S k := by cases d <;> rfl

section
variable {T : TabT} {ρ : DEnv} {S : Store} {k : Kn D} {ks : Kn (List D)} {kf : Kn Fl} {ke : Kn DEnv} {ki : Kn Src} {m : Bool}
@[simp ↓] theorem wp_var {i : Nat} : wp (ev T (.var i) ρ) S k = ozk (ρ[i]?).join S k := by
  unfold ev varM; rw [wp_look]
@[simp ↓] theorem wp_con {d : D} : wp (ev T (.con d) ρ) S k = k d S := by
  unfold ev constM; rfl
def kBin2 (m : Bool) (op : Operator) (d : D) (k : Kn D) : Kn D := fun e S => wp (binD m op d e) S k
@[simp ↓] theorem kBin2_ {m : Bool} {op : Operator} {d : D} : kBin2 m op d k e S = wp (binD m op d e) S k := (rfl)
def kBin1 (T : TabT) (m : Bool) (op : Operator) (b : Ex) (ρ : DEnv) (k : Kn D) : Kn D := fun d S => wp (ev T b ρ) S (kBin2 m op d k)
@[simp ↓] theorem kBin1_ {T : TabT} {m : Bool} {op : Operator} {b : Ex} {ρ : DEnv} : kBin1 T m op b ρ k d S = wp (ev T b ρ) S (kBin2 m op d k) := (rfl)
@[simp ↓] theorem wp_bin {op : Operator} {a b : Ex} : wp (ev T (.bin m op a b) ρ) S k = wp (ev T a ρ) S (kBin1 T m op b ρ k) := by
  conv => lhs; unfold ev
  simp only [wp_bnd]
  rfl
def kCmp2 (op : CmpOp) (d : D) (k : Kn D) : Kn D := fun e S => wp (cmpD op d e) S k
@[simp ↓] theorem kCmp2_ {op : CmpOp} {d : D} : kCmp2 op d k e S = wp (cmpD op d e) S k := (rfl)
def kCmp1 (T : TabT) (op : CmpOp) (b : Ex) (ρ : DEnv) (k : Kn D) : Kn D := fun d S => wp (ev T b ρ) S (kCmp2 op d k)
@[simp ↓] theorem kCmp1_ {T : TabT} {op : CmpOp} {b : Ex} {ρ : DEnv} : kCmp1 T op b ρ k d S = wp (ev T b ρ) S (kCmp2 op d k) := (rfl)
@[simp ↓] theorem wp_cmp {op : CmpOp} {a b : Ex} : wp (ev T (.cmp op a b) ρ) S k = wp (ev T a ρ) S (kCmp1 T op b ρ k) := by
  conv => lhs; unfold ev
  simp only [wp_bnd]
  rfl
def kCh5 (o2 : CmpOp) (e : D) (k : Kn D) : Kn D := fun w S => wp (cmpD o2 e w) S k
@[simp ↓] theorem kCh5_ {o2 : CmpOp} {e : D} : kCh5 o2 e k w S = wp (cmpD o2 e w) S k := (rfl)
def kCh4 (T : TabT) (o2 : CmpOp) (c : Ex) (ρ : DEnv) (e : D) (k : Kn D) : Kn Bool := fun b S => if b = true then wp (ev T c ρ) S (kCh5 o2 e k) else k (.bl false) S
@[simp ↓] theorem kCh4_ {T : TabT} {o2 : CmpOp} {c : Ex} {ρ : DEnv} {e : D} : kCh4 T o2 c ρ e k b S = if b = true then wp (ev T c ρ) S (kCh5 o2 e k) else k (.bl false) S := (rfl)
def kCh3 (T : TabT) (o2 : CmpOp) (c : Ex) (ρ : DEnv) (e : D) (k : Kn D) : Kn D := fun v S => bzk v S (kCh4 T o2 c ρ e k)
@[simp ↓] theorem kCh3_ {T : TabT} {o2 : CmpOp} {c : Ex} {ρ : DEnv} {e : D} : kCh3 T o2 c ρ e k v S = bzk v S (kCh4 T o2 c ρ e k) := (rfl)
def kCh2 (T : TabT) (o1 o2 : CmpOp) (c : Ex) (ρ : DEnv) (d : D) (k : Kn D) : Kn D := fun e S => wp (cmpD o1 d e) S (kCh3 T o2 c ρ e k)
@[simp ↓] theorem kCh2_ {T : TabT} {o1 o2 : CmpOp} {c : Ex} {ρ : DEnv} {d : D} : kCh2 T o1 o2 c ρ d k e S = wp (cmpD o1 d e) S (kCh3 T o2 c ρ e k) := (rfl)
def kCh1 (T : TabT) (o1 o2 : CmpOp) (b c : Ex) (ρ : DEnv) (k : Kn D) : Kn D := fun d S => wp (ev T b ρ) S (kCh2 T o1 o2 c ρ d k)
@[simp ↓] theorem kCh1_ {T : TabT} {o1 o2 : CmpOp} {b c : Ex} {ρ : DEnv} : kCh1 T o1 o2 b c ρ k d S = wp (ev T b ρ) S (kCh2 T o1 o2 c ρ d k) := (rfl)
@[simp ↓] theorem wp_chain {o1 o2 : CmpOp} {a b c : Ex} : wp (ev T (.chain o1 o2 a b c) ρ) S k = wp (ev T a ρ) S (kCh1 T o1 o2 b c ρ k) := by
  conv => lhs; unfold ev
  simp only [wp_bnd, chainM, wp_asB, wp_ite, wp_ret]
  rfl
def kNeg  (k : Kn D) : Kn D := fun d S => (match d with | .int i => k (.int (-i)) S | _ => False)
@[simp ↓] theorem kNeg_ {i : Int} : kNeg k (.int i) S = k (.int (-i)) S := (rfl)
@[simp ↓] theorem wp_neg {a : Ex} : wp (ev T (.neg a) ρ) S k = wp (ev T a ρ) S (kNeg k) := by
  conv => lhs; unfold ev
  simp only [wp_bnd]
  refine congrArg _ ?_; funext d S1
  cases d <;> rfl
def kNot  (k : Kn D) : Kn D := fun d S => (match d with | .bl b => k (.bl (!b)) S | _ => False)
@[simp ↓] theorem kNot_ {b : Bool} : kNot k (.bl b) S = k (.bl (!b)) S := (rfl)
@[simp ↓] theorem wp_not {a : Ex} : wp (ev T (.not a) ρ) S k = wp (ev T a ρ) S (kNot k) := by
  conv => lhs; unfold ev notM tsM
  simp only [wp_bnd, wp_ret, wp_asB]
  refine congrArg _ ?_; funext d S1
  cases d <;> rfl
def kAnd (T : TabT) (b : Ex) (ρ : DEnv) (k : Kn D) : Kn D := fun d S => (match d with | .bl c => (if c = true then wp (ev T b ρ) S k else k (.bl false) S) | _ => False)
@[simp ↓] theorem kAnd_ {b : Ex} {c : Bool} : kAnd T b ρ k (.bl c) S = if c = true then wp (ev T b ρ) S k else k (.bl false) S := (rfl)
@[simp ↓] theorem wp_and {a b : Ex} : wp (ev T (.and a b) ρ) S k = wp (ev T a ρ) S (kAnd T b ρ k) := by
  conv => lhs; unfold ev andM tsM
  simp only [wp_bnd, wp_ret, wp_ite, wp_asB]
  refine congrArg _ ?_; funext d S1
  cases d <;> rfl
def kOr (T : TabT) (b : Ex) (ρ : DEnv) (k : Kn D) : Kn D := fun d S => (match d with | .bl c => (if c = true then k (.bl true) S else wp (ev T b ρ) S k) | _ => False)
@[simp ↓] theorem kOr_ {b : Ex} {c : Bool} : kOr T b ρ k (.bl c) S = if c = true then k (.bl true) S else wp (ev T b ρ) S k := (rfl)
@[simp ↓] theorem wp_or {a b : Ex} : wp (ev T (.or a b) ρ) S k = wp (ev T a ρ) S (kOr T b ρ k) := by
  conv => lhs; unfold ev orM tsM
  simp only [wp_bnd, wp_ret, wp_ite, wp_asB]
  refine congrArg _ ?_; funext d S1
  cases d <;> rfl
def kEif (T : TabT) (a b : Ex) (ρ : DEnv) (k : Kn D) : Kn D := fun d S => (match d with | .bl c => (if c = true then wp (ev T a ρ) S k else wp (ev T b ρ) S k) | _ => False)
@[simp ↓] theorem kEif_ {a b : Ex} {c : Bool} : kEif T a b ρ k (.bl c) S = if c = true then wp (ev T a ρ) S k else wp (ev T b ρ) S k := (rfl)
@[simp ↓] theorem wp_eite {c a b : Ex} : wp (ev T (.ite c a b) ρ) S k = wp (ev T c ρ) S (kEif T a b ρ k) := by
  conv => lhs; unfold ev ifM tsM
  simp only [wp_bnd, wp_ret, wp_ite, wp_asB]
  refine congrArg _ ?_; funext d S1
  cases d <;> rfl
def kTup  (k : Kn D) : Kn (List D) := fun ds S => if ds.length ≤ big then k (.tup ds) S else False
@[simp ↓] theorem kTup_ {ds : List D} : kTup k ds S = if ds.length ≤ big then k (.tup ds) S else False := (rfl)
@[simp ↓] theorem wp_tup {es : Exs} : wp (ev T (.tup es) ρ) S k = wp (evs T es ρ) S (kTup k) := by
  conv => lhs; unfold ev tupM
  simp only [wp_bnd, wp_ret, wp_ite, wp_fail]
  rfl
def kLst (m : Bool) (k : Kn D) : Kn (List D) := fun ds S => if ds.length ≤ big then wp (fin m ds) S k else False
@[simp ↓] theorem kLst_ {ds : List D} : kLst m k ds S = if ds.length ≤ big then wp (fin m ds) S k else False := (rfl)
@[simp ↓] theorem wp_lst {es : Exs} : wp (ev T (.lst m es) ρ) S k = wp (evs T es ρ) S (kLst m k) := by
  conv => lhs; unfold ev lstM
  simp only [wp_bnd, wp_ret, wp_ite, wp_fail]
  rfl
@[simp ↓] theorem wp_finF {ds : List D} : wp (fin false ds) S k = k (.lst ds) S := (rfl)
@[simp ↓] theorem wp_finT {ds : List D} : wp (fin true ds) S k = k (.adr S.length) (S ++ [.lst ds]) := (rfl)
@[simp ↓] theorem wp_finDF {ds : List (Key × D)} : wp (finD false ds) S k = k (.dct ds) S := (rfl)
@[simp ↓] theorem wp_finDT {ds : List (Key × D)} : wp (finD true ds) S k = k (.adr S.length) (S ++ [.dct ds]) := (rfl)
def kIx2 (d : D) (k : Kn D) : Kn D := fun e S => wp (ixD d e) S k
@[simp ↓] theorem kIx2_ {d : D} : kIx2 d k e S = wp (ixD d e) S k := (rfl)
def kIx1 (T : TabT) (b : Ex) (ρ : DEnv) (k : Kn D) : Kn D := fun d S => wp (ev T b ρ) S (kIx2 d k)
@[simp ↓] theorem kIx1_ {T : TabT} {b : Ex} {ρ : DEnv} : kIx1 T b ρ k d S = wp (ev T b ρ) S (kIx2 d k) := (rfl)
@[simp ↓] theorem wp_ix {a b : Ex} : wp (ev T (.ix a b) ρ) S k = wp (ev T a ρ) S (kIx1 T b ρ k) := by
  conv => lhs; unfold ev
  simp only [wp_bnd]
  rfl
def kNoN  (k : Kn D) : Kn D := fun d S => (match d with | .int i => k (.int i) S | _ => False)
@[simp ↓] theorem kNoN_ {i : Int} : kNoN k (.int i) S = k (.int i) S := (rfl)
@[simp ↓] theorem wp_noN {a : Ex} : wp (ev T (.noN a) ρ) S k = wp (ev T a ρ) S (kNoN k) := by
  conv => lhs; unfold ev noN
  simp only [wp_bnd]
  refine congrArg _ ?_; funext d S1
  cases d <;> rfl
def kSl3 (m : Bool) (d : D) (lo : Option Int) (k : Kn D) : Kn D := fun h S => ozk (partO h) S (fun hi S => wp (slD m d lo hi) S k)
@[simp ↓] theorem kSl3_n {d : D} {lo : Option Int} : kSl3 m d lo k .non S = wp (slD m d lo none) S k := (rfl)
@[simp ↓] theorem kSl3_i {d : D} {lo : Option Int} {i : Int} : kSl3 m d lo k (.int i) S = wp (slD m d lo (some i)) S k := (rfl)
def kSl2 (T : TabT) (m : Bool) (d : D) (hi : Ex) (ρ : DEnv) (k : Kn D) : Kn D := fun l S => ozk (partO l) S (fun lo S => wp (ev T hi ρ) S (kSl3 m d lo k))
@[simp ↓] theorem kSl2_n {d : D} {hi : Ex} : kSl2 T m d hi ρ k .non S = wp (ev T hi ρ) S (kSl3 m d none k) := (rfl)
@[simp ↓] theorem kSl2_i {d : D} {hi : Ex} {i : Int} : kSl2 T m d hi ρ k (.int i) S = wp (ev T hi ρ) S (kSl3 m d (some i) k) := (rfl)
def kSl1 (T : TabT) (m : Bool) (lo hi : Ex) (ρ : DEnv) (k : Kn D) : Kn D := fun d S => wp (ev T lo ρ) S (kSl2 T m d hi ρ k)
@[simp ↓] theorem kSl1_ {T : TabT} {m : Bool} {lo hi : Ex} {ρ : DEnv} : kSl1 T m lo hi ρ k d S = wp (ev T lo ρ) S (kSl2 T m d hi ρ k) := (rfl)
@[simp ↓] theorem wp_sl {a lo hi : Ex} : wp (ev T (.sl m a lo hi) ρ) S k = wp (ev T a ρ) S (kSl1 T m lo hi ρ k) := by
  conv => lhs; unfold ev slM partM
  simp only [wp_bnd, wp_look]
  rfl
def kBi (m : Bool) (b : Bi) (k : Kn D) : Kn (List D) := fun ds S => wp (biD m b ds) S k
@[simp ↓] theorem kBi_ {m : Bool} {b : Bi} : kBi m b k ds S = wp (biD m b ds) S k := (rfl)
@[simp ↓] theorem wp_bi {b : Bi} {es : Exs} : wp (ev T (.bi m b es) ρ) S k = wp (evs T es ρ) S (kBi m b k) := by
  conv => lhs; unfold ev appM
  simp only [wp_bnd]
  rfl
def kIsi (ts : List String) (k : Kn D) : Kn D := fun d S => ozk ((tyO S d).map fun t => D.bl (ts.any (subTy t))) S k
@[simp ↓] theorem kIsi_ {ts : List String} : kIsi ts k d S = ozk ((tyO S d).map fun t => D.bl (ts.any (subTy t))) S k := (rfl)
@[simp ↓] theorem wp_isi {a : Ex} {ts : List String} : wp (ev T (.isi a ts) ρ) S k = wp (ev T a ρ) S (kIsi ts k) := by
  conv => lhs; unfold ev isiM
  simp only [wp_bnd, wp_look]
  rfl
def kMe2 (me : Me) (d : D) (k : Kn D) : Kn (List D) := fun ds S => wp (meD me d ds) S k
@[simp ↓] theorem kMe2_ {me : Me} {d : D} : kMe2 me d k ds S = wp (meD me d ds) S k := (rfl)
def kMe1 (T : TabT) (me : Me) (es : Exs) (ρ : DEnv) (k : Kn D) : Kn D := fun d S => if rcvO me.ty S d = true then wp (evs T es ρ) S (kMe2 me d k) else False
@[simp ↓] theorem kMe1_ {T : TabT} {me : Me} {es : Exs} {ρ : DEnv} : kMe1 T me es ρ k d S = if rcvO me.ty S d = true then wp (evs T es ρ) S (kMe2 me d k) else False := (rfl)
@[simp ↓] theorem wp_emeth {me : Me} {a : Ex} {es : Exs} : wp (ev T (.meth me a es) ρ) S k = wp (ev T a ρ) S (kMe1 T me es ρ k) := by
  conv => lhs; unfold ev methM
  simp only [wp_bnd]
  refine congrArg _ ?_; funext d S1
  unfold kMe1
  by_cases c : rcvO me.ty S1 d = true
  · rw [if_pos c]
    have e : rcvM me.ty d S1 = .ok () S1 := if_pos c
    rw [wp_ok e]
    rfl
  · rw [if_neg c]
    have e : rcvM me.ty d S1 = .bad := if_neg c
    unfold wp
    rw [e]
def kCall (T : TabT) (g : Nat) (k : Kn D) : Kn (List D) := fun ds S => wp (T g ds) S k
@[simp ↓] theorem kCall_ {T : TabT} {g : Nat} : kCall T g k ds S = wp (T g ds) S k := (rfl)
@[simp ↓] theorem wp_call {g : Nat} {es : Exs} : wp (ev T (.call g es) ρ) S k = wp (evs T es ρ) S (kCall T g k) := by
  conv => lhs; unfold ev callM
  simp only [wp_bnd, wp_atM]
  rfl
def kOp1 (f : Op1) (m : Bool) (k : Kn D) : Kn D := fun d S => wp (op1D f m d) S k
@[simp ↓] theorem kOp1_ {f : Op1} {m : Bool} : kOp1 f m k d S = wp (op1D f m d) S k := (rfl)
@[simp ↓] theorem wp_op1 {f : Op1} {m : Bool} {a : Ex} : wp (ev T (.op1 f m a) ρ) S k = wp (ev T a ρ) S (kOp1 f m k) := by
  conv => lhs; unfold ev un1
  simp only [wp_bnd]
  rfl
def kLrg2 (m : Bool) (d : D) (k : Kn D) : Kn D := fun e S => wp (lrg2D m d e) S k
@[simp ↓] theorem kLrg2_ {m : Bool} {d e : D} : kLrg2 m d k e S = wp (lrg2D m d e) S k := (rfl)
def kLrg1 (T : TabT) (m : Bool) (b : Ex) (ρ : DEnv) (k : Kn D) : Kn D := fun d S => wp (ev T b ρ) S (kLrg2 m d k)
@[simp ↓] theorem kLrg1_ {m : Bool} {b : Ex} : kLrg1 T m b ρ k d S = wp (ev T b ρ) S (kLrg2 m d k) := (rfl)
@[simp ↓] theorem wp_lrg2 {m : Bool} {a b : Ex} : wp (ev T (.lrg2 m a b) ρ) S k = wp (ev T a ρ) S (kLrg1 T m b ρ k) := by
  conv => lhs; unfold ev un2
  simp only [wp_bnd]
  rfl
def kFld (cs : List Str) (f : Str) (k : Kn D) : Kn D := fun d S => ozk (fldO cs f S d) S k
theorem kFld_at {cs : List Str} {f c : Str} {fs : List (Str × D)} {n : Nat} {d : D} (h : S[n]? = some (.ins c fs)) (hc : cs.contains c = true) (hl : fs.lookup f = some d) : kFld cs f k (.adr n) S = k d S := by
  unfold kFld fldO insO
  simp only [h]
  rw [if_pos hc, hl]
  rfl
@[simp ↓] theorem wp_fld {cs : List Str} {f : Str} {a : Ex} : wp (ev T (.fld cs f a) ρ) S k = wp (ev T a ρ) S (kFld cs f k) := by
  conv => lhs; unfold ev fldM
  simp only [wp_bnd, wp_look]
  rfl
def kMk2 (n : Nat) (k : Kn D) : Kn D := fun r S => match r with
  | .non => k (.adr n) S
  | _ => False
@[simp ↓] theorem kMk2_ {n : Nat} : kMk2 n k .non S = k (.adr n) S := (rfl)
def kMk (T : TabT) (x : Str) (g : Nat) (k : Kn D) : Kn (List D) := fun ds S => wp (T g (.adr S.length :: ds)) (S ++ [.ins x []]) (kMk2 S.length k)
@[simp ↓] theorem kMk_ {T : TabT} {x : Str} {g : Nat} {ds : List D} : kMk T x g k ds S = wp (T g (.adr S.length :: ds)) (S ++ [.ins x []]) (kMk2 S.length k) := (rfl)
theorem wp_mkD {T : TabT} {x : Str} {g : Nat} {ds : List D} : wp (mkD T x g ds) S k = kMk T x g k ds S := by
  unfold mkD kMk
  rw [wp_bnd]
  show wp (bnd (T g (.adr S.length :: ds)) _) (S ++ [.ins x []]) k = _
  rw [wp_bnd]
  refine congrArg _ ?_; funext r S1
  cases r <;> rfl
@[simp ↓] theorem wp_mk {x : Str} {g : Nat} {es : Exs} : wp (ev T (.mk x g es) ρ) S k = wp (evs T es ρ) S (kMk T x g k) := by
  conv => lhs; unfold ev callM
  rw [wp_bnd]
  refine congrArg _ ?_; funext ds S1
  rw [wp_atM]
  exact wp_mkD
def kMc3 (T : TabT) (g : Nat) (d : D) (k : Kn D) : Kn (List D) := fun ds S => wp (T g (d :: ds)) S k
@[simp ↓] theorem kMc3_ {T : TabT} {g : Nat} {d : D} {ds : List D} : kMc3 T g d k ds S = wp (T g (d :: ds)) S k := (rfl)
def kMc2 (T : TabT) (es : Exs) (ρ : DEnv) (d : D) (k : Kn D) : Kn Nat := fun g S => wp (evs T es ρ) S (kMc3 T g d k)
@[simp ↓] theorem kMc2_ {T : TabT} {es : Exs} {ρ : DEnv} {d : D} {g : Nat} : kMc2 T es ρ d k g S = wp (evs T es ρ) S (kMc3 T g d k) := (rfl)
def kMc1 (T : TabT) (mt : List (Str × Nat)) (m : Str) (es : Exs) (ρ : DEnv) (k : Kn D) : Kn D := fun d S => ozk (mOf mt m S d) S (kMc2 T es ρ d k)
theorem kMc1_at {T : TabT} {mt : List (Str × Nat)} {m c : Str} {es : Exs} {ρ : DEnv} {fs : List (Str × D)} {n g : Nat} (h : S[n]? = some (.ins c fs)) (hm : fs.lookup m = none) (hg : mt.lookup c = some g) : kMc1 T mt m es ρ k (.adr n) S = wp (evs T es ρ) S (kMc3 T g (.adr n) k) := by
  unfold kMc1 mOf insO
  simp only [h]
  rw [if_neg (by rw [hm]; exact Bool.false_ne_true), hg]
  rfl
@[simp ↓] theorem wp_mcall {mt : List (Str × Nat)} {m : Str} {a : Ex} {es : Exs} : wp (ev T (.mcall mt m a es) ρ) S k = wp (ev T a ρ) S (kMc1 T mt m es ρ k) := by
  conv => lhs; unfold ev mcallM
  rw [wp_bnd]
  refine congrArg _ ?_; funext d S1
  rw [wp_bnd, wp_look]
  unfold kMc1
  refine congrArg _ ?_; funext g S2
  rw [wp_bnd]
  simp only [wp_atM]
  rfl
@[simp ↓] theorem wp_evs_nil : wp (evs T .nil ρ) S ks = ks [] S := by unfold evs nilM; rfl
def kEs2 (d : D) (ks : Kn (List D)) : Kn (List D) := fun ds S => ks (d :: ds) S
@[simp ↓] theorem kEs2_ {d : D} : kEs2 d ks ds S = ks (d :: ds) S := (rfl)
def kEs1 (T : TabT) (es : Exs) (ρ : DEnv) (ks : Kn (List D)) : Kn D := fun d S => wp (evs T es ρ) S (kEs2 d ks)
@[simp ↓] theorem kEs1_ {T : TabT} {es : Exs} {ρ : DEnv} : kEs1 T es ρ ks d S = wp (evs T es ρ) S (kEs2 d ks) := (rfl)
@[simp ↓] theorem wp_evs_cons {e : Ex} {es : Exs} : wp (evs T (.cons e es) ρ) S ks = wp (ev T e ρ) S (kEs1 T es ρ ks) := by
  conv => lhs; unfold evs consM
  simp only [wp_bnd, wp_ret]
  rfl
@[simp ↓] theorem wp_dnew  : wp (ev T (.dnew m) ρ) S k = wp (finD m []) S k := by
  conv => lhs; unfold ev newD
def kDn2 (kd : D) (k : Kn D) : Kn D := fun d S => if (nkO kd).isSome = true then k (.adr S.length) (S ++ [.dcn [(kd, d)]]) else False
@[simp ↓] theorem kDn2_ {kd d : D} : kDn2 kd k d S = if (nkO kd).isSome = true then k (.adr S.length) (S ++ [.dcn [(kd, d)]]) else False := (rfl)
def kDn1 (T : TabT) (b : Ex) (ρ : DEnv) (k : Kn D) : Kn D := fun kd S => wp (ev T b ρ) S (kDn2 kd k)
@[simp ↓] theorem kDn1_ {b : Ex} {kd : D} : kDn1 T b ρ k kd S = wp (ev T b ρ) S (kDn2 kd k) := (rfl)
@[simp ↓] theorem wp_dispN {a b : Ex} : wp (ev T (.dispN a b) ρ) S k = wp (ev T a ρ) S (kDn1 T b ρ k) := by
  conv => lhs; unfold ev dispN
  have e1 : ∀ {m : M (D × D)} {S : Store} {K : Kn (D × D)}, wp (noExc fun S => m S) S K = wp m S K := fun {m S K} => wp_noExc
  rw [wp_bnd, e1]
  rw [wp_bnd]
  refine congrArg _ ?_; funext kd S1
  rw [wp_bnd]
  refine congrArg _ ?_; funext d S2
  rw [wp_ret]
  unfold wp
  cases h : nkO kd with
  | none => simp [kDn2, h]
  | some q => simp [kDn2, h]
abbrev kPs := Kn (List (Key × D))
def kDisp (m : Bool) (k : Kn D) : Kn (List (Key × D)) := fun kds S => if kds.length ≤ 15 then wp (finD m (mergeD [] kds)) S k else False
@[simp ↓] theorem kDisp_ {kds : List (Key × D)} : kDisp m k kds S = if kds.length ≤ 15 then wp (finD m (mergeD [] kds)) S k else False := (rfl)
@[simp ↓] theorem wp_disp {ps : Exps} : wp (ev T (.disp m ps) ρ) S k = wp (prsM (evp T ps) ρ) S (kDisp m k) := by
  conv => lhs; unfold ev dispM
  simp only [wp_bnd, wp_noExc, wp_ite, wp_fail]
  rfl
@[simp ↓] theorem wp_prs_nil {kp : kPs} : wp (prsM (evp T .nil) ρ) S kp = kp [] S := by unfold evp prsM; rfl
def kPr3 (key : Key) (d : D) (kp : kPs) : Kn (List (Key × D)) := fun r S => kp ((key, d) :: r) S
@[simp ↓] theorem kPr3_ {key : Key} {d : D} {kp : kPs} {r : List (Key × D)} : kPr3 key d kp r S = kp ((key, d) :: r) S := (rfl)
def kPr2 (T : TabT) (ps : Exps) (ρ : DEnv) (kd : D) (kp : kPs) : Kn D := fun d S => ozk (keyO kd) S (fun key S => wp (prsM (evp T ps) ρ) S (kPr3 key d kp))
@[simp ↓] theorem kPr2_s {ps : Exps} {x : Str} {d : D} {kp : kPs} : kPr2 T ps ρ (.str x) kp d S = wp (prsM (evp T ps) ρ) S (kPr3 (.inr x) d kp) := (rfl)
@[simp ↓] theorem kPr2_i {ps : Exps} {x : Int} {d : D} {kp : kPs} : kPr2 T ps ρ (.int x) kp d S = wp (prsM (evp T ps) ρ) S (kPr3 (.inl x) d kp) := (rfl)
def kPr1 (T : TabT) (v : Ex) (ps : Exps) (ρ : DEnv) (kp : kPs) : Kn D := fun kd S => wp (ev T v ρ) S (kPr2 T ps ρ kd kp)
@[simp ↓] theorem kPr1_ {v : Ex} {ps : Exps} {kd : D} {kp : kPs} : kPr1 T v ps ρ kp kd S = wp (ev T v ρ) S (kPr2 T ps ρ kd kp) := (rfl)
@[simp ↓] theorem wp_prs_cons {c v : Ex} {ps : Exps} {kp : kPs} : wp (prsM (evp T (.cons c v ps)) ρ) S kp = wp (ev T c ρ) S (kPr1 T v ps ρ kp) := by
  conv => lhs; unfold evp prsM
  simp only [wp_bnd, wp_ret, wp_look]
  rfl
/-! ### comprehensions and loops over what stays -/
def lcV (turn : Itm → M (Option D)) : List Itm → List D → M (List D)
  | [], acc => ret acc
  | it :: r, acc => bnd (turn it) fun o => match o with
    | some d => if acc.length < big then lcV turn r (acc ++ [d]) else fail
    | none => lcV turn r acc
theorem lcS_val (turn : Itm → M (Option D)) (its : List Itm) : ∀ (k i : Nat) (acc : List D), k + i = its.length → lcS (.val its) turn (k + 1) i acc = lcV turn (its.drop i) acc
  | 0, i, acc, h => by
    have hi : i = its.length := by omega
    funext S
    unfold lcS Src.at
    simp only
    rw [if_pos (by omega), hi, List.drop_length, List.getElem?_eq_none (Nat.le_refl _)]
    rfl
  | k + 1, i, acc, h => by
    have hi : i < its.length := by omega
    have ih := fun acc => lcS_val turn its k (i + 1) acc (by omega)
    funext S
    unfold lcS Src.at
    simp only
    rw [if_pos (by omega), List.getElem?_eq_getElem hi, List.drop_eq_getElem_cons hi]
    unfold lcV
    simp only [ih] <;> rfl

def kLc2 (m : Bool) (k : Kn D) : Kn (List D) := fun ds S => wp (fin m ds) S k
@[simp ↓] theorem kLc2_ {m : Bool} : kLc2 m k ds S = wp (fin m ds) S k := (rfl)
def kLc1 (T : TabT) (m : Bool) (t : Tg) (c e : Ex) (ρ : DEnv) (k : Kn D) : Kn Src := fun src S => wp (lcS src (turnM t (ev T c) (ev T e) ρ) src.fuel 0 []) S (kLc2 m k)
@[simp ↓] theorem kLc1_ {t : Tg} {c e : Ex} {its : List Itm} : kLc1 T m t c e ρ k (.val its) S = wp (lcV (turnM t (ev T c) (ev T e) ρ) its []) S (kLc2 m k) := by
  unfold kLc1
  rw [show (Src.val its).fuel = its.length + 1 from rfl, lcS_val _ its its.length 0 [] (by omega)]
  rfl
@[simp ↓] theorem wp_lc {t : Tg} {s : Sx} {c e : Ex} {own : List Nat} : wp (ev T (.lc m t s c e own) ρ) S k = wp (evi T s ρ) S (kLc1 T m t c e (wipeD ρ own) k) := by
  conv => lhs; unfold ev lcM
  simp only [wp_bnd]
  rfl
abbrev kOd := Kn (Option D)
def kTn3 (ko : kOd) : Kn D := fun d S => ko (some d) S
@[simp ↓] theorem kTn3_ {ko : kOd} {d : D} : kTn3 ko d S = ko (some d) S := (rfl)
def kTn2 (fe : DEnv → M D) (ρ : DEnv) (ko : kOd) : Kn D := fun d S => match d with | .bl b => (if b = true then wp (fe ρ) S (kTn3 ko) else ko none S) | _ => False
@[simp ↓] theorem kTn2_ {fe : DEnv → M D} {ko : kOd} {b : Bool} : kTn2 fe ρ ko (.bl b) S = if b = true then wp (fe ρ) S (kTn3 ko) else ko none S := (rfl)
def kTn1 (fc fe : DEnv → M D) (ko : kOd) : Kn DEnv := fun ρ S => wp (fc ρ) S (kTn2 fe ρ ko)
@[simp] theorem kTn1_ {fc fe : DEnv → M D} {ko : kOd} : kTn1 fc fe ko ρ S = wp (fc ρ) S (kTn2 fe ρ ko) := (rfl)
@[simp ↓] theorem wp_turn {t : Tg} {fc fe : DEnv → M D} {it : Itm} {ko : kOd} : wp (turnM t fc fe ρ it) S ko = wp (tgI t it ρ) S (kTn1 fc fe ko) := by
  unfold turnM tsM
  simp only [wp_noExc, wp_bnd, wp_ite, wp_ret, wp_asB]
  refine congrArg _ ?_; funext ρ' S1
  unfold kTn1
  refine congrArg _ ?_; funext d S2
  cases d <;> rfl
@[simp ↓] theorem wp_lcV_nil {turn : Itm → M (Option D)} {acc : List D} : wp (lcV turn [] acc) S ks = ks acc S := (rfl)
def kLv (turn : Itm → M (Option D)) (r : List Itm) (acc : List D) (ks : Kn (List D)) : Kn (Option D) := fun o S => match o with
  | some d => (if acc.length < big then wp (lcV turn r (acc ++ [d])) S ks else False)
  | none => wp (lcV turn r acc) S ks
@[simp] theorem kLv_s {turn : Itm → M (Option D)} {r : List Itm} {acc : List D} {d : D} : kLv turn r acc ks (some d) S = if acc.length < big then wp (lcV turn r (acc ++ [d])) S ks else False := (rfl)
@[simp] theorem kLv_n {turn : Itm → M (Option D)} {r : List Itm} {acc : List D} : kLv turn r acc ks none S = wp (lcV turn r acc) S ks := (rfl)
/-- one turn after the other -/
theorem wp_lcV_cons {turn : Itm → M (Option D)} {it : Itm} {r : List Itm} {acc : List D} : wp (lcV turn (it :: r) acc) S ks = wp (turn it) S (kLv turn r acc ks) := by
  conv => lhs; unfold lcV
  rw [wp_bnd]
  refine congrArg _ ?_; funext o S1
  cases o with
  | none => rfl
  | some d =>
    show wp (if acc.length < big then lcV turn r (acc ++ [d]) else fail) S1 ks = _
    rw [wp_ite]
    rfl
/-- each turn tells one thing -/
theorem wp_lcV_pure {turn : Itm → M (Option D)} (f : Itm → Option D) : ∀ {its : List Itm} {acc : List D}, (∀ it ∈ its, ∀ S, wp (turn it) S fun o S' => o = f it ∧ S' = S) → acc.length + its.length ≤ big → lcV turn its acc = ret (acc ++ its.filterMap f)
  | [], acc, _, _ => by unfold lcV; rw [List.filterMap_nil, List.append_nil]
  | it :: r, acc, h, z => by
    have e : turn it = ret (f it) := ret_of_wp (h it (List.mem_cons_self ..))
    rw [List.length_cons] at z
    unfold lcV
    rw [e, ret_bnd]
    cases q : f it with
    | none =>
      simp only
      rw [wp_lcV_pure f (fun it' hm => h it' (List.mem_cons_of_mem _ hm)) (by omega), List.filterMap_cons_none q]
    | some d =>
      simp only
      rw [if_pos (by omega), wp_lcV_pure f (fun it' hm => h it' (List.mem_cons_of_mem _ hm)) (by rw [List.length_append, List.length_singleton]; omega), List.filterMap_cons_some q, List.append_assoc]
      rfl
/-- a row of things, each of a kind, while a property of the store holds -/
inductive All2 {α β : Type} (Q : α → β → Prop) : List α → List β → Prop
  | nil : All2 Q [] []
  | cons {a : α} {b : β} {as : List α} {bs : List β} (h : Q a b) (t : All2 Q as bs) : All2 Q (a :: as) (b :: bs)
theorem All2.length {α β : Type} {Q : α → β → Prop} {as : List α} {bs : List β} (h : All2 Q as bs) : as.length = bs.length := by
  induction h with
  | nil => rfl
  | cons _ _ ih => rw [List.length_cons, List.length_cons, ih]
theorem wp_lcV_map {turn : Itm → M (Option D)} (J : Store → Prop) (Q : Itm → D → Prop) : ∀ {its : List Itm} {acc : List D} {S : Store} {Ps : Kn (List D)}, (∀ it ∈ its, ∀ S, J S → wp (turn it) S fun o S' => J S' ∧ ∃ d, o = some d ∧ Q it d) → acc.length + its.length ≤ big → J S →
    (∀ ds S', J S' → All2 Q its ds → Ps (acc ++ ds) S') → wp (lcV turn its acc) S Ps
  | [], acc, S, Ps, _, _, j, k => by
    unfold lcV
    have := k [] S j .nil
    rw [List.append_nil] at this
    exact this
  | it :: r, acc, S, Ps, h, z, j, k => by
    rw [List.length_cons] at z
    unfold lcV
    rw [wp_bnd]
    refine wp_mono (h it (List.mem_cons_self ..) S j) fun o S' ⟨j', d, e, q⟩ => ?_
    subst e
    simp only
    rw [if_pos (by omega)]
    refine wp_lcV_map J Q (fun it' hm => h it' (List.mem_cons_of_mem _ hm)) (by rw [List.length_append, List.length_singleton]; omega) j' fun ds S2 j2 a => ?_
    rw [List.append_assoc]
    exact k _ _ j2 (.cons q a)
theorem wp_lcV_any {turn : Itm → M (Option D)} (J : Store → Prop) (Q : D → Prop) : ∀ {its : List Itm} {acc : List D} {S : Store} {Ps : Kn (List D)}, (∀ it ∈ its, ∀ S, J S → wp (turn it) S fun o S' => J S' ∧ ∀ d, o = some d → Q d) → acc.length + its.length ≤ big → J S →
    (∀ ds S', J S' → (∀ d ∈ ds, Q d) → ds.length ≤ its.length → Ps (acc ++ ds) S') → wp (lcV turn its acc) S Ps
  | [], acc, S, Ps, _, _, j, k => by
    unfold lcV
    have := k [] S j (fun _ h => nomatch h) (Nat.le_refl _)
    rw [List.append_nil] at this
    exact this
  | it :: r, acc, S, Ps, h, z, j, k => by
    rw [List.length_cons] at z
    unfold lcV
    rw [wp_bnd]
    refine wp_mono (h it (List.mem_cons_self ..) S j) fun o S' ⟨j', q⟩ => ?_
    cases o with
    | none =>
      simp only
      exact wp_lcV_any J Q (fun it' hm => h it' (List.mem_cons_of_mem _ hm)) (by omega) j' fun ds S2 j2 a l => k _ _ j2 a (by rw [List.length_cons]; omega)
    | some d =>
      simp only
      rw [if_pos (by omega)]
      refine wp_lcV_any J Q (fun it' hm => h it' (List.mem_cons_of_mem _ hm)) (by rw [List.length_append, List.length_singleton]; omega) j' fun ds S2 j2 a l => ?_
      rw [List.append_assoc]
      refine k _ _ j2 (fun e he => ?_) (by rw [List.length_append, List.length_singleton, List.length_cons]; omega)
      rcases List.mem_append.mp he with he | he
      · rw [List.mem_singleton.mp he]; exact q d rfl
      · exact a e he

def kSrc  (ki : Kn Src) : Kn D := fun d S => ozk (srcO S d) S ki
@[simp ↓] theorem kSrc_ {d : D} : kSrc ki d S = ozk (srcO S d) S ki := (rfl)
@[simp ↓] theorem wp_evi_seq {a : Ex} : wp (evi T (.seq a) ρ) S ki = wp (ev T a ρ) S (kSrc ki) := by
  conv => lhs; unfold evi seqM
  simp only [wp_bnd, wp_look]
  rfl
def kRg  (ki : Kn Src) : Kn D := fun d S => ozk (rng1O d) S ki
@[simp ↓] theorem kRg_ {d : D} : kRg ki d S = ozk (rng1O d) S ki := (rfl)
@[simp ↓] theorem wp_evi_rng1 {a : Ex} : wp (evi T (.rng1 a) ρ) S ki = wp (ev T a ρ) S (kRg ki) := by
  conv => lhs; unfold evi rng1M
  simp only [wp_bnd, wp_look]
  rfl
def kRg2 (d : D) (ki : Kn Src) : Kn D := fun e S => ozk (rng2O d e) S ki
@[simp ↓] theorem kRg2_ {d e : D} : kRg2 d ki e S = ozk (rng2O d e) S ki := (rfl)
def kRg1 (T : TabT) (b : Ex) (ρ : DEnv) (ki : Kn Src) : Kn D := fun d S => wp (ev T b ρ) S (kRg2 d ki)
@[simp ↓] theorem kRg1_ {b : Ex} {d : D} : kRg1 T b ρ ki d S = wp (ev T b ρ) S (kRg2 d ki) := (rfl)
@[simp ↓] theorem wp_evi_rng2 {a b : Ex} : wp (evi T (.rng2 a b) ρ) S ki = wp (ev T a ρ) S (kRg1 T b ρ ki) := by
  conv => lhs; unfold evi rng2M
  simp only [wp_bnd, wp_look]
  rfl
def kZp2 (d : D) (ki : Kn Src) : Kn D := fun e S => ozk (zipO d e) S ki
@[simp ↓] theorem kZp2_ {d e : D} : kZp2 d ki e S = ozk (zipO d e) S ki := (rfl)
def kZp1 (T : TabT) (b : Ex) (ρ : DEnv) (ki : Kn Src) : Kn D := fun d S => wp (ev T b ρ) S (kZp2 d ki)
@[simp ↓] theorem kZp1_ {b : Ex} {d : D} : kZp1 T b ρ ki d S = wp (ev T b ρ) S (kZp2 d ki) := (rfl)
@[simp ↓] theorem wp_evi_zip {a b : Ex} : wp (evi T (.zip a b) ρ) S ki = wp (ev T a ρ) S (kZp1 T b ρ ki) := by
  conv => lhs; unfold evi zipM
  simp only [wp_bnd, wp_look]
  rfl
def kEn  (ki : Kn Src) : Kn D := fun d S => ozk (enumO S d) S ki
@[simp ↓] theorem kEn_ {d : D} : kEn ki d S = ozk (enumO S d) S ki := (rfl)
@[simp ↓] theorem wp_evi_enum {a : Ex} : wp (evi T (.enum a) ρ) S ki = wp (ev T a ρ) S (kEn ki) := by
  conv => lhs; unfold evi enumM
  simp only [wp_bnd, wp_look]
  rfl
@[simp ↓] theorem wp_tgN {i : Nat} {d : D} : wp (tgM (.n i) d ρ) S ke = ke (ρ.set i (some d)) S := by unfold tgM; rfl
theorem wp_setf {cs : List Str} {f c : Str} {fs : List (Str × D)} {n : Nat} {x : D} {Pu : Unit → Store → Prop} (h : S[n]? = some (.ins c fs)) (hc : cs.contains c = true) (hl : fs.length < 100) : wp (setfD cs f (.adr n) x) S Pu = Pu () (S.set n (.ins c (putFD f x fs))) := by
  have e : setfD cs f (.adr n) x S = .ok () (S.set n (.ins c (putFD f x fs))) := by
    unfold setfD
    simp only [h]
    rw [if_pos ⟨hc, hl⟩]
  rw [wp_ok e]
def kTf2 (ρ : DEnv) (ke : Kn DEnv) : Kn Unit := fun _ S => ke ρ S
@[simp] theorem kTf2_ {u : Unit} : kTf2 ρ ke u S = ke ρ S := (rfl)
def kTf (cs : List Str) (f : Str) (d : D) (ρ : DEnv) (ke : Kn DEnv) : Kn D := fun o S => wp (setfD cs f o d) S (kTf2 ρ ke)
@[simp ↓] theorem kTf_ {cs : List Str} {f : Str} {d o : D} : kTf cs f d ρ ke o S = wp (setfD cs f o d) S (kTf2 ρ ke) := (rfl)
@[simp ↓] theorem wp_tgF {i : Nat} {cs : List Str} {f : Str} {d : D} : wp (tgM (.fl i cs f) d ρ) S ke = ozk (ρ[i]?).join S (kTf cs f d ρ ke) := by
  unfold tgM varM
  rw [wp_bnd, wp_look]
  refine congrArg _ ?_; funext o S1
  rw [wp_bnd]
  rfl
@[simp ↓] theorem wp_tgT {ts : List Tg} {ds : List D} : wp (tgM (.t ts) (.tup ds) ρ) S ke = if ds.length = ts.length then wp (tgsM ts ds ρ) S ke else False := by
  conv => lhs; unfold tgM
  simp only [wp_ite, wp_fail]
@[simp ↓] theorem wp_tgs_nil {ds : List D} : wp (tgsM [] ds ρ) S ke = ke ρ S := by unfold tgsM; rfl
def kTgs (ts : List Tg) (ds : List D) (ke : Kn DEnv) : Kn DEnv := fun ρ S => wp (tgsM ts ds ρ) S ke
@[simp] theorem kTgs_ {ts : List Tg} {ds : List D} : kTgs ts ds ke ρ S = wp (tgsM ts ds ρ) S ke := (rfl)
@[simp ↓] theorem wp_tgs_cons {t : Tg} {ts : List Tg} {d : D} {ds : List D} : wp (tgsM (t :: ts) (d :: ds) ρ) S ke = wp (tgM t d ρ) S (kTgs ts ds ke) := by
  conv => lhs; unfold tgsM
  simp only [wp_bnd]
  rfl
@[simp ↓] theorem wp_tgI1 {t : Tg} {d : D} : wp (tgI t (.one d) ρ) S ke = wp (tgM t d ρ) S ke := (rfl)
@[simp ↓] theorem wp_tgI2 {t1 t2 : Tg} {d e : D} : wp (tgI (.t [t1, t2]) (.pair d e) ρ) S ke = wp (tgM t1 d ρ) S (kTgs [t2] [e] ke) := by
  conv => lhs; unfold tgI
  simp only [wp_bnd, wp_ret]
  refine congrArg _ ?_; funext ρ' S1
  unfold kTgs tgsM
  rw [wp_bnd]
  rfl
/-! ### statements -/
@[simp ↓] theorem wp_nil : wp (exSs T .nil ρ) S kf = kf (.nx ρ) S := by unfold exSs nxM; rfl
def kSeq (T : TabT) (ss : Stms) (kf : Kn Fl) : Kn Fl := fun fl S => match fl with
  | .nx ρ => wp (exSs T ss ρ) S kf
  | fl => kf fl S
@[simp] theorem kSeq_nx {ss : Stms} : kSeq T ss kf (.nx ρ) S = wp (exSs T ss ρ) S kf := (rfl)
@[simp ↓] theorem kSeq_rt {ss : Stms} {d : D} : kSeq T ss kf (.rt d) S = kf (.rt d) S := (rfl)
@[simp ↓] theorem kSeq_bk {ss : Stms} : kSeq T ss kf (.bk ρ) S = kf (.bk ρ) S := (rfl)
@[simp ↓] theorem kSeq_ct {ss : Stms} : kSeq T ss kf (.ct ρ) S = kf (.ct ρ) S := (rfl)
@[simp ↓] theorem wp_cons {s : Stm} {ss : Stms} : wp (exSs T (.cons s ss) ρ) S kf = wp (exS T s ρ) S (kSeq T ss kf) := by
  conv => lhs; unfold exSs thenM
  rw [wp_bnd]
  refine congrArg _ ?_; funext fl S1
  cases fl <;> rfl
@[simp ↓] theorem wp_pass : wp (exS T .pass ρ) S kf = kf (.nx ρ) S := by unfold exS nxM; rfl
@[simp ↓] theorem wp_bad : wp (exS T .bad ρ) S kf = False := by unfold exS; rfl
def kSf3 (ρ : DEnv) (kf : Kn Fl) : Kn Unit := fun _ S => kf (.nx ρ) S
@[simp] theorem kSf3_ {u : Unit} : kSf3 ρ kf u S = kf (.nx ρ) S := (rfl)
def kSf2 (cs : List Str) (f : Str) (x : D) (ρ : DEnv) (kf : Kn Fl) : Kn D := fun d S => wp (setfD cs f d x) S (kSf3 ρ kf)
@[simp ↓] theorem kSf2_ {cs : List Str} {f : Str} {x d : D} : kSf2 cs f x ρ kf d S = wp (setfD cs f d x) S (kSf3 ρ kf) := (rfl)
def kSf1 (T : TabT) (cs : List Str) (f : Str) (o : Ex) (ρ : DEnv) (kf : Kn Fl) : Kn D := fun x S => wp (ev T o ρ) S (kSf2 cs f x ρ kf)
@[simp ↓] theorem kSf1_ {cs : List Str} {f : Str} {o : Ex} {x : D} : kSf1 T cs f o ρ kf x S = wp (ev T o ρ) S (kSf2 cs f x ρ kf) := (rfl)
@[simp ↓] theorem wp_setfS {cs : List Str} {f : Str} {o e : Ex} : wp (exS T (.setf cs f o e) ρ) S kf = wp (ev T e ρ) S (kSf1 T cs f o ρ kf) := by
  conv => lhs; unfold exS setfM
  rw [wp_bnd]
  refine congrArg _ ?_; funext x S1
  rw [wp_bnd]
  refine congrArg _ ?_; funext d S2
  rw [wp_bnd]
  rfl
@[simp ↓] theorem wp_brk : wp (exS T .brk ρ) S kf = kf (.bk ρ) S := by unfold exS bkM; rfl
@[simp ↓] theorem wp_cnt : wp (exS T .cnt ρ) S kf = kf (.ct ρ) S := by unfold exS ctM; rfl
def kExpr (ρ : DEnv) (kf : Kn Fl) : Kn D := fun _ S => kf (.nx ρ) S
@[simp ↓] theorem kExpr_ {d : D} : kExpr ρ kf d S = kf (.nx ρ) S := (rfl)
@[simp ↓] theorem wp_expr {e : Ex} : wp (exS T (.expr e) ρ) S kf = wp (ev T e ρ) S (kExpr ρ kf) := by
  conv => lhs; unfold exS exprM
  simp only [wp_bnd, wp_ret]
  rfl
def kRet (kf : Kn Fl) : Kn D := fun d S => kf (.rt d) S
@[simp ↓] theorem kRet_ {d : D} : kRet kf d S = kf (.rt d) S := (rfl)
@[simp ↓] theorem wp_retS {e : Ex} : wp (exS T (.ret e) ρ) S kf = wp (ev T e ρ) S (kRet kf) := by
  conv => lhs; unfold exS retM
  simp only [wp_bnd, wp_ret]
  rfl
def kIte (T : TabT) (a b : Stms) (ρ : DEnv) (kf : Kn Fl) : Kn D := fun d S => match d with
  | .bl c => (if c = true then wp (exSs T a ρ) S kf else wp (exSs T b ρ) S kf)
  | _ => False
@[simp ↓] theorem kIte_ {a b : Stms} {c : Bool} : kIte T a b ρ kf (.bl c) S = if c = true then wp (exSs T a ρ) S kf else wp (exSs T b ρ) S kf := (rfl)
@[simp ↓] theorem wp_if {c : Ex} {a b : Stms} : wp (exS T (.ite c a b) ρ) S kf = wp (ev T c ρ) S (kIte T a b ρ kf) := by
  conv => lhs; unfold exS ifS tsM
  simp only [wp_bnd, wp_ite, wp_asB]
  refine congrArg _ ?_; funext d S1
  cases d <;> rfl
def kNx (kf : Kn Fl) : Kn DEnv := fun ρ S => kf (.nx ρ) S
@[simp] theorem kNx_ : kNx kf ρ S = kf (.nx ρ) S := (rfl)
def kAsg (t : Tg) (ρ : DEnv) (kf : Kn Fl) : Kn D := fun d S => wp (tgM t d ρ) S (kNx kf)
@[simp ↓] theorem kAsg_ {t : Tg} {d : D} : kAsg t ρ kf d S = wp (tgM t d ρ) S (kNx kf) := (rfl)
@[simp ↓] theorem wp_asg {t : Tg} {e : Ex} : wp (exS T (.asg t e) ρ) S kf = wp (ev T e ρ) S (kAsg t ρ kf) := by
  conv => lhs; unfold exS asgM
  simp only [wp_bnd, wp_ret]
  rfl
def kSi4 (ρ : DEnv) (kf : Kn Fl) : Kn Unit := fun _ S => kf (.nx ρ) S
@[simp] theorem kSi4_ {u : Unit} : kSi4 ρ kf u S = kf (.nx ρ) S := (rfl)
def kSi3 (ρ : DEnv) (x d : D) (kf : Kn Fl) : Kn D := fun i S => wp (setD d i x) S (kSi4 ρ kf)
@[simp ↓] theorem kSi3_ {x d i : D} : kSi3 ρ x d kf i S = wp (setD d i x) S (kSi4 ρ kf) := (rfl)
def kSi2 (T : TabT) (i : Ex) (ρ : DEnv) (x : D) (kf : Kn Fl) : Kn D := fun d S => wp (ev T i ρ) S (kSi3 ρ x d kf)
@[simp ↓] theorem kSi2_ {i : Ex} {x d : D} : kSi2 T i ρ x kf d S = wp (ev T i ρ) S (kSi3 ρ x d kf) := (rfl)
def kSi1 (T : TabT) (o i : Ex) (ρ : DEnv) (kf : Kn Fl) : Kn D := fun x S => wp (ev T o ρ) S (kSi2 T i ρ x kf)
@[simp ↓] theorem kSi1_ {o i : Ex} {x : D} : kSi1 T o i ρ kf x S = wp (ev T o ρ) S (kSi2 T i ρ x kf) := (rfl)
@[simp ↓] theorem wp_setix {o i e : Ex} : wp (exS T (.setix o i e) ρ) S kf = wp (ev T e ρ) S (kSi1 T o i ρ kf) := by
  conv => lhs; unfold exS setM
  simp only [wp_bnd, wp_ret]
  rfl
def forV (turn : Itm → DEnv → M Fl) : List Itm → DEnv → M Fl
  | [], ρ => ret (.nx ρ)
  | it :: r, ρ => bnd (turn it ρ) (loopF (forV turn r))
theorem forS_val (turn : Itm → DEnv → M Fl) (its : List Itm) : ∀ (k i : Nat) (ρ : DEnv), k + i = its.length → forS (.val its) turn (k + 1) i ρ = forV turn (its.drop i) ρ
  | 0, i, ρ, h => by
    have hi : i = its.length := by omega
    funext S
    unfold forS Src.at
    simp only
    rw [if_pos (by omega), hi, List.drop_length, List.getElem?_eq_none (Nat.le_refl _)]
    rfl
  | k + 1, i, ρ, h => by
    have hi : i < its.length := by omega
    have ih := funext fun ρ => forS_val turn its k (i + 1) ρ (by omega)
    funext S
    unfold forS Src.at
    simp only
    rw [if_pos (by omega), List.getElem?_eq_getElem hi, List.drop_eq_getElem_cons hi]
    unfold forV
    simp only [ih]

def kFor (T : TabT) (t : Tg) (b : Stms) (ρ : DEnv) (kf : Kn Fl) : Kn Src := fun src S => wp (forS src (turnS t (exSs T b)) src.fuel 0 ρ) S kf
@[simp ↓] theorem kFor_ {t : Tg} {b : Stms} {its : List Itm} : kFor T t b ρ kf (.val its) S = wp (forV (turnS t (exSs T b)) its ρ) S kf := by
  unfold kFor
  rw [show (Src.val its).fuel = its.length + 1 from rfl, forS_val _ its its.length 0 ρ (by omega)]
  rfl
@[simp ↓] theorem wp_for {t : Tg} {s : Sx} {b : Stms} : wp (exS T (.for_ t s b) ρ) S kf = wp (evi T s ρ) S (kFor T t b ρ kf) := by
  conv => lhs; unfold exS forM
  simp only [wp_bnd]
  rfl
def kLoop (turn : Itm → DEnv → M Fl) (r : List Itm) (kf : Kn Fl) : Kn Fl := fun fl S => match fl with
  | .nx ρ => wp (forV turn r ρ) S kf
  | .ct ρ => wp (forV turn r ρ) S kf
  | .bk ρ => kf (.nx ρ) S
  | .rt d => kf (.rt d) S
@[simp] theorem kLoop_nx {turn : Itm → DEnv → M Fl} {r : List Itm} : kLoop turn r kf (.nx ρ) S = wp (forV turn r ρ) S kf := (rfl)
@[simp] theorem kLoop_ct {turn : Itm → DEnv → M Fl} {r : List Itm} : kLoop turn r kf (.ct ρ) S = wp (forV turn r ρ) S kf := (rfl)
@[simp] theorem kLoop_bk {turn : Itm → DEnv → M Fl} {r : List Itm} : kLoop turn r kf (.bk ρ) S = kf (.nx ρ) S := (rfl)
@[simp] theorem kLoop_rt {turn : Itm → DEnv → M Fl} {r : List Itm} {d : D} : kLoop turn r kf (.rt d) S = kf (.rt d) S := (rfl)
@[simp ↓] theorem wp_forV_nil {turn : Itm → DEnv → M Fl} : wp (forV turn [] ρ) S kf = kf (.nx ρ) S := (rfl)
theorem wp_forV_cons {turn : Itm → DEnv → M Fl} {it : Itm} {r : List Itm} : wp (forV turn (it :: r) ρ) S kf = wp (turn it ρ) S (kLoop turn r kf) := by
  conv => lhs; unfold forV
  rw [wp_bnd]
  refine congrArg _ ?_; funext fl S1
  cases fl <;> rfl
/-- a turn's end: on with the walk, or out of it -/
def kTurn (on : Kn DEnv) (out : Kn Fl) : Kn Fl := fun fl S => match fl with
  | .nx ρ => on ρ S
  | .ct ρ => on ρ S
  | .bk ρ => out (.nx ρ) S
  | .rt d => out (.rt d) S
@[simp] theorem kTurn_nx {on : Kn DEnv} : kTurn on kf (.nx ρ) S = on ρ S := (rfl)
@[simp] theorem kTurn_ct {on : Kn DEnv} : kTurn on kf (.ct ρ) S = on ρ S := (rfl)
@[simp] theorem kTurn_bk {on : Kn DEnv} : kTurn on kf (.bk ρ) S = kf (.nx ρ) S := (rfl)
@[simp] theorem kTurn_rt {on : Kn DEnv} {d : D} : kTurn on kf (.rt d) S = kf (.rt d) S := (rfl)
/-- I: what holds ahead of a turn, by the items left -/
theorem wp_forV {turn : Itm → DEnv → M Fl} (I : List Itm → DEnv → Store → Prop) (step : ∀ it r ρ S, I (it :: r) ρ S → wp (turn it ρ) S (kTurn (I r) kf)) (fin : ∀ ρ S, I [] ρ S → kf (.nx ρ) S) : ∀ {its : List Itm} {ρ : DEnv} {S : Store}, I its ρ S → wp (forV turn its ρ) S kf
  | [], ρ, S, h => fin ρ S h
  | it :: r, ρ, S, h => by
    rw [wp_forV_cons]
    refine wp_mono (step it r ρ S h) fun fl S' q => ?_
    cases fl with
    | nx ρ' => exact wp_forV I step fin q
    | ct ρ' => exact wp_forV I step fin q
    | bk ρ' => exact q
    | rt d => exact q
def kTs (b : DEnv → M Fl) (kf : Kn Fl) : Kn DEnv := fun ρ S => wp (b ρ) S kf
@[simp] theorem kTs_ {b : DEnv → M Fl} : kTs b kf ρ S = wp (b ρ) S kf := (rfl)
@[simp ↓] theorem wp_turnS {t : Tg} {b : DEnv → M Fl} {it : Itm} : wp (turnS t b it ρ) S kf = wp (tgI t it ρ) S (kTs b kf) := by
  unfold turnS
  rw [wp_bnd]
  rfl
@[simp ↓] theorem wp_whl {c : Ex} {b : Stms} : wp (exS T (.whl c b) ρ) S kf = wp (whS (ev T c) (exSs T b) (big + 2) ρ) S kf := by
  conv => lhs; unfold exS whM
def kRun (k : Kn D) : Kn Fl := fun fl S => match fl with
  | .nx _ => k .non S
  | .rt d => k d S
  | _ => False
@[simp ↓] theorem kRun_nx : kRun k (.nx ρ) S = k .non S := (rfl)
@[simp ↓] theorem kRun_rt {d : D} : kRun k (.rt d) S = k d S := (rfl)
theorem wp_run {tab : Nat → Option Df} {d g : Nat} {ds : List D} {df : Df} (h : tab g = some df) (hl : ds.length = df.n) : wp (run tab (d + 1) g ds) S k = wp (exSs (run tab d) df.b (startD df.k ds)) S (kRun k) := by
  conv => lhs; unfold run
  rw [h]
  simp only
  rw [if_pos hl, wp_bnd]
  refine congrArg _ ?_; funext fl S1
  cases fl <;> rfl
end
end CI

/-! What the operators tell of data whose shape is known. -/
namespace CI
open PySem PySem.Spec PyProof.Rows L2 HT
section
variable {S : Store} {P : D → Store → Prop} {m : Bool} {i j : Int} {xs ys : List D} {x y : Str}
@[simp ↓] theorem wb_add : wp (binD m .Add (.int i) (.int j)) S P = P (.int (i + j)) S := (rfl)
@[simp ↓] theorem wb_sub : wp (binD m .Sub (.int i) (.int j)) S P = P (.int (i - j)) S := (rfl)
@[simp ↓] theorem wb_mul : wp (binD m .Mult (.int i) (.int j)) S P = if mulOk i j = true then P (.int (i * j)) S else False := by
  show wp (if mulOk i j = true then ret (.int (i * j)) else fail) S P = _
  rw [wp_ite]; rfl
@[simp ↓] theorem wb_mod : wp (binD m .Mod (.int i) (.int j)) S P = if 0 < j then P (.int (i % j)) S else False := by
  show wp (if 0 < j then ret (.int (i % j)) else fail) S P = _
  rw [wp_ite]; rfl
@[simp ↓] theorem wb_div : wp (binD m .FloorDiv (.int i) (.int j)) S P = if 0 < j ∧ j.natAbs.log2 < 9000 then P (.int (i / j)) S else False := by
  show wp (if 0 < j ∧ j.natAbs.log2 < 9000 then ret (.int (i / j)) else fail) S P = _
  rw [wp_ite]; rfl
@[simp ↓] theorem wb_pow : wp (binD m .Pow (.int i) (.int j)) S P = if 0 ≤ j ∧ j ≤ 1000000 ∧ i.natAbs < 2 ^ 64 then P (.int (i ^ j.toNat)) S else False := by
  show wp (if 0 ≤ j ∧ j ≤ 1000000 ∧ i.natAbs < 2 ^ 64 then ret (.int (i ^ j.toNat)) else fail) S P = _
  rw [wp_ite]; rfl
@[simp ↓] theorem wb_addS : wp (binD m .Add (.str x) (.str y)) S P = if x.length + y.length ≤ big then P (.str (x ++ y)) S else False := by
  show wp (if x.length + y.length ≤ big then ret (.str (x ++ y)) else fail) S P = _
  rw [wp_ite]; rfl
@[simp ↓] theorem wb_addT : wp (binD m .Add (.tup xs) (.tup ys)) S P = if xs.length + ys.length ≤ big then P (.tup (xs ++ ys)) S else False := by
  show wp (if xs.length + ys.length ≤ big then ret (.tup (xs ++ ys)) else fail) S P = _
  rw [wp_ite]; rfl
theorem wb_lstCat {a b : D} {xs ys : List D} (h1 : lstO S a = some xs) (h2 : lstO S b = some ys) : wp (lstCat m a b) S P = if xs.length + ys.length ≤ big then wp (fin m (xs ++ ys)) S P else False := by
  have e : lstCat m a b S = if xs.length + ys.length ≤ big then fin m (xs ++ ys) S else .bad := by
    unfold lstCat
    simp only [h1, h2]
  by_cases c : xs.length + ys.length ≤ big
  · rw [if_pos c] at e ⊢
    unfold wp
    rw [e]
  · rw [if_neg c] at e ⊢
    unfold wp
    rw [e]
@[simp ↓] theorem wb_addL : wp (binD m .Add (.lst xs) (.lst ys)) S P = if xs.length + ys.length ≤ big then wp (fin m (xs ++ ys)) S P else False := wb_lstCat (a := .lst xs) (b := .lst ys) rfl rfl
theorem wb_addAL {n : Nat} (h : S[n]? = some (.lst xs)) : wp (binD m .Add (.adr n) (.lst ys)) S P = if xs.length + ys.length ≤ big then wp (fin m (xs ++ ys)) S P else False :=
  wb_lstCat (a := .adr n) (b := .lst ys) (by show (match S[n]? with | some (.lst ds) => some ds | _ => none) = _; rw [h]) rfl
@[simp ↓] theorem wb_mulT : wp (binD m .Mult (.tup xs) (.int i)) S P = if i = 1 then P (.tup xs) S else if xs ≠ [] ∧ 2 ≤ i ∧ i ≤ 1000 ∧ xs.length ≤ 1000 then P (.tup (List.replicate i.toNat xs).flatten) S else False := by
  show wp (if i = 1 then ret (.tup xs) else if xs ≠ [] ∧ 2 ≤ i ∧ i ≤ 1000 ∧ xs.length ≤ 1000 then ret (.tup (List.replicate i.toNat xs).flatten) else fail) S P = _
  rw [wp_ite, wp_ite]; rfl
theorem wb_mulA {n : Nat} (h : S[n]? = some (.lst xs)) : wp (binD m .Mult (.adr n) (.int i)) S P = if 0 ≤ i ∧ i < 2 ^ 32 ∧ xs.length * i.toNat ≤ big then wp (fin m (List.replicate i.toNat xs).flatten) S P else False := by
  have e : binD m .Mult (.adr n) (.int i) S = if 0 ≤ i ∧ i < 2 ^ 32 ∧ xs.length * i.toNat ≤ big then CI.fin m (List.replicate i.toNat xs).flatten S else .bad := by
    show mulD m (.adr n) (.int i) S = _
    unfold mulD
    simp only [h]
  unfold wp
  rw [e]
  by_cases c : 0 ≤ i ∧ i < 2 ^ 32 ∧ xs.length * i.toNat ≤ big
  · rw [if_pos c, if_pos c]
  · rw [if_neg c, if_neg c]
@[simp ↓] theorem wb_mulL : wp (binD m .Mult (.lst xs) (.int i)) S P = if 0 ≤ i ∧ i < 2 ^ 32 ∧ xs.length * i.toNat ≤ big then wp (fin m (List.replicate i.toNat xs).flatten) S P else False := by
  show wp (if 0 ≤ i ∧ i < 2 ^ 32 ∧ xs.length * i.toNat ≤ big then fin m (List.replicate i.toNat xs).flatten else fail) S P = _
  rw [wp_ite]; rfl
@[simp] theorem mulOk_r {n : Int} (h : n.natAbs < 2 ^ 64) : mulOk i n = true := by
  unfold mulOk
  simp [h]
/-! comparisons -/
theorem wc {op : CmpOp} {a b : D} : wp (cmpD op a b) S P = ozk ((cmpO op S a b).map D.bl) S P := by unfold cmpD; rw [wp_look]
@[simp ↓] theorem wc_lt : wp (cmpD .Lt (.int i) (.int j)) S P = P (.bl (decide (i < j))) S := (rfl)
@[simp ↓] theorem wc_le : wp (cmpD .LtE (.int i) (.int j)) S P = P (.bl (decide (i ≤ j))) S := (rfl)
@[simp ↓] theorem wc_gt : wp (cmpD .Gt (.int i) (.int j)) S P = P (.bl (decide (j < i))) S := (rfl)
@[simp ↓] theorem wc_ge : wp (cmpD .GtE (.int i) (.int j)) S P = P (.bl (decide (j ≤ i))) S := (rfl)
end
/-! == of data without dicts and without what may change -/
mutual
def eqD : D → D → Bool
  | .non, .non => true
  | .bl a, .bl b => a == b
  | .bl a, .int j => (if a then 1 else 0) == j
  | .int i, .bl b => i == (if b then 1 else 0)
  | .int i, .int j => i == j
  | .str x, .str y => x == y
  | .lst xs, .lst ys => eqDs xs ys
  | .tup xs, .tup ys => eqDs xs ys
  | _, _ => false
def eqDs : List D → List D → Bool
  | [], [] => true
  | x :: xs, y :: ys => eqD x y && eqDs xs ys
  | _, _ => false
end
mutual
/-- data of at most so many levels, its texts of real signs -/
def okD : Nat → D → Bool
  | _, .non => true
  | _, .bl _ => true
  | _, .int _ => true
  | _, .str x => PyData.strOk x
  | n + 1, .tup ds => okDs n ds
  | n + 1, .lst ds => okDs n ds
  | _, _ => false
def okDs : Nat → List D → Bool
  | _, [] => true
  | n, d :: ds => okD n d && okDs n ds
end
mutual
theorem okD_ok : ∀ (n : Nat) (d : D), okD n d = true → (py0 d).canLay0 = true ∧ (py0 d).depth ≤ n
  | n, .non, _ => ⟨rfl, by simp [py0, PyData.depth]⟩
  | n, .bl _, _ => ⟨rfl, by simp [py0, PyData.depth]⟩
  | n, .int _, _ => ⟨rfl, by simp [py0, PyData.depth]⟩
  | n, .str x, h => by
    have h : PyData.strOk x = true := by cases n <;> simpa [okD] using h
    exact ⟨by simpa [py0, PyData.canLay0] using h, by simp [py0, PyData.depth]⟩
  | 0, .tup ds, h => by simp [okD] at h
  | 0, .lst ds, h => by simp [okD] at h
  | n + 1, .tup ds, h => by
    have h : okDs n ds = true := by simpa [okD] using h
    obtain ⟨h1, h2⟩ := okDs_ok n ds h
    exact ⟨by simpa [py0, PyData.canLay0] using h1, by simp [py0, PyData.depth]; omega⟩
  | n + 1, .lst ds, h => by
    have h : okDs n ds = true := by simpa [okD] using h
    obtain ⟨h1, h2⟩ := okDs_ok n ds h
    exact ⟨by simpa [py0, PyData.canLay0] using h1, by simp [py0, PyData.depth]; omega⟩
  | n, .ro ds, h => by cases n <;> simp [okD] at h
  | n, .dct ds, h => by cases n <;> simp [okD] at h
  | n, .adr a, h => by cases n <;> simp [okD] at h
theorem okDs_ok : ∀ (n : Nat) (ds : List D), okDs n ds = true → PyData.canLayAll0 (py0s ds) = true ∧ PyData.depthAll (py0s ds) ≤ n
  | n, [], _ => ⟨by simp [py0s, PyData.canLayAll0], by simp [py0s, PyData.depthAll]⟩
  | n, d :: ds, h => by
    rw [okDs, Bool.and_eq_true] at h
    obtain ⟨h1, h2⟩ := okD_ok n d h.1
    obtain ⟨h3, h4⟩ := okDs_ok n ds h.2
    exact ⟨by simp [py0s, PyData.canLayAll0, h1, h3], by simp [py0s, PyData.depthAll]; omega⟩
end

theorem okD_n {n : Nat} (a : D) (h : okD n a = true) : (∀ k, a ≠ .adr k) ∧ (∀ k, a ≠ .dct k) ∧ ∀ k, a ≠ .ro k := by
  refine ⟨fun k e => ?_, fun k e => ?_, fun k e => ?_⟩ <;> (subst e; cases n <;> simp [okD] at h)
mutual
theorem eqv_D : ∀ (n m : Nat) (a b : D), okD n a = true → okD m b = true → PyData.eqv (py0 a) (py0 b) = eqD a b
  | n, m, .tup xs, .tup ys, h1, h2 => by
    cases n with
    | zero => simp [okD] at h1
    | succ n => cases m with
      | zero => simp [okD] at h2
      | succ m =>
        rw [okD] at h1 h2
        rw [py0, py0, PyData.eqv, eqD]
        exact eqv_Ds n m xs ys h1 h2
  | n, m, .lst xs, .lst ys, h1, h2 => by
    cases n with
    | zero => simp [okD] at h1
    | succ n => cases m with
      | zero => simp [okD] at h2
      | succ m =>
        rw [okD] at h1 h2
        rw [py0, py0, PyData.eqv, eqD]
        exact eqv_Ds n m xs ys h1 h2
  | n, m, .ro xs, b, h1, h2 => absurd rfl ((okD_n _ h1).2.2 xs)
  | n, m, .dct xs, b, h1, h2 => absurd rfl ((okD_n _ h1).2.1 xs)
  | n, m, .adr xs, b, h1, h2 => absurd rfl ((okD_n _ h1).1 xs)
  | n, m, .non, b, h1, h2 => by cases b <;> first | (simp [py0, PyData.eqv, eqD]; done) | (cases m <;> simp [okD] at h2)
  | n, m, .bl x, b, h1, h2 => by cases b <;> first | (simp [py0, PyData.eqv, eqD]; done) | (cases m <;> simp [okD] at h2)
  | n, m, .int x, b, h1, h2 => by cases b <;> first | (simp [py0, PyData.eqv, eqD]; done) | (cases m <;> simp [okD] at h2)
  | n, m, .str x, b, h1, h2 => by cases b <;> first | (simp [py0, PyData.eqv, eqD]; done) | (cases m <;> simp [okD] at h2)
  | n, m, .tup x, .non, h1, h2 => by simp [py0, PyData.eqv, eqD]
  | n, m, .tup x, .bl _, h1, h2 => by simp [py0, PyData.eqv, eqD]
  | n, m, .tup x, .int _, h1, h2 => by simp [py0, PyData.eqv, eqD]
  | n, m, .tup x, .str _, h1, h2 => by simp [py0, PyData.eqv, eqD]
  | n, m, .tup x, .lst _, h1, h2 => by simp [py0, PyData.eqv, eqD]
  | n, m, .tup x, .ro k, h1, h2 => absurd rfl ((okD_n _ h2).2.2 k)
  | n, m, .tup x, .dct k, h1, h2 => absurd rfl ((okD_n _ h2).2.1 k)
  | n, m, .tup x, .adr k, h1, h2 => absurd rfl ((okD_n _ h2).1 k)
  | n, m, .lst x, .non, h1, h2 => by simp [py0, PyData.eqv, eqD]
  | n, m, .lst x, .bl _, h1, h2 => by simp [py0, PyData.eqv, eqD]
  | n, m, .lst x, .int _, h1, h2 => by simp [py0, PyData.eqv, eqD]
  | n, m, .lst x, .str _, h1, h2 => by simp [py0, PyData.eqv, eqD]
  | n, m, .lst x, .tup _, h1, h2 => by simp [py0, PyData.eqv, eqD]
  | n, m, .lst x, .ro k, h1, h2 => absurd rfl ((okD_n _ h2).2.2 k)
  | n, m, .lst x, .dct k, h1, h2 => absurd rfl ((okD_n _ h2).2.1 k)
  | n, m, .lst x, .adr k, h1, h2 => absurd rfl ((okD_n _ h2).1 k)
theorem eqv_Ds : ∀ (n m : Nat) (a b : List D), okDs n a = true → okDs m b = true → PyData.eqvAll (py0s a) (py0s b) = eqDs a b
  | n, m, [], [], _, _ => by simp [py0s, PyData.eqvAll, eqDs]
  | n, m, [], _ :: _, _, _ => by simp [py0s, PyData.eqvAll, eqDs]
  | n, m, _ :: _, [], _, _ => by simp [py0s, PyData.eqvAll, eqDs]
  | n, m, x :: xs, y :: ys, h1, h2 => by
    rw [okDs, Bool.and_eq_true] at h1 h2
    simp only [py0s, PyData.eqvAll, eqDs]
    rw [eqv_D n m x y h1.1 h2.1, eqv_Ds n m xs ys h1.2 h2.2]
end
theorem py_ok {S : Store} {n : Nat} {a : D} (h : okD n a = true) : py S a = py0 a := by
  cases a with
  | adr k => exact absurd rfl ((okD_n _ h).1 k)
  | _ => rfl
theorem shaped_ok {a : D} (h : okD 64 a = true) : SeqAt.shaped (py0 a) = true := by
  obtain ⟨h1, h2⟩ := okD_ok 64 a h
  unfold SeqAt.shaped
  rw [h1, decide_eq_true h2]
  rfl
theorem eqX_ok {S : Store} {a b : D} {k : Bool} (h : eqO S a b = some k) : eqX S a b = some k := by unfold eqX; rw [h]
theorem eqO_ok {S : Store} {a b : D} (ha : okD 64 a = true) (hb : okD 64 b = true) : eqO S a b = some (eqD a b) := by
  unfold eqO
  rw [py_ok ha, py_ok hb, if_pos ⟨shaped_ok ha, shaped_ok hb⟩, eqv_D 64 64 a b ha hb]
section
variable {S : Store} {P : D → Store → Prop} {m : Bool} {i j : Int} {xs ys ds : List D} {x y : Str} {a b d : D}
theorem wc_eq (ha : okD 64 a = true) (hb : okD 64 b = true) : wp (cmpD .Eq a b) S P = P (.bl (eqD a b)) S := by
  rw [wc]
  show ozk ((eqX S a b).map D.bl) S P = _
  rw [eqX_ok (eqO_ok ha hb)]; rfl
/-- a dict is no tuple -/
theorem wc_eqDT {kds : List (Key × D)} : wp (cmpD .Eq (.dct kds) (.tup ds)) S P = P (.bl false) S := by
  rw [wc]
  have e : eqO S (.dct kds) (.tup ds) = none := by
    unfold eqO
    rw [if_neg (fun z => by have := z.1; unfold SeqAt.shaped py py0 PyData.canLay0 at this; cases this)]
  show ozk ((eqX S (.dct kds) (.tup ds)).map D.bl) S P = _
  unfold eqX
  rw [e]
  rfl
theorem wc_ne (ha : okD 64 a = true) (hb : okD 64 b = true) : wp (cmpD .NotEq a b) S P = P (.bl (!eqD a b)) S := by
  rw [wc]
  show ozk (((eqO S a b).map (!·)).map D.bl) S P = _
  rw [eqO_ok ha hb]; rfl
@[simp ↓] theorem wc_eqI : wp (cmpD .Eq (.int i) (.int j)) S P = P (.bl (i == j)) S := wc_eq rfl rfl
@[simp ↓] theorem wc_neI : wp (cmpD .NotEq (.int i) (.int j)) S P = P (.bl (!(i == j))) S := wc_ne rfl rfl
theorem flat_eqv {a b : D} (ha : flatD a = true) (hb : flatD b = true) : PyData.eqv (py0 a) (py0 b) = eqD a b := by
  cases a <;> first
    | cases ha; done
    | (cases b <;> first
        | cases hb; done
        | simp [py0, PyData.eqv, eqD])
theorem any_flat {x : D} (hx : flatD x = true) : ∀ {ds : List D}, ds.all flatD = true → (ds.any fun d => PyData.eqv (py0 d) (py0 x)) = ds.any fun d => eqD d x
  | [], _ => rfl
  | d :: ds, h => by
    rw [List.all_cons, Bool.and_eq_true] at h
    rw [List.any_cons, List.any_cons, flat_eqv h.1 hx, any_flat hx h.2]
theorem inO_flat {c : D} (h0 : dctO S c = none) (h : seqO S c = some ds) (hx : flatD a = true) (hd : ds.all flatD = true) : inO S a c = some (ds.any fun d => eqD d a) := by
  rw [inO_c (dcnO_seq h)]
  unfold inO0
  rw [h0]
  simp only [h]
  rw [if_pos ⟨hx, hd⟩, any_flat hx hd]
theorem wc_in {c : D} (h0 : dctO S c = none) (h : seqO S c = some ds) (hx : flatD a = true) (hd : ds.all flatD = true) : wp (cmpD .In a c) S P = P (.bl (ds.any fun d => eqD d a)) S := by
  rw [wc]
  show ozk ((inO S a c).map D.bl) S P = _
  rw [inO_flat h0 h hx hd]; rfl
theorem wc_nin {c : D} (h0 : dctO S c = none) (h : seqO S c = some ds) (hx : flatD a = true) (hd : ds.all flatD = true) : wp (cmpD .NotIn a c) S P = P (.bl (!ds.any fun d => eqD d a)) S := by
  rw [wc]
  show ozk (((inO S a c).map (!·)).map D.bl) S P = _
  rw [inO_flat h0 h hx hd]; rfl
theorem wc_inT (hx : flatD a = true) (hd : ds.all flatD = true) : wp (cmpD .In a (.tup ds)) S P = P (.bl (ds.any fun d => eqD d a)) S := wc_in rfl rfl hx hd
theorem wc_inL (hx : flatD a = true) (hd : ds.all flatD = true) : wp (cmpD .In a (.lst ds)) S P = P (.bl (ds.any fun d => eqD d a)) S := wc_in rfl rfl hx hd
theorem wc_ninT (hx : flatD a = true) (hd : ds.all flatD = true) : wp (cmpD .NotIn a (.tup ds)) S P = P (.bl (!ds.any fun d => eqD d a)) S := wc_nin rfl rfl hx hd
theorem wc_ninL (hx : flatD a = true) (hd : ds.all flatD = true) : wp (cmpD .NotIn a (.lst ds)) S P = P (.bl (!ds.any fun d => eqD d a)) S := wc_nin rfl rfl hx hd
@[simp ↓] theorem wc_isNon : wp (cmpD .Is .non .non) S P = P (.bl true) S := (rfl)
/-! subscripts, slices, built-ins -/
theorem wi {a b : D} : wp (ixD a b) S P = ozk (ixO S a b) S P := by unfold ixD; rw [wp_look]
@[simp ↓] theorem wi_tup : wp (ixD (.tup ds) (.int i)) S P = ozk (atI ds i) S P := by rw [wi]; rfl
@[simp ↓] theorem wi_lst : wp (ixD (.lst ds) (.int i)) S P = ozk (atI ds i) S P := by rw [wi]; rfl
@[simp ↓] theorem wi_ro : wp (ixD (.ro ds) (.int i)) S P = ozk (atI ds i) S P := by rw [wi]; rfl
theorem wi_adr {n : Nat} (h : S[n]? = some (.lst ds)) : wp (ixD (.adr n) (.int i)) S P = ozk (atI ds i) S P := by
  rw [wi]
  show ozk (ixG0 S (.adr n) (.int i)) S P = _
  have e1 : dctO S (.adr n) = none := by show (match S[n]? with | some (.dct kds) => some kds | _ => none) = _; rw [h]
  have e2 : seqO S (.adr n) = some ds := by show (match S[n]? with | some (.lst ds) => some ds | _ => none) = _; rw [h]
  unfold ixG0
  rw [e1]
  simp only [e2]
  rfl
@[simp ↓] theorem wi_dctS {kds : List (Key × D)} : wp (ixD (.dct kds) (.str x)) S P = ozk (valD kds (.inr x)) S P := by rw [wi]; rfl
@[simp ↓] theorem wi_dctI {kds : List (Key × D)} : wp (ixD (.dct kds) (.int i)) S P = ozk (valD kds (.inl i)) S P := by rw [wi]; rfl
@[simp ↓] theorem ws_tup {lo hi : Option Int} : wp (slD m (.tup ds) lo hi) S P = P (.tup (cutD ds lo hi)) S := (rfl)
@[simp ↓] theorem ws_lst {lo hi : Option Int} : wp (slD m (.lst ds) lo hi) S P = wp (fin m (cutD ds lo hi)) S P := (rfl)
@[simp ↓] theorem ws_ro {lo hi : Option Int} : wp (slD m (.ro ds) lo hi) S P = wp (fin m (cutD ds lo hi)) S P := (rfl)
@[simp ↓] theorem ws_str {lo hi : Option Int} : wp (slD m (.str x) lo hi) S P = if x.length ≤ big then P (.str (cutS x lo hi)) S else False := by
  have e : slD m (.str x) lo hi S = if x.length ≤ big then .ok (.str (cutS x lo hi)) S else .bad := rfl
  by_cases c : x.length ≤ big
  · rw [if_pos c] at e ⊢
    rw [wp_ok e]
  · rw [if_neg c] at e ⊢
    unfold wp
    rw [e]
@[simp ↓] theorem wn_tup : wp (biD m .len [.tup ds]) S P = P (.int ds.length) S := (rfl)
@[simp ↓] theorem wn_lst : wp (biD m .len [.lst ds]) S P = P (.int ds.length) S := (rfl)
@[simp ↓] theorem wn_ro : wp (biD m .len [.ro ds]) S P = P (.int ds.length) S := (rfl)
@[simp ↓] theorem wn_dct {kds : List (Key × D)} : wp (biD m .len [.dct kds]) S P = P (.int kds.length) S := (rfl)
theorem wn_adr {n : Nat} (h : S[n]? = some (.lst ds)) : wp (biD m .len [.adr n]) S P = P (.int ds.length) S := by
  have e1 : dctO S (.adr n) = none := by show (match S[n]? with | some (.dct kds) => some kds | _ => none) = _; rw [h]
  have e2 : seqO S (.adr n) = some ds := by show (match S[n]? with | some (.lst ds) => some ds | _ => none) = _; rw [h]
  have e : biD m .len [.adr n] S = .ok (.int ds.length) S := by
    unfold biD lenO
    simp only [e1, e2]
  rw [wp_ok e]
@[simp ↓] theorem wn_tupleL : wp (biD m .tuple [.lst ds]) S P = P (.tup ds) S := (rfl)
@[simp ↓] theorem wn_tupleT : wp (biD m .tuple [.tup ds]) S P = P (.tup ds) S := (rfl)
@[simp ↓] theorem wn_listT : wp (biD m .list [.tup ds]) S P = wp (fin m ds) S P := (rfl)
@[simp ↓] theorem wn_listL : wp (biD m .list [.lst ds]) S P = wp (fin m ds) S P := (rfl)
theorem wn_all {bs : List Bool} (h : boolsO ds = some bs) : wp (biD m .all [.lst ds]) S P = P (.bl (bs.all id)) S := by
  have e : biD m .all [.lst ds] S = .ok (.bl (bs.all id)) S := by
    unfold biD
    simp only [lstO, Option.bind_some, h]
  rw [wp_ok e]
theorem wn_any {bs : List Bool} (h : boolsO ds = some bs) : wp (biD m .any [.lst ds]) S P = P (.bl (bs.any id)) S := by
  have e : biD m .any [.lst ds] S = .ok (.bl (bs.any id)) S := by
    unfold biD
    simp only [lstO, Option.bind_some, h]
  rw [wp_ok e]
theorem boolsO_map {α : Type} (f : α → Bool) : ∀ l : List α, boolsO (l.map fun x => D.bl (f x)) = some (l.map f)
  | [] => rfl
  | x :: l => by
    rw [List.map_cons, List.map_cons]
    show (boolsO _).map _ = _
    rw [boolsO_map f l]; rfl
theorem filterMap_one {α : Type} (f : D → α) : ∀ l : List D, (l.map Itm.one).filterMap (fun it => match it with | .one d => some (f d) | .pair _ _ => none) = l.map f
  | [] => rfl
  | x :: l => by
    show f x :: List.filterMap _ (l.map Itm.one) = f x :: l.map f
    rw [filterMap_one f l]
/-- all([f(x) for x in row]) -/
theorem wp_setI {n : Nat} {k : Int} {q : Nat} {z : D} {Pu : Unit → Store → Prop} (h : S[n]? = some (.lst ds)) (hk : L2.ixN ds.length k = some q) : wp (setD (.adr n) (.int k) z) S Pu = Pu () (S.set n (.lst (ds.set q z))) := by
  have e : setD (.adr n) (.int k) z S = .ok () (S.set n (.lst (ds.set q z))) := by
    unfold setD
    simp only [h, hk]
  rw [wp_ok e]
theorem set_at {n : Nat} {o o' : Ob} (h : S[n]? = some o) : (S.set n o')[n]? = some o' := by
  obtain ⟨q, _⟩ := List.getElem?_eq_some_iff.mp h
  exact List.getElem?_set_self q
theorem add_at {n : Nat} {o o' : Ob} (h : S[n]? = some o) : (S ++ [o'])[n]? = some o := by
  obtain ⟨q, _⟩ := List.getElem?_eq_some_iff.mp h
  rw [List.getElem?_append_left q]; exact h
end

/-! ### places and cuts -/
section
variable {α : Type} {xs : List α}
theorem atI_of (k : Nat) : L2.atI xs (k : Int) = xs[k]? := by
  unfold L2.atI L2.ixN
  rw [if_pos (by omega)]
  by_cases c : (k : Int) < xs.length
  · rw [if_pos c]; rfl
  · rw [if_neg c, List.getElem?_eq_none (by omega)]; rfl
theorem atI_pos {i : Int} (h : 0 ≤ i) : L2.atI xs i = xs[i.toNat]? := by
  have e : i = (i.toNat : Int) := by omega
  conv => lhs; rw [e]
  exact atI_of _
@[simp] theorem atI_0 : L2.atI xs 0 = xs[0]? := atI_of 0
@[simp] theorem atI_1 : L2.atI xs 1 = xs[1]? := atI_of 1
@[simp] theorem atI_2 : L2.atI xs 2 = xs[2]? := atI_of 2
@[simp] theorem atI_3 : L2.atI xs 3 = xs[3]? := atI_of 3
@[simp] theorem atI_4 : L2.atI xs 4 = xs[4]? := atI_of 4
@[simp] theorem atI_5 : L2.atI xs 5 = xs[5]? := atI_of 5
@[simp] theorem atI_m1 : L2.atI xs (-1) = xs.getLast? := by
  rw [List.getLast?_eq_getElem?]
  unfold L2.atI L2.ixN
  rw [if_neg (by omega)]
  by_cases c : -(xs.length : Int) ≤ -1
  · rw [if_pos c]
    show xs[(-1 + (xs.length : Int)).toNat]? = _
    congr 1
    omega
  · rw [if_neg c]
    have : xs = [] := List.eq_nil_of_length_eq_zero (by omega)
    subst this
    rfl
theorem cut_drop (k : Nat) : cutD xs (some (k : Int)) none = xs.drop k := by
  unfold cutD
  rw [HT.sIx_nat, HT.sIx_none]
  by_cases c : k ≤ xs.length
  · rw [Nat.min_eq_left c]
    exact List.take_of_length_le (by rw [List.length_drop]; exact Nat.le_refl _)
  · rw [Nat.min_eq_right (by omega), List.drop_length, List.drop_of_length_le (by omega), List.take_nil]
theorem cut_take (k : Nat) : cutD xs none (some (k : Int)) = xs.take k := by
  unfold cutD
  rw [HT.sIx_nat, HT.sIx_none, Nat.sub_zero, List.drop_zero]
  by_cases c : k ≤ xs.length
  · rw [Nat.min_eq_left c]
  · rw [Nat.min_eq_right (by omega), List.take_length, List.take_of_length_le (by omega)]
@[simp] theorem cut_d0 : cutD xs (some 0) none = xs := cut_drop 0
@[simp] theorem cut_d1 : cutD xs (some 1) none = xs.drop 1 := cut_drop 1
@[simp] theorem cut_d2 : cutD xs (some 2) none = xs.drop 2 := cut_drop 2
@[simp] theorem cut_d3 : cutD xs (some 3) none = xs.drop 3 := cut_drop 3
@[simp] theorem cut_all : cutD xs none none = xs := by
  unfold cutD
  rw [HT.sIx_none, HT.sIx_none, List.drop_zero, Nat.sub_zero, List.take_length]
theorem sIx_neg (n d k : Nat) (h : 0 < k) : HT.sIx n d (some (-(k : Int))) = n - k := by
  unfold HT.sIx
  simp only
  rw [if_pos (by omega)]
  omega
@[simp] theorem cut_tm1 : cutD xs none (some (-1)) = xs.dropLast := by
  unfold cutD
  rw [show ((-1 : Int)) = -((1 : Nat) : Int) from rfl, sIx_neg _ _ 1 (by omega), HT.sIx_none, List.drop_zero, Nat.sub_zero, List.dropLast_eq_take]
@[simp] theorem cut_dm1 : cutD xs (some (-1)) none = xs.drop (xs.length - 1) := by
  unfold cutD
  rw [show ((-1 : Int)) = -((1 : Nat) : Int) from rfl, sIx_neg _ _ 1 (by omega), HT.sIx_none]
  exact List.take_of_length_le (by rw [List.length_drop]; exact Nat.le_refl _)
@[simp] theorem cut_t1 : cutD xs none (some 1) = xs.take 1 := cut_take 1
@[simp] theorem cut_t5 : cutD xs none (some 5) = xs.take 5 := cut_take 5
end
section
variable {T : TabT} {ρ : DEnv} {S : Store}
/-- [e for x in row], each told by a function -/
theorem lcV_map {i : Nat} {e : Ex} (f : D → D) {ds : List D} (h : ∀ d ∈ ds, ∀ S, wp (ev T e (ρ.set i (some d))) S fun v S' => v = f d ∧ S' = S) (hz : ds.length ≤ big) :
    lcV (turnM (.n i) (ev T (.con (.bl true))) (ev T e) ρ) (ds.map .one) [] = ret (ds.map f) := by
  rw [wp_lcV_pure (fun it => match it with | .one d => some (f d) | .pair _ _ => none) (fun it hm S => ?_) (by simpa using hz), filterMap_one f ds, List.nil_append]
  obtain ⟨d, hd, rfl⟩ := List.mem_map.mp hm
  rw [wp_turn]
  simp only [wp_tgI1, wp_tgN, kTn1_, wp_con, kTn2_, if_true]
  refine wp_mono (h d hd S) fun v S' ⟨e1, e2⟩ => ?_
  subst e1 e2
  exact ⟨rfl, rfl⟩
/-- .. over pairs taken apart -/
theorem lcV_map2 {i j : Nat} {e : Ex} (f : D → D → D) {ds : List (D × D)} (h : ∀ d ∈ ds, ∀ S, wp (ev T e ((ρ.set i (some d.1)).set j (some d.2))) S fun v S' => v = f d.1 d.2 ∧ S' = S) (hz : ds.length ≤ big) :
    lcV (turnM (.t [.n i, .n j]) (ev T (.con (.bl true))) (ev T e) ρ) (ds.map fun d => .one (.tup [d.1, d.2])) [] = ret (ds.map fun d => f d.1 d.2) := by
  have e : (ds.map fun d => Itm.one (.tup [d.1, d.2])).filterMap (fun it => match it with | .one (.tup [a, b]) => some (f a b) | _ => none) = ds.map fun d => f d.1 d.2 := by
    clear h hz
    induction ds with
    | nil => rfl
    | cons d ds ih =>
      show f d.1 d.2 :: List.filterMap _ (ds.map _) = f d.1 d.2 :: ds.map _
      rw [ih]
  rw [wp_lcV_pure (fun it => match it with | .one (.tup [a, b]) => some (f a b) | _ => none) (fun it hm S => ?_) (by simpa using hz), e, List.nil_append]
  obtain ⟨d, hd, rfl⟩ := List.mem_map.mp hm
  rw [wp_turn]
  simp only [wp_tgI1, wp_tgT, wp_tgs_cons, kTgs_, wp_tgs_nil, wp_tgN, kTn1_, wp_con, kTn2_, if_true, List.length_cons, List.length_nil]
  refine wp_mono (h d hd S) fun v S' ⟨e1, e2⟩ => ?_
  subst e1 e2
  exact ⟨rfl, rfl⟩
end

@[simp] theorem srcO_tup {S : Store} {ds : List D} : srcO S (.tup ds) = some (.val (ds.map .one)) := (rfl)
@[simp] theorem srcO_lst {S : Store} {ds : List D} : srcO S (.lst ds) = some (.val (ds.map .one)) := (rfl)
@[simp] theorem srcO_ro {S : Store} {ds : List D} : srcO S (.ro ds) = some (.val (ds.map .one)) := (rfl)
@[simp] theorem wipeD_nil {ρ : DEnv} : wipeD ρ [] = ρ := (rfl)
@[simp] theorem wipeD_cons {ρ : DEnv} {v : Nat} {vs : List Nat} : wipeD ρ (v :: vs) = (wipeD ρ vs).set v none := (rfl)
theorem rng1O_int {i : Int} : rng1O (.int i) = if -(2 ^ 62) ≤ i ∧ i < 2 ^ 62 then some (.val (rngI 0 i.toNat)) else none := rfl
theorem rng2O_int {i j : Int} : rng2O (.int i) (.int j) = if -(2 ^ 62) ≤ i ∧ i < 2 ^ 62 ∧ -(2 ^ 62) ≤ j ∧ j < 2 ^ 62 then some (.val (rngI i (j - i).toNat)) else none := rfl
theorem rngI_map (lo : Int) (n : Nat) : rngI lo n = ((List.range n).map fun (k : Nat) => D.int (lo + (k : Int))).map .one := by
  unfold rngI
  rw [List.map_map]
  rfl
section
variable {S : Store} {P : D → Store → Prop} {m : Bool}
@[simp ↓] theorem wn_allM {α : Type} {g : α → Bool} {ns : List α} : wp (biD m .all [.lst (ns.map fun v => .bl (g v))]) S P = P (.bl (ns.all g)) S := by
  rw [wn_all (boolsO_map g ns), List.all_map]; rfl
@[simp ↓] theorem wn_anyM {α : Type} {g : α → Bool} {ns : List α} : wp (biD m .any [.lst (ns.map fun v => .bl (g v))]) S P = P (.bl (ns.any g)) S := by
  rw [wn_any (boolsO_map g ns), List.any_map]; rfl
end

theorem ret_of {α : Type} {m : M α} {a : α} (h : ∀ (S : Store) (k : Kn α), wp m S k = k a S) : m = ret a := ret_of_wp fun S => by
  rw [h S]
  exact ⟨rfl, rfl⟩
@[simp] theorem le_big {n : Nat} : (n ≤ big) = (n ≤ 1000000) := (rfl)
@[simp] theorem lt_big {n : Nat} : (n < big) = (n < 1000000) := (rfl)
theorem rngN1 {n : Nat} (h : n ≤ 1000000) : rng1O (.int (n : Int)) = some (.val (rngI 0 n)) := by
  rw [rng1O_int, if_pos (by omega)]
  rfl
@[simp] theorem rngP1 {i : Int} (h : -1000000 ≤ i ∧ i ≤ 1000000) : rng1O (.int i) = some (.val (rngI 0 i.toNat)) := by
  rw [rng1O_int, if_pos (by omega)]
@[simp] theorem rngN2 {i j : Int} (h : -1000000 ≤ i ∧ i ≤ 1000000 ∧ -1000000 ≤ j ∧ j ≤ 1000000) : rng2O (.int i) (.int j) = some (.val (rngI i (j - i).toNat)) := by
  rw [rng2O_int, if_pos (by omega)]

/-- [e for x in row], the row told by a function -/
theorem lcV_mapG {T : TabT} {ρ : DEnv} {α : Type} {i : Nat} {e : Ex} {g : α → D} (f : α → D) {l : List α} (h : ∀ a ∈ l, ∀ S, wp (ev T e (ρ.set i (some (g a)))) S fun v S' => v = f a ∧ S' = S) (hz : l.length ≤ big) :
    lcV (turnM (.n i) (ev T (.con (.bl true))) (ev T e) ρ) (l.map (Itm.one ∘ g)) [] = ret (l.map f) := by
  have key : ∀ (l : List α) (acc : List D), (∀ a ∈ l, ∀ S, wp (ev T e (ρ.set i (some (g a)))) S fun v S' => v = f a ∧ S' = S) → acc.length + l.length ≤ big → lcV (turnM (.n i) (ev T (.con (.bl true))) (ev T e) ρ) (l.map (Itm.one ∘ g)) acc = ret (acc ++ l.map f) := by
    intro l
    induction l with
    | nil => intro acc _ _; simp [lcV]
    | cons a l ih =>
      intro acc h z
      rw [List.length_cons] at z
      have e1 : turnM (.n i) (ev T (.con (.bl true))) (ev T e) ρ (.one (g a)) = ret (some (f a)) := ret_of_wp fun S => by
        rw [wp_turn]
        simp only [wp_tgI1, wp_tgN, kTn1_, wp_con, kTn2_, if_true]
        refine wp_mono (h a (List.mem_cons_self ..) S) fun v S' ⟨e1, e2⟩ => ?_
        subst e1 e2
        exact ⟨rfl, rfl⟩
      rw [List.map_cons]
      show lcV _ (Itm.one (g a) :: l.map (Itm.one ∘ g)) acc = _
      unfold lcV
      rw [e1, ret_bnd]
      simp only
      rw [if_pos (by omega), ih _ (fun b hb => h b (List.mem_cons_of_mem _ hb)) (by rw [List.length_append, List.length_singleton]; omega), List.append_assoc]
      rfl
  rw [key l [] h (by simpa using hz), List.nil_append]

def kInv (I : List D → Store → Prop) (acc : List D) : Kn (Option D) := fun o S => match o with
  | some d => acc.length < big ∧ I (acc ++ [d]) S
  | none => I acc S
@[simp] theorem kInv_s {I : List D → Store → Prop} {acc : List D} {d : D} {S : Store} : kInv I acc (some d) S = (acc.length < big ∧ I (acc ++ [d]) S) := rfl
@[simp] theorem kInv_n {I : List D → Store → Prop} {acc : List D} {S : Store} : kInv I acc none S = I acc S := rfl
/-- I: what holds ahead of a turn, by the items left and what was made -/
theorem wp_lcV_inv {turn : Itm → M (Option D)} {Ps : Kn (List D)} (I : List Itm → List D → Store → Prop) (step : ∀ it r acc S, I (it :: r) acc S → wp (turn it) S (kInv (I r) acc)) (fin : ∀ acc S, I [] acc S → Ps acc S) :
    ∀ {its : List Itm} {acc : List D} {S : Store}, I its acc S → wp (lcV turn its acc) S Ps
  | [], acc, S, h => fin acc S h
  | it :: r, acc, S, h => by
    rw [wp_lcV_cons]
    refine wp_mono (step it r acc S h) fun o S' q => ?_
    cases o with
    | none => exact wp_lcV_inv I step fin q
    | some d =>
      rw [kLv_s, if_pos q.1]
      exact wp_lcV_inv I step fin q.2
theorem rngI_zero {lo : Int} : rngI lo 0 = [] := rfl
theorem rngI_succ {lo : Int} {n : Nat} : rngI lo (n + 1) = .one (.int lo) :: rngI (lo + 1) n := by
  unfold rngI
  rw [List.range_succ_eq_map, List.map_cons, List.map_map]
  congr 1
  · simp
  · apply List.map_congr_left
    intro k _
    simp
    omega
theorem rngI_len {lo : Int} {n : Nat} : (rngI lo n).length = n := by unfold rngI; simp
theorem okDs_all {n : Nat} : ∀ {ds : List D}, (∀ d ∈ ds, okD n d = true) → okDs n ds = true
  | [], _ => by unfold okDs; rfl
  | d :: ds, h => by
    unfold okDs
    rw [h d (List.mem_cons_self ..), okDs_all fun e he => h e (List.mem_cons_of_mem _ he)]
    rfl
theorem okDs_mem {n : Nat} : ∀ {ds : List D}, okDs n ds = true → ∀ d ∈ ds, okD n d = true
  | [], _, _, h => nomatch h
  | x :: ds, h, d, hd => by
    unfold okDs at h
    rw [Bool.and_eq_true] at h
    rcases List.mem_cons.mp hd with e | hd
    · rw [e]; exact h.1
    · exact okDs_mem h.2 d hd
theorem eqDs_nil {ps : List D} : eqDs ps [] = ps.isEmpty := by cases ps <;> rfl
theorem All2.mem {α β : Type} {Q : α → β → Prop} {as : List α} {bs : List β} (h : All2 Q as bs) : ∀ b ∈ bs, ∃ a ∈ as, Q a b := by
  induction h with
  | nil => exact fun _ h => nomatch h
  | cons q _ ih =>
    intro b hb
    rcases List.mem_cons.mp hb with e | hb
    · rw [e]; exact ⟨_, List.mem_cons_self .., q⟩
    · obtain ⟨a, ha, q⟩ := ih b hb
      exact ⟨a, List.mem_cons_of_mem _ ha, q⟩
end CI

/-! More about data: texts, frozen data, lists of choices. -/
namespace CI
open PySem PySem.Spec PyProof.Rows L2 HT
theorem ofS_inj {a b : String} (h : Str.ofString a = Str.ofString b) : a = b := by
  rw [Str.ofString_eq_toList, Str.ofString_eq_toList] at h
  injection h with h
  have h2 : a.toList.map Char.toNat = b.toList.map Char.toNat := by simpa using h
  have h3 : a.toList = b.toList := by
    have inj : ∀ x y : Char, x.toNat = y.toNat → x = y := fun x y e => by
      have : x.val.toNat = y.val.toNat := e
      exact Char.ext (UInt32.toNat_inj.mp this)
    exact (List.map_inj_right inj).mp h2
  exact String.toList_inj.mp h3
@[simp] theorem ofS_beq (a b : String) : (Str.ofString a == Str.ofString b) = (a == b) := by
  by_cases h : a = b
  · subst h; simp
  · have h' : Str.ofString a ≠ Str.ofString b := fun e => h (ofS_inj e)
    rw [beq_eq_false_iff_ne.mpr h, beq_eq_false_iff_ne.mpr h']
@[simp] theorem ofS_eq (a b : String) : (Str.ofString a = Str.ofString b) = (a = b) := propext ⟨ofS_inj, fun e => by rw [e]⟩
mutual
def frz : D → Bool
  | .adr _ => false
  | .tup ds => frzs ds
  | .lst ds => frzs ds
  | _ => true
def frzs : List D → Bool
  | [] => true
  | d :: ds => frz d && frzs ds
end
theorem frzs_mem : ∀ {ds : List D}, frzs ds = true → ∀ d ∈ ds, frz d = true
  | [], _, _, h => nomatch h
  | x :: ds, h, d, hd => by
    rw [frzs, Bool.and_eq_true] at h
    rcases List.mem_cons.mp hd with e | hd
    · rw [e]; exact h.1
    · exact frzs_mem h.2 d hd
theorem frzs_all : ∀ {ds : List D}, (∀ d ∈ ds, frz d = true) → frzs ds = true
  | [], _ => rfl
  | x :: ds, h => by rw [frzs, h x (List.mem_cons_self ..), frzs_all fun d hd => h d (List.mem_cons_of_mem _ hd)]; rfl
theorem wm_index {S : Store} {k : Kn D} {ds : List D} {x : D} {j : Nat} (hx : flatD x = true) (hd : ds.all flatD = true) (hi : idxO x ds = some j) : wp (meD .index (.lst ds) [x]) S k = k (.int j) S := by
  have e : meD .index (.lst ds) [x] S = .ok (.int j) S := by
    show (if flatD x = true ∧ ds.all flatD = true then (match idxO x ds with | some j => Res.ok (D.int j) S | none => .bad) else .bad) = _
    rw [if_pos ⟨hx, hd⟩, hi]
  rw [wp_ok e]
@[simp] theorem strOk_of (s : String) : PyData.strOk (Str.ofString s) = true := by
  unfold PyData.strOk
  rw [Str.ofString_eq_toList]
  simp only [List.all_toArray, List.all_map, List.all_eq_true]
  intro c _
  have := c.valid
  have h : c.toNat < 0x110000 := by
    have v : c.val.toNat < 0xd800 ∨ 0xdfff < c.val.toNat ∧ c.val.toNat < 0x110000 := c.valid
    show c.val.toNat < 0x110000
    omega
  simpa using h
@[simp] theorem wc_eqS {S : Store} {k : Kn D} {x y : Str} (h1 : PyData.strOk x = true) (h2 : PyData.strOk y = true) : wp (cmpD .Eq (.str x) (.str y)) S k = k (.bl (x == y)) S := by
  rw [wc_eq (by simpa [okD] using h1) (by simpa [okD] using h2)]
  simp [eqD]
@[simp] theorem wc_neS {S : Store} {k : Kn D} {x y : Str} (h1 : PyData.strOk x = true) (h2 : PyData.strOk y = true) : wp (cmpD .NotEq (.str x) (.str y)) S k = k (.bl (!(x == y))) S := by
  rw [wc_ne (by simpa [okD] using h1) (by simpa [okD] using h2)]
  simp [eqD]
@[simp] theorem rcv_lst {S : Store} {ds : List D} : rcvO .list S (.lst ds) = true := rfl
@[simp] theorem rcv_str {S : Store} {x : Str} : rcvO .str S (.str x) = true := rfl
@[simp] theorem ty_index : Me.ty .index = .list := rfl
@[simp] theorem ty_append : Me.ty .append = .list := rfl
@[simp] theorem ty_upper : Me.ty .upper = .str := rfl
theorem wm_upper {S : Store} {k : Kn D} {z : Str} (h : z.length ≤ 5592405) : wp (meD .upper (.str z) []) S k = k (.str (Txt.upper z)) S := by
  have e : meD .upper (.str z) [] S = .ok (.str (Txt.upper z)) S := by
    show (if z.length ≤ 5592405 then Res.ok (D.str (Txt.upper z)) S else .bad) = _
    rw [if_pos h]
  rw [wp_ok e]
theorem wm_append {S : Store} {k : Kn D} {n : Nat} {ds : List D} {x : D} (h : S[n]? = some (.lst ds)) (hz : ds.length < big) : wp (meD .append (.adr n) [x]) S k = k .non (S.set n (.lst (ds ++ [x]))) := by
  have e : meD .append (.adr n) [x] S = .ok .non (S.set n (.lst (ds ++ [x]))) := by
    show (match S[n]? with | some (.lst ds) => if ds.length < big then Res.ok D.non (S.set n (.lst (ds ++ [x]))) else .bad | _ => .bad) = _
    rw [h]
    simp only
    rw [if_pos hz]
  rw [wp_ok e]
theorem rcv_adr {S : Store} {n : Nat} {ds : List D} (h : S[n]? = some (.lst ds)) : rcvO .list S (.adr n) = true := by
  show ((match S[n]? with | some (.lst ds) => some ds | _ => none : Option (List D))).isSome = true
  rw [h]; rfl
/-- one of a list -/
theorem atI_any {L : List D} {r : Int} (h0 : 0 ≤ r) (h1 : r < L.length) : ∃ e ∈ L, L2.atI L r = some e := by
  have h : r.toNat < L.length := by omega
  exact ⟨L[r.toNat], List.getElem_mem h, by rw [atI_pos h0, List.getElem?_eq_getElem h]⟩
mutual
theorem okD_frz : ∀ (n : Nat) (d : D), okD n d = true → frz d = true
  | n, .non, _ => rfl
  | n, .bl _, _ => rfl
  | n, .int _, _ => rfl
  | n, .str _, _ => rfl
  | 0, .tup ds, h => by simp [okD] at h
  | 0, .lst ds, h => by simp [okD] at h
  | n + 1, .tup ds, h => by rw [okD] at h; rw [frz]; exact okDs_frz n ds h
  | n + 1, .lst ds, h => by rw [okD] at h; rw [frz]; exact okDs_frz n ds h
  | n, .ro ds, h => rfl
  | n, .dct ds, h => rfl
  | n, .adr a, h => absurd rfl ((okD_n _ h).1 a)
theorem okDs_frz : ∀ (n : Nat) (ds : List D), okDs n ds = true → frzs ds = true
  | n, [], _ => rfl
  | n, d :: ds, h => by
    rw [okDs, Bool.and_eq_true] at h
    rw [frzs, okD_frz n d h.1, okDs_frz n ds h.2]
    rfl
end
mutual
theorem okD_mono : ∀ (n m : Nat) (d : D), n ≤ m → okD n d = true → okD m d = true
  | n, m, .non, _, _ => by cases m <;> rfl
  | n, m, .bl _, _, _ => by cases m <;> rfl
  | n, m, .int _, _, _ => by cases m <;> rfl
  | n, m, .str _, _, h => by cases n <;> cases m <;> exact h
  | 0, m, .tup ds, _, h => by simp [okD] at h
  | 0, m, .lst ds, _, h => by simp [okD] at h
  | n + 1, 0, .tup ds, hl, h => by omega
  | n + 1, 0, .lst ds, hl, h => by omega
  | n + 1, m + 1, .tup ds, hl, h => by rw [okD] at h ⊢; exact okDs_mono n m ds (by omega) h
  | n + 1, m + 1, .lst ds, hl, h => by rw [okD] at h ⊢; exact okDs_mono n m ds (by omega) h
  | n, m, .ro ds, _, h => absurd rfl ((okD_n _ h).2.2 ds)
  | n, m, .dct ds, _, h => absurd rfl ((okD_n _ h).2.1 ds)
  | n, m, .adr a, _, h => absurd rfl ((okD_n _ h).1 a)
theorem okDs_mono : ∀ (n m : Nat) (ds : List D), n ≤ m → okDs n ds = true → okDs m ds = true
  | n, m, [], _, _ => by unfold okDs; rfl
  | n, m, d :: ds, hl, h => by
    rw [okDs, Bool.and_eq_true] at h ⊢
    exact ⟨okD_mono n m d hl h.1, okDs_mono n m ds hl h.2⟩
end
@[simp] theorem set_last {S : Store} {o o' : Ob} : (S ++ [o]).set S.length o' = S ++ [o'] := by
  rw [List.set_append_right _ _ (Nat.le_refl _), Nat.sub_self]
  rfl
@[simp] theorem get_last {S : Store} {o : Ob} : (S ++ [o])[S.length]? = some o := by
  rw [List.getElem?_append_right (Nat.le_refl _), Nat.sub_self]
  rfl
theorem ozk_pick {p : D → Bool} {L : List D} {r : Int} {S : Store} {K : Kn D} (h0 : 0 ≤ r) (h1 : r < L.length) (hL : L.all p = true) (h : ∀ e, p e = true → K e S) : ozk (L2.atI L r) S K := by
  obtain ⟨e, he, e1⟩ := atI_any h0 h1
  rw [e1]
  exact h e (List.all_eq_true.mp hL e he)
theorem okDs_app {n : Nat} : ∀ {xs ys : List D}, okDs n (xs ++ ys) = (okDs n xs && okDs n ys)
  | [], ys => by simp [okDs]
  | x :: xs, ys => by simp [okDs, okDs_app (xs := xs), Bool.and_assoc]
theorem okInts {n : Nat} (ks : List Int) : okD (n + 1) (.lst (ks.map D.int)) = true := by
  rw [okD]
  exact okDs_all fun d hd => by
    obtain ⟨k, _, rfl⟩ := List.mem_map.mp hd
    cases n <;> rfl
theorem rngI_2 : rngI 0 2 = [.one (.int 0), .one (.int 1)] := rfl
theorem ne_bb {a b c e : Bool} {S : Store} {k : Kn D} : wp (cmpD .NotEq (.tup [.bl a, .bl b]) (.tup [.bl c, .bl e])) S k = k (.bl (!(a == c && b == e))) S := by
  rw [wc_ne rfl rfl]
  simp [eqD, eqDs]
theorem lg1009 : Nat.log2 1009 < 9000 := by decide
theorem lg757 : Nat.log2 757 < 9000 := by decide
theorem lg7 : Nat.log2 7 < 9000 := by decide
theorem lg2 : Nat.log2 2 < 9000 := by decide
theorem lg3 : Nat.log2 3 < 9000 := by decide
theorem mulOk_l {i j : Int} (h1 : 0 ≤ i) (h2 : i < 10000000000) : mulOk i j = true := by
  unfold mulOk
  have : i.natAbs < 2 ^ 64 := by omega
  simp [this]
theorem digit_log {n : Int} (h1 : 0 < n) (h2 : n < 100000) : 0 < n ∧ n.natAbs.log2 < 9000 := by
  refine ⟨h1, ?_⟩
  have h3 : n.natAbs < 2 ^ 17 := by omega
  have : n.natAbs.log2 < 17 := (Nat.log2_lt (by omega)).mpr h3
  omega
theorem rngI_0 : rngI 0 0 = [] := rfl
theorem rngI_1 : rngI 0 1 = [.one (.int 0)] := rfl
/-- the law's state: three whole numbers in a list -/
def St3 (n : Nat) (S : Store) : Prop := ∃ a b c, S[n]? = some (.lst [.int a, .int b, .int c])
theorem St3.set {n : Nat} {S : Store} {a b c : Int} (h : St3 n S) : St3 n (S.set n (.lst [.int a, .int b, .int c])) := by
  obtain ⟨x, y, z, e⟩ := h
  exact ⟨a, b, c, set_at e⟩
theorem St3.add {n : Nat} {S : Store} {o : Ob} (h : St3 n S) : St3 n (S ++ [o]) := by
  obtain ⟨x, y, z, e⟩ := h
  exact ⟨x, y, z, add_at e⟩
theorem St3.lt {n : Nat} {S : Store} (h : St3 n S) : n < S.length := by
  obtain ⟨_, _, _, e⟩ := h
  obtain ⟨q, _⟩ := List.getElem?_eq_some_iff.mp e
  exact q
/-- another object stays -/
theorem St3.keep {n : Nat} {S S' : Store} {o ob : Ob} (h : St3 n S) (e : S' = (S ++ [ob]).set n o) : S'[S.length]? = some ob := by
  subst e
  rw [List.getElem?_set_ne (Nat.ne_of_lt h.lt), List.getElem?_append_right (Nat.le_refl _), Nat.sub_self]
  rfl
@[simp] theorem zipO_tup {xs ys : List D} : zipO (.tup xs) (.tup ys) = some (.val (zipI xs ys)) := (rfl)
@[simp] theorem zipO_lst {xs ys : List D} : zipO (.lst xs) (.lst ys) = some (.val (zipI xs ys)) := (rfl)
/-- [e for x, y in zip(..)], told by a function -/
theorem lcV_zip {T : TabT} {ρ : DEnv} {i j : Nat} {e : Ex} (f : D → D → D) {l : List (D × D)} (h : ∀ p ∈ l, ∀ S, wp (ev T e ((ρ.set i (some p.1)).set j (some p.2))) S fun v S' => v = f p.1 p.2 ∧ S' = S) (hz : l.length ≤ big) :
    lcV (turnM (.t [.n i, .n j]) (ev T (.con (.bl true))) (ev T e) ρ) (l.map fun p => .pair p.1 p.2) [] = ret (l.map fun p => f p.1 p.2) := by
  have key : ∀ (l : List (D × D)) (acc : List D), (∀ p ∈ l, ∀ S, wp (ev T e ((ρ.set i (some p.1)).set j (some p.2))) S fun v S' => v = f p.1 p.2 ∧ S' = S) → acc.length + l.length ≤ big →
      lcV (turnM (.t [.n i, .n j]) (ev T (.con (.bl true))) (ev T e) ρ) (l.map fun p => .pair p.1 p.2) acc = ret (acc ++ l.map fun p => f p.1 p.2) := by
    intro l
    induction l with
    | nil => intro acc _ _; simp [lcV]
    | cons a l ih =>
      intro acc h z
      rw [List.length_cons] at z
      have e1 : turnM (.t [.n i, .n j]) (ev T (.con (.bl true))) (ev T e) ρ (.pair a.1 a.2) = ret (some (f a.1 a.2)) := ret_of_wp fun S => by
        rw [wp_turn]
        simp only [wp_tgI2, kTgs_, wp_tgs_cons, wp_tgs_nil, wp_tgN, kTn1_, wp_con, kTn2_, if_true]
        refine wp_mono (h a (List.mem_cons_self ..) S) fun v S' ⟨e1, e2⟩ => ?_
        subst e1 e2
        exact ⟨rfl, rfl⟩
      rw [List.map_cons]
      unfold lcV
      rw [e1, ret_bnd]
      simp only
      rw [if_pos (by omega), ih _ (fun b hb => h b (List.mem_cons_of_mem _ hb)) (by rw [List.length_append, List.length_singleton]; omega), List.append_assoc]
      rfl
  rw [key l [] h (by simpa using hz), List.nil_append]
end CI

/-! Walks that end in an exception; try. -/
namespace CI
open PySem PySem.Spec PyProof.Rows L2 HT

abbrev Kx := Exn → Store → Prop
/-- it raises, and so -/
def wx {α : Type} (m : M α) (S : Store) (P : Kx) : Prop := match m S with
  | .exc x S' => P x S'
  | _ => False
theorem wx_mono {α : Type} {m : M α} {S : Store} {P Q : Kx} (h : wx m S P) (k : ∀ x S', P x S' → Q x S') : wx m S Q := by
  unfold wx at *
  split at h
  · exact k _ _ h
  · exact h
theorem wx_bnd1 {α β : Type} {m : M α} {f : α → M β} {S : Store} {P : Kx} (h : wx m S P) : wx (bnd m f) S P := by
  unfold wx bnd at *
  cases e : m S with
  | exc x S' => rw [e] at h; exact h
  | ok a S' => rw [e] at h; exact h.elim
  | bad => rw [e] at h; exact h.elim
theorem wx_bnd2 {α β : Type} {m : M α} {f : α → M β} {S : Store} {P : Kx} (h : wp m S fun a S' => wx (f a) S' P) : wx (bnd m f) S P := by
  obtain ⟨a, S', e, h⟩ := wp_iff.mp h
  unfold wx bnd at *
  rw [e]
  exact h
theorem wx_atM {α : Type} {ρ : DEnv} {m : M α} {S : Store} {P : Kx} (h : wx m S fun x S' => P { x with env := ρ } S') : wx (atM ρ m) S P := by
  unfold wx atM at *
  cases e : m S with
  | exc x S' => rw [e] at h; exact h
  | ok a S' => rw [e] at h; exact h.elim
  | bad => rw [e] at h; exact h.elim
section
variable {T : TabT} {ρ : DEnv} {S : Store} {P : Kx}
theorem wx_run {tab : Nat → Option Df} {d g : Nat} {df : Df} {ds : List D} (h : tab g = some df) (hl : ds.length = df.n) (hx : wx (exSs (run tab d) df.b (startD df.k ds)) S P) : wx (run tab (d + 1) g ds) S P := by
  unfold run
  rw [h]
  simp only
  rw [if_pos hl]
  exact wx_bnd1 hx
/-- the rest raises -/
def kSeqX (T : TabT) (ss : Stms) (P : Kx) : Kn Fl := fun fl S => match fl with
  | .nx ρ => wx (exSs T ss ρ) S P
  | _ => False
@[simp] theorem kSeqX_nx {ss : Stms} : kSeqX T ss P (.nx ρ) S = wx (exSs T ss ρ) S P := (rfl)
theorem wx_here {s : Stm} {ss : Stms} (h : wx (exS T s ρ) S P) : wx (exSs T (.cons s ss) ρ) S P := by
  unfold exSs thenM
  exact wx_bnd1 h
theorem wx_next {s : Stm} {ss : Stms} (h : wp (exS T s ρ) S (kSeqX T ss P)) : wx (exSs T (.cons s ss) ρ) S P := by
  unfold exSs thenM
  refine wx_bnd2 (wp_mono h fun fl S' q => ?_)
  cases fl with
  | nx ρ' => exact q
  | _ => exact q.elim
def kIteX (T : TabT) (a b : Stms) (ρ : DEnv) (P : Kx) : Kn D := fun d S => match d with
  | .bl c => (if c = true then wx (exSs T a ρ) S P else wx (exSs T b ρ) S P)
  | _ => False
@[simp] theorem kIteX_ {a b : Stms} {c : Bool} : kIteX T a b ρ P (.bl c) S = if c = true then wx (exSs T a ρ) S P else wx (exSs T b ρ) S P := (rfl)
theorem wx_if {c : Ex} {a b : Stms} (h : wp (ev T c ρ) S (kIteX T a b ρ P)) : wx (exS T (.ite c a b) ρ) S P := by
  unfold exS ifS tsM
  rw [bnd_assoc]
  refine wx_bnd2 (wp_mono h fun d S' q => ?_)
  cases d with
  | bl k =>
    show wx (if k = true then exSs T a ρ else exSs T b ρ) S' P
    cases k with
    | true => exact q
    | false => exact q
  | _ => exact q.elim
theorem wx_raise {c : Str} (h : P ⟨c, [], ρ⟩ S) : wx (exS T (.raise c) ρ) S P := by
  unfold exS raiseM wx
  exact h
def kRaiseF (c f : Str) (ρ : DEnv) (P : Kx) : Kn D := fun d S => P ⟨c, [(f, d)], ρ⟩ S
@[simp] theorem kRaiseF_ {c f : Str} {d : D} : kRaiseF c f ρ P d S = P ⟨c, [(f, d)], ρ⟩ S := (rfl)
theorem wx_raiseF {c f : Str} {e : Ex} (h : wp (ev T e ρ) S (kRaiseF c f ρ P)) : wx (exS T (.raiseF c f e) ρ) S P := by
  unfold exS raiseFM
  exact wx_bnd2 (wp_mono h fun d S' q => q)
theorem wx_expr {e : Ex} (h : wx (ev T e ρ) S P) : wx (exS T (.expr e) ρ) S P := by
  unfold exS exprM
  exact wx_bnd1 h
theorem wx_ret {e : Ex} (h : wx (ev T e ρ) S P) : wx (exS T (.ret e) ρ) S P := by
  unfold exS retM
  exact wx_bnd1 h
theorem wx_asg {t : Tg} {e : Ex} (h : wx (ev T e ρ) S P) : wx (exS T (.asg t e) ρ) S P := by
  unfold exS asgM
  exact wx_bnd1 h
def kCallX (T : TabT) (g : Nat) (ρ : DEnv) (P : Kx) : Kn (List D) := fun ds S => wx (T g ds) S fun x S' => P { x with env := ρ } S'
@[simp] theorem kCallX_ {g : Nat} {ds : List D} : kCallX T g ρ P ds S = wx (T g ds) S fun x S' => P { x with env := ρ } S' := (rfl)
theorem wx_call {g : Nat} {es : Exs} (h : wp (evs T es ρ) S (kCallX T g ρ P)) : wx (ev T (.call g es) ρ) S P := by
  unfold ev callM
  exact wx_bnd2 (wp_mono h fun ds S' q => wx_atM q)
def kMkX (T : TabT) (x : Str) (g : Nat) (ρ : DEnv) (P : Kx) : Kn (List D) := fun ds S => wx (T g (.adr S.length :: ds)) (S ++ [.ins x []]) fun x S' => P { x with env := ρ } S'
@[simp] theorem kMkX_ {x : Str} {g : Nat} {ds : List D} : kMkX T x g ρ P ds S = wx (T g (.adr S.length :: ds)) (S ++ [.ins x []]) fun x S' => P { x with env := ρ } S' := (rfl)
theorem wx_mk {x : Str} {g : Nat} {es : Exs} (h : wp (evs T es ρ) S (kMkX T x g ρ P)) : wx (ev T (.mk x g es) ρ) S P := by
  unfold ev callM
  refine wx_bnd2 (wp_mono h fun ds S' q => wx_atM ?_)
  unfold mkD
  refine wx_bnd2 ?_
  show wx (bnd (T g (.adr S'.length :: ds)) _) (S' ++ [.ins x []]) _
  exact wx_bnd1 q
theorem wx_mcall1 {mt : List (Str × Nat)} {m : Str} {a : Ex} {es : Exs} (h : wx (ev T a ρ) S P) : wx (ev T (.mcall mt m a es) ρ) S P := by
  unfold ev mcallM
  exact wx_bnd1 h
def kMcX3 (T : TabT) (g : Nat) (d : D) (ρ : DEnv) (P : Kx) : Kn (List D) := fun ds S => wx (T g (d :: ds)) S fun x S' => P { x with env := ρ } S'
@[simp] theorem kMcX3_ {g : Nat} {d : D} {ds : List D} : kMcX3 T g d ρ P ds S = wx (T g (d :: ds)) S fun x S' => P { x with env := ρ } S' := (rfl)
def kMcX2 (T : TabT) (es : Exs) (ρ : DEnv) (d : D) (P : Kx) : Kn Nat := fun g S => wp (evs T es ρ) S (kMcX3 T g d ρ P)
@[simp] theorem kMcX2_ {es : Exs} {d : D} {g : Nat} : kMcX2 T es ρ d P g S = wp (evs T es ρ) S (kMcX3 T g d ρ P) := (rfl)
def kMcX1 (T : TabT) (mt : List (Str × Nat)) (m : Str) (es : Exs) (ρ : DEnv) (P : Kx) : Kn D := fun d S => ozk (mOf mt m S d) S (kMcX2 T es ρ d P)
theorem kMcX1_at {mt : List (Str × Nat)} {m c : Str} {es : Exs} {fs : List (Str × D)} {n g : Nat} (h : S[n]? = some (.ins c fs)) (hm : fs.lookup m = none) (hg : mt.lookup c = some g) : kMcX1 T mt m es ρ P (.adr n) S = wp (evs T es ρ) S (kMcX3 T g (.adr n) ρ P) := by
  unfold kMcX1 mOf insO
  simp only [h]
  rw [if_neg (by rw [hm]; exact Bool.false_ne_true), hg]
  rfl
theorem wx_mcall {mt : List (Str × Nat)} {m : Str} {a : Ex} {es : Exs} (h : wp (ev T a ρ) S (kMcX1 T mt m es ρ P)) : wx (ev T (.mcall mt m a es) ρ) S P := by
  unfold ev mcallM
  refine wx_bnd2 (wp_mono h fun d S1 q => wx_bnd2 ?_)
  rw [wp_look]
  unfold kMcX1 at q
  cases e : mOf mt m S1 d with
  | none => rw [e] at q; exact q.elim
  | some g =>
    rw [e] at q
    exact wx_bnd2 (wp_mono q fun ds S2 q => wx_atM q)
/-- an exception within a row of arguments: the one that stands first -/
theorem wx_call1 {g : Nat} {e : Ex} {es : Exs} (h : wx (ev T e ρ) S P) : wx (ev T (.call g (.cons e es)) ρ) S P := by
  unfold ev callM evs consM
  exact wx_bnd1 (wx_bnd1 h)
theorem wx_bi1 {m : Bool} {b : Bi} {e : Ex} {es : Exs} (h : wx (ev T e ρ) S P) : wx (ev T (.bi m b (.cons e es)) ρ) S P := by
  unfold ev appM evs consM
  exact wx_bnd1 (wx_bnd1 h)
theorem wx_for {t : Tg} {s : Sx} {b : Stms} {e : Ex} (hs : s = .seq e) (h : wx (ev T e ρ) S P) : wx (exS T (.for_ t s b) ρ) S P := by
  subst hs
  unfold exS forM evi seqM
  exact wx_bnd1 (wx_bnd1 h)

/-! ### try -/
theorem wp_try1 {b : Stms} {h : Hds} {kf : Kn Fl} (q : wp (exSs T b ρ) S kf) : wp (exS T (.try_ b h) ρ) S kf := by
  unfold exS tryM
  obtain ⟨a, S', e, q⟩ := wp_iff.mp q
  unfold wp
  simp only [e]
  exact q
theorem wp_try2 {b : Stms} {h : Hds} {kf : Kn Fl} (q : wx (exSs T b ρ) S fun x S' => wp (exHs h x) S' kf) : wp (exS T (.try_ b h) ρ) S kf := by
  unfold exS tryM
  unfold wx at q
  unfold wp
  cases e : exSs T b ρ S with
  | exc x S' => simp only [e] at q ⊢; exact q
  | ok a S' => rw [e] at q; exact q.elim
  | bad => rw [e] at q; exact q.elim
theorem wx_try {b : Stms} {h : Hds} (q : wx (exSs T b ρ) S fun x S' => wx (exHs h x) S' P) : wx (exS T (.try_ b h) ρ) S P := by
  unfold exS tryM
  unfold wx at q
  unfold wx
  cases e : exSs T b ρ S with
  | exc x S' => simp only [e] at q ⊢; exact q
  | ok a S' => rw [e] at q; exact q.elim
  | bad => rw [e] at q; exact q.elim
def kGone (i : Option Nat) (kf : Kn Fl) : Kn Fl := fun fl S => match fl with
  | .nx ρ => kf (.nx (unO i ρ)) S
  | .bk ρ => kf (.bk (unO i ρ)) S
  | .ct ρ => kf (.ct (unO i ρ)) S
  | .rt d => kf (.rt d) S
@[simp ↓] theorem kGone_nx {i : Option Nat} {kf : Kn Fl} : kGone i kf (.nx ρ) S = kf (.nx (unO i ρ)) S := (rfl)
@[simp ↓] theorem kGone_bk {i : Option Nat} {kf : Kn Fl} : kGone i kf (.bk ρ) S = kf (.bk (unO i ρ)) S := (rfl)
@[simp ↓] theorem kGone_ct {i : Option Nat} {kf : Kn Fl} : kGone i kf (.ct ρ) S = kf (.ct (unO i ρ)) S := (rfl)
@[simp ↓] theorem kGone_rt {i : Option Nat} {d : D} {kf : Kn Fl} : kGone i kf (.rt d) S = kf (.rt d) S := (rfl)
@[simp] theorem unO_none : unO none ρ = ρ := (rfl)
@[simp] theorem unO_some {i : Nat} : unO (some i) ρ = ρ.set i none := (rfl)
theorem wp_hd {cs : List Str} {i : Option Nat} {b : Stms} {r : Hds} {x : Exn} {kf : Kn Fl} : wp (exHs (.cons cs i b r) x) S kf = if cs.contains x.cls = true then wp (exSs (TX x) b (unO i x.env)) S (kGone i kf) else wp (exHs r x) S kf := by
  conv => lhs; unfold exHs hdM
  unfold wp
  by_cases c : cs.contains x.cls = true
  · simp only [if_pos c]
    unfold noExc bnd
    cases e : exSs (TX x) b (unO i x.env) S with
    | exc y S' => rfl
    | bad => rfl
    | ok fl S' => cases fl <;> rfl
  · simp only [if_neg c]
theorem wx_hd {cs : List Str} {i : Option Nat} {b : Stms} {r : Hds} {x : Exn} (c : cs.contains x.cls = false) (h : wx (exHs r x) S P) : wx (exHs (.cons cs i b r) x) S P := by
  unfold exHs hdM
  unfold wx at *
  simp only [c]
  exact h
theorem wx_hd0 {x : Exn} (h : P x S) : wx (exHs .nil x) S P := by
  unfold exHs wx
  exact h
theorem wp_xis {i : Nat} {cs : List Str} {x : Exn} {k : Kn D} (h : ρ[i]? = some none) : wp (ev (TX x) (.xis i cs) ρ) S k = k (.bl (cs.contains x.cls)) S := by
  unfold ev xisM xhM
  rw [h]
  simp only
  unfold wp
  rw [TX_is]
theorem wp_xfld {i : Nat} {f : Str} {x : Exn} {d : D} {k : Kn D} (h : ρ[i]? = some none) (hf : x.fs.lookup f = some d) : wp (ev (TX x) (.xfld i f) ρ) S k = k d S := by
  unfold ev xfldM xhM TX
  rw [h]
  simp only
  rw [wp_look, hf]
  rfl
end
end CI

/-! Calls, answers, steps: what they are, and what a plain store does of them. -/
namespace CI.Mo
open PySem PySem.Spec PyProof.Rows L2 CI
abbrev sS (s : String) : D := .str (Str.ofString s)
/-- a call of one key -/
inductive PC where
  | read (k : Nat) | write (k : Nat) (v : Int) | add (k : Nat) (v : Int) | swap (k : Nat) (o w : Int)
  deriving DecidableEq
inductive Call where
  | one (c : PC) | span (lo hi : Nat) | deal (cs : List PC)
  deriving DecidableEq
inductive Stp where
  | call (c : Call) | look (c : Call) | lay (ps : List (Nat × Int))
  deriving DecidableEq
inductive PA where
  | got (v : Int) | done | yes | no
  deriving DecidableEq
inductive Ans where
  | one (a : PA) | all (vs : List Int) | each (as : List PA) | refused
  deriving DecidableEq
def PC.key : PC → Nat
  | .read k => k | .write k _ => k | .add k _ => k | .swap k _ _ => k
def PC.d : PC → D
  | .read k => .tup [sS "read", .int k] | .write k v => .tup [sS "write", .int k, .int v] | .add k v => .tup [sS "add", .int k, .int v] | .swap k o w => .tup [sS "swap", .int k, .int o, .int w]
def Call.d : Call → D
  | .one c => c.d | .span lo hi => .tup [sS "span", .int lo, .int hi] | .deal cs => .tup [sS "deal", .tup (cs.map PC.d)]
def kvD (p : Nat × Int) : D := .tup [.int p.1, .int p.2]
def Stp.d : Stp → D
  | .call c => c.d | .look c => .tup [sS "look", c.d] | .lay ps => .tup [sS "lay", .tup (ps.map kvD)]
def PA.d : PA → D
  | .got v => .tup [sS "got", .int v] | .done => .tup [sS "done"] | .yes => .tup [sS "yes"] | .no => .tup [sS "no"]
def Ans.d : Ans → D
  | .one a => a.d | .all vs => .tup [sS "all", .tup (vs.map D.int)] | .each as => .tup [sS "each", .tup (as.map PA.d)] | .refused => .tup [sS "refused"]
def PC.ok (c : PC) : Prop := c.key < 8
def Call.ok : Call → Prop
  | .one c => c.ok | .span lo hi => lo < hi ∧ hi ≤ 8 | .deal cs => 1 ≤ cs.length ∧ cs.length ≤ 4 ∧ ∀ c ∈ cs, c.ok
def Stp.ok : Stp → Prop
  | .call c => c.ok | .look c => c.ok | .lay ps => ps ≠ [] ∧ (ps.map (·.1)).Pairwise (· < ·) ∧ ∀ p ∈ ps, p.1 < 8
/-- a stand -/
abbrev Stand := List Int
def standD (vs : Stand) : D := .tup (vs.map D.int)
def boxAt (vs : Stand) (k : Nat) : Int := vs.getD k 0
def plainDo (vs : Stand) : PC → PA × Stand
  | .read k => (.got (boxAt vs k), vs)
  | .write k v => (.done, vs.set k v)
  | .add k v => (.got (boxAt vs k + v), vs.set k (boxAt vs k + v))
  | .swap k o w => if boxAt vs k = o then (.yes, vs.set k w) else (.no, vs)
def dealDo (vs : Stand) : List PC → List PA × Stand
  | [] => ([], vs)
  | c :: cs => let r := plainDo vs c; let t := dealDo r.2 cs; (r.1 :: t.1, t.2)
def layDo (vs : Stand) : List (Nat × Int) → Stand
  | [] => vs
  | p :: ps => layDo (vs.set p.1 p.2) ps
def callDo (vs : Stand) : Call → Ans × Stand
  | .one c => (.one (plainDo vs c).1, (plainDo vs c).2)
  | .span lo hi => (.all ((vs.drop lo).take (hi - lo)), vs)
  | .deal cs => (.each (dealDo vs cs).1, (dealDo vs cs).2)
def stepDo (vs : Stand) : Stp → Ans × Stand
  | .call c => callDo vs c
  | .look c => ((callDo vs c).1, vs)
  | .lay ps => (.one .done, layDo vs ps)
theorem plainDo_len {vs : Stand} {c : PC} : (plainDo vs c).2.length = vs.length := by
  cases c <;> simp [plainDo]
  split <;> simp
theorem dealDo_len : ∀ {cs : List PC} {vs : Stand}, (dealDo vs cs).2.length = vs.length
  | [], _ => rfl
  | c :: cs, vs => by simp only [dealDo]; rw [dealDo_len, plainDo_len]
theorem dealDo_len1 : ∀ {cs : List PC} {vs : Stand}, (dealDo vs cs).1.length = cs.length
  | [], _ => rfl
  | c :: cs, vs => by simp only [dealDo]; rw [List.length_cons, dealDo_len1]; rfl
theorem layDo_len : ∀ {ps : List (Nat × Int)} {vs : Stand}, (layDo vs ps).length = vs.length
  | [], _ => rfl
  | p :: ps, vs => by simp only [layDo]; rw [layDo_len]; simp
theorem callDo_len {vs : Stand} {c : Call} : (callDo vs c).2.length = vs.length := by
  cases c <;> simp [callDo, plainDo_len, dealDo_len]
theorem stepDo_len {vs : Stand} {c : Stp} : (stepDo vs c).2.length = vs.length := by
  cases c <;> simp [stepDo, callDo_len, layDo_len]
/-! ### data alike -/
mutual
/-- data without truths, dicts, what may change -/
def noBl : D → Bool
  | .non => true | .int _ => true | .str _ => true | .tup ds => noBls ds | .lst ds => noBls ds | _ => false
def noBls : List D → Bool
  | [] => true
  | d :: ds => noBl d && noBls ds
end
theorem noBls_all : ∀ {ds : List D}, noBls ds = true ↔ ∀ d ∈ ds, noBl d = true
  | [] => by simp [noBls]
  | d :: ds => by simp [noBls, noBls_all (ds := ds)]
mutual
theorem eqD_iff : ∀ (a b : D), noBl a = true → noBl b = true → (eqD a b = true ↔ a = b)
  | .non, b, _, h => by cases b <;> simp_all [eqD, noBl]
  | .int i, b, _, h => by cases b <;> simp_all [eqD, noBl]
  | .str i, b, _, h => by cases b <;> simp_all [eqD, noBl]
  | .tup ds, b, h1, h => by
    cases b <;> simp_all [eqD, noBl]
    exact eqDs_iff _ _ h1 h
  | .lst ds, b, h1, h => by
    cases b <;> simp_all [eqD, noBl]
    exact eqDs_iff _ _ h1 h
  | .bl _, _, h, _ => by simp [noBl] at h
  | .ro _, _, h, _ => by simp [noBl] at h
  | .dct _, _, h, _ => by simp [noBl] at h
  | .adr _, _, h, _ => by simp [noBl] at h
theorem eqDs_iff : ∀ (a b : List D), noBls a = true → noBls b = true → (eqDs a b = true ↔ a = b)
  | [], [], _, _ => by simp [eqDs]
  | [], _ :: _, _, _ => by simp [eqDs]
  | _ :: _, [], _, _ => by simp [eqDs]
  | x :: xs, y :: ys, h1, h2 => by
    rw [noBls, Bool.and_eq_true] at h1 h2
    rw [eqDs, Bool.and_eq_true, eqD_iff x y h1.1 h2.1, eqDs_iff xs ys h1.2 h2.2, List.cons.injEq]
end
theorem eqD_self {a : D} (h : noBl a = true) : eqD a a = true := (eqD_iff a a h h).mpr rfl
theorem eqD_dec {a b : D} (h1 : noBl a = true) (h2 : noBl b = true) {p : Prop} [Decidable p] (h : a = b ↔ p) : eqD a b = decide p := by
  rw [Bool.eq_iff_iff, eqD_iff a b h1 h2, h, decide_eq_true_iff]
@[simp] theorem noBl_ints {vs : List Int} : noBls (vs.map D.int) = true := noBls_all.mpr fun d hd => by
  obtain ⟨i, _, rfl⟩ := List.mem_map.mp hd; rfl
@[simp] theorem PC.noBl {c : PC} : noBl c.d = true := by cases c <;> simp [PC.d, Mo.noBl, noBls]
@[simp] theorem PA.noBl {c : PA} : noBl c.d = true := by cases c <;> simp [PA.d, Mo.noBl, noBls]
theorem noBls_map {α : Type} {f : α → D} (h : ∀ a, noBl (f a) = true) {l : List α} : noBls (l.map f) = true := noBls_all.mpr fun d hd => by
  obtain ⟨i, _, rfl⟩ := List.mem_map.mp hd; exact h i
@[simp] theorem Call.noBl {c : Call} : noBl c.d = true := by cases c <;> simp [Call.d, Mo.noBl, noBls, noBls_map]
@[simp] theorem Ans.noBl {c : Ans} : noBl c.d = true := by cases c <;> simp [Ans.d, Mo.noBl, noBls, noBls_map]
@[simp] theorem pair_noBl {p : Nat × Int} : noBl (kvD p) = true := by simp [kvD, Mo.noBl, noBls]
@[simp] theorem Stp.noBl {c : Stp} : noBl c.d = true := by cases c <;> simp [Stp.d, Mo.noBl, noBls, noBls_map]
@[simp] theorem stand_noBl {vs : Stand} : noBl (standD vs) = true := by simp [standD, Mo.noBl]
theorem int_inj : ∀ {vs ws : List Int}, (vs.map D.int = ws.map D.int) = (vs = ws) := by
  intro vs ws
  exact propext (List.map_inj_right (fun a b h => by injection h))
theorem map_inj {α : Type} {f : α → D} (h : ∀ a b, f a = f b → a = b) {vs ws : List α} : (vs.map f = ws.map f) = (vs = ws) := propext (List.map_inj_right (fun a b e => h a b e))
theorem PC.inj {a b : PC} (h : a.d = b.d) : a = b := by
  cases a <;> cases b <;> simp [PC.d] at h ⊢ <;> omega
theorem PA.inj {a b : PA} (h : a.d = b.d) : a = b := by
  cases a <;> cases b <;> simp_all [PA.d]
theorem Call.inj {a b : Call} (h : a.d = b.d) : a = b := by
  cases a with
  | one c => cases b with
    | one e => exact congrArg _ (PC.inj h)
    | _ => cases c <;> simp [Call.d, PC.d] at h
  | span _ _ => cases b with
    | one e => cases e <;> simp [Call.d, PC.d] at h
    | span _ _ => simp [Call.d] at h ⊢; omega
    | deal _ => simp [Call.d] at h
  | deal cs => cases b with
    | one e => cases e <;> simp [Call.d, PC.d] at h
    | span _ _ => simp [Call.d] at h
    | deal es => simp only [Call.d, D.tup.injEq, List.cons.injEq, true_and, and_true, map_inj (fun _ _ => PC.inj)] at h; rw [h]
theorem Ans.inj {a b : Ans} (h : a.d = b.d) : a = b := by
  cases a with
  | one c => cases b with
    | one e => exact congrArg _ (PA.inj h)
    | _ => cases c <;> simp [Ans.d, PA.d] at h
  | all _ => cases b with
    | one e => cases e <;> simp [Ans.d, PA.d] at h
    | all _ => simp only [Ans.d, D.tup.injEq, List.cons.injEq, true_and, and_true, int_inj] at h; rw [h]
    | _ => simp [Ans.d] at h
  | each cs => cases b with
    | one e => cases e <;> simp [Ans.d, PA.d] at h
    | each es => simp only [Ans.d, D.tup.injEq, List.cons.injEq, true_and, and_true, map_inj (fun _ _ => PA.inj)] at h; rw [h]
    | _ => simp [Ans.d] at h
  | refused => cases b with
    | one e => cases e <;> simp [Ans.d, PA.d] at h
    | refused => rfl
    | _ => simp [Ans.d] at h
@[simp] theorem eq_ans {a b : Ans} : eqD a.d b.d = decide (a = b) := eqD_dec Ans.noBl Ans.noBl ⟨Ans.inj, fun e => by rw [e]⟩
@[simp] theorem eq_pa {a b : PA} : eqD a.d b.d = decide (a = b) := eqD_dec PA.noBl PA.noBl ⟨PA.inj, fun e => by rw [e]⟩
@[simp] theorem eq_call {a b : Call} : eqD a.d b.d = decide (a = b) := eqD_dec Call.noBl Call.noBl ⟨Call.inj, fun e => by rw [e]⟩
theorem eq_stand {a b : Stand} : eqD (standD a) (standD b) = decide (a = b) := eqD_dec stand_noBl stand_noBl ⟨fun h => by simpa [standD, int_inj] using h, fun e => by rw [e]⟩
end CI.Mo

/-! What is kept of a store; typed data for the evaluator. -/
namespace CI.Mo
open PySem PySem.Spec PyProof.Rows L2 CI
theorem okDs_map {n : Nat} {α : Type} {f : α → D} {l : List α} (h : ∀ a ∈ l, okD n (f a) = true) : okDs n (l.map f) = true := okDs_all fun d hd => by
  obtain ⟨a, ha, rfl⟩ := List.mem_map.mp hd; exact h a ha
@[simp] theorem okDs_ints {n : Nat} {vs : List Int} : okDs n (vs.map D.int) = true := okDs_map fun a _ => by cases n <;> rfl
@[simp] theorem PC.okd {n : Nat} {c : PC} (h : 1 ≤ n) : okD n c.d = true := by
  obtain ⟨n, rfl⟩ : ∃ m, n = m + 1 := ⟨n - 1, by omega⟩
  cases c <;> (cases n <;> simp [PC.d, okD, okDs])
@[simp] theorem PA.okd {n : Nat} {c : PA} (h : 1 ≤ n) : okD n c.d = true := by
  obtain ⟨n, rfl⟩ : ∃ m, n = m + 1 := ⟨n - 1, by omega⟩
  cases c <;> (cases n <;> simp [PA.d, okD, okDs])
@[simp] theorem Call.okd {n : Nat} {c : Call} (h : 3 ≤ n) : okD n c.d = true := by
  obtain ⟨n, rfl⟩ : ∃ m, n = m + 3 := ⟨n - 3, by omega⟩
  cases c with
  | one c => exact PC.okd (by omega)
  | span lo hi => cases n <;> simp [Call.d, okD, okDs]
  | deal cs => simp [Call.d, okD, okDs, okDs_map]
@[simp] theorem Ans.okd {n : Nat} {c : Ans} (h : 3 ≤ n) : okD n c.d = true := by
  obtain ⟨n, rfl⟩ : ∃ m, n = m + 3 := ⟨n - 3, by omega⟩
  cases c with
  | one c => exact PA.okd (by omega)
  | all vs => simp [Ans.d, okD, okDs]
  | each cs => simp [Ans.d, okD, okDs, okDs_map]
  | refused => simp [Ans.d, okD, okDs]
@[simp] theorem pair_okd {n : Nat} {p : Nat × Int} (h : 1 ≤ n) : okD n (kvD p) = true := by
  obtain ⟨n, rfl⟩ : ∃ m, n = m + 1 := ⟨n - 1, by omega⟩
  cases n <;> simp [kvD, okD, okDs]
@[simp] theorem Stp.okd {n : Nat} {c : Stp} (h : 4 ≤ n) : okD n c.d = true := by
  obtain ⟨n, rfl⟩ : ∃ m, n = m + 4 := ⟨n - 4, by omega⟩
  cases c with
  | call c => exact Call.okd (by omega)
  | look c => simp [Stp.d, okD, okDs]
  | lay ps => simp [Stp.d, okD, okDs, okDs_map]
@[simp] theorem stand_okd {n : Nat} {vs : Stand} (h : 1 ≤ n) : okD n (standD vs) = true := by
  obtain ⟨n, rfl⟩ : ∃ m, n = m + 1 := ⟨n - 1, by omega⟩
  simp [standD, okD]
theorem okd_frz {d : D} (h : okD 64 d = true) : frz d = true := okD_frz 64 d h
/-- all objects but some stay as they were -/
structure Keep (ns : List Nat) (S S' : Store) : Prop where
  len : S.length ≤ S'.length
  at_ : ∀ m < S.length, m ∉ ns → S'[m]? = S[m]?
theorem Keep.refl {ns : List Nat} {S : Store} : Keep ns S S := ⟨Nat.le_refl _, fun _ _ _ => rfl⟩
theorem Keep.trans {ns : List Nat} {S S1 S2 : Store} (a : Keep ns S S1) (b : Keep ns S1 S2) : Keep ns S S2 :=
  ⟨Nat.le_trans a.len b.len, fun m h1 h2 => (b.at_ m (Nat.lt_of_lt_of_le h1 a.len) h2).trans (a.at_ m h1 h2)⟩
theorem Keep.more {ns ns' : List Nat} {S S' : Store} (a : Keep ns S S') (h : ∀ m ∈ ns, m ∈ ns') : Keep ns' S S' := ⟨a.len, fun m h1 h2 => a.at_ m h1 fun q => h2 (h m q)⟩
theorem Keep.add {ns : List Nat} {S S' : Store} {o : Ob} (a : Keep ns S S') : Keep ns S (S' ++ [o]) := by
  refine a.trans ⟨by simp, fun m h1 _ => List.getElem?_append_left h1⟩
theorem Keep.set {ns : List Nat} {S S' : Store} {n : Nat} {o : Ob} (a : Keep ns S S') (h : n ∈ ns ∨ S.length ≤ n) : Keep ns S (S'.set n o) := by
  refine ⟨by simpa using a.len, fun m h1 h2 => ?_⟩
  rw [List.getElem?_set_ne (fun e => by subst e; rcases h with h | h; exact h2 h; omega)]
  exact a.at_ m h1 h2
/-- what lies beyond the old store does not matter -/
theorem Keep.drop {ns ns' : List Nat} {S S' : Store} (a : Keep ns S S') (h : ∀ m ∈ ns, m ∈ ns' ∨ S.length ≤ m) : Keep ns' S S' := ⟨a.len, fun m h1 h2 => a.at_ m h1 fun q => by
  rcases h m q with h | h
  · exact h2 h
  · omega⟩
theorem Keep.get {ns : List Nat} {S S' : Store} (a : Keep ns S S') {m : Nat} {o : Ob} (h : S[m]? = some o) (hn : m ∉ ns) : S'[m]? = some o := by
  obtain ⟨q, _⟩ := List.getElem?_eq_some_iff.mp h
  rw [a.at_ m q hn, h]
theorem lt_of {S : Store} {m : Nat} {o : Ob} (h : S[m]? = some o) : m < S.length := (List.getElem?_eq_some_iff.mp h).1
/-- the law's state at n, all else as it was -/
structure Gn (n : Nat) (S0 S : Store) : Prop where
  st : St3 n S
  kp : Keep [n] S0 S
theorem Gn.new {S : Store} {a b c : Int} : Gn S.length S (S ++ [.lst [.int a, .int b, .int c]]) := ⟨⟨_, _, _, get_last⟩, Keep.add Keep.refl⟩
theorem Gn.start {n : Nat} {S : Store} (h : St3 n S) : Gn n S S := ⟨h, Keep.refl⟩
theorem Gn.add {n : Nat} {S0 S : Store} {o : Ob} (h : Gn n S0 S) : Gn n S0 (S ++ [o]) := ⟨h.st.add, h.kp.add⟩
theorem Gn.trans {n : Nat} {S0 S1 S2 : Store} (h : Keep [n] S0 S1) (a : Gn n S1 S2) : Gn n S0 S2 := ⟨a.st, h.trans a.kp⟩
end CI.Mo

/-! Short words for loops and comprehensions over typed rows. -/
namespace CI.Mo
open PySem PySem.Spec PyProof.Rows L2 CI
theorem cut_nat {α : Type} {xs : List α} (lo hi : Nat) : cutD xs (some (lo : Int)) (some (hi : Int)) = (xs.drop lo).take (hi - lo) := by
  unfold cutD
  rw [HT.sIx_nat, HT.sIx_nat]
  by_cases c : lo ≤ xs.length
  · rw [Nat.min_eq_left c]
    by_cases c2 : hi ≤ xs.length
    · rw [Nat.min_eq_left c2]
    · rw [Nat.min_eq_right (show xs.length ≤ hi by omega), List.take_of_length_le (by simp), List.take_of_length_le (by simp; omega)]
  · rw [Nat.min_eq_right (show xs.length ≤ lo by omega), List.drop_length, List.drop_of_length_le (by omega), List.take_nil, List.take_nil]
theorem cut_succ {α : Type} {xs : List α} (k : Nat) : cutD xs (some ((k : Int) + 1)) none = xs.drop (k + 1) := cut_drop (k + 1)
/-- for over a row told by a function; I: what holds ahead of a turn, by what is left -/
theorem wp_forM {α : Type} {turn : Itm → DEnv → M Fl} {kf : Kn Fl} (g : α → Itm) (I : List α → DEnv → Store → Prop) (step : ∀ a r ρ S, I (a :: r) ρ S → wp (turn (g a) ρ) S (kTurn (I r) kf)) (fin : ∀ ρ S, I [] ρ S → kf (.nx ρ) S) :
    ∀ {l : List α} {ρ : DEnv} {S : Store}, I l ρ S → wp (forV turn (l.map g) ρ) S kf
  | [], ρ, S, h => fin ρ S h
  | a :: r, ρ, S, h => by
    rw [List.map_cons, wp_forV_cons]
    refine wp_mono (step a r ρ S h) fun fl S' q => ?_
    cases fl with
    | nx ρ' => exact wp_forM g I step fin q
    | ct ρ' => exact wp_forM g I step fin q
    | bk ρ' => exact q
    | rt d => exact q
/-- a comprehension over a row told by a function; I: by what is left, what was made -/
theorem wp_compM {α : Type} {turn : Itm → M (Option D)} {Ps : Kn (List D)} (g : α → Itm) (I : List α → List D → Store → Prop) (step : ∀ a r acc S, I (a :: r) acc S → wp (turn (g a)) S (kInv (I r) acc)) (fin : ∀ acc S, I [] acc S → Ps acc S) :
    ∀ {l : List α} {acc : List D} {S : Store}, I l acc S → wp (lcV turn (l.map g) acc) S Ps
  | [], acc, S, h => fin acc S h
  | a :: r, acc, S, h => by
    rw [List.map_cons, wp_lcV_cons]
    refine wp_mono (step a r acc S h) fun o S' q => ?_
    cases o with
    | none => exact wp_compM g I step fin q
    | some d =>
      rw [kLv_s, if_pos q.1]
      exact wp_compM g I step fin q.2
/-- .. each turn tells one thing or none, and changes nothing -/
theorem comp_ret {α : Type} {turn : Itm → M (Option D)} {g : α → Itm} (f : α → Option D) : ∀ {l : List α} {acc : List D}, (∀ a ∈ l, turn (g a) = ret (f a)) → acc.length + l.length ≤ 1000000 → lcV turn (l.map g) acc = ret (acc ++ l.filterMap f)
  | [], acc, _, _ => by unfold lcV; rw [List.filterMap_nil, List.append_nil]; rfl
  | a :: r, acc, h, z => by
    have e := h a (List.mem_cons_self ..)
    rw [List.length_cons] at z
    rw [List.map_cons]
    unfold lcV
    rw [e, ret_bnd]
    cases q : f a with
    | none =>
      simp only
      rw [comp_ret f (fun b hm => h b (List.mem_cons_of_mem _ hm)) (by omega), List.filterMap_cons_none q]
    | some d =>
      simp only
      rw [if_pos (by simp; omega), comp_ret f (fun b hm => h b (List.mem_cons_of_mem _ hm)) (by rw [List.length_append, List.length_singleton]; omega), List.filterMap_cons_some q, List.append_assoc]
      rfl
/-- .. at this store -/
theorem comp_at {α : Type} {turn : Itm → M (Option D)} {g : α → Itm} {S : Store} {Ps : Kn (List D)} (f : α → Option D) : ∀ {l : List α} {acc : List D}, (∀ a ∈ l, wp (turn (g a)) S fun o S' => o = f a ∧ S' = S) → acc.length + l.length ≤ 1000000 → Ps (acc ++ l.filterMap f) S → wp (lcV turn (l.map g) acc) S Ps
  | [], acc, h, z, k => by
    rw [List.filterMap_nil, List.append_nil] at k
    exact k
  | a :: r, acc, h, z, k => by
    rw [List.length_cons] at z
    rw [List.map_cons, wp_lcV_cons]
    refine wp_mono (h a (List.mem_cons_self ..)) fun o S' ⟨e1, e2⟩ => ?_
    subst e1 e2
    cases q : f a with
    | none =>
      rw [List.filterMap_cons_none q] at k
      exact comp_at f (fun b hm => h b (List.mem_cons_of_mem _ hm)) (by omega) k
    | some d =>
      rw [List.filterMap_cons_some q] at k
      rw [kLv_s, if_pos (by simp; omega)]
      exact comp_at f (fun b hm => h b (List.mem_cons_of_mem _ hm)) (by rw [List.length_append, List.length_singleton]; omega) (by rw [List.append_assoc]; exact k)
theorem turn_ret {T : TabT} {ρ : DEnv} {t : Tg} {c e : Ex} {it : Itm} {o : Option D} (h : ∀ S, wp (turnM t (ev T c) (ev T e) ρ it) S fun o' S' => o' = o ∧ S' = S) : turnM t (ev T c) (ev T e) ρ it = ret o := ret_of_wp h
theorem rngI0 (n : Nat) : rngI 0 n = (List.range n).map fun (i : Nat) => Itm.one (.int (i : Int)) := by
  unfold rngI
  simp
theorem rng_nat {j : Nat} (h : j ≤ 1000000) : rng1O (.int (j : Int)) = some (.val ((List.range j).map fun (i : Nat) => Itm.one (.int (i : Int)))) := by
  rw [rngN1 h]
  unfold rngI
  simp
theorem rng_nat2 {i j : Nat} (h : i ≤ 1000000 ∧ j ≤ 1000000) : rng2O (.int (i : Int)) (.int (j : Int)) = some (.val ((List.range' i (j - i)).map fun (i : Nat) => Itm.one (.int (i : Int)))) := by
  rw [rngN2 (by omega)]
  unfold rngI
  rw [List.range'_eq_map_range, List.map_map, show ((j : Int) - i).toNat = j - i by omega]
  simp [Function.comp_def]
@[simp] theorem rcv_last {S : Store} {ds : List D} : rcvO .list (S ++ [.lst ds]) (.adr S.length) = true := rcv_adr get_last
@[simp] theorem wm_append_last {S : Store} {k : Kn D} {ds : List D} {x : D} (h : ds.length < 1000000) : wp (meD .append (.adr S.length) [x]) (S ++ [.lst ds]) k = k .non (S ++ [.lst (ds ++ [x])]) := by
  rw [wm_append get_last (by simpa using h), set_last]
theorem ws_adr {S : Store} {P : D → Store → Prop} {m : Bool} {n : Nat} {ds : List D} {lo hi : Option Int} (h : S[n]? = some (.lst ds)) : wp (slD m (.adr n) lo hi) S P = wp (fin m (cutD ds lo hi)) S P := by
  have e : slD m (.adr n) lo hi S = fin m (cutD ds lo hi) S := by
    unfold slD lstO
    simp only [h]
  unfold wp
  rw [e]
theorem wn_tupleA {S : Store} {P : D → Store → Prop} {m : Bool} {n : Nat} {ds : List D} (h : S[n]? = some (.lst ds)) : wp (biD m .tuple [.adr n]) S P = P (.tup ds) S := by
  have e : biD m .tuple [.adr n] S = .ok (.tup ds) S := by
    unfold biD lstO
    simp only [h]
    rfl
  rw [wp_ok e]
theorem wn_listA {S : Store} {P : D → Store → Prop} {m : Bool} {n : Nat} {ds : List D} (h : S[n]? = some (.lst ds)) : wp (biD m .list [.adr n]) S P = wp (fin m ds) S P := by
  have e : biD m .list [.adr n] S = fin m ds S := by
    unfold biD seqO lstO
    simp only [h]
  unfold wp
  rw [e]
end CI.Mo

/-! Walks over lists of the store. -/
namespace CI.Mo
open PySem PySem.Spec PyProof.Rows L2 CI
theorem at_ref {n i : Nat} {S : Store} {ds : List D} (h : S[n]? = some (.lst ds)) : (Src.ref n).at S i = some (ds[i]?.map .one) := by
  unfold Src.at
  simp only [h]
theorem forR_go {turn : Itm → DEnv → M Fl} {kf : Kn Fl} {n : Nat} {ds : List D} (I : List D → DEnv → Store → Prop)
    (step : ∀ a r ρ S, I (a :: r) ρ S → S[n]? = some (.lst ds) → wp (turn (.one a) ρ) S (kTurn (fun ρ' S' => S'[n]? = some (.lst ds) ∧ I r ρ' S') kf)) (fin : ∀ ρ S, I [] ρ S → kf (.nx ρ) S) :
    ∀ (r : List D) (f i : Nat) (ρ : DEnv) (S : Store), r.length < f → ds.drop i = r → I r ρ S → S[n]? = some (.lst ds) → wp (forS (.ref n) turn f i ρ) S kf
  | _, 0, i, ρ, S, hf, e, h, hn => absurd hf (by omega)
  | [], f + 1, i, ρ, S, hf, e, h, hn => by
    have e1 : forS (.ref n) turn (f + 1) i ρ S = .ok (.nx ρ) S := by
      unfold forS
      rw [at_ref hn, List.getElem?_eq_none (by have := congrArg List.length e; simp at this; omega)]
      rfl
    rw [wp_ok e1]
    exact fin ρ S h
  | a :: r, f + 1, i, ρ, S, hf, e, h, hn => by
    have ea : ds[i]? = some a := by
      have := congrArg (·[0]?) e
      simpa using this
    have er : ds.drop (i + 1) = r := by
      have := congrArg (List.drop 1) e
      simpa using this
    have e1 : forS (.ref n) turn (f + 1) i ρ S = bnd (turn (.one a) ρ) (loopF (forS (.ref n) turn f (i + 1))) S := by
      conv => lhs; unfold forS
      rw [at_ref hn, ea]
      rfl
    have e2 : wp (forS (.ref n) turn (f + 1) i ρ) S kf = wp (bnd (turn (.one a) ρ) (loopF (forS (.ref n) turn f (i + 1)))) S kf := by unfold wp; rw [e1]
    rw [e2, wp_bnd]
    refine wp_mono (step a r ρ S h hn) fun fl S' q => ?_
    have on : ∀ ρ', S'[n]? = some (.lst ds) ∧ I r ρ' S' → wp (forS (.ref n) turn f (i + 1) ρ') S' kf := fun ρ' q => forR_go I step fin r f (i + 1) ρ' S' (by simp at hf; omega) er q.2 q.1
    cases fl with
    | nx ρ' => exact on ρ' q
    | ct ρ' => exact on ρ' q
    | bk ρ' => exact q
    | rt d => exact q
/-- for over a list of the store that stays while it is walked -/
theorem kFor_ref {T : TabT} {t : Tg} {b : Stms} {ρ : DEnv} {S : Store} {kf : Kn Fl} {n : Nat} {ds : List D} (hn : S[n]? = some (.lst ds)) (I : List D → DEnv → Store → Prop) (hl : ds.length ≤ 1000000)
    (step : ∀ a r ρ S, I (a :: r) ρ S → S[n]? = some (.lst ds) → wp (turnS t (exSs T b) (.one a) ρ) S (kTurn (fun ρ' S' => S'[n]? = some (.lst ds) ∧ I r ρ' S') kf)) (fin : ∀ ρ S, I [] ρ S → kf (.nx ρ) S)
    (h : I ds ρ S) : kFor T t b ρ kf (.ref n) S := by
  show wp (forS (.ref n) (turnS t (exSs T b)) (big + 2) 0 ρ) S kf
  exact forR_go I step fin ds (big + 2) 0 ρ S (by unfold big; omega) rfl h hn
theorem compR_go {turn : Itm → M (Option D)} {Ps : Kn (List D)} {n : Nat} {ds : List D} (I : List D → List D → Store → Prop)
    (step : ∀ a r acc S, I (a :: r) acc S → S[n]? = some (.lst ds) → wp (turn (.one a)) S (kInv (fun acc' S' => S'[n]? = some (.lst ds) ∧ I r acc' S') acc)) (fin : ∀ acc S, I [] acc S → Ps acc S) :
    ∀ (r : List D) (f i : Nat) (acc : List D) (S : Store), r.length < f → ds.drop i = r → I r acc S → S[n]? = some (.lst ds) → wp (lcS (.ref n) turn f i acc) S Ps
  | _, 0, i, acc, S, hf, e, h, hn => absurd hf (by omega)
  | [], f + 1, i, acc, S, hf, e, h, hn => by
    have e1 : lcS (.ref n) turn (f + 1) i acc S = .ok acc S := by
      unfold lcS
      rw [at_ref hn, List.getElem?_eq_none (by have := congrArg List.length e; simp at this; omega)]
      rfl
    rw [wp_ok e1]
    exact fin acc S h
  | a :: r, f + 1, i, acc, S, hf, e, h, hn => by
    have ea : ds[i]? = some a := by
      have := congrArg (·[0]?) e
      simpa using this
    have er : ds.drop (i + 1) = r := by
      have := congrArg (List.drop 1) e
      simpa using this
    have e1 : lcS (.ref n) turn (f + 1) i acc S = bnd (turn (.one a)) (fun o => match o with
      | some d => if acc.length < big then lcS (.ref n) turn f (i + 1) (acc ++ [d]) else fail
      | none => lcS (.ref n) turn f (i + 1) acc) S := by
      conv => lhs; unfold lcS
      rw [at_ref hn, ea]
      rfl
    have e2 : wp (lcS (.ref n) turn (f + 1) i acc) S Ps = wp (bnd (turn (.one a)) (fun o => match o with
      | some d => if acc.length < big then lcS (.ref n) turn f (i + 1) (acc ++ [d]) else fail
      | none => lcS (.ref n) turn f (i + 1) acc)) S Ps := by unfold wp; rw [e1]
    rw [e2, wp_bnd]
    refine wp_mono (step a r acc S h hn) fun o S' q => ?_
    cases o with
    | none => exact compR_go I step fin r f (i + 1) acc S' (by simp at hf; omega) er q.2 q.1
    | some d =>
      simp only
      rw [if_pos q.1]
      exact compR_go I step fin r f (i + 1) _ S' (by simp at hf; omega) er q.2.2 q.2.1
/-- a comprehension over a list of the store -/
theorem kLc_ref {T : TabT} {m : Bool} {t : Tg} {c e : Ex} {ρ : DEnv} {S : Store} {k : Kn D} {n : Nat} {ds : List D} (hn : S[n]? = some (.lst ds)) (I : List D → List D → Store → Prop) (hl : ds.length ≤ 1000000)
    (step : ∀ a r acc S, I (a :: r) acc S → S[n]? = some (.lst ds) → wp (turnM t (ev T c) (ev T e) ρ (.one a)) S (kInv (fun acc' S' => S'[n]? = some (.lst ds) ∧ I r acc' S') acc)) (fin : ∀ acc S, I [] acc S → wp (fin m acc) S k)
    (h : I ds [] S) : kLc1 T m t c e ρ k (.ref n) S := by
  show wp (lcS (.ref n) (turnM t (ev T c) (ev T e) ρ) (big + 2) 0 []) S (kLc2 m k)
  exact compR_go I step fin ds (big + 2) 0 [] S (by unfold big; omega) rfl h hn
theorem srcO_adr {S : Store} {n : Nat} {ds : List D} (h : S[n]? = some (.lst ds)) : srcO S (.adr n) = some (.ref n) := by
  unfold srcO
  simp only [h]
@[simp ↓] theorem wc_isB {S : Store} {P : D → Store → Prop} {a b : Bool} : wp (cmpD .Is (.bl a) (.bl b)) S P = P (.bl (a == b)) S := by
  rw [wc]
  show ozk ((some (decide (a = b))).map D.bl) S P = _
  rw [show decide (a = b) = (a == b) by cases a <;> cases b <;> rfl]
  rfl
@[simp ↓] theorem wc_isnB {S : Store} {P : D → Store → Prop} {a b : Bool} : wp (cmpD .IsNot (.bl a) (.bl b)) S P = P (.bl (!(a == b))) S := by
  rw [wc]
  show ozk (((some (decide (a = b))).map (!·)).map D.bl) S P = _
  rw [show decide (a = b) = (a == b) by cases a <;> cases b <;> rfl]
  rfl
def isNon : D → Bool
  | .non => true
  | _ => false
@[simp] theorem isNon_n : isNon .non = true := rfl
@[simp] theorem isNon_i {i : Int} : isNon (.int i) = false := rfl
@[simp] theorem isNon_b {i : Bool} : isNon (.bl i) = false := rfl
@[simp] theorem isNon_s {i : Str} : isNon (.str i) = false := rfl
@[simp] theorem isNon_t {i : List D} : isNon (.tup i) = false := rfl
@[simp] theorem isNon_l {i : List D} : isNon (.lst i) = false := rfl
@[simp] theorem isNon_a {i : Nat} : isNon (.adr i) = false := rfl
@[simp] theorem wc_isN {S : Store} {P : D → Store → Prop} {d : D} : wp (cmpD .Is d .non) S P = P (.bl (isNon d)) S := by
  cases d <;> rfl
@[simp] theorem wc_isnN {S : Store} {P : D → Store → Prop} {d : D} : wp (cmpD .IsNot d .non) S P = P (.bl (!isNon d)) S := by
  cases d <;> rfl
@[simp ↓] theorem wb_shr {S : Store} {P : D → Store → Prop} {m : Bool} {i j : Int} : wp (binD m .RShift (.int i) (.int j)) S P = if 0 ≤ j then P (.int (i / 2 ^ j.toNat)) S else False := by
  show wp (if 0 ≤ j then ret (.int (i / 2 ^ j.toNat)) else fail) S P = _
  rw [wp_ite]; rfl
@[simp ↓] theorem wb_and {S : Store} {P : D → Store → Prop} {m : Bool} {i j : Int} : wp (binD m .BitAnd (.int i) (.int j)) S P = P (.int (Builtin.bitAnd i j)) S := (rfl)
theorem any_ok {x : D} (hx : okD 63 x = true) : ∀ {ds : List D}, okDs 63 ds = true → ((py0s ds).any fun z => PyData.eqv z (py0 x)) = ds.any fun d => eqD d x
  | [], _ => rfl
  | d :: ds, h => by
    rw [okDs, Bool.and_eq_true] at h
    rw [py0s, List.any_cons, List.any_cons, eqv_D 63 63 d x h.1 hx, any_ok hx h.2]
theorem shaped_list {ds : List D} (h : okDs 63 ds = true) : SeqAt.shaped (.list (py0s ds)) = true := shaped_ok (a := .lst ds) (by rw [okD]; exact h)
theorem shaped_tup {ds : List D} (h : okDs 63 ds = true) : SeqAt.shaped (.tuple (py0s ds)) = true := shaped_ok (a := .tup ds) (by rw [okD]; exact h)
theorem inO_ok {S : Store} {a : D} {ds : List D} (ha : okD 63 a = true) (hd : okDs 63 ds = true) : inO S a (.tup ds) = some (ds.any fun d => eqD d a) ∧ inO S a (.lst ds) = some (ds.any fun d => eqD d a) := by
  have h1 := shaped_ok (okD_mono 63 64 a (by omega) ha)
  have h2 := py_ok (S := S) ha
  have h3 := shaped_list hd
  have h4 := shaped_tup hd
  rw [inO_c (c := .tup ds) rfl, inO_c (c := .lst ds) rfl]
  refine ⟨?_, ?_⟩
  · show (if flatD a = true ∧ ds.all flatD = true then some (ds.any fun d => PyData.eqv (py0 d) (py0 a)) else if (tupO (.tup ds)).isNone ∧ _ ∧ _ then _ else if (tupO (.tup ds)).isSome ∧ SeqAt.shaped (py S a) = true ∧ SeqAt.shaped (.tuple (py0s ds)) = true then some ((py0s ds).any fun z => PyData.eqv z (py S a)) else none) = _
    by_cases c : flatD a = true ∧ ds.all flatD = true
    · rw [if_pos c, any_flat c.1 c.2]
    · rw [if_neg c, if_neg (by simp [tupO]), if_pos ⟨rfl, by rw [h2]; exact h1, h4⟩, h2, any_ok ha hd]
  · show (if flatD a = true ∧ ds.all flatD = true then some (ds.any fun d => PyData.eqv (py0 d) (py0 a)) else if (tupO (.lst ds)).isNone ∧ SeqAt.shaped (py S a) = true ∧ SeqAt.shaped (.list (py0s ds)) = true then some ((py0s ds).any fun z => PyData.eqv z (py S a)) else _) = _
    by_cases c : flatD a = true ∧ ds.all flatD = true
    · rw [if_pos c, any_flat c.1 c.2]
    · rw [if_neg c, if_pos ⟨rfl, by rw [h2]; exact h1, h3⟩, h2, any_ok ha hd]
@[simp] theorem wc_inTK {S : Store} {P : D → Store → Prop} {a : D} {ds : List D} (ha : okD 63 a = true) (hd : okDs 63 ds = true) : wp (cmpD .In a (.tup ds)) S P = P (.bl (ds.any fun d => eqD d a)) S := by
  rw [wc]
  show ozk ((inO S a (.tup ds)).map D.bl) S P = _
  rw [(inO_ok ha hd).1]; rfl
@[simp] theorem wc_inLK {S : Store} {P : D → Store → Prop} {a : D} {ds : List D} (ha : okD 63 a = true) (hd : okDs 63 ds = true) : wp (cmpD .In a (.lst ds)) S P = P (.bl (ds.any fun d => eqD d a)) S := by
  rw [wc]
  show ozk ((inO S a (.lst ds)).map D.bl) S P = _
  rw [(inO_ok ha hd).2]; rfl
@[simp] theorem wc_ninTK {S : Store} {P : D → Store → Prop} {a : D} {ds : List D} (ha : okD 63 a = true) (hd : okDs 63 ds = true) : wp (cmpD .NotIn a (.tup ds)) S P = P (.bl (!ds.any fun d => eqD d a)) S := by
  rw [wc]
  show ozk (((inO S a (.tup ds)).map (!·)).map D.bl) S P = _
  rw [(inO_ok ha hd).1]; rfl
@[simp] theorem wc_ninLK {S : Store} {P : D → Store → Prop} {a : D} {ds : List D} (ha : okD 63 a = true) (hd : okDs 63 ds = true) : wp (cmpD .NotIn a (.lst ds)) S P = P (.bl (!ds.any fun d => eqD d a)) S := by
  rw [wc]
  show ozk (((inO S a (.lst ds)).map (!·)).map D.bl) S P = _
  rw [(inO_ok ha hd).2]; rfl
theorem lg40 : Nat.log2 10000000000000000000000000000000000000000 < 9000 := by decide
theorem lg1013 : Nat.log2 1013 < 9000 := by decide
theorem lg256 : Nat.log2 256 < 9000 := by decide
theorem lg8 : Nat.log2 8 < 9000 := by decide
theorem lg4 : Nat.log2 4 < 9000 := by decide
theorem lg5 : Nat.log2 5 < 9000 := by decide
theorem lg6 : Nat.log2 6 < 9000 := by decide
theorem lg9 : Nat.log2 9 < 9000 := by decide
theorem lg32 : Nat.log2 32 < 9000 := by decide
theorem lg64 : Nat.log2 64 < 9000 := by decide
theorem St3.kept {ns : List Nat} {n : Nat} {S S' : Store} (h : St3 n S) (k : Keep ns S S') (hn : n ∉ ns) : St3 n S' := by
  obtain ⟨a, b, c, e⟩ := h
  exact ⟨a, b, c, k.get e hn⟩
section
variable {n : Nat} {i j : Int} {x y : Str} {a b : D} {ds es : List D} {S : Store} {P : D → Store → Prop} {u v : Bool}
@[simp] theorem okD_non : okD n .non = true := by cases n <;> rfl
@[simp] theorem okD_bl : okD n (.bl u) = true := by cases n <;> rfl
@[simp] theorem okD_int : okD n (.int i) = true := by cases n <;> rfl
@[simp] theorem okD_str : okD n (.str x) = PyData.strOk x := by cases n <;> rfl
@[simp] theorem okD_tup : okD (n + 1) (.tup ds) = okDs n ds := by rw [okD]
@[simp] theorem okD_lst : okD (n + 1) (.lst ds) = okDs n ds := by rw [okD]
@[simp] theorem okDs_nil : okDs n [] = true := by unfold okDs; rfl
@[simp] theorem okDs_cons : okDs n (a :: ds) = (okD n a && okDs n ds) := by rw [okDs]
@[simp] theorem okDs_app' : okDs n (ds ++ es) = (okDs n ds && okDs n es) := okDs_app
@[simp] theorem eqD_int : eqD (.int i) (.int j) = (i == j) := by unfold eqD; rfl
@[simp] theorem eqD_str : eqD (.str x) (.str y) = (x == y) := by unfold eqD; rfl
@[simp] theorem eqD_bl : eqD (.bl u) (.bl v) = (u == v) := by unfold eqD; rfl
@[simp] theorem eqD_tup : eqD (.tup ds) (.tup es) = eqDs ds es := by rw [eqD]
@[simp] theorem eqD_lst : eqD (.lst ds) (.lst es) = eqDs ds es := by rw [eqD]
@[simp] theorem eqD_nn : eqD .non .non = true := by unfold eqD; rfl
@[simp] theorem eqD_nt : eqD .non (.tup es) = false := by unfold eqD; rfl
@[simp] theorem eqD_tn : eqD (.tup es) .non = false := by unfold eqD; rfl
@[simp] theorem eqD_ni : eqD .non (.int i) = false := by unfold eqD; rfl
@[simp] theorem eqD_in : eqD (.int i) .non = false := by unfold eqD; rfl
@[simp] theorem eqD_tl : eqD (.tup ds) (.lst es) = false := by unfold eqD; rfl
@[simp] theorem eqD_lt : eqD (.lst ds) (.tup es) = false := by unfold eqD; rfl
@[simp] theorem eqDs_nn : eqDs [] [] = true := by unfold eqDs; rfl
@[simp] theorem eqDs_nc : eqDs [] (b :: es) = false := by unfold eqDs; rfl
@[simp] theorem eqDs_cn : eqDs (a :: ds) [] = false := by unfold eqDs; rfl
@[simp] theorem eqDs_cc : eqDs (a :: ds) (b :: es) = (eqD a b && eqDs ds es) := by rw [eqDs]
@[simp] theorem wc_eqK (ha : okD 64 a = true) (hb : okD 64 b = true) : wp (cmpD .Eq a b) S P = P (.bl (eqD a b)) S := wc_eq ha hb
@[simp] theorem wc_neK (ha : okD 64 a = true) (hb : okD 64 b = true) : wp (cmpD .NotEq a b) S P = P (.bl (!eqD a b)) S := wc_ne ha hb
end
@[simp] theorem okDs_pa {n : Nat} {as : List PA} (h : 1 ≤ n) : okDs n (as.map PA.d) = true := okDs_map fun _ _ => PA.okd h
@[simp] theorem okDs_pc {n : Nat} {as : List PC} (h : 1 ≤ n) : okDs n (as.map PC.d) = true := okDs_map fun _ _ => PC.okd h
@[simp] theorem okDs_kv {n : Nat} {as : List (Nat × Int)} (h : 1 ≤ n) : okDs n (as.map kvD) = true := okDs_map fun _ _ => pair_okd h
@[simp] theorem eqDs_ints {vs ws : List Int} : eqDs (vs.map D.int) (ws.map D.int) = decide (vs = ws) := by
  rw [Bool.eq_iff_iff, eqDs_iff _ _ noBl_ints noBl_ints, int_inj, decide_eq_true_iff]
theorem eqD_refl {a : D} (h : noBl a = true) : eqD a a = true := eqD_self h
@[simp] theorem eq_pc {a b : PC} : eqD a.d b.d = decide (a = b) := eqD_dec PC.noBl PC.noBl ⟨PC.inj, fun e => by rw [e]⟩
@[simp] theorem eq_standS {a b : Stand} : eqD (standD a) (standD b) = decide (a = b) := eq_stand
end CI.Mo

/-! Instances, by simp; touches. -/
namespace CI.Mo
open PySem PySem.Spec PyProof.Rows L2 CI
section
variable {T : TabT} {S : Store} {n : Nat} {c f m : Str} {cs : List Str} {fs : List (Str × D)} {k : Kn D}
theorem fld_at (h : S[n]? = some (.ins c fs)) : kFld cs f k (.adr n) S = ozk (if cs.contains c = true then fs.lookup f else none) S k := by
  unfold kFld fldO insO
  simp only [h]
theorem mc_at {mt : List (Str × Nat)} {es : Exs} {ρ : DEnv} (h : S[n]? = some (.ins c fs)) : kMc1 T mt m es ρ k (.adr n) S = ozk (if (fs.lookup m).isSome = true then none else mt.lookup c) S (kMc2 T es ρ (.adr n) k) := by
  unfold kMc1 mOf insO
  simp only [h]
theorem sf_at {x : D} {Pu : Unit → Store → Prop} (h : S[n]? = some (.ins c fs)) : wp (setfD cs f (.adr n) x) S Pu = if cs.contains c = true ∧ fs.length < 100 then Pu () (S.set n (.ins c (putFD f x fs))) else False := by
  by_cases q : cs.contains c = true ∧ fs.length < 100
  · rw [if_pos q, wp_setf h q.1 q.2]
  · rw [if_neg q]
    have e : setfD cs f (.adr n) x S = .bad := by
      unfold setfD
      simp only [h]
      rw [if_neg q]
    unfold wp
    rw [e]
end
@[simp] theorem lookS {α : Type} {a b : String} {x : α} {r : List (Str × α)} : List.lookup (Str.ofString b) ((Str.ofString a, x) :: r) = if b = a then some x else List.lookup (Str.ofString b) r := by
  rw [List.lookup_cons, ofS_beq]
  by_cases h : b = a
  · rw [if_pos h, beq_iff_eq.mpr h]
  · rw [if_neg h, beq_eq_false_iff_ne.mpr h]
@[simp] theorem putF_nil {f : Str} {x : D} : putFD f x [] = [(f, x)] := rfl
@[simp] theorem putF_cons {a b : String} {x y : D} {r : List (Str × D)} : putFD (Str.ofString b) x ((Str.ofString a, y) :: r) = if a = b then (Str.ofString a, x) :: r else (Str.ofString a, y) :: putFD (Str.ofString b) x r := by
  conv => lhs; unfold putFD
  by_cases h : a = b
  · rw [if_pos h, if_pos (by rw [h])]
  · rw [if_neg h, if_neg (by rw [ofS_eq]; exact h)]
theorem set_self {S : Store} {n : Nat} {o : Ob} (h : S[n]? = some o) : S.set n o = S := by
  obtain ⟨q, e⟩ := List.getElem?_eq_some_iff.mp h
  rw [← e]
  exact List.set_getElem_self q
@[simp] theorem enumO_tup {S : Store} {ds : List D} : enumO S (.tup ds) = some (.val (enumI 0 ds)) := (rfl)
@[simp] theorem enumO_lst {S : Store} {ds : List D} : enumO S (.lst ds) = some (.val (enumI 0 ds)) := (rfl)
@[simp] theorem enumO_ro {S : Store} {ds : List D} : enumO S (.ro ds) = some (.val (enumI 0 ds)) := (rfl)
theorem enumI_map {α : Type} (f : α → D) : ∀ (l : List α) (k : Nat), enumI k (l.map f) = (l.zipIdx k).map fun p => .pair (.int (p.2 : Nat)) (f p.1)
  | [], _ => rfl
  | a :: l, k => by
    rw [List.map_cons, enumI, enumI_map f l (k + 1), List.zipIdx_cons, List.map_cons]
/-! ### what is told, or None -/
def oI : Option Int → D
  | none => .non
  | some i => .int i
def oAns : Option Ans → D
  | none => .non
  | some a => a.d
def oPA : Option PA → D
  | none => .non
  | some a => a.d
@[simp] theorem oI_okd {n : Nat} {o : Option Int} : okD n (oI o) = true := by cases o <;> simp [oI]
@[simp] theorem oI_noBl {o : Option Int} : noBl (oI o) = true := by cases o <;> simp [oI, noBl]
@[simp] theorem oAns_okd {n : Nat} {o : Option Ans} (h : 3 ≤ n) : okD n (oAns o) = true := by cases o <;> simp [oAns, h]
@[simp] theorem oAns_noBl {o : Option Ans} : noBl (oAns o) = true := by cases o <;> simp [oAns, Mo.noBl]
@[simp] theorem isNon_oI {o : Option Int} : isNon (oI o) = o.isNone := by cases o <;> rfl
@[simp] theorem isNon_oAns {o : Option Ans} : isNon (oAns o) = o.isNone := by
  cases o with
  | none => rfl
  | some a => cases a with
    | one p => cases p <;> rfl
    | _ => rfl
@[simp] theorem oI_some {v : Int} : oI (some v) = .int v := rfl
@[simp] theorem oI_none : oI none = .non := rfl
theorem oI_inj {a b : Option Int} (h : oI a = oI b) : a = b := by cases a <;> cases b <;> simp_all [oI]
@[simp] theorem eq_oI {a b : Option Int} : eqD (oI a) (oI b) = decide (a = b) := eqD_dec oI_noBl oI_noBl ⟨oI_inj, fun e => by rw [e]⟩
/-- an answer of a call, by its form -/
def PAok : PC → PA → Prop
  | .read _, .got _ => True
  | .add _ _, .got _ => True
  | .write _ _, .done => True
  | .swap _ _ _, .yes => True
  | .swap _ _ _, .no => True
  | _, _ => False
inductive PAsOk : List PC → List PA → Prop
  | nil : PAsOk [] []
  | cons {c : PC} {a : PA} {cs : List PC} {as : List PA} (h : PAok c a) (t : PAsOk cs as) : PAsOk (c :: cs) (a :: as)
def AnsOk : Call → Ans → Prop
  | .one c, .one a => PAok c a
  | .span lo hi, .all vs => vs.length = hi - lo
  | .deal cs, .each as => PAsOk cs as
  | _, .refused => True
  | _, _ => False
def StpOk (s : Stp) (o : Option Ans) : Prop := match s with
  | .call c => ∀ a, o = some a → AnsOk c a
  | .look c => ∀ a, o = some a → AnsOk c a
  | .lay _ => True
theorem PAsOk.length {cs : List PC} {as : List PA} (h : PAsOk cs as) : cs.length = as.length := by
  induction h with
  | nil => rfl
  | cons _ _ ih => rw [List.length_cons, List.length_cons, ih]
/-! ### dicts of pairs -/
def kkv (p : Nat × Int) : Key × D := (.inl p.1, .int p.2)
theorem pairsO_kv : ∀ ps : List (Nat × Int), pairsO (ps.map kvD) = some (ps.map kkv)
  | [] => rfl
  | p :: ps => by
    rw [List.map_cons, List.map_cons]
    show (keyO (.int (p.1 : Int))).bind _ = _
    rw [pairsO_kv ps]
    rfl
theorem putD_new {kds : List (Key × D)} {k : Key} {d : D} (h : ∀ kv ∈ kds, kv.1 ≠ k) : putD kds k d = kds ++ [(k, d)] := by
  unfold putD
  rw [if_neg]
  intro q
  obtain ⟨kv, h1, h2⟩ := List.any_eq_true.mp q
  exact h kv h1 (of_decide_eq_true h2)
theorem merge_kv : ∀ (ps : List (Nat × Int)) (acc : List (Key × D)), (ps.map (·.1)).Pairwise (· < ·) → (∀ kv ∈ acc, ∀ p ∈ ps, kv.1 ≠ .inl (p.1 : Int)) → mergeD acc (ps.map kkv) = acc ++ ps.map kkv
  | [], acc, _, _ => by simp [mergeD]
  | p :: ps, acc, h, ha => by
    rw [List.map_cons, List.pairwise_cons] at h
    have e : mergeD acc ((p :: ps).map kkv) = mergeD (putD acc (.inl (p.1 : Int)) (.int p.2)) (ps.map kkv) := rfl
    rw [e, putD_new fun kv hm => ha kv hm p (List.mem_cons_self ..), merge_kv ps _ h.2 (fun kv hm q hq => ?_)]
    · simp [kkv]
    · rcases List.mem_append.mp hm with hm | hm
      · exact ha kv hm q (List.mem_cons_of_mem _ hq)
      · rw [List.mem_singleton.mp hm]
        intro e
        have := h.1 q.1 (List.mem_map_of_mem hq)
        injection e with e
        omega
theorem valD_kv (k : Nat) : ∀ ps : List (Nat × Int), valD (ps.map kkv) (.inl (k : Int)) = (ps.lookup k).map .int
  | [] => rfl
  | p :: ps => by
    have ih := valD_kv k ps
    unfold valD at ih ⊢
    rw [List.map_cons, List.find?_cons, List.lookup_cons]
    by_cases q : p.1 = k
    · subst q
      simp [kkv]
    · have h1 : decide ((kkv p).1 = .inl (k : Int)) = false := decide_eq_false (fun e => by simp [kkv] at e; omega)
      have h2 : (k == p.1) = false := beq_eq_false_iff_ne.mpr (Ne.symm q)
      rw [h1, h2]
      exact ih
theorem wn_dictKV {S : Store} {k : Kn D} {m : Bool} {ps : List (Nat × Int)} (h : (ps.map (·.1)).Pairwise (· < ·)) : wp (biD m .dict [.tup (ps.map kvD)]) S k = wp (finD m (ps.map kkv)) S k := by
  have e : biD m .dict [.tup (ps.map kvD)] S = finD m (ps.map kkv) S := by
    show (match (seqO S (.tup (ps.map kvD))).bind pairsO with | some kds => finD m (mergeD [] kds) S | none => .bad) = _
    show (match pairsO (ps.map kvD) with | some kds => finD m (mergeD [] kds) S | none => .bad) = _
    rw [pairsO_kv]
    simp only
    rw [merge_kv ps [] h (fun _ hm => nomatch hm)]
    rfl
  unfold wp
  rw [e]
theorem wn_dictKVA {S : Store} {k : Kn D} {m : Bool} {n : Nat} {ps : List (Nat × Int)} (h : (ps.map (·.1)).Pairwise (· < ·)) (hn : S[n]? = some (.lst (ps.map kvD))) : wp (biD m .dict [.adr n]) S k = wp (finD m (ps.map kkv)) S k := by
  have e : biD m .dict [.adr n] S = finD m (ps.map kkv) S := by
    show (match (seqO S (.adr n)).bind pairsO with | some kds => finD m (mergeD [] kds) S | none => .bad) = _
    have : seqO S (.adr n) = some (ps.map kvD) := by
      show (match S[n]? with | some (.lst ds) => some ds | _ => none) = _
      rw [hn]
    rw [this]
    show (match pairsO (ps.map kvD) with | some kds => finD m (mergeD [] kds) S | none => .bad) = _
    rw [pairsO_kv]
    simp only
    rw [merge_kv ps [] h (fun _ hm => nomatch hm)]
    rfl
  unfold wp
  rw [e]
@[simp] theorem wc_inDI {S : Store} {P : D → Store → Prop} {kds : List (Key × D)} {i : Int} : wp (cmpD .In (.int i) (.dct kds)) S P = P (.bl (valD kds (.inl i)).isSome) S := (rfl)
/-! ### touches -/
structure MarkS where
  key : Nat
  need : Option Int
  value : Option Int
  changed : Bool
def MarkS.ob (m : MarkS) : Ob := .ins (Str.ofString "Mark") [(Str.ofString "key", .int m.key), (Str.ofString "need", oI m.need), (Str.ofString "value", oI m.value), (Str.ofString "changed", .bl m.changed)]
def MarkS.new (k : Nat) : MarkS := ⟨k, none, none, false⟩
def MarkS.hear (m : MarkS) (v : Int) : MarkS := if m.need = none ∧ m.changed = false then { m with need := some v } else m
def MarkS.lay (m : MarkS) (v : Option Int) : MarkS := { m with value := v, changed := true }
def MarkS.readP (m : MarkS) (a : Option Int) : MarkS := match a with
  | some v => { (m.hear v) with value := some v }
  | none => m
def MarkS.addP (m : MarkS) (n : Int) (a : Option Int) : MarkS := match a with
  | some v => (m.hear (v - n)).lay (some v)
  | none => match m.value with
    | none => m.lay none
    | some x => m.lay (some (x + n))
/-- yes: some true, no: some false -/
def MarkS.swapP (m : MarkS) (o w : Int) (a : Option Bool) : MarkS := match a with
  | some true => (m.hear o).lay (some w)
  | some false => m
  | none => match m.value with
    | none => m.lay none
    | some x => if x = o then m.lay (some w) else m
def MarkS.spanP (m : MarkS) (lo hi : Nat) (a : Option (List Int)) : MarkS := match a with
  | some vs => if lo ≤ m.key ∧ m.key < hi then m.hear (vs.getD (m.key - lo) 0) else m
  | none => m
def gotO : Option PA → Option Int
  | some (.got v) => some v
  | _ => none
def ynO : Option PA → Option Bool
  | some .yes => some true
  | some .no => some false
  | _ => none
/-- a call of one key, with an answer by its form or none -/
def MarkS.goP (m : MarkS) (c : PC) (a : Option PA) : MarkS := if c.key = m.key then (match c with
  | .read _ => m.readP (gotO a)
  | .write _ v => m.lay (some v)
  | .add _ n => m.addP n (gotO a)
  | .swap _ o w => m.swapP o w (ynO a)) else m
def MarkS.goPs (m : MarkS) : List (PC × Option PA) → MarkS
  | [] => m
  | p :: ps => (m.goP p.1 p.2).goPs ps
/-- the parts of a deal with its answer -/
def dealParts (cs : List PC) : Option Ans → List (PC × Option PA)
  | none => cs.map fun c => (c, none)
  | some (.each as) => (cs.zip as).map fun p => (p.1, some p.2)
  | some _ => []
def marked (c : Call) (a : Option Ans) (key : Nat) : MarkS := let m := MarkS.new key
  match c with
  | .one c => (match a with
    | some .refused => m
    | some (.one a) => m.goP c (some a)
    | some _ => m
    | none => m.goP c none)
  | .span lo hi => (match a with
    | some (.all vs) => m.spanP lo hi (some vs)
    | _ => m)
  | .deal cs => m.goPs (dealParts cs a)
inductive Leave where
  | none | any | is (v : Int)
  deriving DecidableEq
def Leave.d : Leave → D
  | .none => .tup [sS "none"] | .any => .tup [sS "any"] | .is v => .tup [sS "is", .int v]
@[simp] theorem Leave.noBl {c : Leave} : noBl c.d = true := by cases c <;> simp [Leave.d, Mo.noBl, noBls]
theorem Leave.inj {a b : Leave} (h : a.d = b.d) : a = b := by cases a <;> cases b <;> simp_all [Leave.d]
@[simp] theorem Leave.okd {n : Nat} {c : Leave} (h : 1 ≤ n) : okD n c.d = true := by
  obtain ⟨n, rfl⟩ : ∃ m, n = m + 1 := ⟨n - 1, by omega⟩
  cases c <;> simp [Leave.d]
@[simp] theorem eq_leave {a b : Leave} : eqD a.d b.d = decide (a = b) := eqD_dec Leave.noBl Leave.noBl ⟨Leave.inj, fun e => by rw [e]⟩
def MarkS.left (m : MarkS) : Leave := if m.changed = false then .none else match m.value with
  | none => .any
  | some v => .is v
def needsT (s : Stp) (a : Option Ans) (key : Nat) : Option Int := match s with
  | .call c => (marked c a key).need
  | .look c => (marked c a key).need
  | .lay _ => none
def leavesT (s : Stp) (a : Option Ans) (key : Nat) : Leave := match s with
  | .call c => (marked c a key).left
  | .look _ => .none
  | .lay ps => (match ps.lookup key with
    | some v => .is v
    | none => .none)
end CI.Mo

/-! Touches tell what comes. -/
namespace CI.Mo
open PySem PySem.Spec PyProof.Rows L2 CI
theorem boxAt_set {vs : Stand} {i j : Nat} {x : Int} (h : i < vs.length) : boxAt (vs.set i x) j = if i = j then x else boxAt vs j := by
  unfold boxAt
  rw [List.getD_eq_getElem?_getD, List.getElem?_set]
  by_cases e : i = j
  · subst e
    simp [h]
  · simp [e, List.getD_eq_getElem?_getD]
/-- what a mark knows of a key: vs0 at first, vs now -/
structure MkOk (M : MarkS) (vs0 vs : Stand) : Prop where
  need : ∀ v, M.need = some v → boxAt vs0 M.key = v
  same : M.changed = false → boxAt vs M.key = boxAt vs0 M.key
  val : ∀ v, M.value = some v → boxAt vs M.key = v
theorem MkOk.new {vs : Stand} {key : Nat} : MkOk (MarkS.new key) vs vs := ⟨fun v e => (nomatch e), fun _ => rfl, fun v e => (nomatch e)⟩
theorem MkOk.hear {M : MarkS} {vs0 vs : Stand} (h : MkOk M vs0 vs) {v : Int} (e : boxAt vs M.key = v) : MkOk (M.hear v) vs0 vs := by
  unfold MarkS.hear
  split
  · rename_i c
    exact ⟨fun u q => by cases q; rw [← h.same c.2, e], h.same, h.val⟩
  · exact h
theorem hear_key {M : MarkS} {v : Int} : (M.hear v).key = M.key := by
  unfold MarkS.hear; split <;> rfl
theorem MkOk.lay {M : MarkS} {vs0 vs vs' : Stand} (h : MkOk M vs0 vs) {o : Option Int} (e : ∀ v, o = some v → boxAt vs' M.key = v) : MkOk (M.lay o) vs0 vs' := ⟨h.need, fun q => (nomatch q), e⟩
/-- the store's answer, or none -/
def Told (a : PA) (o : Option PA) : Prop := o = none ∨ o = some a
theorem MkOk.goP {M : MarkS} {vs0 vs : Stand} (h : MkOk M vs0 vs) {c : PC} (hc : c.key < vs.length) {o : Option PA} (ho : Told (plainDo vs c).1 o) : MkOk (M.goP c o) vs0 (plainDo vs c).2 ∧ (M.goP c o).key = M.key := by
  unfold MarkS.goP
  by_cases q : c.key = M.key
  · rw [if_pos q]
    cases c with
    | read j =>
      simp only [PC.key] at q
      simp only [plainDo]
      rcases ho with rfl | rfl
      · exact ⟨h, rfl⟩
      · simp only [plainDo, gotO, MarkS.readP]
        refine ⟨?_, hear_key⟩
        have h2 := h.hear (v := boxAt vs j) (by rw [q])
        exact ⟨h2.need, h2.same, fun v e => by
          cases e
          show boxAt vs (M.hear (boxAt vs j)).key = boxAt vs j
          rw [hear_key, ← q]⟩
    | write j v =>
      simp only [PC.key] at q hc
      subst q
      refine ⟨h.lay fun u e => ?_, rfl⟩
      cases e
      simp only [plainDo]
      rw [boxAt_set hc, if_pos rfl]
    | add j v =>
      simp only [PC.key] at q hc
      subst q
      simp only [plainDo]
      rcases ho with rfl | rfl
      · simp only [gotO, MarkS.addP]
        cases e : M.value with
        | none => exact ⟨h.lay fun u e => (nomatch e), rfl⟩
        | some x =>
          refine ⟨h.lay fun u e' => ?_, rfl⟩
          cases e'
          rw [boxAt_set hc, if_pos rfl, h.val x e]
      · simp only [plainDo, gotO, MarkS.addP]
        have e : boxAt vs M.key + v - v = boxAt vs M.key := by omega
        rw [e]
        have h2 := h.hear (v := boxAt vs M.key) rfl
        refine ⟨h2.lay fun u e' => ?_, hear_key⟩
        cases e'
        rw [hear_key, boxAt_set hc, if_pos rfl]
    | swap j x w =>
      simp only [PC.key] at q hc
      subst q
      simp only [plainDo]
      by_cases c2 : boxAt vs M.key = x
      · rw [if_pos c2]
        rcases ho with rfl | rfl
        · simp only [ynO, MarkS.swapP]
          cases e : M.value with
          | none => exact ⟨h.lay fun u e => (nomatch e), rfl⟩
          | some y =>
            have : y = x := (h.val y e).symm.trans c2
            simp only [this, if_true]
            refine ⟨h.lay fun u e' => ?_, rfl⟩
            cases e'
            rw [boxAt_set hc, if_pos rfl]
        · simp only [plainDo, if_pos c2, ynO, MarkS.swapP]
          have h2 := h.hear (v := x) c2
          refine ⟨h2.lay fun u e' => ?_, hear_key⟩
          cases e'
          rw [hear_key, boxAt_set hc, if_pos rfl]
      · rw [if_neg c2]
        rcases ho with rfl | rfl
        · simp only [ynO, MarkS.swapP]
          cases e : M.value with
          | none => exact ⟨h.lay fun u e => (nomatch e), rfl⟩
          | some y =>
            have : ¬ y = x := fun z => c2 ((h.val y e).trans z)
            simp only [if_neg this]
            exact ⟨h, trivial⟩
        · simp only [plainDo, if_neg c2, ynO, MarkS.swapP]
          exact ⟨h, trivial⟩
  · rw [if_neg q]
    refine ⟨?_, rfl⟩
    have e : boxAt (plainDo vs c).2 M.key = boxAt vs M.key := by
      cases c with
      | read j => rfl
      | write j v => simp only [PC.key] at q hc; simp only [plainDo]; rw [boxAt_set hc, if_neg q]
      | add j v => simp only [PC.key] at q hc; simp only [plainDo]; rw [boxAt_set hc, if_neg q]
      | swap j x w =>
        simp only [PC.key] at q hc
        simp only [plainDo]
        split
        · simp only; rw [boxAt_set hc, if_neg q]
        · rfl
    exact ⟨h.need, fun z => e.trans (h.same z), fun v z => e.trans (h.val v z)⟩
theorem MkOk.goPs : ∀ {cs : List PC} {M : MarkS} {vs0 vs : Stand}, MkOk M vs0 vs → (∀ c ∈ cs, c.key < vs.length) → ∀ ps : List (PC × Option PA), (ps = cs.map (fun c => (c, none)) ∨ ps = (cs.zip (dealDo vs cs).1).map fun p => (p.1, some p.2)) →
    MkOk (M.goPs ps) vs0 (dealDo vs cs).2 ∧ (M.goPs ps).key = M.key
  | [], M, vs0, vs, h, hc, ps, e => by
    have : ps = [] := by rcases e with e | e <;> simpa using e
    subst this
    exact ⟨h, rfl⟩
  | c :: cs, M, vs0, vs, h, hc, ps, e => by
    have hc1 := hc c (List.mem_cons_self ..)
    have hc2 : ∀ x ∈ cs, x.key < (plainDo vs c).2.length := fun x hx => by rw [plainDo_len]; exact hc x (List.mem_cons_of_mem _ hx)
    rcases e with rfl | rfl
    · obtain ⟨h2, k2⟩ := h.goP hc1 (o := none) (.inl rfl)
      obtain ⟨h3, k3⟩ := MkOk.goPs h2 hc2 _ (.inl rfl)
      exact ⟨h3, k3.trans k2⟩
    · obtain ⟨h2, k2⟩ := h.goP hc1 (o := some (plainDo vs c).1) (.inr rfl)
      obtain ⟨h3, k3⟩ := MkOk.goPs h2 hc2 _ (.inr rfl)
      exact ⟨h3, k3.trans k2⟩
theorem layDo_at : ∀ {ps : List (Nat × Int)} {vs : Stand} {key : Nat}, (∀ p ∈ ps, p.1 < vs.length) → (ps.map (·.1)).Pairwise (· < ·) → boxAt (layDo vs ps) key = match ps.lookup key with | some v => v | none => boxAt vs key
  | [], vs, key, _, _ => rfl
  | p :: ps, vs, key, h, hp => by
    have h1 := h p (List.mem_cons_self ..)
    rw [List.map_cons, List.pairwise_cons] at hp
    have ih := layDo_at (ps := ps) (vs := vs.set p.1 p.2) (key := key) (fun q hq => by rw [List.length_set]; exact h q (List.mem_cons_of_mem _ hq)) hp.2
    simp only [layDo]
    rw [ih, List.lookup_cons, boxAt_set h1]
    by_cases q : p.1 = key
    · have no : ps.lookup key = none := by
        cases e : ps.lookup key with
        | none => rfl
        | some v =>
          have : key ∈ ps.map (·.1) := by
            have := List.lookup_eq_some_iff.mp e
            obtain ⟨l1, l2, e1, _⟩ := this
            rw [e1]
            simp
          have := hp.1 key this
          omega
      rw [no, q]
      simp
    · have : (key == p.1) = false := beq_eq_false_iff_ne.mpr (Ne.symm q)
      rw [this, if_neg q]
/-- a step done at a stand, told with its answer or none: it needs what is there, and leaves what comes -/
theorem touch_sound {s : Stp} (hs : s.ok) {vs : Stand} (hl : vs.length = 8) {o : Option Ans} (ho : o = none ∨ o = some (stepDo vs s).1) (key : Nat) :
    (∀ v, needsT s o key = some v → boxAt vs key = v) ∧ (leavesT s o key = .none → boxAt (stepDo vs s).2 key = boxAt vs key) ∧ ∀ v, leavesT s o key = .is v → boxAt (stepDo vs s).2 key = v := by
  have call : ∀ c : Call, c.ok → (o = none ∨ o = some (callDo vs c).1) → MkOk (marked c o key) vs (callDo vs c).2 ∧ (marked c o key).key = key := fun c hc ho => by
    cases c with
    | one c =>
      have hc' : c.key < vs.length := by rw [hl]; exact hc
      rcases ho with rfl | rfl
      · exact MkOk.goP MkOk.new hc' (.inl rfl)
      · exact MkOk.goP MkOk.new hc' (.inr rfl)
    | span lo hi =>
      rcases ho with rfl | rfl
      · exact ⟨MkOk.new, rfl⟩
      · simp only [callDo, marked, MarkS.spanP]
        split
        · rename_i c
          have e : boxAt vs key = (((vs.drop lo).take (hi - lo)).getD (key - lo) 0) := by
            have c' : lo ≤ key ∧ key < hi := c
            rw [List.getD_eq_getElem?_getD, List.getElem?_take, if_pos (by omega), List.getElem?_drop, show lo + (key - lo) = key by omega]
            unfold boxAt
            rw [List.getD_eq_getElem?_getD]
          exact ⟨MkOk.new.hear e, hear_key⟩
        · exact ⟨MkOk.new, rfl⟩
    | deal cs =>
      have hc' : 1 ≤ cs.length ∧ cs.length ≤ 4 ∧ ∀ c ∈ cs, c.ok := hc
      have hk : ∀ c ∈ cs, c.key < vs.length := fun c hm => by rw [hl]; exact hc'.2.2 c hm
      rcases ho with rfl | rfl
      · exact MkOk.goPs MkOk.new hk _ (.inl rfl)
      · exact MkOk.goPs MkOk.new hk _ (.inr rfl)
  have left : ∀ (M : MarkS) (vs' : Stand), MkOk M vs vs' → M.key = key → (M.left = .none → boxAt vs' key = boxAt vs key) ∧ ∀ v, M.left = .is v → boxAt vs' key = v := fun M vs' h hk => by
    subst hk
    unfold MarkS.left
    refine ⟨fun e => ?_, fun v e => ?_⟩
    · split at e
      · rename_i c; exact h.same c
      · split at e <;> cases e
    · split at e
      · cases e
      · split at e
        · cases e
        · rename_i u q; cases e; exact h.val _ q
  cases s with
  | call c =>
    obtain ⟨h, hk⟩ := call c hs ho
    obtain ⟨l1, l2⟩ := left _ _ h hk
    exact ⟨fun v e => by have := h.need v e; rwa [hk] at this, l1, l2⟩
  | look c =>
    obtain ⟨h, hk⟩ := call c hs ho
    exact ⟨fun v e => by have := h.need v e; rwa [hk] at this, fun _ => rfl, fun v e => (nomatch e)⟩
  | lay ps =>
    have hs' : ps ≠ [] ∧ (ps.map (·.1)).Pairwise (· < ·) ∧ ∀ p ∈ ps, p.1 < 8 := hs
    have e := layDo_at (ps := ps) (vs := vs) (key := key) (fun p hp => by rw [hl]; exact hs'.2.2 p hp) hs'.2.1
    refine ⟨fun v e => (nomatch e), fun q => ?_, fun v q => ?_⟩
    · simp only [leavesT] at q
      simp only [stepDo]
      rw [e]
      cases z : ps.lookup key with
      | none => rfl
      | some w => simp [z] at q
    · simp only [leavesT] at q
      simp only [stepDo]
      rw [e]
      cases z : ps.lookup key with
      | none => simp [z] at q
      | some w => simpa [z] using q
/-- the answer has its form -/
theorem stepDo_ans {s : Stp} (hs : s.ok) {vs : Stand} (hl : vs.length = 8) : StpOk s (some (stepDo vs s).1) := by
  have deal : ∀ (cs : List PC) (vs : Stand), PAsOk cs (dealDo vs cs).1 := by
    intro cs
    induction cs with
    | nil => exact fun _ => .nil
    | cons c cs ih =>
      intro vs
      refine .cons ?_ (ih _)
      cases c <;> simp only [plainDo] <;> first | trivial | (split <;> trivial)
  have call : ∀ c : Call, c.ok → AnsOk c (callDo vs c).1 := fun c hc => by
    cases c with
    | one c => cases c <;> simp only [callDo, plainDo] <;> first | trivial | (split <;> trivial)
    | span lo hi =>
      have hc' : lo < hi ∧ hi ≤ 8 := hc
      simp only [callDo, AnsOk, List.length_take, List.length_drop]
      omega
    | deal cs => exact deal cs vs
  cases s with
  | call c => exact fun a e => by cases e; exact call c hs
  | look c => exact fun a e => by cases e; exact call c hs
  | lay ps => trivial
end CI.Mo

/-! What the newer operations tell: pop, extend, dicts in the store, list(range(..)), sets. -/
namespace CI.Mo
open PySem PySem.Spec PyProof.Rows L2 CI
section
variable {S : Store} {k : Kn D} {n : Nat} {ds es : List D} {x : D} {m : Bool} {kds : List (Key × D)}
theorem wm_extend (h : S[n]? = some (.lst ds)) (hz : ds.length + es.length ≤ big) : wp (meD .extend (.adr n) [.lst es]) S k = k .non (S.set n (.lst (ds ++ es))) := by
  have e : meD .extend (.adr n) [.lst es] S = .ok .non (S.set n (.lst (ds ++ es))) := by
    unfold meD
    simp only [h]
    rw [if_pos hz]
  rw [wp_ok e]
theorem wm_popL (h : S[n]? = some (.lst ds)) (hx : ds[ds.length - 1]? = some x) : wp (meD .pop (.adr n) []) S k = k x (S.set n (.lst ds.dropLast)) := by
  have e : meD .pop (.adr n) [] S = .ok x (S.set n (.lst ds.dropLast)) := by
    unfold meD
    simp only [h, hx]
  rw [wp_ok e]
theorem wm_popI (h : S[n]? = some (.lst ds)) {i : Nat} (hx : ds[i]? = some x) (hl : i ≤ big) : wp (meD .pop (.adr n) [.int i]) S k = k x (S.set n (.lst (ds.eraseIdx i))) := by
  have lt : i < ds.length := (List.getElem?_eq_some_iff.mp hx).1
  have e0 : seqIndex? (i : Int) ds.length = some i := by
    unfold seqIndex?
    have c : ¬ (i : Int) < 0 := by omega
    simp [c, lt]
  have e : meD .pop (.adr n) [.int i] S = .ok x (S.set n (.lst (ds.eraseIdx i))) := by
    unfold big at hl
    unfold meD
    simp only [h]
    rw [if_pos (by omega)]
    simp only [e0, hx]
  rw [wp_ok e]
theorem ws_putD (h : S[n]? = some (.dct kds)) {key : D} {q : Key} (hq : keyO key = some q) (hz : kds.length < big) {P : Unit → Store → Prop} : wp (setD (.adr n) key x) S P = P () (S.set n (.dct (putD kds q x))) := by
  have e : setD (.adr n) key x S = .ok () (S.set n (.dct (putD kds q x))) := by
    unfold setD
    simp only [h, hq]
    rw [if_pos hz]
  rw [wp_ok e]
theorem wi_dctA (h : S[n]? = some (.dct kds)) {key : D} {q : Key} (hq : keyO key = some q) : wp (ixD (.adr n) key) S k = ozk (valD kds q) S k := by
  rw [wi]
  have e1 : dctO S (.adr n) = some kds := by show (match S[n]? with | some (.dct kds) => some kds | _ => none) = _; rw [h]
  show ozk (ixG S (.adr n) key) S k = _
  rw [ixG_k hq]
  unfold ixG0
  rw [e1]
  simp only [hq]
  rfl
theorem rcvD_adr (h : S[n]? = some (.dct kds)) : rcvO .dict S (.adr n) = true := by
  show ((match S[n]? with | some (.dct kds) => some kds | _ => none : Option (List (Key × D)))).isSome = true
  rw [h]; rfl
@[simp] theorem ty_extend : Me.ty .extend = .list := rfl
@[simp] theorem ty_pop : Me.ty .pop = .list := rfl
@[simp] theorem ty_clear : Me.ty .clear = .list := rfl
@[simp] theorem ty_insert : Me.ty .insert = .list := rfl
@[simp] theorem ty_get : Me.ty .get = .dict := rfl
@[simp] theorem ty_popD : Me.ty .popD = .dict := rfl
@[simp] theorem ty_clearD : Me.ty .clearD = .dict := rfl
@[simp] theorem ty_setd : Me.ty .setd = .dict := rfl
theorem rgD_nat {q : Nat} : rgD 0 (q : Int) = (List.range q).map fun i : Nat => D.int (i : Int) := by
  unfold rgD
  simp
theorem wo_lrg {q : Nat} (h : q ≤ big) : wp (op1D .lrg m (.int q)) S k = wp (fin m ((List.range q).map fun i : Nat => D.int (i : Int))) S k := by
  have c : rgOk 0 (q : Int) = true := by
    unfold big at h
    refine decide_eq_true ⟨by decide, by decide, by omega, by omega, ?_⟩
    unfold big
    omega
  show wp (lrg1D m (.int q)) S k = _
  have e : lrg1D m (.int q) = fin m (rgD 0 q) := by
    funext S
    show (if rgOk 0 (q : Int) = true then fin m (rgD 0 q) S else .bad) = _
    rw [if_pos c]
  rw [e, rgD_nat]
theorem wo_len {ns : List Int} (h : (seqO S x).bind intsO = some ns) (h1 : ns.length ≤ 4000) (h2 : (ordI ns).length < 64) : wp (op1D .lenS m x) S k = k (.int (ordI ns).length) S := by
  have e : uniD m false x S = .ok (.int (ordI ns).length) S := by
    unfold uniD
    simp only [h]
    rw [if_pos ⟨h1, h2⟩]
    rfl
  show wp (uniD m false x) S k = _
  rw [wp_ok e]
theorem wo_srt {ns : List Int} (h : (seqO S x).bind intsO = some ns) (h1 : ns.length ≤ 4000) (h2 : (ordI ns).length < 64) : wp (op1D .srtS m x) S k = wp (fin m ((ordI ns).map D.int)) S k := by
  have e : uniD m true x S = fin m ((ordI ns).map D.int) S := by
    unfold uniD
    simp only [h]
    rw [if_pos ⟨h1, h2⟩]
    rfl
  show wp (uniD m true x) S k = _
  unfold wp
  rw [e]
@[simp ↓] theorem wn_intI {i : Int} : wp (biD m .int [.int i]) S k = k (.int i) S := (rfl)
@[simp ↓] theorem wn_intB {b : Bool} : wp (biD m .int [.bl b]) S k = k (.int (if b = true then 1 else 0)) S := (rfl)
@[simp] theorem eqDs_app_nil : ∀ {l : List D} {x : D}, eqDs (l ++ [x]) [] = false
  | [], _ => rfl
  | _ :: _, _ => rfl
@[simp] theorem cut1_0 {α : Type} {x : α} : cutD [x] (some 0) none = [x] := rfl
@[simp] theorem cut1_1 {α : Type} {x : α} : cutD [x] (some 1) none = [] := rfl
@[simp] theorem tyO_non : tyO S .non = some "NoneType" := rfl
@[simp] theorem tyO_bl {b : Bool} : tyO S (.bl b) = some "bool" := rfl
@[simp] theorem tyO_int {i : Int} : tyO S (.int i) = some "int" := rfl
@[simp] theorem tyO_str {z : Str} : tyO S (.str z) = some "str" := rfl
@[simp] theorem tyO_tup : tyO S (.tup ds) = some "tuple" := rfl
@[simp] theorem tyO_lst : tyO S (.lst ds) = some "list" := rfl
theorem tyO_adr (h : S[n]? = some (.lst ds)) : tyO S (.adr n) = some "list" := by
  show (match S[n]? with | some (.lst _) => some "list" | some (.dct _) => some "dict" | _ => none) = _
  rw [h]
theorem intsO_map : ∀ ns : List Int, intsO (ns.map D.int) = some ns
  | [] => rfl
  | x :: ns => by
    show (intsO (ns.map D.int)).map (x :: ·) = _
    rw [intsO_map ns]; rfl
end
/-! ### the draws of the laws about problems -/
def StG (n : Nat) (S : Store) : Prop := (∃ c, S[n]? = some (.lst [.int c])) ∨ ∃ a b c, S[n]? = some (.lst [.int a, .int b, .int c])
structure Gs (n : Nat) (S0 S : Store) : Prop where
  st : StG n S
  kp : Keep [n] S0 S
theorem Gs.new {S : Store} {c : Int} : Gs S.length S (S ++ [.lst [.int c]]) := ⟨.inl ⟨_, get_last⟩, Keep.add Keep.refl⟩
theorem Gs.start {n : Nat} {S : Store} (h : StG n S) : Gs n S S := ⟨h, Keep.refl⟩
theorem Gs.on {n : Nat} {S0 S1 S2 : Store} (h : Gs n S0 S1) (a : Gs n S1 S2) : Gs n S0 S2 := ⟨a.st, h.kp.trans a.kp⟩
theorem StG.lt {n : Nat} {S : Store} (h : StG n S) : n < S.length := by
  rcases h with ⟨_, h⟩ | ⟨_, _, _, h⟩ <;> exact lt_of h
theorem StG.get {n m : Nat} {S : Store} {o : Ob} (h : StG n S) (e : S[m]? = some o) (ho : ∀ ds, o = .lst ds → ds = [] ∨ 4 ≤ ds.length) : n ≠ m := by
  rintro rfl
  rcases h with ⟨_, h⟩ | ⟨_, _, _, h⟩
  · rw [e] at h; cases h; rcases ho _ rfl with q | q
    · cases q
    · simp at q
  · rw [e] at h; cases h; rcases ho _ rfl with q | q
    · cases q
    · simp at q
theorem insU_new {x : Int} : ∀ {l : List Int}, x ∉ l → (insU x l).length = l.length + 1
  | [], _ => rfl
  | y :: r, h => by
    rw [List.mem_cons, not_or] at h
    unfold insU
    by_cases c : x < y
    · rw [if_pos c]; simp
    · rw [if_neg c, if_neg h.1, List.length_cons, insU_new h.2, List.length_cons]
theorem ordI_nodup : ∀ {l : List Int}, l.Nodup → (ordI l).length = l.length
  | [], _ => rfl
  | x :: r, h => by
    obtain ⟨h1, h2⟩ := List.nodup_cons.mp h
    show (insU x (ordI r)).length = r.length + 1
    rw [insU_new (fun z => h1 (ordI_mem.mp z)), ordI_nodup h2]
/-- a goal that obtain shall not look into -/
structure Hide (p : Prop) : Prop where
  h : p
def tieD (t : List Nat) : D := .tup (t.map fun i : Nat => D.int (i : Int))
theorem ris_len : ∀ {l : List Nat} {a b : Nat}, l.Pairwise (· < ·) → (∀ i ∈ l, a ≤ i ∧ i < b) → l.length ≤ b - a
  | [], _, _, _, _ => by simp
  | x :: l, a, b, h, hb => by
    obtain ⟨h1, h2⟩ := List.pairwise_cons.mp h
    have i1 := ris_len (a := x + 1) (b := b) h2 fun i hi => ⟨h1 i hi, (hb i (List.mem_cons_of_mem _ hi)).2⟩
    have i2 := hb x (List.mem_cons_self ..)
    rw [List.length_cons]
    omega
theorem lay_len {ps : List (Nat × Int)} (h1 : (ps.map (·.1)).Pairwise (· < ·)) (h2 : ∀ p ∈ ps, p.1 < 8) : ps.length ≤ 8 := by
  have := ris_len (a := 0) (b := 8) h1 fun i hi => by
    obtain ⟨p, hp, rfl⟩ := List.mem_map.mp hi
    exact ⟨Nat.zero_le _, h2 p hp⟩
  simpa using this
theorem StG.kept {ns : List Nat} {n : Nat} {S S' : Store} (h : StG n S) (k : Keep ns S S') (hn : n ∉ ns) : StG n S' := by
  rcases h with ⟨c, e⟩ | ⟨a, b, c, e⟩
  · exact .inl ⟨c, k.get e hn⟩
  · exact .inr ⟨a, b, c, k.get e hn⟩
theorem Gs.keep {n : Nat} {S0 S S' : Store} (h : Gs n S0 S) (k : Keep [] S S') : Gs n S0 S' := ⟨h.st.kept k (by simp), h.kp.trans (k.more (by simp))⟩
theorem Gs.set {n a : Nat} {S0 S : Store} {o : Ob} (h : Gs n S0 S) (ne : n ≠ a) (hl : S0.length ≤ a) : Gs n S0 (S.set a o) := by
  refine ⟨?_, h.kp.set (.inr hl)⟩
  rcases h.st with ⟨c, e⟩ | ⟨x, y, z, e⟩
  · exact .inl ⟨c, by rw [List.getElem?_set_ne (by omega)]; exact e⟩
  · exact .inr ⟨x, y, z, by rw [List.getElem?_set_ne (by omega)]; exact e⟩
theorem Gs.add {n : Nat} {S0 S : Store} {o : Ob} (h : Gs n S0 S) : Gs n S0 (S ++ [o]) := by
  have lt := h.st.lt
  refine ⟨?_, h.kp.add⟩
  rcases h.st with ⟨c, e⟩ | ⟨x, y, z, e⟩
  · exact .inl ⟨c, by rw [List.getElem?_append_left lt]; exact e⟩
  · exact .inr ⟨x, y, z, by rw [List.getElem?_append_left lt]; exact e⟩
def dropS : Nat → Stms → Stms
  | 0, s => s
  | _ + 1, .nil => .nil
  | n + 1, .cons _ r => dropS n r
/-- the body of a loop -/
def bodyS : Stms → Stms
  | .cons (.for_ _ _ b) _ => b
  | .cons (.whl _ b) _ => b
  | _ => .nil
end CI.Mo

/-! Problems. -/
namespace CI.Mo
open PySem PySem.Spec PyProof.Rows L2 CI

/-- what is_answer calls an answer of a step -/
def IsAns : Stp → Ans → Prop
  | .call c, a => AnsOk c a
  | .look c, a => AnsOk c a ∧ a ≠ .refused
  | .lay _, a => a = .one .done
inductive Wd where
  | must | may | out
  deriving DecidableEq
def Wd.s : Wd → String
  | .must => "must" | .may => "may" | .out => "out"
def Wd.d (w : Wd) : D := sS w.s
@[simp] theorem Wd.noBl {w : Wd} : noBl w.d = true := by cases w <;> rfl
@[simp] theorem Wd.okd {n : Nat} {w : Wd} : okD n w.d = true := by cases w <;> simp [Wd.d, Wd.s]
theorem Wd.inj {a b : Wd} (h : a.d = b.d) : a = b := by cases a <;> cases b <;> simp_all [Wd.d, Wd.s]
@[simp] theorem eq_wd {a b : Wd} : eqD a.d b.d = decide (a = b) := eqD_dec Wd.noBl Wd.noBl ⟨Wd.inj, fun e => by rw [e]⟩
structure Item where
  s : Stp
  o : Option Ans
  w : Wd
  deriving DecidableEq
def Item.d (i : Item) : D := .tup [i.s.d, oAns i.o, i.w.d]
@[simp] theorem Item.okd {n : Nat} {i : Item} (h : 5 ≤ n) : okD n i.d = true := by
  obtain ⟨m, rfl⟩ : ∃ m, n = m + 1 := ⟨n - 1, by omega⟩
  have h1 : 4 ≤ m := by omega
  have h2 : 3 ≤ m := by omega
  simp [Item.d, h1, h2]
@[simp] theorem okDs_items {n : Nat} {l : List Item} (h : 5 ≤ n) : okDs n (l.map Item.d) = true := okDs_map fun _ _ => Item.okd h
def Item.ok (i : Item) : Prop := i.s.ok ∧ ∀ a, i.o = some a → IsAns i.s a
def prD (p : Nat × Nat) : D := .tup [.int p.1, .int p.2]
def trD (p : Nat × Nat × Nat) : D := .tup [.int p.1, .int p.2.1, .int p.2.2]
def PrsOk (m : Nat) (ps : List (Nat × Nat)) : Prop := ∀ t ∈ ps, t.1 < m ∧ t.2 < m ∧ t.1 ≠ t.2
structure Prob where
  first : Stand
  items : List Item
  before : List (Nat × Nat)
  apart : List (Nat × Nat × Nat)
def Prob.d (p : Prob) : D := .tup [standD p.first, .tup (p.items.map Item.d), .tup (p.before.map prD), .tup (p.apart.map trD)]
@[simp] theorem prD_okd {n : Nat} {p : Nat × Nat} (h : 1 ≤ n) : okD n (prD p) = true := by
  obtain ⟨m, rfl⟩ : ∃ m, n = m + 1 := ⟨n - 1, by omega⟩
  simp [prD]
@[simp] theorem trD_okd {n : Nat} {p : Nat × Nat × Nat} (h : 1 ≤ n) : okD n (trD p) = true := by
  obtain ⟨m, rfl⟩ : ∃ m, n = m + 1 := ⟨n - 1, by omega⟩
  simp [trD]
@[simp] theorem okDs_prs {n : Nat} {l : List (Nat × Nat)} (h : 1 ≤ n) : okDs n (l.map prD) = true := okDs_map fun _ _ => prD_okd h
@[simp] theorem okDs_trs {n : Nat} {l : List (Nat × Nat × Nat)} (h : 1 ≤ n) : okDs n (l.map trD) = true := okDs_map fun _ _ => trD_okd h
@[simp] theorem Prob.okd {n : Nat} {p : Prob} (h : 7 ≤ n) : okD n p.d = true := by
  obtain ⟨m, rfl⟩ : ∃ m, n = m + 2 := ⟨n - 2, by omega⟩
  have h1 : 1 ≤ m + 1 := by omega
  have h2 : 5 ≤ m := by omega
  have h3 : 1 ≤ m := by omega
  simp [Prob.d, h1, h2, h3]
theorem noBl_oA {o : Option Ans} : noBl (oAns o) = true := by
  cases o with
  | none => rfl
  | some a => exact Ans.noBl
theorem Item.noBl {i : Item} : noBl i.d = true := by
  have h1 := @Stp.noBl i.s
  have h2 := @noBl_oA i.o
  simp [Item.d, CI.Mo.noBl, noBls, h1, h2]
theorem Prob.noBl {p : Prob} : CI.Mo.noBl p.d = true := by
  have h1 : noBls (p.items.map Item.d) = true := noBls_map fun _ => Item.noBl
  have h2 : noBls (p.before.map prD) = true := noBls_map fun _ => rfl
  have h3 : noBls (p.apart.map trD) = true := noBls_map fun _ => rfl
  have h4 : CI.Mo.noBl (standD p.first) = true := noBls_map fun _ => rfl
  simp [Prob.d, CI.Mo.noBl, noBls, h1, h2, h3, h4]
def wAt (is : List Item) (i : Nat) : Option Wd := is[i]?.map Item.w
def TrsOk (is : List Item) (ts : List (Nat × Nat × Nat)) : Prop := ∀ t ∈ ts, t.1 < is.length ∧ t.2.1 < is.length ∧ t.2.2 < is.length ∧ t.1 ≠ t.2.1 ∧ t.1 ≠ t.2.2 ∧ t.2.1 ≠ t.2.2 ∧ wAt is t.1 = some .must ∧ wAt is t.2.1 = some .must
structure Prob.ok (p : Prob) : Prop where
  first : p.first.length = 8
  items : p.items.length ≤ 120 ∧ ∀ i ∈ p.items, i.ok
  before : p.before.length ≤ 4000 ∧ PrsOk p.items.length p.before
  apart : p.apart.length ≤ 4000 ∧ TrsOk p.items p.apart

/-! ### an answer changed -/
def PA.alt : PA → PA
  | .got v => .got (v + 1) | .yes => .no | .no => .yes | .done => .done
def Ans.alt : Ans → Ans
  | .one a => .one a.alt
  | .all (v :: vs) => .all ((v - 1) :: vs)
  | .all [] => .all []
  | .each as => .each (as.map PA.alt)
  | .refused => .refused
theorem PAok.alt {c : PC} {a : PA} (h : PAok c a) : PAok c a.alt := by
  cases c <;> cases a <;> simp_all [PAok, PA.alt]
theorem PAsOk.alt {cs : List PC} {as : List PA} (h : PAsOk cs as) : PAsOk cs (as.map PA.alt) := by
  induction h with
  | nil => exact .nil
  | cons h _ ih => exact .cons h.alt ih
theorem AnsOk.alt {c : Call} {a : Ans} (h : AnsOk c a) : AnsOk c a.alt := by
  cases c <;> cases a <;> first
    | exact h
    | exact PAok.alt h
    | exact PAsOk.alt h
    | (rename_i vs; cases vs <;> exact h)
theorem IsAns.alt {s : Stp} {a : Ans} (h : IsAns s a) : IsAns s a.alt := by
  cases s with
  | call c => exact AnsOk.alt h
  | look c => exact ⟨AnsOk.alt h.1, by
      have := h.2
      cases a with
      | all vs => cases vs <;> simp [Ans.alt]
      | refused => exact absurd rfl this
      | _ => simp [Ans.alt]⟩
  | lay ps =>
    have : a = .one .done := h
    subst this
    rfl
theorem stepDo_is {s : Stp} (hs : s.ok) {vs : Stand} (hl : vs.length = 8) : IsAns s (stepDo vs s).1 := by
  have := stepDo_ans hs hl
  cases s with
  | call c => exact this _ rfl
  | look c =>
    refine ⟨this _ rfl, ?_⟩
    cases c with
    | one c => simp [stepDo, callDo]
    | span _ _ => simp [stepDo, callDo]
    | deal _ => simp [stepDo, callDo]
  | lay ps => rfl
/-! ### dicts -/
theorem valD_put {kds : List (Key × D)} {j k : Key} {x : D} : valD (putD kds k x) j = if j = k then some x else valD kds j := by
  have key : ∀ l : List (Key × D), (l.any fun kv => decide (kv.1 = k)) = true → valD (l.map fun kv => if kv.1 = k then (kv.1, x) else kv) j = if j = k then some x else valD l j := by
    intro l
    induction l with
    | nil => intro h; simp at h
    | cons p r ih =>
      intro h
      unfold valD at ih ⊢
      rw [List.map_cons, List.find?_cons, List.find?_cons]
      by_cases e : p.1 = k
      · by_cases ej : j = k
        · subst ej
          simp [e]
        · have ne : ¬ k = j := fun z => ej z.symm
          have e2 : ∀ l : List (Key × D), (l.map fun kv => if kv.1 = k then (kv.1, x) else kv).find? (fun kv => decide (kv.1 = j)) = l.find? (fun kv => decide (kv.1 = j)) := by
            intro l
            induction l with
            | nil => rfl
            | cons q l ih2 =>
              rw [List.map_cons, List.find?_cons, List.find?_cons, ih2]
              by_cases eq : q.1 = k
              · simp [eq, ne]
              · simp [eq]
          rw [e2]
          simp only [e, if_true, ne, ej, decide_false, if_false]
      · simp only [e, if_false]
        have h' : (r.any fun kv => decide (kv.1 = k)) = true := by simpa [List.any_cons, e] using h
        by_cases ej : p.1 = j
        · have ne : ¬ j = k := fun z => e (ej.trans z)
          simp [ej, ne]
        · simp only [ej, decide_false]
          exact ih h'
  unfold putD
  by_cases c : (kds.any fun kv => decide (kv.1 = k)) = true
  · rw [if_pos c]; exact key kds c
  · rw [if_neg c]
    have nf : ∀ l : List (Key × D), ¬ (l.any fun kv => decide (kv.1 = k)) = true → valD (l ++ [(k, x)]) j = if j = k then some x else valD l j := by
      intro l
      induction l with
      | nil =>
        intro _
        unfold valD
        by_cases e : j = k
        · simp [e]
        · have ne : ¬ k = j := fun z => e z.symm
          simp [e, ne]
      | cons p r ih =>
        intro h
        rw [List.any_cons, Bool.or_eq_true, not_or] at h
        have e : ¬ p.1 = k := by simpa using h.1
        unfold valD at ih ⊢
        rw [List.cons_append, List.find?_cons, List.find?_cons]
        by_cases ej : p.1 = j
        · have ne : ¬ j = k := fun z => e (ej.trans z)
          simp [ej, ne]
        · simp only [ej, decide_false]
          exact ih h.2
    exact nf kds c
theorem mem_erase {os : List Nat} {j : Nat} (hj : j < os.length) {i : Nat} (h : i ∈ os) : i = os[j] ∨ i ∈ os.eraseIdx j := by
  obtain ⟨m, hm, rfl⟩ := List.getElem_of_mem h
  by_cases e : m = j
  · subst e; exact .inl rfl
  · refine .inr ?_
    by_cases l : m < j
    · have : (os.eraseIdx j)[m]? = some os[m] := by
        rw [List.getElem?_eraseIdx, if_pos l, List.getElem?_eq_getElem]
      exact List.mem_of_getElem? this
    · have : (os.eraseIdx j)[m - 1]? = some os[m] := by
        rw [List.getElem?_eraseIdx, if_neg (by omega), show m - 1 + 1 = m by omega, List.getElem?_eq_getElem]
      exact List.mem_of_getElem? this
/-! ### frames -/
def wantedL (is : List Item) (ts : List (Nat × Nat)) (y : Nat) : List Nat := (ts.filter fun t => decide (t.2 = y ∧ wAt is t.1 = some .must)).map (·.1)
def barredL (ts : List (Nat × Nat)) (x : Nat) : List Nat := (ts.filter fun t => decide (t.1 = x)).map (·.2)
def betweenL (ts : List (Nat × Nat × Nat)) (z : Nat) : List (Nat × Nat) := (ts.filter fun t => decide (t.2.2 = z)).map fun t => (t.1, t.2.1)
def mustsL (is : List Item) : List Nat := (List.range is.length).filter fun i => decide (wAt is i = some .must)
def natsD (l : List Nat) : List D := l.map fun i : Nat => D.int (i : Int)
def adrsD (a n : Nat) : D := .lst ((List.range n).map fun i => D.adr (a + i))
/-- the lists of a frame: three rows of n from a on -/
structure FrL (n a : Nat) (W B : Nat → List Nat) (Z : Nat → List (Nat × Nat)) (S : Store) : Prop where
  w : ∀ i < n, S[a + i]? = some (.lst (natsD (W i)))
  b : ∀ i < n, S[a + n + i]? = some (.lst (natsD (B i)))
  z : ∀ i < n, S[a + n + n + i]? = some (.lst ((Z i).map Mo.prD))
def addF {α : Type} (F : Nat → List α) (y : Nat) (x : α) : Nat → List α := fun i => if i = y then F i ++ [x] else F i
theorem FrL.setW {n a : Nat} {W B : Nat → List Nat} {Z : Nat → List (Nat × Nat)} {S : Store} (h : FrL n a W B Z S) {x y : Nat} (hy : y < n) : FrL n a (addF W y x) B Z (S.set (a + y) (.lst (natsD (W y) ++ [.int x]))) := by
  refine ⟨fun i hi => ?_, fun i hi => ?_, fun i hi => ?_⟩
  · by_cases e : i = y
    · subst e
      rw [set_at (h.w i hi)]
      simp [addF, natsD]
    · rw [List.getElem?_set_ne (by omega), h.w i hi]
      simp [addF, e]
  · rw [List.getElem?_set_ne (by omega), h.b i hi]
  · rw [List.getElem?_set_ne (by omega), h.z i hi]
theorem FrL.setB {n a : Nat} {W B : Nat → List Nat} {Z : Nat → List (Nat × Nat)} {S : Store} (h : FrL n a W B Z S) {x y : Nat} (hy : y < n) : FrL n a W (addF B y x) Z (S.set (a + n + y) (.lst (natsD (B y) ++ [.int x]))) := by
  refine ⟨fun i hi => ?_, fun i hi => ?_, fun i hi => ?_⟩
  · rw [List.getElem?_set_ne (by omega), h.w i hi]
  · by_cases e : i = y
    · subst e
      rw [set_at (h.b i hi)]
      simp [addF, natsD]
    · rw [List.getElem?_set_ne (by omega), h.b i hi]
      simp [addF, e]
  · rw [List.getElem?_set_ne (by omega), h.z i hi]
theorem FrL.setZ {n a : Nat} {W B : Nat → List Nat} {Z : Nat → List (Nat × Nat)} {S : Store} (h : FrL n a W B Z S) {x : Nat × Nat} {y : Nat} (hy : y < n) : FrL n a W B (addF Z y x) (S.set (a + n + n + y) (.lst ((Z y).map Mo.prD ++ [Mo.prD x]))) := by
  refine ⟨fun i hi => ?_, fun i hi => ?_, fun i hi => ?_⟩
  · rw [List.getElem?_set_ne (by omega), h.w i hi]
  · rw [List.getElem?_set_ne (by omega), h.b i hi]
  · by_cases e : i = y
    · subst e
      rw [set_at (h.z i hi)]
      simp [addF]
    · rw [List.getElem?_set_ne (by omega), h.z i hi]
      simp [addF, e]
theorem FrL.keep {ns : List Nat} {n a : Nat} {W B : Nat → List Nat} {Z : Nat → List (Nat × Nat)} {S S' : Store} (h : FrL n a W B Z S) (k : Keep ns S S') (hn : ∀ m ∈ ns, m < a) : FrL n a W B Z S' :=
  ⟨fun i hi => k.get (h.w i hi) fun q => by have := hn _ q; omega, fun i hi => k.get (h.b i hi) fun q => by have := hn _ q; omega, fun i hi => k.get (h.z i hi) fun q => by have := hn _ q; omega⟩
def frF (p : Prob) (a : Nat) : List (Str × D) := [(Str.ofString "first", standD p.first), (Str.ofString "lots", .tup (p.items.map Item.d)), (Str.ofString "wanted", adrsD a p.items.length), (Str.ofString "barred", adrsD (a + p.items.length) p.items.length),
  (Str.ofString "between", adrsD (a + p.items.length + p.items.length) p.items.length), (Str.ofString "musts", .lst (natsD (mustsL p.items)))]
/-- a frame at m -/
structure Fr (p : Prob) (m a : Nat) (S : Store) : Prop where
  ob : S[m]? = some (.ins (Str.ofString "Frame") (frF p a))
  ls : FrL p.items.length a (wantedL p.items p.before) (barredL p.before) (betweenL p.apart) S
  lt : m < a
theorem Fr.keep {p : Prob} {m a : Nat} {S S' : Store} (h : Fr p m a S) (k : Keep [] S S') : Fr p m a S' := ⟨k.get h.ob (by simp), h.ls.keep k (by simp), h.lt⟩
theorem wanted_snoc {is : List Item} {ts : List (Nat × Nat)} {t : Nat × Nat} : wantedL is (ts ++ [t]) = if wAt is t.1 = some .must then addF (wantedL is ts) t.2 t.1 else wantedL is ts := by
  funext y
  unfold wantedL addF
  rw [List.filter_append, List.map_append]
  by_cases c : wAt is t.1 = some .must
  · by_cases e : t.2 = y
    · simp [c, e]
    · have e' : ¬ y = t.2 := fun z => e z.symm
      simp [c, e, e']
  · simp [c]
theorem barred_snoc {ts : List (Nat × Nat)} {t : Nat × Nat} : barredL (ts ++ [t]) = addF (barredL ts) t.1 t.2 := by
  funext y
  unfold barredL addF
  rw [List.filter_append, List.map_append]
  by_cases e : t.1 = y
  · simp [e]
  · have e' : ¬ y = t.1 := fun z => e z.symm
    simp [e, e']
theorem between_snoc {ts : List (Nat × Nat × Nat)} {t : Nat × Nat × Nat} : betweenL (ts ++ [t]) = addF (betweenL ts) t.2.2 (t.1, t.2.1) := by
  funext y
  unfold betweenL addF
  rw [List.filter_append, List.map_append]
  by_cases e : t.2.2 = y
  · simp [e]
  · have e' : ¬ y = t.2.2 := fun z => e z.symm
    simp [e, e']
theorem musts_zip : ∀ (l : List Item) (k : Nat), ((l.zipIdx k).filterMap fun q => if q.1.w = .must then some (D.int (q.2 : Nat)) else none) = natsD ((List.range' k l.length).filter fun i => decide (wAt l (i - k) = some .must))
  | [], _ => rfl
  | x :: l, k => by
    have ih := musts_zip l (k + 1)
    rw [List.zipIdx_cons, List.filterMap_cons, ih, List.length_cons, List.range'_succ, List.filter_cons]
    have hc : ((List.range' (k + 1) l.length).filter fun i => decide (wAt (x :: l) (i - k) = some .must)) = (List.range' (k + 1) l.length).filter fun i => decide (wAt l (i - (k + 1)) = some .must) := by
      refine List.filter_congr fun i hi => ?_
      obtain ⟨h1, _⟩ := List.mem_range'_1.mp hi
      have e : i - k = (i - (k + 1)) + 1 := by omega
      rw [e]
      rfl
    rw [hc]
    have h0 : wAt (x :: l) (k - k) = some x.w := by rw [Nat.sub_self]; rfl
    rw [h0]
    by_cases c : x.w = .must
    · simp [c, natsD]
    · simp [c, natsD]
theorem musts_eq {l : List Item} : ((l.zipIdx 0).filterMap fun q => if q.1.w = .must then some (D.int (q.2 : Nat)) else none) = natsD (mustsL l) := by
  rw [musts_zip]
  unfold mustsL
  rw [List.range_eq_range']
  rfl
end CI.Mo

/-! What may come next; the two ways to say it. -/
namespace CI.Mo
open PySem PySem.Spec PyProof.Rows L2 CI

/-- by the document, over the pairs and triples themselves -/
def mayT (p : Prob) (pl : List Nat) (x : Nat) : Bool := decide (x ∉ pl ∧ wAt p.items x ≠ some .out ∧ (∀ t ∈ p.before, ¬ (t.2 = x ∧ wAt p.items t.1 = some .must ∧ t.1 ∉ pl) ∧ ¬ (t.1 = x ∧ t.2 ∈ pl)) ∧ ∀ t ∈ p.apart, ¬ (t.2.2 = x ∧ t.1 ∈ pl ∧ t.2.1 ∉ pl))
/-- by the frame's lists -/
def freeT (p : Prob) (pl : List Nat) (x : Nat) : Bool := decide (x ∉ pl ∧ wAt p.items x ≠ some .out ∧ ((∀ y ∈ wantedL p.items p.before x, y ∈ pl) ∧ ∀ z ∈ barredL p.before x, z ∉ pl) ∧ ∀ t ∈ betweenL p.apart x, ¬ (t.1 ∈ pl ∧ t.2 ∉ pl))
theorem free_may {p : Prob} {pl : List Nat} {x : Nat} : freeT p pl x = mayT p pl x := by
  unfold freeT mayT
  refine decide_eq_decide.mpr ⟨fun ⟨h1, h2, ⟨h3, h4⟩, h5⟩ => ⟨h1, h2, fun t ht => ⟨fun ⟨e1, e2, e3⟩ => ?_, fun ⟨e1, e2⟩ => ?_⟩, fun t ht ⟨e1, e2, e3⟩ => ?_⟩, fun ⟨h1, h2, h3, h4⟩ => ⟨h1, h2, ⟨fun y hy => ?_, fun z hz => ?_⟩, fun t ht => ?_⟩⟩
  · exact e3 (h3 t.1 (List.mem_map.mpr ⟨t, List.mem_filter.mpr ⟨ht, decide_eq_true ⟨e1, e2⟩⟩, rfl⟩))
  · exact h4 t.2 (List.mem_map.mpr ⟨t, List.mem_filter.mpr ⟨ht, decide_eq_true e1⟩, rfl⟩) e2
  · exact h5 (t.1, t.2.1) (List.mem_map.mpr ⟨t, List.mem_filter.mpr ⟨ht, decide_eq_true e1⟩, rfl⟩) ⟨e2, e3⟩
  · obtain ⟨t, ht, rfl⟩ := List.mem_map.mp hy
    obtain ⟨m1, m2⟩ := List.mem_filter.mp ht
    obtain ⟨e1, e2⟩ := of_decide_eq_true m2
    exact Decidable.byContradiction fun c => (h3 t m1).1 ⟨e1, e2, c⟩
  · obtain ⟨t, ht, rfl⟩ := List.mem_map.mp hz
    obtain ⟨m1, m2⟩ := List.mem_filter.mp ht
    exact fun c => (h3 t m1).2 ⟨of_decide_eq_true m2, c⟩
  · obtain ⟨t', ht', rfl⟩ := List.mem_map.mp ht
    obtain ⟨m1, m2⟩ := List.mem_filter.mp ht'
    exact fun ⟨c1, c2⟩ => h4 t' m1 ⟨of_decide_eq_true m2, c1, c2⟩
def NoB (p : Prob) (pl : List Nat) (x : Nat) (pre : List (Nat × Nat)) : Prop := ∀ t ∈ pre, ¬ (t.2 = x ∧ wAt p.items t.1 = some .must ∧ t.1 ∉ pl) ∧ ¬ (t.1 = x ∧ t.2 ∈ pl)
def NoZ (pl : List Nat) (x : Nat) (pre : List (Nat × Nat × Nat)) : Prop := ∀ t ∈ pre, ¬ (t.2.2 = x ∧ t.1 ∈ pl ∧ t.2.1 ∉ pl)
/-- a dict of truths knows just these -/
def Knows (kds : List (Key × D)) (pl : List Nat) : Prop := ∀ i : Nat, (valD kds (.inl (i : Int))).isSome = decide (i ∈ pl)
theorem Knows.nil : Knows [] [] := fun i => by simp [valD]
theorem Knows.put {kds : List (Key × D)} {pl : List Nat} (h : Knows kds pl) {j : Nat} {x : D} : Knows (putD kds (.inl (j : Int)) x) (pl ++ [j]) := fun i => by
  rw [valD_put]
  by_cases e : i = j
  · subst e
    simp
  · have e' : ¬ (Sum.inl (i : Int) : Key) = .inl (j : Int) := fun z => e (by injection z with z; omega)
    rw [if_neg e', h i]
    simp [e]
section
variable {S : Store} {n : Nat} {kds : List (Key × D)} {P : Kn D}
theorem wc_inDA (h : S[n]? = some (.dct kds)) {i : Int} : wp (cmpD .In (.int i) (.adr n)) S P = P (.bl (valD kds (.inl i)).isSome) S := by
  have e1 : dctO S (.adr n) = some kds := by show (match S[n]? with | some (.dct kds) => some kds | _ => none) = _; rw [h]
  have e : inO S (.int i) (.adr n) = some (valD kds (.inl i)).isSome := by
    rw [inO_k (k := .inl i) rfl]
    unfold inO0
    rw [e1]
    rfl
  rw [wc]
  show ozk ((inO S (.int i) (.adr n)).map D.bl) S P = _
  rw [e]
  rfl
theorem wc_ninDA (h : S[n]? = some (.dct kds)) {i : Int} : wp (cmpD .NotIn (.int i) (.adr n)) S P = P (.bl (!(valD kds (.inl i)).isSome)) S := by
  have e1 : dctO S (.adr n) = some kds := by show (match S[n]? with | some (.dct kds) => some kds | _ => none) = _; rw [h]
  have e : inO S (.int i) (.adr n) = some (valD kds (.inl i)).isSome := by
    rw [inO_k (k := .inl i) rfl]
    unfold inO0
    rw [e1]
    rfl
  rw [wc]
  show ozk (((inO S (.int i) (.adr n)).map (!·)).map D.bl) S P = _
  rw [e]
  rfl
end
theorem kLc_at {T : TabT} {m : Bool} {t : Tg} {c e : Ex} {ρ : DEnv} {S : Store} {k : Kn D} {n : Nat} {ds : List D} (hn : S[n]? = some (.lst ds)) (f : D → Option D) (hl : ds.length ≤ 1000000)
    (ht : ∀ x ∈ ds, wp (turnM t (ev T c) (ev T e) ρ (.one x)) S fun o S' => o = f x ∧ S' = S) (hk : wp (fin m (ds.filterMap f)) S k) : kLc1 T m t c e ρ k (.ref n) S := by
  refine kLc_ref hn (fun r acc S' => S' = S ∧ ∃ pre, ds = pre ++ r ∧ acc = pre.filterMap f) hl ?_ ?_ ⟨rfl, [], rfl, rfl⟩
  · intro x r acc S1 hI h1
    refine Hide.h ?_
    obtain ⟨rfl, pre, e, rfl⟩ := hI
    refine ⟨?_⟩
    refine wp_mono (ht x (by rw [e]; simp)) ?_
    rintro o S2 ⟨rfl, rfl⟩
    have hp : (pre.filterMap f).length < 1000000 := by
      have h2 := List.length_filterMap_le f pre
      have h3 := congrArg List.length e
      simp at h3
      omega
    cases hx : f x with
    | none => exact ⟨hn, rfl, pre ++ [x], by rw [e]; simp, by rw [List.filterMap_append]; simp [hx]⟩
    | some y => exact ⟨hp, hn, rfl, pre ++ [x], by rw [e]; simp, by rw [List.filterMap_append]; simp [hx]⟩
  · intro acc S1 hI
    refine Hide.h ?_
    obtain ⟨rfl, pre, e, rfl⟩ := hI
    rw [List.append_nil] at e
    subst e
    exact ⟨hk⟩
def knF (kds : List (Key × D)) : D → Option D
  | .int i => some (.bl (valD kds (.inl i)).isSome)
  | _ => none
theorem knF_nats {kds : List (Key × D)} {pl : List Nat} (kn : Knows kds pl) : ∀ l : List Nat, (natsD l).filterMap (knF kds) = l.map fun i => D.bl (decide (i ∈ pl))
  | [] => rfl
  | i :: l => by
    show List.filterMap (knF kds) (D.int (i : Int) :: natsD l) = _
    have e : knF kds (.int (i : Int)) = some (.bl (decide (i ∈ pl))) := by
      show some (D.bl (valD kds (.inl (i : Int))).isSome) = _
      rw [kn i]
    rw [List.filterMap_cons_some e, knF_nats kn l]; rfl
def knG (kds : List (Key × D)) : D → Option D
  | .tup [.int i, .int j] => some (.bl ((valD kds (.inl i)).isSome && !(valD kds (.inl j)).isSome))
  | _ => none
theorem knG_prs {kds : List (Key × D)} {pl : List Nat} (kn : Knows kds pl) : ∀ l : List (Nat × Nat), (l.map Mo.prD).filterMap (knG kds) = l.map fun t => D.bl (decide (t.1 ∈ pl ∧ t.2 ∉ pl))
  | [] => rfl
  | t :: l => by
    have e : knG kds (Mo.prD t) = some (.bl (decide (t.1 ∈ pl ∧ t.2 ∉ pl))) := by
      show some (D.bl ((valD kds (.inl (t.1 : Int))).isSome && !(valD kds (.inl (t.2 : Int))).isSome)) = _
      rw [kn t.1, kn t.2]
      simp
    rw [List.map_cons, List.filterMap_cons_some e, knG_prs kn l]; rfl
theorem any_nats {x : Nat} : ∀ {l : List Nat}, ((natsD l).any fun d => eqD d (.int (x : Int))) = decide (x ∈ l)
  | [] => rfl
  | y :: l => by
    show (eqD (.int (y : Int)) (.int (x : Int)) || (natsD l).any fun d => eqD d (.int (x : Int))) = _
    rw [any_nats]
    have e : eqD (.int (y : Int)) (.int (x : Int)) = decide (x = y) := by
      unfold eqD
      by_cases c : x = y
      · subst c; simp
      · have c' : ¬ (y : Int) = x := by omega
        simp [c, c']
    rw [e]
    simp
@[simp] theorem okDs_nats {n : Nat} {l : List Nat} : okDs n (natsD l) = true := okDs_map fun _ _ => okD_int
section
variable {S : Store} {n : Nat} {ds : List D} {b : D} {P : Kn D}
theorem py_adr (h : S[n]? = some (.lst ds)) : py S (.adr n) = py S (.lst ds) := by
  show (match S[n]? with | some (.lst ds) => _ | _ => _) = _
  rw [h]
  rfl
theorem wc_ne_adr (h : S[n]? = some (.lst ds)) : wp (cmpD .NotEq (.adr n) b) S P = wp (cmpD .NotEq (.lst ds) b) S P := by
  have e : eqO S (.adr n) b = eqO S (.lst ds) b := by unfold eqO; rw [py_adr h]
  rw [wc, wc]
  show ozk (((eqO S (.adr n) b).map (!·)).map D.bl) S P = ozk (((eqO S (.lst ds) b).map (!·)).map D.bl) S P
  rw [e]
theorem wc_eq_adr (h : S[n]? = some (.lst ds)) : wp (cmpD .Eq (.adr n) b) S P = wp (cmpD .Eq (.lst ds) b) S P := by
  have d1 : dctO S (.adr n) = none := by show (match S[n]? with | some (.dct kds) => some kds | _ => none) = _; rw [h]
  have e : eqX S (.adr n) b = eqX S (.lst ds) b := by
    have e : eqO S (.adr n) b = eqO S (.lst ds) b := by unfold eqO; rw [py_adr h]
    unfold eqX
    rw [e, d1]
    rfl
  rw [wc, wc]
  show ozk ((eqX S (.adr n) b).map D.bl) S P = ozk ((eqX S (.lst ds) b).map D.bl) S P
  rw [e]
theorem wm_clear (h : S[n]? = some (.lst ds)) : wp (meD .clear (.adr n) []) S P = P .non (S.set n (.lst [])) := by
  have e : meD .clear (.adr n) [] S = .ok .non (S.set n (.lst [])) := by
    unfold meD
    simp only [h]
  rw [wp_ok e]
@[simp ↓] theorem wo_rev {m : Bool} : wp (op1D .rev m (.lst ds)) S P = wp (fin m ds.reverse) S P := (rfl)
theorem nats_rev {l : List Nat} : (natsD l).reverse = natsD l.reverse := by unfold natsD; rw [List.map_reverse]
theorem eqD_nats {l : List Nat} : eqDs (natsD l) (natsD l) = true := (eqDs_iff _ _ (noBls_all.mpr fun d hd => by obtain ⟨i, _, rfl⟩ := List.mem_map.mp hd; rfl) (noBls_all.mpr fun d hd => by obtain ⟨i, _, rfl⟩ := List.mem_map.mp hd; rfl)).mpr rfl
end
theorem may_rev {p : Prob} {pl : List Nat} {x : Nat} : mayT p pl.reverse x = mayT p pl x := by
  unfold mayT
  simp only [List.mem_reverse]
theorem nats_def {l : List Nat} : (l.map fun i : Nat => D.int (i : Int)) = natsD l := rfl
end CI.Mo

/-! Rows of any make: a tuple, a frozen list, a list of the store. -/
namespace CI.Mo
open PySem PySem.Spec PyProof.Rows L2 CI
/-- x is a list with these things -/
def LsAt (S : Store) (x : D) (ds : List D) : Prop := x = .lst ds ∨ ∃ n, x = .adr n ∧ S[n]? = some (.lst ds)
/-- .. or a tuple -/
def SqAt (S : Store) (x : D) (ds : List D) : Prop := x = .tup ds ∨ LsAt S x ds
theorem LsAt.f {S : Store} {ds : List D} : LsAt S (.lst ds) ds := .inl rfl
theorem LsAt.a {S : Store} {ds : List D} {n : Nat} (h : S[n]? = some (.lst ds)) : LsAt S (.adr n) ds := .inr ⟨n, rfl, h⟩
theorem LsAt.sq {S : Store} {x : D} {ds : List D} (h : LsAt S x ds) : SqAt S x ds := .inr h
theorem SqAt.t {S : Store} {ds : List D} : SqAt S (.tup ds) ds := .inl rfl
theorem LsAt.keep {S S' : Store} {x : D} {ds : List D} (h : LsAt S x ds) (k : Keep [] S S') : LsAt S' x ds := by
  rcases h with h | ⟨n, h, e⟩
  · exact .inl h
  · exact .inr ⟨n, h, k.get e (by simp)⟩
theorem LsAt.keepG {S S' : Store} {x : D} {ds : List D} {ns : List Nat} (h : LsAt S x ds) (k : Keep ns S S') (hn : ∀ n, x = .adr n → n ∉ ns) : LsAt S' x ds := by
  rcases h with h | ⟨n, h, e⟩
  · exact .inl h
  · exact .inr ⟨n, h, k.get e (hn n h)⟩
theorem SqAt.keep {S S' : Store} {x : D} {ds : List D} (h : SqAt S x ds) (k : Keep [] S S') : SqAt S' x ds := by
  rcases h with h | h
  · exact .inl h
  · exact .inr (h.keep k)
theorem SqAt.keepG {S S' : Store} {x : D} {ds : List D} {ns : List Nat} (h : SqAt S x ds) (k : Keep ns S S') (hn : ∀ n, x = .adr n → n ∉ ns) : SqAt S' x ds := by
  rcases h with h | h
  · exact .inl h
  · exact .inr (h.keepG k hn)
section
variable {S : Store} {P : Kn D} {m : Bool} {x y : D} {ds es : List D} {T : TabT} {t : Tg} {b : Stms} {ρ : DEnv} {kf : Kn Fl} {c e : Ex} {k : Kn D}
theorem LsAt.lst (h : LsAt S x ds) : lstO S x = some ds := by
  rcases h with rfl | ⟨n, rfl, e⟩
  · rfl
  · unfold lstO; simp only [e]
theorem LsAt.seq (h : LsAt S x ds) : seqO S x = some ds := by
  rcases h with rfl | ⟨n, rfl, e⟩
  · rfl
  · unfold seqO lstO; simp only [e]
theorem SqAt.seq (h : SqAt S x ds) : seqO S x = some ds := by
  rcases h with rfl | h
  · rfl
  · exact h.seq
theorem LsAt.dct (h : LsAt S x ds) : dctO S x = none := by
  rcases h with rfl | ⟨n, rfl, e⟩
  · rfl
  · unfold dctO; simp only [e]
theorem SqAt.dct (h : SqAt S x ds) : dctO S x = none := by
  rcases h with rfl | h
  · rfl
  · exact h.dct
theorem wn_lenQ (h : SqAt S x ds) : wp (biD m .len [x]) S P = P (.int ds.length) S := by
  rcases h with rfl | rfl | ⟨n, rfl, e⟩
  · rw [wn_tup]
  · rw [wn_lst]
  · rw [wn_adr e]
theorem wi_Q (h : SqAt S x ds) {i : Int} : wp (ixD x (.int i)) S P = ozk (atI ds i) S P := by
  rcases h with rfl | rfl | ⟨n, rfl, e⟩
  · rw [wi_tup]
  · rw [wi_lst]
  · rw [wi_adr e]
theorem ws_L (h : LsAt S x ds) {lo hi : Option Int} : wp (slD m x lo hi) S P = wp (fin m (cutD ds lo hi)) S P := by
  rcases h with rfl | ⟨n, rfl, e⟩
  · rw [ws_lst]
  · rw [ws_adr e]
theorem wn_tupleQ (h : SqAt S x ds) : wp (biD m .tuple [x]) S P = P (.tup ds) S := by
  rcases h with rfl | rfl | ⟨n, rfl, e⟩
  · rw [wn_tupleT]
  · rw [wn_tupleL]
  · rw [wn_tupleA e]
theorem wn_listQ (h : SqAt S x ds) : wp (biD m .list [x]) S P = wp (fin m ds) S P := by
  rcases h with rfl | rfl | ⟨n, rfl, e⟩
  · rw [wn_listT]
  · rw [wn_listL]
  · rw [wn_listA e]
theorem wb_addLL (hx : LsAt S x ds) (hy : LsAt S y es) : wp (binD m .Add x y) S P = if ds.length + es.length ≤ big then wp (fin m (ds ++ es)) S P else False := by
  have e : binD m .Add x y = lstCat m x y := by
    rcases hx with rfl | ⟨n, rfl, e⟩ <;> rcases hy with rfl | ⟨n', rfl, e'⟩ <;> rfl
  rw [e, wb_lstCat hx.lst hy.lst]
theorem rcv_L (h : LsAt S x ds) : rcvO .list S x = true := by
  show (lstO S x).isSome = true
  rw [h.lst]; rfl
theorem tyO_L (h : LsAt S x ds) : tyO S x = some "list" := by
  rcases h with rfl | ⟨n, rfl, e⟩
  · rfl
  · exact tyO_adr e
theorem py_L (h : LsAt S x ds) : py S x = py S (.lst ds) := by
  rcases h with rfl | ⟨n, rfl, e⟩
  · rfl
  · exact py_adr e
/-- x in a row whose things are simple data -/
theorem inO_Q (h : SqAt S y ds) (ha : okD 63 x = true) (hd : okDs 63 ds = true) : inO S x y = some (ds.any fun d => eqD d x) := by
  rcases h with rfl | h
  · exact (inO_ok ha hd).1
  · have e := (inO_ok (S := S) ha hd).2
    rw [inO_c (dcnO_seq h.seq)]
    rw [inO_c (S := S) (x := x) (c := .lst ds) rfl] at e
    unfold inO0 at e ⊢
    rw [h.dct]
    have d0 : dctO S (.lst ds) = none := rfl
    rw [d0] at e
    have s0 : seqO S (.lst ds) = some ds := rfl
    simp only [s0] at e
    simp only [h.seq]
    have t1 : tupO y = none := by rcases h with rfl | ⟨n, rfl, _⟩ <;> rfl
    have t2 : tupO (.lst ds) = none := rfl
    rw [t1]
    rw [t2] at e
    exact e
theorem wc_inQ (h : SqAt S y ds) (ha : okD 63 x = true) (hd : okDs 63 ds = true) : wp (cmpD .In x y) S P = P (.bl (ds.any fun d => eqD d x)) S := by
  rw [wc]
  show ozk ((inO S x y).map D.bl) S P = _
  rw [inO_Q h ha hd]; rfl
theorem wc_ninQ (h : SqAt S y ds) (ha : okD 63 x = true) (hd : okDs 63 ds = true) : wp (cmpD .NotIn x y) S P = P (.bl (!ds.any fun d => eqD d x)) S := by
  rw [wc]
  show ozk (((inO S x y).map (!·)).map D.bl) S P = _
  rw [inO_Q h ha hd]; rfl
theorem eqX_L (h : LsAt S x ds) : eqX S x y = eqX S (.lst ds) y := by
  have d1 : dctO S (.lst ds) = none := rfl
  unfold eqX eqO
  rw [py_L h, h.dct, d1]
theorem wc_eqL (h : LsAt S x ds) : wp (cmpD .Eq x y) S P = wp (cmpD .Eq (.lst ds) y) S P := by
  rw [wc, wc]
  show ozk ((eqX S x y).map D.bl) S P = ozk ((eqX S (.lst ds) y).map D.bl) S P
  rw [eqX_L h]
theorem wc_neL (h : LsAt S x ds) : wp (cmpD .NotEq x y) S P = wp (cmpD .NotEq (.lst ds) y) S P := by
  rw [wc, wc]
  show ozk (((eqO S x y).map (!·)).map D.bl) S P = ozk (((eqO S (.lst ds) y).map (!·)).map D.bl) S P
  unfold eqO
  rw [py_L h]
theorem wc_eqLr (h : LsAt S y ds) (hx : dctO S x = none) : wp (cmpD .Eq x y) S P = wp (cmpD .Eq x (.lst ds)) S P := by
  rw [wc, wc]
  show ozk ((eqX S x y).map D.bl) S P = ozk ((eqX S x (.lst ds)).map D.bl) S P
  unfold eqX eqO
  rw [py_L h, hx]
  have n : ∀ z : D, ((none : Option (List (Key × D))).isSome = true ∧ (tupO z).isSome = true) = False := by simp
  simp [n]
theorem wc_neLr (h : LsAt S y ds) : wp (cmpD .NotEq x y) S P = wp (cmpD .NotEq x (.lst ds)) S P := by
  rw [wc, wc]
  show ozk (((eqO S x y).map (!·)).map D.bl) S P = ozk (((eqO S x (.lst ds)).map (!·)).map D.bl) S P
  unfold eqO
  rw [py_L h]
/-- for over a row; the row itself stays -/
theorem kFor_Q (h : SqAt S x ds) (I : List D → DEnv → Store → Prop) (hl : ds.length ≤ 1000000)
    (step : ∀ a r ρ S, I (a :: r) ρ S → SqAt S x ds → wp (turnS t (exSs T b) (.one a) ρ) S (kTurn (fun ρ' S' => SqAt S' x ds ∧ I r ρ' S') kf)) (fin : ∀ ρ S, I [] ρ S → SqAt S x ds → kf (.nx ρ) S)
    (h0 : I ds ρ S) : ozk (srcO S x) S (kFor T t b ρ kf) := by
  rcases h with rfl | rfl | ⟨n, rfl, e⟩
  · rw [srcO_tup, ozk_some, kFor_]
    refine wp_forM Itm.one I (fun a r ρ S hI => ?_) (fun ρ S hI => fin ρ S hI SqAt.t) h0
    refine wp_mono (step a r ρ S hI SqAt.t) fun fl S' q => ?_
    cases fl <;> first | exact q.2 | exact q
  · rw [srcO_lst, ozk_some, kFor_]
    refine wp_forM Itm.one I (fun a r ρ S hI => ?_) (fun ρ S hI => fin ρ S hI (.inr .f)) h0
    refine wp_mono (step a r ρ S hI (.inr .f)) fun fl S' q => ?_
    cases fl <;> first | exact q.2 | exact q
  · rw [srcO_adr e, ozk_some]
    have conv : ∀ S', SqAt S' (.adr n) ds → S'[n]? = some (.lst ds) := fun S' q => by
      rcases q with q | q | ⟨n', q, e⟩
      · cases q
      · cases q
      · cases q; exact e
    refine kFor_ref e (fun r ρ S => S[n]? = some (.lst ds) ∧ I r ρ S) hl (fun a r ρ S hI h1 => ?_) (fun ρ S hI => fin ρ S hI.2 (.inr (.a hI.1))) ⟨e, h0⟩
    refine wp_mono (step a r ρ S hI.2 (.inr (.a h1))) fun fl S' q => ?_
    cases fl with
    | nx ρ' => exact ⟨conv _ q.1, conv _ q.1, q.2⟩
    | ct ρ' => exact ⟨conv _ q.1, conv _ q.1, q.2⟩
    | bk ρ' => exact q
    | rt d => exact q
/-- a comprehension over a row, at this store -/
theorem kLc_Q (h : SqAt S x ds) (f : D → Option D) (hl : ds.length ≤ 1000000)
    (ht : ∀ z ∈ ds, wp (turnM t (ev T c) (ev T e) ρ (.one z)) S fun o S' => o = f z ∧ S' = S) (hk : wp (CI.fin m (ds.filterMap f)) S k) : ozk (srcO S x) S (kLc1 T m t c e ρ k) := by
  rcases h with rfl | rfl | ⟨n, rfl, e⟩
  · rw [srcO_tup, ozk_some, kLc1_]
    refine comp_at (g := Itm.one) f ht (by simpa using hl) ?_
    rw [List.nil_append, kLc2_]; exact hk
  · rw [srcO_lst, ozk_some, kLc1_]
    refine comp_at (g := Itm.one) f ht (by simpa using hl) ?_
    rw [List.nil_append, kLc2_]; exact hk
  · rw [srcO_adr e, ozk_some]
    exact kLc_at e f hl ht hk
end
/-! ### enumerate of a row -/
theorem at_eref {n i : Nat} {S : Store} {ds : List D} (h : S[n]? = some (.lst ds)) : (Src.eref n).at S i = some (ds[i]?.map fun d => .pair (.int (i : Nat)) d) := by
  unfold Src.at
  simp only [h]
theorem forE_go {turn : Itm → DEnv → M Fl} {kf : Kn Fl} {n : Nat} {ds : List D} (I : Nat → List D → DEnv → Store → Prop)
    (step : ∀ i a r ρ S, I i (a :: r) ρ S → S[n]? = some (.lst ds) → wp (turn (.pair (.int (i : Nat)) a) ρ) S (kTurn (fun ρ' S' => S'[n]? = some (.lst ds) ∧ I (i + 1) r ρ' S') kf)) (fin : ∀ i ρ S, I i [] ρ S → S[n]? = some (.lst ds) → kf (.nx ρ) S) :
    ∀ (r : List D) (f i : Nat) (ρ : DEnv) (S : Store), r.length < f → ds.drop i = r → I i r ρ S → S[n]? = some (.lst ds) → wp (forS (.eref n) turn f i ρ) S kf
  | _, 0, i, ρ, S, hf, e, h, hn => absurd hf (by omega)
  | [], f + 1, i, ρ, S, hf, e, h, hn => by
    have e1 : forS (.eref n) turn (f + 1) i ρ S = .ok (.nx ρ) S := by
      unfold forS
      rw [at_eref hn, List.getElem?_eq_none (by have := congrArg List.length e; simp at this; omega)]
      rfl
    rw [wp_ok e1]
    exact fin i ρ S h hn
  | a :: r, f + 1, i, ρ, S, hf, e, h, hn => by
    have ea : ds[i]? = some a := by
      have := congrArg (·[0]?) e
      simpa using this
    have er : ds.drop (i + 1) = r := by
      have := congrArg (List.drop 1) e
      simpa using this
    have e1 : forS (.eref n) turn (f + 1) i ρ S = bnd (turn (.pair (.int (i : Nat)) a) ρ) (loopF (forS (.eref n) turn f (i + 1))) S := by
      conv => lhs; unfold forS
      rw [at_eref hn, ea]
      rfl
    have e2 : wp (forS (.eref n) turn (f + 1) i ρ) S kf = wp (bnd (turn (.pair (.int (i : Nat)) a) ρ) (loopF (forS (.eref n) turn f (i + 1)))) S kf := by unfold wp; rw [e1]
    rw [e2, wp_bnd]
    refine wp_mono (step i a r ρ S h hn) fun fl S' q => ?_
    have on : ∀ ρ', (S'[n]? = some (.lst ds) ∧ I (i + 1) r ρ' S') → wp (forS (.eref n) turn f (i + 1) ρ') S' kf := fun ρ' q => forE_go I step fin r f (i + 1) ρ' S' (by simp at hf; omega) er q.2 q.1
    cases fl with
    | nx ρ' => exact on ρ' q
    | ct ρ' => exact on ρ' q
    | bk ρ' => exact q
    | rt d => exact q
section
variable {S : Store} {m : Bool} {x : D} {ds : List D} {T : TabT} {t : Tg} {b : Stms} {ρ : DEnv} {kf : Kn Fl}
theorem forN_go {turn : Itm → DEnv → M Fl} (I : Nat → List D → DEnv → Store → Prop)
    (step : ∀ i a r ρ S, I i (a :: r) ρ S → wp (turn (.pair (.int (i : Nat)) a) ρ) S (kTurn (fun ρ' S' => I (i + 1) r ρ' S') kf)) (fin : ∀ i ρ S, I i [] ρ S → kf (.nx ρ) S) :
    ∀ (r : List D) (i : Nat) (ρ : DEnv) (S : Store), I i r ρ S → wp (forV turn (enumI i r) ρ) S kf
  | [], i, ρ, S, h => by
    rw [enumI, wp_forV_nil]
    exact fin i ρ S h
  | a :: r, i, ρ, S, h => by
    rw [enumI, wp_forV_cons]
    refine wp_mono (step i a r ρ S h) fun fl S' q => ?_
    cases fl with
    | nx ρ' => exact forN_go I step fin r (i + 1) ρ' S' q
    | ct ρ' => exact forN_go I step fin r (i + 1) ρ' S' q
    | bk ρ' => exact q
    | rt d => exact q
/-- for i, a in enumerate(row) -/
theorem kEn_Q (h : SqAt S x ds) (I : Nat → List D → DEnv → Store → Prop) (hl : ds.length ≤ 1000000)
    (step : ∀ i a r ρ S, I i (a :: r) ρ S → SqAt S x ds → wp (turnS t (exSs T b) (.pair (.int (i : Nat)) a) ρ) S (kTurn (fun ρ' S' => SqAt S' x ds ∧ I (i + 1) r ρ' S') kf)) (fin : ∀ i ρ S, I i [] ρ S → SqAt S x ds → kf (.nx ρ) S)
    (h0 : I 0 ds ρ S) : ozk (enumO S x) S (kFor T t b ρ kf) := by
  rcases h with rfl | rfl | ⟨n, rfl, e⟩
  · rw [enumO_tup, ozk_some, kFor_]
    refine forN_go I (fun i a r ρ S hI => ?_) (fun i ρ S hI => fin i ρ S hI SqAt.t) ds 0 ρ S h0
    refine wp_mono (step i a r ρ S hI SqAt.t) fun fl S' q => ?_
    cases fl <;> first | exact q.2 | exact q
  · rw [enumO_lst, ozk_some, kFor_]
    refine forN_go I (fun i a r ρ S hI => ?_) (fun i ρ S hI => fin i ρ S hI (.inr .f)) ds 0 ρ S h0
    refine wp_mono (step i a r ρ S hI (.inr .f)) fun fl S' q => ?_
    cases fl <;> first | exact q.2 | exact q
  · have ee : enumO S (.adr n) = some (.eref n) := by unfold enumO; simp only [e]
    rw [ee, ozk_some]
    have conv : ∀ S', SqAt S' (.adr n) ds → S'[n]? = some (.lst ds) := fun S' q => by
      rcases q with q | q | ⟨n', q, e⟩
      · cases q
      · cases q
      · cases q; exact e
    show wp (forS (.eref n) (turnS t (exSs T b)) (big + 2) 0 ρ) S kf
    refine forE_go I (fun i a r ρ S hI h1 => ?_) (fun i ρ S hI h1 => fin i ρ S hI (.inr (.a h1))) ds (big + 2) 0 ρ S (by unfold big; omega) rfl h0 e
    refine wp_mono (step i a r ρ S hI (.inr (.a h1))) fun fl S' q => ?_
    cases fl with
    | nx ρ' => exact ⟨conv _ q.1, q.2⟩
    | ct ρ' => exact ⟨conv _ q.1, q.2⟩
    | bk ρ' => exact q
    | rt d => exact q
end
end CI.Mo
namespace CI.Mo
open PySem PySem.Spec PyProof.Rows L2 CI
/-- .. each turn tells one thing or none; what is new in the store does not matter -/
theorem comp_keep {α : Type} {turn : Itm → M (Option D)} {g : α → Itm} {Ps : Kn (List D)} (f : α → Option D) : ∀ {l : List α} {acc : List D} {S : Store}, (∀ a ∈ l, ∀ S1, Keep [] S S1 → wp (turn (g a)) S1 fun o S' => o = f a ∧ Keep [] S1 S') → acc.length + l.length ≤ 1000000 → (∀ S', Keep [] S S' → Ps (acc ++ l.filterMap f) S') → wp (lcV turn (l.map g) acc) S Ps
  | [], acc, S, h, z, k => by
    have := k S Keep.refl
    rw [List.filterMap_nil, List.append_nil] at this
    exact this
  | a :: r, acc, S, h, z, k => by
    rw [List.length_cons] at z
    rw [List.map_cons, wp_lcV_cons]
    refine wp_mono (h a (List.mem_cons_self ..) S Keep.refl) fun o S' ⟨e1, k1⟩ => ?_
    subst e1
    cases q : f a with
    | none =>
      refine comp_keep f (fun b hm S1 k2 => h b (List.mem_cons_of_mem _ hm) S1 (k1.trans k2)) (by omega) fun S2 k2 => ?_
      have := k S2 (k1.trans k2)
      rwa [List.filterMap_cons_none q] at this
    | some d =>
      rw [kLv_s, if_pos (by simp; omega)]
      refine comp_keep f (fun b hm S1 k2 => h b (List.mem_cons_of_mem _ hm) S1 (k1.trans k2)) (by rw [List.length_append, List.length_singleton]; omega) fun S2 k2 => ?_
      have := k S2 (k1.trans k2)
      rw [List.filterMap_cons_some q] at this
      rw [List.append_assoc]; exact this
end CI.Mo
namespace CI.Mo
open CI
/-- the statement at a place -/
def getS : Nat → Stms → Stm
  | _, .nil => .pass
  | 0, .cons s _ => s
  | n + 1, .cons _ r => getS n r
/-- the else way of an if -/
def elseS : Stm → Stms
  | .ite _ _ b => b
  | _ => .nil
def thenS : Stm → Stms
  | .ite _ a _ => a
  | _ => .nil
def loopB : Stm → Stms
  | .for_ _ _ b => b
  | .whl _ b => b
  | _ => .nil
theorem fm_map {α β : Type} (f : α → β) : ∀ l : List α, l.filterMap (fun a => some (f a)) = l.map f
  | [] => rfl
  | a :: l => by simp [fm_map f l]
theorem bools_map {α : Type} {f : α → Bool} : ∀ xs : List α, boolsO (xs.map fun x => D.bl (f x)) = some (xs.map f)
  | [] => rfl
  | c :: cs => by rw [List.map_cons, List.map_cons]; show (boolsO _).map _ = _; rw [bools_map cs]; rfl
theorem loopB_for {t : Tg} {s : Sx} {b : Stms} : loopB (.for_ t s b) = b := (rfl)
theorem loopB_whl {c : Ex} {b : Stms} : loopB (.whl c b) = b := (rfl)
theorem elseS_ite {c : Ex} {a b : Stms} : elseS (.ite c a b) = b := (rfl)
theorem thenS_ite {c : Ex} {a b : Stms} : thenS (.ite c a b) = a := (rfl)
end CI.Mo

namespace CI.Lw
open PySem PySem.Spec PyProof.Rows L2 CI
def topS (i : Nat) : Stmt := PySem.Challenge.pw_storejudge_k52_what_implies_what.main.body.getD i (.Pass ⟨0, 0, 0, 0⟩)
def names : Names := ⟨[((Str.ofString "_law_cell_at"), 14, 2), ((Str.ofString "_law_drawn"), 38, 2), ((Str.ofString "_law_due"), 40, 2), ((Str.ofString "implies"), 265, 2), ((Str.ofString "_law_refused"), 77, 2), ((Str.ofString "law"), 21, 1)], [((Str.ofString "PROMISES"), (.tup [(.str (Str.ofString "real")), (.str (Str.ofString "row")), (.str (Str.ofString "any")), (.str (Str.ofString "snap")), (.str (Str.ofString "stand")), (.str (Str.ofString "hand")), (.str (Str.ofString "thing")), (.str (Str.ofString "kept"))]))], [(Str.ofString "bool"), (Str.ofString "isinstance"), (Str.ofString "len"), (Str.ofString "max"), (Str.ofString "min"), (Str.ofString "range")], [], [], [], [], [((Str.ofString "JudgeError"), [(Str.ofString "NoPromise")]), ((Str.ofString "NoHistory"), []), ((Str.ofString "NoLine"), []), ((Str.ofString "NoProblem"), []), ((Str.ofString "NoPromise"), [(Str.ofString "NoPromise")]), ((Str.ofString "ValueError"), [(Str.ofString "NoPromise")]), ((Str.ofString "NoStore"), []), ((Str.ofString "NoText"), [])], [(Str.ofString "NoPromise")], [], [((Str.ofString "WEAKER"), [((Str.ofString "real"), (.tup [(.str (Str.ofString "real")), (.str (Str.ofString "row")), (.str (Str.ofString "any")), (.str (Str.ofString "snap")), (.str (Str.ofString "stand")), (.str (Str.ofString "hand")), (.str (Str.ofString "thing")), (.str (Str.ofString "kept"))])), ((Str.ofString "row"), (.tup [(.str (Str.ofString "row")), (.str (Str.ofString "any")), (.str (Str.ofString "snap")), (.str (Str.ofString "stand")), (.str (Str.ofString "hand")), (.str (Str.ofString "kept"))])), ((Str.ofString "any"), (.tup [(.str (Str.ofString "any")), (.str (Str.ofString "snap")), (.str (Str.ofString "stand")), (.str (Str.ofString "kept"))])), ((Str.ofString "snap"), (.tup [(.str (Str.ofString "snap")), (.str (Str.ofString "stand")), (.str (Str.ofString "kept"))])), ((Str.ofString "stand"), (.tup [(.str (Str.ofString "stand"))])), ((Str.ofString "hand"), (.tup [(.str (Str.ofString "hand"))])), ((Str.ofString "thing"), (.tup [(.str (Str.ofString "thing")), (.str (Str.ofString "kept"))])), ((Str.ofString "kept"), (.tup [(.str (Str.ofString "kept"))]))])]⟩
abbrev s__law_cell_at : Stmt := topS 13
abbrev N__law_cell_at : List Str := ["_law_script", "_law_k"]
abbrev p__law_cell_at : List Str := ["_law_script", "_law_k"]
abbrev s__law_drawn : Stmt := topS 14
abbrev N__law_drawn : List Str := ["_law_cell", "_law_k", "_law_digits", "_law_number"]
abbrev p__law_drawn : List Str := ["_law_cell", "_law_k"]
abbrev s__law_due : Stmt := topS 15
abbrev N__law_due : List Str := ["_law_strong", "_law_weak", "_law_rows"]
abbrev p__law_due : List Str := ["_law_strong", "_law_weak"]
abbrev s_implies : Stmt := topS 11
abbrev N_implies : List Str := ["strong", "weak", "promise"]
abbrev p_implies : List Str := ["strong", "weak"]
abbrev s__law_refused : Stmt := topS 16
abbrev N__law_refused : List Str := ["_law_strong", "_law_weak", "_law_right", "e", "_law_others"]
abbrev p__law_refused : List Str := ["_law_strong", "_law_weak"]
abbrev s_law : Stmt := topS 17
abbrev N_law : List Str := ["_law_script", "_law_k", "_law_draw", "_law_strong", "_law_weak", "_law_told", "_law_wrong"]
abbrev p_law : List Str := ["_law_script"]
def b__law_cell_at : Stms := (.cons (.ite (.cmp .Lt (.var 1) (.bi false .len (.cons (.var 0) .nil))) (.cons (.ret (.ix (.var 0) (.var 1)))
    .nil) .nil)
    (.cons (.ret (.con (.int (0))))
    .nil))
theorem t__law_cell_at : trSs (names.tc N__law_cell_at (defScope s__law_cell_at)) 400 (defBody s__law_cell_at) = some b__law_cell_at := by kernel_rfl
theorem sc__law_cell_at : FnScope N__law_cell_at p__law_cell_at (defScope s__law_cell_at) := ⟨rfl, rfl, rfl, by decide +kernel, rfl, by decide +kernel, by decide +kernel⟩
def df__law_cell_at : Df := ⟨2, 2, b__law_cell_at⟩
def b__law_drawn : Stms := (.cons (.asg (.n 2) (.bin false .RShift (.var 0) (.bin false .Add (.con (.int (1))) (.bin false .Mult (.con (.int (24))) (.bin false .Mod (.var 1) (.con (.int (120))))))))
    (.cons (.ite (.and (.cmp .Eq (.bin false .Mod (.var 0) (.con (.int (2)))) (.con (.int (1)))) (.cmp .Gt (.var 2) (.con (.int (0))))) (.cons (.ret (.bin false .Mod (.var 2) (.bin false .Pow (.con (.int (2))) (.con (.int (24))))))
    .nil) .nil)
    (.cons (.asg (.n 3) (.bin false .Mod (.bin false .Mult (.bin false .Add (.bin false .Add (.bin false .Mod (.bin false .FloorDiv (.var 0) (.con (.int (2)))) (.con (.int (2147483647)))) (.bin false .Mult (.con (.int (7919))) (.var 1))) (.con (.int (1)))) (.con (.int (48271)))) (.con (.int (2147483647)))))
    (.cons (.asg (.n 3) (.bin false .Mod (.bin false .Mult (.var 3) (.bin false .Add (.bin false .FloorDiv (.var 3) (.con (.int (1009)))) (.con (.int (69621))))) (.con (.int (2147483647)))))
    (.cons (.ret (.bin false .Mod (.bin false .Mult (.var 3) (.bin false .Add (.bin false .FloorDiv (.var 3) (.con (.int (2003)))) (.con (.int (40692))))) (.con (.int (2147483399)))))
    .nil)))))
theorem t__law_drawn : trSs (names.tc N__law_drawn (defScope s__law_drawn)) 400 (defBody s__law_drawn) = some b__law_drawn := by kernel_rfl
theorem sc__law_drawn : FnScope N__law_drawn p__law_drawn (defScope s__law_drawn) := ⟨rfl, rfl, rfl, by decide +kernel, rfl, by decide +kernel, by decide +kernel⟩
def df__law_drawn : Df := ⟨4, 2, b__law_drawn⟩
def b__law_due : Stms := (.cons (.asg (.n 2) (.lst false (.cons (.tup (.cons (.con (.str (Str.ofString "row"))) (.cons (.con (.str (Str.ofString "any"))) .nil))) (.cons (.tup (.cons (.con (.str (Str.ofString "row"))) (.cons (.con (.str (Str.ofString "snap"))) .nil))) (.cons (.tup (.cons (.con (.str (Str.ofString "row"))) (.cons (.con (.str (Str.ofString "stand"))) .nil))) (.cons (.tup (.cons (.con (.str (Str.ofString "row"))) (.cons (.con (.str (Str.ofString "hand"))) .nil))) (.cons (.tup (.cons (.con (.str (Str.ofString "row"))) (.cons (.con (.str (Str.ofString "kept"))) .nil))) (.cons (.tup (.cons (.con (.str (Str.ofString "any"))) (.cons (.con (.str (Str.ofString "snap"))) .nil))) .nil))))))))
    (.cons (.asg (.n 2) (.bin false .Add (.var 2) (.lst false (.cons (.tup (.cons (.con (.str (Str.ofString "any"))) (.cons (.con (.str (Str.ofString "stand"))) .nil))) (.cons (.tup (.cons (.con (.str (Str.ofString "any"))) (.cons (.con (.str (Str.ofString "kept"))) .nil))) (.cons (.tup (.cons (.con (.str (Str.ofString "snap"))) (.cons (.con (.str (Str.ofString "stand"))) .nil))) (.cons (.tup (.cons (.con (.str (Str.ofString "snap"))) (.cons (.con (.str (Str.ofString "kept"))) .nil))) (.cons (.tup (.cons (.con (.str (Str.ofString "thing"))) (.cons (.con (.str (Str.ofString "kept"))) .nil))) .nil))))))))
    (.cons (.ret (.or (.cmp .Eq (.var 0) (.var 1)) (.or (.cmp .Eq (.var 0) (.con (.str (Str.ofString "real")))) (.cmp .In (.tup (.cons (.var 0) (.cons (.var 1) .nil))) (.var 2)))))
    .nil)))
theorem t__law_due : trSs (names.tc N__law_due (defScope s__law_due)) 400 (defBody s__law_due) = some b__law_due := by kernel_rfl
theorem sc__law_due : FnScope N__law_due p__law_due (defScope s__law_due) := ⟨rfl, rfl, rfl, by decide +kernel, rfl, by decide +kernel, by decide +kernel⟩
def df__law_due : Df := ⟨3, 2, b__law_due⟩
def b_implies : Stms := (.cons (.for_ (.n 2) (.seq (.lst false (.cons (.var 0) (.cons (.var 1) .nil)))) (.cons (.ite (.cmp .NotIn (.var 2) (.con (.tup [(.str (Str.ofString "real")), (.str (Str.ofString "row")), (.str (Str.ofString "any")), (.str (Str.ofString "snap")), (.str (Str.ofString "stand")), (.str (Str.ofString "hand")), (.str (Str.ofString "thing")), (.str (Str.ofString "kept"))]))) (.cons (.raise (Str.ofString "NoPromise"))
    .nil) .nil)
    .nil))
    (.cons (.ret (.cmp .In (.var 1) (.op1 (.mdi [((Str.ofString "real"), (.tup [(.str (Str.ofString "real")), (.str (Str.ofString "row")), (.str (Str.ofString "any")), (.str (Str.ofString "snap")), (.str (Str.ofString "stand")), (.str (Str.ofString "hand")), (.str (Str.ofString "thing")), (.str (Str.ofString "kept"))])), ((Str.ofString "row"), (.tup [(.str (Str.ofString "row")), (.str (Str.ofString "any")), (.str (Str.ofString "snap")), (.str (Str.ofString "stand")), (.str (Str.ofString "hand")), (.str (Str.ofString "kept"))])), ((Str.ofString "any"), (.tup [(.str (Str.ofString "any")), (.str (Str.ofString "snap")), (.str (Str.ofString "stand")), (.str (Str.ofString "kept"))])), ((Str.ofString "snap"), (.tup [(.str (Str.ofString "snap")), (.str (Str.ofString "stand")), (.str (Str.ofString "kept"))])), ((Str.ofString "stand"), (.tup [(.str (Str.ofString "stand"))])), ((Str.ofString "hand"), (.tup [(.str (Str.ofString "hand"))])), ((Str.ofString "thing"), (.tup [(.str (Str.ofString "thing")), (.str (Str.ofString "kept"))])), ((Str.ofString "kept"), (.tup [(.str (Str.ofString "kept"))]))]) false (.var 0))))
    .nil))
theorem t_implies : trSs (names.tc N_implies (defScope s_implies)) 400 (defBody s_implies) = some b_implies := by kernel_rfl
theorem sc_implies : FnScope N_implies p_implies (defScope s_implies) := ⟨rfl, rfl, rfl, by decide +kernel, rfl, by decide +kernel, by decide +kernel⟩
def df_implies : Df := ⟨3, 2, b_implies⟩
def b__law_refused : Stms := (.cons (.asg (.n 2) (.con (.bl false)))
    (.cons (.try_ (.cons (.expr (.call 265 (.cons (.var 0) (.cons (.var 1) .nil))))
    .nil) (.cons [(Str.ofString "NoPromise")] (some 3) (.cons (.asg (.n 4) (.lst false (.cons (.xis 3 []) (.cons (.xis 3 []) (.cons (.xis 3 []) .nil)))))
    (.cons (.asg (.n 4) (.bin false .Add (.var 4) (.lst false (.cons (.xis 3 []) (.cons (.xis 3 []) .nil)))))
    (.cons (.asg (.n 2) (.and (.xis 3 [(Str.ofString "NoPromise")]) (.and (.xis 3 [(Str.ofString "NoPromise")]) (.cmp .NotIn (.con (.bl true)) (.var 4)))))
    .nil))) .nil))
    (.cons (.ret (.var 2))
    .nil)))
theorem t__law_refused : trSs (names.tc N__law_refused (defScope s__law_refused)) 400 (defBody s__law_refused) = some b__law_refused := by kernel_rfl
theorem sc__law_refused : FnScope N__law_refused p__law_refused (defScope s__law_refused) := ⟨rfl, rfl, rfl, by decide +kernel, rfl, by decide +kernel, by decide +kernel⟩
def df__law_refused : Df := ⟨5, 2, b__law_refused⟩
def b_law : Stms := (.cons (.for_ (.n 1) (.rng1 (.bi false .max (.cons (.con (.int (1))) (.cons (.bi false .min (.cons (.bi false .len (.cons (.var 0) .nil)) (.cons (.con (.int (40))) .nil))) .nil)))) (.cons (.asg (.n 2) (.call 38 (.cons (.call 14 (.cons (.var 0) (.cons (.var 1) .nil))) (.cons (.var 1) .nil))))
    (.cons (.asg (.n 3) (.ix (.con (.tup [(.str (Str.ofString "real")), (.str (Str.ofString "row")), (.str (Str.ofString "any")), (.str (Str.ofString "snap")), (.str (Str.ofString "stand")), (.str (Str.ofString "hand")), (.str (Str.ofString "thing")), (.str (Str.ofString "kept"))])) (.bin false .Mod (.var 2) (.con (.int (8))))))
    (.cons (.asg (.n 4) (.ix (.con (.tup [(.str (Str.ofString "real")), (.str (Str.ofString "row")), (.str (Str.ofString "any")), (.str (Str.ofString "snap")), (.str (Str.ofString "stand")), (.str (Str.ofString "hand")), (.str (Str.ofString "thing")), (.str (Str.ofString "kept"))])) (.bin false .Mod (.bin false .FloorDiv (.var 2) (.con (.int (8)))) (.con (.int (8))))))
    (.cons (.asg (.n 5) (.call 265 (.cons (.var 3) (.cons (.var 4) .nil))))
    (.cons (.ite (.or (.not (.isi (.var 5) ["bool"])) (.cmp .NotEq (.var 5) (.call 40 (.cons (.var 3) (.cons (.var 4) .nil))))) (.cons (.ret (.con (.bl false)))
    .nil) .nil)
    (.cons (.asg (.n 6) (.ix (.lst false (.cons (.con (.str (Str.ofString ""))) (.cons (.con (.str (Str.ofString "Real"))) (.cons (.con (.str (Str.ofString "all"))) (.cons (.con .non) (.cons (.con (.int (0))) (.cons (.tup (.cons (.con (.str (Str.ofString "real"))) .nil)) (.cons (.con (.str (Str.ofString "real "))) .nil)))))))) (.bin false .Mod (.bin false .FloorDiv (.var 2) (.con (.int (64)))) (.con (.int (7))))))
    (.cons (.ite (.or (.not (.call 77 (.cons (.var 6) (.cons (.var 4) .nil)))) (.or (.not (.call 77 (.cons (.var 3) (.cons (.var 6) .nil)))) (.not (.call 77 (.cons (.var 6) (.cons (.var 6) .nil)))))) (.cons (.ret (.con (.bl false)))
    .nil) .nil)
    .nil))))))))
    (.cons (.ret (.con (.bl true)))
    .nil))
theorem t_law : trSs (names.tc N_law (defScope s_law)) 400 (defBody s_law) = some b_law := by kernel_rfl
theorem sc_law : FnScope N_law p_law (defScope s_law) := ⟨rfl, rfl, rfl, by decide +kernel, rfl, by decide +kernel, by decide +kernel⟩
def df_law : Df := ⟨7, 1, b_law⟩
def tab : Nat → Option Df
  | 14 => some df__law_cell_at
  | 38 => some df__law_drawn
  | 40 => some df__law_due
  | 265 => some df_implies
  | 77 => some df__law_refused
  | 21 => some df_law
  | _ => none
abbrev g__law_cell_at : Nat := 14
abbrev g__law_drawn : Nat := 38
abbrev g__law_due : Nat := 40
abbrev g_implies : Nat := 265
abbrev g__law_refused : Nat := 77
abbrev g_law : Nat := 21
end CI.Lw

namespace CI.Lw
open PySem PySem.Spec PyProof.Rows L2 CI CI.Mo
theorem R_cell {d : Nat} (h : 1 ≤ d) {ns : List Int} {j : Nat} : ∃ i, run tab d g__law_cell_at [.ro (ns.map D.int), .int j] = ret (.int i) := by
  obtain ⟨d, rfl⟩ : ∃ e, d = e + 1 := ⟨d - 1, by omega⟩
  by_cases hj : j < ns.length
  · refine ⟨ns[j], ret_of fun S k => ?_⟩
    rw [wp_run (df := df__law_cell_at) rfl rfl]
    simp only [df__law_cell_at, b__law_cell_at, startD]
    have e : atI (ns.map D.int) (j : Int) = some (.int ns[j]) := by
      rw [atI_of, List.getElem?_map, List.getElem?_eq_getElem hj]; rfl
    have h' : (j : Int) < (ns.length : Int) := by omega
    simp [e, h']
  · refine ⟨0, ret_of fun S k => ?_⟩
    rw [wp_run (df := df__law_cell_at) rfl rfl]
    simp only [df__law_cell_at, b__law_cell_at, startD]
    have h' : ¬ (j : Int) < (ns.length : Int) := by omega
    simp [h']
theorem truth_of {d g : Nat} {ns : List Int} (h : wp (run tab d g [.ro (ns.map D.int)]) [] fun v _ => v = .bl true) : ∃ S, run tab d g [.ro (ns.map D.int)] [] = .ok (.bl true) S := by
  obtain ⟨v, S, e, rfl⟩ := wp_iff.mp h
  exact ⟨S, e⟩
end CI.Lw

namespace CI.Lw
open PySem PySem.Spec PyProof.Rows L2 CI CI.Mo
/-! One number drawn (laws k45 to k54). -/
def drQ (c : Int) (j : Nat) : Int := c / 2 ^ (1 + 24 * ((j : Int) % 120)).toNat
def drI (c : Int) (j : Nat) : Int :=
  if c % 2 = 1 ∧ 0 < drQ c j then drQ c j % 16777216 else
    let a := (c / 2 % 2147483647 + 7919 * (j : Int) + 1) * 48271 % 2147483647
    let b := a * (a / 1009 + 69621) % 2147483647
    b * (b / 2003 + 40692) % 2147483399
theorem drI_pos {c : Int} {j : Nat} : 0 ≤ drI c j := by
  unfold drI
  split
  · omega
  · simp only; omega
def drT : Stms := dropS 2 b__law_drawn
theorem R_drawn {d : Nat} (h : 1 ≤ d) {c : Int} {j : Nat} : run tab d g__law_drawn [.int c, .int (j : Int)] = ret (.int (drI c j)) := by
  obtain ⟨d, rfl⟩ : ∃ e, d = e + 1 := ⟨d - 1, by omega⟩
  refine ret_of fun S k => ?_
  rw [wp_run (df := df__law_drawn) rfl rfl]
  simp only [df__law_drawn, startD]
  have m1 : mulOk 24 ((j : Int) % 120) = true := mulOk_l (by omega) (by omega)
  have m2 : mulOk 7919 (j : Int) = true := mulOk_l (by omega) (by omega)
  have p1 : 0 ≤ 1 + 24 * ((j : Int) % 120) := by omega
  have m3 : mulOk (c / 2 % 2147483647 + 7919 * (j : Int) + 1) 48271 = true := mulOk_r (by omega)
  have lgb : Nat.log2 1009 < 9000 := by decide
  have lgc : Nat.log2 2003 < 9000 := by decide
  have tail : ∀ (x : Option D), wp (exSs (run tab d) drT [some (.int c), some (.int (j : Int)), x, none]) S (kRun k) = k (.int (let a := (c / 2 % 2147483647 + 7919 * (j : Int) + 1) * 48271 % 2147483647
    let b := a * (a / 1009 + 69621) % 2147483647
    b * (b / 2003 + 40692) % 2147483399)) S := fun x => by
    show wp (exSs (run tab d) (.cons (getS 2 b__law_drawn) (.cons (getS 3 b__law_drawn) (.cons (getS 4 b__law_drawn) .nil))) _) S (kRun k) = _
    simp only [getS, b__law_drawn]
    simp [m2, m3, lg2, lgb]
    generalize ha : (c / 2 % 2147483647 + 7919 * (j : Int) + 1) * 48271 % 2147483647 = a
    have h2 : mulOk a (a / 1009 + 69621) = true := mulOk_l (by omega) (by omega)
    simp [h2, lgc]
    generalize hb : a * (a / 1009 + 69621) % 2147483647 = b
    have h3 : mulOk b (b / 2003 + 40692) = true := mulOk_l (by omega) (by omega)
    simp [h3]
  have e0 : getS 0 b__law_drawn = .asg (.n 2) (.bin false .RShift (.var 0) (.bin false .Add (.con (.int 1)) (.bin false .Mult (.con (.int 24)) (.bin false .Mod (.var 1) (.con (.int 120)))))) := rfl
  have e1 : getS 1 b__law_drawn = .ite (.and (.cmp .Eq (.bin false .Mod (.var 0) (.con (.int 2))) (.con (.int 1))) (.cmp .Gt (.var 2) (.con (.int 0)))) (.cons (.ret (.bin false .Mod (.var 2) (.bin false .Pow (.con (.int 2)) (.con (.int 24))))) .nil) .nil := rfl
  show wp (exSs (run tab d) (.cons (getS 0 b__law_drawn) (.cons (getS 1 b__law_drawn) drT)) _) S (kRun k) = _
  rw [e0, e1]
  unfold drI
  by_cases c1 : c % 2 = 1
  · by_cases c2 : 0 < drQ c j
    · rw [if_pos ⟨c1, c2⟩]
      unfold drQ at c2 ⊢
      simp [m1, p1, c1, c2]
    · rw [if_neg (fun z => c2 z.2)]
      unfold drQ at c2
      simp [m1, p1, c1, c2]
      exact Iff.of_eq (tail _)
  · rw [if_neg (fun z => c1 z.1)]
    simp [m1, p1, c1]
    exact Iff.of_eq (tail _)
end CI.Lw

namespace CI.Lw
open PySem PySem.Spec PyProof.Rows L2 CI CI.Mo
/-! What implies what: each pair; each refusal. -/
def P8 : List D := [sS "real", sS "row", sS "any", sS "snap", sS "stand", sS "hand", sS "thing", sS "kept"]
def W7 : List D := [sS "", sS "Real", sS "all", .non, .int 0, .tup [sS "real"], sS "real "]
section
variable {d : Nat} {S : Store}
def imp2 (x y : D) (d : Nat) (S : Store) : Prop := ∃ b, run tab (d + 1) g_implies [x, y] S = .ok (.bl b) S ∧ run tab (d + 1) g__law_due [x, y] S = .ok (.bl b) S
theorem im_0 : ∀ y ∈ P8, imp2 (sS "real") y d S := by
  intro y hy
  unfold P8 at hy
  simp only [List.mem_cons, List.not_mem_nil, or_false] at hy
  rcases hy with rfl | rfl | rfl | rfl | rfl | rfl | rfl | rfl
  · exact ⟨true, by kernel_rfl, by kernel_rfl⟩
  · exact ⟨true, by kernel_rfl, by kernel_rfl⟩
  · exact ⟨true, by kernel_rfl, by kernel_rfl⟩
  · exact ⟨true, by kernel_rfl, by kernel_rfl⟩
  · exact ⟨true, by kernel_rfl, by kernel_rfl⟩
  · exact ⟨true, by kernel_rfl, by kernel_rfl⟩
  · exact ⟨true, by kernel_rfl, by kernel_rfl⟩
  · exact ⟨true, by kernel_rfl, by kernel_rfl⟩
theorem im_1 : ∀ y ∈ P8, imp2 (sS "row") y d S := by
  intro y hy
  unfold P8 at hy
  simp only [List.mem_cons, List.not_mem_nil, or_false] at hy
  rcases hy with rfl | rfl | rfl | rfl | rfl | rfl | rfl | rfl
  · exact ⟨false, by kernel_rfl, by kernel_rfl⟩
  · exact ⟨true, by kernel_rfl, by kernel_rfl⟩
  · exact ⟨true, by kernel_rfl, by kernel_rfl⟩
  · exact ⟨true, by kernel_rfl, by kernel_rfl⟩
  · exact ⟨true, by kernel_rfl, by kernel_rfl⟩
  · exact ⟨true, by kernel_rfl, by kernel_rfl⟩
  · exact ⟨false, by kernel_rfl, by kernel_rfl⟩
  · exact ⟨true, by kernel_rfl, by kernel_rfl⟩
theorem im_2 : ∀ y ∈ P8, imp2 (sS "any") y d S := by
  intro y hy
  unfold P8 at hy
  simp only [List.mem_cons, List.not_mem_nil, or_false] at hy
  rcases hy with rfl | rfl | rfl | rfl | rfl | rfl | rfl | rfl
  · exact ⟨false, by kernel_rfl, by kernel_rfl⟩
  · exact ⟨false, by kernel_rfl, by kernel_rfl⟩
  · exact ⟨true, by kernel_rfl, by kernel_rfl⟩
  · exact ⟨true, by kernel_rfl, by kernel_rfl⟩
  · exact ⟨true, by kernel_rfl, by kernel_rfl⟩
  · exact ⟨false, by kernel_rfl, by kernel_rfl⟩
  · exact ⟨false, by kernel_rfl, by kernel_rfl⟩
  · exact ⟨true, by kernel_rfl, by kernel_rfl⟩
theorem im_3 : ∀ y ∈ P8, imp2 (sS "snap") y d S := by
  intro y hy
  unfold P8 at hy
  simp only [List.mem_cons, List.not_mem_nil, or_false] at hy
  rcases hy with rfl | rfl | rfl | rfl | rfl | rfl | rfl | rfl
  · exact ⟨false, by kernel_rfl, by kernel_rfl⟩
  · exact ⟨false, by kernel_rfl, by kernel_rfl⟩
  · exact ⟨false, by kernel_rfl, by kernel_rfl⟩
  · exact ⟨true, by kernel_rfl, by kernel_rfl⟩
  · exact ⟨true, by kernel_rfl, by kernel_rfl⟩
  · exact ⟨false, by kernel_rfl, by kernel_rfl⟩
  · exact ⟨false, by kernel_rfl, by kernel_rfl⟩
  · exact ⟨true, by kernel_rfl, by kernel_rfl⟩
theorem im_4 : ∀ y ∈ P8, imp2 (sS "stand") y d S := by
  intro y hy
  unfold P8 at hy
  simp only [List.mem_cons, List.not_mem_nil, or_false] at hy
  rcases hy with rfl | rfl | rfl | rfl | rfl | rfl | rfl | rfl
  · exact ⟨false, by kernel_rfl, by kernel_rfl⟩
  · exact ⟨false, by kernel_rfl, by kernel_rfl⟩
  · exact ⟨false, by kernel_rfl, by kernel_rfl⟩
  · exact ⟨false, by kernel_rfl, by kernel_rfl⟩
  · exact ⟨true, by kernel_rfl, by kernel_rfl⟩
  · exact ⟨false, by kernel_rfl, by kernel_rfl⟩
  · exact ⟨false, by kernel_rfl, by kernel_rfl⟩
  · exact ⟨false, by kernel_rfl, by kernel_rfl⟩
theorem im_5 : ∀ y ∈ P8, imp2 (sS "hand") y d S := by
  intro y hy
  unfold P8 at hy
  simp only [List.mem_cons, List.not_mem_nil, or_false] at hy
  rcases hy with rfl | rfl | rfl | rfl | rfl | rfl | rfl | rfl
  · exact ⟨false, by kernel_rfl, by kernel_rfl⟩
  · exact ⟨false, by kernel_rfl, by kernel_rfl⟩
  · exact ⟨false, by kernel_rfl, by kernel_rfl⟩
  · exact ⟨false, by kernel_rfl, by kernel_rfl⟩
  · exact ⟨false, by kernel_rfl, by kernel_rfl⟩
  · exact ⟨true, by kernel_rfl, by kernel_rfl⟩
  · exact ⟨false, by kernel_rfl, by kernel_rfl⟩
  · exact ⟨false, by kernel_rfl, by kernel_rfl⟩
theorem im_6 : ∀ y ∈ P8, imp2 (sS "thing") y d S := by
  intro y hy
  unfold P8 at hy
  simp only [List.mem_cons, List.not_mem_nil, or_false] at hy
  rcases hy with rfl | rfl | rfl | rfl | rfl | rfl | rfl | rfl
  · exact ⟨false, by kernel_rfl, by kernel_rfl⟩
  · exact ⟨false, by kernel_rfl, by kernel_rfl⟩
  · exact ⟨false, by kernel_rfl, by kernel_rfl⟩
  · exact ⟨false, by kernel_rfl, by kernel_rfl⟩
  · exact ⟨false, by kernel_rfl, by kernel_rfl⟩
  · exact ⟨false, by kernel_rfl, by kernel_rfl⟩
  · exact ⟨true, by kernel_rfl, by kernel_rfl⟩
  · exact ⟨true, by kernel_rfl, by kernel_rfl⟩
theorem im_7 : ∀ y ∈ P8, imp2 (sS "kept") y d S := by
  intro y hy
  unfold P8 at hy
  simp only [List.mem_cons, List.not_mem_nil, or_false] at hy
  rcases hy with rfl | rfl | rfl | rfl | rfl | rfl | rfl | rfl
  · exact ⟨false, by kernel_rfl, by kernel_rfl⟩
  · exact ⟨false, by kernel_rfl, by kernel_rfl⟩
  · exact ⟨false, by kernel_rfl, by kernel_rfl⟩
  · exact ⟨false, by kernel_rfl, by kernel_rfl⟩
  · exact ⟨false, by kernel_rfl, by kernel_rfl⟩
  · exact ⟨false, by kernel_rfl, by kernel_rfl⟩
  · exact ⟨false, by kernel_rfl, by kernel_rfl⟩
  · exact ⟨true, by kernel_rfl, by kernel_rfl⟩
theorem im_all : ∀ x ∈ P8, ∀ y ∈ P8, imp2 x y d S := by
  intro x hx
  unfold P8 at hx
  simp only [List.mem_cons, List.not_mem_nil, or_false] at hx
  rcases hx with rfl | rfl | rfl | rfl | rfl | rfl | rfl | rfl
  · exact im_0
  · exact im_1
  · exact im_2
  · exact im_3
  · exact im_4
  · exact im_5
  · exact im_6
  · exact im_7
def ref (x y : D) (d : Nat) (S : Store) : Prop := run tab (d + 2) g__law_refused [x, y] S = .ok (.bl true) S
theorem re_0 : ref (sS "") (sS "") d S ∧ ∀ y ∈ P8, ref (sS "") y d S ∧ ref y (sS "") d S := by
  refine ⟨by unfold ref; kernel_rfl, ?_⟩
  intro y hy
  unfold P8 at hy
  simp only [List.mem_cons, List.not_mem_nil, or_false] at hy
  rcases hy with rfl | rfl | rfl | rfl | rfl | rfl | rfl | rfl
  · exact ⟨by unfold ref; kernel_rfl, by unfold ref; kernel_rfl⟩
  · exact ⟨by unfold ref; kernel_rfl, by unfold ref; kernel_rfl⟩
  · exact ⟨by unfold ref; kernel_rfl, by unfold ref; kernel_rfl⟩
  · exact ⟨by unfold ref; kernel_rfl, by unfold ref; kernel_rfl⟩
  · exact ⟨by unfold ref; kernel_rfl, by unfold ref; kernel_rfl⟩
  · exact ⟨by unfold ref; kernel_rfl, by unfold ref; kernel_rfl⟩
  · exact ⟨by unfold ref; kernel_rfl, by unfold ref; kernel_rfl⟩
  · exact ⟨by unfold ref; kernel_rfl, by unfold ref; kernel_rfl⟩
theorem re_1 : ref (sS "Real") (sS "Real") d S ∧ ∀ y ∈ P8, ref (sS "Real") y d S ∧ ref y (sS "Real") d S := by
  refine ⟨by unfold ref; kernel_rfl, ?_⟩
  intro y hy
  unfold P8 at hy
  simp only [List.mem_cons, List.not_mem_nil, or_false] at hy
  rcases hy with rfl | rfl | rfl | rfl | rfl | rfl | rfl | rfl
  · exact ⟨by unfold ref; kernel_rfl, by unfold ref; kernel_rfl⟩
  · exact ⟨by unfold ref; kernel_rfl, by unfold ref; kernel_rfl⟩
  · exact ⟨by unfold ref; kernel_rfl, by unfold ref; kernel_rfl⟩
  · exact ⟨by unfold ref; kernel_rfl, by unfold ref; kernel_rfl⟩
  · exact ⟨by unfold ref; kernel_rfl, by unfold ref; kernel_rfl⟩
  · exact ⟨by unfold ref; kernel_rfl, by unfold ref; kernel_rfl⟩
  · exact ⟨by unfold ref; kernel_rfl, by unfold ref; kernel_rfl⟩
  · exact ⟨by unfold ref; kernel_rfl, by unfold ref; kernel_rfl⟩
theorem re_2 : ref (sS "all") (sS "all") d S ∧ ∀ y ∈ P8, ref (sS "all") y d S ∧ ref y (sS "all") d S := by
  refine ⟨by unfold ref; kernel_rfl, ?_⟩
  intro y hy
  unfold P8 at hy
  simp only [List.mem_cons, List.not_mem_nil, or_false] at hy
  rcases hy with rfl | rfl | rfl | rfl | rfl | rfl | rfl | rfl
  · exact ⟨by unfold ref; kernel_rfl, by unfold ref; kernel_rfl⟩
  · exact ⟨by unfold ref; kernel_rfl, by unfold ref; kernel_rfl⟩
  · exact ⟨by unfold ref; kernel_rfl, by unfold ref; kernel_rfl⟩
  · exact ⟨by unfold ref; kernel_rfl, by unfold ref; kernel_rfl⟩
  · exact ⟨by unfold ref; kernel_rfl, by unfold ref; kernel_rfl⟩
  · exact ⟨by unfold ref; kernel_rfl, by unfold ref; kernel_rfl⟩
  · exact ⟨by unfold ref; kernel_rfl, by unfold ref; kernel_rfl⟩
  · exact ⟨by unfold ref; kernel_rfl, by unfold ref; kernel_rfl⟩
theorem re_3 : ref (.non) (.non) d S ∧ ∀ y ∈ P8, ref (.non) y d S ∧ ref y (.non) d S := by
  refine ⟨by unfold ref; kernel_rfl, ?_⟩
  intro y hy
  unfold P8 at hy
  simp only [List.mem_cons, List.not_mem_nil, or_false] at hy
  rcases hy with rfl | rfl | rfl | rfl | rfl | rfl | rfl | rfl
  · exact ⟨by unfold ref; kernel_rfl, by unfold ref; kernel_rfl⟩
  · exact ⟨by unfold ref; kernel_rfl, by unfold ref; kernel_rfl⟩
  · exact ⟨by unfold ref; kernel_rfl, by unfold ref; kernel_rfl⟩
  · exact ⟨by unfold ref; kernel_rfl, by unfold ref; kernel_rfl⟩
  · exact ⟨by unfold ref; kernel_rfl, by unfold ref; kernel_rfl⟩
  · exact ⟨by unfold ref; kernel_rfl, by unfold ref; kernel_rfl⟩
  · exact ⟨by unfold ref; kernel_rfl, by unfold ref; kernel_rfl⟩
  · exact ⟨by unfold ref; kernel_rfl, by unfold ref; kernel_rfl⟩
theorem re_4 : ref (.int 0) (.int 0) d S ∧ ∀ y ∈ P8, ref (.int 0) y d S ∧ ref y (.int 0) d S := by
  refine ⟨by unfold ref; kernel_rfl, ?_⟩
  intro y hy
  unfold P8 at hy
  simp only [List.mem_cons, List.not_mem_nil, or_false] at hy
  rcases hy with rfl | rfl | rfl | rfl | rfl | rfl | rfl | rfl
  · exact ⟨by unfold ref; kernel_rfl, by unfold ref; kernel_rfl⟩
  · exact ⟨by unfold ref; kernel_rfl, by unfold ref; kernel_rfl⟩
  · exact ⟨by unfold ref; kernel_rfl, by unfold ref; kernel_rfl⟩
  · exact ⟨by unfold ref; kernel_rfl, by unfold ref; kernel_rfl⟩
  · exact ⟨by unfold ref; kernel_rfl, by unfold ref; kernel_rfl⟩
  · exact ⟨by unfold ref; kernel_rfl, by unfold ref; kernel_rfl⟩
  · exact ⟨by unfold ref; kernel_rfl, by unfold ref; kernel_rfl⟩
  · exact ⟨by unfold ref; kernel_rfl, by unfold ref; kernel_rfl⟩
theorem re_5 : ref (.tup [sS "real"]) (.tup [sS "real"]) d S ∧ ∀ y ∈ P8, ref (.tup [sS "real"]) y d S ∧ ref y (.tup [sS "real"]) d S := by
  refine ⟨by unfold ref; kernel_rfl, ?_⟩
  intro y hy
  unfold P8 at hy
  simp only [List.mem_cons, List.not_mem_nil, or_false] at hy
  rcases hy with rfl | rfl | rfl | rfl | rfl | rfl | rfl | rfl
  · exact ⟨by unfold ref; kernel_rfl, by unfold ref; kernel_rfl⟩
  · exact ⟨by unfold ref; kernel_rfl, by unfold ref; kernel_rfl⟩
  · exact ⟨by unfold ref; kernel_rfl, by unfold ref; kernel_rfl⟩
  · exact ⟨by unfold ref; kernel_rfl, by unfold ref; kernel_rfl⟩
  · exact ⟨by unfold ref; kernel_rfl, by unfold ref; kernel_rfl⟩
  · exact ⟨by unfold ref; kernel_rfl, by unfold ref; kernel_rfl⟩
  · exact ⟨by unfold ref; kernel_rfl, by unfold ref; kernel_rfl⟩
  · exact ⟨by unfold ref; kernel_rfl, by unfold ref; kernel_rfl⟩
theorem re_6 : ref (sS "real ") (sS "real ") d S ∧ ∀ y ∈ P8, ref (sS "real ") y d S ∧ ref y (sS "real ") d S := by
  refine ⟨by unfold ref; kernel_rfl, ?_⟩
  intro y hy
  unfold P8 at hy
  simp only [List.mem_cons, List.not_mem_nil, or_false] at hy
  rcases hy with rfl | rfl | rfl | rfl | rfl | rfl | rfl | rfl
  · exact ⟨by unfold ref; kernel_rfl, by unfold ref; kernel_rfl⟩
  · exact ⟨by unfold ref; kernel_rfl, by unfold ref; kernel_rfl⟩
  · exact ⟨by unfold ref; kernel_rfl, by unfold ref; kernel_rfl⟩
  · exact ⟨by unfold ref; kernel_rfl, by unfold ref; kernel_rfl⟩
  · exact ⟨by unfold ref; kernel_rfl, by unfold ref; kernel_rfl⟩
  · exact ⟨by unfold ref; kernel_rfl, by unfold ref; kernel_rfl⟩
  · exact ⟨by unfold ref; kernel_rfl, by unfold ref; kernel_rfl⟩
  · exact ⟨by unfold ref; kernel_rfl, by unfold ref; kernel_rfl⟩
theorem re_all : ∀ x ∈ W7, ref x x d S ∧ ∀ y ∈ P8, ref x y d S ∧ ref y x d S := by
  intro x hx
  unfold W7 at hx
  simp only [List.mem_cons, List.not_mem_nil, or_false] at hx
  rcases hx with rfl | rfl | rfl | rfl | rfl | rfl | rfl
  · exact re_0
  · exact re_1
  · exact re_2
  · exact re_3
  · exact re_4
  · exact re_5
  · exact re_6
end
end CI.Lw

namespace CI.Lw
open PySem PySem.Spec PyProof.Rows L2 CI CI.Mo
section
variable {d : Nat} {S : Store} {k : Kn D}
theorem p8_at {v : Int} : ∃ x, atI P8 (v % 8) = some x ∧ x ∈ P8 := by
  obtain ⟨n, hn, e⟩ : ∃ n : Nat, n < 8 ∧ v % 8 = (n : Int) := ⟨(v % 8).toNat, by omega, by omega⟩
  have l : n < P8.length := hn
  rw [e, atI_of, List.getElem?_eq_getElem l]
  exact ⟨_, rfl, List.getElem_mem l⟩
theorem w7_at {v : Int} : ∃ x, atI W7 (v % 7) = some x ∧ x ∈ W7 := by
  obtain ⟨n, hn, e⟩ : ∃ n : Nat, n < 7 ∧ v % 7 = (n : Int) := ⟨(v % 7).toNat, by omega, by omega⟩
  have l : n < W7.length := hn
  rw [e, atI_of, List.getElem?_eq_getElem l]
  exact ⟨_, rfl, List.getElem_mem l⟩
theorem R_law (h : 4 ≤ d) {ns : List Int} : wp (run tab d g_law [.ro (ns.map D.int)]) S fun v _ => v = .bl true := by
  obtain ⟨d, rfl⟩ : ∃ e, d = e + 1 := ⟨d - 1, by omega⟩
  obtain ⟨d, rfl⟩ : ∃ e, d = e + 1 := ⟨d - 1, by omega⟩
  obtain ⟨d, rfl⟩ : ∃ e, d = e + 1 := ⟨d - 1, by omega⟩
  rw [wp_run (df := df_law) rfl rfl]
  simp only [df_law, b_law, startD]
  obtain ⟨N, hN, eN⟩ : ∃ N : Nat, N ≤ 1000000 ∧ (∀ {P : Kn D} {S : Store}, wp (biD false .max [.int 1, .int (if (40 : Int) < (ns.length : Int) then 40 else (ns.length : Int))]) S P = P (.int (N : Int)) S) := by
    by_cases c : (40 : Int) < (ns.length : Int)
    · exact ⟨40, by omega, fun {P S} => by rw [if_pos c]; rfl⟩
    · by_cases c2 : ns.length = 0
      · exact ⟨1, by omega, fun {P S} => by rw [if_neg c, c2]; rfl⟩
      · refine ⟨ns.length, by omega, fun {P S} => ?_⟩
        rw [if_neg c]
        have e : biD false .max [.int 1, .int (ns.length : Int)] S = .ok (.int (if (ns.length : Int) > 1 then (ns.length : Int) else 1)) S := rfl
        rw [wp_ok e]
        by_cases c3 : (ns.length : Int) > 1
        · rw [if_pos c3]
        · rw [if_neg c3, show (ns.length : Int) = 1 by omega]
  have e8 : [D.str (Str.ofString "real"), .str (Str.ofString "row"), .str (Str.ofString "any"), .str (Str.ofString "snap"), .str (Str.ofString "stand"), .str (Str.ofString "hand"), .str (Str.ofString "thing"), .str (Str.ofString "kept")] = P8 := rfl
  have e7 : [D.str (Str.ofString ""), .str (Str.ofString "Real"), .str (Str.ofString "all"), .non, .int 0, .tup [.str (Str.ofString "real")], .str (Str.ofString "real ")] = W7 := rfl
  rw [e8]
  simp
  have em : ∀ {P : Kn D} {S : Store}, wp (biD false .min [.int (ns.length : Int), .int 40]) S P = P (.int (if (40 : Int) < (ns.length : Int) then 40 else (ns.length : Int))) S := fun {P S} => wp_ok (by simp [biD])
  rw [em]
  simp
  rw [eN]
  simp
  rw [rng_nat hN]
  simp
  refine wp_forM (fun i : Nat => Itm.one (.int (i : Int))) (fun r ρ S1 => ∃ (y1 y2 y3 y4 y5 y6 : Option D), ρ = [some (.ro (ns.map D.int)), y1, y2, y3, y4, y5, y6]) ?_ ?_ ⟨none, none, none, none, none, none, rfl⟩
  · rintro j r ρ S1 ⟨y1, y2, y3, y4, y5, y6, rfl⟩
    obtain ⟨c, ec⟩ := R_cell (d := d + 2) (by omega) (ns := ns) (j := j)
    have eq := R_drawn (d := d + 2) (by omega) (c := c) (j := j)
    generalize drI c j = q at eq
    obtain ⟨x, ex, hx⟩ := p8_at (v := q)
    obtain ⟨y, ey, hy⟩ := p8_at (v := q / 8)
    obtain ⟨z, ez, hz⟩ := w7_at (v := q / 64)
    simp [ec, eq, ex, ey]
    have l8 : Nat.log2 8 < 9000 := by decide
    have l64 : Nat.log2 64 < 9000 := by decide
    refine ⟨l8, ?_⟩
    obtain ⟨b, e1, e2⟩ := im_all x hx y hy (d := d + 1) (S := S1)
    refine (Iff.of_eq (wp_ok e1)).mpr ?_
    simp
    refine ⟨by decide, ?_⟩
    refine (Iff.of_eq (wp_ok e2)).mpr ?_
    have en : ∀ {P : Kn D} {S : Store}, wp (cmpD .NotEq (.bl b) (.bl b)) S P = P (.bl false) S := fun {P S} => by cases b <;> exact wc_ne rfl rfl
    have ez' : atI [D.str (Str.ofString ""), .str (Str.ofString "Real"), .str (Str.ofString "all"), .non, .int 0, .tup [.str (Str.ofString "real")], .str (Str.ofString "real ")] (q / 64 % 7) = some z := ez
    simp [en, ez', l64]
    obtain ⟨r1, r2⟩ := re_all z hz (d := d) (S := S1)
    refine (Iff.of_eq (wp_ok (r2 y hy).1)).mpr ?_
    simp
    refine (Iff.of_eq (wp_ok (r2 x hx).2)).mpr ?_
    simp
    refine (Iff.of_eq (wp_ok r1)).mpr ?_
    simp
  · rintro ρ S1 ⟨y1, y2, y3, y4, y5, y6, rfl⟩
    simp
end
theorem truth : ∀ ns : List Int, ns.length ≤ 63 → (∀ z ∈ ns, Builtin.Int.intBits z ≤ 1048576) → ∃ S, run tab 4 g_law [.ro (ns.map D.int)] [] = .ok (.bl true) S := fun ns hn _ => truth_of (R_law (by omega))
end CI.Lw

namespace CI.Lw
open PySem PySem.Spec PyProof.Rows L2 CI
theorem all_mk {l : PySem.W.OpenLaw} {w : World} {K : PySem.W.Frag} {h : Heap} {mg : Str → Option Value} {fa f0 f1 f2 f3 f4 f5 X0 Y0 Y1 Y2 Y3 Y6 Y7 : Addr} (X : K.In h) (G : h.Ns mainGlobals mg) (hfa : mg "law" = some (.ref fa))
    {od0 an0 od1 an1 od2 an2 od3 an3 od4 an4 od5 an5 : Option Addr} {sl0 sl1 sl2 sl3 sl4 sl5 : Array (Option Value)} {oc0 kV0 dc0 pm0 cd0 ct0 oc1 kV1 dc1 pm1 cd1 ct1 oc2 kV2 dc2 pm2 cd2 ct2 oc3 kV3 dc3 pm3 cd3 ct3 oc4 kV4 dc4 pm4 cd4 ct4 oc5 kV5 dc5 pm5 cd5 ct5 : Value} {tk1 : Tok} {tk2 : Tok} {tk3 : Tok} {tk4 : Tok} {tk5 : Tok} {tk6 : Tok} {tk7 : Tok} {tk8 : Tok} {ta9 : Addr} {tn9 : Nat} {ts9 : Array (Option Value)} {tk10 : Tok} {tk11 : Tok} {tk12 : Tok} {tk13 : Tok} {tk14 : Tok} {tk15 : Tok} {tk16 : Tok} {tk17 : Tok} {ta18 : Addr} {tn18 : Nat} {ts18 : Array (Option Value)} {tk19 : Tok} {tk20 : Tok} {tk21 : Tok} {tk22 : Tok} {tk23 : Tok} {tk24 : Tok} {ta25 : Addr} {tn25 : Nat} {ts25 : Array (Option Value)} {tk26 : Tok} {tk27 : Tok} {tk28 : Tok} {tk29 : Tok} {ta30 : Addr} {tn30 : Nat} {ts30 : Array (Option Value)} {tk31 : Tok} {tk32 : Tok} {tk33 : Tok} {ta34 : Addr} {tn34 : Nat} {ts34 : Array (Option Value)} {tk35 : Tok} {ta36 : Addr} {tn36 : Nat} {ts36 : Array (Option Value)} {tk37 : Tok} {ta38 : Addr} {tn38 : Nat} {ts38 : Array (Option Value)} {tk39 : Tok} {tk40 : Tok} {ta41 : Addr} {tn41 : Nat} {ts41 : Array (Option Value)} {tk42 : Tok} {ta43 : Addr} {tn43 : Nat} {ts43 : Array (Option Value)} {tk44 : Tok} {tk45 : Tok} {tk46 : Tok} {tk47 : Tok} {tk48 : Tok} {tk49 : Tok} {tk50 : Tok} {tk51 : Tok} {md0 : Addr} {mn0 : Nat}
    (a14 : PySem.W.nsIn K mainGlobals "_law_cell_at" = some (some (.ref f0)))
    (l0 : K.lookup f0 = some ⟨oc0, od0, .func (PySem.W.fnOf "_law_cell_at" "_law_cell_at" (defArgs s__law_cell_at) (defBody s__law_cell_at) (defScope s__law_cell_at) .none kV0 dc0 pm0 an0 cd0 ct0), sl0⟩)
    (c0 : PySem.W.codeIn K cd0 "_law_cell_at" = true)
    (k0 : PySem.W.keepIn K (.ref f0) = true)
    (a38 : PySem.W.nsIn K mainGlobals "_law_drawn" = some (some (.ref f1)))
    (l1 : K.lookup f1 = some ⟨oc1, od1, .func (PySem.W.fnOf "_law_drawn" "_law_drawn" (defArgs s__law_drawn) (defBody s__law_drawn) (defScope s__law_drawn) .none kV1 dc1 pm1 an1 cd1 ct1), sl1⟩)
    (c1 : PySem.W.codeIn K cd1 "_law_drawn" = true)
    (k1 : PySem.W.keepIn K (.ref f1) = true)
    (a40 : PySem.W.nsIn K mainGlobals "_law_due" = some (some (.ref f2)))
    (l2 : K.lookup f2 = some ⟨oc2, od2, .func (PySem.W.fnOf "_law_due" "_law_due" (defArgs s__law_due) (defBody s__law_due) (defScope s__law_due) .none kV2 dc2 pm2 an2 cd2 ct2), sl2⟩)
    (c2 : PySem.W.codeIn K cd2 "_law_due" = true)
    (k2 : PySem.W.keepIn K (.ref f2) = true)
    (a265 : PySem.W.nsIn K mainGlobals "implies" = some (some (.ref f3)))
    (l3 : K.lookup f3 = some ⟨oc3, od3, .func (PySem.W.fnOf "implies" "implies" (defArgs s_implies) (defBody s_implies) (defScope s_implies) .none kV3 dc3 pm3 an3 cd3 ct3), sl3⟩)
    (c3 : PySem.W.codeIn K cd3 "implies" = true)
    (k3 : PySem.W.keepIn K (.ref f3) = true)
    (a77 : PySem.W.nsIn K mainGlobals "_law_refused" = some (some (.ref f4)))
    (l4 : K.lookup f4 = some ⟨oc4, od4, .func (PySem.W.fnOf "_law_refused" "_law_refused" (defArgs s__law_refused) (defBody s__law_refused) (defScope s__law_refused) .none kV4 dc4 pm4 an4 cd4 ct4), sl4⟩)
    (c4 : PySem.W.codeIn K cd4 "_law_refused" = true)
    (k4 : PySem.W.keepIn K (.ref f4) = true)
    (a21 : PySem.W.nsIn K mainGlobals "law" = some (some (.ref f5)))
    (l5 : K.lookup f5 = some ⟨oc5, od5, .func (PySem.W.fnOf "law" "law" (defArgs s_law) (defBody s_law) (defScope s_law) .none kV5 dc5 pm5 an5 cd5 ct5), sl5⟩)
    (c5 : PySem.W.codeIn K cd5 "law" = true)
    (k5 : PySem.W.keepIn K (.ref f5) = true)
    (q0 : PySem.W.nsIn K mainGlobals "PROMISES" = some (some (Value.ref ta9)))
    (tl9 : K.lookup ta9 = some ⟨.type "tuple", none, .seq #[(Value.str (Str.ofString "real") tk1), (Value.str (Str.ofString "row") tk2), (Value.str (Str.ofString "any") tk3), (Value.str (Str.ofString "snap") tk4), (Value.str (Str.ofString "stand") tk5), (Value.str (Str.ofString "hand") tk6), (Value.str (Str.ofString "thing") tk7), (Value.str (Str.ofString "kept") tk8)] tn9, ts9⟩)
    (mq0 : PySem.W.nsIn K mainGlobals "WEAKER" = some (some (.ref md0)))
    (ml0 : K.lookup md0 = some ⟨.type "dict", none, .dict #[{ hash := PyData.keyHash w.params (Str.ofString "real"), key := .str (Str.ofString "real") tk44, val := (Value.ref ta18) }, { hash := PyData.keyHash w.params (Str.ofString "row"), key := .str (Str.ofString "row") tk45, val := (Value.ref ta25) }, { hash := PyData.keyHash w.params (Str.ofString "any"), key := .str (Str.ofString "any") tk46, val := (Value.ref ta30) }, { hash := PyData.keyHash w.params (Str.ofString "snap"), key := .str (Str.ofString "snap") tk47, val := (Value.ref ta34) }, { hash := PyData.keyHash w.params (Str.ofString "stand"), key := .str (Str.ofString "stand") tk48, val := (Value.ref ta36) }, { hash := PyData.keyHash w.params (Str.ofString "hand"), key := .str (Str.ofString "hand") tk49, val := (Value.ref ta38) }, { hash := PyData.keyHash w.params (Str.ofString "thing"), key := .str (Str.ofString "thing") tk50, val := (Value.ref ta41) }, { hash := PyData.keyHash w.params (Str.ofString "kept"), key := .str (Str.ofString "kept") tk51, val := (Value.ref ta43) }] mn0, #[]⟩)
    (ms0 : (md0 == sysModules) = false)
    (tl43 : K.lookup ta43 = some ⟨.type "tuple", none, .seq #[(Value.str (Str.ofString "kept") tk42)] tn43, ts43⟩)
    (tl41 : K.lookup ta41 = some ⟨.type "tuple", none, .seq #[(Value.str (Str.ofString "thing") tk39), (Value.str (Str.ofString "kept") tk40)] tn41, ts41⟩)
    (tl38 : K.lookup ta38 = some ⟨.type "tuple", none, .seq #[(Value.str (Str.ofString "hand") tk37)] tn38, ts38⟩)
    (tl36 : K.lookup ta36 = some ⟨.type "tuple", none, .seq #[(Value.str (Str.ofString "stand") tk35)] tn36, ts36⟩)
    (tl34 : K.lookup ta34 = some ⟨.type "tuple", none, .seq #[(Value.str (Str.ofString "snap") tk31), (Value.str (Str.ofString "stand") tk32), (Value.str (Str.ofString "kept") tk33)] tn34, ts34⟩)
    (tl30 : K.lookup ta30 = some ⟨.type "tuple", none, .seq #[(Value.str (Str.ofString "any") tk26), (Value.str (Str.ofString "snap") tk27), (Value.str (Str.ofString "stand") tk28), (Value.str (Str.ofString "kept") tk29)] tn30, ts30⟩)
    (tl25 : K.lookup ta25 = some ⟨.type "tuple", none, .seq #[(Value.str (Str.ofString "row") tk19), (Value.str (Str.ofString "any") tk20), (Value.str (Str.ofString "snap") tk21), (Value.str (Str.ofString "stand") tk22), (Value.str (Str.ofString "hand") tk23), (Value.str (Str.ofString "kept") tk24)] tn25, ts25⟩)
    (tl18 : K.lookup ta18 = some ⟨.type "tuple", none, .seq #[(Value.str (Str.ofString "real") tk10), (Value.str (Str.ofString "row") tk11), (Value.str (Str.ofString "any") tk12), (Value.str (Str.ofString "snap") tk13), (Value.str (Str.ofString "stand") tk14), (Value.str (Str.ofString "hand") tk15), (Value.str (Str.ofString "thing") tk16), (Value.str (Str.ofString "kept") tk17)] tn18, ts18⟩)
    (z0 : PySem.W.nsIn K mainGlobals "bool" = some none)
    (z1 : PySem.W.nsIn K mainGlobals "isinstance" = some none)
    (z2 : PySem.W.nsIn K mainGlobals "len" = some none)
    (z3 : PySem.W.nsIn K mainGlobals "max" = some none)
    (z4 : PySem.W.nsIn K mainGlobals "min" = some none)
    (z5 : PySem.W.nsIn K mainGlobals "range" = some none)
    (xa0 : PySem.W.nsIn K mainGlobals "NoPromise" = some (some (.ref X0)))
    (xe0 : PySem.W.excIn K X0 PySem.HandSPX.veTail "ValueError.__new__" = true)
    (xg0 : PySem.W.findIn K (.ref X0) "__getattribute__" = some (some (.builtin "BaseException.__getattribute__")))
    (xk0 : PySem.W.findIn K (.ref X0) "__getattr__" = some none)
    (xb0 : PySem.W.subIn K (.ref X0) (.type "BaseException") = some true)
    (xd0 : PySem.W.hasDictIn K X0 = true)
    (xc0 : PySem.W.findIn K (.ref X0) "__class__" = some (some (.builtin "object.__class__")))
    (xm0 : PySem.W.mroIn K X0 (.type "object") = some true)
    (xt0 : PySem.W.typeIn K (.ref X0) = some (.type "type"))
    (xp0 : PySem.W.keepIn K (.ref X0) = true)
    (xs0 : PySem.W.subIn K (.ref X0) (.ref X0) = some true)
    (xn : PySem.W.specialIn K (.builtin "object.__class__") "__get__" = some (some (.builtin "getset_descriptor.__get__")))
    (xv : PySem.W.takesIn K (.builtin "object.__class__") = some true)
    (ya0 : PySem.W.nsIn K mainGlobals "JudgeError" = some (some (.ref Y0)))
    (yb0 : PySem.W.subIn K (.ref Y0) (.type "BaseException") = some true)
    (yd0 : PySem.W.hasDictIn K Y0 = true)
    (yt0 : PySem.W.typeIn K (.ref Y0) = some (.type "type"))
    (xq0_0 : PySem.W.subIn K (.ref X0) (.ref Y0) = some true)
    (ya1 : PySem.W.nsIn K mainGlobals "NoHistory" = some (some (.ref Y1)))
    (yb1 : PySem.W.subIn K (.ref Y1) (.type "BaseException") = some true)
    (yd1 : PySem.W.hasDictIn K Y1 = true)
    (yt1 : PySem.W.typeIn K (.ref Y1) = some (.type "type"))
    (xq0_1 : PySem.W.subIn K (.ref X0) (.ref Y1) = some false)
    (ya2 : PySem.W.nsIn K mainGlobals "NoLine" = some (some (.ref Y2)))
    (yb2 : PySem.W.subIn K (.ref Y2) (.type "BaseException") = some true)
    (yd2 : PySem.W.hasDictIn K Y2 = true)
    (yt2 : PySem.W.typeIn K (.ref Y2) = some (.type "type"))
    (xq0_2 : PySem.W.subIn K (.ref X0) (.ref Y2) = some false)
    (ya3 : PySem.W.nsIn K mainGlobals "NoProblem" = some (some (.ref Y3)))
    (yb3 : PySem.W.subIn K (.ref Y3) (.type "BaseException") = some true)
    (yd3 : PySem.W.hasDictIn K Y3 = true)
    (yt3 : PySem.W.typeIn K (.ref Y3) = some (.type "type"))
    (xq0_3 : PySem.W.subIn K (.ref X0) (.ref Y3) = some false)
    (xq0_4 : PySem.W.subIn K (.ref X0) (.ref X0) = some true)
    (ya5 : PySem.W.nsIn K mainGlobals "ValueError" = some none)
    (yb5 : PySem.W.subIn K (.type "ValueError") (.type "BaseException") = some true)
    (xq0_5 : PySem.W.subIn K (.ref X0) (.type "ValueError") = some true)
    (ya6 : PySem.W.nsIn K mainGlobals "NoStore" = some (some (.ref Y6)))
    (yb6 : PySem.W.subIn K (.ref Y6) (.type "BaseException") = some true)
    (yd6 : PySem.W.hasDictIn K Y6 = true)
    (yt6 : PySem.W.typeIn K (.ref Y6) = some (.type "type"))
    (xq0_6 : PySem.W.subIn K (.ref X0) (.ref Y6) = some false)
    (ya7 : PySem.W.nsIn K mainGlobals "NoText" = some (some (.ref Y7)))
    (yb7 : PySem.W.subIn K (.ref Y7) (.type "BaseException") = some true)
    (yd7 : PySem.W.hasDictIn K Y7 = true)
    (yt7 : PySem.W.typeIn K (.ref Y7) = some (.type "type"))
    (xq0_7 : PySem.W.subIn K (.ref X0) (.ref Y7) = some false)
    : ∃ fd : FuncData, (∀ (s : Shared) (v : Value), BindsTo s fd ⟨[v], []⟩ [("_law_script", v)]) ∧ ∀ base : Heap, K.In base → base.Ns mainGlobals mg → FnOk l.prog w K mg base (L2.CX l.prog w) 8 fa fd ["_law_script"] (spL K) := by
  have e := hfa.symm.trans (PySem.W.mg_of X G a21)
  cases e
  have F0 := fun_mk (st := s__law_cell_at) l0 c0 k0
  have b0 := F0.binds (ps := p__law_cell_at) fun _ _ _ _ _ _ us hl => match us, hl with | [_, _], _ => rfl
  have F1 := fun_mk (st := s__law_drawn) l1 c1 k1
  have b1 := F1.binds (ps := p__law_drawn) fun _ _ _ _ _ _ us hl => match us, hl with | [_, _], _ => rfl
  have F2 := fun_mk (st := s__law_due) l2 c2 k2
  have b2 := F2.binds (ps := p__law_due) fun _ _ _ _ _ _ us hl => match us, hl with | [_, _], _ => rfl
  have F3 := fun_mk (st := s_implies) l3 c3 k3
  have b3 := F3.binds (ps := p_implies) fun _ _ _ _ _ _ us hl => match us, hl with | [_, _], _ => rfl
  have F4 := fun_mk (st := s__law_refused) l4 c4 k4
  have b4 := F4.binds (ps := p__law_refused) fun _ _ _ _ _ _ us hl => match us, hl with | [_, _], _ => rfl
  have F5 := fun_mk (st := s_law) l5 c5 k5
  have b5 := F5.binds (ps := p_law) fun _ _ _ _ _ _ us hl => match us, hl with | [_], _ => rfl
  refine ⟨PySem.W.fnOf "law" "law" (defArgs s_law) (defBody s_law) (defScope s_law) .none kV5 dc5 pm5 an5 cd5 ct5, fun s v => .of_eq rfl, fun base _ _ => ?_⟩
  have I : FnI (gxOf l.prog w K mg base (fun _ => none) (fun x => List.lookup x [((Str.ofString "NoPromise"), X0)])) names tab "law" "law" 21 1 _ _ p_law s_law N_law df_law := ⟨F5, rfl, rfl, rfl, b5, sc_law, rfl, 400, t_law⟩
  have Kn : Known (gxOf l.prog w K mg base (fun _ => none) (fun x => List.lookup x [((Str.ofString "NoPromise"), X0)])) names tab := by
    refine ⟨fun x g n hm => ?_, fun x d hm => ?_, fun x hm => ?_, fun x g n hm => ?_, fun m cl g n hm => ?_, fun cl f hm => ?_, rfl, rfl, rfl, fun h cs hm => ?_, fun y C hy => ?_, (fun b hb => nomatch hb), fun y hm => ?_, fun x kvs hm => ?_⟩
    · simp only [names, List.mem_cons, List.not_mem_nil, or_false, Prod.mk.injEq] at hm
      rcases hm with ⟨rfl, rfl, rfl⟩ | ⟨rfl, rfl, rfl⟩ | ⟨rfl, rfl, rfl⟩ | ⟨rfl, rfl, rfl⟩ | ⟨rfl, rfl, rfl⟩ | ⟨rfl, rfl, rfl⟩
      · exact ⟨"_law_cell_at", "_law_cell_at", _, _, p__law_cell_at, s__law_cell_at, N__law_cell_at, df__law_cell_at, ⟨F0, rfl, rfl, rfl, b0, sc__law_cell_at, rfl, 400, t__law_cell_at⟩, PySem.W.mg_of X G a14⟩
      · exact ⟨"_law_drawn", "_law_drawn", _, _, p__law_drawn, s__law_drawn, N__law_drawn, df__law_drawn, ⟨F1, rfl, rfl, rfl, b1, sc__law_drawn, rfl, 400, t__law_drawn⟩, PySem.W.mg_of X G a38⟩
      · exact ⟨"_law_due", "_law_due", _, _, p__law_due, s__law_due, N__law_due, df__law_due, ⟨F2, rfl, rfl, rfl, b2, sc__law_due, rfl, 400, t__law_due⟩, PySem.W.mg_of X G a40⟩
      · exact ⟨"implies", "implies", _, _, p_implies, s_implies, N_implies, df_implies, ⟨F3, rfl, rfl, rfl, b3, sc_implies, rfl, 400, t_implies⟩, PySem.W.mg_of X G a265⟩
      · exact ⟨"_law_refused", "_law_refused", _, _, p__law_refused, s__law_refused, N__law_refused, df__law_refused, ⟨F4, rfl, rfl, rfl, b4, sc__law_refused, rfl, 400, t__law_refused⟩, PySem.W.mg_of X G a77⟩
      · exact ⟨"law", "law", _, _, p_law, s_law, N_law, df_law, ⟨F5, rfl, rfl, rfl, b5, sc_law, rfl, 400, t_law⟩, PySem.W.mg_of X G a21⟩
    · simp only [names, List.mem_cons, List.not_mem_nil, or_false, Prod.mk.injEq] at hm
      rcases hm with ⟨rfl, rfl⟩
      · exact con_of (PySem.W.mg_of X G q0) (KRep.tup tl9 (KReps.cons (KRep.str) (KReps.cons (KRep.str) (KReps.cons (KRep.str) (KReps.cons (KRep.str) (KReps.cons (KRep.str) (KReps.cons (KRep.str) (KReps.cons (KRep.str) (KReps.cons (KRep.str) (KReps.nil))))))))) (by decide))
    · simp only [names, List.mem_cons, List.not_mem_nil, or_false] at hm
      rcases hm with rfl | rfl | rfl | rfl | rfl | rfl
      · exact PySem.W.mg_none_of X G z0
      · exact PySem.W.mg_none_of X G z1
      · exact PySem.W.mg_none_of X G z2
      · exact PySem.W.mg_none_of X G z3
      · exact PySem.W.mg_none_of X G z4
      · exact PySem.W.mg_none_of X G z5
    · exact nomatch hm
    · exact nomatch hm
    · exact nomatch hm
    · simp only [names, List.mem_cons, List.not_mem_nil, or_false, Prod.mk.injEq] at hm
      rcases hm with ⟨rfl, rfl⟩ | ⟨rfl, rfl⟩ | ⟨rfl, rfl⟩ | ⟨rfl, rfl⟩ | ⟨rfl, rfl⟩ | ⟨rfl, rfl⟩ | ⟨rfl, rfl⟩ | ⟨rfl, rfl⟩
      · refine ⟨(.ref Y0), (.ref Y0), .inl ⟨PySem.W.mg_of X G ya0, _, rfl, rfl⟩, by decide +kernel, fun y C hy => ?_⟩
        have hy := lookup_mem (show List.lookup y [((Str.ofString "NoPromise"), X0)] = some C from hy)
        simp only [List.mem_cons, List.not_mem_nil, or_false, Prod.mk.injEq] at hy
        rcases hy with ⟨rfl, rfl⟩
        · exact xq_own yb0 yd0 yt0 xs0 xq0_0
      · refine ⟨(.ref Y1), (.ref Y1), .inl ⟨PySem.W.mg_of X G ya1, _, rfl, rfl⟩, by decide +kernel, fun y C hy => ?_⟩
        have hy := lookup_mem (show List.lookup y [((Str.ofString "NoPromise"), X0)] = some C from hy)
        simp only [List.mem_cons, List.not_mem_nil, or_false, Prod.mk.injEq] at hy
        rcases hy with ⟨rfl, rfl⟩
        · exact xq_own yb1 yd1 yt1 xs0 xq0_1
      · refine ⟨(.ref Y2), (.ref Y2), .inl ⟨PySem.W.mg_of X G ya2, _, rfl, rfl⟩, by decide +kernel, fun y C hy => ?_⟩
        have hy := lookup_mem (show List.lookup y [((Str.ofString "NoPromise"), X0)] = some C from hy)
        simp only [List.mem_cons, List.not_mem_nil, or_false, Prod.mk.injEq] at hy
        rcases hy with ⟨rfl, rfl⟩
        · exact xq_own yb2 yd2 yt2 xs0 xq0_2
      · refine ⟨(.ref Y3), (.ref Y3), .inl ⟨PySem.W.mg_of X G ya3, _, rfl, rfl⟩, by decide +kernel, fun y C hy => ?_⟩
        have hy := lookup_mem (show List.lookup y [((Str.ofString "NoPromise"), X0)] = some C from hy)
        simp only [List.mem_cons, List.not_mem_nil, or_false, Prod.mk.injEq] at hy
        rcases hy with ⟨rfl, rfl⟩
        · exact xq_own yb3 yd3 yt3 xs0 xq0_3
      · refine ⟨(.ref X0), (.ref X0), .inl ⟨PySem.W.mg_of X G xa0, _, rfl, rfl⟩, by decide +kernel, fun y C hy => ?_⟩
        have hy := lookup_mem (show List.lookup y [((Str.ofString "NoPromise"), X0)] = some C from hy)
        simp only [List.mem_cons, List.not_mem_nil, or_false, Prod.mk.injEq] at hy
        rcases hy with ⟨rfl, rfl⟩
        · exact xq_own xb0 xd0 xt0 xs0 xq0_4
      · refine ⟨.ty "ValueError", (.type "ValueError"), .inr ⟨PySem.W.mg_none_of X G ya5, by kernel_rfl, by decide +kernel, _, rfl, rfl⟩, by decide +kernel, fun y C hy => ?_⟩
        have hy := lookup_mem (show List.lookup y [((Str.ofString "NoPromise"), X0)] = some C from hy)
        simp only [List.mem_cons, List.not_mem_nil, or_false, Prod.mk.injEq] at hy
        rcases hy with ⟨rfl, rfl⟩
        · exact xq_ty (by kernel_rfl) yb5 xq0_5
      · refine ⟨(.ref Y6), (.ref Y6), .inl ⟨PySem.W.mg_of X G ya6, _, rfl, rfl⟩, by decide +kernel, fun y C hy => ?_⟩
        have hy := lookup_mem (show List.lookup y [((Str.ofString "NoPromise"), X0)] = some C from hy)
        simp only [List.mem_cons, List.not_mem_nil, or_false, Prod.mk.injEq] at hy
        rcases hy with ⟨rfl, rfl⟩
        · exact xq_own yb6 yd6 yt6 xs0 xq0_6
      · refine ⟨(.ref Y7), (.ref Y7), .inl ⟨PySem.W.mg_of X G ya7, _, rfl, rfl⟩, by decide +kernel, fun y C hy => ?_⟩
        have hy := lookup_mem (show List.lookup y [((Str.ofString "NoPromise"), X0)] = some C from hy)
        simp only [List.mem_cons, List.not_mem_nil, or_false, Prod.mk.injEq] at hy
        rcases hy with ⟨rfl, rfl⟩
        · exact xq_own yb7 yd7 yt7 xs0 xq0_7
    ·   skip
        have hy := lookup_mem (show List.lookup y [((Str.ofString "NoPromise"), X0)] = some C from hy)
        simp only [List.mem_cons, List.not_mem_nil, or_false, Prod.mk.injEq] at hy
        rcases hy with ⟨rfl, rfl⟩
        · exact xc_mk xg0 xk0 xb0 xd0 xc0 xn xv xm0 xt0 xp0
    · simp only [names, List.mem_cons, List.not_mem_nil, or_false] at hm
      rcases hm with rfl
      · exact ⟨X0, by kernel_rfl, xe0, PySem.W.mg_of X G xa0, by decide +kernel⟩
    · simp only [names, List.mem_cons, List.not_mem_nil, or_false, Prod.mk.injEq] at hm
      rcases hm with ⟨rfl, rfl⟩
      · exact md_of (PySem.W.mg_of X G mq0) ml0 ms0 (MdRep.cons (KRep.tup tl18 (KReps.cons (KRep.str) (KReps.cons (KRep.str) (KReps.cons (KRep.str) (KReps.cons (KRep.str) (KReps.cons (KRep.str) (KReps.cons (KRep.str) (KReps.cons (KRep.str) (KReps.cons (KRep.str) (KReps.nil))))))))) (by decide)) (MdRep.cons (KRep.tup tl25 (KReps.cons (KRep.str) (KReps.cons (KRep.str) (KReps.cons (KRep.str) (KReps.cons (KRep.str) (KReps.cons (KRep.str) (KReps.cons (KRep.str) (KReps.nil))))))) (by decide)) (MdRep.cons (KRep.tup tl30 (KReps.cons (KRep.str) (KReps.cons (KRep.str) (KReps.cons (KRep.str) (KReps.cons (KRep.str) (KReps.nil))))) (by decide)) (MdRep.cons (KRep.tup tl34 (KReps.cons (KRep.str) (KReps.cons (KRep.str) (KReps.cons (KRep.str) (KReps.nil)))) (by decide)) (MdRep.cons (KRep.tup tl36 (KReps.cons (KRep.str) (KReps.nil)) (by decide)) (MdRep.cons (KRep.tup tl38 (KReps.cons (KRep.str) (KReps.nil)) (by decide)) (MdRep.cons (KRep.tup tl41 (KReps.cons (KRep.str) (KReps.cons (KRep.str) (KReps.nil))) (by decide)) (MdRep.cons (KRep.tup tl43 (KReps.cons (KRep.str) (KReps.nil)) (by decide)) (MdRep.nil)))))))))
  exact fn_law (G := (gxOf l.prog w K mg base (fun _ => none) (fun x => List.lookup x [((Str.ofString "NoPromise"), X0)]))) rfl (m := run tab 4) (fn_level Kn 4 _ _ _ _ _ _ _ _ _ _ I) truth
end CI.Lw
open PySem PySem.W PyProof.Rows
set_option maxHeartbeats 0 in
theorem PySem.Challenge.cw_storejudge_k52_what_implies_what_holds : PySem.Challenge.rw_storejudge_k52_what_implies_what.Holds := by
  w_on; o_law; k_head; (case hw => w_witness2)
  k_fill
  refine L2.walk_ofB (l := PySem.Challenge.rw_storejudge_k52_what_implies_what) (n := 63) (k := 8) (x := "_law_script") (CX := fun w => L2.CX PySem.Challenge.rw_storejudge_k52_what_implies_what.prog w) (sp := fun w => CI.spL _) rfl (by decide) rfl ⟨rfl, by decide, by decide⟩ (fun w h Y => PySem.W.kIn_of Y) ?F (fun _ _ a ns hl hb _ hS => ⟨a, ns, rfl, hl, hb, hS, fun _ => rfl⟩) (fun w H s e s' h => CI.no_exc _ w H s e s' h)
  case F =>
    intro w mg fa h KX G hmg
    refine' CI.Lw.all_mk KX G hmg ?a14 ?l0 ?c0 ?k0 ?a38 ?l1 ?c1 ?k1 ?a40 ?l2 ?c2 ?k2 ?a265 ?l3 ?c3 ?k3 ?a77 ?l4 ?c4 ?k4 ?a21 ?l5 ?c5 ?k5 ?q0 ?tl9 ?mq0 ?ml0 ?ms0 ?tl43 ?tl41 ?tl38 ?tl36 ?tl34 ?tl30 ?tl25 ?tl18 ?z0 ?z1 ?z2 ?z3 ?z4 ?z5 ?xa0 ?xe0 ?xg0 ?xk0 ?xb0 ?xd0 ?xc0 ?xm0 ?xt0 ?xp0 ?xs0 ?xn ?xv ?ya0 ?yb0 ?yd0 ?yt0 ?xq0_0 ?ya1 ?yb1 ?yd1 ?yt1 ?xq0_1 ?ya2 ?yb2 ?yd2 ?yt2 ?xq0_2 ?ya3 ?yb3 ?yd3 ?yt3 ?xq0_3 ?xq0_4 ?ya5 ?yb5 ?xq0_5 ?ya6 ?yb6 ?yd6 ?yt6 ?xq0_6 ?ya7 ?yb7 ?yd7 ?yt7 ?xq0_7
    (case a14 => k_is); (case l0 => k_is); (case c0 => k_is); (case k0 => k_is); (case a38 => k_is); (case l1 => k_is); (case c1 => k_is); (case k1 => k_is); (case a40 => k_is); (case l2 => k_is); (case c2 => k_is); (case k2 => k_is); (case a265 => k_is); (case l3 => k_is); (case c3 => k_is); (case k3 => k_is); (case a77 => k_is); (case l4 => k_is); (case c4 => k_is); (case k4 => k_is); (case a21 => k_is); (case l5 => k_is); (case c5 => k_is); (case k5 => k_is); (case q0 => k_is); (case tl9 => k_is); (case mq0 => k_is); (case ml0 => k_is); (case ms0 => decide); (case tl43 => k_is); (case tl41 => k_is); (case tl38 => k_is); (case tl36 => k_is); (case tl34 => k_is); (case tl30 => k_is); (case tl25 => k_is); (case tl18 => k_is); (case z0 => k_is); (case z1 => k_is); (case z2 => k_is); (case z3 => k_is); (case z4 => k_is); (case z5 => k_is); (case xa0 => k_is); (case xe0 => k_exc); (case xg0 => k_is); (case xk0 => k_is); (case xb0 => k_is); (case xd0 => k_is); (case xc0 => k_is); (case xm0 => k_is); (case xt0 => k_is); (case xp0 => k_is); (case xs0 => k_is); (case xn => k_is); (case xv => k_is); (case ya0 => k_is); (case yb0 => k_is); (case yd0 => k_is); (case yt0 => k_is); (case xq0_0 => k_is); (case ya1 => k_is); (case yb1 => k_is); (case yd1 => k_is); (case yt1 => k_is); (case xq0_1 => k_is); (case ya2 => k_is); (case yb2 => k_is); (case yd2 => k_is); (case yt2 => k_is); (case xq0_2 => k_is); (case ya3 => k_is); (case yb3 => k_is); (case yd3 => k_is); (case yt3 => k_is); (case xq0_3 => k_is); (case xq0_4 => k_is); (case ya5 => k_is); (case yb5 => k_is); (case xq0_5 => k_is); (case ya6 => k_is); (case yb6 => k_is); (case yd6 => k_is); (case yt6 => k_is); (case xq0_6 => k_is); (case ya7 => k_is); (case yb7 => k_is); (case yd7 => k_is); (case yt7 => k_is); (case xq0_7 => k_is)

