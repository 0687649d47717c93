import PyProof.Rows.All
import Wide.All
import OpenK.AllK
import Wide.FinOn
import HandS.ForMost
import HandS.Nested
import HandS.Lambda
import HandS.TupAny
import HandS.TupMul
import HandS.IsInst
import HandS.Deep
import HandS.SortInts
import HandS.Wide
import HandS.ForDict
import HandS.Walk
import HandS.Zip
import HandS.DictComp
import HandS.Conv
import KE.GoesEnum
import HandS.WordsDict
import HandS.Small
import HandS.Exc
import HandS.Defaults
import HandS.RaiseMore
import PyProof.ReprRoads
import HandS.Star
import HandS.Style
import KE.OsGo
import HandS.ForSpec
import HandS.TryMany
import HandS.HeadHook3
import HandS.EndTab
import HandS.HeadHook4
import PyProof.ReprLen
import KE.KExcIs
import HandS.ExcIs
import PyProof.InstNe
import HandS.MakeKwOnly
import HandS.MakeKw
import HandS.Head0
import HandS.Head1
import HandS.Head2
import HandS.HeadEnd
import HandS.HeadHook1
import HandS.HeadHook2
import PySem.Challenge.RW_telltracks_k78_followers_made
set_option Elab.async false
set_option linter.all false
set_option maxRecDepth 100000
set_option maxHeartbeats 0
/-! Sv1: values, stores, outcomes; how they lie in the abstract heap. -/
namespace Sv
open PySem L2 LamX

/-! ### values -/
inductive D where
  | non | bl (b : Bool) | int (i : Int) | str (x : Str)
  | tup (ds : List D) | lst (ds : List D) | frl (ds : List D) | dct (ks : List Key) (vs : List D)
  | ref (n : Nat)
  | fnv

/-- what stands in the store -/
inductive Ob where
  | lst (ds : List D)
  | dct (ks : List Key) (vs : List D)
  | ins (c : Str) (fs : List (Str × D))
abbrev Store := List Ob

/-- an exception: its class's name, its own field -/
structure Ex where
  cls : Str
  fld : Option (Str × D)

inductive Out (α : Type) where
  | ok (a : α) (st : Store)
  | ex (e : Ex) (st : Store)
  | bad
abbrev M (α : Type) := Store → Out α
def ret {α : Type} (a : α) : M α := fun st => .ok a st
def bnd {α β : Type} (x : M α) (k : α → M β) : M β := fun st => match x st with
  | .ok a st' => k a st'
  | .ex e st' => .ex e st'
  | .bad => .bad
def bad {α : Type} : M α := fun _ => .bad
/-- nothing is raised -/
def calmly {α : Type} (x : M α) : M α := fun st => match x st with
  | .ok a st' => .ok a st'
  | _ => .bad
theorem bnd_ok {α β : Type} {x : M α} {k : α → M β} {st st' : Store} {a : α} (h : x st = .ok a st') : bnd x k st = k a st' := by
  unfold bnd
  rw [h]
theorem bnd_run {α β : Type} (x : M α) (k : α → M β) (st : Store) : bnd x k st = match x st with
  | .ok a st' => k a st'
  | .ex e st' => .ex e st'
  | .bad => .bad := rfl

abbrev Env := List (Option D)

/-! ### how a value lies in the heap -/
/-- a world: what never changes any more; where the store's objects lie; what is held aside -/
structure Wd where
  F : Hp
  m : List Addr
  P : List (Addr × HO)
  f : Option Addr
/-- tables of code objects; a world that is known to stand; the address of the function value -/
structure Tb where
  tabs : List (Addr × Str)
  lo : Option Wd
  fa : Option Addr
/-- what is fixed: the written part, the module's names, the tables -/
structure Gd where
  K : PySem.W.Frag
  mg : Str → Option Value
  T : Tb
mutual
inductive RV (K : PySem.W.Frag) (W : Wd) : D → V → Prop
  | non : RV K W .non .non
  | bl (b : Bool) : RV K W (.bl b) (.bl b)
  | int (i : Int) : RV K W (.int i) (.int i)
  | str (x : Str) : RV K W (.str x) (.str x)
  | tup {a : Addr} {xs : List V} {ds : List D} : SqT K W.F a xs → RVs K W ds xs → RV K W (.tup ds) (.ref a)
  | lst {a : Addr} {xs : List V} {ds : List D} : W.F a = some (.lst xs) → RVs K W ds xs → RV K W (.lst ds) (.ref a)
  | frl {a : Addr} {xs : List V} {ds : List D} : SqL K W.F a xs → RVs K W ds xs → RV K W (.frl ds) (.ref a)
  | dct {a : Addr} {o : Obj} {kvs : List (Key × V)} {vs : List D} : W.F a = some (.frz o (.dK kvs)) → RVs K W vs (kvs.map (·.2)) → RV K W (.dct (kvs.map (·.1)) vs) (.ref a)
  | ref {n : Nat} {a : Addr} : W.m[n]? = some a → RV K W (.ref n) (.ref a)
inductive RVs (K : PySem.W.Frag) (W : Wd) : List D → List V → Prop
  | nil : RVs K W [] []
  | cons {d : D} {v : V} {ds : List D} {vs : List V} : RV K W d v → RVs K W ds vs → RVs K W (d :: ds) (v :: vs)
end

/-- a world that knows more -/
structure ExtB (W W' : Wd) : Prop where
  F : ∀ a o, W.F a = some o → W'.F a = some o
  m : ∃ more, W'.m = W.m ++ more
structure Ext0 (W W' : Wd) : Prop extends ExtB W W' where
  f : W'.f = W.f
/-- a later world -/
structure Ext (W W' : Wd) : Prop extends Ext0 W W' where
  P : W'.P = W.P
theorem Ext0.refl (W : Wd) : Ext0 W W := ⟨⟨fun _ _ h => h, [], by simp⟩, rfl⟩
theorem Ext0.trans {W W1 W2 : Wd} (a : Ext0 W W1) (b : Ext0 W1 W2) : Ext0 W W2 := by
  obtain ⟨m1, e1⟩ := a.m
  obtain ⟨m2, e2⟩ := b.m
  exact ⟨⟨fun x o h => b.F x o (a.F x o h), m1 ++ m2, by rw [e2, e1, List.append_assoc]⟩, b.f.trans a.f⟩
theorem Ext.refl (W : Wd) : Ext W W := ⟨Ext0.refl W, rfl⟩
theorem Ext.trans {W W1 W2 : Wd} (a : Ext W W1) (b : Ext W1 W2) : Ext W W2 := ⟨a.toExt0.trans b.toExt0, b.P.trans a.P⟩
theorem ExtB.get {W W' : Wd} (e : ExtB W W') {n : Nat} {a : Addr} (h : W.m[n]? = some a) : W'.m[n]? = some a := by
  obtain ⟨more, q⟩ := e.m
  rw [q]
  exact List.getElem?_append_left (List.getElem?_eq_some_iff.mp h).1 ▸ h
theorem rd_ext {F F' : Hp} (e : ∀ a o, F a = some o → F' a = some o) {a : Addr} {u : HO} (h : Rd F a u) : Rd F' a u := by
  rcases h with h | ⟨o, h⟩
  · exact .inl (e _ _ h)
  · exact .inr ⟨o, e _ _ h⟩
theorem sqL_ext {K : PySem.W.Frag} {F F' : Hp} (e : ∀ a o, F a = some o → F' a = some o) {a : Addr} {xs : List V} (h : SqL K F a xs) : SqL K F' a xs := by
  rcases h with h | h
  · exact .inl (rd_ext e h)
  · exact .inr h
theorem sqT_ext {K : PySem.W.Frag} {F F' : Hp} (e : ∀ a o, F a = some o → F' a = some o) {a : Addr} {xs : List V} (h : SqT K F a xs) : SqT K F' a xs := by
  rcases h with h | h
  · exact .inl (rd_ext e h)
  · exact .inr h
mutual
theorem RV.extB {K : PySem.W.Frag} {W W' : Wd} (e : ExtB W W') : ∀ {d : D} {v : V}, RV K W d v → RV K W' d v
  | _, _, .non => .non
  | _, _, .bl b => .bl b
  | _, _, .int i => .int i
  | _, _, .str x => .str x
  | _, _, .tup h r => .tup (sqT_ext e.F h) (RVs.extB e r)
  | _, _, .lst h r => .lst (e.F _ _ h) (RVs.extB e r)
  | _, _, .frl h r => .frl (sqL_ext e.F h) (RVs.extB e r)
  | _, _, .dct h q => .dct (e.F _ _ h) (RVs.extB e q)
  | _, _, .ref h => .ref (e.get h)
theorem RVs.extB {K : PySem.W.Frag} {W W' : Wd} (e : ExtB W W') : ∀ {ds : List D} {vs : List V}, RVs K W ds vs → RVs K W' ds vs
  | _, _, .nil => .nil
  | _, _, .cons r t => .cons (RV.extB e r) (RVs.extB e t)
end
theorem RV.ext0 {K : PySem.W.Frag} {W W' : Wd} (e : Ext0 W W') {d : D} {v : V} (r : RV K W d v) : RV K W' d v := r.extB e.toExtB
theorem RVs.ext0 {K : PySem.W.Frag} {W W' : Wd} (e : Ext0 W W') {ds : List D} {vs : List V} (r : RVs K W ds vs) : RVs K W' ds vs := r.extB e.toExtB
theorem RV.ext {K : PySem.W.Frag} {W W' : Wd} (e : Ext W W') {d : D} {v : V} (r : RV K W d v) : RV K W' d v := r.ext0 e.toExt0
theorem RVs.ext {K : PySem.W.Frag} {W W' : Wd} (e : Ext W W') {ds : List D} {vs : List V} (r : RVs K W ds vs) : RVs K W' ds vs := r.ext0 e.toExt0
theorem RVs.length {K : PySem.W.Frag} {W : Wd} : ∀ {ds : List D} {vs : List V}, RVs K W ds vs → ds.length = vs.length
  | _, _, .nil => rfl
  | _, _, .cons _ t => by rw [List.length_cons, List.length_cons, RVs.length t]
theorem RVs.append {K : PySem.W.Frag} {W : Wd} : ∀ {ds es : List D} {vs us : List V}, RVs K W ds vs → RVs K W es us → RVs K W (ds ++ es) (vs ++ us)
  | _, _, _, _, .nil, s => s
  | _, _, _, _, .cons r t, s => .cons r (RVs.append t s)
theorem RVs.get {K : PySem.W.Frag} {W : Wd} : ∀ {ds : List D} {vs : List V} {i : Nat} {d : D}, RVs K W ds vs → ds[i]? = some d → ∃ v, vs[i]? = some v ∧ RV K W d v
  | _, _, i, _, .nil, e => by simp at e
  | _, _, 0, d, .cons r _, e => by
    simp at e
    subst e
    exact ⟨_, rfl, r⟩
  | _, _, i + 1, d, .cons _ t, e => by
    obtain ⟨v, h1, h2⟩ := RVs.get (i := i) t (by simpa using e)
    exact ⟨v, by simpa using h1, h2⟩
theorem RVs.getv {K : PySem.W.Frag} {W : Wd} : ∀ {ds : List D} {vs : List V} {i : Nat} {v : V}, RVs K W ds vs → vs[i]? = some v → ∃ d, ds[i]? = some d ∧ RV K W d v
  | _, _, i, _, .nil, e => by simp at e
  | _, _, 0, v, .cons r _, e => by
    simp at e
    subst e
    exact ⟨_, rfl, r⟩
  | _, _, i + 1, v, .cons _ t, e => by
    obtain ⟨d, h1, h2⟩ := RVs.getv (i := i) t (by simpa using e)
    exact ⟨d, by simpa using h1, h2⟩
theorem RVs.take {K : PySem.W.Frag} {W : Wd} : ∀ {ds : List D} {vs : List V} (n : Nat), RVs K W ds vs → RVs K W (ds.take n) (vs.take n)
  | _, _, 0, _ => by simpa using RVs.nil
  | _, _, n + 1, .nil => by simpa using RVs.nil
  | _, _, n + 1, .cons r t => by simpa using RVs.cons r (RVs.take n t)
theorem RVs.drop {K : PySem.W.Frag} {W : Wd} : ∀ {ds : List D} {vs : List V} (n : Nat), RVs K W ds vs → RVs K W (ds.drop n) (vs.drop n)
  | _, _, 0, r => by simpa using r
  | _, _, n + 1, .nil => by simpa using RVs.nil
  | _, _, n + 1, .cons _ t => by simpa using RVs.drop n t
theorem RVs.set {K : PySem.W.Frag} {W : Wd} {d : D} {v : V} (r : RV K W d v) : ∀ {ds : List D} {vs : List V} (i : Nat), RVs K W ds vs → RVs K W (ds.set i d) (vs.set i v)
  | _, _, _, .nil => by simpa using RVs.nil
  | _, _, 0, .cons _ t => by simpa using RVs.cons r t
  | _, _, i + 1, .cons q t => by simpa using RVs.cons q (RVs.set r i t)
theorem RVs.reverse {K : PySem.W.Frag} {W : Wd} : ∀ {ds : List D} {vs : List V}, RVs K W ds vs → RVs K W ds.reverse vs.reverse
  | _, _, .nil => by simpa using RVs.nil
  | _, _, .cons r t => by
    rw [List.reverse_cons, List.reverse_cons]
    exact (RVs.reverse t).append (.cons r .nil)
theorem RVs.ints {K : PySem.W.Frag} {W : Wd} : ∀ {ns : List Int} {vs : List V}, RVs K W (ns.map D.int) vs → vs = ns.map V.int
  | [], _, r => by cases r; rfl
  | n :: ns, _, r => by
    cases r with
    | cons a t =>
      cases a
      rw [RVs.ints t]
      rfl
theorem rvs_ints {K : PySem.W.Frag} {W : Wd} : ∀ (ns : List Int), RVs K W (ns.map D.int) (ns.map V.int)
  | [] => .nil
  | n :: ns => .cons (.int n) (rvs_ints ns)
theorem rvs_bls {K : PySem.W.Frag} {W : Wd} : ∀ {bs : List Bool} {vs : List V}, RVs K W (bs.map D.bl) vs → vs = bs.map V.bl
  | [], _, r => by cases r; rfl
  | n :: ns, _, r => by
    cases r with
    | cons a t =>
      cases a
      rw [rvs_bls t]
      rfl
theorem rvs_strs {K : PySem.W.Frag} {W : Wd} : ∀ {bs : List Str} {vs : List V}, RVs K W (bs.map D.str) vs → vs = bs.map V.str
  | [], _, r => by cases r; rfl
  | n :: ns, _, r => by
    cases r with
    | cons a t =>
      cases a
      rw [rvs_strs t]
      rfl

/-! ### the store in the heap -/
/-- fields of an instance -/
inductive RFs (K : PySem.W.Frag) (W : Wd) : List (Str × D) → List (Str × V) → Prop
  | nil : RFs K W [] []
  | cons {f : Str} {d : D} {v : V} {fs : List (Str × D)} {gs : List (Str × V)} : RV K W d v → RFs K W fs gs → RFs K W ((f, d) :: fs) ((f, v) :: gs)
theorem RFs.ext0 {K : PySem.W.Frag} {W W' : Wd} (e : Ext0 W W') : ∀ {fs : List (Str × D)} {gs : List (Str × V)}, RFs K W fs gs → RFs K W' fs gs
  | _, _, .nil => .nil
  | _, _, .cons r t => .cons (r.ext0 e) (RFs.ext0 e t)
theorem RFs.length {K : PySem.W.Frag} {W : Wd} : ∀ {fs : List (Str × D)} {gs : List (Str × V)}, RFs K W fs gs → fs.length = gs.length
  | _, _, .nil => rfl
  | _, _, .cons _ t => by rw [List.length_cons, List.length_cons, RFs.length t]
theorem RFs.look {K : PySem.W.Frag} {W : Wd} {f : Str} : ∀ {fs : List (Str × D)} {gs : List (Str × V)}, RFs K W fs gs → (∀ d, fs.lookup f = some d → ∃ v, gs.lookup f = some v ∧ RV K W d v) ∧ (fs.lookup f = none → gs.lookup f = none)
  | _, _, .nil => ⟨fun d h => by simp at h, fun _ => rfl⟩
  | _, _, .cons (f := g) (d := d0) (v := v0) (fs := fs) (gs := gs) r t => by
    obtain ⟨h1, h2⟩ := RFs.look (f := f) t
    cases q : f == g with
    | true =>
      have e1 : List.lookup f ((g, d0) :: fs) = some d0 := by simp [List.lookup, q]
      have e2 : List.lookup f ((g, v0) :: gs) = some v0 := by simp [List.lookup, q]
      refine ⟨fun d h => ?_, fun h => ?_⟩
      · rw [e1] at h
        cases h
        exact ⟨v0, e2, r⟩
      · rw [e1] at h
        cases h
    | false =>
      have e1 : List.lookup f ((g, d0) :: fs) = List.lookup f fs := by simp [List.lookup, q]
      have e2 : List.lookup f ((g, v0) :: gs) = List.lookup f gs := by simp [List.lookup, q]
      rw [e1, e2]
      exact ⟨h1, h2⟩
/-- a field stored -/
def putD (f : Str) (d : D) : List (Str × D) → List (Str × D)
  | [] => [(f, d)]
  | (g, e) :: r => if g = f then (g, d) :: r else (g, e) :: putD f d r
theorem RFs.put {K : PySem.W.Frag} {W : Wd} {f : Str} {d : D} {v : V} (r : RV K W d v) : ∀ {fs : List (Str × D)} {gs : List (Str × V)}, RFs K W fs gs → RFs K W (putD f d fs) (putF f v gs)
  | _, _, .nil => .cons r .nil
  | _, _, .cons (f := g) q t => by
    unfold putD putF
    by_cases h : g = f
    · rw [if_pos h, if_pos h]
      exact .cons r t
    · rw [if_neg h, if_neg h]
      exact .cons q (RFs.put r t)
def ObR (G : Gd) (W : Wd) (H : Hp) (a : Addr) : Ob → Prop
  | .lst ds => ∃ vs, H a = some (.lst vs) ∧ RVs G.K W ds vs
  | .dct ks vs => ∃ kvs, H a = some (.dK kvs) ∧ kvs.map (·.1) = ks ∧ RVs G.K W vs (kvs.map (·.2))
  | .ins c fs => ∃ C dx gs, G.mg c = some (.ref C) ∧ H a = some (.ins C dx gs) ∧ RFs G.K W fs gs
theorem ObR.ext0 {G : Gd} {W W' : Wd} (e : Ext0 W W') {H H' : Hp} {a : Addr} (h : H' a = H a) : ∀ {o : Ob}, ObR G W H a o → ObR G W' H' a o
  | .lst _, ⟨vs, x, r⟩ => ⟨vs, h.trans x, r.ext0 e⟩
  | .dct _ _, ⟨kvs, x, r, q⟩ => ⟨kvs, h.trans x, r, q.ext0 e⟩
  | .ins _ _, ⟨C, dx, gs, g, x, r⟩ => ⟨C, dx, gs, g, h.trans x, r.ext0 e⟩
theorem ObR.ext {G : Gd} {W W' : Wd} (e : Ext W W') {H H' : Hp} {a : Addr} (h : H' a = H a) {o : Ob} (r : ObR G W H a o) : ObR G W' H' a o := r.ext0 e.toExt0 h
/-- a kind of object that the store may hold -/
def Kd : HO → Prop
  | .lst _ => True
  | .dK _ => True
  | .ins _ _ _ => True
  | _ => False
theorem ObR.kind {G : Gd} {W : Wd} {H : Hp} {a : Addr} : ∀ {o : Ob}, ObR G W H a o → ∃ u, H a = some u ∧ Kd u
  | .lst _, ⟨_, x, _⟩ => ⟨_, x, trivial⟩
  | .dct _ _, ⟨_, x, _, _⟩ => ⟨_, x, trivial⟩
  | .ins _ _, ⟨_, _, _, _, x, _⟩ => ⟨_, x, trivial⟩
/-- neither a table nor a foreign object -/
def NoX (o : HO) : Prop := (∀ ps, o ≠ .tbl ps) ∧ ∀ φ, o ≠ .ext φ
structure HeapOk (G : Gd) (W : Wd) (st : Store) (H : Hp) : Prop where
  fz : ∀ a o, W.F a = some o → H a = some o
  len : W.m.length = st.length
  inj : ∀ (i j : Nat) (a : Addr), W.m[i]? = some a → W.m[j]? = some a → i = j
  ob : ∀ (n : Nat) (o : Ob), st[n]? = some o → ∃ a, W.m[n]? = some a ∧ W.F a = none ∧ ObR G W H a o
  tab : Tabs G.T.tabs H
  pr : ∀ q ∈ W.P, H q.1 = some q.2 ∧ W.F q.1 = none ∧ q.1 ∉ W.m ∧ NoX q.2
  nt : ∀ a ps, W.F a ≠ some (.tbl ps)
/-- a slot's value: a function too -/
inductive RVf (K : PySem.W.Frag) (W : Wd) : D → V → Prop
  | v {d : D} {v : V} : RV K W d v → RVf K W d v
  | fn {a : Addr} : W.f = some a → RVf K W .fnv (.ref a)
theorem RVf.ext0 {K : PySem.W.Frag} {W W' : Wd} (e : Ext0 W W') {d : D} {v : V} (r : RVf K W d v) : RVf K W' d v := by
  cases r with
  | v h => exact .v (h.ext0 e)
  | fn h => exact .fn (e.f.trans h)
theorem RVf.ext {K : PySem.W.Frag} {W W' : Wd} (e : Ext W W') {d : D} {v : V} (r : RVf K W d v) : RVf K W' d v := r.ext0 e.toExt0
/-- a frame's names -/
structure Fr (G : Gd) (W : Wd) (σ : St) (env : Env) : Prop where
  len : σ.length = env.length
  sl : ∀ (i : Nat) (d : D), env[i]? = some (some d) → ∃ v, σ[i]? = some (some v) ∧ RVf G.K W d v
  lo : ∀ B, G.T.lo = some B → ExtB B W
  fx : ∀ a, G.T.fa = some a → W.f = some a
structure Rel (G : Gd) (W : Wd) (σ : St) (H : Hp) (env : Env) (st : Store) : Prop extends Fr G W σ env where
  hp : HeapOk G W st H
theorem ExtB.trans {W W1 W2 : Wd} (a : ExtB W W1) (b : ExtB W1 W2) : ExtB W W2 := by
  obtain ⟨m1, e1⟩ := a.m
  obtain ⟨m2, e2⟩ := b.m
  exact ⟨fun x o h => b.F x o (a.F x o h), m1 ++ m2, by rw [e2, e1, List.append_assoc]⟩
theorem Fr.ext0 {G : Gd} {W W' : Wd} {σ : St} {env : Env} (r : Fr G W σ env) (e : Ext0 W W') : Fr G W' σ env :=
  ⟨r.len, fun i d q => let ⟨v, a, b⟩ := r.sl i d q; ⟨v, a, b.ext0 e⟩, fun B q => (r.lo B q).trans e.toExtB, fun a q => e.f.trans (r.fx a q)⟩
theorem Rel.ext {G : Gd} {W W' : Wd} {σ : St} {H H' : Hp} {env : Env} {st st' : Store} (r : Rel G W σ H env st) (e : Ext W W') (h : HeapOk G W' st' H') : Rel G W' σ H' env st' := ⟨r.toFr.ext0 e.toExt0, h⟩
theorem Fr.set {G : Gd} {W : Wd} {σ : St} {env : Env} {d : D} {v : V} (r : Fr G W σ env) (q : RVf G.K W d v) (i : Nat) : Fr G W (σ.set i (some v)) (env.set i (some d)) := by
  refine ⟨by rw [List.length_set, List.length_set]; exact r.len, fun j e h => ?_, r.lo, r.fx⟩
  by_cases hj : i = j
  · subst hj
    have hl : i < env.length := by
      have := (List.getElem?_eq_some_iff.mp h).1
      rwa [List.length_set] at this
    rw [List.getElem?_set_self hl] at h
    cases h
    exact ⟨v, List.getElem?_set_self (by rw [r.len]; exact hl), q⟩
  · rw [List.getElem?_set_ne hj] at h
    obtain ⟨u, a, b⟩ := r.sl j e h
    exact ⟨u, by rw [List.getElem?_set_ne hj]; exact a, b⟩
theorem Rel.set {G : Gd} {W : Wd} {σ : St} {H : Hp} {env : Env} {st : Store} {d : D} {v : V} (r : Rel G W σ H env st) (q : RV G.K W d v) (i : Nat) : Rel G W (σ.set i (some v)) H (env.set i (some d)) st := ⟨r.toFr.set (.v q) i, r.hp⟩
theorem Fr.wipe1 {G : Gd} {W : Wd} {σ : St} {env : Env} (r : Fr G W σ env) (x : Option V) (i : Nat) : Fr G W (σ.set i x) (env.set i none) := by
  refine ⟨by rw [List.length_set, List.length_set]; exact r.len, fun j e h => ?_, r.lo, r.fx⟩
  by_cases hj : i = j
  · subst hj
    have hl : i < env.length := by
      have := (List.getElem?_eq_some_iff.mp h).1
      rwa [List.length_set] at this
    rw [List.getElem?_set_self hl] at h
    cases h
  · rw [List.getElem?_set_ne hj] at h
    obtain ⟨u, a, b⟩ := r.sl j e h
    exact ⟨u, by rw [List.getElem?_set_ne hj]; exact a, b⟩
theorem Rel.wipe1 {G : Gd} {W : Wd} {σ : St} {H : Hp} {env : Env} {st : Store} (r : Rel G W σ H env st) (i : Nat) : Rel G W (σ.set i none) H (env.set i none) st := ⟨r.toFr.wipe1 none i, r.hp⟩
end Sv
/-! Sv2: judgements: an expression, a test, arguments, statements against their meaning; the plain rules. -/
namespace Sv
open PySem L2 LamX

/-- an exception as it lies -/
def ExR (G : Gd) (W : Wd) (_H : Hp) (e : Ex) (cls : Value) (d : Option Addr) : Prop :=
  ∃ C, G.mg e.cls = some (.ref C) ∧ cls = .ref C ∧ match e.fld with
    | none => d = none
    | some (f, x) => ∃ dd v, d = some dd ∧ W.F dd = some (.xd [(f, v)]) ∧ RV G.K W x v

/-- what is wanted of an outcome -/
def Post (G : Gd) (Wx : WX) (σ : St) {α : Type} (W : Wd) (R : Wd → α → Store → Hp → Prop) : Out α → Prop
  | .ok a st => ∀ W' H', Ext W W' → HeapOk G W' st H' → R W' a st H'
  | .ex e st => ∀ W' cls d H', Ext W W' → HeapOk G W' st H' → ExR G W' H' e cls d → Wx cls d σ H'
  | .bad => False
theorem Post.ext {G : Gd} {Wx : WX} {σ : St} {α : Type} {W W1 : Wd} {R : Wd → α → Store → Hp → Prop} (e : Ext W W1) : ∀ {o : Out α}, Post G Wx σ W R o → Post G Wx σ W1 R o
  | .ok _ _, h => fun W' H' x k => h W' H' (e.trans x) k
  | .ex _ _, h => fun W' c d H' x k q => h W' c d H' (e.trans x) k q
  | .bad, h => h
theorem Post.imp {G : Gd} {Wx : WX} {σ : St} {α β : Type} {W : Wd} {R : Wd → α → Store → Hp → Prop} {S : Wd → β → Store → Hp → Prop} {k : α → M β} {x : M α} {st : Store}
    (h : Post G Wx σ W S (bnd x k st)) (hR : ∀ W' a st' H', Ext W W' → HeapOk G W' st' H' → Post G Wx σ W' S (k a st') → R W' a st' H') : Post G Wx σ W R (x st) := by
  rw [bnd_run] at h
  cases q : x st with
  | ok a st' =>
    rw [q] at h
    exact fun W' H' e k => hR W' a st' H' e k (Post.ext e h)
  | ex e st' =>
    rw [q] at h
    exact h
  | bad =>
    rw [q] at h
    exact h
theorem Post.mono {G : Gd} {Wx : WX} {σ : St} {α : Type} {W : Wd} {R S : Wd → α → Store → Hp → Prop} (hR : ∀ W' a st' H', Ext W W' → HeapOk G W' st' H' → R W' a st' H' → S W' a st' H') : ∀ {o : Out α}, Post G Wx σ W R o → Post G Wx σ W S o
  | .ok a st, h => fun W' H' e k => hR W' a st H' e k (h W' H' e k)
  | .ex _ _, h => h
  | .bad, h => h

/-- a guarded meaning -/
def gd {α : Type} (c : Bool) (x : M α) : M α := fun st => match c with
  | true => x st
  | false => .bad
theorem Post.gd {G : Gd} {Wx : WX} {σ : St} {α : Type} {W : Wd} {R : Wd → α → Store → Hp → Prop} {c : Bool} {x : M α} {st : Store} (h : Post G Wx σ W R (Sv.gd c x st)) : c = true ∧ Post G Wx σ W R (x st) := by
  cases c with
  | true => exact ⟨rfl, h⟩
  | false => exact h.elim
abbrev Wpost (G : Gd) (Q : VK) : Wd → D → Store → Hp → Prop := fun W d _ H => ∀ v, RV G.K W d v → Q v H

/-- an expression's reading by its meaning -/
def tE (G : Gd) (Wx : WX) (f : Env → M D) : TE := fun σ H Q => ∃ W env st, Rel G W σ H env st ∧ Post G Wx σ W (Wpost G Q) (f env st)
def tA (G : Gd) (Wx : WX) (f : Env → M (List D)) : TA := fun σ H Q => ∃ W env st, Rel G W σ H env st ∧ Post G Wx σ W (fun W ds _ H => ∀ vs, RVs G.K W ds vs → Q vs H) (f env st)
def tT (G : Gd) (Wx : WX) (f : Env → M Bool) : TT := fun σ H Q => ∃ W env st, Rel G W σ H env st ∧ Post G Wx σ W (fun _ b _ H => Q b H) (f env st)
def asBool : D → M Bool
  | .bl b => ret b
  | _ => bad

/-- a statement's outcome -/
inductive SOut where
  | nx (env : Env) (st : Store)
  | rt (d : D) (st : Store)
  | bk (env : Env) (st : Store)
  | ct (env : Env) (st : Store)
  | ex (e : Ex) (env : Env) (st : Store)
  | bad
abbrev SM := Env → Store → SOut
def PostS (G : Gd) (Wx : WX) (W : Wd) (D : Ends) : SOut → Prop
  | .nx env st => ∀ W' σ H, Ext W W' → Rel G W' σ H env st → D.nx σ H
  | .rt d st => ∀ W' H v, Ext W W' → HeapOk G W' st H → RV G.K W' d v → D.rt v H
  | .bk env st => ∀ W' σ H, Ext W W' → Rel G W' σ H env st → D.bk σ H
  | .ct env st => ∀ W' σ H, Ext W W' → Rel G W' σ H env st → D.ct σ H
  | .ex e env st => ∀ W' σ H cls d, Ext W W' → Rel G W' σ H env st → ExR G W' H e cls d → Wx cls d σ H
  | .bad => False
theorem PostS.ext {G : Gd} {Wx : WX} {W W1 : Wd} {D : Ends} (e : Ext W W1) : ∀ {o : SOut}, PostS G Wx W D o → PostS G Wx W1 D o
  | .nx _ _, h => fun W' σ H x r => h W' σ H (e.trans x) r
  | .rt _ _, h => fun W' H v x r q => h W' H v (e.trans x) r q
  | .bk _ _, h => fun W' σ H x r => h W' σ H (e.trans x) r
  | .ct _ _, h => fun W' σ H x r => h W' σ H (e.trans x) r
  | .ex _ _ _, h => fun W' σ H c d x r q => h W' σ H c d (e.trans x) r q
  | .bad, h => h
def tS (G : Gd) (Wx : WX) (f : SM) : TS := fun D σ H => ∃ W env st, Rel G W σ H env st ∧ PostS G Wx W D (f env st)

/-! ### the judgements -/
abbrev Gof (X : Cx) (T : Tb) : Gd := ⟨X.K, X.mg, T⟩
structure SE (X : Cx) (T : Tb) (Wx : WX) (e : Expr) (f : Env → M D) : Prop where
  pe : PE X e (tE (Gof X T) Wx f)
structure ST (X : Cx) (T : Tb) (Wx : WX) (e : Expr) (f : Env → M D) : Prop where
  pt : PT X e (tT (Gof X T) Wx fun env => bnd (f env) asBool)
structure SA (X : Cx) (T : Tb) (Wx : WX) (es : List Expr) (f : Env → M (List D)) : Prop where
  pa : PA X es (tA (Gof X T) Wx f)
structure SS (X : Cx) (T : Tb) (Wx : WX) (s : Stmt) (f : SM) : Prop where
  ps : PS X s (tS (Gof X T) Wx f)
structure SB (X : Cx) (T : Tb) (Wx : WX) (s : List Stmt) (f : SM) : Prop where
  pss : PSs X s (tS (Gof X T) Wx f)

theorem _root_.L2.PE.imp {X : Cx} {e : Expr} {t t' : TE} (h : PE X e t) (i : ∀ σ H Q, t' σ H Q → t σ H Q) : PE X e t' := ⟨fun pins s σ H Q I k => h.run pins s σ H Q I (i _ _ _ k)⟩
theorem _root_.L2.PT.imp {X : Cx} {e : Expr} {t t' : TT} (h : PT X e t) (i : ∀ σ H Q, t' σ H Q → t σ H Q) : PT X e t' := ⟨fun pins s σ H Q I k => h.run pins s σ H Q I (i _ _ _ k)⟩
theorem _root_.L2.PA.imp {X : Cx} {es : List Expr} {t t' : TA} (h : PA X es t) (i : ∀ σ H Q, t' σ H Q → t σ H Q) : PA X es t' := ⟨fun pos pins s σ H Q I k => h.run pos pins s σ H Q I (i _ _ _ k)⟩
theorem _root_.L2.PS.imp {X : Cx} {e : Stmt} {t t' : TS} (h : PS X e t) (i : ∀ D σ H, t' D σ H → t D σ H) : PS X e t' := ⟨fun pins s σ H D I k => h.run pins s σ H D I (i _ _ _ k)⟩
theorem _root_.L2.PSs.imp {X : Cx} {e : List Stmt} {t t' : TS} (h : PSs X e t) (i : ∀ D σ H, t' D σ H → t D σ H) : PSs X e t' := ⟨fun pins s σ H D I k => h.run pins s σ H D I (i _ _ _ k)⟩

/-- the first part of a reading, then what hangs on it -/
theorem tE_bind {G : Gd} {Wx : WX} {α : Type} {f : Env → M D} {k : Env → D → M α} {σ : St} {H : Hp} {W : Wd} {env : Env} {st : Store} {S : Wd → α → Store → Hp → Prop} {Q : VK} (r : Rel G W σ H env st)
    (h : Post G Wx σ W S (bnd (f env) (k env) st)) (hQ : ∀ W1 d st1 H1 v, Ext W W1 → Rel G W1 σ H1 env st1 → RV G.K W1 d v → Post G Wx σ W1 S (k env d st1) → Q v H1) : tE G Wx f σ H Q :=
  ⟨W, env, st, r, Post.imp h fun W1 d st1 H1 e ok p v q => hQ W1 d st1 H1 v e (r.ext e ok) q p⟩
theorem tA_bind {G : Gd} {Wx : WX} {α : Type} {f : Env → M (List D)} {k : Env → List D → M α} {σ : St} {H : Hp} {W : Wd} {env : Env} {st : Store} {S : Wd → α → Store → Hp → Prop} {Q : List V → Hp → Prop} (r : Rel G W σ H env st)
    (h : Post G Wx σ W S (bnd (f env) (k env) st)) (hQ : ∀ W1 ds st1 H1 vs, Ext W W1 → Rel G W1 σ H1 env st1 → RVs G.K W1 ds vs → Post G Wx σ W1 S (k env ds st1) → Q vs H1) : tA G Wx f σ H Q :=
  ⟨W, env, st, r, Post.imp h fun W1 ds st1 H1 e ok p vs q => hQ W1 ds st1 H1 vs e (r.ext e ok) q p⟩
theorem tT_bind {G : Gd} {Wx : WX} {α : Type} {f : Env → M Bool} {k : Env → Bool → M α} {σ : St} {H : Hp} {W : Wd} {env : Env} {st : Store} {S : Wd → α → Store → Hp → Prop} {Q : Bool → Hp → Prop} (r : Rel G W σ H env st)
    (h : Post G Wx σ W S (bnd (f env) (k env) st)) (hQ : ∀ W1 b st1 H1, Ext W W1 → Rel G W1 σ H1 env st1 → Post G Wx σ W1 S (k env b st1) → Q b H1) : tT G Wx f σ H Q :=
  ⟨W, env, st, r, Post.imp h fun W1 b st1 H1 e ok p => hQ W1 b st1 H1 e (r.ext e ok) p⟩
/-- the end: a value -/
theorem Post.here {G : Gd} {Wx : WX} {σ : St} {W : Wd} {Q : VK} {d : D} {v : V} {st : Store} {H : Hp} (h : Post G Wx σ W (Wpost G Q) (.ok d st)) (ok : HeapOk G W st H) (r : RV G.K W d v) : Q v H := h W H (Ext.refl W) ok v r

/-! ### new frozen objects -/
theorem upd_keeps {F : Hp} {p : Addr} {o : HO} (h : F p = none) : ∀ a u, F a = some u → upd F p o a = some u := fun a u e => by
  rw [upd_ne (ne_of_none e h)]
  exact e
theorem HeapOk.fresh {G : Gd} {W : Wd} {st : Store} {H : Hp} (ok : HeapOk G W st H) {p : Addr} (hp : H p = none) : W.F p = none := by
  cases e : W.F p with
  | none => rfl
  | some o =>
    have := ok.fz p o e
    rw [hp] at this
    cases this
theorem HeapOk.frozen {G : Gd} {W : Wd} {st : Store} {H : Hp} {p : Addr} {o : HO} (ok : HeapOk G W st H) (hp : H p = none) (ho : ∀ ps, o ≠ .tbl ps := by exact fun ps z => nomatch z) :
    Ext W ⟨upd W.F p o, W.m, W.P, W.f⟩ ∧ HeapOk G ⟨upd W.F p o, W.m, W.P, W.f⟩ st (upd H p o) := by
  have hF := ok.fresh hp
  have e : Ext W ⟨upd W.F p o, W.m, W.P, W.f⟩ := ⟨⟨⟨upd_keeps hF, [], by simp⟩, rfl⟩, rfl⟩
  refine ⟨e, fun a u h => ?_, ok.len, ok.inj, fun n u h => ?_, ok.tab.ext (upd_keeps hp), fun q hq => ?_, fun a ps z => ?_⟩
  · by_cases ha : a = p
    · subst ha
      have h' : upd W.F a o a = some u := h
      rw [upd_same] at h' ⊢
      exact h'
    · have h' : upd W.F p o a = some u := h
      rw [upd_ne ha] at h' ⊢
      exact ok.fz a u h'
  · obtain ⟨a, h1, h2, h3⟩ := ok.ob n u h
    obtain ⟨u', h4, _⟩ := h3.kind
    have ha : a ≠ p := ne_of_none h4 hp
    exact ⟨a, h1, (upd_ne ha).trans h2, h3.ext e (upd_ne ha)⟩
  · obtain ⟨q1, q2, q3⟩ := ok.pr q hq
    have ha : q.1 ≠ p := ne_of_none q1 hp
    exact ⟨(upd_ne ha).trans q1, (upd_ne ha).trans q2, q3⟩
  · have z : upd W.F p o a = some (.tbl ps) := z
    by_cases ha : a = p
    · subst ha
      rw [upd_same] at z
      exact ho ps (Option.some.inj z)
    · rw [upd_ne ha] at z
      exact ok.nt a ps z
theorem HeapOk.newTup {G : Gd} {W : Wd} {st : Store} {H : Hp} {p : Addr} {xs : List V} {ds : List D} (ok : HeapOk G W st H) (hp : H p = none) (r : RVs G.K W ds xs) :
    ∃ W', Ext W W' ∧ HeapOk G W' st (upd H p (.tup xs)) ∧ RV G.K W' (.tup ds) (.ref p) := by
  obtain ⟨e, ok'⟩ := ok.frozen (o := .tup xs) hp
  exact ⟨_, e, ok', .tup (.inl (.inl upd_same)) (r.ext e)⟩
theorem HeapOk.newLst {G : Gd} {W : Wd} {st : Store} {H : Hp} {p : Addr} {xs : List V} {ds : List D} (ok : HeapOk G W st H) (hp : H p = none) (r : RVs G.K W ds xs) :
    ∃ W', Ext W W' ∧ HeapOk G W' st (upd H p (.lst xs)) ∧ RV G.K W' (.lst ds) (.ref p) := by
  obtain ⟨e, ok'⟩ := ok.frozen (o := .lst xs) hp
  exact ⟨_, e, ok', .lst upd_same (r.ext e)⟩
/-- a new object of the store -/
theorem HeapOk.newOb {G : Gd} {W : Wd} {st : Store} {H H' : Hp} {p : Addr} {o : Ob} (ok : HeapOk G W st H) (hp : H p = none) (hk : ∀ a u, H a = some u → H' a = some u) (hF : W.F p = none)
    (h : ∀ W', Ext W W' → ObR G W' H' p o) : ∃ W', Ext W W' ∧ HeapOk G W' (st ++ [o]) H' ∧ RV G.K W' (.ref st.length) (.ref p) := by
  have e : Ext W ⟨W.F, W.m ++ [p], W.P, W.f⟩ := ⟨⟨⟨fun _ _ h => h, [p], rfl⟩, rfl⟩, rfl⟩
  have old : ∀ (i : Nat) (a : Addr), W.m[i]? = some a → ∃ u, H a = some u := fun i a q => by
    have hi := (List.getElem?_eq_some_iff.mp q).1
    rw [ok.len] at hi
    obtain ⟨a', h1, _, h3⟩ := ok.ob i st[i] (List.getElem?_eq_getElem hi)
    rw [q] at h1
    cases h1
    obtain ⟨u, h4, _⟩ := h3.kind
    exact ⟨u, h4⟩
  have last : ∀ (i : Nat) (a : Addr), (W.m ++ [p])[i]? = some a → (W.m[i]? = some a) ∨ (i = W.m.length ∧ a = p) := fun i a q => by
    by_cases hi : i < W.m.length
    · rw [List.getElem?_append_left hi] at q
      exact .inl q
    · rw [List.getElem?_append_right (by omega)] at q
      have hi' : i - W.m.length = 0 := by
        have := (List.getElem?_eq_some_iff.mp q).1
        simp at this
        omega
      rw [hi'] at q
      have q' : p = a := by simpa using q
      exact .inr ⟨by omega, q'.symm⟩
  refine ⟨_, e, ⟨fun a u q => hk a u (ok.fz a u q), by simp [ok.len], fun i j a qi qj => ?_, fun n u q => ?_, ok.tab.ext hk, fun q hq => ?_, ok.nt⟩, .ref ?_⟩
  · rcases last i a qi with x | ⟨x, y⟩
    · rcases last j a qj with x' | ⟨x', y'⟩
      · exact ok.inj i j a x x'
      · obtain ⟨u, z⟩ := old i a x
        rw [y', hp] at z
        cases z
    · rcases last j a qj with x' | ⟨x', y'⟩
      · obtain ⟨u, z⟩ := old j a x'
        rw [y, hp] at z
        cases z
      · omega
  · by_cases hn : n < st.length
    · rw [List.getElem?_append_left hn] at q
      obtain ⟨a, h1, h2, h3⟩ := ok.ob n u q
      obtain ⟨u', h4, _⟩ := h3.kind
      exact ⟨a, e.get h1, h2, h3.ext e (by rw [h4]; exact hk _ _ h4)⟩
    · rw [List.getElem?_append_right (by omega)] at q
      have hn' : n - st.length = 0 := by
        have := (List.getElem?_eq_some_iff.mp q).1
        simp at this
        omega
      rw [hn'] at q
      have q' : o = u := by simpa using q
      subst q'
      refine ⟨p, ?_, hF, h _ e⟩
      show (W.m ++ [p])[n]? = some p
      rw [List.getElem?_append_right (by rw [ok.len]; omega), ok.len, hn']
      rfl
  · obtain ⟨q1, q2, q3, q4⟩ := ok.pr q hq
    refine ⟨hk _ _ q1, q2, fun z => ?_, q4⟩
    rcases List.mem_append.mp z with z | z
    · exact q3 z
    · have z : q.1 = p := by simpa using z
      rw [z, hp] at q1
      cases q1
  · show (W.m ++ [p])[st.length]? = some p
    rw [← ok.len, List.getElem?_append_right (Nat.le_refl _)]
    simp
/-- an object of the store is changed -/
theorem HeapOk.setOb {G : Gd} {W : Wd} {st : Store} {H : Hp} {n : Nat} {a : Addr} {u : HO} {o : Ob} (ok : HeapOk G W st H) (hm : W.m[n]? = some a) (h : ObR G W (upd H a u) a o) : HeapOk G W (st.set n o) (upd H a u) := by
  have hn : n < st.length := by
    rw [← ok.len]
    exact (List.getElem?_eq_some_iff.mp hm).1
  obtain ⟨a', h1, h2, h3⟩ := ok.ob n st[n] (List.getElem?_eq_getElem hn)
  rw [hm] at h1
  cases h1
  obtain ⟨v, h4, kd⟩ := h3.kind
  refine ⟨fun b w q => ?_, by rw [List.length_set]; exact ok.len, ok.inj, fun j w q => ?_, ?_, fun q hq => ?_, ok.nt⟩
  · have hb : b ≠ a := fun z => by
      rw [z, h2] at q
      cases q
    rw [upd_ne hb]
    exact ok.fz b w q
  · by_cases hj : n = j
    · subst hj
      rw [List.getElem?_set_self hn] at q
      cases q
      exact ⟨a, hm, h2, h⟩
    · rw [List.getElem?_set_ne hj] at q
      obtain ⟨b, k1, k2, k3⟩ := ok.ob j w q
      have hb : b ≠ a := fun z => hj (ok.inj n j a hm (z ▸ k1))
      exact ⟨b, k1, k2, k3.ext (Ext.refl W) (upd_ne hb)⟩
  · intro p hp
    obtain ⟨ps, t1, t2, t3⟩ := ok.tab p hp
    have n1 : p.1 ≠ a := fun z => by
      rw [z, h4] at t1
      cases t1
      exact kd
    refine ⟨ps, by rw [upd_ne n1]; exact t1, t2, fun pos cv q => ?_⟩
    obtain ⟨c, e1, e2⟩ := t3 pos cv q
    have n2 : c ≠ a := fun z => by
      rw [z, h4] at e2
      cases e2
      exact kd
    exact ⟨c, e1, by rw [upd_ne n2]; exact e2⟩
  · obtain ⟨q1, q2, q3, q4⟩ := ok.pr q hq
    have hb : q.1 ≠ a := fun z => q3 (z ▸ List.mem_of_getElem? hm)
    exact ⟨(upd_ne hb).trans q1, q2, q3, q4⟩
theorem HeapOk.at_ {G : Gd} {W : Wd} {st : Store} {H : Hp} {n : Nat} {o : Ob} {v : V} (ok : HeapOk G W st H) (h : st[n]? = some o) (r : RV G.K W (.ref n) v) : ∃ a, v = .ref a ∧ W.m[n]? = some a ∧ W.F a = none ∧ ObR G W H a o := by
  cases r with
  | ref q =>
    obtain ⟨a', h1, h2, h3⟩ := ok.ob n o h
    rw [q] at h1
    cases h1
    exact ⟨_, rfl, q, h2, h3⟩
theorem HeapOk.sqT {G : Gd} {W : Wd} {st : Store} {H : Hp} {a : Addr} {xs : List V} (ok : HeapOk G W st H) (h : SqT G.K W.F a xs) : SqT G.K H a xs := sqT_ext ok.fz h
theorem HeapOk.sqL {G : Gd} {W : Wd} {st : Store} {H : Hp} {a : Addr} {xs : List V} (ok : HeapOk G W st H) (h : SqL G.K W.F a xs) : SqL G.K H a xs := sqL_ext ok.fz h

/-! ### names and constants -/
def sVar (i : Nat) : Env → M D := fun env st => match env[i]? with
  | some (some .fnv) => .bad
  | some (some d) => .ok d st
  | _ => .bad
def sCon (d : D) : Env → M D := fun _ => ret d
section
variable {X : Cx} {T : Tb} {Wx : WX}
theorem se_var {i : Nat} {x : Str} {pos : Pos} (hN : X.N[i]? = some x) (hv : Vis X.env.scope x) (hd : (x == ("__debug__" : Str)) = false := by decide) (hcd : (x == ("__classdict__" : Str)) = false := by decide) : SE X T Wx (.Name x pos) (sVar i) := by
  refine ⟨(pe_var hN hv hd hcd).imp fun σ H Q => ?_⟩
  rintro ⟨W, env, st, r, h⟩
  unfold sVar at h
  cases q : env[i]? with
  | none => rw [q] at h; exact h.elim
  | some o =>
    cases o with
    | none => rw [q] at h; exact h.elim
    | some d =>
      rw [q] at h
      obtain ⟨v, e, rv⟩ := r.sl i d q
      cases rv with
      | fn _ => exact h.elim
      | v rv =>
        refine ⟨v, e, Post.here (Wx := Wx) (σ := σ) (d := d) ?_ r.hp rv⟩
        cases d <;> first | exact h | exact nomatch rv
theorem se_con {e : Expr} {v : V} {d : D} (h : PE X e (tC v)) (rv : ∀ W, RV X.K W d v) : SE X T Wx e (sCon d) := by
  refine ⟨h.imp fun σ H Q => ?_⟩
  rintro ⟨W, env, st, r, h⟩
  exact Post.here (d := d) (v := v) h r.hp (rv W)
theorem se_int {i : Int} {j pos} : SE X T Wx (.Constant (.int i) j pos) (sCon (.int i)) := se_con pe_int fun _ => .int i
theorem se_bl {b j pos} : SE X T Wx (.Constant (.bool b) j pos) (sCon (.bl b)) := se_con pe_bl fun _ => .bl b
theorem se_non {j pos} : SE X T Wx (.Constant .none j pos) (sCon .non) := se_con pe_non fun _ => .non
theorem se_str {x j pos} : SE X T Wx (.Constant (.str x) j pos) (sCon (.str x)) := se_con pe_str fun _ => .str x
/-- a module's constant: an int, a text -/
theorem se_globi {x : Str} {i : Int} {u : Value} {pos : Pos} (hg : Gl X x) (hm : X.mg x = some u) (r : RelV (.int i) u) (hd : (x == ("__debug__" : Str)) = false := by decide) : SE X T Wx (.Name x pos) (sCon (.int i)) := se_con (pe_glob hg hm r hd) fun _ => .int i
theorem se_globs {x z : Str} {u : Value} {pos : Pos} (hg : Gl X x) (hm : X.mg x = some u) (r : RelV (.str z) u) (hd : (x == ("__debug__" : Str)) = false := by decide) : SE X T Wx (.Name x pos) (sCon (.str z)) := se_con (pe_glob hg hm r hd) fun _ => .str z

/-! ### operators by values -/
def s2 (g : D → D → M D) (fa fb : Env → M D) : Env → M D := fun env => bnd (fa env) fun a => bnd (fb env) fun b => g a b
def s1 (g : D → M D) (fa : Env → M D) : Env → M D := fun env => bnd (fa env) g
/-- an operator's rule serves a meaning -/
def Serves (K : PySem.W.Frag) (mg : Str → Option Value) (T : Tb) (Wx : WX) (r : R2) (g : D → D → M D) : Prop :=
  ∀ (W : Wd) (σ : St) (a b : D) (x y : V) (st : Store) (H : Hp) (Q : VK), HeapOk ⟨K, mg, T⟩ W st H → RV K W a x → RV K W b y → Post ⟨K, mg, T⟩ Wx σ W (Wpost ⟨K, mg, T⟩ Q) (g a b st) → r x y H Q
theorem two {r : R2} {g : D → D → M D} {fa fb : Env → M D} (hs : Serves X.K X.mg T Wx r g) {σ : St} {H : Hp} {Q : VK} (h : tE (Gof X T) Wx (s2 g fa fb) σ H Q) : tOp r (tE (Gof X T) Wx fa) (tE (Gof X T) Wx fb) σ H Q := by
  obtain ⟨W, env, st, rl, h⟩ := h
  refine tE_bind (k := fun env a => bnd (fb env) fun b => g a b) rl h fun W1 a st1 H1 x e1 r1 ra h1 => ?_
  refine tE_bind (k := fun _ b => g a b) r1 h1 fun W2 b st2 H2 y e2 r2 rb h2 => ?_
  exact hs W2 σ a b x y st2 H2 Q r2.hp (ra.ext e2) rb h2
theorem se_op {op : Operator} {r : R2} {g : D → D → M D} {a b : Expr} {fa fb : Env → M D} {pos : Pos} (ho : OpR X (binaryOp op) r) (hs : Serves X.K X.mg T Wx r g) (ha : SE X T Wx a fa) (hb : SE X T Wx b fb) : SE X T Wx (.BinOp a op b pos) (s2 g fa fb) :=
  ⟨(pe_op ho ha.pe hb.pe).imp fun _ _ _ h => two hs h⟩
theorem se_cmp {op : CmpOp} {r : R2} {g : D → D → M D} {a b : Expr} {fa fb : Env → M D} {pos : Pos} (ho : OpR X (compareOp op) r) (hs : Serves X.K X.mg T Wx r g) (ha : SE X T Wx a fa) (hb : SE X T Wx b fb) (hm : behindInMarks op b = false) : SE X T Wx (.Compare a [op] [b] pos) (s2 g fa fb) :=
  ⟨(pe_cmpR ho ha.pe hb.pe hm).imp fun _ _ _ h => two hs h⟩
theorem st_cmp {op : CmpOp} {r : R2} {g : D → D → M D} {a b : Expr} {fa fb : Env → M D} {pos : Pos} (ho : OpR X (compareOp op) r) (hs : Serves X.K X.mg T Wx r g) (ha : SE X T Wx a fa) (hb : SE X T Wx b fb) (hm : behindInMarks op b = false) : ST X T Wx (.Compare a [op] [b] pos) (s2 g fa fb) := by
  refine ⟨(pt_cmpR ho ha.pe hb.pe hm).imp fun σ H Q => ?_⟩
  rintro ⟨W, env, st, rl, h⟩
  refine two hs ⟨W, env, st, rl, Post.imp h fun W1 d st1 H1 e ok p v rv => ?_⟩
  cases rv with
  | bl b => exact ⟨b, rfl, p W1 H1 (Ext.refl _) ok⟩
  | _ => exact p.elim
/-- a plain expression as a test -/
theorem st_val {e : Expr} {f : Env → M D} (h : SE X T Wx e f) (he : ∀ whole, isTrue e X.env whole = (do let v ← whole; standAt e.pos; holding [v] (truthy v)) := by intro _; rfl) : ST X T Wx e f := by
  refine ⟨(pt_val h.pe he).imp fun σ H Q => ?_⟩
  rintro ⟨W, env, st, rl, h⟩
  refine ⟨W, env, st, rl, Post.imp h fun W1 d st1 H1 e ok p v rv => ?_⟩
  cases rv with
  | bl b => exact ⟨b, rfl, p W1 H1 (Ext.refl _) ok⟩
  | _ => exact p.elim

/-! ### and, or, not, if -/
def sAnd (fa fb : Env → M D) : Env → M D := fun env => bnd (fa env) fun a => match a with
    | .bl true => fb env
    | .bl false => ret (.bl false)
    | _ => bad
def sOr (fa fb : Env → M D) : Env → M D := fun env => bnd (fa env) fun a => match a with
    | .bl true => ret (.bl true)
    | .bl false => fb env
    | _ => bad
def sNot (fa : Env → M D) : Env → M D := fun env => bnd (fa env) fun a => match a with
    | .bl b => ret (.bl (!b))
    | _ => bad
def sIte (fc fa fb : Env → M D) : Env → M D := fun env => bnd (fc env) fun c => match c with
    | .bl true => fa env
    | .bl false => fb env
    | _ => bad
variable {a b c : Expr} {fa fb fc : Env → M D} {rest : List Expr} {pos : Pos}
theorem se_one {op} {f : Env → M D} (h : SE X T Wx a f) : SE X T Wx (.BoolOp op [a] pos) f := ⟨pe_one h.pe⟩
theorem se_and (ha : SE X T Wx a fa) (hb : SE X T Wx (.BoolOp .And (b :: rest) pos) fb) : SE X T Wx (.BoolOp .And (a :: b :: rest) pos) (sAnd fa fb) := by
  refine ⟨(pe_and ha.pe hb.pe).imp fun σ H Q => ?_⟩
  rintro ⟨W, env, st, rl, h⟩
  refine tE_bind (k := fun env a => match a with | .bl true => fb env | .bl false => ret (.bl false) | _ => bad) rl h fun W1 d st1 H1 v e1 r1 rv p => ?_
  cases rv with
  | bl c =>
    cases c with
    | true => exact ⟨true, rfl, W1, env, st1, r1, p⟩
    | false => exact ⟨false, rfl, p.here r1.hp (.bl false)⟩
  | _ => exact p.elim
theorem se_or (ha : SE X T Wx a fa) (hb : SE X T Wx (.BoolOp .Or (b :: rest) pos) fb) : SE X T Wx (.BoolOp .Or (a :: b :: rest) pos) (sOr fa fb) := by
  refine ⟨(pe_or ha.pe hb.pe).imp fun σ H Q => ?_⟩
  rintro ⟨W, env, st, rl, h⟩
  refine tE_bind (k := fun env a => match a with | .bl true => ret (.bl true) | .bl false => fb env | _ => bad) rl h fun W1 d st1 H1 v e1 r1 rv p => ?_
  cases rv with
  | bl c =>
    cases c with
    | true => exact ⟨true, rfl, p.here r1.hp (.bl true)⟩
    | false => exact ⟨false, rfl, W1, env, st1, r1, p⟩
  | _ => exact p.elim
theorem se_not (ha : SE X T Wx a fa) : SE X T Wx (.UnaryOp .Not a pos) (sNot fa) := by
  refine ⟨(pe_not ha.pe).imp fun σ H Q => ?_⟩
  rintro ⟨W, env, st, rl, h⟩
  refine tE_bind (α := D) (k := fun env a => match a with | .bl b => ret (.bl (!b)) | _ => bad) rl h fun W1 d st1 H1 v e1 r1 rv p => ?_
  cases rv with
  | bl c => exact ⟨c, rfl, p.here r1.hp (.bl (!c))⟩
  | _ => exact p.elim
theorem se_ite (hc : ST X T Wx c fc) (ha : SE X T Wx a fa) (hb : SE X T Wx b fb) : SE X T Wx (.IfExp c a b pos) (sIte fc fa fb) := by
  refine ⟨(pe_ifExp hc.pt ha.pe hb.pe).imp fun σ H Q => ?_⟩
  rintro ⟨W, env, st, rl, h⟩
  have h' : Post (Gof X T) Wx σ W (Wpost (Gof X T) Q) (bnd (bnd (fc env) asBool) (fun b => if b then fa env else fb env) st) := by
    have e : sIte fc fa fb env st = bnd (bnd (fc env) asBool) (fun b => if b then fa env else fb env) st := by
      unfold sIte
      rw [bnd_run, bnd_run, bnd_run]
      cases fc env st with
      | ok d st' =>
        cases d with
        | bl b => cases b <;> rfl
        | _ => rfl
      | _ => rfl
    rw [← e]
    exact h
  refine tT_bind (f := fun env => bnd (fc env) asBool) (k := fun env b => if b then fa env else fb env) rl h' fun W1 d st1 H1 e1 r1 p => ?_
  cases d with
  | true => exact ⟨W1, env, st1, r1, p⟩
  | false => exact ⟨W1, env, st1, r1, p⟩
/-- tests -/
structure SW (X : Cx) (T : Tb) (Wx : WX) (e : Expr) (f : Env → M D) : Prop where
  pw : PW X e (tT (Gof X T) Wx fun env => bnd (f env) asBool)
theorem SW.st {e : Expr} {f : Env → M D} (h : SW X T Wx e f) : ST X T Wx e f := ⟨h.pw.pt⟩
theorem _root_.L2.PW.imp {X : Cx} {e : Expr} {t t' : TT} (h : PW X e t) (i : ∀ σ H Q, t' σ H Q → t σ H Q) : PW X e t' := ⟨fun wh pins s σ H Q I k => h.run wh pins s σ H Q I (i _ _ _ k)⟩
theorem sw_one_and (h : ST X T Wx a fa) : SW X T Wx (.BoolOp .And [a] pos) fa := ⟨pw_and1 h.pt⟩
theorem sw_one_or (h : ST X T Wx a fa) : SW X T Wx (.BoolOp .Or [a] pos) fa := ⟨pw_or1 h.pt⟩
theorem and_eq (env : Env) (st : Store) : bnd (sAnd fa fb env) asBool st = bnd (bnd (fa env) asBool) (fun b => if b then bnd (fb env) asBool else ret false) st := by
  unfold sAnd
  simp only [bnd_run]
  cases fa env st with
  | ok d st' =>
    cases d with
    | bl b => cases b <;> rfl
    | _ => rfl
  | _ => rfl
theorem or_eq (env : Env) (st : Store) : bnd (sOr fa fb env) asBool st = bnd (bnd (fa env) asBool) (fun b => if b then ret true else bnd (fb env) asBool) st := by
  unfold sOr
  simp only [bnd_run]
  cases fa env st with
  | ok d st' =>
    cases d with
    | bl b => cases b <;> rfl
    | _ => rfl
  | _ => rfl
theorem not_eq (env : Env) (st : Store) : bnd (sNot fa env) asBool st = bnd (bnd (fa env) asBool) (fun b => ret (!b)) st := by
  unfold sNot
  simp only [bnd_run]
  cases fa env st with
  | ok d st' =>
    cases d with
    | bl b => cases b <;> rfl
    | _ => rfl
  | _ => rfl
theorem sw_and (ha : ST X T Wx a fa) (hb : SW X T Wx (.BoolOp .And (b :: rest) pos) fb) : SW X T Wx (.BoolOp .And (a :: b :: rest) pos) (sAnd fa fb) := by
  refine ⟨(pw_and ha.pt hb.pw).imp fun σ H Q => ?_⟩
  rintro ⟨W, env, st, rl, h⟩
  have h' := (and_eq (fa := fa) (fb := fb) env st) ▸ (show Post (Gof X T) Wx σ W (fun _ b _ H => Q b H) (bnd (sAnd fa fb env) asBool st) from h)
  refine tT_bind (f := fun env => bnd (fa env) asBool) (k := fun env b => if b then bnd (fb env) asBool else ret false) rl h' fun W1 d st1 H1 e1 r1 p => ?_
  cases d with
  | true => exact ⟨W1, env, st1, r1, p⟩
  | false => exact p W1 H1 (Ext.refl _) r1.hp
theorem sw_or (ha : ST X T Wx a fa) (hb : SW X T Wx (.BoolOp .Or (b :: rest) pos) fb) : SW X T Wx (.BoolOp .Or (a :: b :: rest) pos) (sOr fa fb) := by
  refine ⟨(pw_or ha.pt hb.pw).imp fun σ H Q => ?_⟩
  rintro ⟨W, env, st, rl, h⟩
  have h' := (or_eq (fa := fa) (fb := fb) env st) ▸ (show Post (Gof X T) Wx σ W (fun _ b _ H => Q b H) (bnd (sOr fa fb env) asBool st) from h)
  refine tT_bind (f := fun env => bnd (fa env) asBool) (k := fun env b => if b then ret true else bnd (fb env) asBool) rl h' fun W1 d st1 H1 e1 r1 p => ?_
  cases d with
  | true => exact p W1 H1 (Ext.refl _) r1.hp
  | false => exact ⟨W1, env, st1, r1, p⟩
theorem st_not (ha : ST X T Wx a fa) : ST X T Wx (.UnaryOp .Not a pos) (sNot fa) := by
  refine ⟨(pt_not ha.pt).imp fun σ H Q => ?_⟩
  rintro ⟨W, env, st, rl, h⟩
  have h' := (not_eq (fa := fa) env st) ▸ (show Post (Gof X T) Wx σ W (fun _ b _ H => Q b H) (bnd (sNot fa env) asBool st) from h)
  exact tT_bind (f := fun env => bnd (fa env) asBool) (k := fun _ b => ret (!b)) rl h' fun W1 d st1 H1 e1 r1 p => p W1 H1 (Ext.refl _) r1.hp

/-! ### arguments, displays -/
def aNil : Env → M (List D) := fun _ => ret []
def aCons (f : Env → M D) (g : Env → M (List D)) : Env → M (List D) := fun env => bnd (f env) fun d => bnd (g env) fun ds => ret (d :: ds)
variable {e : Expr} {es : List Expr} {f : Env → M D} {g : Env → M (List D)}
theorem sa_nil : SA X T Wx [] aNil := by
  refine ⟨pa_nil.imp fun σ H Q => ?_⟩
  rintro ⟨W, env, st, rl, h⟩
  exact h W H (Ext.refl _) rl.hp [] .nil
theorem sa_cons (ha : SE X T Wx e f) (hr : SA X T Wx es g) (hs : starEach (e :: es) X.env = (false, eval e X.env) :: starEach es X.env := by rfl) : SA X T Wx (e :: es) (aCons f g) := by
  refine ⟨(pa_cons ha.pe hr.pa hs).imp fun σ H Q => ?_⟩
  rintro ⟨W, env, st, rl, h⟩
  refine tE_bind (k := fun env d => bnd (g env) fun ds => ret (d :: ds)) rl h fun W1 d st1 H1 v e1 r1 rv p => ?_
  refine tA_bind (k := fun _ ds => ret (d :: ds)) r1 p fun W2 ds st2 H2 vs e2 r2 rvs p2 => ?_
  exact p2 W2 H2 (Ext.refl _) r2.hp (v :: vs) (.cons (rv.ext e2) rvs)
/-- a tuple, a list that is never changed, a list of the store -/
def lim (n : Nat) : Bool := decide (n ≤ sizeLine)
def sTup (g : Env → M (List D)) : Env → M D := fun env => bnd (g env) fun ds => gd (lim ds.length) (ret (.tup ds))
def sLst (g : Env → M (List D)) : Env → M D := fun env => bnd (g env) fun ds => gd (lim ds.length) (ret (.lst ds))
def new (o : Ob) : M D := fun st => .ok (.ref st.length) (st ++ [o])
def sLstM (g : Env → M (List D)) : Env → M D := fun env => bnd (g env) fun ds => gd (lim ds.length) (new (.lst ds))
theorem se_tup {x1} (h : SA X T Wx es g) : SE X T Wx (.Tuple es x1 pos) (sTup g) := by
  refine ⟨(pe_tup h.pa).imp fun σ H Q => ?_⟩
  rintro ⟨W, env, st, rl, h⟩
  refine tA_bind (α := D) (k := fun _ ds => gd (lim ds.length) (ret (.tup ds))) rl h fun W1 ds st1 H1 vs e1 r1 rvs p => ?_
  obtain ⟨q, p⟩ := p.gd
  · refine ⟨by rw [← rvs.length]; exact of_decide_eq_true q, fun t ht => ?_⟩
    obtain ⟨W2, e2, ok2, rv2⟩ := r1.hp.newTup ht rvs
    exact p W2 _ e2 ok2 _ rv2
theorem se_lst (h : SA X T Wx es g) : SE X T Wx (.List es pos) (sLst g) := by
  refine ⟨(pe_lst h.pa).imp fun σ H Q => ?_⟩
  rintro ⟨W, env, st, rl, h⟩
  refine tA_bind (α := D) (k := fun _ ds => gd (lim ds.length) (ret (.lst ds))) rl h fun W1 ds st1 H1 vs e1 r1 rvs p => ?_
  obtain ⟨q, p⟩ := p.gd
  · refine ⟨by rw [← rvs.length]; exact of_decide_eq_true q, fun t ht => ?_⟩
    obtain ⟨W2, e2, ok2, rv2⟩ := r1.hp.newLst ht rvs
    exact p W2 _ e2 ok2 _ rv2
theorem se_lstM (h : SA X T Wx es g) : SE X T Wx (.List es pos) (sLstM g) := by
  refine ⟨(pe_lst h.pa).imp fun σ H Q => ?_⟩
  rintro ⟨W, env, st, rl, h⟩
  refine tA_bind (k := fun _ ds => gd (lim ds.length) (new (.lst ds))) rl h fun W1 ds st1 H1 vs e1 r1 rvs p => ?_
  obtain ⟨q, p⟩ := p.gd
  · refine ⟨by rw [← rvs.length]; exact of_decide_eq_true q, fun t ht => ?_⟩
    obtain ⟨W2, e2, ok2, rv2⟩ := r1.hp.newOb (H' := upd H1 t (.lst vs)) (o := .lst ds) ht (upd_keeps ht) (r1.hp.fresh ht) fun W' e => ⟨vs, upd_same, rvs.ext e⟩
    exact p W2 _ e2 ok2 _ rv2

/-! ### built-ins called by name -/
def sApp (k : List D → M D) (g : Env → M (List D)) : Env → M D := fun env => bnd (g env) k
def ServesC (K : PySem.W.Frag) (mg : Str → Option Value) (T : Tb) (Wx : WX) (r : List V → Hp → VK → Prop) (k : List D → M D) : Prop :=
  ∀ (W : Wd) (σ : St) (ds : List D) (vs : List V) (st : Store) (H : Hp) (Q : VK), HeapOk ⟨K, mg, T⟩ W st H → RVs K W ds vs → Post ⟨K, mg, T⟩ Wx σ W (Wpost ⟨K, mg, T⟩ Q) (k ds st) → r vs H Q
theorem app {r : List V → Hp → VK → Prop} {k : List D → M D} {g : Env → M (List D)} (hs : ServesC X.K X.mg T Wx r k) {σ : St} {H : Hp} {Q : VK} (h : tE (Gof X T) Wx (sApp k g) σ H Q) : tCB r (tA (Gof X T) Wx g) σ H Q := by
  obtain ⟨W, env, st, rl, h⟩ := h
  exact tA_bind (k := fun _ ds => k ds) rl h fun W1 ds st1 H1 vs e1 r1 rvs p => hs W1 σ ds vs st1 H1 Q r1.hp rvs p
theorem se_callB {x : Str} {id : String} {p : Pos} {r : List V → Hp → VK → Prop} {k : List D → M D} (hc : CallR X (.builtin id) r) (hs : ServesC X.K X.mg T Wx r k) (hg : Gl X x) (hm : X.mg x = none) (hv : bootBuiltins x = some (.builtin id)) (ha : SA X T Wx (e :: es) g)
    (hn : x ≠ "__name__" := by decide) (hdb : (x == ("__debug__" : Str)) = false := by decide)
    (he : starEach (e :: es) X.env = (false, eval e X.env) :: starEach es X.env := by rfl) (hpl : (backTo pos (starEach es X.env)).any (·.1) = false := by rfl) : SE X T Wx (.Call (.Name x p) (e :: es) [] pos) (sApp k g) :=
  ⟨(pe_callB hc hg hm hv ha.pa hn hdb he hpl).imp fun _ _ _ h => app hs h⟩
theorem se_callTy {x : Str} {Ty : String} {p : Pos} {r : List V → Hp → VK → Prop} {k : List D → M D} (hc : CallR X (.type Ty) r) (hs : ServesC X.K X.mg T Wx r k) (hg : Gl X x) (hm : X.mg x = none) (hv : bootBuiltins x = some (.type Ty)) (ha : SA X T Wx (e :: es) g)
    (hn : x ≠ "__name__" := by decide) (hdb : (x == ("__debug__" : Str)) = false := by decide)
    (he : starEach (e :: es) X.env = (false, eval e X.env) :: starEach es X.env := by rfl) (hpl : (backTo pos (starEach es X.env)).any (·.1) = false := by rfl) : SE X T Wx (.Call (.Name x p) (e :: es) [] pos) (sApp k g) :=
  ⟨(pe_callTy hc hg hm hv ha.pa hn hdb he hpl).imp fun _ _ _ h => app hs h⟩

/-! ### statements -/
def bNil : SM := fun env st => .nx env st
def bCons (f g : SM) : SM := fun env st => match f env st with
  | .nx env' st' => g env' st'
  | o => o
variable {s : Stmt} {ss : List Stmt} {sf sg : SM}
theorem sb_nil : SB X T Wx [] bNil := by
  refine ⟨pss_nil.imp fun D σ H => ?_⟩
  rintro ⟨W, env, st, rl, h⟩
  exact h W σ H (Ext.refl _) rl
theorem sb_cons (h1 : SS X T Wx s sf) (h2 : SB X T Wx ss sg) : SB X T Wx (s :: ss) (bCons sf sg) := by
  refine ⟨(pss_cons h1.ps h2.pss).imp fun D σ H => ?_⟩
  rintro ⟨W, env, st, rl, h⟩
  refine ⟨W, env, st, rl, ?_⟩
  unfold bCons at h
  cases q : sf env st with
  | nx env' st' =>
    rw [q] at h
    exact fun W' σ' H' e r => ⟨W', env', st', r, h.ext e⟩
  | rt d st' => rw [q] at h; exact h
  | bk env' st' => rw [q] at h; exact h
  | ct env' st' => rw [q] at h; exact h
  | ex e env' st' => rw [q] at h; exact h
  | bad => rw [q] at h; exact h
theorem sb_one (h1 : SS X T Wx s sf) : SB X T Wx [s] sf := ⟨pss_one h1.ps⟩
/-- an expression's outcome taken into a statement -/
def sOut {α : Type} (o : Out α) (env : Env) (k : α → Store → SOut) : SOut := match o with
  | .ok a st => k a st
  | .ex e st => .ex e env st
  | .bad => .bad
theorem postS_out {G : Gd} {W : Wd} {D : Ends} {σ : St} {H : Hp} {env : Env} {st : Store} {α : Type} {o : Out α} {k : α → Store → SOut} {R : Wd → α → Store → Hp → Prop} (rl : Rel G W σ H env st) (h : PostS G Wx W D (sOut o env k))
    (hR : ∀ W' a st' H', Ext W W' → Rel G W' σ H' env st' → PostS G Wx W' D (k a st') → R W' a st' H') : Post G Wx σ W R o := by
  cases o with
  | ok a st' => exact fun W' H' e ok => hR W' a st' H' e (rl.ext e ok) (PostS.ext e h)
  | ex e st' => exact fun W' cls d H' e ok x => h W' σ H' cls d e (rl.ext e ok) x
  | bad => exact h
def bRet (f : Env → M D) : SM := fun env st => sOut (f env st) env fun d st' => .rt d st'
def bRetN : SM := fun _ st => .rt .non st
def bExpr (f : Env → M D) : SM := fun env st => sOut (f env st) env fun _ st' => .nx env st'
def bIf (f : Env → M D) (a b : SM) : SM := fun env st => sOut (bnd (f env) asBool st) env fun c st' => if c then a env st' else b env st'
def bSet (i : Nat) (f : Env → M D) : SM := fun env st => sOut (f env st) env fun d st' => .nx (env.set i (some d)) st'
def bPass : SM := bNil
def bBreak : SM := fun env st => .bk env st
def bCont : SM := fun env st => .ct env st
theorem ss_ret (he : SE X T Wx e f) : SS X T Wx (.Return (some e) pos) (bRet f) := by
  refine ⟨(ps_ret he.pe).imp fun D σ H => ?_⟩
  rintro ⟨W, env, st, rl, h⟩
  exact ⟨W, env, st, rl, postS_out rl h fun W' d st' H' e r p v rv => p W' H' v (Ext.refl _) r.hp rv⟩
theorem ss_retN : SS X T Wx (.Return none pos) bRetN := by
  refine ⟨ps_retN.imp fun D σ H => ?_⟩
  rintro ⟨W, env, st, rl, h⟩
  exact h W H .non (Ext.refl _) rl.hp .non
theorem ss_expr (he : SE X T Wx e f) (hs : swapsWith e none pos.line X.env = pure false := by rfl) : SS X T Wx (.Expr e pos) (bExpr f) := by
  refine ⟨(ps_expr he.pe hs).imp fun D σ H => ?_⟩
  rintro ⟨W, env, st, rl, h⟩
  exact ⟨W, env, st, rl, postS_out rl h fun W' d st' H' e r p v rv => p W' σ H' (Ext.refl _) r⟩
theorem ss_if {p q : List Stmt} (hc : ST X T Wx c fc) (ha : SB X T Wx p sf) (hb : SB X T Wx q sg) : SS X T Wx (.If c p q pos) (bIf fc sf sg) := by
  refine ⟨(ps_if hc.pt ha.pss hb.pss).imp fun D σ H => ?_⟩
  rintro ⟨W, env, st, rl, h⟩
  refine ⟨W, env, st, rl, postS_out rl h fun W' d st' H' e r p => ?_⟩
  cases d with
  | true => exact ⟨W', env, st', r, p⟩
  | false => exact ⟨W', env, st', r, p⟩
theorem ss_set {i : Nat} {x : Str} {pos' : Pos} (hN : X.N.Nodup) (hi : X.N[i]? = some x) (hx : Loc X.env.scope x) (he : SE X T Wx e f) (hs : swapsWith e (some (.Name x pos')) pos.line X.env = pure false := by rfl) (hf : X.fn x = true ∨ X.env.scope.names.lookup x = some .local := by first | exact .inl rfl | exact .inr rfl | assumption) :
    SS X T Wx (.Assign [.Name x pos'] e pos) (bSet i f) := by
  refine ⟨(ps_set hN hi hx he.pe hs hf).imp fun D σ H => ?_⟩
  rintro ⟨W, env, st, rl, h⟩
  exact ⟨W, env, st, rl, postS_out rl h fun W' d st' H' e r p v rv => p W' _ H' (Ext.refl _) (r.set rv i)⟩
theorem ss_pass : SS X T Wx (.Pass pos) bPass := by
  refine ⟨ps_pass.imp fun D σ H => ?_⟩
  rintro ⟨W, env, st, rl, h⟩
  exact h W σ H (Ext.refl _) rl
theorem ss_break : SS X T Wx (.Break pos) bBreak := by
  refine ⟨ps_break.imp fun D σ H => ?_⟩
  rintro ⟨W, env, st, rl, h⟩
  exact h W σ H (Ext.refl _) rl
theorem ss_cont : SS X T Wx (.Continue pos) bCont := by
  refine ⟨ps_continue.imp fun D σ H => ?_⟩
  rintro ⟨W, env, st, rl, h⟩
  exact h W σ H (Ext.refl _) rl
end
end Sv
/-! Sv3: operators, subscripts, slices, built-ins by their meanings. -/
namespace Sv
open PySem L2 LamX

/-! ### data without identity -/
mutual
def toP : D → PyData
  | .non => .none
  | .bl b => .bool b
  | .int i => .int i
  | .str x => .str x
  | .tup ds => .tuple (toPs ds)
  | .lst ds => .list (toPs ds)
  | .frl ds => .list (toPs ds)
  | .dct _ _ => .none
  | .ref _ => .none
  | .fnv => .none
def toPs : List D → List PyData
  | [] => []
  | d :: ds => toP d :: toPs ds
end
mutual
/-- no dict, no object of the store, no text beyond the signs, nested to a depth -/
def flat : Nat → D → Bool
  | _, .non => true
  | _, .bl _ => true
  | _, .int _ => true
  | _, .str x => PyData.strOk x
  | 0, .tup _ => false
  | n + 1, .tup ds => flats n ds
  | 0, .lst _ => false
  | n + 1, .lst ds => flats n ds
  | 0, .frl _ => false
  | n + 1, .frl ds => flats n ds
  | _, .dct _ _ => false
  | _, .ref _ => false
  | _, .fnv => false
def flats : Nat → List D → Bool
  | _, [] => true
  | n, d :: ds => flat n d && flats n ds
end
mutual
theorem flat_lay : ∀ (n : Nat) (d : D), flat n d = true → (toP d).canLay0 = true
  | _, .non, _ => by simp [toP, PyData.canLay0]
  | _, .bl _, _ => by simp [toP, PyData.canLay0]
  | _, .int _, _ => by simp [toP, PyData.canLay0]
  | _, .str x, h => by simpa [toP, PyData.canLay0, flat] using h
  | 0, .tup _, h => by simp [flat] at h
  | n + 1, .tup ds, h => by simpa [toP, PyData.canLay0] using flats_lay n ds (by simpa [flat] using h)
  | 0, .lst _, h => by simp [flat] at h
  | n + 1, .lst ds, h => by simpa [toP, PyData.canLay0] using flats_lay n ds (by simpa [flat] using h)
  | 0, .frl _, h => by simp [flat] at h
  | n + 1, .frl ds, h => by simpa [toP, PyData.canLay0] using flats_lay n ds (by simpa [flat] using h)
  | _, .dct _ _, h => by simp [flat] at h
  | _, .ref _, h => by simp [flat] at h
  | _, .fnv, h => by simp [flat] at h
theorem flats_lay : ∀ (n : Nat) (ds : List D), flats n ds = true → PyData.canLayAll0 (toPs ds) = true
  | _, [], _ => by simp [toPs, PyData.canLayAll0]
  | n, d :: ds, h => by
    have h' : flat n d = true ∧ flats n ds = true := by simpa [flats] using h
    simp [toPs, PyData.canLayAll0, flat_lay n d h'.1, flats_lay n ds h'.2]
end
mutual
theorem flat_depth : ∀ (n : Nat) (d : D), flat n d = true → (toP d).depth ≤ n + 1
  | _, .non, _ => by simp [toP, PyData.depth]
  | _, .bl _, _ => by simp [toP, PyData.depth]
  | _, .int _, _ => by simp [toP, PyData.depth]
  | _, .str x, h => by simp [toP, PyData.depth]
  | 0, .tup _, h => by simp [flat] at h
  | n + 1, .tup ds, h => by
    have := flats_depth n ds (by simpa [flat] using h)
    simp [toP, PyData.depth]
    omega
  | 0, .lst _, h => by simp [flat] at h
  | n + 1, .lst ds, h => by
    have := flats_depth n ds (by simpa [flat] using h)
    simp [toP, PyData.depth]
    omega
  | 0, .frl _, h => by simp [flat] at h
  | n + 1, .frl ds, h => by
    have := flats_depth n ds (by simpa [flat] using h)
    simp [toP, PyData.depth]
    omega
  | _, .dct _ _, h => by simp [flat] at h
  | _, .ref _, h => by simp [flat] at h
  | _, .fnv, h => by simp [flat] at h
theorem flats_depth : ∀ (n : Nat) (ds : List D), flats n ds = true → PyData.depthAll (toPs ds) ≤ n + 1
  | _, [], _ => by simp [toPs, PyData.depthAll]
  | n, d :: ds, h => by
    have h' : flat n d = true ∧ flats n ds = true := by simpa [flats] using h
    have h1 := flat_depth n d h'.1
    have h2 := flats_depth n ds h'.2
    simp [toPs, PyData.depthAll]
    omega
end
theorem flat_shaped {n : Nat} {d : D} (h : flat n d = true) (hn : n ≤ 60) : SeqAt.shaped (toP d) = true := by
  have h1 := flat_lay n d h
  have h2 := flat_depth n d h
  unfold SeqAt.shaped
  rw [h1, Bool.true_and]
  exact decide_eq_true (by omega)
mutual
theorem RV.dp {K : PySem.W.Frag} {W : Wd} {H : Hp} (hz : ∀ a o, W.F a = some o → H a = some o) : ∀ (n : Nat) (d : D) (v : V), RV K W d v → flat n d = true → Dp K H v (toP d)
  | _, _, _, .non, _ => .non
  | _, _, _, .bl b, _ => .bl b
  | _, _, _, .int i, _ => .int i
  | _, _, _, .str x, _ => .str x
  | 0, _, _, .tup _ _, h => by simp [flat] at h
  | n + 1, _, _, .tup (ds := ds) q r, h => .tup (sqT_ext hz q) (RVs.dp hz n ds _ r (by simpa [flat] using h))
  | 0, _, _, .lst _ _, h => by simp [flat] at h
  | n + 1, _, _, .lst (ds := ds) q r, h => .lst (.inl (.inl (hz _ _ q))) (RVs.dp hz n ds _ r (by simpa [flat] using h))
  | 0, _, _, .frl _ _, h => by simp [flat] at h
  | n + 1, _, _, .frl (ds := ds) q r, h => .lst (sqL_ext hz q) (RVs.dp hz n ds _ r (by simpa [flat] using h))
  | _, _, _, .dct _ _, h => by simp [flat] at h
  | _, _, _, .ref _, h => by simp [flat] at h
theorem RVs.dp {K : PySem.W.Frag} {W : Wd} {H : Hp} (hz : ∀ a o, W.F a = some o → H a = some o) : ∀ (n : Nat) (ds : List D) (vs : List V), RVs K W ds vs → flats n ds = true → DpAll K H vs (toPs ds)
  | _, _, _, .nil, _ => .nil
  | n, _, _, .cons (d := d) (ds := ds) r t, h => by
    have h' : flat n d = true ∧ flats n ds = true := by simpa [flats] using h
    exact .cons (RV.dp hz n d _ r h'.1) (RVs.dp hz n ds _ t h'.2)
end
/-- == of data, as Python has it -/
def eqD (a b : D) : Bool := PyData.eqv (toP a) (toP b)
abbrev deepest : Nat := 20

/-! ### operators -/
def opAdd : D → D → M D
  | .int i, .int j => ret (.int (i + j))
  | .tup a, .tup b => gd (lim (a.length + b.length)) (ret (.tup (a ++ b)))
  | .lst a, .lst b => gd (lim (a.length + b.length)) (ret (.lst (a ++ b)))
  | .str x, .str y => gd (lim (x.length + y.length)) (ret (.str (x ++ y)))
  | .ref n, .lst b => fun st => match st[n]? with
    | some (.lst a) => gd (lim (a.length + b.length)) (ret (.lst (a ++ b))) st
    | _ => .bad
  | .lst a, .ref n => fun st => match st[n]? with
    | some (.lst b) => gd (lim (a.length + b.length)) (ret (.lst (a ++ b))) st
    | _ => .bad
  | _, _ => bad
def opSub : D → D → M D
  | .int i, .int j => ret (.int (i - j))
  | _, _ => bad
/-- a factor below 2^64 -/
def small64 (i : Int) : Bool := decide (-18446744073709551616 < i) && decide (i < 18446744073709551616)
def opMul : D → D → M D
  | .int i, .int j => gd (small64 i || small64 j) (ret (.int (i * j)))
  | .tup a, .int k => gd (!a.isEmpty && decide (2 ≤ k) && decide (k ≤ 1000) && decide (a.length ≤ 1000)) (ret (.tup (List.replicate k.toNat a).flatten))
  | _, _ => bad
def opDiv : D → D → M D
  | .int i, .int j => gd (decide (0 < j) && decide (j < 1073741824)) (ret (.int (i / j)))
  | _, _ => bad
def opMod : D → D → M D
  | .int i, .int j => gd (decide (0 < j)) (ret (.int (i % j)))
  | _, _ => bad
def opPow : D → D → M D
  | .int i, .int j => gd (decide (0 ≤ j) && decide (j ≤ 1000000) && decide (i.natAbs < 2 ^ 64)) (ret (.int (i ^ j.toNat)))
  | _, _ => bad
def opEq (a b : D) : M D := gd (flat deepest a && flat deepest b) (ret (.bl (eqD a b)))
def opNe (a b : D) : M D := gd (flat deepest a && flat deepest b) (ret (.bl (!eqD a b)))
def opLt : D → D → M D
  | .int i, .int j => ret (.bl (decide (i < j)))
  | _, _ => bad
def opLe : D → D → M D
  | .int i, .int j => ret (.bl (decide (i ≤ j)))
  | _, _ => bad
def opGt : D → D → M D
  | .int i, .int j => ret (.bl (decide (j < i)))
  | _, _ => bad
def opGe : D → D → M D
  | .int i, .int j => ret (.bl (decide (j ≤ i)))
  | _, _ => bad
def isNon : D → Bool
  | .non => true
  | _ => false
def opIsN (a b : D) : M D := gd (isNon b) (ret (.bl (isNon a)))
def opNotN (a b : D) : M D := gd (isNon b) (ret (.bl (!isNon a)))
def strIn (i j : Str) : Bool := !(Builtin.Str.occurrences j i 0 j.length 1).isEmpty
def inSeq (neg : Bool) (d : D) (ds : List D) : M D := gd (flat deepest d && flats deepest ds) (ret (.bl (neg ^^ ds.any fun z => eqD z d)))
def opIn : D → D → M D
  | .str i, .str j => ret (.bl (strIn i j))
  | d, .lst ds => inSeq false d ds
  | d, .frl ds => inSeq false d ds
  | _, _ => bad
def opNotIn : D → D → M D
  | .str i, .str j => ret (.bl (!strIn i j))
  | d, .lst ds => inSeq true d ds
  | d, .frl ds => inSeq true d ds
  | _, _ => bad

section
variable {K : PySem.W.Frag} {mg : Str → Option Value} {T : Tb} {Wx : WX} {X : Cx}
theorem Serves.ints {C : Int → Int → Prop} {h : Int → Int → V} {h' : Int → Int → D} {g : D → D → M D} (hr : ∀ W i j, RV K W (h' i j) (h i j))
    (hg : ∀ (a b : D), (∃ i j c, a = .int i ∧ b = .int j ∧ (c = true → C i j) ∧ g a b = gd c (ret (h' i j))) ∨ g a b = bad) : Serves K mg T Wx (rI C h) g := by
  intro W σ a b x y st H Q ok ra rb p
  rcases hg a b with ⟨i, j, c, rfl, rfl, hc, e⟩ | e
  · rw [e] at p
    cases ra
    cases rb
    obtain ⟨q, p⟩ := p.gd
    exact ⟨i, j, rfl, rfl, hc q, p.here ok (hr W i j)⟩
  · rw [e] at p
    exact p.elim
theorem Serves.ints0 {h : Int → Int → V} {h' : Int → Int → D} {g : D → D → M D} (hr : ∀ W i j, RV K W (h' i j) (h i j)) (hg : ∀ (a b : D), (∃ i j, a = .int i ∧ b = .int j ∧ g a b = ret (h' i j)) ∨ g a b = bad) :
    Serves K mg T Wx (rI0 h) g := by
  intro W σ a b x y st H Q ok ra rb p
  rcases hg a b with ⟨i, j, rfl, rfl, e⟩ | e
  · rw [e] at p
    cases ra
    cases rb
    exact ⟨i, j, rfl, rfl, p.here ok (hr W i j)⟩
  · rw [e] at p
    exact p.elim
theorem sv_sub : Serves K mg T Wx (rI0 fun i j => .int (i - j)) opSub := Serves.ints0 (h' := fun i j => .int (i - j)) (fun _ _ _ => .int _) fun a b => by
  cases a <;> first | exact .inr rfl | (cases b <;> first | exact .inr rfl | exact .inl ⟨_, _, rfl, rfl, rfl⟩)
theorem sv_lt : Serves K mg T Wx (rI0 fun i j => .bl (decide (i < j))) opLt := Serves.ints0 (h' := fun i j => .bl (decide (i < j))) (fun _ _ _ => .bl _) fun a b => by
  cases a <;> first | exact .inr rfl | (cases b <;> first | exact .inr rfl | exact .inl ⟨_, _, rfl, rfl, rfl⟩)
theorem sv_le : Serves K mg T Wx (rI0 fun i j => .bl (decide (i ≤ j))) opLe := Serves.ints0 (h' := fun i j => .bl (decide (i ≤ j))) (fun _ _ _ => .bl _) fun a b => by
  cases a <;> first | exact .inr rfl | (cases b <;> first | exact .inr rfl | exact .inl ⟨_, _, rfl, rfl, rfl⟩)
theorem sv_gt : Serves K mg T Wx (rI0 fun i j => .bl (decide (j < i))) opGt := Serves.ints0 (h' := fun i j => .bl (decide (j < i))) (fun _ _ _ => .bl _) fun a b => by
  cases a <;> first | exact .inr rfl | (cases b <;> first | exact .inr rfl | exact .inl ⟨_, _, rfl, rfl, rfl⟩)
theorem sv_ge : Serves K mg T Wx (rI0 fun i j => .bl (decide (j ≤ i))) opGe := Serves.ints0 (h' := fun i j => .bl (decide (j ≤ i))) (fun _ _ _ => .bl _) fun a b => by
  cases a <;> first | exact .inr rfl | (cases b <;> first | exact .inr rfl | exact .inl ⟨_, _, rfl, rfl, rfl⟩)
theorem sv_div : Serves K mg T Wx (rI CDiv fun i j => .int (i / j)) opDiv := Serves.ints (h' := fun i j => .int (i / j)) (fun _ _ _ => .int _) fun a b => by
  cases a <;> first | exact .inr rfl | skip
  cases b <;> first | exact .inr rfl | exact .inl ⟨_, _, _, rfl, rfl, fun q => by
    rw [Bool.and_eq_true, decide_eq_true_eq, decide_eq_true_eq] at q
    exact q, rfl⟩
theorem sv_mod : Serves K mg T Wx (rI (fun _ j => 0 < j) fun i j => .int (i % j)) opMod := Serves.ints (h' := fun i j => .int (i % j)) (fun _ _ _ => .int _) fun a b => by
  cases a <;> first | exact .inr rfl | skip
  cases b <;> first | exact .inr rfl | exact .inl ⟨_, _, _, rfl, rfl, fun q => of_decide_eq_true q, rfl⟩
theorem sv_pow : Serves K mg T Wx (rI CPow fun i j => .int (i ^ j.toNat)) opPow := Serves.ints (h' := fun i j => .int (i ^ j.toNat)) (fun _ _ _ => .int _) fun a b => by
  cases a <;> first | exact .inr rfl | skip
  cases b <;> first | exact .inr rfl | exact .inl ⟨_, _, _, rfl, rfl, fun q => by
    rw [Bool.and_eq_true, Bool.and_eq_true, decide_eq_true_eq, decide_eq_true_eq, decide_eq_true_eq] at q
    exact ⟨q.1.1, q.1.2, q.2⟩, rfl⟩
def rMulS (K : PySem.W.Frag) : R2 := fun x y H Q => rI CMul (fun i j => .int (i * j)) x y H Q ∨ rRepT K x y H Q
theorem op_mulS : OpR X (binaryOp .Mult) (rMulS X.K) := op_mul.or op_repT
theorem rvs_rep {W : Wd} {ds : List D} {xs : List V} (r : RVs K W ds xs) : ∀ m : Nat, RVs K W (List.replicate m ds).flatten (List.replicate m xs).flatten
  | 0 => .nil
  | m + 1 => by
    rw [List.replicate_succ, List.replicate_succ, List.flatten_cons, List.flatten_cons]
    exact r.append (rvs_rep r m)
theorem sv_mul : Serves K mg T Wx (rMulS K) opMul := by
  intro W σ a b x y st H Q ok ra rb p
  cases ra with
  | int i =>
    cases rb with
    | int j =>
      obtain ⟨q, p⟩ := Post.gd p
      refine .inl ⟨i, j, rfl, rfl, ?_, p.here ok (.int _)⟩
      unfold small64 at q
      simp only [Bool.or_eq_true, Bool.and_eq_true, decide_eq_true_eq] at q
      unfold CMul
      omega
    | _ => exact False.elim p
  | tup h r =>
    cases rb with
    | int k =>
      rename_i a xs ds
      obtain ⟨q, p⟩ := Post.gd p
      simp only [Bool.and_eq_true, decide_eq_true_eq, Bool.not_eq_true', List.isEmpty_eq_false_iff] at q
      obtain ⟨⟨⟨q1, q2⟩, q3⟩, q4⟩ := q
      refine .inr ⟨a, k, xs, rfl, rfl, ok.sqT h, fun z => q1 ?_, q2, q3, by rw [← r.length]; exact q4, fun t ht => ?_⟩
      · subst z
        cases r
        rfl
      · obtain ⟨W2, e2, ok2, rv2⟩ := ok.newTup ht (rvs_rep r k.toNat)
        exact p W2 _ e2 ok2 _ rv2
    | _ => exact False.elim p
  | _ => exact False.elim p
def rAddS (K : PySem.W.Frag) : R2 := fun x y H Q => (rI0 (fun i j => .int (i + j)) x y H Q ∨ rCatA K x y H Q) ∨ (rCat x y H Q ∨ ∃ i j, x = .str i ∧ y = .str j ∧ i.length + j.length ≤ sizeLine ∧ Q (.str (i ++ j)) H)
theorem op_addS : OpR X (binaryOp .Add) (rAddS X.K) := (op_add.or op_catA).or (op_cat.or op_add_str)
theorem cat_lists {W : Wd} {σ : St} {st : Store} {H : Hp} {Q : VK} {l b : Addr} {xs zs : List V} {ds es : List D} (ok : HeapOk ⟨K, mg, T⟩ W st H) (hl : H l = some (.lst xs)) (hb : H b = some (.lst zs)) (r : RVs K W ds xs) (q : RVs K W es zs)
    (p : Post ⟨K, mg, T⟩ Wx σ W (Wpost ⟨K, mg, T⟩ Q) (gd (lim (ds.length + es.length)) (ret (.lst (ds ++ es))) st)) : rCat (.ref l) (.ref b) H Q := by
  obtain ⟨c, p⟩ := p.gd
  refine ⟨l, b, xs, zs, rfl, rfl, hl, hb, by rw [← r.length, ← q.length]; exact of_decide_eq_true c, fun t ht => ?_⟩
  obtain ⟨W2, e2, ok2, rv2⟩ := ok.newLst ht (r.append q)
  exact p W2 _ e2 ok2 _ rv2
/-- a list of the store -/
theorem store_lst {W : Wd} {σ : St} {α : Type} {R : Wd → α → Store → Hp → Prop} {st : Store} {n : Nat} {f : List D → Out α} (p : Post ⟨K, mg, T⟩ Wx σ W R (match st[n]? with | some (.lst a) => f a | _ => .bad)) : ∃ a, st[n]? = some (.lst a) ∧ Post ⟨K, mg, T⟩ Wx σ W R (f a) := by
  cases e : st[n]? with
  | none =>
    rw [e] at p
    exact p.elim
  | some o =>
    rw [e] at p
    cases o with
    | lst a => exact ⟨a, rfl, p⟩
    | _ => exact False.elim p
theorem sv_add : Serves K mg T Wx (rAddS K) opAdd := by
  intro W σ a b x y st H Q ok ra rb p
  cases ra with
  | int i =>
    cases rb with
    | int j => exact .inl (.inl ⟨i, j, rfl, rfl, Post.here p ok (.int _)⟩)
    | _ => exact False.elim p
  | str i =>
    cases rb with
    | str j =>
      obtain ⟨c, p⟩ := Post.gd p
      exact .inr (.inr ⟨i, j, rfl, rfl, of_decide_eq_true c, p.here ok (.str _)⟩)
    | _ => exact False.elim p
  | tup h r =>
    cases rb with
    | tup h' r' =>
      rename_i l xs ds b zs es
      obtain ⟨c, p⟩ := Post.gd p
      refine .inl (.inr ⟨l, b, xs, zs, rfl, rfl, ok.sqT h, ok.sqT h', by rw [← r.length, ← r'.length]; exact of_decide_eq_true c, fun z => ?_, fun z1 z2 => ?_, fun _ _ t ht => ?_⟩)
      · subst z
        cases r
        exact p.here ok (.tup h' r')
      · subst z2
        cases r'
        exact p.here ok (by rw [List.append_nil]; exact .tup h r)
      · obtain ⟨W2, e2, ok2, rv2⟩ := ok.newTup ht (r.append r')
        exact p W2 _ e2 ok2 _ rv2
    | _ => exact False.elim p
  | lst h r =>
    cases rb with
    | lst h' r' => exact .inr (.inl (cat_lists ok (ok.fz _ _ h) (ok.fz _ _ h') r r' p))
    | ref q =>
      obtain ⟨es, e, p⟩ := store_lst p
      obtain ⟨b', e1, e2, e3, vs, e4, e5⟩ := ok.at_ e (.ref q)
      cases e1
      exact .inr (.inl (cat_lists ok (ok.fz _ _ h) e4 r e5 p))
    | _ => exact False.elim p
  | ref q =>
    cases rb with
    | lst h' r' =>
      obtain ⟨ds, e, p⟩ := store_lst p
      obtain ⟨b', e1, e2, e3, vs, e4, e5⟩ := ok.at_ e (.ref q)
      cases e1
      exact .inr (.inl (cat_lists ok e4 (ok.fz _ _ h') e5 r' p))
    | _ => exact False.elim p
  | _ => exact False.elim p
theorem sv_eq : Serves K mg T Wx (rEqD K) opEq := by
  intro W σ a b x y st H Q ok ra rb p
  obtain ⟨c, p⟩ := Post.gd p
  rw [Bool.and_eq_true] at c
  exact ⟨toP a, toP b, ra.dp ok.fz _ _ _ c.1, rb.dp ok.fz _ _ _ c.2, flat_shaped c.1 (by decide), flat_shaped c.2 (by decide), p.here ok (.bl _)⟩
theorem sv_ne : Serves K mg T Wx (rNeD K) opNe := by
  intro W σ a b x y st H Q ok ra rb p
  obtain ⟨c, p⟩ := Post.gd p
  rw [Bool.and_eq_true] at c
  exact ⟨toP a, toP b, ra.dp ok.fz _ _ _ c.1, rb.dp ok.fz _ _ _ c.2, flat_shaped c.1 (by decide), flat_shaped c.2 (by decide), p.here ok (.bl _)⟩
theorem isNon_v {W : Wd} {d : D} {v : V} (r : RV K W d v) : decide (v = V.non) = isNon d := by
  cases r <;> simp [isNon]
theorem sv_isN : Serves K mg T Wx (fun x y H Q => y = .non ∧ Q (.bl (decide (x = .non))) H) opIsN := by
  intro W σ a b x y st H Q ok ra rb p
  obtain ⟨c, p⟩ := Post.gd p
  refine ⟨?_, by rw [isNon_v ra]; exact p.here ok (.bl _)⟩
  have := isNon_v rb
  rw [c] at this
  exact of_decide_eq_true this
theorem sv_notN : Serves K mg T Wx (fun x y H Q => y = .non ∧ Q (.bl (!decide (x = .non))) H) opNotN := by
  intro W σ a b x y st H Q ok ra rb p
  obtain ⟨c, p⟩ := Post.gd p
  refine ⟨?_, by rw [isNon_v ra]; exact p.here ok (.bl _)⟩
  have := isNon_v rb
  rw [c] at this
  exact of_decide_eq_true this
theorem any_toPs (d : D) : ∀ ds : List D, ((toPs ds).any fun z => PyData.eqv z (toP d)) = ds.any fun z => eqD z d
  | [] => rfl
  | z :: ds => by
    show (PyData.eqv (toP z) (toP d) || (toPs ds).any _) = _
    rw [any_toPs d ds]
    rfl
def rInS2 (K : PySem.W.Frag) : R2 := fun x y H Q => (∃ i j, x = .str i ∧ y = .str j ∧ Q (.bl (!(Builtin.Str.occurrences j i 0 j.length 1).isEmpty)) H) ∨ rInD K x y H Q
theorem op_inS2 (hu : X.A.units + 65 < cLine) : OpR X (compareOp .In) (rInS2 X.K) := op_in_str.or (op_inD hu)
def rNotInS2 (K : PySem.W.Frag) : R2 := fun x y H Q => (∃ i j, x = .str i ∧ y = .str j ∧ Q (.bl (!(!(Builtin.Str.occurrences j i 0 j.length 1).isEmpty))) H) ∨ rNotInD K x y H Q
theorem op_notInS2 (hu : X.A.units + 65 < cLine) : OpR X (compareOp .NotIn) (rNotInS2 X.K) := op_notIn_str.or (op_notInD hu)
theorem in_go {neg : Bool} {W : Wd} {σ : St} {st : Store} {H : Hp} {Q : VK} {a b : D} {x y : V} {ds : List D} (ok : HeapOk ⟨K, mg, T⟩ W st H) (ra : RV K W a x) (rb : RV K W b y) (e1 : toP b = .list (toPs ds)) (e2 : flat (deepest + 1) b = flats deepest ds)
    (p : Post ⟨K, mg, T⟩ Wx σ W (Wpost ⟨K, mg, T⟩ Q) (inSeq neg a ds st)) : ∃ d es, Dp K H x d ∧ Dp K H y (.list es) ∧ SeqAt.shaped d = true ∧ SeqAt.shaped (.list es) = true ∧ Q (.bl (neg ^^ es.any fun z => PyData.eqv z d)) H := by
  obtain ⟨c, p⟩ := Post.gd p
  rw [Bool.and_eq_true] at c
  rw [c.2] at e2
  refine ⟨toP a, toPs ds, ra.dp ok.fz _ _ _ c.1, e1 ▸ rb.dp ok.fz _ _ _ e2, flat_shaped c.1 (by decide), e1 ▸ flat_shaped e2 (by decide), ?_⟩
  rw [any_toPs]
  exact p.here ok (.bl _)
theorem sv_in : Serves K mg T Wx (rInS2 K) opIn := by
  intro W σ a b x y st H Q ok ra rb p
  have fin : ∀ {ds : List D}, (∃ d es, Dp K H x d ∧ Dp K H y (.list es) ∧ SeqAt.shaped d = true ∧ SeqAt.shaped (.list es) = true ∧ Q (.bl (false ^^ es.any fun z => PyData.eqv z d)) H) → rInD K x y H Q := fun h => by
    obtain ⟨d, es, h1, h2, h3, h4, h5⟩ := h
    rw [Bool.false_xor] at h5
    exact ⟨d, es, h1, h2, h3, h4, h5⟩
  cases rb with
  | str j =>
    cases ra with
    | str i => exact .inl ⟨i, j, rfl, rfl, Post.here p ok (.bl _)⟩
    | _ => exact False.elim p
  | lst h r =>
    rename_i b vs ds
    have p' : Post ⟨K, mg, T⟩ Wx σ W (Wpost ⟨K, mg, T⟩ Q) (inSeq false a ds st) := by cases ra <;> exact p
    exact .inr (fin (ds := ds) (in_go ok ra (.lst h r) rfl rfl p'))
  | frl h r =>
    rename_i b vs ds
    have p' : Post ⟨K, mg, T⟩ Wx σ W (Wpost ⟨K, mg, T⟩ Q) (inSeq false a ds st) := by cases ra <;> exact p
    exact .inr (fin (ds := ds) (in_go ok ra (.frl h r) rfl rfl p'))
  | _ => cases ra <;> exact False.elim p
theorem sv_notIn : Serves K mg T Wx (rNotInS2 K) opNotIn := by
  intro W σ a b x y st H Q ok ra rb p
  have fin : ∀ {ds : List D}, (∃ d es, Dp K H x d ∧ Dp K H y (.list es) ∧ SeqAt.shaped d = true ∧ SeqAt.shaped (.list es) = true ∧ Q (.bl (true ^^ es.any fun z => PyData.eqv z d)) H) → rNotInD K x y H Q := fun h => by
    obtain ⟨d, es, h1, h2, h3, h4, h5⟩ := h
    rw [Bool.true_xor] at h5
    exact ⟨d, es, h1, h2, h3, h4, h5⟩
  cases rb with
  | str j =>
    cases ra with
    | str i => exact .inl ⟨i, j, rfl, rfl, Post.here p ok (.bl _)⟩
    | _ => exact False.elim p
  | lst h r =>
    rename_i b vs ds
    have p' : Post ⟨K, mg, T⟩ Wx σ W (Wpost ⟨K, mg, T⟩ Q) (inSeq true a ds st) := by cases ra <;> exact p
    exact .inr (fin (ds := ds) (in_go ok ra (.lst h r) rfl rfl p'))
  | frl h r =>
    rename_i b vs ds
    have p' : Post ⟨K, mg, T⟩ Wx σ W (Wpost ⟨K, mg, T⟩ Q) (inSeq true a ds st) := by cases ra <;> exact p
    exact .inr (fin (ds := ds) (in_go ok ra (.frl h r) rfl rfl p'))
  | _ => cases ra <;> exact False.elim p

end
end Sv
/-! Sv4: what is walked; targets; for loops; comprehensions. -/
namespace Sv
open PySem L2 LamX

/-! ### what is walked -/
structure Yields (G : Gd) (J : It) (W0 : Wd) (items : List D) : Prop where
  go : ∀ (i : Nat) (W : Wd) (st : Store) (H : Hp), Ext0 W0 W → HeapOk G W st H → i < items.length → J.go i H
  yld : ∀ (i : Nat) (W : Wd) (st : Store) (H : Hp) (x : V) (H' : Hp), Ext0 W0 W → HeapOk G W st H → i < items.length → J.yld i H x H' → ∃ W' d, Ext W W' ∧ HeapOk G W' st H' ∧ items[i]? = some d ∧ RV G.K W' d x
  stop : ∀ (W : Wd) (st : Store) (H : Hp), Ext0 W0 W → HeapOk G W st H → J.stop items.length H
theorem Yields.later {G : Gd} {J : It} {W0 W1 : Wd} {items : List D} (y : Yields G J W0 items) (e : Ext0 W0 W1) : Yields G J W1 items :=
  ⟨fun i W st H x => y.go i W st H (e.trans x), fun i W st H v H' x => y.yld i W st H v H' (e.trans x), fun W st H x => y.stop W st H (e.trans x)⟩
def tI (G : Gd) (Wx : WX) (f : Env → M (List D)) : TI := fun σ H R => ∃ W env st, Rel G W σ H env st ∧ Post G Wx σ W (fun W' ds _ H' => ∀ J, Yields G J W' ds → R J H') (f env st)
structure SI (X : Cx) (T : Tb) (Wx : WX) (tg iter : Expr) (f : Env → M (List D)) : Prop where
  pi : PI X tg iter (tI (Gof X T) Wx f)
theorem _root_.L2.PI.imp {X : Cx} {tg iter : Expr} {t t' : TI} (h : PI X tg iter t) (i : ∀ σ H R, t' σ H R → t σ H R) : PI X tg iter t' := ⟨fun pins s σ H R I k => h.run pins s σ H R I (i _ _ _ k)⟩
/-- a walk whose items are the values of a list of the frozen part -/
theorem yields_walk {G : Gd} {J : It} {W0 : Wd} {ds : List D} {xs : List V} {Gh : Hp → Prop} (w : Walk J xs.length Gh (YAt xs)) (r : RVs G.K W0 ds xs) (hg : ∀ W st H, Ext0 W0 W → HeapOk G W st H → Gh H) : Yields G J W0 ds := by
  have l := r.length
  refine ⟨fun i W st H e ok hi => w.goes i H (by omega) (hg W st H e ok), fun i W st H x H' e ok hi y => ?_, fun W st H e ok => by rw [l]; exact w.stops H (hg W st H e ok)⟩
  obtain ⟨e1, e2⟩ := w.yields i H x H' (by omega) (hg W st H e ok) y
  subst e1
  obtain ⟨d, e3, e4⟩ := r.getv e2
  exact ⟨W, d, Ext.refl W, ok, e3, e4.ext0 e⟩
/-- .. in new pairs -/
theorem yields_pair {G : Gd} {J : It} {W0 : Wd} {items : List D} {p q : Nat → Option V} {Gh : Hp → Prop} (w : Walk J items.length Gh (YPair p q)) (hg : ∀ W st H, Ext0 W0 W → HeapOk G W st H → Gh H)
    (h : ∀ i x y, i < items.length → p i = some x → q i = some y → ∃ a b, items[i]? = some (.tup [a, b]) ∧ RV G.K W0 a x ∧ RV G.K W0 b y) : Yields G J W0 items := by
  refine ⟨fun i W st H e ok hi => w.goes i H hi (hg W st H e ok), fun i W st H v H' e ok hi y => ?_, fun W st H e ok => w.stops H (hg W st H e ok)⟩
  obtain ⟨t, x, z, rfl, ht, rfl, e1, e2⟩ := w.yields i H v H' hi (hg W st H e ok) y
  obtain ⟨a, b, e3, ra, rb⟩ := h i x z hi e1 e2
  obtain ⟨W2, x2, ok2, r2⟩ := ok.newTup ht (.cons (ra.ext0 e) (.cons (rb.ext0 e) .nil))
  exact ⟨W2, _, x2, ok2, e3, r2⟩
def rangeD (lo : Int) (n : Nat) : List D := (List.range n).map fun i : Nat => D.int (lo + (i : Int))
theorem yields_range {G : Gd} {W0 : Wd} {lo : Int} {n : Nat} : Yields G (Itr lo n) W0 (rangeD lo n) := by
  have l : (rangeD lo n).length = n := by simp [rangeD]
  refine ⟨fun i W st H e ok hi => by rw [l] at hi; exact hi, fun i W st H x H' e ok hi y => ?_, fun W st H e ok => by rw [l]; exact Nat.le_refl _⟩
  obtain ⟨rfl, rfl⟩ := y
  rw [l] at hi
  refine ⟨W, .int (lo + i), Ext.refl W, ok, ?_, .int _⟩
  simp [rangeD, hi]

/-! ### targets: slots, and items of the store -/
abbrev TgM := D → Env → Store → Option (Env × Store)
def PostG (G : Gd) (W : Wd) (Q : St → Hp → Prop) : Option (Env × Store) → Prop
  | some (env, st) => ∀ W' σ H, Ext W W' → Rel G W' σ H env st → Q σ H
  | none => False
theorem PostG.ext {G : Gd} {W W1 : Wd} {Q : St → Hp → Prop} (e : Ext W W1) : ∀ {o : Option (Env × Store)}, PostG G W Q o → PostG G W1 Q o
  | some _, h => fun W' σ H x r => h W' σ H (e.trans x) r
  | none, h => h
def tG (G : Gd) (b : TgM) : TG := fun v σ H Q => ∃ W env st d, Rel G W σ H env st ∧ RV G.K W d v ∧ PostG G W Q (b d env st)
structure SG (X : Cx) (T : Tb) (tg : Expr) (b : TgM) : Prop where
  pg : PG X tg (tG (Gof X T) b)
theorem _root_.L2.PG.imp {X : Cx} {tg : Expr} {t t' : TG} (h : PG X tg t) (i : ∀ v σ H Q, t' v σ H Q → t v σ H Q) : PG X tg t' := ⟨fun pins s σ H v u Q I r k => h.run pins s σ H v u Q I r (i _ _ _ _ k)⟩
theorem _root_.L2.PGs.imp {X : Cx} {tg : List Expr} {t t' : TGs} (h : PGs X tg t) (i : ∀ v σ H Q, t' v σ H Q → t v σ H Q) : PGs X tg t' := ⟨fun pins s σ H v u Q I r k => h.run pins s σ H v u Q I r (i _ _ _ _ k)⟩
def gNm (i : Nat) : TgM := fun d env st => some (env.set i (some d), st)
abbrev TgsM := List D → Env → Store → Option (Env × Store)
def tGs (G : Gd) (b : TgsM) : TGs := fun vs σ H Q => ∃ W env st ds, Rel G W σ H env st ∧ RVs G.K W ds vs ∧ PostG G W Q (b ds env st)
structure SGs (X : Cx) (T : Tb) (tg : List Expr) (b : TgsM) : Prop where
  pgs : PGs X tg (tGs (Gof X T) b)
def gsNil : TgsM := fun ds env st => match ds with
  | [] => some (env, st)
  | _ => none
def gsCons (b : TgM) (c : TgsM) : TgsM := fun ds env st => match ds with
  | [] => none
  | d :: r => match b d env st with
    | some (env1, st1) => c r env1 st1
    | none => none
/-- a tuple of so many taken apart -/
def gTp (n : Nat) (b : TgsM) : TgM := fun d env st => match d with
  | .tup ds => match ds.length == n with
    | true => b ds env st
    | false => none
  | _ => none
section
variable {X : Cx} {T : Tb} {Wx : WX} {pos : Pos}
theorem sg_name {i : Nat} {x : Str} (hN : X.N.Nodup) (hi : X.N[i]? = some x) (hx : Loc X.env.scope x) (hf : X.fn x = true ∨ X.env.scope.names.lookup x = some .local := by first | exact .inl rfl | exact .inr rfl | assumption) : SG X T (.Name x pos) (gNm i) := by
  refine ⟨(pg_name hN hi hx hf).imp fun v σ H Q => ?_⟩
  rintro ⟨W, env, st, d, rl, rv, h⟩
  exact h W _ H (Ext.refl W) (rl.set rv i)
theorem sgs_nil : SGs X T [] gsNil := by
  refine ⟨pgs_nil.imp fun v σ H Q => ?_⟩
  rintro ⟨W, env, st, ds, rl, rv, h⟩
  cases rv with
  | nil => exact ⟨rfl, h W σ H (Ext.refl W) rl⟩
  | cons _ _ => exact False.elim h
theorem sgs_cons {e : Expr} {es : List Expr} {b : TgM} {c : TgsM} (h1 : SG X T e b) (h2 : SGs X T es c) (hs : (assignEach (e :: es) X.env).map (·.2) = assign e X.env :: (assignEach es X.env).map (·.2) := by rfl) : SGs X T (e :: es) (gsCons b c) := by
  refine ⟨(pgs_cons h1.pg h2.pgs hs).imp fun v σ H Q => ?_⟩
  rintro ⟨W, env, st, ds, rl, rv, h⟩
  cases rv with
  | nil => exact False.elim h
  | @cons d v0 ds vs r t =>
    refine ⟨_, _, rfl, W, env, st, d, rl, r, ?_⟩
    have h' : PostG (Gof X T) W Q (match b d env st with | some (env1, st1) => c ds env1 st1 | none => none) := h
    cases q : b d env st with
    | none =>
      rw [q] at h'
      exact h'
    | some p =>
      obtain ⟨env1, st1⟩ := p
      rw [q] at h'
      exact fun W' σ' H' e rl' => ⟨W', env1, st1, ds, rl', t.ext e, h'.ext e⟩
theorem sg_tup {es : List Expr} {k : Nat} {b : TgsM} {n : Nat} (hc : X.calm = true) (h : SGs X T es b) (hn : (assignEach es X.env).length = n := by rfl) (hst : (assignEach es X.env).findIdx? (·.1) = none := by rfl) : SG X T (.Tuple es k pos) (gTp n b) := by
  refine ⟨(pg_tup hc h.pgs hn hst).imp fun v σ H Q => ?_⟩
  rintro ⟨W, env, st, d, rl, rv, h⟩
  cases rv with
  | tup q r =>
    rename_i a xs ds
    have h' : PostG (Gof X T) W Q (match ds.length == n with | true => b ds env st | false => none) := h
    cases e : ds.length == n with
    | false =>
      rw [e] at h'
      exact False.elim h'
    | true =>
      rw [e] at h'
      exact ⟨a, xs, rfl, rl.hp.sqT q, by rw [← r.length]; exact beq_iff_eq.mp e, W, env, st, ds, rl, r, h'⟩
  | _ => exact False.elim h

/-! ### for -/
def forL (b : TgM) (body : SM) : List D → SM
  | [], env, st => .nx env st
  | d :: ds, env, st => match b d env st with
    | none => .bad
    | some (env1, st1) => match body env1 st1 with
      | .nx env2 st2 => forL b body ds env2 st2
      | .ct env2 st2 => forL b body ds env2 st2
      | .bk env2 st2 => .nx env2 st2
      | o => o
def bFor (f : Env → M (List D)) (b : TgM) (body : SM) : SM := fun env st => sOut (f env st) env fun ds st' => forL b body ds env st'
theorem ss_for {tg iter : Expr} {body : List Stmt} {f : Env → M (List D)} {b : TgM} {sf : SM} (hp : PassesOwn (model X.prog X.w) X.A X.env X.xe) (hc : X.calm = true) (hi : SI X T Wx tg iter f) (hg : SG X T tg b) (hb : SB X T Wx body sf)
    (hs : ∀ x, foldedSetIterable iter X.env x = pure x := by intro _; rfl) : SS X T Wx (.For tg iter body [] pos) (bFor f b sf) := by
  refine ⟨(ps_for hp hc hi.pi hg.pg hb.pss hs).imp fun D σ H => ?_⟩
  rintro ⟨W0, env0, st0, rl0, h0⟩
  refine ⟨W0, env0, st0, rl0, postS_out rl0 h0 fun W1 ds st1 H1 e1 rl1 p1 J y => ?_⟩
  refine ⟨fun i m σ H => m = ds.length - i ∧ i ≤ ds.length ∧ ∃ W env st, Ext W1 W ∧ Rel (Gof X T) W σ H env st ∧ PostS (Gof X T) Wx W D (forL b sf (ds.drop i) env st), ⟨_, rfl, Nat.zero_le _, W1, env0, st1, Ext.refl W1, rl1, p1⟩, ?_⟩
  rintro i m σ H ⟨rfl, hi, W, env, st, e, rl, p⟩
  by_cases hlt : i < ds.length
  · refine .inr ⟨y.go i W st H e.toExt0 rl.hp hlt, fun σ' H' => i + 1 ≤ ds.length ∧ ∃ W env st, Ext W1 W ∧ Rel (Gof X T) W σ' H' env st ∧ PostS (Gof X T) Wx W D (forL b sf (ds.drop (i + 1)) env st),
      fun σ' H' ⟨a, q⟩ => ⟨ds.length - (i + 1), by omega, rfl, a, q⟩, fun x H' yl => ?_⟩
    obtain ⟨W2, d, e2, ok2, hd, rd⟩ := y.yld i W st H x H' e.toExt0 rl.hp hlt yl
    have hdr : ds.drop i = d :: ds.drop (i + 1) := by
      rw [List.drop_eq_getElem_cons hlt]
      have : ds[i] = d := by
        rw [List.getElem?_eq_getElem hlt] at hd
        exact Option.some.inj hd
      rw [this]
    rw [hdr] at p
    refine ⟨W2, env, st, d, rl.ext e2 ok2, rd, ?_⟩
    unfold forL at p
    cases q : b d env st with
    | none =>
      rw [q] at p
      exact False.elim p
    | some pr =>
      obtain ⟨env1, st2⟩ := pr
      rw [q] at p
      refine fun W3 σ3 H3 e3 rl3 => ⟨W3, env1, st2, rl3, ?_⟩
      have p3 := PostS.ext (e2.trans e3) p
      dsimp only at p3
      have w3 : Ext W1 W3 := e.trans (e2.trans e3)
      cases z : sf env1 st2 with
      | nx env4 st4 =>
        rw [z] at p3
        exact fun W5 σ5 H5 e5 rl5 => ⟨hlt, W5, env4, st4, w3.trans e5, rl5, PostS.ext e5 p3⟩
      | ct env4 st4 =>
        rw [z] at p3
        exact fun W5 σ5 H5 e5 rl5 => ⟨hlt, W5, env4, st4, w3.trans e5, rl5, PostS.ext e5 p3⟩
      | bk env4 st4 =>
        rw [z] at p3
        exact p3
      | rt d4 st4 =>
        rw [z] at p3
        exact p3
      | ex x4 env4 st4 =>
        rw [z] at p3
        exact p3
      | bad =>
        rw [z] at p3
        exact p3
  · have hi' : i = ds.length := by omega
    subst hi'
    rw [List.drop_length] at p
    exact .inl ⟨y.stop W st H e.toExt0 rl.hp, p W σ H (Ext.refl W) rl⟩

/-! ### list comprehensions -/
abbrev WF : WX := fun _ _ _ _ => False
/-- a comprehension's clause: target, tests -/
def compL (b : TgM) (c : Env → M Bool) (e : Env → M D) : List D → Env → M (List D)
  | [], _ => ret []
  | d :: ds, env => fun st => match b d env st with
    | none => .bad
    | some (env1, st1) => bnd (calmly (c env1)) (fun t => match t with
      | true => bnd (calmly (e env1)) fun y => bnd (compL b c e ds env) fun ys => ret (y :: ys)
      | false => compL b c e ds env) st1
def wipeE (env : Env) : List Nat → Env
  | [] => env
  | v :: vs => (wipeE env vs).set v none
theorem Rel.wipe {G : Gd} {W : Wd} {σ : St} {H : Hp} {env : Env} {st : Store} (r : Rel G W σ H env st) : ∀ vs : List Nat, Rel G W (wipe σ vs) H (wipeE env vs) st
  | [] => r
  | v :: vs => (Rel.wipe r vs).wipe1 v
/-- the tests of a clause -/
structure STs (X : Cx) (T : Tb) (Wx : WX) (cs : List Expr) (f : Env → M Bool) : Prop where
  pts : PTs X cs (tT (Gof X T) Wx f)
theorem _root_.L2.PTs.imp {X : Cx} {e : List Expr} {t t' : TT} (h : PTs X e t) (i : ∀ σ H Q, t' σ H Q → t σ H Q) : PTs X e t' := ⟨fun pins s σ H Q I k => h.run pins s σ H Q I (i _ _ _ k)⟩
def cYes : Env → M Bool := fun _ => ret true
def cOne (f : Env → M D) : Env → M Bool := fun env => bnd (f env) asBool
theorem sts_nil : STs X T Wx [] cYes := by
  refine ⟨pts_nil.imp fun σ H Q => ?_⟩
  rintro ⟨W, env, st, rl, h⟩
  exact h W H (Ext.refl W) rl.hp
theorem sts_one {c : Expr} {f : Env → M D} (h : ST X T Wx c f) : STs X T Wx [c] (cOne f) := ⟨pts_one h.pt⟩
def sComp (vs : List Nat) (fi : Env → M (List D)) (b : TgM) (c : Env → M Bool) (e : Env → M D) : Env → M D := fun env =>
  bnd (fi env) fun ds => bnd (compL b c e ds (wipeE env vs)) fun ys => gd (lim ys.length) (ret (.lst ys))
def sCompM (vs : List Nat) (fi : Env → M (List D)) (b : TgM) (c : Env → M Bool) (e : Env → M D) : Env → M D := fun env =>
  bnd (fi env) fun ds => bnd (compL b c e ds (wipeE env vs)) fun ys => gd (lim ys.length) (new (.lst ys))
/-- the world with the growing list held aside -/
def Wd.hold (W : Wd) (a : Addr) (o : HO) : Wd := ⟨W.F, W.m, (a, o) :: W.P, W.f⟩
theorem hold_ext0 {W : Wd} {a : Addr} {o : HO} : Ext0 W (W.hold a o) := ⟨⟨fun _ _ h => h, [], by simp [Wd.hold]⟩, rfl⟩
theorem HeapOk.hold {G : Gd} {W : Wd} {st : Store} {H : Hp} {a : Addr} {o : HO} (ok : HeapOk G W st H) (ha : H a = none) (hn : NoX o) : HeapOk G (W.hold a o) st (upd H a o) := by
  have hF := ok.fresh ha
  have nm : a ∉ W.m := fun z => by
    obtain ⟨i, hi⟩ := List.mem_iff_getElem?.mp z
    have hl := (List.getElem?_eq_some_iff.mp hi).1
    rw [ok.len] at hl
    obtain ⟨a', h1, _, h3⟩ := ok.ob i st[i] (List.getElem?_eq_getElem hl)
    rw [hi] at h1
    cases h1
    obtain ⟨u, h4, _⟩ := h3.kind
    rw [ha] at h4
    cases h4
  refine ⟨fun b u q => upd_keeps ha b u (ok.fz b u q), ok.len, ok.inj, fun n u q => ?_, ok.tab.ext (upd_keeps ha), fun q hq => ?_, ok.nt⟩
  · obtain ⟨b, h1, h2, h3⟩ := ok.ob n u q
    obtain ⟨u', h4, _⟩ := h3.kind
    exact ⟨b, h1, h2, h3.ext0 hold_ext0 (by rw [h4]; exact upd_keeps ha _ _ h4)⟩
  · rcases List.mem_cons.mp hq with rfl | hq
    · exact ⟨upd_same, hF, nm, hn⟩
    · obtain ⟨q1, q2⟩ := ok.pr q hq
      exact ⟨upd_keeps ha _ _ q1, q2⟩
/-- what is held aside changes -/
theorem HeapOk.regrow {G : Gd} {W : Wd} {st : Store} {H : Hp} {a : Addr} {o o' : HO} {P : List (Addr × HO)} (ok : HeapOk G W st H) (hP : W.P = (a, o) :: P) (hn : NoX o') (hP2 : ∀ q ∈ P, q.1 ≠ a) : HeapOk G ⟨W.F, W.m, (a, o') :: P, W.f⟩ st (upd H a o') := by
  obtain ⟨p1, p2, p3, p4⟩ := ok.pr (a, o) (by rw [hP]; exact List.mem_cons_self)
  have e0 : Ext0 W ⟨W.F, W.m, (a, o') :: P, W.f⟩ := ⟨⟨fun _ _ h => h, [], by simp⟩, rfl⟩
  refine ⟨fun b u q => ?_, ok.len, ok.inj, fun n u q => ?_, ?_, fun q hq => ?_, ok.nt⟩
  · have hb : b ≠ a := fun z => by
      have q' : W.F b = some u := q
      rw [z, p2] at q'
      cases q'
    rw [upd_ne hb]
    exact ok.fz b u q
  · obtain ⟨b, h1, h2, h3⟩ := ok.ob n u q
    have hb : b ≠ a := fun z => p3 (z ▸ List.mem_of_getElem? h1)
    exact ⟨b, h1, h2, h3.ext0 e0 (upd_ne hb)⟩
  · intro p hp
    obtain ⟨ps, t1, t2, t3⟩ := ok.tab p hp
    have n1 : p.1 ≠ a := fun z => by
      rw [z, p1] at t1
      exact p4.1 ps (Option.some.inj t1)
    refine ⟨ps, by rw [upd_ne n1]; exact t1, t2, fun pos cv q => ?_⟩
    obtain ⟨c, e1, e2⟩ := t3 pos cv q
    have n2 : c ≠ a := fun z => by
      rw [z, p1] at e2
      exact p4.2 _ (Option.some.inj e2)
    exact ⟨c, e1, by rw [upd_ne n2]; exact e2⟩
  · rcases List.mem_cons.mp hq with rfl | hq
    · exact ⟨upd_same, p2, p3, hn⟩
    · obtain ⟨q1, q2, q3, q4⟩ := ok.pr q (by rw [hP]; exact List.mem_cons_of_mem _ hq)
      exact ⟨(upd_ne (hP2 q hq)).trans q1, q2, q3, q4⟩
/-- what was held aside is let go into the frozen part -/
theorem HeapOk.freeze {G : Gd} {W : Wd} {st : Store} {H : Hp} {a : Addr} {o : HO} {P : List (Addr × HO)} (ok : HeapOk G W st H) (hP : W.P = (a, o) :: P) (hP2 : ∀ q ∈ P, q.1 ≠ a) :
    Ext0 W ⟨upd W.F a o, W.m, P, W.f⟩ ∧ HeapOk G ⟨upd W.F a o, W.m, P, W.f⟩ st H := by
  obtain ⟨p1, p2, p3, p4⟩ := ok.pr (a, o) (by rw [hP]; exact List.mem_cons_self)
  have e0 : Ext0 W ⟨upd W.F a o, W.m, P, W.f⟩ := ⟨⟨upd_keeps p2, [], by simp⟩, rfl⟩
  refine ⟨e0, fun b u q => ?_, ok.len, ok.inj, fun n u q => ?_, ok.tab, fun q hq => ?_, fun b ps z => ?_⟩
  · by_cases hb : b = a
    · subst hb
      have q' : upd W.F b o b = some u := q
      rw [upd_same] at q'
      cases q'
      exact p1
    · have q' : upd W.F a o b = some u := q
      rw [upd_ne hb] at q'
      exact ok.fz b u q'
  · obtain ⟨b, h1, h2, h3⟩ := ok.ob n u q
    have hb : b ≠ a := fun z => p3 (z ▸ List.mem_of_getElem? h1)
    exact ⟨b, h1, (upd_ne hb).trans h2, h3.ext0 e0 rfl⟩
  · obtain ⟨q1, q2, q3, q4⟩ := ok.pr q (by rw [hP]; exact List.mem_cons_of_mem _ hq)
    exact ⟨q1, (upd_ne (hP2 q hq)).trans q2, q3, q4⟩
  · have z : upd W.F a o b = some (.tbl ps) := z
    by_cases hb : b = a
    · subst hb
      rw [upd_same] at z
      exact p4.1 ps (Option.some.inj z)
    · rw [upd_ne hb] at z
      exact ok.nt b ps z
/-- the target's slots are the block's own -/
structure Owns (b : TgM) (g : TG) (vs : List Nat) : Prop where
  same : ∀ (v : V) (σ : St) (H : Hp) (Q : St → Hp → Prop), g v σ H Q → g v σ H fun σ2 H2 => wipe σ2 vs = wipe σ vs ∧ Q σ2 H2
theorem wipe_set (i : Nat) (x : Option V) : ∀ (vs : List Nat) (σ : St), i ∈ vs → wipe (σ.set i x) vs = wipe σ vs
  | [], _, h => by simp at h
  | v :: vs, σ, h => by
    unfold wipe
    by_cases hv : i ∈ vs
    · rw [wipe_set i x vs σ hv]
    · have e : i = v := by
        rcases List.mem_cons.mp h with e | e
        · exact e
        · exact absurd e hv
      subst e
      have c : ∀ (us : List Nat) (τ : St), i ∉ us → wipe (τ.set i x) us = (wipe τ us).set i x := by
        intro us
        induction us with
        | nil => intro τ _; rfl
        | cons u us ih =>
          intro τ hu
          unfold wipe
          rw [ih τ (fun z => hu (List.mem_cons_of_mem _ z)), List.set_comm]
          intro z
          exact hu (by rw [z]; exact List.mem_cons_self)
      rw [c vs σ hv, List.set_set]
/-- slots' targets by places -/
inductive GSl : TgM → TG → List Nat → Prop
  | nm (i : Nat) (vs : List Nat) (h : i ∈ vs) : GSl (gNm i) (gName i) vs
theorem wipe_idem (σ : St) : ∀ vs : List Nat, wipe (wipe σ vs) vs = wipe σ vs := by
  have c : ∀ (vs us : List Nat), (∀ v ∈ vs, v ∈ us) → wipe (wipe σ us) vs = wipe σ us := by
    intro vs us
    induction vs with
    | nil => intro _; rfl
    | cons v vs ih =>
      intro h
      show (wipe (wipe σ us) vs).set v none = _
      rw [ih fun u hu => h u (List.mem_cons_of_mem _ hu)]
      have hv := h v List.mem_cons_self
      clear ih h
      induction us with
      | nil => simp at hv
      | cons u us ih =>
        show ((wipe σ us).set u none).set v none = (wipe σ us).set u none
        by_cases e : u = v
        · subst e
          rw [List.set_set]
        · have hv' : v ∈ us := by
            rcases List.mem_cons.mp hv with z | z
            · exact absurd z.symm e
            · exact z
          rw [List.set_comm _ _ e, ih hv']
  exact fun vs => c vs vs fun _ h => h
/-- a part from which nothing is raised, read in another world -/
theorem Post.calm {G : Gd} {Wx : WX} {σ σ' : St} {α β : Type} {W W1 : Wd} {S : Wd → β → Store → Hp → Prop} {R : Wd → α → Store → Hp → Prop} {x : M α} {k : α → M β} {st : Store} (h : Post G Wx σ W1 S (bnd (calmly x) k st))
    (hR : ∀ W' a st' H', Ext W W' → HeapOk G W' st' H' → Post G Wx σ W1 S (k a st') → R W' a st' H') : Post G WF σ' W R (x st) := by
  rw [bnd_run] at h
  unfold calmly at h
  cases q : x st with
  | ok a st' =>
    rw [q] at h
    exact fun W' H' e k => hR W' a st' H' e k h
  | ex e st' =>
    rw [q] at h
    exact False.elim h
  | bad =>
    rw [q] at h
    exact False.elim h
theorem bnd_bnd {α β γ : Type} (x : M α) (k : α → M β) (l : β → M γ) : bnd (bnd x k) l = bnd x fun a => bnd (k a) l := by
  funext st
  simp only [bnd_run]
  cases x st <;> rfl
theorem ret_bnd {α β : Type} (a : α) (k : α → M β) : bnd (ret a) k = k a := rfl
theorem calmly_noex {α : Type} {x : M α} {st st' : Store} {e : Ex} : calmly x st ≠ .ex e st' := fun h => by
  unfold calmly at h
  cases q : x st with
  | ok a s =>
    rw [q] at h
    cases h
  | ex e s =>
    rw [q] at h
    cases h
  | bad =>
    rw [q] at h
    cases h
theorem bnd_ex {α β : Type} {x : M α} {k : α → M β} {st st' : Store} {e : Ex} (h : bnd x k st = .ex e st') : x st = .ex e st' ∨ ∃ a s, x st = .ok a s ∧ k a s = .ex e st' := by
  rw [bnd_run] at h
  cases q : x st with
  | ok a s =>
    rw [q] at h
    exact .inr ⟨a, s, rfl, h⟩
  | ex e s =>
    rw [q] at h
    cases h
    exact .inl rfl
  | bad =>
    rw [q] at h
    cases h
theorem comp_noex (b : TgM) (c : Env → M Bool) (e : Env → M D) : ∀ (ds : List D) (env : Env) (st st' : Store) (x : Ex), compL b c e ds env st = .ex x st' → False
  | [], _, _, _, _, h => by cases h
  | d :: ds, env, st, st', x, h => by
    have h' : (match b d env st with
      | none => (.bad : Out (List D))
      | some (env1, st1) => bnd (calmly (c env1)) (fun t => match t with
        | true => bnd (calmly (e env1)) fun y => bnd (compL b c e ds env) fun ys => ret (y :: ys)
        | false => compL b c e ds env) st1) = .ex x st' := h
    cases q : b d env st with
    | none =>
      rw [q] at h'
      cases h'
    | some pr =>
      obtain ⟨env1, st1⟩ := pr
      rw [q] at h'
      dsimp only at h'
      rcases bnd_ex h' with z | ⟨t, s, _, z⟩
      · exact calmly_noex z
      · cases t with
        | false => exact comp_noex b c e ds env _ _ _ z
        | true =>
          rcases bnd_ex z with z | ⟨y, s2, _, z⟩
          · exact calmly_noex z
          · rcases bnd_ex z with z | ⟨ys, s3, _, z⟩
            · exact comp_noex b c e ds env _ _ _ z
            · cases z
/-- the list comprehension: the reading -/
theorem comp_core {G : Gd} {vs : List Nat} {fi : Env → M (List D)} {b : TgM} {g : TG} {c : Env → M Bool} {e : Env → M D} {fin : List D → M D} {σ : St} {H : Hp} {Q : VK} {Wx : WX} {W0 : Wd} {env0 : Env} {st0 : Store}
    (hg : ∀ v σ H Q, tG G b v σ H Q → g v σ H Q) (hv : ∀ v σ H Q, g v σ H Q → g v σ H fun σ2 H2 => wipe σ2 vs = wipe σ vs ∧ Q σ2 H2) (rl0 : Rel G W0 σ H env0 st0)
    (h0 : Post G Wx σ W0 (Wpost G Q) (bnd (fi env0) (fun ds => bnd (compL b c e ds (wipeE env0 vs)) fun ys => gd (lim ys.length) (fin ys)) st0))
    (hfin : ∀ (W1 W : Wd) (ys : List D) (xs : List V) (st : Store) (H : Hp) (a : Addr), HeapOk G W st H → W.P = (a, .lst xs) :: W1.P → (∀ q ∈ W1.P, q.1 ≠ a) → RVs G.K W ys xs → Ext0 W1 W → Post G Wx σ W1 (Wpost G Q) (fin ys st) → Q (.ref a) H) :
    tLc (tI G Wx fi) g (tT G WF c) (tE G WF e) vs σ H Q := by
  refine ⟨W0, env0, st0, rl0, Post.imp h0 fun W1 ds st1 H1 e1 ok1 p1 J y a ha => ?_⟩
  have rl1 := rl0.ext e1 ok1
  have hP1 : ∀ q ∈ W1.P, q.1 ≠ a := fun q hq z => by
    obtain ⟨q1, _⟩ := ok1.pr q hq
    rw [z, ha] at q1
    cases q1
  -- the state between two turns
  let Iv : Nat → Hp → Prop := fun i H => i ≤ ds.length ∧ ∃ W acc xs st, Ext0 W1 W ∧ W.P = (a, .lst xs) :: W1.P ∧ RVs G.K W acc xs ∧ HeapOk G W st H ∧
    Post G Wx σ W1 (Wpost G Q) (bnd (compL b c e (ds.drop i) (wipeE env0 vs)) (fun ys => gd (lim (acc ++ ys).length) (fin (acc ++ ys))) st)
  have start : Iv 0 (upd H1 a (.lst [])) := ⟨Nat.zero_le _, W1.hold a (.lst []), [], [], st1, hold_ext0, rfl, .nil, ok1.hold ha ⟨fun ps z => (nomatch z), fun φ z => (nomatch z)⟩, p1⟩
  refine ⟨fun i m H => m = ds.length - i ∧ Iv i H, ⟨_, rfl, start⟩, ?_⟩
  rintro i m H2 ⟨rfl, hi, W, acc, xs, st, eW, hP, rv, ok, p⟩
  by_cases hlt : i < ds.length
  · refine .inr ⟨y.go i W st H2 eW ok hlt, fun H' => Iv (i + 1) H', fun H' q => ⟨_, by omega, rfl, q⟩, fun x H' yl => ?_⟩
    obtain ⟨W2, d, e2, ok2, hd, rd⟩ := y.yld i W st H2 x H' eW ok hlt yl
    have hdr : ds.drop i = d :: ds.drop (i + 1) := by
      rw [List.drop_eq_getElem_cons hlt]
      have : ds[i] = d := by
        rw [List.getElem?_eq_getElem hlt] at hd
        exact Option.some.inj hd
      rw [this]
    rw [hdr] at p
    have slots2 : Rel G W2 (wipe σ vs) H' (wipeE env0 vs) st := ⟨(rl1.wipe vs).toFr.ext0 (eW.trans e2.toExt0), ok2⟩
    have turn := hv x (wipe σ vs) H' (fun σ2 H2 => tT G WF c σ2 H2 fun t H3 => if t = true then tE G WF e σ2 H3 fun z H4 => ∃ ac, H4 a = some (.lst ac) ∧ ac.length < sizeLine ∧ Iv (i + 1) (upd H4 a (.lst (ac ++ [z]))) else Iv (i + 1) H3) (hg _ _ _ _ ⟨W2, wipeE env0 vs, st, d, slots2, rd, ?_⟩)
    · rw [wipe_idem] at turn
      exact turn
    · have p' : Post G Wx σ W1 (Wpost G Q) (bnd (fun st => match b d (wipeE env0 vs) st with
          | none => .bad
          | some (env1, st1) => bnd (calmly (c env1)) (fun t => match t with
            | true => bnd (calmly (e env1)) fun y => bnd (compL b c e (ds.drop (i + 1)) (wipeE env0 vs)) fun ys => ret (y :: ys)
            | false => compL b c e (ds.drop (i + 1)) (wipeE env0 vs)) st1) (fun ys => gd (lim (acc ++ ys).length) (fin (acc ++ ys))) st) := p
      rw [bnd_run] at p'
      cases q : b d (wipeE env0 vs) st with
      | none =>
        rw [q] at p'
        exact False.elim p'
      | some pr =>
        obtain ⟨env1, st2⟩ := pr
        rw [q] at p'
        dsimp only at p'
        refine fun W3 σ3 H3 e3 rl3 => ⟨W3, env1, st2, rl3, ?_⟩
        have p2 : Post G Wx σ W1 (Wpost G Q) (bnd (bnd (calmly (c env1)) (fun t => match t with
            | true => bnd (calmly (e env1)) fun y => bnd (compL b c e (ds.drop (i + 1)) (wipeE env0 vs)) fun ys => ret (y :: ys)
            | false => compL b c e (ds.drop (i + 1)) (wipeE env0 vs))) (fun ys => gd (lim (acc ++ ys).length) (fin (acc ++ ys))) st2) := p'
        rw [bnd_bnd] at p2
        refine Post.calm p2 fun W4 t st4 H4 e4 ok4 p4 => ?_
        have eW4 : Ext0 W1 W4 := eW.trans (e2.toExt0.trans (e3.toExt0.trans e4.toExt0))
        have hP4 : W4.P = (a, .lst xs) :: W1.P := by rw [e4.P, e3.P, e2.P, hP]
        have rv4 : RVs G.K W4 acc xs := rv.ext0 (e2.toExt0.trans (e3.toExt0.trans e4.toExt0))
        cases t with
        | false =>
          exact iteF ⟨hlt, W4, acc, xs, st4, eW4, hP4, rv4, ok4, p4⟩
        | true =>
          refine iteT ⟨W4, env1, st4, rl3.ext e4 ok4, ?_⟩
          have p5 : Post G Wx σ W1 (Wpost G Q) (bnd (bnd (calmly (e env1)) fun y => bnd (compL b c e (ds.drop (i + 1)) (wipeE env0 vs)) fun ys => ret (y :: ys)) (fun ys => gd (lim (acc ++ ys).length) (fin (acc ++ ys))) st4) := p4
          rw [bnd_bnd] at p5
          refine Post.calm p5 fun W6 z st6 H6 e6 ok6 p6 v rz => ?_
          have hP6 : W6.P = (a, .lst xs) :: W1.P := e6.P.trans hP4
          have ha6 : H6 a = some (.lst xs) := (ok6.pr (a, .lst xs) (by rw [hP6]; exact List.mem_cons_self)).1
          have p7 : Post G Wx σ W1 (Wpost G Q) (bnd (compL b c e (ds.drop (i + 1)) (wipeE env0 vs)) (fun ys => gd (lim ((acc ++ [z]) ++ ys).length) (fin ((acc ++ [z]) ++ ys))) st6) := by
            have e7 : bnd (bnd (compL b c e (ds.drop (i + 1)) (wipeE env0 vs)) fun ys => ret (z :: ys)) (fun ys => gd (lim (acc ++ ys).length) (fin (acc ++ ys))) = bnd (compL b c e (ds.drop (i + 1)) (wipeE env0 vs)) (fun ys => gd (lim ((acc ++ [z]) ++ ys).length) (fin ((acc ++ [z]) ++ ys))) := by
              rw [bnd_bnd]
              congr 1
              funext ys
              rw [ret_bnd, List.append_assoc]
              rfl
            rw [← e7]
            exact p6
          have hsz : xs.length < sizeLine := by
            rw [← rv.length]
            have p8 := p7
            rw [bnd_run] at p8
            cases w : compL b c e (ds.drop (i + 1)) (wipeE env0 vs) st6 with
            | ok ys st8 =>
              rw [w] at p8
              obtain ⟨c8, _⟩ := Post.gd p8
              have c9 : ((acc ++ [z]) ++ ys).length ≤ sizeLine := of_decide_eq_true c8
              simp only [List.length_append, List.length_cons, List.length_nil] at c9
              omega
            | ex e8 st8 =>
              exfalso
              exact comp_noex _ _ _ _ _ _ _ _ w
            | bad =>
              rw [w] at p8
              exact False.elim p8
          refine ⟨xs, ha6, hsz, hlt, ⟨W6.F, W6.m, (a, .lst (xs ++ [v])) :: W1.P, W6.f⟩, acc ++ [z], xs ++ [v], st6, ?_, rfl, ?_, ok6.regrow hP6 ⟨fun ps z => (nomatch z), fun φ z => (nomatch z)⟩ hP1, p7⟩
          · exact (eW4.trans e6.toExt0).trans ⟨⟨fun _ _ h => h, [], by simp⟩, rfl⟩
          · exact RVs.ext0 (W := W6) (W' := ⟨W6.F, W6.m, (a, .lst (xs ++ [v])) :: W1.P, W6.f⟩) ⟨⟨fun _ _ h => h, [], by simp⟩, rfl⟩ ((rv4.ext0 e6.toExt0).append (.cons rz .nil))
  · have hi' : i = ds.length := by omega
    subst hi'
    rw [List.drop_length] at p
    refine .inl ⟨y.stop W st H2 eW ok, ?_⟩
    have p' : Post G Wx σ W1 (Wpost G Q) (gd (lim (acc ++ []).length) (fin (acc ++ [])) st) := p
    obtain ⟨_, p''⟩ := Post.gd p'
    rw [List.append_nil] at p''
    exact hfin W1 W acc xs st H2 a ok hP hP1 rv eW p''

theorem gname_same {i : Nat} {vs : List Nat} (h : i ∈ vs) : ∀ v σ H Q, gName i v σ H Q → gName i v σ H fun σ2 H2 => wipe σ2 vs = wipe σ vs ∧ Q σ2 H2 := fun v σ H Q q => ⟨wipe_set i (some v) vs σ h, q⟩
theorem gname_of {G : Gd} {i : Nat} : ∀ v σ H Q, tG G (gNm i) v σ H Q → gName i v σ H Q := by
  rintro v σ H Q ⟨W, env, st, d, rl, rv, h⟩
  exact h W _ H (Ext.refl W) (rl.set rv i)
/-- the pair of two slots -/
theorem gpair_same {K : PySem.W.Frag} {i j : Nat} {vs : List Nat} (hi : i ∈ vs) (hj : j ∈ vs) : ∀ v σ H Q, gTup K 2 (gCons (gName i) (gCons (gName j) gNil)) v σ H Q → gTup K 2 (gCons (gName i) (gCons (gName j) gNil)) v σ H fun σ2 H2 => wipe σ2 vs = wipe σ vs ∧ Q σ2 H2 := by
  rintro v σ H Q ⟨a, xs, e, h1, h2, x, r, e1, y, r', e2, e3, q⟩
  refine ⟨a, xs, e, h1, h2, x, r, e1, y, r', e2, e3, ?_, q⟩
  rw [wipe_set j _ vs _ hj, wipe_set i _ vs _ hi]
theorem gpair_of {G : Gd} {i j : Nat} : ∀ v σ H Q, tG G (gTp 2 (gsCons (gNm i) (gsCons (gNm j) gsNil))) v σ H Q → gTup G.K 2 (gCons (gName i) (gCons (gName j) gNil)) v σ H Q := by
  rintro v σ H Q ⟨W, env, st, d, rl, rv, h⟩
  cases rv with
  | tup q r =>
    rename_i a xs ds
    cases r with
    | nil => exact False.elim h
    | cons r1 r =>
      cases r with
      | nil => exact False.elim h
      | cons r2 r =>
        cases r with
        | nil => exact ⟨a, _, rfl, rl.hp.sqT q, rfl, _, _, rfl, _, _, rfl, rfl, h W _ H (Ext.refl W) ((rl.set r1 i).set r2 j)⟩
        | cons r3 r => exact False.elim h
  | _ => exact False.elim h
section
variable {elt tg iter : Expr} {ifs : List Expr} {scope : Scope} {own : List (Str × Nat)} {g : TG} {fi : Env → M (List D)} {b : TgM} {fc : Env → M Bool} {fe : Env → M D}
theorem fin_ret {W1 W : Wd} {G : Gd} {Wx : WX} {σ : St} {Q : VK} {ys : List D} {xs : List V} {st : Store} {H : Hp} {a : Addr} (ok : HeapOk G W st H) (hP : W.P = (a, .lst xs) :: W1.P) (hP1 : ∀ q ∈ W1.P, q.1 ≠ a) (rv : RVs G.K W ys xs) (e : Ext0 W1 W)
    (p : Post G Wx σ W1 (Wpost G Q) (ret (.lst ys) st)) : Q (.ref a) H := by
  obtain ⟨e2, ok2⟩ := ok.freeze hP hP1
  exact p ⟨upd W.F a (.lst xs), W.m, W1.P, W.f⟩ H ⟨e.trans e2, rfl⟩ ok2 (.ref a) (.lst upd_same (rv.ext0 e2))
/-- what was held aside becomes an object of the store -/
theorem HeapOk.keep {G : Gd} {W : Wd} {st : Store} {H : Hp} {a : Addr} {o : HO} {P : List (Addr × HO)} {u : Ob} (ok : HeapOk G W st H) (hP : W.P = (a, o) :: P) (hu : ∀ W', Ext0 W W' → ObR G W' H a u) (hP2 : ∀ q ∈ P, q.1 ≠ a) :
    ∃ W', Ext0 W W' ∧ W'.P = P ∧ HeapOk G W' (st ++ [u]) H ∧ RV G.K W' (.ref st.length) (.ref a) := by
  obtain ⟨p1, p2, p3, p4⟩ := ok.pr (a, o) (by rw [hP]; exact List.mem_cons_self)
  have e0 : Ext0 W ⟨W.F, W.m ++ [a], P, W.f⟩ := ⟨⟨fun _ _ h => h, [a], rfl⟩, rfl⟩
  have last : ∀ (i : Nat) (b : Addr), (W.m ++ [a])[i]? = some b → (W.m[i]? = some b) ∨ (i = W.m.length ∧ b = a) := fun i b q => by
    by_cases hi : i < W.m.length
    · rw [List.getElem?_append_left hi] at q
      exact .inl q
    · rw [List.getElem?_append_right (by omega)] at q
      have hi' : i - W.m.length = 0 := by
        have := (List.getElem?_eq_some_iff.mp q).1
        simp at this
        omega
      rw [hi'] at q
      have q' : a = b := by simpa using q
      exact .inr ⟨by omega, q'.symm⟩
  refine ⟨_, e0, rfl, ⟨ok.fz, by simp [ok.len], fun i j b qi qj => ?_, fun n v q => ?_, ok.tab, fun q hq => ?_, ok.nt⟩, .ref ?_⟩
  · rcases last i b qi with x | ⟨x, y⟩
    · rcases last j b qj with x' | ⟨x', y'⟩
      · exact ok.inj i j b x x'
      · exact absurd (List.mem_of_getElem? (y' ▸ x)) p3
    · rcases last j b qj with x' | ⟨x', y'⟩
      · exact absurd (List.mem_of_getElem? (y ▸ x')) p3
      · omega
  · by_cases hn : n < st.length
    · rw [List.getElem?_append_left hn] at q
      obtain ⟨b, h1, h2, h3⟩ := ok.ob n v q
      exact ⟨b, e0.get h1, h2, h3.ext0 e0 rfl⟩
    · rw [List.getElem?_append_right (by omega)] at q
      have hn' : n - st.length = 0 := by
        have := (List.getElem?_eq_some_iff.mp q).1
        simp at this
        omega
      rw [hn'] at q
      have q' : u = v := by simpa using q
      subst q'
      refine ⟨a, ?_, p2, hu _ e0⟩
      show (W.m ++ [a])[n]? = some a
      rw [List.getElem?_append_right (by rw [ok.len]; omega), ok.len, hn']
      rfl
  · obtain ⟨q1, q2, q3, q4⟩ := ok.pr q (by rw [hP]; exact List.mem_cons_of_mem _ hq)
    refine ⟨q1, q2, fun z => ?_, q4⟩
    rcases List.mem_append.mp z with z | z
    · exact q3 z
    · exact hP2 q hq (by simpa using z)
  · show (W.m ++ [a])[st.length]? = some a
    rw [← ok.len, List.getElem?_append_right (Nat.le_refl _)]
    simp
theorem se_comp (hc : X.calm = true) (hN : X.N.Nodup) (hi : SI X T Wx tg iter fi) (ok : BlkOk X.N X.env.scope scope own) (hgo : ∀ v σ H Q, tG (Gof X T) b v σ H Q → g v σ H Q) (hgs : ∀ v σ H Q, g v σ H Q → g v σ H fun σ2 H2 => wipe σ2 (own.map (·.2)) = wipe σ (own.map (·.2)) ∧ Q σ2 H2)
    (hg : ∀ (s : Shared) (H : Hp) (C : Addr) (cl : List (Str × Addr)) (fp : List Addr), PG (X.blk s H scope (compEnvC scope cl C X.env) fp) tg g) (ht : ∀ (s : Shared) (H : Hp) (C : Addr) (cl : List (Str × Addr)) (fp : List Addr), STs (X.blk s H scope (compEnvC scope cl C X.env) fp) T WF ifs fc)
    (he : ∀ (s : Shared) (H : Hp) (C : Addr) (cl : List (Str × Addr)) (fp : List Addr), SE (X.blk s H scope (compEnvC scope cl C X.env) fp) T WF elt fe) (hs : ∀ x, foldedSetIterable iter X.env x = pure x := by intro _; rfl) :
    SE X T Wx (.ListComp elt [⟨tg, iter, ifs, 0⟩] scope pos) (sComp (own.map (·.2)) fi b fc fe) := by
  refine ⟨(pe_lc (tt := tT (Gof X T) WF fc) (te := tE (Gof X T) WF fe) hc hN hi.pi ok hg (fun s H C cl fp => (ht s H C cl fp).pts) (fun s H C cl fp => (he s H C cl fp).pe) hs).imp fun σ H Q => ?_⟩
  rintro ⟨W, env, st, rl, h⟩
  exact comp_core (fin := fun ys => ret (.lst ys)) hgo hgs rl h fun W1 W ys xs st H a ok2 hP hP1 rv e p => fin_ret ok2 hP hP1 rv e p
theorem fin_new {W1 W : Wd} {G : Gd} {Wx : WX} {σ : St} {Q : VK} {ys : List D} {xs : List V} {st : Store} {H : Hp} {a : Addr} (ok : HeapOk G W st H) (hP : W.P = (a, .lst xs) :: W1.P) (hP1 : ∀ q ∈ W1.P, q.1 ≠ a) (rv : RVs G.K W ys xs) (e : Ext0 W1 W)
    (p : Post G Wx σ W1 (Wpost G Q) (new (.lst ys) st)) : Q (.ref a) H := by
  obtain ⟨W', e2, eP, ok2, r2⟩ := ok.keep (u := .lst ys) hP (fun W' e' => ⟨xs, (ok.pr (a, .lst xs) (by rw [hP]; exact List.mem_cons_self)).1, rv.ext0 e'⟩) hP1
  exact p W' H ⟨e.trans e2, eP⟩ ok2 (.ref a) r2
theorem se_compM (hc : X.calm = true) (hN : X.N.Nodup) (hi : SI X T Wx tg iter fi) (ok : BlkOk X.N X.env.scope scope own) (hgo : ∀ v σ H Q, tG (Gof X T) b v σ H Q → g v σ H Q) (hgs : ∀ v σ H Q, g v σ H Q → g v σ H fun σ2 H2 => wipe σ2 (own.map (·.2)) = wipe σ (own.map (·.2)) ∧ Q σ2 H2)
    (hg : ∀ (s : Shared) (H : Hp) (C : Addr) (cl : List (Str × Addr)) (fp : List Addr), PG (X.blk s H scope (compEnvC scope cl C X.env) fp) tg g) (ht : ∀ (s : Shared) (H : Hp) (C : Addr) (cl : List (Str × Addr)) (fp : List Addr), STs (X.blk s H scope (compEnvC scope cl C X.env) fp) T WF ifs fc)
    (he : ∀ (s : Shared) (H : Hp) (C : Addr) (cl : List (Str × Addr)) (fp : List Addr), SE (X.blk s H scope (compEnvC scope cl C X.env) fp) T WF elt fe) (hs : ∀ x, foldedSetIterable iter X.env x = pure x := by intro _; rfl) :
    SE X T Wx (.ListComp elt [⟨tg, iter, ifs, 0⟩] scope pos) (sCompM (own.map (·.2)) fi b fc fe) := by
  refine ⟨(pe_lc (tt := tT (Gof X T) WF fc) (te := tE (Gof X T) WF fe) hc hN hi.pi ok hg (fun s H C cl fp => (ht s H C cl fp).pts) (fun s H C cl fp => (he s H C cl fp).pe) hs).imp fun σ H Q => ?_⟩
  rintro ⟨W, env, st, rl, h⟩
  exact comp_core (fin := fun ys => new (.lst ys)) hgo hgs rl h fun W1 W ys xs st H a ok2 hP hP1 rv e p => fin_new ok2 hP hP1 rv e p
/-- y = [..] on one line -/
theorem ss_setComp {i : Nat} {y : Str} {py spos : Pos} (hc : X.calm = true) (hN : X.N.Nodup) (hy : X.N[i]? = some y) (hyl : X.env.scope.names.lookup y = some .local) (hsw : swapsWith (.ListComp elt [⟨tg, iter, ifs, 0⟩] scope pos) (some (.Name y py)) spos.line X.env = pure true)
    (hi : SI X T Wx tg iter fi) (ok : BlkOk X.N X.env.scope scope own) (hgo : ∀ v σ H Q, tG (Gof X T) b v σ H Q → g v σ H Q) (hgs : ∀ v σ H Q, g v σ H Q → g v σ H fun σ2 H2 => wipe σ2 (own.map (·.2)) = wipe σ (own.map (·.2)) ∧ Q σ2 H2)
    (hg : ∀ (s : Shared) (H : Hp) (C : Addr) (cl : List (Str × Addr)) (fp : List Addr), PG (X.blk s H scope (compEnvC scope cl C X.env) fp) tg g) (ht : ∀ (s : Shared) (H : Hp) (C : Addr) (cl : List (Str × Addr)) (fp : List Addr), STs (X.blk s H scope (compEnvC scope cl C X.env) fp) T WF ifs fc)
    (he : ∀ (s : Shared) (H : Hp) (C : Addr) (cl : List (Str × Addr)) (fp : List Addr), SE (X.blk s H scope (compEnvC scope cl C X.env) fp) T WF elt fe) (hs : ∀ x, foldedSetIterable iter X.env x = pure x := by intro _; rfl) :
    SS X T Wx (.Assign [.Name y py] (.ListComp elt [⟨tg, iter, ifs, 0⟩] scope pos) spos) (bSet i (sComp (own.map (·.2)) fi b fc fe)) := by
  refine ⟨(ps_setLc (tt := tT (Gof X T) WF fc) (te := tE (Gof X T) WF fe) hc hN hy hyl hsw hi.pi ok hg (fun s H C cl fp => (ht s H C cl fp).pts) (fun s H C cl fp => (he s H C cl fp).pe) hs).imp fun D σ H => ?_⟩
  rintro ⟨W, env, st, rl, h⟩
  have h' := postS_out (R := Wpost (Gof X T) fun x H1 => gName i x σ H1 D.nx) rl h fun W' d st' H' e r p v rv => p W' _ H' (Ext.refl _) (r.set rv i)
  exact comp_core (fin := fun ys => ret (.lst ys)) hgo hgs rl h' fun W1 W ys xs st H a ok2 hP hP1 rv e p => fin_ret (Q := fun x H1 => gName i x σ H1 D.nx) ok2 hP hP1 rv e p
end
end
end Sv
/-! Sv5: dicts; their comprehensions, one clause and two. -/
namespace Sv
open PySem L2 LamX

/-! ### dicts: keys and values side by side -/
def keyOf : D → Option Key
  | .int i => some (.inl i)
  | .str x => some (.inr x)
  | _ => none
def keyD : Key → D
  | .inl i => .int i
  | .inr x => .str x
def dGet (k : Key) : List Key → List D → Option D
  | j :: ks, v :: vs => if j = k then some v else dGet k ks vs
  | _, _ => none
def dSet (k : Key) (v : D) : List Key → List D → List D
  | j :: ks, u :: vs => (if j = k then v else u) :: dSet k v ks vs
  | _, _ => []
def dPut (k : Key) (v : D) (p : List Key × List D) : List Key × List D :=
  if p.1.any (fun j => decide (j = k)) then (p.1, dSet k v p.1 p.2) else (p.1 ++ [k], p.2 ++ [v])
theorem rv_key {K : PySem.W.Frag} {W : Wd} {d : D} {v : V} {k : Key} (r : RV K W d v) (h : keyOf d = some k) : v = kV k := by
  cases r <;> first | (cases h; rfl) | cases h
theorem rv_keyD {K : PySem.W.Frag} {W : Wd} (k : Key) : RV K W (keyD k) (kV k) := by
  cases k with
  | inl i => exact .int i
  | inr x => exact .str x
theorem put_keys (kvs : List (Key × V)) (k : Key) (v : V) (ds : List D) (d : D) : (putK kvs k v).map (·.1) = (dPut k d (kvs.map (·.1), ds)).1 := by
  unfold putK dPut
  have e : ((kvs.map (·.1)).any fun j => decide (j = k)) = kvs.any fun kv => decide (kv.1 = k) := by rw [List.any_map]; rfl
  rw [e]
  cases kvs.any fun kv => decide (kv.1 = k) with
  | true =>
    rw [if_pos rfl, if_pos rfl, List.map_map]
    refine List.map_congr_left fun p _ => ?_
    show (if p.1 = k then (p.1, v) else p).1 = p.1
    split <;> rfl
  | false =>
    rw [if_neg Bool.false_ne_true, if_neg Bool.false_ne_true, List.map_append]
    rfl
theorem put_vals {K : PySem.W.Frag} {W : Wd} {kvs : List (Key × V)} {ds : List D} (k : Key) {d : D} {v : V} (r : RVs K W ds (kvs.map (·.2))) (rv : RV K W d v) : RVs K W (dPut k d (kvs.map (·.1), ds)).2 ((putK kvs k v).map (·.2)) := by
  unfold putK dPut
  have e : ((kvs.map (·.1)).any fun j => decide (j = k)) = kvs.any fun kv => decide (kv.1 = k) := by rw [List.any_map]; rfl
  rw [e]
  cases kvs.any fun kv => decide (kv.1 = k) with
  | true =>
    rw [if_pos rfl, if_pos rfl]
    clear e
    induction kvs generalizing ds with
    | nil =>
      cases r
      exact .nil
    | cons p kvs ih =>
      cases r with
      | cons r t =>
        show RVs K W ((if p.1 = k then d else _) :: dSet k d (kvs.map (·.1)) _) (((if p.1 = k then (p.1, v) else p).2) :: _)
        refine .cons ?_ (ih t)
        by_cases h : p.1 = k
        · rw [if_pos h, if_pos h]
          exact rv
        · rw [if_neg h, if_neg h]
          exact r
  | false =>
    rw [if_neg Bool.false_ne_true, if_neg Bool.false_ne_true, List.map_append]
    exact r.append (.cons rv .nil)
theorem get_vals {K : PySem.W.Frag} {W : Wd} {k : Key} : ∀ {kvs : List (Key × V)} {ds : List D}, RVs K W ds (kvs.map (·.2)) → match dGet k (kvs.map (·.1)) ds with
    | some d => ∃ v, valV kvs k = some v ∧ RV K W d v
    | none => valV kvs k = none
  | [], _, r => by
    cases r
    rfl
  | p :: kvs, _, r => by
    cases r with
    | cons r t =>
      rename_i d ds
      show match (if p.1 = k then some d else dGet k (kvs.map (·.1)) ds) with | some d => ∃ v, valV (p :: kvs) k = some v ∧ RV K W d v | none => valV (p :: kvs) k = none
      by_cases h : p.1 = k
      · rw [if_pos h]
        exact ⟨p.2, valV_pos h, r⟩
      · rw [if_neg h, valV_neg h]
        exact get_vals t
theorem get_some {K : PySem.W.Frag} {W : Wd} {k : Key} {kvs : List (Key × V)} {ds : List D} {d : D} (r : RVs K W ds (kvs.map (·.2))) (h : dGet k (kvs.map (·.1)) ds = some d) : ∃ v, valV kvs k = some v ∧ RV K W d v := by
  have q := get_vals (k := k) r
  rw [h] at q
  exact q
theorem get_none {K : PySem.W.Frag} {W : Wd} {k : Key} {kvs : List (Key × V)} {ds : List D} (r : RVs K W ds (kvs.map (·.2))) (h : dGet k (kvs.map (·.1)) ds = none) : valV kvs k = none := by
  have q := get_vals (k := k) r
  rw [h] at q
  exact q

/-! ### a new dict is locked for good -/
theorem pe_frz {X : Cx} {e : Expr} {t : TE} (h : PE X e t) : PE X e (fun σ H Q => t σ H fun v H1 => ∃ d u, v = .ref d ∧ H1 d = some u ∧ Mut (some u) ∧ ∀ od, Q v (upd H1 d (.frz od u))) := by
  refine ⟨fun pins s σ H Q I k => thn (h.run pins s σ H _ I k) ?_⟩
  rintro v s1 ⟨x, H1, I1, r1, d, u, e, hd, mu, q⟩
  obtain ⟨od, I2⟩ := I1.lock hd mu
  exact ⟨x, _, I2, r1, q od⟩

/-! ### {k: v for ..} -/
abbrev KD := List Key × List D
def dictL (b : TgM) (c : Env → M Bool) (fk fe : Env → M D) : List D → Env → KD → M KD
  | [], _, acc => ret acc
  | d :: ds, env, acc => fun st => match b d env st with
    | none => .bad
    | some (env1, st1) => bnd (calmly (c env1)) (fun t => match t with
      | true => bnd (calmly (fk env1)) fun k => bnd (calmly (fe env1)) fun v => match keyOf k with
        | some j => gd (decide (acc.1.length < sizeLine)) (dictL b c fk fe ds env (dPut j v acc))
        | none => bad
      | false => dictL b c fk fe ds env acc) st1
def fzD (p : KD) : M D := ret (.dct p.1 p.2)
def nwD (p : KD) : M D := new (.dct p.1 p.2)
def sDict (fin : KD → M D) (vs : List Nat) (fi : Env → M (List D)) (b : TgM) (c : Env → M Bool) (fk fe : Env → M D) : Env → M D := fun env =>
  bnd (fi env) fun ds => bnd (dictL b c fk fe ds (wipeE env vs) ([], [])) fin
/-- the dict that is under way: held aside at a -/
structure DHold (G : Gd) (W1 W : Wd) (a : Addr) (acc : KD) (st : Store) (H : Hp) (kvs : List (Key × V)) : Prop where
  e : Ext0 W1 W
  P : W.P = (a, .dK kvs) :: W1.P
  ks : kvs.map (·.1) = acc.1
  vs : RVs G.K W acc.2 (kvs.map (·.2))
  ok : HeapOk G W st H
theorem DHold.at_ {G : Gd} {W1 W : Wd} {a : Addr} {acc : KD} {st : Store} {H : Hp} {kvs : List (Key × V)} (d : DHold G W1 W a acc st H kvs) : H a = some (.dK kvs) := (d.ok.pr (a, .dK kvs) (by rw [d.P]; exact List.mem_cons_self)).1
theorem DHold.later {G : Gd} {W1 W W' : Wd} {a : Addr} {acc : KD} {st st' : Store} {H H' : Hp} {kvs : List (Key × V)} (d : DHold G W1 W a acc st H kvs) (e : Ext W W') (ok : HeapOk G W' st' H') : DHold G W1 W' a acc st' H' kvs :=
  ⟨d.e.trans e.toExt0, e.P.trans d.P, d.ks, d.vs.ext e, ok⟩
theorem DHold.put {G : Gd} {W1 W : Wd} {a : Addr} {acc : KD} {st : Store} {H : Hp} {kvs : List (Key × V)} {k : Key} {x : D} {v : V} (d : DHold G W1 W a acc st H kvs) (hP1 : ∀ q ∈ W1.P, q.1 ≠ a) (r : RV G.K W x v) :
    ∃ W', DHold G W1 W' a (dPut k x acc) st (upd H a (.dK (putK kvs k v))) (putK kvs k v) ∧ Ext0 W W' := by
  have e0 : Ext0 W ⟨W.F, W.m, (a, .dK (putK kvs k v)) :: W1.P, W.f⟩ := ⟨⟨fun _ _ h => h, [], by simp⟩, rfl⟩
  have hk := d.ks
  obtain ⟨ks, ds⟩ := acc
  dsimp only at hk
  subst hk
  exact ⟨⟨W.F, W.m, (a, .dK (putK kvs k v)) :: W1.P, W.f⟩, ⟨d.e.trans e0, rfl, put_keys kvs k v ds x, RVs.ext0 e0 (put_vals k d.vs r), d.ok.regrow d.P ⟨fun ps z => (nomatch z), fun φ z => (nomatch z)⟩ hP1⟩, e0⟩
/-- at the end: frozen, or an object of the store -/
theorem DHold.frz {G : Gd} {W1 W : Wd} {a : Addr} {acc : KD} {st : Store} {H : Hp} {kvs : List (Key × V)} {Wx : WX} {σ : St} {Q : VK} {od : Obj} (d : DHold G W1 W a acc st H kvs) (hP1 : ∀ q ∈ W1.P, q.1 ≠ a) (p : Post G Wx σ W1 (Wpost G Q) (fzD acc st)) : Q (.ref a) (upd H a (.frz od (.dK kvs))) := by
  have ok1 := d.ok.regrow (o' := .frz od (.dK kvs)) d.P ⟨fun ps z => (nomatch z), fun φ z => (nomatch z)⟩ hP1
  have e1 : Ext0 W ⟨W.F, W.m, (a, .frz od (.dK kvs)) :: W1.P, W.f⟩ := ⟨⟨fun _ _ h => h, [], by simp⟩, rfl⟩
  obtain ⟨e2, ok2⟩ := ok1.freeze rfl hP1
  have hk := d.ks
  obtain ⟨ks, ds⟩ := acc
  dsimp only at hk
  subst hk
  have r : RVs G.K ⟨upd W.F a (.frz od (.dK kvs)), W.m, W1.P, W.f⟩ ds (kvs.map (·.2)) := RVs.ext0 (e1.trans e2) d.vs
  exact p _ _ ⟨d.e.trans (e1.trans e2), rfl⟩ ok2 (.ref a) (.dct upd_same r)
theorem DHold.new {G : Gd} {W1 W : Wd} {a : Addr} {acc : KD} {st : Store} {H : Hp} {kvs : List (Key × V)} {Wx : WX} {σ : St} {Q : VK} (d : DHold G W1 W a acc st H kvs) (hP1 : ∀ q ∈ W1.P, q.1 ≠ a) (p : Post G Wx σ W1 (Wpost G Q) (nwD acc st)) : Q (.ref a) H := by
  obtain ⟨W', e2, eP, ok2, r2⟩ := d.ok.keep (u := .dct acc.1 acc.2) d.P (fun W' e' => ⟨kvs, d.at_, d.ks, d.vs.ext0 e'⟩) hP1
  exact p W' H ⟨d.e.trans e2, eP⟩ ok2 (.ref a) r2
theorem DHold.start {G : Gd} {W1 : Wd} {a : Addr} {st : Store} {H : Hp} (ok : HeapOk G W1 st H) (ha : H a = none) : DHold G W1 (W1.hold a (.dK [])) a ([], []) st (upd H a (.dK [])) [] :=
  ⟨hold_ext0, rfl, rfl, .nil, ok.hold ha ⟨fun ps z => (nomatch z), fun φ z => (nomatch z)⟩⟩
section
variable {G : Gd} {vs : List Nat} {b : TgM} {g : TG} {c : Env → M Bool} {fk fe : Env → M D} {σ : St} {Wx : WX} {β : Type} {S : Wd → β → Store → Hp → Prop}
/-- the turns of the clause next to the end: from a dict held to a dict held. kk: what comes behind the loop. vs: the slots that are forgotten at each turn; base: what the slots are told by -/
theorem dict_turns {W1 : Wd} {a : Addr} {J : It} {ds : List D} {WJ : Wd} (hg : ∀ v σ H Q, tG G b v σ H Q → g v σ H Q) (hv : ∀ v σ H Q, g v σ H Q → g v σ H fun σ2 H2 => wipe σ2 vs = wipe σ vs ∧ Q σ2 H2)
    (hP1 : ∀ q ∈ W1.P, q.1 ≠ a) (y : Yields G J WJ ds) {σb : St} {envb : Env} (slots : ∀ (W : Wd), Ext0 WJ W → Fr G W (wipe σb vs) (wipeE envb vs))
    {kk : KD → M β} {H0 : Hp} {acc0 : KD} {kvs0 : List (Key × V)} {W : Wd} {st : Store} (d0 : DHold G W1 W a acc0 st H0 kvs0) (eJ : Ext0 WJ W)
    (p0 : Post G Wx σ W1 S (bnd (dictL b c fk fe ds (wipeE envb vs) acc0) kk st)) {Qd : Hp → Prop}
    (hend : ∀ (W : Wd) (acc : KD) (kvs : List (Key × V)) (st : Store) (H : Hp), DHold G W1 W a acc st H kvs → Ext0 WJ W → Post G Wx σ W1 S (kk acc st) → Qd H) :
    ∃ Wt : Nat → Nat → Hp → Prop, (∃ m, Wt 0 m H0) ∧ ∀ i m H, Wt i m H →
      (J.stop i H ∧ Qd H) ∨ (J.go i H ∧ ∃ Nx : Hp → Prop, (∀ H', Nx H' → ∃ m', m' < m ∧ Wt (i + 1) m' H') ∧ ∀ x H', J.yld i H x H' → g x (wipe σb vs) H' fun σ2 H2 => wipe σ2 vs = wipe σb vs ∧ tT G WF c σ2 H2 fun t H3 =>
        if t = true then tE G WF fk σ2 H3 fun y H4 => tE G WF fe σ2 H4 fun z H5 => ∃ kvs k, y = kV k ∧ H5 a = some (.dK kvs) ∧ kvs.length < sizeLine ∧ Nx (upd H5 a (.dK (putK kvs k z))) else Nx H3) := by
  let Iv : Nat → Hp → Prop := fun i H => i ≤ ds.length ∧ ∃ W acc kvs st, DHold G W1 W a acc st H kvs ∧ Ext0 WJ W ∧ Post G Wx σ W1 S (bnd (dictL b c fk fe (ds.drop i) (wipeE envb vs) acc) kk st)
  refine ⟨fun i m H => m = ds.length - i ∧ Iv i H, ⟨_, rfl, Nat.zero_le _, W, acc0, kvs0, st, d0, eJ, p0⟩, ?_⟩
  rintro i m H2 ⟨rfl, hi, W, acc, kvs, st, dh, eW, p⟩
  by_cases hlt : i < ds.length
  · refine .inr ⟨y.go i W st H2 eW dh.ok hlt, fun H' => Iv (i + 1) H', fun H' q => ⟨_, by omega, rfl, q⟩, fun x H' yl => ?_⟩
    obtain ⟨W2, d, e2, ok2, hd, rd⟩ := y.yld i W st H2 x H' eW dh.ok hlt yl
    have hdr : ds.drop i = d :: ds.drop (i + 1) := by
      rw [List.drop_eq_getElem_cons hlt]
      have : ds[i] = d := by
        rw [List.getElem?_eq_getElem hlt] at hd
        exact Option.some.inj hd
      rw [this]
    rw [hdr] at p
    have slots2 : Rel G W2 (wipe σb vs) H' (wipeE envb vs) st := ⟨slots W2 (eW.trans e2.toExt0), ok2⟩
    have turn := hv x (wipe σb vs) H' (fun σ2 H2 => tT G WF c σ2 H2 fun t H3 => if t = true then tE G WF fk σ2 H3 fun y H4 => tE G WF fe σ2 H4 fun z H5 => ∃ kvs k, y = kV k ∧ H5 a = some (.dK kvs) ∧ kvs.length < sizeLine ∧ Iv (i + 1) (upd H5 a (.dK (putK kvs k z))) else Iv (i + 1) H3) (hg _ _ _ _ ⟨W2, wipeE envb vs, st, d, slots2, rd, ?_⟩)
    · rw [wipe_idem] at turn
      exact turn
    · have p' : Post G Wx σ W1 S (bnd (fun st => match b d (wipeE envb vs) st with
          | none => .bad
          | some (env1, st1) => bnd (calmly (c env1)) (fun t => match t with
            | true => bnd (calmly (fk env1)) fun k => bnd (calmly (fe env1)) fun v => match keyOf k with
              | some j => gd (decide (acc.1.length < sizeLine)) (dictL b c fk fe (ds.drop (i + 1)) (wipeE envb vs) (dPut j v acc))
              | none => bad
            | false => dictL b c fk fe (ds.drop (i + 1)) (wipeE envb vs) acc) st1) kk st) := p
      rw [bnd_run] at p'
      cases q : b d (wipeE envb vs) st with
      | none =>
        rw [q] at p'
        exact False.elim p'
      | some pr =>
        obtain ⟨env1, st2⟩ := pr
        rw [q] at p'
        dsimp only at p'
        refine fun W3 σ3 H3 e3 rl3 => ⟨W3, env1, st2, rl3, ?_⟩
        have p2 : Post G Wx σ W1 S (bnd (bnd (calmly (c env1)) (fun t => match t with
            | true => bnd (calmly (fk env1)) fun k => bnd (calmly (fe env1)) fun v => match keyOf k with
              | some j => gd (decide (acc.1.length < sizeLine)) (dictL b c fk fe (ds.drop (i + 1)) (wipeE envb vs) (dPut j v acc))
              | none => bad
            | false => dictL b c fk fe (ds.drop (i + 1)) (wipeE envb vs) acc)) kk st2) := p'
        rw [bnd_bnd] at p2
        refine Post.calm p2 fun W4 t st4 H4 e4 ok4 p4 => ?_
        have e24 := e2.trans (e3.trans e4)
        have dh4 := dh.later e24 ok4
        cases t with
        | false => exact iteF ⟨hlt, W4, acc, kvs, st4, dh4, eW.trans e24.toExt0, p4⟩
        | true =>
          refine iteT ⟨W4, env1, st4, rl3.ext e4 ok4, ?_⟩
          have p5 : Post G Wx σ W1 S (bnd (bnd (calmly (fk env1)) fun k => bnd (calmly (fe env1)) fun v => match keyOf k with
              | some j => gd (decide (acc.1.length < sizeLine)) (dictL b c fk fe (ds.drop (i + 1)) (wipeE envb vs) (dPut j v acc))
              | none => bad) kk st4) := p4
          rw [bnd_bnd] at p5
          refine Post.calm p5 fun W6 k st6 H6 e6 ok6 p6 u ru => ?_
          have rl6 := (rl3.ext e4 ok4).ext e6 ok6
          refine ⟨W6, env1, st6, rl6, ?_⟩
          have p7 : Post G Wx σ W1 S (bnd (bnd (calmly (fe env1)) fun v => match keyOf k with
              | some j => gd (decide (acc.1.length < sizeLine)) (dictL b c fk fe (ds.drop (i + 1)) (wipeE envb vs) (dPut j v acc))
              | none => bad) kk st6) := p6
          rw [bnd_bnd] at p7
          refine Post.calm p7 fun W8 z st8 H8 e8 ok8 p8 v rz => ?_
          have dh8 := dh4.later (e6.trans e8) ok8
          cases hk : keyOf k with
          | none =>
            rw [hk] at p8
            exact False.elim p8
          | some j =>
            rw [hk] at p8
            dsimp only at p8
            have p9 : Post G Wx σ W1 S (bnd (gd (decide (acc.1.length < sizeLine)) (dictL b c fk fe (ds.drop (i + 1)) (wipeE envb vs) (dPut j z acc))) kk st8) := p8
            have eg : ∀ (t : Bool) (x : M KD) (s : Store), bnd (gd t x) kk s = gd t (bnd x kk) s := fun t x s => by cases t <;> rfl
            rw [eg] at p9
            obtain ⟨c9, p10⟩ := Post.gd p9
            have hlen : kvs.length < sizeLine := by
              have h1 : acc.1.length < sizeLine := of_decide_eq_true c9
              rw [← dh.ks, List.length_map] at h1
              exact h1
            obtain ⟨W9, dh9, e9⟩ := dh8.put (k := j) hP1 rz
            exact ⟨kvs, j, rv_key (ru.ext e8) hk, dh8.at_, hlen, hlt, W9, _, _, st8, dh9, (eW.trans (e24.trans (e6.trans e8)).toExt0).trans e9, p10⟩
  · have hi' : i = ds.length := by omega
    subst hi'
    rw [List.drop_length] at p
    exact .inl ⟨y.stop W st H2 eW dh.ok, hend W acc kvs st H2 dh eW p⟩
end
section
variable {X : Cx} {T : Tb} {Wx : WX} {kx vx tg iter : Expr} {ifs : List Expr} {scope : Scope} {own : List (Str × Nat)} {g : TG} {fi : Env → M (List D)} {b : TgM} {fc : Env → M Bool} {fk fe : Env → M D} {pos : Pos}
/-- {k: v for tg in iter if ..}, never changed -/
theorem se_dict (hc : X.calm = true) (hN : X.N.Nodup) (hi : SI X T Wx tg iter fi) (ok : BlkOk X.N X.env.scope scope own) (hgo : ∀ v σ H Q, tG (Gof X T) b v σ H Q → g v σ H Q) (hgs : ∀ v σ H Q, g v σ H Q → g v σ H fun σ2 H2 => wipe σ2 (own.map (·.2)) = wipe σ (own.map (·.2)) ∧ Q σ2 H2)
    (hg : ∀ (s : Shared) (H : Hp) (C : Addr) (cl : List (Str × Addr)) (fp : List Addr), PG (X.blk s H scope (compEnvC scope cl C X.env) fp) tg g) (ht : ∀ (s : Shared) (H : Hp) (C : Addr) (cl : List (Str × Addr)) (fp : List Addr), STs (X.blk s H scope (compEnvC scope cl C X.env) fp) T WF ifs fc)
    (hk : ∀ (s : Shared) (H : Hp) (C : Addr) (cl : List (Str × Addr)) (fp : List Addr), SE (X.blk s H scope (compEnvC scope cl C X.env) fp) T WF kx fk) (he : ∀ (s : Shared) (H : Hp) (C : Addr) (cl : List (Str × Addr)) (fp : List Addr), SE (X.blk s H scope (compEnvC scope cl C X.env) fp) T WF vx fe)
    (hs : ∀ x, foldedSetIterable iter X.env x = pure x := by intro _; rfl) : SE X T Wx (.DictComp kx vx [⟨tg, iter, ifs, 0⟩] scope pos) (sDict fzD (own.map (·.2)) fi b fc fk fe) := by
  refine ⟨(pe_frz (pe_dc (tt := tT (Gof X T) WF fc) (tk := tE (Gof X T) WF fk) (tv := tE (Gof X T) WF fe) hc hN hi.pi ok hg (fun s H C cl fp => (ht s H C cl fp).pts) (fun s H C cl fp => (hk s H C cl fp).pe) (fun s H C cl fp => (he s H C cl fp).pe) hs)).imp fun σ H Q => ?_⟩
  rintro ⟨W0, env0, st0, rl0, h0⟩
  refine ⟨W0, env0, st0, rl0, Post.imp h0 fun W1 ds st1 H1 e1 ok1 p1 J y a ha => ?_⟩
  have rl1 := rl0.ext e1 ok1
  have hP1 : ∀ q ∈ W1.P, q.1 ≠ a := fun q hq z => by
    obtain ⟨q1, _⟩ := ok1.pr q hq
    rw [z, ha] at q1
    cases q1
  exact dict_turns (σb := σ) (envb := env0) (kk := fzD) hgo hgs hP1 y (fun W e => (rl1.wipe _).toFr.ext0 e) (DHold.start ok1 ha) hold_ext0 p1 fun W acc kvs st H dh _ p => ⟨a, _, rfl, dh.at_, True.intro, fun od => dh.frz hP1 p⟩
end
end Sv
/-! Sv6: dict comprehensions of two clauses. -/
namespace Sv
open PySem L2 LamX PySem.Spec
open PyProof.Rows hiding St

abbrev twoD (kx vx t0 i0 t1 i1 : Expr) (c0 c1 : List Expr) (sc : Scope) (pos : Pos) : Expr := .DictComp kx vx [⟨t0, i0, c0, 0⟩, ⟨t1, i1, c1, 0⟩] sc pos
theorem outer_turn (kx vx t0 i0 t1 i1 : Expr) (c0 c1 : List Expr) (sc : Scope) (pos : Pos) (it acc : Value) (env : PySem.Env) :
    compTurn (twoD kx vx t0 i0 t1 i1 c0 c1 sc pos) 0 it acc env = (do
      standAt i0.pos
      match ← pyNext it with
      | none => pure (.done .next)
      | some v =>
        letOwnedTupleGo t0 it v
        assign t0 env v
        let mut ok := true
        for c in c0 do
          if ok then ok ← isTrue c env (eval c env)
        if ok then
          let x ← eval i1 env
          standAt i1.pos
          let x ← foldedSetIterable i1 env x
          let _ ← runOwn (.compStart (twoD kx vx t0 i0 t1 i1 c0 c1 sc pos) 1 (← holding [x] (pyIter x)) acc env) env
        again (.compLoop (twoD kx vx t0 i0 t1 i1 c0 c1 sc pos) 0 it acc env)) := by rfl
theorem inner_turn (kx vx t0 i0 t1 i1 : Expr) (c0 c1 : List Expr) (sc : Scope) (pos : Pos) (it : Value) (a : Addr) (env : PySem.Env) :
    compTurn (twoD kx vx t0 i0 t1 i1 c0 c1 sc pos) 1 it (.ref a) env = (do
      standAt i1.pos
      match ← pyNext it with
      | none => pure (.done .next)
      | some v =>
        letOwnedTupleGo t1 it v
        assign t1 env v
        let mut ok := true
        for c in c1 do
          if ok then ok ← isTrue c env (eval c env)
        if ok then
          (do
            let kv ← eval kx env
            let vv ← holding [kv] (eval vx env)
            standAt { kx.pos with endLine := vx.pos.endLine, endCol := vx.pos.endCol }
            holding [kv, vv] (dictSet a kv vv))
        again (.compLoop (twoD kx vx t0 i0 t1 i1 c0 c1 sc pos) 1 it (.ref a) env)) := by rfl
abbrev tests (cs : List Expr) (env : PySem.Env) : Sem Bool := forIn cs true fun c r => if r = true then do let ok ← isTrue c env (eval c env); pure (ForInStep.yield ok) else pure (ForInStep.yield r)
section
variable {prog : Program} {w : World} {A : Around} {R : Result → Shared → Prop} {s : Shared} {kx vx t0 i0 t1 i1 : Expr} {c0 c1 : List Expr} {sc : Scope} {pos : Pos} {it acc : Value} {a : Addr} {env : PySem.Env}
theorem outer_loop (hs : ∀ x, foldedSetIterable i1 env x = pure x) (I : Nat → Shared → Prop)
    (turn : ∀ n s, I n s →
      let E : Value → Shared → Prop := notedBy (model prog w) A env fun e s' => R (.error e) s'
      wpAny (model prog w) A (pyNext it) (fun r sa => match r with
        | none => R (.ok .next) sa
        | some v => wpAny (model prog w) A (letOwnedTupleGo t0 it v) (fun _ sb => wpAny (model prog w) A (assign t0 env v) (fun _ sc' => wpAny (model prog w) A (tests c0 env) (fun ok sd =>
            if ok = true then wpAny (model prog w) A (eval i1 env) (fun x se => wpAny (model prog w) A (pyIter x) (fun jt sf =>
              codeAny (model prog w) A (.compStart (twoD kx vx t0 i0 t1 i1 c0 c1 sc pos) 1 jt acc env) (fun r s' => match r with
                | .ok _ => ∃ m, m < n ∧ I m s'
                | .error _ => False) sf) E se) E sd
            else ∃ m, m < n ∧ I m sd) E sc') E sb) E sa) E s)
    (n : Nat) (h : I n s) : codeAny (model prog w) A (.compLoop (twoD kx vx t0 i0 t1 i1 c0 c1 sc pos) 0 it acc env) R s := by
  refine codeAny_loop rfl I (fun n s hI => ?_) n h
  show wpAny _ A ((compTurn (twoD kx vx t0 i0 t1 i1 c0 c1 sc pos) 0 it acc env).onRaise (fun x => do noteFrame x env; theTreesLotGoes x)) _ _ s
  refine wpAny_noted ?_
  rw [outer_turn]
  refine wpAny_bind (wpAny_standAt (wpAny_bind (wpAny_mono (turn n s hI) (fun r sa ha => ?_) fun _ _ z => z)))
  cases r with
  | none => exact wpAny_pure ha
  | some v =>
    refine wpAny_bind (wpAny_mono ha (fun _ sb hb => ?_) fun _ _ z => z)
    refine wpAny_bind (wpAny_mono hb (fun _ sc' hc => wpAny_bind (wpAny_mono hc (fun ok sd hd => ?_) fun _ _ z => z)) fun _ _ z => z)
    cases ok with
    | false => exact wpAny_pure ⟨rfl, hd⟩
    | true =>
      refine wpAny_bind (wpAny_mono hd (fun x se he => ?_) fun _ _ z => z)
      refine wpAny_bind (wpAny_standAt (wpAny_bind (wpAny_of_eq (hs x) (wpAny_bind (wpAny_holding (wpAny_mono he (fun jt sf hf => ?_) fun _ _ z => z))))))
      refine wpAny_bind (wpAny_runOwn ?_)
      rw [Around.mark_none]
      refine codeAny_mono hf fun r s' hr => ?_
      cases r with
      | error e => exact hr.elim
      | ok f =>
        first
          | exact wpAny_pure ⟨rfl, hr⟩
          | exact wpAny_bind (wpAny_pure (wpAny_pure ⟨rfl, hr⟩))
theorem inner_loop (I : Nat → Shared → Prop)
    (turn : ∀ n s, I n s →
      let E : Value → Shared → Prop := notedBy (model prog w) A env fun e s' => R (.error e) s'
      wpAny (model prog w) A (pyNext it) (fun r sa => match r with
        | none => R (.ok .next) sa
        | some v => wpAny (model prog w) A (letOwnedTupleGo t1 it v) (fun _ sb => wpAny (model prog w) A (assign t1 env v) (fun _ sc' => wpAny (model prog w) A (tests c1 env) (fun ok sd =>
            if ok = true then wpAny (model prog w) A (eval kx env) (fun k se => wpAny (model prog w) A (eval vx env) (fun z sf =>
              wpAny (model prog w) A (dictSet a k z) (fun _ sg => ∃ m, m < n ∧ I m sg) E sf) E se) E sd
            else ∃ m, m < n ∧ I m sd) E sc') E sb) E sa) E s)
    (n : Nat) (h : I n s) : codeAny (model prog w) A (.compLoop (twoD kx vx t0 i0 t1 i1 c0 c1 sc pos) 1 it (.ref a) env) R s := by
  refine codeAny_loop rfl I (fun n s hI => ?_) n h
  show wpAny _ A ((compTurn (twoD kx vx t0 i0 t1 i1 c0 c1 sc pos) 1 it (.ref a) env).onRaise (fun x => do noteFrame x env; theTreesLotGoes x)) _ _ s
  refine wpAny_noted ?_
  rw [inner_turn]
  refine wpAny_bind (wpAny_standAt (wpAny_bind (wpAny_mono (turn n s hI) (fun r sa ha => ?_) fun _ _ z => z)))
  cases r with
  | none => exact wpAny_pure ha
  | some v =>
    refine wpAny_bind (wpAny_mono ha (fun _ sb hb => ?_) fun _ _ z => z)
    refine wpAny_bind (wpAny_mono hb (fun _ sc' hc => wpAny_bind (wpAny_mono hc (fun ok sd hd => ?_) fun _ _ z => z)) fun _ _ z => z)
    cases ok with
    | false => exact wpAny_pure ⟨rfl, hd⟩
    | true =>
      exact wpAny_bind (wpAny_bind (wpAny_mono hd (fun k se he => wpAny_bind (wpAny_holding (wpAny_mono he (fun z sf hf => wpAny_bind (wpAny_standAt (wpAny_holding (wpAny_mono hf (fun _ sg hg => wpAny_pure ⟨rfl, hg⟩) fun _ _ z => z)))) fun _ _ z => z))) fun _ _ z => z))
theorem inner_start (h0 : codeAny (model prog w) A (.compLoop (twoD kx vx t0 i0 t1 i1 c0 c1 sc pos) 1 it acc env) R s)
    (h : wpAny (model prog w) A (pyIter it) (fun jt s' => codeAny (model prog w) A (.compLoop (twoD kx vx t0 i0 t1 i1 c0 c1 sc pos) 1 jt acc env) R s')
      (notedBy (model prog w) A env fun x s' => R (.error x) s') s) :
    codeAny (model prog w) A (.compStart (twoD kx vx t0 i0 t1 i1 c0 c1 sc pos) 1 it acc env) R s := by
  refine codeAny_of_tree ?_
  show wpAny _ _ ((compStart (twoD kx vx t0 i0 t1 i1 c0 c1 sc pos) 1 it acc env).onRaise (fun x => do noteFrame x env; standAt theWindowsPlace)) _ _ s
  refine wpAny_notedAt ?_
  unfold compStart
  show wpAny _ _ (ask >>= _) _ _ s
  refine wpAny_bind (wpAny_askSetting (wpAny_ite ?_))
  split
  · first
      | exact wpAny_bind (wpAny_pure (wpAny_pure (And.intro rfl h0)))
      | exact wpAny_pure (And.intro rfl h0)
  · first
      | exact wpAny_bind (wpAny_rule (wpAny_bind (wpAny_standAt (wpAny_bind (wpAny_mono h (fun jt s' hj => wpAny_pure (And.intro rfl hj)) fun _ _ x => x)))))
      | (refine wpAny_bind (wpAny_rule ?_); show wpAny _ _ (standAt i1.pos >>= _) _ _ s; exact wpAny_bind (wpAny_standAt (wpAny_bind (wpAny_mono h (fun jt s' hj => wpAny_pure (And.intro rfl hj)) fun _ _ x => x))))
end
section
variable {X : Cx}
/-- the reading of {k: v for .. for ..}: p the new dict; vs the block's slots, vs1 those of the second target -/
def tTwo (wi : TI) (g : TG) (tt : TT) (wi1 : TI) (g1 : TG) (tt1 : TT) (tk tv : TE) (vs vs1 : List Nat) : TE := fun σ H Q => wi σ H fun J H1 => ∀ p, H1 p = none → ∃ N : Nat → Nat → Hp → Prop, (∃ m, N 0 m (upd H1 p (.dK []))) ∧ ∀ i m H, N i m H →
  (J.stop i H ∧ Q (.ref p) H) ∨ (J.go i H ∧ ∃ Nx : Hp → Prop, (∀ H', Nx H' → ∃ m', m' < m ∧ N (i + 1) m' H') ∧ ∀ x H', J.yld i H x H' → g x (wipe σ vs) H' fun σ2 H2 => wipe σ2 vs = wipe σ vs ∧ tt σ2 H2 fun b H3 =>
    if b = true then wi1 σ2 H3 fun J1 H4 => ∃ N1 : Nat → Nat → Hp → Prop, (∃ m, N1 0 m H4) ∧ ∀ j k H, N1 j k H →
      (J1.stop j H ∧ Nx H) ∨ (J1.go j H ∧ ∃ Nx1 : Hp → Prop, (∀ H', Nx1 H' → ∃ k', k' < k ∧ N1 (j + 1) k' H') ∧ ∀ x H', J1.yld j H x H' → g1 x (wipe σ2 vs1) H' fun σ3 H5 => wipe σ3 vs1 = wipe σ2 vs1 ∧ tt1 σ3 H5 fun b H6 =>
        if b = true then tk σ3 H6 fun y H7 => tv σ3 H7 fun z H8 => ∃ kvs k, y = kV k ∧ H8 p = some (.dK kvs) ∧ kvs.length < sizeLine ∧ Nx1 (upd H8 p (.dK (putK kvs k z))) else Nx1 H6)
    else Nx H3)
abbrev Within (X : Cx) (scope : Scope) (P : Cx → Prop) : Prop := ∀ (s : Shared) (H : Hp) (C : Addr) (cl : List (Str × Addr)) (fp : List Addr), P (X.blk s H scope (compEnvC scope cl C X.env) fp)
theorem two_core {pins : List (Addr × Obj)} {s : Shared} {σ : St} {H : Hp} {Q : VK} {kx vx tg iter tg1 iter1 : Expr} {ifs ifs1 : List Expr} {scope : Scope} {own : List (Str × Nat)} {vs1 : List Nat} {pos pos' : Pos} {wi wi1 : TI} {g g1 : TG} {tt tt1 : TT} {tk tv : TE} {use : Option (Value → Sem Unit)} {Qf : Value → Shared → Prop}
    (hc : X.calm = true) (hN : X.N.Nodup) (I : Inv X pins σ H s) (hi : PI X tg iter wi) (ok : BlkOk X.N X.env.scope scope own) (hv : ∀ i ∈ vs1, i ∈ own.map (·.2))
    (hg : Within X scope fun Y => PG Y tg g) (ht : Within X scope fun Y => PTs Y ifs tt) (hk : Within X scope fun Y => PE Y kx tk) (he : Within X scope fun Y => PE Y vx tv) (hs : ∀ x, foldedSetIterable iter X.env x = pure x)
    (hi1 : Within X scope fun Y => PI Y tg1 iter1 wi1) (hg1 : Within X scope fun Y => PG Y tg1 g1) (ht1 : Within X scope fun Y => PTs Y ifs1 tt1) (hs1 : ∀ env x, foldedSetIterable iter1 env x = pure x)
    (h : tTwo wi g tt wi1 g1 tt1 tk tv (own.map (·.2)) vs1 σ H Q)
    (hRR : ∀ p C s' m H', Inv X pins σ H' s' → Q (.ref p) H' → s'.heap.Ns C m → FpOk X pins H' C → compPost (model X.prog X.w) X.A X.xe use Qf (.ref p) C (.ok .next) s') :
    wpAny (model X.prog X.w) X.A (comprehension (twoD kx vx tg iter tg1 iter1 ifs ifs1 scope pos) scope X.env pos' newDict false (eval iter X.env) use) Qf X.xe s := by
  have hfree : ∀ y ∈ scope.names, y.2 = .free → ∃ c, X.env.cells.lookup y.1 = some c := fun y hy e => by
    rcases ok.free y hy e with k | k
    · exact I.ok.has _ (.inl k)
    · exact I.ok.has _ (.inr k)
  refine wpAny_comprehension_free (use := use) rfl hs (closure_ok hfree) ok.kind (fun y hy e => by rw [ok.uniq y hy, e])
    (thn (hi.run pins s σ H _ I h) fun xv s1 hx => thn hx fun itv s2 h2 => ?_)
  obtain ⟨it, fp, tn, J, H2, e, I2, T, st2, f2, q⟩ := h2
  subst e
  refine wpAny_newObj_type (newEnv_comp ?_)
  generalize hD : s2.heap.objs.size = p
  have hDn : H2 p = none := I2.hok.fresh (Nat.le_of_eq hD)
  obtain ⟨N, ⟨m0, n0⟩, turn⟩ := q p hDn
  generalize hs3 : ({ s2 with heap := s2.heap.push { cls := .type "dict", data := .dict #[] } } : Shared) = s3
  have I3 : Inv X pins σ (upd H2 p (.dK [])) s3 := by
    rw [← hs3]
    refine I2.laid (t' := s2.toks) (fun b o e => Heap.get?_push_of_some _ e) (Nat.le_of_eq hD) ?_
    rw [← hD]
    exact dk_empty s2.heap I2.big
  have h3 : s3.heap = s2.heap.push { cls := .type "dict", data := .dict #[] } := by rw [← hs3]
  have sz : ∀ b ∈ fp, b < s2.heap.objs.size := fun b hb => by
    obtain ⟨o, e, _⟩ := T.obj _ _ st2 b hb
    exact Heap.lt_size e
  have f3 : ∀ b ∈ fp, FpOk X pins (upd H2 p (.dK [])) b ∧ b < s3.heap.objs.size := fun b hb => by
    have hlt := sz b hb
    refine ⟨⟨?_, (f2 b hb).2⟩, by rw [h3, Heap.size_push]; exact Nat.lt_succ_of_lt hlt⟩
    rw [upd_ne (by rw [← hD]; exact Nat.ne_of_lt hlt)]
    exact (f2 b hb).1
  have st3 : tn 0 s3.heap := T.keep _ _ _ st2 fun b _ o e => by rw [h3]; exact Heap.get?_push_of_some _ e
  have I4 := block_start I3 ok hN f3
  let cl' := cellsFrom (s3.heap.objs.size + 1) scope.names (cloFrom X.env.cells scope.names [])
  have pg := hg s3 (upd H2 p (.dK [])) s3.heap.objs.size cl' fp
  have pt := ht s3 (upd H2 p (.dK [])) s3.heap.objs.size cl' fp
  have pk := hk s3 (upd H2 p (.dK [])) s3.heap.objs.size cl' fp
  have pv := he s3 (upd H2 p (.dK [])) s3.heap.objs.size cl' fp
  have pi1 := hi1 s3 (upd H2 p (.dK [])) s3.heap.objs.size cl' fp
  have pg1 := hg1 s3 (upd H2 p (.dK [])) s3.heap.objs.size cl' fp
  have pt1 := ht1 s3 (upd H2 p (.dK [])) s3.heap.objs.size cl' fp
  show codeAny _ _ (.compStart (twoD kx vx tg iter tg1 iter1 ifs ifs1 scope pos) 0 (.ref it) (.ref p) (compEnvC scope cl' s3.heap.objs.size X.env)) (compPost (model X.prog X.w) X.A X.xe use Qf (.ref p) s3.heap.objs.size) { s3 with heap := pushCells (s3.heap.push { cls := .type "dict", data := .dict #[] }) scope.names }
  have nfp : ∀ b ∈ fp, (upd H2 p (.dK [])) b = none := fun b hb => (f3 b hb).1.1
  generalize hce : compEnvC scope cl' s3.heap.objs.size X.env = ce at pg pt pk pv pi1 pg1 pt1 ⊢
  have I4 : Inv (X.blk s3 (upd H2 p (.dK [])) scope ce fp) [] (wipe σ (own.map (·.2))) (upd H2 p (.dK [])) { s3 with heap := pushCells (s3.heap.push { cls := .type "dict", data := .dict #[] }) scope.names } := hce ▸ I4
  have cL : ce.locals = s3.heap.objs.size := by subst hce; rfl
  generalize hH3 : upd H2 p (.dK []) = H3 at I3 I4 pg pt pk pv pi1 pg1 pt1 n0 nfp f3
  generalize hs4 : ({ s3 with heap := pushCells (s3.heap.push { cls := .type "dict", data := .dict #[] }) scope.names } : Shared) = s4 at I4 ⊢
  have st4 : tn 0 s4.heap := T.keep _ _ _ st3 fun b _ o e => by rw [← hs4]; exact pushCells_keeps _ _ _ _ (Heap.get?_push_of_some _ e)
  let Y := X.blk s3 H3 scope ce fp
  let σ0 := wipe σ (own.map (·.2))
  have stat : ∀ {σ' : St} {H' : Hp} {s' : Shared}, Inv Y [] σ' H' s' → (∀ b ∈ fp, H' b = none) → ∀ b ∈ fp, FpOk Y [] H' b := fun {σ' H' s'} I' hn b hb =>
    ⟨hn b hb, (I'.ok.exf b hb).1, I'.ok.exfs b hb, .inl hb, fun x c e => (I'.ok.exf b hb).2 x c e, fun p hp => absurd (show p ∈ ([] : List (Addr × Obj)) ++ [] from hp) (by simp)⟩
  have loop : codeAny (model X.prog X.w) X.A (.compLoop (twoD kx vx tg iter tg1 iter1 ifs ifs1 scope pos) 0 (.ref it) (.ref p) ce) (compPost (model X.prog X.w) X.A X.xe use Qf (.ref p) s3.heap.objs.size) s4 := by
    refine outer_loop (hs1 ce) (fun n s' => ∃ i H', Inv Y [] σ0 H' s' ∧ tn i s'.heap ∧ (∀ b ∈ fp, H' b = none) ∧ N i n H') ?_ m0 ⟨0, H3, I4, st4, nfp, n0⟩
    rintro n s5 ⟨i, H5, I5, st5, n5, w5⟩
    dsimp only
    rcases turn i n H5 w5 with ⟨stop, qq⟩ | ⟨go, Nx, hNx, step⟩
    · refine thnF (T.done Y rfl rfl rfl hc i [] s5 _ H5 (fun _ _ => False) I5 (stat I5 n5) st5 stop) fun r s6 ⟨hr, I6⟩ => ?_
      subst hr
      have I7 : Inv X pins σ H5 s6 := I3.call' (ch := fp) I6.os I6.base I6.hok I6.bare fun b hb => ⟨(f3 b hb).1.2.2.2.1, (f3 b hb).1.2.1, (f3 b hb).1.2.2.2.2.1, (f3 b hb).1.2.2.2.2.2⟩
      have nC : H5 s3.heap.objs.size = none := by
        have z : H5 ce.locals = none := I6.free
        rw [cL] at z
        exact z
      obtain ⟨m, hn, _⟩ := I6.loc
      have hn : s6.heap.Ns ce.locals m := hn
      rw [cL] at hn
      exact hRR p s3.heap.objs.size s6 m H5 I7 qq hn (I3.fpOk (Nat.le_refl _) nC)
    · refine thnF (T.item Y rfl rfl rfl hc i [] s5 _ H5 (fun _ _ => False) I5 (stat I5 n5) st5 go) fun r s6 ⟨u, hr, h6⟩ => ?_
      subst hr
      refine thnF h6 fun _ s7 ⟨x, H7, I7, r7, y7, st7, n7⟩ => ?_
      have I7' := I7.pinned (stat I7 n7) (T.obj _ _ st7)
      refine thnF (pg.run _ s7 _ H7 x u _ I7' r7 (step x H7 y7)) fun _ s8 ⟨σ8, H8, I8, hw8, q8⟩ => ?_
      refine thnF (pt.run _ s8 σ8 H8 _ I8 q8) fun b s9 ⟨H9, I9, q9⟩ => ?_
      have fin : ∀ {σ9 : St} {s' : Shared} {H' : Hp}, Inv Y ([] ++ pinsAt fp s7.heap) σ9 H' s' → σ0.length = σ9.length → (∀ (j : Nat) v, σ0[j]? = some (some v) → σ9[j]? = some (some v)) → Nx H' →
          ∃ m, m < n ∧ ∃ i H', Inv Y [] σ0 H' s' ∧ tn i s'.heap ∧ (∀ b ∈ fp, H' b = none) ∧ N i m H' := fun {σ9 s' H'} I' hl hk nx => by
        obtain ⟨m', hm, w'⟩ := hNx H' nx
        have pin' : ∀ b ∈ fp, ∀ o, s7.heap.get? b = some o → s'.heap.get? b = some o ∧ H' b = none := fun b hb o e =>
          let z := I'.pin (b, o) (List.mem_append_right _ (List.mem_append_right _ (mem_pinsAt hb e)))
          ⟨z.1, z.2.1⟩
        refine ⟨m', hm, i + 1, H', (I'.unpinned (pins := [])).weak hl hk, T.keep _ _ _ st7 fun b hb o e => (pin' b hb o e).1, fun b hb => ?_, w'⟩
        obtain ⟨o, e, _⟩ := T.obj _ _ st7 b hb
        exact (pin' b hb o e).2
      have hl8 : σ0.length = σ8.length := by rw [show σ0 = wipe σ8 (own.map (·.2)) from hw8.symm, wipe_length]
      have hk8 : ∀ (j : Nat) v, σ0[j]? = some (some v) → σ8[j]? = some (some v) := fun j v e => by
        rw [show σ0 = wipe σ8 (own.map (·.2)) from hw8.symm] at e
        exact (wipe_some e).1
      have hk9 : ∀ (j : Nat) v, σ0[j]? = some (some v) → (wipe σ8 vs1)[j]? = some (some v) := fun j v e => by
        rw [show σ0 = wipe σ8 (own.map (·.2)) from hw8.symm] at e
        obtain ⟨e1, e2⟩ := wipe_some e
        rw [wipe_out fun z => e2 (hv j z)]
        exact e1
      cases b with
      | false =>
        simp only [Bool.false_eq_true, if_false] at q9 ⊢
        exact fin I9 hl8 hk8 q9
      | true =>
        simp only [if_true] at q9 ⊢
        refine thnF (pi1.run _ s9 σ8 H9 _ I9 q9) fun xv s10 hx => thnF hx fun itv s11 h11 => ?_
        obtain ⟨it1, fp1, tn1, J1, H11, e1, I11, T1, st11, f11, N1, ⟨m1, n1⟩, turn1⟩ := h11
        subst e1
        have stat1 : ∀ {H' : Hp}, (∀ b ∈ fp1, H' b = none) → ∀ b ∈ fp1, FpOk Y ([] ++ pinsAt fp s7.heap) H' b := fun hn b hb => ⟨hn b hb, (f11 b hb).2⟩
        have loop1 : codeAny (model X.prog X.w) X.A (.compLoop (twoD kx vx tg iter tg1 iter1 ifs ifs1 scope pos) 1 (.ref it1) (.ref p) ce)
            (fun r s' => match r with
              | .ok _ => ∃ m, m < n ∧ ∃ i H', Inv Y [] σ0 H' s' ∧ tn i s'.heap ∧ (∀ b ∈ fp, H' b = none) ∧ N i m H'
              | .error _ => False) s11 := by
          refine inner_loop (fun k s' => ∃ j H', Inv Y ([] ++ pinsAt fp s7.heap) (wipe σ8 vs1) H' s' ∧ tn1 j s'.heap ∧ (∀ b ∈ fp1, H' b = none) ∧ N1 j k H') ?_ m1 ⟨0, H11, I11.weak (wipe_length _ _) (fun j v e => (wipe_some e).1), st11, fun b hb => (f11 b hb).1, n1⟩
          rintro k s12 ⟨j, H12, I12, st12, n12, w12⟩
          dsimp only
          rcases turn1 j k H12 w12 with ⟨stop1, nx1⟩ | ⟨go1, Nx1, hNx1, step1⟩
          · refine thnF (T1.done Y rfl rfl rfl hc j _ s12 (wipe σ8 vs1) H12 (fun _ _ => False) I12 (stat1 n12) st12 stop1) fun r s13 ⟨hr, I13⟩ => ?_
            subst hr
            exact fin I13 (hl8.trans (wipe_length σ8 vs1).symm) hk9 nx1
          · refine thnF (T1.item Y rfl rfl rfl hc j _ s12 (wipe σ8 vs1) H12 (fun _ _ => False) I12 (stat1 n12) st12 go1) fun r s13 ⟨u1, hr, h13⟩ => ?_
            subst hr
            refine thnF h13 fun _ s14 ⟨x1, H14, I14, r14, y14, st14, n14⟩ => ?_
            have I14' := I14.pinned (stat1 n14) (T1.obj _ _ st14)
            refine thnF (pg1.run _ s14 (wipe σ8 vs1) H14 x1 u1 _ I14' r14 (step1 x1 H14 y14)) fun _ s15 ⟨σ15, H15, I15, hw15, q15⟩ => ?_
            refine thnF (pt1.run _ s15 σ15 H15 _ I15 q15) fun b1 s16 ⟨H16, I16, q16⟩ => ?_
            have fin1 : ∀ {s' : Shared} {H' : Hp}, Inv Y (([] ++ pinsAt fp s7.heap) ++ pinsAt fp1 s14.heap) σ15 H' s' → Nx1 H' → ∃ m, m < k ∧ ∃ j H', Inv Y ([] ++ pinsAt fp s7.heap) (wipe σ8 vs1) H' s' ∧ tn1 j s'.heap ∧ (∀ b ∈ fp1, H' b = none) ∧ N1 j m H' := fun {s' H'} I' nx => by
              obtain ⟨m', hm, w'⟩ := hNx1 H' nx
              have pin' : ∀ b ∈ fp1, ∀ o, s14.heap.get? b = some o → s'.heap.get? b = some o ∧ H' b = none := fun b hb o e =>
                let z := I'.pin (b, o) (List.mem_append_right _ (List.mem_append_right _ (mem_pinsAt hb e)))
                ⟨z.1, z.2.1⟩
              refine ⟨m', hm, j + 1, H', I'.unpinned.weak (by rw [← hw15, wipe_length]) (fun j v e => by rw [← hw15] at e; exact (wipe_some e).1), T1.keep _ _ _ st14 fun b hb o e => (pin' b hb o e).1, fun b hb => ?_, w'⟩
              obtain ⟨o, e, _⟩ := T1.obj _ _ st14 b hb
              exact (pin' b hb o e).2
            cases b1 with
            | false =>
              simp only [Bool.false_eq_true, if_false] at q16 ⊢
              exact fin1 I16 q16
            | true =>
              simp only [if_true] at q16 ⊢
              refine thnF (pk.run _ s16 σ15 H16 _ I16 q16) fun z s17 ⟨yk, H17, I17, r17, q17⟩ => ?_
              refine thnF (pv.run _ s17 σ15 H17 _ I17 q17) fun z2 s18 ⟨yv, H18, I18, r18, kvs, k2, ek, hD18, hz18, nx⟩ => ?_
              subst ek
              exact d_dictSet (X := Y) I18 hD18 hz18 r17 r18 fun s19 I19 => fin1 I19 nx
        exact inner_start loop1 (T1.self X.A 0 _ _ _ st11 loop1)
  exact codeAny_compStart_dict loop (T.self X.A 0 _ _ _ st4 loop)
theorem pe_two {kx vx tg iter tg1 iter1 : Expr} {ifs ifs1 : List Expr} {scope : Scope} {own : List (Str × Nat)} {vs1 : List Nat} {pos : Pos} {wi wi1 : TI} {g g1 : TG} {tt tt1 : TT} {tk tv : TE}
    (hc : X.calm = true) (hN : X.N.Nodup) (hi : PI X tg iter wi) (ok : BlkOk X.N X.env.scope scope own) (hv : ∀ i ∈ vs1, i ∈ own.map (·.2))
    (hg : Within X scope fun Y => PG Y tg g) (ht : Within X scope fun Y => PTs Y ifs tt) (hk : Within X scope fun Y => PE Y kx tk) (he : Within X scope fun Y => PE Y vx tv)
    (hi1 : Within X scope fun Y => PI Y tg1 iter1 wi1) (hg1 : Within X scope fun Y => PG Y tg1 g1) (ht1 : Within X scope fun Y => PTs Y ifs1 tt1)
    (hs : ∀ x, foldedSetIterable iter X.env x = pure x := by intro _; rfl) (hs1 : ∀ env x, foldedSetIterable iter1 env x = pure x := by intro _ _; rfl) :
    PE X (twoD kx vx tg iter tg1 iter1 ifs ifs1 scope pos) (tTwo wi g tt wi1 g1 tt1 tk tv (own.map (·.2)) vs1) := by
  refine ⟨fun pins s σ H Q I h => ?_⟩
  rw [arm_eval_DictComp]
  refine two_core hc hN I hi ok hv hg ht hk he hs hi1 hg1 ht1 hs1 h fun p C s' m H' I' q hn f => ⟨m, hn, fun h'' sb => ?_⟩
  obtain ⟨f0, f1, f2, f3, f4, f5⟩ := f
  exact ⟨.ref p, H', I'.turned (t' := s'.toks) (fun b o hb e => (sb.2 b hb).trans e) f0 f1 f3 f4 f5, rfl, q⟩
end

/-! ### its meaning -/
def dictL2 (b : TgM) (c : Env → M Bool) (fi1 : Env → M (List D)) (vs1 : List Nat) (b1 : TgM) (c1 : Env → M Bool) (fk fe : Env → M D) : List D → Env → KD → M KD
  | [], _, acc => ret acc
  | d :: ds, env, acc => fun st => match b d env st with
    | none => .bad
    | some (env1, st1) => bnd (calmly (c env1)) (fun t => match t with
      | true => bnd (calmly (fi1 env1)) fun es => bnd (dictL b1 c1 fk fe es (wipeE env1 vs1) acc) fun acc2 => dictL2 b c fi1 vs1 b1 c1 fk fe ds env acc2
      | false => dictL2 b c fi1 vs1 b1 c1 fk fe ds env acc) st1
def sDict2 (fin : KD → M D) (vs : List Nat) (fi : Env → M (List D)) (b : TgM) (c : Env → M Bool) (fi1 : Env → M (List D)) (vs1 : List Nat) (b1 : TgM) (c1 : Env → M Bool) (fk fe : Env → M D) : Env → M D := fun env =>
  bnd (fi env) fun ds => bnd (dictL2 b c fi1 vs1 b1 c1 fk fe ds (wipeE env vs) ([], [])) fin
section
variable {X : Cx} {T : Tb} {Wx : WX} {kx vx tg iter tg1 iter1 : Expr} {ifs ifs1 : List Expr} {scope : Scope} {own : List (Str × Nat)} {vs1 : List Nat} {g g1 : TG} {fi fi1 : Env → M (List D)} {b b1 : TgM} {fc fc1 : Env → M Bool} {fk fe : Env → M D} {pos : Pos}
theorem dict2_core {σ : St} {H : Hp} {Q : VK} (hgo : ∀ v σ H Q, tG (Gof X T) b v σ H Q → g v σ H Q) (hgs : ∀ v σ H Q, g v σ H Q → g v σ H fun σ2 H2 => wipe σ2 (own.map (·.2)) = wipe σ (own.map (·.2)) ∧ Q σ2 H2)
    (hgo1 : ∀ v σ H Q, tG (Gof X T) b1 v σ H Q → g1 v σ H Q) (hgs1 : ∀ v σ H Q, g1 v σ H Q → g1 v σ H fun σ2 H2 => wipe σ2 vs1 = wipe σ vs1 ∧ Q σ2 H2)
    (h : tE (Gof X T) Wx (sDict2 fzD (own.map (·.2)) fi b fc fi1 vs1 b1 fc1 fk fe) σ H Q) :
    tTwo (tI (Gof X T) Wx fi) g (tT (Gof X T) WF fc) (tI (Gof X T) WF fi1) g1 (tT (Gof X T) WF fc1) (tE (Gof X T) WF fk) (tE (Gof X T) WF fe) (own.map (·.2)) vs1 σ H (fun v H1 => ∃ d u, v = .ref d ∧ H1 d = some u ∧ Mut (some u) ∧ ∀ od, Q v (upd H1 d (.frz od u))) := by
  revert h
  rintro ⟨W0, env0, st0, rl0, h0⟩
  refine ⟨W0, env0, st0, rl0, Post.imp h0 fun W1 ds st1 H1 e1 ok1 p1 J y a ha => ?_⟩
  have rl1 := rl0.ext e1 ok1
  have hP1 : ∀ q ∈ W1.P, q.1 ≠ a := fun q hq z => by
    obtain ⟨q1, _⟩ := ok1.pr q hq
    rw [z, ha] at q1
    cases q1
  generalize hvs' : own.map (·.2) = vs at hgs p1 ⊢
  let Iv : Nat → Hp → Prop := fun i H => i ≤ ds.length ∧ ∃ W acc kvs st, DHold (Gof X T) W1 W a acc st H kvs ∧ Post (Gof X T) Wx σ W1 (Wpost (Gof X T) Q) (bnd (dictL2 b fc fi1 vs1 b1 fc1 fk fe (ds.drop i) (wipeE env0 vs) acc) fzD st)
  refine ⟨fun i m H => m = ds.length - i ∧ Iv i H, ⟨_, rfl, Nat.zero_le _, _, ([], []), [], st1, DHold.start ok1 ha, p1⟩, ?_⟩
  rintro i m H2 ⟨rfl, hi, W, acc, kvs, st, dh, p⟩
  by_cases hlt : i < ds.length
  · refine .inr ⟨y.go i W st H2 dh.e dh.ok hlt, fun H' => Iv (i + 1) H', fun H' q => ⟨_, by omega, rfl, q⟩, fun x H' yl => ?_⟩
    obtain ⟨W2, d, e2, ok2, hd, rd⟩ := y.yld i W st H2 x H' dh.e dh.ok hlt yl
    have hdr : ds.drop i = d :: ds.drop (i + 1) := by
      rw [List.drop_eq_getElem_cons hlt]
      have : ds[i] = d := by
        rw [List.getElem?_eq_getElem hlt] at hd
        exact Option.some.inj hd
      rw [this]
    rw [hdr] at p
    have slots2 : Rel (Gof X T) W2 (wipe σ vs) H' (wipeE env0 vs) st := ⟨(rl1.wipe vs).toFr.ext0 (dh.e.trans e2.toExt0), ok2⟩
    have turn := hgs x (wipe σ vs) H' _ (hgo x (wipe σ vs) H' (fun σ2 H2 => tT (Gof X T) WF fc σ2 H2 fun t H3 => if t = true then tI (Gof X T) WF fi1 σ2 H3 fun J1 H4 => ∃ N1 : Nat → Nat → Hp → Prop, (∃ m, N1 0 m H4) ∧ ∀ j k H, N1 j k H →
      (J1.stop j H ∧ Iv (i + 1) H) ∨ (J1.go j H ∧ ∃ Nx1 : Hp → Prop, (∀ H', Nx1 H' → ∃ k', k' < k ∧ N1 (j + 1) k' H') ∧ ∀ x H', J1.yld j H x H' → g1 x (wipe σ2 vs1) H' fun σ3 H5 => wipe σ3 vs1 = wipe σ2 vs1 ∧ tT (Gof X T) WF fc1 σ3 H5 fun b H6 =>
        if b = true then tE (Gof X T) WF fk σ3 H6 fun y H7 => tE (Gof X T) WF fe σ3 H7 fun z H8 => ∃ kvs k, y = kV k ∧ H8 a = some (.dK kvs) ∧ kvs.length < sizeLine ∧ Nx1 (upd H8 a (.dK (putK kvs k z))) else Nx1 H6) else Iv (i + 1) H3) ⟨W2, wipeE env0 vs, st, d, slots2, rd, ?_⟩)
    · rw [wipe_idem] at turn
      exact turn
    · have p' : Post (Gof X T) Wx σ W1 (Wpost (Gof X T) Q) (bnd (fun st => match b d (wipeE env0 vs) st with
          | none => .bad
          | some (env1, st1) => bnd (calmly (fc env1)) (fun t => match t with
            | true => bnd (calmly (fi1 env1)) fun es => bnd (dictL b1 fc1 fk fe es (wipeE env1 vs1) acc) fun acc2 => dictL2 b fc fi1 vs1 b1 fc1 fk fe (ds.drop (i + 1)) (wipeE env0 vs) acc2
            | false => dictL2 b fc fi1 vs1 b1 fc1 fk fe (ds.drop (i + 1)) (wipeE env0 vs) acc) st1) fzD st) := p
      rw [bnd_run] at p'
      cases q : b d (wipeE env0 vs) st with
      | none =>
        rw [q] at p'
        exact False.elim p'
      | some pr =>
        obtain ⟨env1, st2⟩ := pr
        rw [q] at p'
        dsimp only at p'
        refine fun W3 σ3 H3 e3 rl3 => ⟨W3, env1, st2, rl3, ?_⟩
        have p2 : Post (Gof X T) Wx σ W1 (Wpost (Gof X T) Q) (bnd (bnd (calmly (fc env1)) (fun t => match t with
            | true => bnd (calmly (fi1 env1)) fun es => bnd (dictL b1 fc1 fk fe es (wipeE env1 vs1) acc) fun acc2 => dictL2 b fc fi1 vs1 b1 fc1 fk fe (ds.drop (i + 1)) (wipeE env0 vs) acc2
            | false => dictL2 b fc fi1 vs1 b1 fc1 fk fe (ds.drop (i + 1)) (wipeE env0 vs) acc)) fzD st2) := p'
        rw [bnd_bnd] at p2
        refine Post.calm p2 fun W4 t st4 H4 e4 ok4 p4 => ?_
        have e24 := e2.trans (e3.trans e4)
        have dh4 := dh.later e24 ok4
        cases t with
        | false => exact iteF ⟨hlt, W4, acc, kvs, st4, dh4, p4⟩
        | true =>
          have rl4 := rl3.ext e4 ok4
          refine iteT ⟨W4, env1, st4, rl4, ?_⟩
          have p5 : Post (Gof X T) Wx σ W1 (Wpost (Gof X T) Q) (bnd (bnd (calmly (fi1 env1)) fun es => bnd (dictL b1 fc1 fk fe es (wipeE env1 vs1) acc) fun acc2 => dictL2 b fc fi1 vs1 b1 fc1 fk fe (ds.drop (i + 1)) (wipeE env0 vs) acc2) fzD st4) := p4
          rw [bnd_bnd] at p5
          refine Post.calm p5 fun W6 es st6 H6 e6 ok6 p6 J1 y1 => ?_
          have rl6 := rl4.ext e6 ok6
          have dh6 := dh4.later e6 ok6
          have p7 : Post (Gof X T) Wx σ W1 (Wpost (Gof X T) Q) (bnd (bnd (dictL b1 fc1 fk fe es (wipeE env1 vs1) acc) fun acc2 => dictL2 b fc fi1 vs1 b1 fc1 fk fe (ds.drop (i + 1)) (wipeE env0 vs) acc2) fzD st6) := p6
          rw [bnd_bnd] at p7
          exact dict_turns (b := b1) (g := g1) (vs := vs1) (σb := σ3) (envb := env1) (WJ := W6) hgo1 hgs1 hP1 y1 (fun W e => (rl6.wipe vs1).toFr.ext0 e) dh6 (Ext0.refl W6) p7 fun W acc kvs st H dh' _ p => ⟨hlt, W, acc, kvs, st, dh', p⟩
  · have hi' : i = ds.length := by omega
    subst hi'
    rw [List.drop_length] at p
    exact .inl ⟨y.stop W st H2 dh.e dh.ok, a, _, rfl, dh.at_, True.intro, fun od => dh.frz hP1 p⟩
theorem se_dict2 (hc : X.calm = true) (hN : X.N.Nodup) (hi : SI X T Wx tg iter fi) (ok : BlkOk X.N X.env.scope scope own) (hvs : ∀ i ∈ vs1, i ∈ own.map (·.2))
    (hgo : ∀ v σ H Q, tG (Gof X T) b v σ H Q → g v σ H Q) (hgs : ∀ v σ H Q, g v σ H Q → g v σ H fun σ2 H2 => wipe σ2 (own.map (·.2)) = wipe σ (own.map (·.2)) ∧ Q σ2 H2)
    (hgo1 : ∀ v σ H Q, tG (Gof X T) b1 v σ H Q → g1 v σ H Q) (hgs1 : ∀ v σ H Q, g1 v σ H Q → g1 v σ H fun σ2 H2 => wipe σ2 vs1 = wipe σ vs1 ∧ Q σ2 H2)
    (hg : Within X scope fun Y => PG Y tg g) (ht : Within X scope fun Y => STs Y T WF ifs fc) (hi1 : Within X scope fun Y => SI Y T WF tg1 iter1 fi1) (hg1 : Within X scope fun Y => PG Y tg1 g1) (ht1 : Within X scope fun Y => STs Y T WF ifs1 fc1)
    (hk : Within X scope fun Y => SE Y T WF kx fk) (he : Within X scope fun Y => SE Y T WF vx fe)
    (hs : ∀ x, foldedSetIterable iter X.env x = pure x := by intro _; rfl) (hs1 : ∀ env x, foldedSetIterable iter1 env x = pure x := by intro _ _; rfl) :
    SE X T Wx (twoD kx vx tg iter tg1 iter1 ifs ifs1 scope pos) (sDict2 fzD (own.map (·.2)) fi b fc fi1 vs1 b1 fc1 fk fe) := by
  refine ⟨(pe_frz (pe_two (tt := tT (Gof X T) WF fc) (wi1 := tI (Gof X T) WF fi1) (tt1 := tT (Gof X T) WF fc1) (tk := tE (Gof X T) WF fk) (tv := tE (Gof X T) WF fe) hc hN hi.pi ok hvs hg (fun s H C cl fp => (ht s H C cl fp).pts) (fun s H C cl fp => (hk s H C cl fp).pe) (fun s H C cl fp => (he s H C cl fp).pe)
    (fun s H C cl fp => (hi1 s H C cl fp).pi) hg1 (fun s H C cl fp => (ht1 s H C cl fp).pts) hs hs1)).imp fun σ H Q h => dict2_core hgo hgs hgo1 hgs1 h⟩
theorem ps_setTwo {i : Nat} {y : Str} {py pos spos : Pos} {tt tt1 : TT} {wi wi1 : TI} {tk tv : TE} (hc : X.calm = true) (hN : X.N.Nodup) (hy : X.N[i]? = some y) (hyl : X.env.scope.names.lookup y = some .local)
    (hsw : swapsWith (twoD kx vx tg iter tg1 iter1 ifs ifs1 scope pos) (some (.Name y py)) spos.line X.env = pure true) (hi : PI X tg iter wi) (ok : BlkOk X.N X.env.scope scope own) (hv : ∀ i ∈ vs1, i ∈ own.map (·.2))
    (hg : Within X scope fun Y => PG Y tg g) (ht : Within X scope fun Y => PTs Y ifs tt) (hk : Within X scope fun Y => PE Y kx tk) (he : Within X scope fun Y => PE Y vx tv)
    (hi1 : Within X scope fun Y => PI Y tg1 iter1 wi1) (hg1 : Within X scope fun Y => PG Y tg1 g1) (ht1 : Within X scope fun Y => PTs Y ifs1 tt1)
    (hs : ∀ x, foldedSetIterable iter X.env x = pure x := by intro _; rfl) (hs1 : ∀ env x, foldedSetIterable iter1 env x = pure x := by intro _ _; rfl) :
    PS X (.Assign [.Name y py] (twoD kx vx tg iter tg1 iter1 ifs ifs1 scope pos) spos) (tAsg (fun σ H Q => tTwo wi g tt wi1 g1 tt1 tk tv (own.map (·.2)) vs1 σ H (fun v H1 => ∃ d u, v = .ref d ∧ H1 d = some u ∧ Mut (some u) ∧ ∀ od, Q v (upd H1 d (.frz od u)))) (gName i)) := by
  refine ⟨fun pins s σ H D I h => ?_⟩
  rw [exec_Assign_Name_used _ _ _ _ hsw]
  refine wpAny_bind (wpAny_standAt (wpAny_bind ?_))
  show wpAny _ X.A (do let _ ← comprehension (twoD kx vx tg iter tg1 iter1 ifs ifs1 scope pos) scope X.env (firstIterPos [⟨tg, iter, ifs, 0⟩, ⟨tg1, iter1, ifs1, 0⟩] pos) newDict false (eval iter X.env) (some (assign (.Name y py) X.env))) _ _ s
  have h : tTwo wi g tt wi1 g1 tt1 tk tv (own.map (·.2)) vs1 σ H (fun v H1 => ∃ d u, v = .ref d ∧ H1 d = some u ∧ Mut (some u) ∧ ∀ od, gName i v σ (upd H1 d (.frz od u)) D.nx) := h
  refine wpAny_bind (thn (two_core (Qf := fun _ s' => SP X pins D .next s') hc hN I hi ok hv hg ht hk he hs hi1 hg1 ht1 hs1 h fun p C s' m H' I' q hn f => ?_) fun _ s' hq => wpAny_pure (wpAny_pure hq))
  show wpAny _ _ (assign (.Name y py) X.env (.ref p)) _ _ _
  obtain ⟨d, u, e, hd, mu, q⟩ := q
  cases e
  refine wpAny_assign_Name (store_ok2 (v := V.ref p) I' hN hy (.inl hyl) rfl (fun s2 I2 ⟨a, sb, ha⟩ => ?_) (.inr hyl))
  obtain ⟨f0, f1, f2, f3, f4, f5⟩ := f
  have haC : C ≠ a := by
    rcases ha with z | z
    · rw [z]; exact f1
    · exact fun e => f4 y a z e.symm
  refine ⟨m, hn.sameBut sb haC, fun h3 sb3 => ?_⟩
  have I3 := I2.turned (t' := s2.toks) (fun b o hb e => (sb3.2 b hb).trans e) f0 f1 f3 f4 f5
  obtain ⟨od, I4⟩ := I3.lock hd mu
  exact ⟨_, _, I4, q od⟩
theorem ss_setDict2 {i : Nat} {y : Str} {py spos : Pos} (hc : X.calm = true) (hN : X.N.Nodup) (hy : X.N[i]? = some y) (hyl : X.env.scope.names.lookup y = some .local)
    (hsw : swapsWith (twoD kx vx tg iter tg1 iter1 ifs ifs1 scope pos) (some (.Name y py)) spos.line X.env = pure true) (hi : SI X T Wx tg iter fi) (ok : BlkOk X.N X.env.scope scope own) (hvs : ∀ i ∈ vs1, i ∈ own.map (·.2))
    (hgo : ∀ v σ H Q, tG (Gof X T) b v σ H Q → g v σ H Q) (hgs : ∀ v σ H Q, g v σ H Q → g v σ H fun σ2 H2 => wipe σ2 (own.map (·.2)) = wipe σ (own.map (·.2)) ∧ Q σ2 H2)
    (hgo1 : ∀ v σ H Q, tG (Gof X T) b1 v σ H Q → g1 v σ H Q) (hgs1 : ∀ v σ H Q, g1 v σ H Q → g1 v σ H fun σ2 H2 => wipe σ2 vs1 = wipe σ vs1 ∧ Q σ2 H2)
    (hg : Within X scope fun Y => PG Y tg g) (ht : Within X scope fun Y => STs Y T WF ifs fc) (hi1 : Within X scope fun Y => SI Y T WF tg1 iter1 fi1) (hg1 : Within X scope fun Y => PG Y tg1 g1) (ht1 : Within X scope fun Y => STs Y T WF ifs1 fc1)
    (hk : Within X scope fun Y => SE Y T WF kx fk) (he : Within X scope fun Y => SE Y T WF vx fe)
    (hs : ∀ x, foldedSetIterable iter X.env x = pure x := by intro _; rfl) (hs1 : ∀ env x, foldedSetIterable iter1 env x = pure x := by intro _ _; rfl) :
    SS X T Wx (.Assign [.Name y py] (twoD kx vx tg iter tg1 iter1 ifs ifs1 scope pos) spos) (bSet i (sDict2 fzD (own.map (·.2)) fi b fc fi1 vs1 b1 fc1 fk fe)) := by
  refine ⟨(ps_setTwo (tt := tT (Gof X T) WF fc) (wi1 := tI (Gof X T) WF fi1) (tt1 := tT (Gof X T) WF fc1) (tk := tE (Gof X T) WF fk) (tv := tE (Gof X T) WF fe) hc hN hy hyl hsw hi.pi ok hvs hg (fun s H C cl fp => (ht s H C cl fp).pts) (fun s H C cl fp => (hk s H C cl fp).pe) (fun s H C cl fp => (he s H C cl fp).pe)
    (fun s H C cl fp => (hi1 s H C cl fp).pi) hg1 (fun s H C cl fp => (ht1 s H C cl fp).pts) hs hs1).imp fun D σ H => ?_⟩
  rintro ⟨W, env, st, rl, h⟩
  have h' := postS_out (R := Wpost (Gof X T) fun x H1 => gName i x σ H1 D.nx) rl h fun W' d st' H' e r p v rv => p W' _ H' (Ext.refl _) (r.set rv i)
  exact dict2_core (Q := fun x H1 => gName i x σ H1 D.nx) hgo hgs hgo1 hgs1 ⟨W, env, st, rl, h'⟩
end
end Sv
/-! Sv7: what is walked: sources. -/
namespace Sv
open PySem L2 LamX PySem.Spec
open PyProof.Rows hiding St

/-! ### enumerate(t), t a tuple -/
theorem enum_new1 {v : Value} {o : Obj} {P : Heap → Prop} (B : Begins v o P) :
    Meets (Builtin.«enumerate.__new__» ⟨[.type "enumerate", v], []⟩) (fun _ R s => P s.heap ∧
      R (.ok (.ret (.ref (s.heap.push o).objs.size))) { s with heap := (s.heap.push o).push { cls := .type "enumerate", data := .fields #[.none, .bool false, .ref s.heap.objs.size, rawInt 0, .none, .none] } }) :=
  .of_wp fun prog w A R s h => by
    obtain ⟨hp, g, d, tk, os⟩ := s; obtain ⟨hl, h⟩ := h
    have hsub := sub_enumerate
    have it1 : ∀ {A' : Around} {E : Value → Shared → Prop} {Q : Value → Shared → Prop}, Q (.ref hp.objs.size) ⟨hp.push o, g, d, tk, os⟩ → wpAny (model prog w) A' (pyIter v) Q E ⟨hp, g, d, tk, os⟩ :=
      fun q => B.iter prog w _ _ ⟨hp, g, d, tk, os⟩ _ hl q
    wp_walk using it1
    refine wpAny_stack_any fun st => wpAny_pure ?_
    split
    · rename_i c _ _ _ _ _
      cases (c == Value.type "enumerate")
      · wp_walk using it1
        exact ⟨_, rfl, h⟩
      · wp_walk using it1
        exact ⟨_, rfl, h⟩
    · wp_walk using it1
      exact ⟨_, rfl, h⟩
section
variable {prog : Program} {w : World} {A : Around} {E : Value → Shared → Prop} {s : Shared}
theorem enum_call1 {v : Value} {o : Obj} {P : Heap → Prop} {Q : Value → Shared → Prop} (B : Begins v o P) (h1 : P s.heap)
    (h : ∀ h', IsEnum h' (s.heap.objs.size + 1) s.heap.objs.size 0 .none → h'.get? s.heap.objs.size = some o → h'.objs.size = s.heap.objs.size + 2 →
      (∀ b o, s.heap.get? b = some o → h'.get? b = some o) → Q (.ref (s.heap.objs.size + 1)) { s with heap := h' }) :
    wpAny (model prog w) A (call (.type "enumerate") [v]) Q E s := by
  refine callType_new F.called_enumerate (by decide) (F.typeCall_enumerate_1 _) (F.newCall_enumerate_1 _) (fun obj => F.args_object_init_2 obj _) F.entry_enumerate_new (enum_new1 B) ⟨h1, ?_⟩
  have hz : (s.heap.push o).objs.size = s.heap.objs.size + 1 := Heap.size_push ..
  show _ ∧ _
  rw [hz]
  have he : IsEnum ((s.heap.push o).push { cls := .type "enumerate", data := .fields #[.none, .bool false, .ref s.heap.objs.size, rawInt 0, .none, .none] }) (s.heap.objs.size + 1) s.heap.objs.size 0 .none := by
    have q := Heap.get?_push_size (s.heap.push o) (o := { cls := .type "enumerate", data := .fields #[.none, .bool false, .ref s.heap.objs.size, rawInt 0, .none, .none] }) rfl
    rw [hz] at q
    exact q
  exact ⟨⟨_, he, rfl⟩, h _ he (Heap.get?_push_of_some _ (Heap.get?_push_size _ B.free)) (by rw [Heap.size_push, hz]) fun b o x => Heap.get?_push_of_some _ (Heap.get?_push_of_some _ x)⟩
end
/-- the tuple at a, each item in a new pair with its place -/
def ItEt (K : PySem.W.Frag) (a : Addr) : It :=
  ⟨fun i H => ∃ (xs : List V) (x : V), SqT K H a xs ∧ xs[i]? = some x,
   fun i H v H' => ∃ p x, v = .ref p ∧ H p = none ∧ H' = upd H p (.tup [.int (i : Nat), x]) ∧ ∀ xs, SqT K H a xs → xs[i]? = some x,
   fun i H => ∃ xs : List V, SqT K H a xs ∧ xs.length = i⟩
theorem turn_enumT {P : Program} {w : World} {K : PySem.W.Frag} {elts : List Expr} {kk : Nat} {tpos : Pos} (a e it : Addr) :
    Turn P w K (.Tuple elts kk tpos) (ItEt K a) [e, it] e (fun i h => (∃ old, IsEnum h e it ((i : Nat) : Int) old) ∧ h.IsTupleIter it a i ∧ e ≠ it ∧ a ≠ it ∧ a ≠ e) where
  mem := by simp
  obj := fun i h st b hb => by
    obtain ⟨⟨old, he⟩, ⟨o, ho, hc, hd⟩, _⟩ := st
    have e' : b = e ∨ b = it := by simpa using hb
    rcases e' with z | z
    · rw [z]; exact ⟨_, he, fun v q => nomatch q⟩
    · rw [z]; exact ⟨o, ho, fun v q => by rw [hd] at q; cases q⟩
  keep := fun i h h' st k => let ⟨⟨old, he⟩, hi, hne⟩ := st; ⟨⟨old, k e (by simp) _ he⟩, hi.at fun o q => k it (by simp) o q, hne⟩
  item := by
    intro X hP hw hK hc i pins s σ H E I hf st hg
    subst hP hw hK
    obtain ⟨⟨old, he⟩, hit, hne, hai, hae⟩ := st
    obtain ⟨xs, x, hq, hx⟩ := hg
    obtain ⟨its, rv, p, hz⟩ := I.tuple hq
    obtain ⟨u, hu, ru⟩ := rv.get hx
    have hel : e < s.heap.objs.size := Heap.lt_size he
    have hil : it < s.heap.objs.size := by obtain ⟨_, q, _⟩ := hit; exact Heap.lt_size q
    have hlt : i < its.toArray.size := by
      have l := rv.length
      have l2 := (List.getElem?_eq_some_iff.mp hx).1
      simpa using (by omega : i < its.length)
    refine wpAny_pyNext_enum_itemC (Draws.tuple (A := X.A.in1) (I.ok.hd hc) it a hai its.toArray) he ⟨hit, p⟩ hlt hne (by simp; exact ⟨hne, Ne.symm hae⟩) fun y h' tk hy ho hs' hT hsz hk => ?_
    have hy' : y = u := by
      have : its.toArray[i]? = some u := by simpa using hu
      rw [this] at hy
      exact (Option.some.inj hy).symm
    subst hy'
    refine ⟨_, rfl, wpAny_letOwnedTupleGo_enum (s := { s with heap := h', toks := tk + 1 }) ho fun h'' he' sb => ?_⟩
    have hT2 : h''.get? s.heap.objs.size = some { cls := .type "tuple", data := .seq #[.int i tk, y] } := (sb.2 _ (Nat.ne_of_gt hel)).trans hT
    have new : ObjOk X.prog X.w (upd H s.heap.objs.size (.tup [.int (i : Nat), x])) h'' s.heap.objs.size (.tup [.int (i : Nat), x]) :=
      ⟨by show 2 ≤ sizeLine; decide, [.int i tk, y], .cons ⟨_, rfl⟩ (.cons ru .nil), ⟨_, hT2, rfl, _, rfl⟩⟩
    have I1 : Inv X pins σ (upd H s.heap.objs.size (.tup [.int (i : Nat), x])) { s with heap := h'', toks := tk + 1 } :=
      I.turnedNew (ch := [e, it]) (fun b ob hb q => (sb.2 b (fun z => hb (by simp [z]))).trans (hk b ob (fun z => hb (by simp [z])) (fun z => hb (by simp [z])) q)) hf (Nat.le_refl _) new
    refine ⟨.ref s.heap.objs.size, _, I1, rfl, ⟨_, x, rfl, I.hok.fresh (Nat.le_refl _), rfl, fun ys hy => by rw [I.tuple_inj hy hq]; exact hx⟩, ⟨⟨y, ?_⟩, hs'.1.at fun o q => (sb.2 it (Ne.symm hne)).trans q, hne, hai, hae⟩, fun b hb => ?_⟩
    · have e1 : ((i + 1 : Nat) : Int) = (i : Int) + 1 := by omega
      rw [e1]; exact he'
    · have hb' : b < s.heap.objs.size := by
        have e' : b = e ∨ b = it := by simpa using hb
        rcases e' with z | z
        · rw [z]; exact hel
        · rw [z]; exact hil
      rw [upd_ne (Nat.ne_of_lt hb')]
      exact (hf b hb).1
  done := by
    intro X hP hw hK hc i pins s σ H E I hf st hg
    subst hP hw hK
    obtain ⟨⟨old, he⟩, hit, hne, hai, hae⟩ := st
    obtain ⟨xs, hq, hx⟩ := hg
    obtain ⟨its, rv, p, hz⟩ := I.tuple hq
    obtain ⟨f0, f1, f2, f3, f4, f5⟩ := hf it (by simp)
    have hl := rv.length
    have hi : i = its.toArray.size := by simp; omega
    rw [hi] at hit he
    exact wpAny_pyNext_enum_endD (Draws.tuple (A := X.A.in1) (I.ok.hd hc) it a hai its.toArray) he ⟨hit, p⟩ fun h' eb => ⟨rfl, I.turned (t' := s.toks) (fun b o hb q => eb b o hb q) f0 f1 f3 f4 f5⟩
  self := fun A i s Q E st h => let ⟨⟨_, he⟩, _⟩ := st; wpAny_pyIter_enum he h

def iEnumT (K : PySem.W.Frag) (ta : TA) : TI := fun σ H R => ta σ H fun vs H1 => ∃ a xs, vs = [.ref a] ∧ SqT K H1 a xs ∧ R (ItEt K a) H1
theorem pi_enumT {X : Cx} {e : Expr} {ta : TA} {p pos tpos : Pos} {elts : List Expr} {kk : Nat} (hg : Gl X "enumerate") (hm : X.mg "enumerate" = none) (ha : PA X [e] ta) (hs : starEach [e] X.env = [(false, eval e X.env)] := by rfl) :
    PI X (.Tuple elts kk tpos) (.Call (.Name "enumerate" p) [e] [] pos) (iEnumT X.K ta) := by
  refine ⟨fun pins s σ H R I h => ?_⟩
  refine Call_ (ld_blt I hg hm boot_enumerate (PyProof.Rows.callWith_type1 (thn (ha.run pos pins s σ H _ I h) fun us s1 ⟨vs, H1, I1, r1, q1⟩ => ?_) hs rfl))
  obtain ⟨a, xs, ex, hq, q⟩ := q1
  subst ex
  cases r1 with
  | cons r rr =>
    cases rr
    cases r
    obtain ⟨its, rv, p', hz⟩ := I1.tuple hq
    have hp : s1.heap.IsTuple a its.toArray := p'
    refine enum_call1 (begins_tuple a its.toArray) hp fun h' he hit hsz hk => wpAny_pyIter_enum he ?_
    have I2 : Inv X pins σ H1 { s1 with heap := h' } := I1.kept (t' := s1.toks) hk
    have hal : a < s1.heap.objs.size := by obtain ⟨o, ho, _⟩ := hp; exact Heap.lt_size ho
    refine ⟨s1.heap.objs.size + 1, [s1.heap.objs.size + 1, s1.heap.objs.size], _, _, H1, rfl, I2, turn_enumT a (s1.heap.objs.size + 1) s1.heap.objs.size, ⟨⟨.none, he⟩, ⟨_, hit, rfl, rfl⟩, Nat.succ_ne_self _, Nat.ne_of_lt hal, Nat.ne_of_lt (Nat.lt_succ_of_lt hal)⟩, fun b hb => ?_, q⟩
    have e' : b = s1.heap.objs.size + 1 ∨ b = s1.heap.objs.size := by simpa using hb
    have hle : s1.heap.objs.size ≤ b := by
      rcases e' with z | z
      · rw [z]; exact Nat.le_add_right _ _
      · rw [z]; exact Nat.le_refl _
    exact I1.fpOk hle (I1.hok.fresh hle)
theorem walk_enumT {K : PySem.W.Frag} {a : Addr} {xs : List V} : Walk (ItEt K a) xs.length (fun H => SqT K H a xs) (YPair (fun i => some (.int (i : Nat))) (fun i => xs[i]?)) := by
  refine ⟨fun i _ hi q => ⟨xs, xs[i], q, by simp [hi]⟩, fun _ q => ⟨xs, q, rfl⟩, fun i H v H' _ q y => ?_⟩
  obtain ⟨p, x, h1, h2, h3, h4⟩ := y
  exact ⟨p, .int (i : Nat), x, h1, h2, h3, rfl, h4 xs q⟩
theorem walk_zipT {K : PySem.W.Frag} {a b : Addr} {xs ys : List V} {n : Nat} (hn : n = min xs.length ys.length) : Walk (RZ.ItzT K a b) n (fun H => SqT K H a xs ∧ SqT K H b ys) (YPair (fun i => xs[i]?) (fun i => ys[i]?)) := by
  subst hn
  refine ⟨fun i _ hi q => ?_, fun _ q => ⟨xs, ys, q.1, q.2, by omega⟩, fun i H v H' _ q y => ?_⟩
  · have h1 : i < xs.length := by omega
    have h2 : i < ys.length := by omega
    exact ⟨xs, ys, xs[i], ys[i], q.1, q.2, by simp [h1], by simp [h2]⟩
  · obtain ⟨p, x, z, h1, h2, h3, h4, h5⟩ := y
    exact ⟨p, x, z, h1, h2, h3, h4 xs q.1, h5 ys q.2⟩

/-! ### sources -/
section
variable {X : Cx} {T : Tb} {Wx : WX} {tg e e2 : Expr} {f f2 : Env → M D} {g : Env → M (List D)} {pos p tpos : Pos} {elts : List Expr} {kk : Nat}
def iT (f : Env → M D) : Env → M (List D) := fun env => bnd (f env) fun d => match d with
  | .tup ds => ret ds
  | _ => bad
def iL (f : Env → M D) : Env → M (List D) := fun env => bnd (f env) fun d => match d with
  | .lst ds => ret ds
  | .frl ds => ret ds
  | _ => bad
def iK (f : Env → M D) : Env → M (List D) := fun env => bnd (f env) fun d => match d with
  | .dct ks _ => ret (ks.map keyD)
  | _ => bad
def chars (x : Str) : List D := x.cps.toList.map fun c => .str ⟨#[c]⟩
def iS (f : Env → M D) : Env → M (List D) := fun env => bnd (f env) fun d => match d with
  | .str x => ret (chars x)
  | _ => bad
def r62 (i : Int) : Bool := decide (-(2 ^ 62) ≤ i) && decide (i < 2 ^ 62)
theorem r62_iff {i : Int} (h : r62 i = true) : -(2 ^ 62) ≤ i ∧ i < 2 ^ 62 := by
  unfold r62 at h
  rw [Bool.and_eq_true] at h
  exact ⟨of_decide_eq_true h.1, of_decide_eq_true h.2⟩
def iR1 (g : Env → M (List D)) : Env → M (List D) := fun env => bnd (g env) fun ds => match ds with
  | [.int j] => gd (r62 j) (ret (rangeD 0 j.toNat))
  | _ => bad
def iR2 (g : Env → M (List D)) : Env → M (List D) := fun env => bnd (g env) fun ds => match ds with
  | [.int i, .int j] => gd (r62 i && r62 j) (ret (rangeD i (j - i).toNat))
  | _ => bad
def enumD : Nat → List D → List D
  | _, [] => []
  | i, d :: ds => .tup [.int (i : Nat), d] :: enumD (i + 1) ds
theorem enumD_get : ∀ (ds : List D) (k i : Nat) (d : D), ds[i]? = some d → (enumD k ds)[i]? = some (.tup [.int ((k + i : Nat) : Int), d])
  | [], _, _, _, h => by simp at h
  | a :: ds, k, 0, d, h => by
    simp at h
    subst h
    rfl
  | a :: ds, k, i + 1, d, h => by
    have q := enumD_get ds (k + 1) i d (by simpa using h)
    show (enumD (k + 1) ds)[i]? = _
    rw [q, show k + 1 + i = k + (i + 1) by omega]
theorem enumD_len : ∀ (ds : List D) (k : Nat), (enumD k ds).length = ds.length
  | [], _ => rfl
  | a :: ds, k => by
    show (enumD (k + 1) ds).length + 1 = ds.length + 1
    rw [enumD_len ds (k + 1)]
def iEn (g : Env → M (List D)) : Env → M (List D) := fun env => bnd (g env) fun ds => match ds with
  | [.tup es] => ret (enumD 0 es)
  | _ => bad
def iEnL (g : Env → M (List D)) : Env → M (List D) := fun env => bnd (g env) fun ds => match ds with
  | [.lst es] => ret (enumD 0 es)
  | [.frl es] => ret (enumD 0 es)
  | _ => bad
def zipD (as bs : List D) : List D := List.zipWith (fun a b => D.tup [a, b]) as bs
def iZ (g : Env → M (List D)) : Env → M (List D) := fun env => bnd (g env) fun ds => match ds with
  | [.tup as, .tup bs] => ret (zipD as bs)
  | [.lst as, .lst bs] => ret (zipD as bs)
  | _ => bad
theorem si_tup (h : SE X T Wx e f) : SI X T Wx tg e (iT f) := by
  refine ⟨(pi_tup h.pe).imp fun σ H R => ?_⟩
  rintro ⟨W, env, st, rl, h⟩
  refine tE_bind (k := fun _ d => match d with | .tup ds => ret ds | _ => bad) rl h fun W1 d st1 H1 v e1 r1 rv p => ?_
  cases rv with
  | tup hq rs => exact ⟨_, rfl, ⟨_, r1.hp.sqT hq⟩, p W1 H1 (Ext.refl _) r1.hp _ (yields_walk walk_tup rs fun W st H e ok => sqT_ext (fun a o z => ok.fz a o (e.F a o z)) hq)⟩
  | _ => exact p.elim
theorem si_lst (h : SE X T Wx e f) : SI X T Wx tg e (iL f) := by
  refine ⟨(pi_list h.pe).imp fun σ H R => ?_⟩
  rintro ⟨W, env, st, rl, h⟩
  refine tE_bind (k := fun _ d => match d with | .lst ds => ret ds | .frl ds => ret ds | _ => bad) rl h fun W1 d st1 H1 v e1 r1 rv p => ?_
  cases rv with
  | lst hq rs => exact ⟨_, rfl, ⟨_, .inl (.inl (r1.hp.fz _ _ hq))⟩, p W1 H1 (Ext.refl _) r1.hp _ (yields_walk walk_list rs fun W st H e ok => .inl (.inl (ok.fz _ _ (e.F _ _ hq))))⟩
  | frl hq rs => exact ⟨_, rfl, ⟨_, r1.hp.sqL hq⟩, p W1 H1 (Ext.refl _) r1.hp _ (yields_walk walk_list rs fun W st H e ok => sqL_ext (fun a o z => ok.fz a o (e.F a o z)) hq)⟩
  | _ => exact p.elim
theorem rvs_keys {K : PySem.W.Frag} {W : Wd} : ∀ ks : List Key, RVs K W (ks.map keyD) (ks.map kV)
  | [] => .nil
  | k :: ks => .cons (rv_keyD k) (rvs_keys ks)
theorem si_keys (h : SE X T Wx e f) : SI X T Wx tg e (iK f) := by
  refine ⟨(pi_keys h.pe).imp fun σ H R => ?_⟩
  rintro ⟨W, env, st, rl, h⟩
  refine tE_bind (k := fun _ d => match d with | .dct ks _ => ret (ks.map keyD) | _ => bad) rl h fun W1 d st1 H1 v e1 r1 rv p => ?_
  cases rv with
  | @dct a o kvs vs hq rs =>
    refine ⟨a, o, rfl, .inl ⟨kvs, r1.hp.fz _ _ hq, p W1 H1 (Ext.refl _) r1.hp _ ?_⟩⟩
    have w : Walk (Itk a o kvs) ((kvs.map (·.1)).map kV).length (fun H => H a = some (.frz o (.dK kvs))) (YAt ((kvs.map (·.1)).map kV)) := by
      have w0 := walk_keys (d := a) (o := o) (kvs := kvs)
      have l : ((kvs.map (·.1)).map kV).length = kvs.length := by simp
      rw [l]
      refine w0.mono (fun H h => h) fun i H x H' hi hh y => ?_
      obtain ⟨e1, k, v, e2, e3⟩ := y
      refine ⟨e1, ?_⟩
      subst e3
      simp [e2]
    exact yields_walk w (rvs_keys _) fun W st H e ok => ok.fz _ _ (e.F _ _ hq)
  | _ => exact p.elim
theorem si_rng1 (hg : Gl X "range") (hm : X.mg "range" = none) (ha : SA X T Wx [e] g) (hs : starEach [e] X.env = [(false, eval e X.env)] := by rfl) : SI X T Wx tg (.Call (.Name "range" p) [e] [] pos) (iR1 g) := by
  refine ⟨(pi_range1 hg hm ha.pa hs).imp fun σ H R => ?_⟩
  rintro ⟨W, env, st, rl, h⟩
  refine tA_bind (k := fun _ ds => match ds with | [.int j] => gd (r62 j) (ret (rangeD 0 j.toNat)) | _ => bad) rl h fun W1 ds st1 H1 vs e1 r1 rv p => ?_
  match ds, rv, p with
  | [.int j], .cons (.int _) .nil, p =>
    obtain ⟨c, p⟩ := Post.gd p
    obtain ⟨c1, c2⟩ := r62_iff c
    exact ⟨j, rfl, c1, c2, p W1 H1 (Ext.refl _) r1.hp _ yields_range⟩
theorem si_rng2 (hg : Gl X "range") (hm : X.mg "range" = none) (ha : SA X T Wx [e, e2] g) (hs : starEach [e, e2] X.env = [(false, eval e X.env), (false, eval e2 X.env)] := by rfl) (hs2 : starEach [e2] X.env = [(false, eval e2 X.env)] := by rfl) : SI X T Wx tg (.Call (.Name "range" p) [e, e2] [] pos) (iR2 g) := by
  refine ⟨(pi_range2 hg hm ha.pa hs hs2).imp fun σ H R => ?_⟩
  rintro ⟨W, env, st, rl, h⟩
  refine tA_bind (k := fun _ ds => match ds with | [.int i, .int j] => gd (r62 i && r62 j) (ret (rangeD i (j - i).toNat)) | _ => bad) rl h fun W1 ds st1 H1 vs e1 r1 rv p => ?_
  match ds, rv, p with
  | [.int i, .int j], .cons (.int _) (.cons (.int _) .nil), p =>
    obtain ⟨c, p⟩ := Post.gd p
    rw [Bool.and_eq_true] at c
    obtain ⟨c1, c2⟩ := r62_iff c.1
    obtain ⟨c3, c4⟩ := r62_iff c.2
    exact ⟨i, j, rfl, ⟨c1, c2, c3, c4⟩, p W1 H1 (Ext.refl _) r1.hp _ yields_range⟩
theorem si_enum (hg : Gl X "enumerate") (hm : X.mg "enumerate" = none) (ha : SA X T Wx [e] g) (hs : starEach [e] X.env = [(false, eval e X.env)] := by rfl) : SI X T Wx (.Tuple elts kk tpos) (.Call (.Name "enumerate" p) [e] [] pos) (iEn g) := by
  refine ⟨(pi_enumT hg hm ha.pa hs).imp fun σ H R => ?_⟩
  rintro ⟨W, env, st, rl, h⟩
  refine tA_bind (k := fun _ ds => match ds with | [.tup es] => ret (enumD 0 es) | _ => bad) rl h fun W1 ds st1 H1 vs e1 r1 rv p => ?_
  match ds, rv, p with
  | [.tup es], .cons (.tup (a := a) (xs := xs) hq rs) .nil, p =>
    refine ⟨a, xs, rfl, r1.hp.sqT hq, p W1 H1 (Ext.refl _) r1.hp _ ?_⟩
    have w := walk_enumT (K := X.K) (a := a) (xs := xs)
    rw [← rs.length, ← enumD_len es 0] at w
    refine yields_pair w (fun W st H e ok => sqT_ext (fun a o z => ok.fz a o (e.F a o z)) hq) fun i x y hi e1 e2 => ?_
    cases e1
    obtain ⟨d, q1, q2⟩ := rs.getv e2
    refine ⟨_, d, ?_, .int _, q2⟩
    rw [enumD_get es 0 i d q1, Nat.zero_add]
theorem zipD_len (as bs : List D) : (zipD as bs).length = min as.length bs.length := by simp [zipD]
theorem zipD_get {as bs : List D} {i : Nat} {a b : D} (ha : as[i]? = some a) (hb : bs[i]? = some b) : (zipD as bs)[i]? = some (.tup [a, b]) := by
  simp [zipD, List.getElem?_zipWith, ha, hb]
theorem si_zip (hg : Gl X "zip") (hm : X.mg "zip" = none) (ha : SA X T Wx [e, e2] g) (hs : starEach [e, e2] X.env = (false, eval e X.env) :: starEach [e2] X.env := by rfl) (hpl : (backTo pos (starEach [e2] X.env)).any (·.1) = false := by rfl) : SI X T Wx (.Tuple elts kk tpos) (.Call (.Name "zip" p) [e, e2] [] pos) (iZ g) := by
  refine ⟨(RZ.pi_zipA hg hm ha.pa hs hpl).imp fun σ H R => ?_⟩
  rintro ⟨W, env, st, rl, h⟩
  refine tA_bind (k := fun _ ds => match ds with | [.tup as, .tup bs] => ret (zipD as bs) | [.lst as, .lst bs] => ret (zipD as bs) | _ => bad) rl h fun W1 ds st1 H1 vs e1 r1 rv p => ?_
  match ds, rv, p with
  | [.tup as, .tup bs], .cons (.tup (a := a) (xs := xs) hq rs) (.cons (.tup (a := b) (xs := ys) hq2 rs2) .nil), p =>
    refine ⟨a, b, xs, ys, rfl, .inr ⟨r1.hp.sqT hq, r1.hp.sqT hq2, p W1 H1 (Ext.refl _) r1.hp _ ?_⟩⟩
    have w := walk_zipT (K := X.K) (a := a) (b := b) (xs := xs) (ys := ys) rfl
    rw [← rs.length, ← rs2.length, ← zipD_len] at w
    refine yields_pair w (fun W st H e ok => ⟨sqT_ext (fun a o z => ok.fz a o (e.F a o z)) hq, sqT_ext (fun a o z => ok.fz a o (e.F a o z)) hq2⟩) fun i x y hi e1 e2 => ?_
    obtain ⟨d, q1, q2⟩ := rs.getv e1
    obtain ⟨d', q1', q2'⟩ := rs2.getv e2
    exact ⟨d, d', zipD_get q1 q1', q2, q2'⟩
  | [.lst as, .lst bs], .cons (.lst (a := a) (xs := xs) hq rs) (.cons (.lst (a := b) (xs := ys) hq2 rs2) .nil), p =>
    refine ⟨a, b, xs, ys, rfl, .inl ⟨.inl (.inl (r1.hp.fz _ _ hq)), .inl (.inl (r1.hp.fz _ _ hq2)), p W1 H1 (Ext.refl _) r1.hp _ ?_⟩⟩
    have w := walk_zip (K := X.K) (a := a) (b := b) (xs := xs) (ys := ys) rfl
    rw [← rs.length, ← rs2.length, ← zipD_len] at w
    refine yields_pair w (fun W st H e ok => ⟨.inl (.inl (ok.fz _ _ (e.F _ _ hq))), .inl (.inl (ok.fz _ _ (e.F _ _ hq2)))⟩) fun i x y hi e1 e2 => ?_
    obtain ⟨d, q1, q2⟩ := rs.getv e1
    obtain ⟨d', q1', q2'⟩ := rs2.getv e2
    exact ⟨d, d', zipD_get q1 q1', q2, q2'⟩
theorem si_str (h : SE X T Wx e f) : SI X T Wx tg e (iS f) := by
  refine ⟨(pi_str h.pe).imp fun σ H R => ?_⟩
  rintro ⟨W, env, st, rl, h⟩
  refine tE_bind (k := fun _ d => match d with | .str x => ret (chars x) | _ => bad) rl h fun W1 d st1 H1 v e1 r1 rv p => ?_
  cases rv with
  | str x =>
    refine ⟨x, rfl, p W1 H1 (Ext.refl _) r1.hp _ ?_⟩
    have l : (chars x).length = x.cps.size := by simp [chars]
    have w := walk_str (z := x)
    refine ⟨fun i W st H e ok hi => w.goes i H (by omega) trivial, fun i W st H v H' e ok hi y => ?_, fun W st H e ok => by rw [l]; exact w.stops H trivial⟩
    obtain ⟨e1, c, e2, e3⟩ := w.yields i H v H' (by omega) trivial y
    subst e1 e3
    refine ⟨W, .str ⟨#[c]⟩, Ext.refl W, ok, ?_, .str _⟩
    simp [chars, e2]
  | _ => exact p.elim
end
end Sv
/-! Sv8: subscripts, slices, built-ins, stores of items, methods of lists. -/
namespace Sv
open PySem L2 LamX
open PyProof.Rows hiding St

/-! ### sequences -/
theorem RVs.atI {K : PySem.W.Frag} {W : Wd} {ds : List D} {xs : List V} {i : Int} {d : D} (r : RVs K W ds xs) (h : atI ds i = some d) : ∃ v, atI xs i = some v ∧ RV K W d v := by
  unfold L2.atI at h ⊢
  rw [← r.length]
  cases e : ixN ds.length i with
  | none => rw [e] at h; cases h
  | some j =>
    rw [e] at h
    obtain ⟨v, h1, h2⟩ := r.get (i := j) h
    exact ⟨v, h1, h2⟩
def getO {α : Type} : Option α → M α
  | some a => ret a
  | none => bad
theorem Post.getO {G : Gd} {Wx : WX} {σ : St} {α : Type} {W : Wd} {R : Wd → α → Store → Hp → Prop} {o : Option α} {st : Store} (h : Post G Wx σ W R (Sv.getO o st)) : ∃ a, o = some a ∧ Post G Wx σ W R (.ok a st) := by
  cases o with
  | none => exact h.elim
  | some a => exact ⟨a, rfl, h⟩
def ixD (a b : D) : M D := fun st => match a, b with
  | .tup ds, .int i => getO (atI ds i) st
  | .lst ds, .int i => getO (atI ds i) st
  | .frl ds, .int i => getO (atI ds i) st
  | .str z, .int i => gd (decide (z.length ≤ sizeLine)) (bnd (getO (atI z.cps.toList i)) fun c => ret (.str ⟨#[c]⟩)) st
  | .dct ks vs, k => (match keyOf k with
    | some k => getO (dGet k ks vs) st
    | none => .bad)
  | .ref n, .int i => (match st[n]? with
    | some (.lst ds) => getO (atI ds i) st
    | some (.dct ks vs) => getO (dGet (.inl i) ks vs) st
    | _ => .bad)
  | .ref n, .str x => (match st[n]? with
    | some (.dct ks vs) => getO (dGet (.inr x) ks vs) st
    | _ => .bad)
  | _, _ => .bad
section
variable {K : PySem.W.Frag} {mg : Str → Option Value} {T : Tb} {Wx : WX} {X : Cx}
def rDctG : R2 := fun x y H Q => ∃ a v, x = .ref a ∧ DGet H a y (some v) ∧ Q v H
theorem ix_dctG (hu : X.A.units + 1 < cLine) : IxR X rDctG := by
  intro value slice pins s σ H x y v u Q I rx ry h hs
  obtain ⟨a, z, rfl, g, q⟩ := h
  obtain rfl : v = Value.ref a := rx
  exact tail_any (dict_typeIs I g) PySem.F.slot_dict_getitem.lookup (d_getItem hu I g ry fun w' s' I' r' => ⟨z, H, I', r', q⟩) hs
def rIxS2 (K : PySem.W.Frag) : R2 := fun x y H Q => rIx K x y H Q ∨ rDctG x y H Q
theorem ix_all (hu : X.A.units + 1 < cLine) : IxR X (rIxS2 X.K) := ix_seq.or (ix_dctG hu)
theorem sv_ix : Serves K mg T Wx (rIxS2 K) ixD := by
  intro W σ a b x y st H Q ok ra rb p
  cases ra with
  | tup hq r =>
    cases rb with
    | int i =>
      obtain ⟨d, e, p⟩ := Post.getO (show Post _ Wx σ W _ (getO (atI _ i) st) from p)
      obtain ⟨v, e1, e2⟩ := r.atI e
      exact .inl (.inr (.inl ⟨_, _, i, v, rfl, rfl, ok.sqT hq, e1, p.here ok e2⟩))
    | _ => exact p.elim
  | lst hq r =>
    cases rb with
    | int i =>
      obtain ⟨d, e, p⟩ := Post.getO (show Post _ Wx σ W _ (getO (atI _ i) st) from p)
      obtain ⟨v, e1, e2⟩ := r.atI e
      exact .inl (.inl ⟨_, _, i, v, rfl, rfl, .inl (.inl (ok.fz _ _ hq)), e1, p.here ok e2⟩)
    | _ => exact p.elim
  | frl hq r =>
    cases rb with
    | int i =>
      obtain ⟨d, e, p⟩ := Post.getO (show Post _ Wx σ W _ (getO (atI _ i) st) from p)
      obtain ⟨v, e1, e2⟩ := r.atI e
      exact .inl (.inl ⟨_, _, i, v, rfl, rfl, ok.sqL hq, e1, p.here ok e2⟩)
    | _ => exact p.elim
  | str z =>
    cases rb with
    | int i =>
      obtain ⟨c, p⟩ := Post.gd (show Post _ Wx σ W _ (gd _ _ st) from p)
      rw [bnd_run] at p
      cases e : atI z.cps.toList i with
      | none => rw [e] at p; exact p.elim
      | some k =>
        rw [e] at p
        exact .inl (.inr (.inr ⟨z, i, k, rfl, rfl, of_decide_eq_true c, e, p.here ok (.str _)⟩))
    | _ => exact p.elim
  | @dct a o kvs vs hq r =>
    have p' : Post ⟨K, mg, T⟩ Wx σ W (Wpost ⟨K, mg, T⟩ Q) (match keyOf b with | some k => getO (dGet k (kvs.map (·.1)) vs) st | none => .bad) := by
      cases rb <;> exact p
    cases e : keyOf b with
    | none => rw [e] at p'; exact p'.elim
    | some k =>
      rw [e] at p'
      obtain ⟨d, e1, p'⟩ := Post.getO p'
      obtain ⟨v, e2, e3⟩ := get_some r e1
      refine .inr ⟨a, v, rfl, ?_, p'.here ok e3⟩
      rw [rv_key rb e]
      exact .inl ⟨kvs, k, .inr ⟨o, ok.fz _ _ hq⟩, rfl, e2.symm⟩
  | @ref n a hn =>
    cases rb with
    | int i =>
      have p' : Post ⟨K, mg, T⟩ Wx σ W (Wpost ⟨K, mg, T⟩ Q) (match st[n]? with | some (.lst ds) => getO (atI ds i) st | some (.dct ks vs) => getO (dGet (.inl i) ks vs) st | _ => .bad) := p
      cases e : st[n]? with
      | none => rw [e] at p'; exact p'.elim
      | some ob =>
        rw [e] at p'
        obtain ⟨a', e1, e2, _, ob'⟩ := ok.at_ e (.ref hn)
        cases e1
        cases ob with
        | lst ds =>
          obtain ⟨d, e3, p'⟩ := Post.getO p'
          obtain ⟨xs, h1, h2⟩ := ob'
          obtain ⟨v, e4, e5⟩ := h2.atI e3
          exact .inl (.inl ⟨_, _, i, v, rfl, rfl, .inl (.inl h1), e4, p'.here ok e5⟩)
        | dct ks vs =>
          obtain ⟨d, e3, p2⟩ := Post.getO p'
          obtain ⟨kvs, h1, h2, h3⟩ := ob'
          subst h2
          obtain ⟨v, e4, e5⟩ := get_some h3 e3
          exact .inr ⟨a, v, rfl, .inl ⟨kvs, .inl i, .inl h1, rfl, e4.symm⟩, p2.here ok e5⟩
        | ins c fs => exact p'.elim
    | str z =>
      have p' : Post ⟨K, mg, T⟩ Wx σ W (Wpost ⟨K, mg, T⟩ Q) (match st[n]? with | some (.dct ks vs) => getO (dGet (.inr z) ks vs) st | _ => .bad) := p
      cases e : st[n]? with
      | none => rw [e] at p'; exact p'.elim
      | some ob =>
        rw [e] at p'
        obtain ⟨a', e1, e2, _, ob'⟩ := ok.at_ e (.ref hn)
        cases e1
        cases ob with
        | dct ks vs =>
          obtain ⟨d, e3, p2⟩ := Post.getO p'
          obtain ⟨kvs, h1, h2, h3⟩ := ob'
          subst h2
          obtain ⟨v, e4, e5⟩ := get_some h3 e3
          exact .inr ⟨a, v, rfl, .inl ⟨kvs, .inr z, .inl h1, rfl, e4.symm⟩, p2.here ok e5⟩
        | lst ds => exact p'.elim
        | ins c fs => exact p'.elim
    | _ => exact p.elim
  | _ => cases rb <;> exact p.elim
theorem se_ix {a b : Expr} {fa fb : Env → M D} {pos : Pos} (hu : X.A.units + 1 < cLine) (ha : SE X T Wx a fa) (hb : SE X T Wx b fb) (hs : PlainIx b := by intro _ _; rfl) : SE X T Wx (.Subscript a b pos) (s2 ixD fa fb) :=
  ⟨(pe_ix (ix_all hu) ha.pe hb.pe hs).imp fun _ _ _ h => two sv_ix h⟩

/-! ### slices -/
def cutD (ds : List D) (lo hi : Option Int) : List D := (ds.drop (HT.sIx ds.length 0 lo)).take (HT.sIx ds.length ds.length hi - HT.sIx ds.length 0 lo)
theorem RVs.cut {W : Wd} {ds : List D} {xs : List V} (r : RVs K W ds xs) (lo hi : Option Int) : RVs K W (cutD ds lo hi) (cutV xs lo hi) := by
  unfold cutD cutV
  rw [r.length]
  exact (r.drop _).take _
theorem cutD_all {ds : List D} {lo hi : Option Int} (h : HT.sIx ds.length 0 lo = 0 ∧ HT.sIx ds.length ds.length hi = ds.length) : cutD ds lo hi = ds := by
  unfold cutD
  rw [h.1, h.2]
  simp
structure SO (X : Cx) (T : Tb) (Wx : WX) (e : Option Expr) (f : Env → M (Option Int)) : Prop where
  po : PO X e (fun σ H Q => ∃ W env st, Rel (Gof X T) W σ H env st ∧ Post (Gof X T) Wx σ W (fun _ o _ H => Q o H) (f env st))
theorem _root_.L2.PO.imp {X : Cx} {e : Option Expr} {t t' : TO} (h : PO X e t) (i : ∀ σ H Q, t' σ H Q → t σ H Q) : PO X e t' := ⟨fun pins s σ H Q I k => h.run pins s σ H Q I (i _ _ _ k)⟩
def oNone : Env → M (Option Int) := fun _ => ret none
def oSome (f : Env → M D) : Env → M (Option Int) := fun env => bnd (f env) fun d => match d with
  | .int i => ret (some i)
  | _ => bad
theorem so_none : SO X T Wx none oNone := by
  refine ⟨po_none.imp fun σ H Q => ?_⟩
  rintro ⟨W, env, st, rl, h⟩
  exact h W H (Ext.refl _) rl.hp
theorem so_some {e : Expr} {f : Env → M D} (h : SE X T Wx e f) : SO X T Wx (some e) (oSome f) := by
  refine ⟨(po_some h.pe).imp fun σ H Q => ?_⟩
  rintro ⟨W, env, st, rl, h⟩
  refine tE_bind (α := Option Int) (k := fun _ d => match d with | .int i => ret (some i) | _ => bad) rl h fun W1 d st1 H1 v e1 r1 rv p => ?_
  cases rv with
  | int i => exact ⟨i, rfl, p W1 H1 (Ext.refl _) r1.hp⟩
  | _ => exact p.elim
def slD (d : D) (lo hi : Option Int) : M D := match d with
  | .tup ds => ret (.tup (cutD ds lo hi))
  | .lst ds => ret (.lst (cutD ds lo hi))
  | .frl ds => ret (.lst (cutD ds lo hi))
  | .str z => gd (decide (z.length ≤ sizeLine)) (ret (.str (cutS z lo hi)))
  | .ref n => fun st => match st[n]? with
    | some (.lst ds) => .ok (.lst (cutD ds lo hi)) st
    | _ => .bad
  | _ => bad
def sSl (f : Env → M D) (lo hi : Env → M (Option Int)) : Env → M D := fun env => bnd (f env) fun d => bnd (lo env) fun l => bnd (hi env) fun h => slD d l h
def rSlAll (K : PySem.W.Frag) : V → Option Int → Option Int → Hp → VK → Prop := fun x lo hi H Q => rSlA K x lo hi H Q ∨ (rSlL K x lo hi H Q ∨ rSlS x lo hi H Q)
theorem sl_all : SlR X (rSlAll X.K) := (sl_tupA).or (sl_list.or sl_str)
theorem slD_go {W : Wd} {σ : St} {d : D} {v : V} {lo hi : Option Int} {st : Store} {H : Hp} {Q : VK} (ok : HeapOk ⟨K, mg, T⟩ W st H) (r : RV K W d v) (p : Post ⟨K, mg, T⟩ Wx σ W (Wpost ⟨K, mg, T⟩ Q) (slD d lo hi st)) : rSlAll K v lo hi H Q := by
  cases r with
  | tup hq r =>
    refine .inl ⟨_, _, rfl, ok.sqT hq, fun w => ?_, fun w q hq2 => ?_⟩
    · have e := cutD_all (ds := _) (lo := lo) (hi := hi) (by rw [r.length]; exact w)
      have p' : Post ⟨K, mg, T⟩ Wx σ W (Wpost ⟨K, mg, T⟩ Q) (.ok (.tup (cutD _ lo hi)) st) := p
      rw [e] at p'
      exact p'.here ok (.tup hq r)
    · obtain ⟨W', e, ok', rv⟩ := ok.newTup hq2 (r.cut lo hi)
      exact p W' _ e ok' _ rv
  | lst hq r =>
    refine .inr (.inl ⟨_, _, rfl, .inl (.inl (ok.fz _ _ hq)), fun q hq2 => ?_⟩)
    obtain ⟨W', e, ok', rv⟩ := ok.newLst hq2 (r.cut lo hi)
    exact p W' _ e ok' _ rv
  | frl hq r =>
    refine .inr (.inl ⟨_, _, rfl, ok.sqL hq, fun q hq2 => ?_⟩)
    obtain ⟨W', e, ok', rv⟩ := ok.newLst hq2 (r.cut lo hi)
    exact p W' _ e ok' _ rv
  | str z =>
    obtain ⟨c, p⟩ := Post.gd p
    exact .inr (.inr ⟨z, rfl, of_decide_eq_true c, p.here ok (.str _)⟩)
  | @ref n a hn =>
    have p' : Post ⟨K, mg, T⟩ Wx σ W (Wpost ⟨K, mg, T⟩ Q) (match st[n]? with | some (.lst ds) => .ok (.lst (cutD ds lo hi)) st | _ => .bad) := p
    cases e : st[n]? with
    | none => rw [e] at p'; exact p'.elim
    | some ob =>
      rw [e] at p'
      obtain ⟨a', e1, e2, _, ob'⟩ := ok.at_ e (.ref hn)
      cases e1
      cases ob with
      | lst ds =>
        obtain ⟨xs, h1, h2⟩ := ob'
        refine .inr (.inl ⟨_, _, rfl, .inl (.inl h1), fun q hq2 => ?_⟩)
        obtain ⟨W', e, ok', rv⟩ := ok.newLst hq2 (h2.cut lo hi)
        exact p' W' _ e ok' _ rv
      | dct ks vs => exact p'.elim
      | ins c fs => exact p'.elim
  | _ => exact p.elim
theorem se_slice {e : Expr} {lo hi : Option Expr} {f : Env → M D} {fl fh : Env → M (Option Int)} {p2 pos : Pos} (he : SE X T Wx e f) (hl : SO X T Wx lo fl) (hh : SO X T Wx hi fh) : SE X T Wx (.Subscript e (.Slice lo hi none p2) pos) (sSl f fl fh) := by
  refine ⟨(pe_slice sl_all he.pe hl.po hh.po).imp fun σ H Q => ?_⟩
  rintro ⟨W, env, st, rl, h⟩
  refine tE_bind (k := fun env d => bnd (fl env) fun l => bnd (fh env) fun h => slD d l h) rl h fun W1 d st1 H1 v e1 r1 rv p => ?_
  refine ⟨W1, env, st1, r1, Post.imp (k := fun l => bnd (fh env) fun h => slD d l h) p fun W2 l st2 H2 e2 ok2 p2 => ?_⟩
  refine ⟨W2, env, st2, r1.ext e2 ok2, Post.imp (k := fun h => slD d l h) p2 fun W3 u st3 H3 e3 ok3 p3 => ?_⟩
  exact slD_go ok3 (rv.ext (e2.trans e3)) p3

/-! ### chained comparisons -/
def sChain (g g' : D → D → M D) (fa fb fc : Env → M D) : Env → M D := fun env => bnd (fa env) fun a => bnd (fb env) fun b => bnd (g a b) fun t => match t with
  | .bl true => bnd (fc env) fun c => g' b c
  | .bl false => ret (.bl false)
  | _ => bad
def ServesS (K : PySem.W.Frag) (mg : Str → Option Value) (T : Tb) (r : R2) (g : D → D → M D) : Prop :=
  ∀ (Wx : WX) (W : Wd) (σ : St) (a b : D) (x y : V) (st : Store) (H : Hp) (Q : VK), HeapOk ⟨K, mg, T⟩ W st H → RV K W a x → RV K W b y → Post ⟨K, mg, T⟩ Wx σ W (Wpost ⟨K, mg, T⟩ Q) (g a b st) → r x y H Q
theorem chain_go {r r' : R2} {g g' : D → D → M D} {fa fb fc : Env → M D} (hs : Serves X.K X.mg T Wx r g) (hs' : Serves X.K X.mg T Wx r' g') {σ : St} {H : Hp} {Q : VK} (h : tE (Gof X T) Wx (sChain g g' fa fb fc) σ H Q) : tChain r r' (tE (Gof X T) Wx fa) (tE (Gof X T) Wx fb) (tE (Gof X T) Wx fc) σ H Q := by
  obtain ⟨W, env, st, rl, h⟩ := h
  refine tE_bind (k := fun env a => bnd (fb env) fun b => bnd (g a b) fun t => match t with | .bl true => bnd (fc env) fun c => g' b c | .bl false => ret (.bl false) | _ => bad) rl h fun W1 a st1 H1 x e1 r1 ra h1 => ?_
  refine tE_bind (k := fun env b => bnd (g a b) fun t => match t with | .bl true => bnd (fc env) fun c => g' b c | .bl false => ret (.bl false) | _ => bad) r1 h1 fun W2 b st2 H2 y e2 r2 rb h2 => ?_
  refine hs W2 σ a b x y st2 H2 _ r2.hp (ra.ext e2) rb (Post.imp (k := fun t => match t with | .bl true => bnd (fc env) fun c => g' b c | .bl false => ret (.bl false) | _ => bad) h2 fun W3 t st3 H3 e3 ok3 p3 v rv => ?_)
  cases rv with
  | bl c =>
    refine ⟨c, rfl, ?_⟩
    cases c with
    | true =>
      refine iteT (tE_bind (k := fun _ c => g' b c) (r2.ext e3 ok3) p3 fun W4 c st4 H4 z e4 r4 rc p4 => ?_)
      exact hs' W4 σ b c y z st4 H4 Q r4.hp (rb.ext (e3.trans e4)) rc p4
    | false => exact iteF (p3.here ok3 (.bl false))
  | _ => exact p3.elim
theorem se_chain {op op' : CmpOp} {r r' : R2} {g g' : D → D → M D} {a b c : Expr} {fa fb fc : Env → M D} {pos : Pos} (ho : OpR X (compareOp op) r) (hs : Serves X.K X.mg T Wx r g) (ho' : OpR X (compareOp op') r') (hs' : Serves X.K X.mg T Wx r' g')
    (ha : SE X T Wx a fa) (hb : SE X T Wx b fb) (hc : SE X T Wx c fc) (hm : lastMarks [op, op'] [b, c] = false := by with_unfolding_all rfl) : SE X T Wx (.Compare a [op, op'] [b, c] pos) (sChain g g' fa fb fc) :=
  ⟨(pe_chain ho ho' ha.pe hb.pe hc.pe hm).imp fun _ _ _ h => chain_go hs hs' h⟩
theorem st_chain {op op' : CmpOp} {r r' : R2} {g g' : D → D → M D} {a b c : Expr} {fa fb fc : Env → M D} {pos : Pos} (ho : OpR X (compareOp op) r) (hs : Serves X.K X.mg T Wx r g) (ho' : OpR X (compareOp op') r') (hs' : Serves X.K X.mg T Wx r' g')
    (ha : SE X T Wx a fa) (hb : SE X T Wx b fb) (hc : SE X T Wx c fc) (hm : lastMarks [op, op'] [b, c] = false := by with_unfolding_all rfl) : ST X T Wx (.Compare a [op, op'] [b, c] pos) (sChain g g' fa fb fc) := by
  refine ⟨(pt_chain ho ho' ha.pe hb.pe hc.pe hm).imp fun σ H Q => ?_⟩
  rintro ⟨W, env, st, rl, h⟩
  refine chain_go hs hs' ⟨W, env, st, rl, Post.imp h fun W1 d st1 H1 e ok p v rv => ?_⟩
  cases rv with
  | bl b => exact ⟨b, rfl, p W1 H1 (Ext.refl _) ok⟩
  | _ => exact p.elim
end
end Sv
/-! Sv9: built-ins, methods of lists, stores of items. -/
namespace Sv
open PySem L2 LamX
open PyProof.Rows hiding St

/-! ### in, not in of dicts too -/
def dctOf (b : D) (st : Store) : Option (List Key × List D) := match b with
  | .dct ks vs => some (ks, vs)
  | .ref n => match st[n]? with
    | some (.dct ks vs) => some (ks, vs)
    | _ => none
  | _ => none
def inDct (neg : Bool) (a : D) (p : List Key × List D) : M D := match keyOf a with
  | some k => ret (.bl (neg ^^ (dGet k p.1 p.2).isSome))
  | none => bad
def opInA (a b : D) : M D := fun st => match dctOf b st with
  | some p => inDct false a p st
  | none => opIn a b st
def opNotInA (a b : D) : M D := fun st => match dctOf b st with
  | some p => inDct true a p st
  | none => opNotIn a b st
section
variable {K : PySem.W.Frag} {mg : Str → Option Value} {T : Tb} {Wx : WX} {X : Cx}
theorem dct_at {W : Wd} {st : Store} {H : Hp} {b : D} {y : V} {ks : List Key} {vs : List D} {k : Key} (ok : HeapOk ⟨K, mg, T⟩ W st H) (r : RV K W b y) (h : dctOf b st = some (ks, vs)) :
    ∃ a o, y = .ref a ∧ DGet H a (kV k) o ∧ (match dGet k ks vs with | some d => ∃ v, o = some v ∧ RV K W d v | none => o = none) := by
  cases r with
  | @dct a o kvs vs' hq r =>
    have h' : some (kvs.map (·.1), vs') = some (ks, vs) := h
    cases h'
    exact ⟨a, _, rfl, .inl ⟨kvs, k, .inr ⟨o, ok.fz _ _ hq⟩, rfl, rfl⟩, get_vals r⟩
  | @ref n a hn =>
    have h' : (match st[n]? with | some (.dct ks vs) => some (ks, vs) | _ => none) = some (ks, vs) := h
    cases e : st[n]? with
    | none => rw [e] at h'; cases h'
    | some ob =>
      rw [e] at h'
      cases ob with
      | dct ks' vs' =>
        cases h'
        obtain ⟨a', e1, e2, _, kvs, h1, h2, h3⟩ := ok.at_ e (.ref hn)
        cases e1
        subst h2
        exact ⟨a, _, rfl, .inl ⟨kvs, k, .inl h1, rfl, rfl⟩, get_vals h3⟩
      | _ => cases h'
  | _ => cases h
def rDIn : R2 := fun x y H Q => ∃ a o, y = .ref a ∧ DGet H a x o ∧ Q (.bl o.isSome) H
def rDNotIn : R2 := fun x y H Q => ∃ a o, y = .ref a ∧ DGet H a x o ∧ Q (.bl (!o.isSome)) H
theorem op_dIn (hu : X.A.units + 1 < cLine) : OpR X (compareOp .In) rDIn := by
  intro pins s σ H x y v u Q I rx ry h
  obtain ⟨a, o, rfl, g, q⟩ := h
  obtain rfl : u = Value.ref a := ry
  exact d_in hu I g rx fun s' I' => ⟨.bl o.isSome, H, I', rfl, q⟩
theorem op_dNotIn (hu : X.A.units + 1 < cLine) : OpR X (compareOp .NotIn) rDNotIn := by
  intro pins s σ H x y v u Q I rx ry h
  obtain ⟨a, o, rfl, g, q⟩ := h
  obtain rfl : u = Value.ref a := ry
  exact d_notIn hu I g rx fun s' I' => ⟨.bl (!o.isSome), H, I', rfl, q⟩
theorem xor_f (b : Bool) : (false ^^ b) = b := by cases b <;> rfl
theorem xor_t (b : Bool) : (true ^^ b) = !b := by cases b <;> rfl
theorem inDct_go {neg : Bool} {W : Wd} {σ : St} {a b : D} {x y : V} {ks : List Key} {vs : List D} {st : Store} {H : Hp} {Q : VK} (ok : HeapOk ⟨K, mg, T⟩ W st H) (ra : RV K W a x) (rb : RV K W b y) (h : dctOf b st = some (ks, vs))
    (p : Post ⟨K, mg, T⟩ Wx σ W (Wpost ⟨K, mg, T⟩ Q) (inDct neg a (ks, vs) st)) : ∃ p' o, y = .ref p' ∧ DGet H p' x o ∧ Q (.bl (neg ^^ o.isSome)) H := by
  unfold inDct at p
  cases e : keyOf a with
  | none => rw [e] at p; exact p.elim
  | some k =>
    rw [e] at p
    obtain ⟨a', o, e1, g, m⟩ := dct_at (k := k) ok rb h
    rw [← rv_key ra e] at g
    refine ⟨a', o, e1, g, ?_⟩
    have p' := p.here ok (.bl _)
    have eo : (dGet k ks vs).isSome = o.isSome := by
      cases z : dGet k ks vs with
      | none =>
        rw [z] at m
        rw [show o = none from m]
        rfl
      | some d =>
        rw [z] at m
        obtain ⟨v, ev, _⟩ := m
        rw [ev]
        rfl
    rw [eo] at p'
    exact p'
def rInA (K : PySem.W.Frag) : R2 := fun x y H Q => rInS2 K x y H Q ∨ rDIn x y H Q
def rNotInA (K : PySem.W.Frag) : R2 := fun x y H Q => rNotInS2 K x y H Q ∨ rDNotIn x y H Q
theorem op_inA (hu : X.A.units + 65 < cLine) : OpR X (compareOp .In) (rInA X.K) := (op_inS2 hu).or (op_dIn (by omega))
theorem op_notInA (hu : X.A.units + 65 < cLine) : OpR X (compareOp .NotIn) (rNotInA X.K) := (op_notInS2 hu).or (op_dNotIn (by omega))
theorem sv_inA : Serves K mg T Wx (rInA K) opInA := by
  intro W σ a b x y st H Q ok ra rb p
  unfold opInA at p
  cases e : dctOf b st with
  | none => rw [e] at p; exact .inl (sv_in W σ a b x y st H Q ok ra rb p)
  | some q =>
    rw [e] at p
    obtain ⟨p', o, e1, g, q⟩ := inDct_go ok ra rb e p
    rw [xor_f] at q
    exact .inr ⟨p', o, e1, g, q⟩
theorem sv_notInA : Serves K mg T Wx (rNotInA K) opNotInA := by
  intro W σ a b x y st H Q ok ra rb p
  unfold opNotInA at p
  cases e : dctOf b st with
  | none => rw [e] at p; exact .inl (sv_notIn W σ a b x y st H Q ok ra rb p)
  | some q =>
    rw [e] at p
    obtain ⟨p', o, e1, g, q⟩ := inDct_go ok ra rb e p
    rw [xor_t] at q
    exact .inr ⟨p', o, e1, g, q⟩

/-! ### built-ins -/
/-- a sequence's items -/
def seqOf (d : D) (st : Store) : Option (List D) := match d with
  | .tup ds => some ds
  | .lst ds => some ds
  | .frl ds => some ds
  | .ref n => match st[n]? with
    | some (.lst ds) => some ds
    | _ => none
  | _ => none
def lstOf (d : D) (st : Store) : Option (List D) := match d with
  | .lst ds => some ds
  | .frl ds => some ds
  | .ref n => match st[n]? with
    | some (.lst ds) => some ds
    | _ => none
  | _ => none
theorem lst_at {W : Wd} {st : Store} {H : Hp} {d : D} {v : V} {ds : List D} (ok : HeapOk ⟨K, mg, T⟩ W st H) (r : RV K W d v) (h : lstOf d st = some ds) : ∃ a xs, v = .ref a ∧ SqL K H a xs ∧ RVs K W ds xs := by
  cases r with
  | lst hq r =>
    cases (show some _ = some ds from h)
    exact ⟨_, _, rfl, .inl (.inl (ok.fz _ _ hq)), r⟩
  | frl hq r =>
    cases (show some _ = some ds from h)
    exact ⟨_, _, rfl, ok.sqL hq, r⟩
  | @ref n a hn =>
    have h' : (match st[n]? with | some (.lst ds) => some ds | _ => none) = some ds := h
    cases e : st[n]? with
    | none => rw [e] at h'; cases h'
    | some ob =>
      rw [e] at h'
      cases ob with
      | lst ds' =>
        cases h'
        obtain ⟨a', e1, e2, _, xs, h1, h2⟩ := ok.at_ e (.ref hn)
        cases e1
        exact ⟨a, xs, rfl, .inl (.inl h1), h2⟩
      | _ => cases h'
  | _ => cases h
theorem seq_at {W : Wd} {st : Store} {H : Hp} {d : D} {v : V} {ds : List D} (ok : HeapOk ⟨K, mg, T⟩ W st H) (r : RV K W d v) (h : seqOf d st = some ds) : ∃ a xs, v = .ref a ∧ (SqL K H a xs ∨ SqT K H a xs) ∧ RVs K W ds xs := by
  have old : lstOf d st = some ds → ∃ a xs, v = .ref a ∧ (SqL K H a xs ∨ SqT K H a xs) ∧ RVs K W ds xs := fun z => by
    obtain ⟨a, xs, h1, h2, h3⟩ := lst_at ok r z
    exact ⟨a, xs, h1, .inl h2, h3⟩
  cases d with
  | tup ds' =>
    cases r with
    | tup hq r =>
      cases (show some _ = some ds from h)
      exact ⟨_, _, rfl, .inr (ok.sqT hq), r⟩
  | lst ds' => exact old h
  | frl ds' => exact old h
  | ref n => exact old h
  | _ => cases h
def rLenA (K : PySem.W.Frag) : List V → Hp → VK → Prop := fun xs H Q => (∃ x n, xs = [x] ∧ LenV K x H n ∧ Q (.int n) H) ∨ ∃ a kvs, xs = [V.ref a] ∧ H a = some (.dK kvs) ∧ Q (.int kvs.length) H
theorem crOr {f : Value} {r r' : List V → Hp → VK → Prop} (h : CallR X f r) (h' : CallR X f r') : CallR X f (fun xs H Q => r xs H Q ∨ r' xs H Q) := by
  intro pins s σ H xs us Q I rv q
  rcases q with q | q
  · exact h pins s σ H xs us Q I rv q
  · exact h' pins s σ H xs us Q I rv q
theorem cr_lenA : CallR X (.builtin "len") (rLenA X.K) := crOr call_len call_lenD
def k1 (g : D → M D) (ds : List D) : M D := match ds with
  | [d] => g d
  | _ => bad
def k2 (g : D → D → M D) (ds : List D) : M D := match ds with
  | [d, e] => g d e
  | _ => bad
def Serves1 (K : PySem.W.Frag) (mg : Str → Option Value) (T : Tb) (Wx : WX) (r : List V → Hp → VK → Prop) (g : D → M D) : Prop :=
  ∀ (W : Wd) (σ : St) (d : D) (v : V) (st : Store) (H : Hp) (Q : VK), HeapOk ⟨K, mg, T⟩ W st H → RV K W d v → Post ⟨K, mg, T⟩ Wx σ W (Wpost ⟨K, mg, T⟩ Q) (g d st) → r [v] H Q
theorem sc1 {r : List V → Hp → VK → Prop} {g : D → M D} (h : Serves1 K mg T Wx r g) : ServesC K mg T Wx r (k1 g) := by
  intro W σ ds vs st H Q ok rs p
  cases rs with
  | nil => exact p.elim
  | cons a t =>
    cases t with
    | nil => exact h W σ _ _ st H Q ok a p
    | cons b u => exact False.elim p
theorem sc2 {r : List V → Hp → VK → Prop} {g : D → D → M D} (h : ∀ (W : Wd) (σ : St) (d e : D) (v u : V) (st : Store) (H : Hp) (Q : VK), HeapOk ⟨K, mg, T⟩ W st H → RV K W d v → RV K W e u → Post ⟨K, mg, T⟩ Wx σ W (Wpost ⟨K, mg, T⟩ Q) (g d e st) → r [v, u] H Q) : ServesC K mg T Wx r (k2 g) := by
  intro W σ ds vs st H Q ok rs p
  cases rs with
  | nil => exact p.elim
  | cons a t =>
    cases t with
    | nil => exact False.elim p
    | cons b u =>
      cases u with
      | nil => exact h W σ _ _ _ _ st H Q ok a b p
      | cons c w => exact False.elim p
def lenD (d : D) : M D := fun st => match d with
  | .str z => gd (decide (z.length ≤ sizeLine)) (ret (.int z.length)) st
  | .ref n => (match st[n]? with
    | some (.lst es) => .ok (.int es.length) st
    | some (.dct ks _) => .ok (.int ks.length) st
    | _ => .bad)
  | .tup es => .ok (.int es.length) st
  | .lst es => .ok (.int es.length) st
  | .frl es => .ok (.int es.length) st
  | _ => .bad
def kLen : List D → M D := k1 lenD
theorem sc_len : ServesC K mg T Wx (rLenA K) kLen := sc1 fun W σ d v st H Q ok r p => by
  have go : ∀ {a : Addr} {xs : List V} {es : List D}, (SqL K H a xs ∨ SqT K H a xs) → RVs K W es xs → Post ⟨K, mg, T⟩ Wx σ W (Wpost ⟨K, mg, T⟩ Q) (.ok (.int es.length) st) → rLenA K [.ref a] H Q := fun {a xs es} h2 h3 p => by
    refine .inl ⟨_, xs.length, rfl, ?_, ?_⟩
    · rcases h2 with h2 | h2
      · exact .inl ⟨xs, h2, rfl⟩
      · exact .inr ⟨xs, h2, rfl⟩
    · rw [← h3.length]
      exact p.here ok (.int _)
  cases r with
  | str z =>
    obtain ⟨c, p⟩ := Post.gd (show Post ⟨K, mg, T⟩ Wx σ W (Wpost ⟨K, mg, T⟩ Q) (gd _ _ st) from p)
    exact .inl ⟨_, z.length, rfl, ⟨of_decide_eq_true c, rfl⟩, p.here ok (.int _)⟩
  | tup hq rs => exact go (.inr (ok.sqT hq)) rs p
  | lst hq rs => exact go (.inl (.inl (.inl (ok.fz _ _ hq)))) rs p
  | frl hq rs => exact go (.inl (ok.sqL hq)) rs p
  | @ref n a hn =>
    have p' : Post ⟨K, mg, T⟩ Wx σ W (Wpost ⟨K, mg, T⟩ Q) (match st[n]? with | some (.lst es) => .ok (.int es.length) st | some (.dct ks _) => .ok (.int ks.length) st | _ => .bad) := p
    cases e : st[n]? with
    | none => rw [e] at p'; exact p'.elim
    | some ob =>
      rw [e] at p'
      obtain ⟨a', e1, e2, _, ob'⟩ := ok.at_ e (.ref hn)
      cases e1
      cases ob with
      | lst es =>
        obtain ⟨xs, h1, h2⟩ := ob'
        exact go (.inl (.inl (.inl h1))) h2 p'
      | dct ks us =>
        obtain ⟨kvs, h1, h2, h3⟩ := ob'
        refine .inr ⟨a, kvs, rfl, h1, ?_⟩
        have p2 := Post.here p' ok (.int _)
        rw [← h2, List.length_map] at p2
        exact p2
      | ins c fs => exact p'.elim
  | _ => exact False.elim p
def tupD (d : D) : M D := fun st => match d with
  | .tup es => .ok (.tup es) st
  | d => (match lstOf d st with
    | some es => .ok (.tup es) st
    | none => .bad)
def kTuple : List D → M D := k1 tupD
def rTupOf (K : PySem.W.Frag) : List V → Hp → VK → Prop := fun xs H Q => ∃ p ys, xs = [.ref p] ∧ ((SqL K H p ys ∧ ∀ l, H l = none → Q (.ref l) (upd H l (.tup ys))) ∨ (SqT K H p ys ∧ Q (.ref p) H))
theorem cr_tupOf : CallR X (.type "tuple") (rTupOf X.K) := call_tuple_of
theorem sc_tuple : ServesC K mg T Wx (rTupOf K) kTuple := sc1 fun W σ d v st H Q ok r p => by
  have p' : (∃ es, d = .tup es ∧ Post ⟨K, mg, T⟩ Wx σ W (Wpost ⟨K, mg, T⟩ Q) (.ok (.tup es) st)) ∨ ∃ es, lstOf d st = some es ∧ Post ⟨K, mg, T⟩ Wx σ W (Wpost ⟨K, mg, T⟩ Q) (.ok (.tup es) st) := by
    unfold tupD at p
    split at p
    · exact .inl ⟨_, rfl, p⟩
    · split at p
      · exact .inr ⟨_, by assumption, p⟩
      · exact False.elim p
  rcases p' with ⟨es, rfl, p⟩ | ⟨es, e, p⟩
  · cases r with
    | tup hq r => exact ⟨_, _, rfl, .inr ⟨ok.sqT hq, p.here ok (.tup hq r)⟩⟩
  · obtain ⟨a, xs, rfl, h2, h3⟩ := lst_at ok r e
    refine ⟨a, xs, rfl, .inl ⟨h2, fun l hl => ?_⟩⟩
    obtain ⟨W', x, ok', rv⟩ := ok.newTup hl h3
    exact p W' _ x ok' _ rv
/-- list(..): of a sequence, of a dict -/
def itemsOf (d : D) (st : Store) : Option (List D) := match seqOf d st with
  | some es => some es
  | none => (match dctOf d st with
    | some p => some (p.1.map keyD)
    | none => none)
def listD (d : D) : M D := fun st => match itemsOf d st with
  | some es => .ok (.lst es) st
  | none => .bad
def listDM (d : D) : M D := fun st => match itemsOf d st with
  | some es => new (.lst es) st
  | none => .bad
def kList : List D → M D := k1 listD
def kListM : List D → M D := k1 listDM
def rListOf (K : PySem.W.Frag) : List V → Hp → VK → Prop := fun xs H Q => (∃ p ys, xs = [.ref p] ∧ (SqL K H p ys ∨ SqT K H p ys) ∧ ∀ l, H l = none → Q (.ref l) (upd H l (.lst ys))) ∨
  ∃ (a : Addr) (kvs : List (Key × V)), xs = [.ref a] ∧ Rd H a (.dK kvs) ∧ ∀ p, H p = none → Q (.ref p) (upd H p (.lst (kvs.map fun kv => kV kv.1)))
theorem cr_listOf (hc : X.calm = true) : CallR X (.type "list") (rListOf X.K) := crOr call_list_of (call_listD hc)
theorem list_go {W : Wd} {d : D} {v : V} {st : Store} {H : Hp} {Q : VK} {es : List D} (ok : HeapOk ⟨K, mg, T⟩ W st H) (r : RV K W d v) (e : itemsOf d st = some es)
    (h : ∀ xs l, RVs K W es xs → H l = none → Q (.ref l) (upd H l (.lst xs))) : rListOf K [v] H Q := by
  unfold itemsOf at e
  cases e1 : seqOf d st with
  | some es' =>
    rw [e1] at e
    cases e
    obtain ⟨a, xs, rfl, h2, h3⟩ := seq_at ok r e1
    exact .inl ⟨a, xs, rfl, h2, fun l hl => h xs l h3 hl⟩
  | none =>
    rw [e1] at e
    cases e2 : dctOf d st with
    | none => rw [e2] at e; cases e
    | some q =>
      obtain ⟨ks, us⟩ := q
      rw [e2] at e
      cases e
      cases r with
      | @dct a o kvs vs' hq r =>
        cases (show some (kvs.map (·.1), vs') = some (ks, us) from e2)
        refine .inr ⟨a, kvs, rfl, .inr ⟨o, ok.fz _ _ hq⟩, fun p hp => ?_⟩
        have q := h _ p (rvs_keys (W := W) (kvs.map (·.1))) hp
        rw [List.map_map] at q
        exact q
      | @ref n a hn =>
        have e' : (match st[n]? with | some (.dct ks vs) => some (ks, vs) | _ => none) = some (ks, us) := e2
        cases e3 : st[n]? with
        | none => rw [e3] at e'; cases e'
        | some ob =>
          rw [e3] at e'
          cases ob with
          | dct ks' us' =>
            cases e'
            obtain ⟨a', e4, _, _, kvs, h1, h2, h3⟩ := ok.at_ e3 (.ref hn)
            cases e4
            subst h2
            refine .inr ⟨a, kvs, rfl, .inl h1, fun p hp => ?_⟩
            have q := h _ p (rvs_keys (W := W) (kvs.map (·.1))) hp
            rw [List.map_map] at q
            exact q
          | _ => cases e'
      | _ => cases e2
theorem sc_list : ServesC K mg T Wx (rListOf K) kList := sc1 fun W σ d v st H Q ok r p => by
  unfold listD at p
  cases e : itemsOf d st with
  | none => rw [e] at p; exact p.elim
  | some es =>
    rw [e] at p
    refine list_go ok r e fun xs l rv hl => ?_
    obtain ⟨W', x, ok', r'⟩ := ok.newLst hl rv
    exact p W' _ x ok' _ r'
theorem sc_listM : ServesC K mg T Wx (rListOf K) kListM := sc1 fun W σ d v st H Q ok r p => by
  unfold listDM at p
  cases e : itemsOf d st with
  | none => rw [e] at p; exact p.elim
  | some es =>
    rw [e] at p
    refine list_go ok r e fun xs l rv hl => ?_
    obtain ⟨W', x, ok', r'⟩ := ok.newOb (H' := upd H l (.lst xs)) (o := .lst es) hl (upd_keeps hl) (ok.fresh hl) fun W' x => ⟨xs, upd_same, rv.ext x⟩
    exact p W' _ x ok' _ r'

/-! ### ints, truths in lists -/
def ints? : List D → Option (List Int)
  | [] => some []
  | .int i :: ds => (ints? ds).map (i :: ·)
  | _ => none
def bls? : List D → Option (List Bool)
  | [] => some []
  | .bl b :: ds => (bls? ds).map (b :: ·)
  | _ => none
theorem ints?_eq : ∀ {ds : List D} {ns : List Int}, ints? ds = some ns → ds = ns.map D.int
  | [], ns, h => by cases h; rfl
  | .int i :: ds, ns, h => by
    have h' : (ints? ds).map (i :: ·) = some ns := h
    cases e : ints? ds with
    | none => rw [e] at h'; cases h'
    | some ms =>
      rw [e] at h'
      cases h'
      rw [ints?_eq e]
      rfl
  | .non :: _, _, h => by cases h
  | .bl _ :: _, _, h => by cases h
  | .str _ :: _, _, h => by cases h
  | .tup _ :: _, _, h => by cases h
  | .lst _ :: _, _, h => by cases h
  | .frl _ :: _, _, h => by cases h
  | .dct _ _ :: _, _, h => by cases h
  | .ref _ :: _, _, h => by cases h
  | .fnv :: _, _, h => by cases h
theorem ints?_map : ∀ ns : List Int, ints? (ns.map D.int) = some ns
  | [] => rfl
  | n :: ns => by
    show (ints? (ns.map D.int)).map (n :: ·) = _
    rw [ints?_map ns]
    rfl
theorem bls?_eq : ∀ {ds : List D} {ns : List Bool}, bls? ds = some ns → ds = ns.map D.bl
  | [], ns, h => by cases h; rfl
  | .bl i :: ds, ns, h => by
    have h' : (bls? ds).map (i :: ·) = some ns := h
    cases e : bls? ds with
    | none => rw [e] at h'; cases h'
    | some ms =>
      rw [e] at h'
      cases h'
      rw [bls?_eq e]
      rfl
  | .non :: _, _, h => by cases h
  | .int _ :: _, _, h => by cases h
  | .str _ :: _, _, h => by cases h
  | .tup _ :: _, _, h => by cases h
  | .lst _ :: _, _, h => by cases h
  | .frl _ :: _, _, h => by cases h
  | .dct _ _ :: _, _, h => by cases h
  | .ref _ :: _, _, h => by cases h
  | .fnv :: _, _, h => by cases h
theorem bls?_map : ∀ ns : List Bool, bls? (ns.map D.bl) = some ns
  | [] => rfl
  | n :: ns => by
    show (bls? (ns.map D.bl)).map (n :: ·) = _
    rw [bls?_map ns]
    rfl
/-- a list of ints, of truths -/
def intsOf (d : D) (st : Store) : Option (List Int) := (lstOf d st).bind ints?
def blsOf (d : D) (st : Store) : Option (List Bool) := (lstOf d st).bind bls?
theorem ints_at {W : Wd} {st : Store} {H : Hp} {d : D} {v : V} {ns : List Int} (ok : HeapOk ⟨K, mg, T⟩ W st H) (r : RV K W d v) (h : intsOf d st = some ns) : ∃ a, v = .ref a ∧ SqL K H a (ns.map V.int) := by
  unfold intsOf at h
  cases e : lstOf d st with
  | none => rw [e] at h; cases h
  | some ds =>
    rw [e] at h
    obtain ⟨a, xs, h1, h2, h3⟩ := lst_at ok r e
    have e2 := ints?_eq h
    subst e2
    rw [h3.ints] at h2
    exact ⟨a, h1, h2⟩
theorem bls_at {W : Wd} {st : Store} {H : Hp} {d : D} {v : V} {ns : List Bool} (ok : HeapOk ⟨K, mg, T⟩ W st H) (r : RV K W d v) (h : blsOf d st = some ns) : ∃ a, v = .ref a ∧ SqL K H a (ns.map V.bl) := by
  unfold blsOf at h
  cases e : lstOf d st with
  | none => rw [e] at h; cases h
  | some ds =>
    rw [e] at h
    obtain ⟨a, xs, h1, h2, h3⟩ := lst_at ok r e
    have e2 := bls?_eq h
    subst e2
    rw [rvs_bls h3] at h2
    exact ⟨a, h1, h2⟩
def onInts (f : List Int → M D) (d : D) : M D := fun st => match intsOf d st with
  | some ns => f ns st
  | none => .bad
def onBls (f : List Bool → M D) (d : D) : M D := fun st => match blsOf d st with
  | some ns => f ns st
  | none => .bad
def kAll : List D → M D := k1 (onBls fun bs => ret (.bl (bs.all id)))
def kAny : List D → M D := k1 (onBls fun bs => ret (.bl (bs.any id)))
def kSum : List D → M D := k1 (onInts fun ns => ret (.int ns.sum))
theorem onInts_go {W : Wd} {σ : St} {d : D} {v : V} {st : Store} {H : Hp} {Q : VK} {f : List Int → M D} (ok : HeapOk ⟨K, mg, T⟩ W st H) (r : RV K W d v) (p : Post ⟨K, mg, T⟩ Wx σ W (Wpost ⟨K, mg, T⟩ Q) (onInts f d st)) :
    ∃ a ns, v = .ref a ∧ SqL K H a (ns.map V.int) ∧ Post ⟨K, mg, T⟩ Wx σ W (Wpost ⟨K, mg, T⟩ Q) (f ns st) := by
  unfold onInts at p
  cases e : intsOf d st with
  | none => rw [e] at p; exact p.elim
  | some ns =>
    rw [e] at p
    obtain ⟨a, h1, h2⟩ := ints_at ok r e
    exact ⟨a, ns, h1, h2, p⟩
theorem onBls_go {W : Wd} {σ : St} {d : D} {v : V} {st : Store} {H : Hp} {Q : VK} {f : List Bool → M D} (ok : HeapOk ⟨K, mg, T⟩ W st H) (r : RV K W d v) (p : Post ⟨K, mg, T⟩ Wx σ W (Wpost ⟨K, mg, T⟩ Q) (onBls f d st)) :
    ∃ a ns, v = .ref a ∧ SqL K H a (ns.map V.bl) ∧ Post ⟨K, mg, T⟩ Wx σ W (Wpost ⟨K, mg, T⟩ Q) (f ns st) := by
  unfold onBls at p
  cases e : blsOf d st with
  | none => rw [e] at p; exact p.elim
  | some ns =>
    rw [e] at p
    obtain ⟨a, h1, h2⟩ := bls_at ok r e
    exact ⟨a, ns, h1, h2, p⟩
theorem sc_all : ServesC K mg T Wx (rAll K) kAll := sc1 fun W σ d v st H Q ok r p => by
  obtain ⟨a, bs, rfl, h2, p⟩ := onBls_go ok r p
  exact ⟨a, bs, rfl, h2, p.here ok (.bl _)⟩
theorem sc_any : ServesC K mg T Wx (rAny K) kAny := sc1 fun W σ d v st H Q ok r p => by
  obtain ⟨a, bs, rfl, h2, p⟩ := onBls_go ok r p
  exact ⟨a, bs, rfl, h2, p.here ok (.bl _)⟩
theorem sc_sum : ServesC K mg T Wx (rSum K) kSum := sc1 fun W σ d v st H Q ok r p => by
  obtain ⟨a, bs, rfl, h2, p⟩ := onInts_go ok r p
  exact ⟨a, bs, rfl, h2, p.here ok (.int _)⟩
/-- sorted(..) of ints, of a dict's ints -/
def sortI (ns : List Int) : List Int := ns.mergeSort (fun a b => decide (a ≤ b))
theorem sortI_of {ns ms : List Int} (h1 : ms.Perm ns) (h2 : ms.Pairwise (· ≤ ·)) : ms = sortI ns := by
  unfold sortI
  have e3 := List.pairwise_mergeSort (le := fun a b : Int => decide (a ≤ b)) (fun a b c h1 h2 => by simp only [decide_eq_true_eq] at *; omega) (fun a b => by simp only [Bool.or_eq_true, decide_eq_true_eq]; omega) ns
  refine List.Perm.eq_of_pairwise (le := (· ≤ ·)) (fun a b _ _ x y => by omega) h2 (e3.imp fun h => of_decide_eq_true h) (h1.trans (List.mergeSort_perm ns _).symm)
def kint? : List Key → Option (List Int)
  | [] => some []
  | .inl i :: ks => (kint? ks).map (i :: ·)
  | .inr _ :: _ => none
theorem kint?_eq : ∀ {ks : List Key} {ns : List Int}, kint? ks = some ns → ks = ns.map Sum.inl
  | [], ns, h => by cases h; rfl
  | .inl i :: ks, ns, h => by
    have h' : (kint? ks).map (i :: ·) = some ns := h
    cases e : kint? ks with
    | none => rw [e] at h'; cases h'
    | some ms =>
      rw [e] at h'
      cases h'
      rw [kint?_eq e]
      rfl
  | .inr _ :: _, _, h => by cases h
def sortedD (d : D) : M D := fun st => match intsOf d st with
  | some ns => .ok (.lst ((sortI ns).map D.int)) st
  | none => (match (dctOf d st).bind (fun p => kint? p.1) with
    | some ns => gd (decide (ns.length < 64)) (ret (.lst ((sortI ns).map D.int))) st
    | none => .bad)
def kSorted : List D → M D := k1 sortedD
def rSortA (K : PySem.W.Frag) : List V → Hp → VK → Prop := fun xs H Q => rSortedI K xs H Q ∨ ∃ (a : Addr) (kvs : List (Key × V)) (ks : List Int), xs = [.ref a] ∧ Rd H a (.dK kvs) ∧ kvs.map (·.1) = ks.map Sum.inl ∧ ks.length < 64 ∧
    ∀ (ys : List Int) (p : Addr), ys.Perm ks → ys.Pairwise (· ≤ ·) → H p = none → Q (.ref p) (upd H p (.lst (ys.map V.int)))
theorem cr_sortA (hc : X.calm = true) : CallR X (.builtin "sorted") (rSortA X.K) := crOr cr_sortedI (call_sortedDI hc)
theorem dct_rd {W : Wd} {st : Store} {H : Hp} {d : D} {v : V} {ks : List Key} {vs : List D} (ok : HeapOk ⟨K, mg, T⟩ W st H) (r : RV K W d v) (h : dctOf d st = some (ks, vs)) : ∃ a kvs, v = .ref a ∧ Rd H a (.dK kvs) ∧ kvs.map (·.1) = ks ∧ RVs K W vs (kvs.map (·.2)) := by
  cases r with
  | @dct a o kvs vs' hq r =>
    cases (show some (kvs.map (·.1), vs') = some (ks, vs) from h)
    exact ⟨a, kvs, rfl, .inr ⟨o, ok.fz _ _ hq⟩, rfl, r⟩
  | @ref n a hn =>
    have h' : (match st[n]? with | some (.dct ks vs) => some (ks, vs) | _ => none) = some (ks, vs) := h
    cases e : st[n]? with
    | none => rw [e] at h'; cases h'
    | some ob =>
      rw [e] at h'
      cases ob with
      | dct ks' vs' =>
        cases h'
        obtain ⟨a', e1, e2, _, kvs, h1, h2, h3⟩ := ok.at_ e (.ref hn)
        cases e1
        exact ⟨a, kvs, rfl, .inl h1, h2, h3⟩
      | _ => cases h'
  | _ => cases h
theorem sc_sorted : ServesC K mg T Wx (rSortA K) kSorted := sc1 fun W σ d v st H Q ok r p => by
  unfold sortedD at p
  cases e : intsOf d st with
  | some ns =>
    rw [e] at p
    obtain ⟨a, rfl, h2⟩ := ints_at ok r e
    refine .inl ⟨a, ns, rfl, h2, fun ms q h3 h4 hq => ?_⟩
    rw [sortI_of h3 h4]
    obtain ⟨W', x, ok', r'⟩ := ok.newLst hq (rvs_ints (W := W) (sortI ns))
    exact p W' _ x ok' _ r'
  | none =>
    rw [e] at p
    dsimp only at p
    cases e2 : dctOf d st with
    | none => rw [e2] at p; exact False.elim p
    | some q =>
      obtain ⟨ks, us⟩ := q
      rw [e2] at p
      have p' : Post ⟨K, mg, T⟩ Wx σ W (Wpost ⟨K, mg, T⟩ Q) (match kint? ks with | some ns => gd (decide (ns.length < 64)) (ret (.lst ((sortI ns).map D.int))) st | none => .bad) := p
      cases e3 : kint? ks with
      | none => rw [e3] at p'; exact p'.elim
      | some ns =>
        rw [e3] at p'
        obtain ⟨c, p'⟩ := Post.gd p'
        obtain ⟨a, kvs, rfl, h2, h3, h4⟩ := dct_rd ok r e2
        refine .inr ⟨a, kvs, ns, rfl, h2, h3.trans (kint?_eq e3), of_decide_eq_true c, fun ms q h5 h6 hq => ?_⟩
        rw [sortI_of h5 h6]
        obtain ⟨W', x, ok', r'⟩ := ok.newLst hq (rvs_ints (W := W) (sortI ns))
        exact p' W' _ x ok' _ r'
/-- int(..) -/
def intD : D → M D
  | .int i => ret (.int i)
  | .bl b => ret (.int (if b then 1 else 0))
  | .str a => match PySem.intText? a with
    | some n => gd (decide (a.length ≤ 640)) (ret (.int n))
    | none => bad
  | _ => bad
def kInt : List D → M D := k1 intD
def rIntA : List V → Hp → VK → Prop := fun xs H Q => ((∃ i, xs = [V.int i] ∧ Q (.int i) H) ∨ ∃ k, xs = [V.bl k] ∧ Q (.int (if k then 1 else 0)) H) ∨ ∃ a n, xs = [V.str a] ∧ PySem.intText? a = some n ∧ a.length ≤ 640 ∧ Q (.int n) H
theorem cr_intA : CallR X (.type "int") rIntA := crOr call_int1 call_int_str
theorem sc_int : ServesC K mg T Wx rIntA kInt := sc1 fun W σ d v st H Q ok r p => by
  cases r with
  | int i => exact .inl (.inl ⟨i, rfl, Post.here p ok (.int _)⟩)
  | bl b => exact .inl (.inr ⟨b, rfl, Post.here p ok (.int _)⟩)
  | str a =>
    have p' : Post ⟨K, mg, T⟩ Wx σ W (Wpost ⟨K, mg, T⟩ Q) ((match PySem.intText? a with | some n => gd (decide (a.length ≤ 640)) (ret (D.int n)) | none => bad : M D) st) := p
    cases e : PySem.intText? a with
    | none => rw [e] at p'; exact p'.elim
    | some n =>
      rw [e] at p'
      obtain ⟨c, p'⟩ := Post.gd p'
      exact .inr ⟨a, n, rfl, e, of_decide_eq_true c, p'.here ok (.int _)⟩
  | _ => exact p.elim
def absD : D → M D
  | .int i => ret (.int (if i < 0 then -i else i))
  | _ => bad
def kAbs : List D → M D := k1 absD
theorem sc_abs : ServesC K mg T Wx (fun xs H Q => ∃ i : Int, xs = [V.int i] ∧ Q (V.int (if i < 0 then -i else i)) H) kAbs := sc1 fun W σ d v st H Q ok r p => by
  cases r with
  | int i => exact ⟨i, rfl, Post.here p ok (.int _)⟩
  | _ => exact p.elim
def ii (f : Int → Int → M D) : D → D → M D
  | .int i, .int j => f i j
  | _, _ => bad
def kMax2 : List D → M D := k2 (ii fun i j => ret (.int (if j > i then j else i)))
def kMin2 : List D → M D := k2 (ii fun i j => ret (.int (if j < i then j else i)))
def kDivmod : List D → M D := k2 (ii fun i j => gd (decide (0 < j) && decide (j < 1073741824)) (ret (.tup [.int (i / j), .int (i % j)])))
theorem ii_go {W : Wd} {σ : St} {d e : D} {v u : V} {st : Store} {Q : VK} {f : Int → Int → M D} (r : RV K W d v) (r' : RV K W e u) (p : Post ⟨K, mg, T⟩ Wx σ W (Wpost ⟨K, mg, T⟩ Q) (ii f d e st)) : ∃ i j, v = .int i ∧ u = .int j ∧ Post ⟨K, mg, T⟩ Wx σ W (Wpost ⟨K, mg, T⟩ Q) (f i j st) := by
  cases r with
  | int i =>
    cases r' with
    | int j => exact ⟨i, j, rfl, rfl, p⟩
    | _ => exact p.elim
  | _ => cases r' <;> exact p.elim
theorem sc_max2 : ServesC K mg T Wx (fun xs H Q => ∃ i j, xs = [V.int i, .int j] ∧ Q (.int (if j > i then j else i)) H) kMax2 := sc2 fun W σ d e v u st H Q ok r r' p => by
  obtain ⟨i, j, rfl, rfl, p⟩ := ii_go r r' p
  exact ⟨i, j, rfl, Post.here p ok (.int _)⟩
theorem sc_min2 : ServesC K mg T Wx (fun xs H Q => ∃ i j, xs = [V.int i, .int j] ∧ Q (.int (if j < i then j else i)) H) kMin2 := sc2 fun W σ d e v u st H Q ok r r' p => by
  obtain ⟨i, j, rfl, rfl, p⟩ := ii_go r r' p
  exact ⟨i, j, rfl, Post.here p ok (.int _)⟩
theorem sc_divmod : ServesC K mg T Wx (fun xs H Q => ∃ i j, xs = [V.int i, .int j] ∧ CDiv i j ∧ ∀ p, H p = none → Q (.ref p) (upd H p (.tup [.int (i / j), .int (i % j)]))) kDivmod := sc2 fun W σ d e v u st H Q ok r r' p => by
  obtain ⟨i, j, rfl, rfl, p⟩ := ii_go r r' p
  obtain ⟨c, p⟩ := Post.gd p
  rw [Bool.and_eq_true] at c
  refine ⟨i, j, rfl, ⟨of_decide_eq_true c.1, of_decide_eq_true c.2⟩, fun q hq => ?_⟩
  obtain ⟨W', x, ok', r'⟩ := ok.newTup hq (.cons (.int (i / j)) (.cons (.int (i % j)) .nil))
  exact p W' _ x ok' _ r'
/-- str(i) -/
def strD : D → M D
  | .int i => gd (decide (i.natAbs.log2 < 1920)) (ret (.str (toString i)))
  | .str z => ret (.str z)
  | _ => bad
def kStr : List D → M D := k1 strD
def rStrA : List V → Hp → VK → Prop := fun xs H Q => (∃ i, xs = [V.int i] ∧ i.natAbs.log2 < 1920 ∧ Q (.str (toString i)) H) ∨ ∃ a, xs = [V.str a] ∧ Q (.str a) H
end
end Sv
/-! Sv10: defs and their calls; instances; repr; isinstance. -/
namespace Sv
open PySem L2 LamX
open PyProof.Rows hiding St

/-! ### a def's promise, under no repr -/
abbrev Quiet (A : Around) : Prop := A.guards = some []
structure FG (P : Program) (w : World) (K : PySem.W.Frag) (mg : Str → Option Value) (base : Heap) (k : Nat) (f : Addr) (fd : FuncData) (ps : List Str) (sp : Sp) : Prop where
  len : ∀ vs H Q E, sp vs H Q E → vs.length = ps.length
  run : ∀ (A : Around) (outer : List PySem.Env) (s : Shared) (H : Hp) (args : Args) (us : List Value) (vs : List V) (Q : VK) (E : XK), Room k A → Quiet A → Env0 P w K mg base A outer s H → BindsTo s fd args (ps.zip us) → Vals vs us → sp vs H Q E →
    codeAny (model P w) A (.call (.ref f) args) (CR (CX P w) outer P w H s Q E) s
theorem FG.mono {P : Program} {w : World} {K : PySem.W.Frag} {mg : Str → Option Value} {base : Heap} {j k : Nat} {f : Addr} {fd : FuncData} {ps : List Str} {sp : Sp} (F : FG P w K mg base j f fd ps sp) (h : j ≤ k) : FG P w K mg base k f fd ps sp :=
  ⟨F.len, fun A outer s H args us vs Q E hr => F.run A outer s H args us vs Q E (hr.mono h)⟩
/-- a body keeps the promise -/
theorem FunD.fg {P : Program} {w : World} {K : PySem.W.Frag} {mg : Str → Option Value} {base : Heap} {x qual : Str} {params : Arguments} {body : List Stmt} {scope : Scope} {dvs : List V} {kws : List (Str × V)} {f : Addr} {fd : FuncData} {N ps : List Str} {k : Nat} {sp : Sp}
    (F : FunD K x qual params body scope dvs kws f fd) (S : FnScope N ps scope) (len : ∀ vs H Q E, sp vs H Q E → vs.length = ps.length)
    (hbody : ∀ (A : Around) (outer : List PySem.Env) (s : Shared) (H : Hp) (vs : List V) (Q : VK) (E : XK), Room k (A.deeper (envOfC qual scope s.heap.objs.size f fd.code)) → Quiet A → sp vs H Q E →
      ∃ t, PSs (cxOf (CX P w) P w K mg base N qual scope f fd.code A outer s H E) body t ∧ t { nx := fun _ H' => Q .non H', rt := Q } (L2.start N vs) H) : FG P w K mg base (k + 1) f fd ps sp := by
  obtain ⟨oc, od, dV, kV, doc, pm, an, cdv, ct, osl, rfl, lk, hcd, _, _⟩ := F.ex
  refine ⟨len, fun A outer s H args us vs Q E hr hG e0 hb r hsp => ?_⟩
  have KX : K.In s.heap := e0.mod.kin.keeps fun b o e => (e0.bs b o e).1
  have lim : s.heap.NoLimit := e0.mod.nolimit.keeps fun b o e => (e0.bs b o e).1
  have kinds : ∀ y ∈ ps.zip us, scope.names.lookup y.1 = some .local ∨ (scope.names.lookup y.1 = some .cell ∧ ((cellsFrom (s.heap.objs.size + 1) scope.names []).lookup y.1).isSome = true) := fun ⟨n, v⟩ hy =>
    (S.par n (List.of_mem_zip hy).1).imp id fun q => ⟨q, PySem.W.cellsFrom_some _ _ _ (.inl q)⟩
  refine codeAny_call_function hr.depth (KX _ _ lk) rfl S.co S.gen rfl (PySem.W.codeRec_of KX hcd) (hb _ _ _ _ ?_)
  refine wpAny_newFunctionEnv_cells S.kind kinds fun env he s1 x => ?_
  subst he
  refine ⟨lim.keeps x.toInCall.keep, codeAny_func ?_⟩
  obtain ⟨t, ht, hq⟩ := hbody A outer s H vs Q E (hr.deeper _) hG hsp
  have I : Inv (cxOf (CX P w) P w K mg base N qual scope f cdv A outer s H E) [] (L2.start N vs) H s1 := inv_start S hr.hd e0 (len _ _ _ _ hsp) r x
  refine wpAny_mono (ht.run [] s1 (L2.start N vs) H _ I hq) (fun fl s' hs => ?_) fun e s' hs => hs
  have fin : ∀ {σ' : St} {H' : Hp} {v : V} {u : Value}, Inv (cxOf (CX P w) P w K mg base N qual scope f cdv A outer s H E) [] σ' H' s' → RelV v u → Q v H' → CE outer P w H s Q u s' :=
    fun {σ' H' v u} J rv q => ⟨v, H', J.os, J.bare, J.base, J.hok, rv, q⟩
  cases fl with
  | next =>
    obtain ⟨σ', H', J, q⟩ := hs
    exact fin (v := V.non) (u := Value.none) J rfl q
  | ret u =>
    obtain ⟨v, σ', H', J, rv, q⟩ := hs
    exact fin J rv q
  | brk =>
    obtain ⟨_, _, _, q⟩ := hs
    exact False.elim q
  | cont =>
    obtain ⟨_, _, _, q⟩ := hs
    exact False.elim q

/-! ### what a def means -/
abbrev Fn := List D → M D
/-- a body as a function of its arguments; n: all its names -/
def outF : SOut → Out D
  | .rt d st' => .ok d st'
  | .nx _ st' => .ok .non st'
  | .ex e _ st' => .ex e st'
  | _ => .bad
def fnM (p n : Nat) (body : SM) : Fn := fun ds st => match ds.length == p with
  | true => outF (body (ds.map some ++ List.replicate (n - ds.length) none) st)
  | false => .bad
def Arity (g : Fn) (p : Nat) : Prop := ∀ ds st, ds.length ≠ p → g ds st = .bad
theorem fnM_ar (p n : Nat) (body : SM) : Arity (fnM p n body) p := fun ds st h => by
  unfold fnM
  rw [beq_eq_false_iff_ne.mpr h]
/-- the fixed part alone -/
def Gd.plain (G : Gd) : Gd := ⟨G.K, G.mg, ⟨G.T.tabs, none, none⟩⟩
theorem ObR.plain {G : Gd} {W : Wd} {H : Hp} {a : Addr} : ∀ {o : Ob}, ObR G W H a o ↔ ObR G.plain W H a o
  | .lst _ => Iff.rfl
  | .dct _ _ => Iff.rfl
  | .ins _ _ => Iff.rfl
theorem HeapOk.toPlain {G : Gd} {W : Wd} {st : Store} {H : Hp} (h : HeapOk G W st H) : HeapOk G.plain W st H := ⟨h.fz, h.len, h.inj, fun n o q => let ⟨a, x, y, z⟩ := h.ob n o q; ⟨a, x, y, ObR.plain.mp z⟩, h.tab, h.pr, h.nt⟩
theorem HeapOk.ofPlain {G : Gd} {W : Wd} {st : Store} {H : Hp} (h : HeapOk G.plain W st H) : HeapOk G W st H := ⟨h.fz, h.len, h.inj, fun n o q => let ⟨a, x, y, z⟩ := h.ob n o q; ⟨a, x, y, ObR.plain.mpr z⟩, h.tab, h.pr, h.nt⟩
/-- what is wanted of an outcome behind a call -/
def PostF (G : Gd) (W : Wd) (Q : VK) (E : XK) : Out D → Prop
  | .ok d st => ∀ W' H' v, Ext W W' → HeapOk G W' st H' → RV G.K W' d v → Q v H'
  | .ex e st => ∀ W' cls d H', Ext W W' → HeapOk G W' st H' → ExR G W' H' e cls d → E cls d H'
  | .bad => False
theorem Post.f {G : Gd} {Wx : WX} {σ : St} {W : Wd} {Q : VK} : ∀ {o : Out D}, Post G Wx σ W (Wpost G Q) o → PostF G.plain W Q (fun c d H => Wx c d σ H) o
  | .ok _ _, h => fun W' H' v e k r => h W' H' e k.ofPlain v r
  | .ex _ _, h => fun W' cls d H' e k x => h W' cls d H' e k.ofPlain x
  | .bad, h => h
/-- the promise: n parameters, the meaning f -/
def spF (G : Gd) (n : Nat) (f : Fn) : Sp := fun vs H Q E => vs.length = n ∧ ∃ W ds st, HeapOk G.plain W st H ∧ RVs G.K W ds vs ∧ PostF G.plain W Q E (f ds st)
structure FD (P : Program) (w : World) (G : Gd) (base : Heap) (k : Nat) (f : Addr) (fd : FuncData) (ps : List Str) (g : Fn) : Prop where
  fg : FG P w G.K G.mg base k f fd ps (spF G ps.length g)
  ar : Arity g ps.length
theorem FD.mono {P : Program} {w : World} {G : Gd} {base : Heap} {j k : Nat} {f : Addr} {fd : FuncData} {ps : List Str} {g : Fn} (F : FD P w G base j f fd ps g) (h : j ≤ k) : FD P w G base k f fd ps g := ⟨F.fg.mono h, F.ar⟩
theorem rel_start {G : Gd} (hG : G.T.lo = none ∧ G.T.fa = none) {W : Wd} {N : List Str} {ds : List D} {vs : List V} {st : Store} {H : Hp} (ok : HeapOk G W st H) (r : RVs G.K W ds vs) (hl : ds.length ≤ N.length) : Rel G W (L2.start N vs) H (ds.map some ++ List.replicate (N.length - ds.length) none) st := by
  have l := r.length
  refine ⟨⟨by unfold L2.start; rw [List.length_append, List.length_append, List.length_map, List.length_map, List.length_replicate, List.length_replicate, l], fun i d h => ?_, fun B q => (by rw [hG.1] at q; cases q), fun a q => (by rw [hG.2] at q; cases q)⟩, ok⟩
  by_cases hi : i < ds.length
  · rw [List.getElem?_append_left (by rw [List.length_map]; exact hi), List.getElem?_map] at h
    cases e : ds[i]? with
    | none => rw [e] at h; cases h
    | some d' =>
      rw [e] at h
      cases h
      obtain ⟨v, e1, e2⟩ := r.get e
      refine ⟨v, ?_, .v e2⟩
      unfold L2.start
      rw [List.getElem?_append_left (by rw [List.length_map]; omega), List.getElem?_map, e1]
      rfl
  · rw [List.getElem?_append_right (by rw [List.length_map]; omega), List.getElem?_replicate] at h
    split at h <;> cases h
/-- THE RULE for a def: its body's derivation -/
theorem fd_of {P : Program} {w : World} {K : PySem.W.Frag} {mg : Str → Option Value} {base : Heap} {tabs : List (Addr × Str)} {x qual : Str} {params : Arguments} {body : List Stmt} {scope : Scope} {dvs : List V} {kws : List (Str × V)} {f : Addr} {fd : FuncData} {N ps : List Str} {k : Nat} {sf : SM}
    (F : FunD K x qual params body scope dvs kws f fd) (S : FnScope N ps scope) (hN : ps.length ≤ N.length)
    (hb : ∀ (A : Around) (outer : List PySem.Env) (s : Shared) (H : Hp) (E : XK), Room k (A.deeper (envOfC qual scope s.heap.objs.size f fd.code)) → Quiet A → SB (cxOf (CX P w) P w K mg base N qual scope f fd.code A outer s H E) ⟨tabs, none, none⟩ (fun c d _ H => E c d H) body sf) :
    FD P w ⟨K, mg, ⟨tabs, none, none⟩⟩ base (k + 1) f fd ps (fnM ps.length N.length sf) := by
  refine ⟨?_, fnM_ar _ _ _⟩
  refine FunD.fg F S (fun vs H Q E h => h.1) fun A outer s H vs Q E hr hG hsp => ?_
  obtain ⟨hl, W, ds, st, ok, r, p⟩ := hsp
  have h := hb A outer s H E hr hG
  refine ⟨_, h.pss, W, ds.map some ++ List.replicate (N.length - ds.length) none, st, rel_start ⟨rfl, rfl⟩ ok r (by rw [r.length, hl]; exact hN), ?_⟩
  unfold fnM at p
  rw [show (ds.length == ps.length) = true from by rw [r.length, hl]; exact beq_self_eq_true _] at p
  dsimp only at p
  unfold outF at p
  cases e : sf (ds.map some ++ List.replicate (N.length - ds.length) none) st with
  | nx env st' =>
    rw [e] at p
    exact fun W' σ H' x rl => p W' H' .non x rl.hp .non
  | rt d st' =>
    rw [e] at p
    exact fun W' H' v x k rv => p W' H' v x k rv
  | ex e' env st' =>
    rw [e] at p
    exact fun W' σ H' cls d x rl xr => p W' cls d H' x rl.hp xr
  | bk env st' => rw [e] at p; exact p.elim
  | ct env st' => rw [e] at p; exact p.elim
  | bad => rw [e] at p; exact p.elim

/-! ### calls -/
section
variable {X : Cx} {T : Tb} {Wx : WX} {k : Nat} {f C : Addr} {fd : FuncData} {ps ks : List Str} {sp : Sp} {g : Fn} {dvs : List V} {ds : List Value} {x m : Str} {p pos apos : Pos} {e o : Expr} {es : List Expr} {ta : TE} {t tk : TA}
/-- a call's reading: the exception is wanted at the slots as they stand -/
def tCl (sp : Sp) (Wx : WX) (dvs : List V) (t : TA) : TE := fun σ H Q => t σ H fun vs H1 => sp (vs ++ dvs) H1 Q fun c d H2 => Wx c d σ H2
theorem fg_run {pins : List (Addr × Obj)} {σ : St} {H : Hp} {s : Shared} {Q : VK} {us : List Value} {vs : List V} (F : FG X.prog X.w X.K X.mg X.base k f fd ps sp) (hr : Room k X.A) (hG : Quiet X.A) (hb : Binds X.K fd ps ds) (hd : Vals dvs ds) (tk : Takes X Wx)
    (I : Inv X pins σ H s) (r : Vals vs us) (h : sp (vs ++ dvs) H Q fun c d H2 => Wx c d σ H2) : wpAny (model X.prog X.w) X.A (call (.ref f) us) (EP X pins σ Q) X.xe s := by
  have r2 : Vals (vs ++ dvs) (us ++ ds) := r.append hd
  have hl : (us ++ ds).length = ps.length := by rw [← r2.length]; exact F.len _ _ _ _ h
  refine wpAny_call (codeAny_mono (F.run X.A X.stack s H ⟨us, []⟩ (us ++ ds) (vs ++ dvs) Q _ hr hG I.env0 (hb s us I.kIn hl) r2 h) fun r s' hq => ?_)
  cases r with
  | error e => exact tk e s' (XE.of_call I (fun cls d H' z => z) hq)
  | ok fl =>
    cases fl with
    | ret u => exact I.after hq
    | _ => exact False.elim hq
theorem fg_call (F : FG X.prog X.w X.K X.mg X.base k f fd ps sp) (hr : Room k X.A) (hG : Quiet X.A) (hg : Gl X x) (hm : X.mg x = some (.ref f)) (hk : PySem.W.keepIn X.K (.ref f) = true) (hb : Binds X.K fd ps ds) (hd : Vals dvs ds) (tk : Takes X Wx)
    (ha : PA X (e :: es) t) (hdb : (x == ("__debug__" : Str)) = false := by decide) (he : starEach (e :: es) X.env = (false, eval e X.env) :: starEach es X.env := by rfl) (hpl : (backTo pos (starEach es X.env)).any (·.1) = false := by rfl) :
    PE X (.Call (.Name x p) (e :: es) [] pos) (tCl sp Wx dvs t) := by
  refine ⟨fun pins s σ H Q I h => ?_⟩
  refine wpAny_Call_Name_kw (ld_glob I hg hm ?_ hdb)
  refine PySem.W.callWith_K (h₀ := X.base) I.ok.mod.kin hk (thn (ha.run pos pins s σ H _ I h) fun us s1 ⟨vs, H1, I1, r, q⟩ => ⟨I1.kIn, ?_⟩) he hpl
  exact fg_run F hr hG hb hd tk I1 r q
theorem fg_call0 (F : FG X.prog X.w X.K X.mg X.base k f fd ps sp) (hr : Room k X.A) (hG : Quiet X.A) (hg : Gl X x) (hm : X.mg x = some (.ref f)) (hk : PySem.W.keepIn X.K (.ref f) = true) (hb : Binds X.K fd ps ds) (hd : Vals dvs ds) (tk : Takes X Wx)
    (hdb : (x == ("__debug__" : Str)) = false := by decide) : PE X (.Call (.Name x p) [] [] pos) (tCl sp Wx dvs tNil) := by
  refine ⟨fun pins s σ H Q I h => ?_⟩
  refine wpAny_Call_Name_kw (ld_glob I hg hm ?_ hdb)
  exact PySem.W.callWith_K0 I.kIn hk (fg_run (us := []) F hr hG hb hd tk I .nil h)
def tMth (C : Addr) (m : Str) (sp : Sp) (Wx : WX) (dvs : List V) (ta : TE) (t : TA) : TE := fun σ H Q => ta σ H fun x H1 => ∃ a dx fs, x = .ref a ∧ H1 a = some (.ins C dx fs) ∧ fs.lookup m = none ∧
  t σ H1 fun vs H2 => sp (x :: (vs ++ dvs)) H2 Q fun c d H3 => Wx c d σ H3
theorem fg_meth {pl : Sem Bool} (he : PE X o ta) (c : Cls X.K C) (hm : Meth X.K C m f) (F : FG X.prog X.w X.K X.mg X.base k f fd ps sp) (hr : Room k X.A) (hG : Quiet X.A) (hb : Binds X.K fd ps ds) (hd : Vals dvs ds) (tk : Takes X Wx) (ha : PA X (e :: es) t)
    (hst : starEach (e :: es) X.env = (false, eval e X.env) :: starEach es X.env := by rfl) (hpl : (backTo pos (starEach es X.env)).any (·.1) = false := by rfl)
    (ht : eval (.Call (.Attribute o m apos) (e :: es) [] pos) X.env = (do
      let ov ← eval o X.env
      standAt apos.atName
      let (f, first) ← holding [ov] (getMethod ov m pl)
      callWith pos f first (backTo pos (starEach (e :: es) X.env)) (backToKw pos (keywordEach [] X.env))) := by rfl) :
    PE X (.Call (.Attribute o m apos) (e :: es) [] pos) (tMth C m sp Wx dvs ta t) := by
  refine ⟨fun pins s σ H Q I h => ?_⟩
  refine PySem.W.methodCall_KW (pl := pl) (thn (he.run pins s σ H _ I h) fun u s1 ⟨x, H1, I1, rx, a, dx, fs, ex, ea, l, q⟩ => ?_) ht
  subst ex
  obtain rfl : u = Value.ref a := rx
  refine getmeth_ok I1 ea c hm l ?_
  refine PySem.W.callWith_K (first := [.ref a]) (h₀ := X.base) I.ok.mod.kin hm.kp (thn (ha.run pos pins s1 σ H1 _ I1 q) fun us s2 ⟨vs, H2, I2, r, q2⟩ => ⟨I2.kIn, ?_⟩) hst hpl
  exact fg_run (us := .ref a :: us) (vs := .ref a :: vs) F hr hG hb hd tk I2 (.cons rfl r) q2
theorem fg_meth0 {pl : Sem Bool} (he : PE X o ta) (c : Cls X.K C) (hm : Meth X.K C m f) (F : FG X.prog X.w X.K X.mg X.base k f fd ps sp) (hr : Room k X.A) (hG : Quiet X.A) (hb : Binds X.K fd ps ds) (hd : Vals dvs ds) (tk : Takes X Wx)
    (ht : eval (.Call (.Attribute o m apos) [] [] pos) X.env = (do
      let ov ← eval o X.env
      standAt apos.atName
      let (f, first) ← holding [ov] (getMethod ov m pl)
      callWith pos f first (backTo pos (starEach [] X.env)) (backToKw pos (keywordEach [] X.env))) := by rfl) :
    PE X (.Call (.Attribute o m apos) [] [] pos) (tMth C m sp Wx dvs ta tNil) := by
  refine ⟨fun pins s σ H Q I h => ?_⟩
  refine PySem.W.methodCall_KW (pl := pl) (thn (he.run pins s σ H _ I h) fun u s1 ⟨x, H1, I1, rx, a, dx, fs, ex, ea, l, q⟩ => ?_) ht
  subst ex
  obtain rfl : u = Value.ref a := rx
  refine getmeth_ok I1 ea c hm l ?_
  exact PySem.W.callWith_K0 (first := [.ref a]) I1.kIn hm.kp (fg_run (us := [.ref a]) (vs := [.ref a]) F hr hG hb hd tk I1 (.cons rfl .nil) q)
theorem make_quiet {A : Around} {C : Addr} {us : List Value} {kw : List (Str × Value)} (h : Quiet A) : Quiet (A.under (.builtin "type.__call__" ⟨.ref C :: us, kw⟩)) := by
  show (A.under _).guards = some []
  simp [Around.under, Code.guards, Code.isGuard, guardIds, pushGuards, show A.guards = some [] from h]
def tMk (C : Addr) (sp : Sp) (Wx : WX) (dvs : List V) (t : TA) : TE := fun σ H Q => t σ H fun vs H1 => ∀ x dx, H1 x = none → H1 dx = none → dx ≠ x →
  sp (.ref x :: (vs ++ dvs)) (upd (upd H1 dx (.own x)) x (.ins C dx [])) (fun v H2 => v = .non ∧ Q (.ref x) H2) fun c d H3 => Wx c d σ H3
theorem fg_made {pins : List (Addr × Obj)} {σ : St} {H : Hp} {s : Shared} {Q : VK} {us : List Value} {vs : List V} (M : Mk X.K C f) (F : FG X.prog X.w X.K X.mg X.base k f fd ps sp) (hr : Room (k + 1) X.A) (hG : Quiet X.A) (hb : Binds X.K fd ps ds) (hd : Vals dvs ds)
    (tk : Takes X Wx) (I : Inv X pins σ H s) (r : Vals vs us)
    (h : ∀ x dx, H x = none → H dx = none → dx ≠ x → sp (.ref x :: (vs ++ dvs)) (upd (upd H dx (.own x)) x (.ins C dx [])) (fun v H2 => v = .non ∧ Q (.ref x) H2) fun c d H3 => Wx c d σ H3) :
    wpAny (model X.prog X.w) X.A (call (.ref C) us) (EP X pins σ Q) X.xe s := by
  have hq := h (s.heap.objs.size + 1) s.heap.objs.size (I.hok.fresh (Nat.le_succ _)) (I.hok.fresh (Nat.le_refl _)) (Nat.ne_of_lt (Nat.lt_succ_self _))
  have I2 := Inv.made (C := C) I
  have r2 : Vals (V.ref (s.heap.objs.size + 1) :: (vs ++ dvs)) (Value.ref (s.heap.objs.size + 1) :: (us ++ ds)) := .cons rfl (r.append hd)
  have hl : (Value.ref (s.heap.objs.size + 1) :: us ++ ds).length = ps.length := by
    have e := r2.length
    rw [F.len _ _ _ _ hq] at e
    exact e.symm
  refine wpAny_call (make_map (f := f) I.kIn M.makes M.init (beq_iff_eq.mp M.fn) (codeAny_mono (F.run _ X.stack _ _ ⟨Value.ref (s.heap.objs.size + 1) :: us, []⟩ (Value.ref (s.heap.objs.size + 1) :: (us ++ ds)) _ _ _ (hr.make C us []) (make_quiet hG)
    (I2.env0.make C us []) (hb _ (Value.ref (s.heap.objs.size + 1) :: us) I2.kIn hl) r2 hq) fun r s' hq' => ?_))
  cases r with
  | error e => exact tk e s' (XE.of_call I2 (fun cls d H' z => z) hq')
  | ok fl =>
    cases fl with
    | ret u =>
      obtain ⟨v, H', I3, rv, ev, q3⟩ := I2.after hq'
      subst ev
      exact ⟨rv, ⟨V.ref (s.heap.objs.size + 1), H', I3, rfl, q3⟩⟩
    | _ => exact False.elim hq'
theorem fg_make (M : Mk X.K C f) (F : FG X.prog X.w X.K X.mg X.base k f fd ps sp) (hr : Room (k + 1) X.A) (hG : Quiet X.A) (hg : Gl X x) (hm : X.mg x = some (.ref C)) (hb : Binds X.K fd ps ds) (hd : Vals dvs ds) (tk : Takes X Wx)
    (ha : PA X (e :: es) t) (hdb : (x == ("__debug__" : Str)) = false := by decide) (he : starEach (e :: es) X.env = (false, eval e X.env) :: starEach es X.env := by rfl) (hpl : (backTo pos (starEach es X.env)).any (·.1) = false := by rfl) :
    PE X (.Call (.Name x p) (e :: es) [] pos) (tMk C sp Wx dvs t) := by
  refine ⟨fun pins s σ H Q I h => ?_⟩
  refine wpAny_Call_Name_kw (ld_glob I hg hm ?_ hdb)
  refine PySem.W.callWith_K (h₀ := X.base) I.ok.mod.kin M.kp (thn (ha.run pos pins s σ H _ I h) fun us s1 ⟨vs, H1, I1, r, q⟩ => ⟨I1.kIn, ?_⟩) he hpl
  exact fg_made M F hr hG hb hd tk I1 r q

/-! ### their meanings -/
variable {es' : List Expr} {fa : Env → M (List D)} {fo fv : Env → M D}
/-- the defaults as values that lie nowhere -/
def Bare (dd : List D) (dvs : List V) : Prop := ∀ (K : PySem.W.Frag) (W : Wd), RVs K W dd dvs
theorem bare_nil : Bare [] [] := fun _ _ => .nil
theorem bare_int {i : Int} {dd : List D} {dvs : List V} (h : Bare dd dvs) : Bare (.int i :: dd) (.int i :: dvs) := fun K W => .cons (.int i) (h K W)
theorem bare_bl {i : Bool} {dd : List D} {dvs : List V} (h : Bare dd dvs) : Bare (.bl i :: dd) (.bl i :: dvs) := fun K W => .cons (.bl i) (h K W)
theorem bare_non {dd : List D} {dvs : List V} (h : Bare dd dvs) : Bare (.non :: dd) (.non :: dvs) := fun K W => .cons .non (h K W)
theorem bare_str {i : Str} {dd : List D} {dvs : List V} (h : Bare dd dvs) : Bare (.str i :: dd) (.str i :: dvs) := fun K W => .cons (.str i) (h K W)
def sCl (g : Fn) (dd : List D) (fa : Env → M (List D)) : Env → M D := fun env => bnd (fa env) fun ds => g (ds ++ dd)
theorem cl_go {σ : St} {H : Hp} {Q : VK} {dd : List D} {g : Fn} (hB : Bare dd dvs) (ha : Arity g ps.length) (h : tE (Gof X T) Wx (sCl g dd fa) σ H Q) : tCl (spF (Gof X T) ps.length g) Wx dvs (tA (Gof X T) Wx fa) σ H Q := by
  obtain ⟨W, env, st, rl, h⟩ := h
  refine tA_bind (k := fun _ ds => g (ds ++ dd)) rl h fun W1 ds st1 H1 vs e1 r1 r p => ?_
  have r2 : RVs X.K W1 (ds ++ dd) (vs ++ dvs) := r.append (hB _ _)
  have hl : (ds ++ dd).length = ps.length := by
    by_cases z : (ds ++ dd).length = ps.length
    · exact z
    · rw [ha _ _ z] at p
      exact p.elim
  exact ⟨by rw [← r2.length, hl], W1, ds ++ dd, st1, r1.hp.toPlain, r2, p.f⟩
abbrev FX (X : Cx) (T : Tb) (k : Nat) (f : Addr) (fd : FuncData) (ps : List Str) (g : Fn) : Prop := FD X.prog X.w (Gof X T) X.base k f fd ps g
theorem se_call {dd : List D} (F : FX X T k f fd ps g) (hr : Room k X.A) (hG : Quiet X.A) (hg : Gl X x) (hm : X.mg x = some (.ref f)) (hk : PySem.W.keepIn X.K (.ref f) = true) (hB : Bare dd dvs) (hb : Binds X.K fd ps ds) (hd : Vals dvs ds) (tk : Takes X Wx)
    (ha : SA X T Wx (e :: es) fa) (hdb : (x == ("__debug__" : Str)) = false := by decide) (he : starEach (e :: es) X.env = (false, eval e X.env) :: starEach es X.env := by rfl) (hpl : (backTo pos (starEach es X.env)).any (·.1) = false := by rfl) :
    SE X T Wx (.Call (.Name x p) (e :: es) [] pos) (sCl g dd fa) :=
  ⟨(fg_call F.fg hr hG hg hm hk hb hd tk ha.pa hdb he hpl).imp fun _ _ _ h => cl_go hB F.ar h⟩
theorem tNil_of {σ : St} {H : Hp} {Q : VK} {dd : List D} {g : Fn} (hB : Bare dd dvs) (ha : Arity g ps.length) (h : tE (Gof X T) Wx (sCl g dd aNil) σ H Q) : tCl (spF (Gof X T) ps.length g) Wx dvs tNil σ H Q := by
  obtain ⟨W, env, st, rl, h⟩ := h
  have r2 : RVs X.K W ([] ++ dd) ([] ++ dvs) := RVs.append .nil (hB _ _)
  have h' : Post (Gof X T) Wx σ W (Wpost (Gof X T) Q) (g ([] ++ dd) st) := h
  have hl : ([] ++ dd : List D).length = ps.length := by
    by_cases z : ([] ++ dd : List D).length = ps.length
    · exact z
    · rw [ha _ _ z] at h'
      exact h'.elim
  exact ⟨by rw [← r2.length, hl], W, [] ++ dd, st, rl.hp.toPlain, r2, h'.f⟩
theorem se_call0 {dd : List D} (F : FX X T k f fd ps g) (hr : Room k X.A) (hG : Quiet X.A) (hg : Gl X x) (hm : X.mg x = some (.ref f)) (hk : PySem.W.keepIn X.K (.ref f) = true) (hB : Bare dd dvs) (hb : Binds X.K fd ps ds) (hd : Vals dvs ds) (tk : Takes X Wx)
    (hdb : (x == ("__debug__" : Str)) = false := by decide) : SE X T Wx (.Call (.Name x p) [] [] pos) (sCl g dd aNil) :=
  ⟨(fg_call0 F.fg hr hG hg hm hk hb hd tk hdb).imp fun _ _ _ h => tNil_of hB F.ar h⟩

/-! ### instances -/
def sMth (c : Str) (m : Str) (g : Fn) (dd : List D) (fo : Env → M D) (fa : Env → M (List D)) : Env → M D := fun env => bnd (fo env) fun d => fun st => match d with
  | .ref n => (match st[n]? with
    | some (.ins c' fs) => gd (c' == c && (fs.lookup m).isNone) (bnd (fa env) fun ds => g (.ref n :: (ds ++ dd))) st
    | _ => .bad)
  | _ => .bad
theorem ins_at {G : Gd} {W : Wd} {st : Store} {H : Hp} {n : Nat} {c : Str} {fs : List (Str × D)} {v : V} (ok : HeapOk G W st H) (h : st[n]? = some (.ins c fs)) (r : RV G.K W (.ref n) v) :
    ∃ a C dx gs, v = .ref a ∧ W.m[n]? = some a ∧ G.mg c = some (.ref C) ∧ H a = some (.ins C dx gs) ∧ RFs G.K W fs gs := by
  obtain ⟨a, e1, e2, _, C, dx, gs, h1, h2, h3⟩ := ok.at_ h r
  exact ⟨a, C, dx, gs, e1, e2, h1, h2, h3⟩
theorem mth_go {c : Str} {dd : List D} {σ : St} {H : Hp} {Q : VK} {t : TA} (hc : X.mg c = some (.ref C)) (hB : Bare dd dvs) (ha : Arity g ps.length) (ht : ∀ σ H Q, tA (Gof X T) Wx fa σ H Q → t σ H Q) (h : tE (Gof X T) Wx (sMth c m g dd fo fa) σ H Q) :
    tMth C m (spF (Gof X T) ps.length g) Wx dvs (tE (Gof X T) Wx fo) t σ H Q := by
  obtain ⟨W, env, st, rl, h⟩ := h
  refine tE_bind (k := fun env d st => match d with
    | .ref n => (match st[n]? with
      | some (.ins c' fs) => gd (c' == c && (fs.lookup m).isNone) (bnd (fa env) fun ds => g (.ref n :: (ds ++ dd))) st
      | _ => .bad)
    | _ => .bad) rl h fun W1 d st1 H1 v e1 r1 rv p => ?_
  match d, rv, p with
  | .ref n, rv, p =>
    dsimp only at p
    cases e : st1[n]? with
    | none => rw [e] at p; exact p.elim
    | some ob =>
      rw [e] at p
      cases ob with
      | ins c' fs =>
        obtain ⟨q, pp⟩ := Post.gd p
        rw [Bool.and_eq_true] at q
        have ec := beq_iff_eq.mp q.1
        subst ec
        obtain ⟨a, C', dx, gs, e2, e3, e4, e5, e6⟩ := ins_at r1.hp e rv
        rw [show X.mg c' = some (.ref C') from e4] at hc
        cases hc
        refine ⟨a, dx, gs, e2, e5, (e6.look).2 (Option.isNone_iff_eq_none.mp q.2), ht _ _ _ ?_⟩
        refine tA_bind (k := fun _ ds => g (.ref n :: (ds ++ dd))) r1 pp fun W2 ds st2 H2 vs e7 r2 r p2 => ?_
        have r3 : RVs X.K W2 (.ref n :: (ds ++ dd)) (v :: (vs ++ dvs)) := .cons (rv.ext e7) (r.append (hB _ _))
        have hl : (.ref n :: (ds ++ dd)).length = ps.length := by
          by_cases z : (D.ref n :: (ds ++ dd)).length = ps.length
          · exact z
          · rw [ha _ _ z] at p2
            exact p2.elim
        exact ⟨by rw [← r3.length, hl], W2, _, st2, r2.hp.toPlain, r3, p2.f⟩
      | _ => exact p.elim
  | .non, _, p => exact p.elim
  | .bl _, _, p => exact p.elim
  | .int _, _, p => exact p.elim
  | .str _, _, p => exact p.elim
  | .tup _, _, p => exact p.elim
  | .lst _, _, p => exact p.elim
  | .frl _, _, p => exact p.elim
  | .dct _ _, _, p => exact p.elim
  | .fnv, _, p => exact p.elim
theorem nil_arg {σ : St} {H : Hp} {Q : List V → Hp → Prop} (h : tA (Gof X T) Wx aNil σ H Q) : tNil σ H Q := by
  obtain ⟨W, env, st, rl, h⟩ := h
  exact h W H (Ext.refl W) rl.hp [] .nil
theorem se_meth {pl : Sem Bool} {c : Str} {dd : List D} (he : SE X T Wx o fo) (hcn : X.mg c = some (.ref C)) (hc : Cls X.K C) (hm : Meth X.K C m f) (F : FX X T k f fd ps g) (hr : Room k X.A) (hG : Quiet X.A) (hB : Bare dd dvs) (hb : Binds X.K fd ps ds) (hd : Vals dvs ds) (tk : Takes X Wx) (ha : SA X T Wx (e :: es) fa)
    (hst : starEach (e :: es) X.env = (false, eval e X.env) :: starEach es X.env := by rfl) (hpl : (backTo pos (starEach es X.env)).any (·.1) = false := by rfl)
    (ht : eval (.Call (.Attribute o m apos) (e :: es) [] pos) X.env = (do
      let ov ← eval o X.env
      standAt apos.atName
      let (f, first) ← holding [ov] (getMethod ov m pl)
      callWith pos f first (backTo pos (starEach (e :: es) X.env)) (backToKw pos (keywordEach [] X.env))) := by rfl) :
    SE X T Wx (.Call (.Attribute o m apos) (e :: es) [] pos) (sMth c m g dd fo fa) :=
  ⟨(fg_meth he.pe hc hm F.fg hr hG hb hd tk ha.pa hst hpl ht).imp fun _ _ _ h => mth_go hcn hB F.ar (fun _ _ _ z => z) h⟩
theorem se_meth0 {pl : Sem Bool} {c : Str} {dd : List D} (he : SE X T Wx o fo) (hcn : X.mg c = some (.ref C)) (hc : Cls X.K C) (hm : Meth X.K C m f) (F : FX X T k f fd ps g) (hr : Room k X.A) (hG : Quiet X.A) (hB : Bare dd dvs) (hb : Binds X.K fd ps ds) (hd : Vals dvs ds) (tk : Takes X Wx)
    (ht : eval (.Call (.Attribute o m apos) [] [] pos) X.env = (do
      let ov ← eval o X.env
      standAt apos.atName
      let (f, first) ← holding [ov] (getMethod ov m pl)
      callWith pos f first (backTo pos (starEach [] X.env)) (backToKw pos (keywordEach [] X.env))) := by rfl) :
    SE X T Wx (.Call (.Attribute o m apos) [] [] pos) (sMth c m g dd fo aNil) :=
  ⟨(fg_meth0 he.pe hc hm F.fg hr hG hb hd tk ht).imp fun _ _ _ h => mth_go hcn hB F.ar (fun _ _ _ z => nil_arg z) h⟩
/-- a new instance -/
def isNonO : D → M D
  | .non => ret .non
  | _ => bad
def sMk (c : Str) (g : Fn) (dd : List D) (fa : Env → M (List D)) : Env → M D := fun env => bnd (fa env) fun ds => bnd (new (.ins c [])) fun d => bnd (g (d :: (ds ++ dd))) fun r => bnd (isNonO r) fun _ => ret d
theorem mk_go {c : Str} {dd : List D} {σ : St} {H : Hp} {Q : VK} {t : TA} (hc : X.mg c = some (.ref C)) (hB : Bare dd dvs) (ha : Arity g ps.length) (ht : ∀ σ H Q, tA (Gof X T) Wx fa σ H Q → t σ H Q) (h : tE (Gof X T) Wx (sMk c g dd fa) σ H Q) :
    tMk C (spF (Gof X T) ps.length g) Wx dvs t σ H Q := by
  obtain ⟨W, env, st, rl, h⟩ := h
  refine ht _ _ _ (tA_bind (k := fun _ ds => bnd (new (.ins c [])) fun d => bnd (g (d :: (ds ++ dd))) fun r => bnd (isNonO r) fun _ => ret d) rl h fun W1 ds st1 H1 vs e1 r1 r p x dx hx hdx hne => ?_)
  have hk : ∀ b u, H1 b = some u → upd (upd H1 dx (.own x)) x (.ins C dx []) b = some u := fun b u q => by
    rw [upd_ne (ne_of_none q hx), upd_ne (ne_of_none q hdx)]
    exact q
  obtain ⟨W2, e2, ok2, rv2⟩ := r1.hp.newOb (o := .ins c []) hx hk (r1.hp.fresh hx) fun W' _ => ⟨C, dx, [], hc, upd_same, .nil⟩
  have p1 : Post (Gof X T) Wx σ W2 (Wpost (Gof X T) Q) (bnd (g (.ref st1.length :: (ds ++ dd))) (fun r => bnd (isNonO r) fun _ => ret (D.ref st1.length)) (st1 ++ [.ins c []])) := Post.ext e2 p
  have r3 : RVs X.K W2 (.ref st1.length :: (ds ++ dd)) (V.ref x :: (vs ++ dvs)) := .cons rv2 ((r.ext e2).append (hB _ _))
  have hl : (D.ref st1.length :: (ds ++ dd)).length = ps.length := by
    by_cases z : (D.ref st1.length :: (ds ++ dd)).length = ps.length
    · exact z
    · rw [bnd_run, ha _ _ z] at p1
      exact p1.elim
  refine ⟨by rw [← r3.length, hl], W2, _, _, ok2.toPlain, r3, Post.f (Post.imp p1 fun W3 d st3 H3 e3 ok3 p3 v rv => ?_)⟩
  have p4 : Post (Gof X T) Wx σ W3 (Wpost (Gof X T) Q) (bnd (isNonO d) (fun _ => ret (D.ref st1.length)) st3) := p3
  cases rv with
  | non => exact ⟨rfl, p4.here ok3 (rv2.ext e3)⟩
  | _ => exact p4.elim
theorem se_make {c : Str} {dd : List D} (M : Mk X.K C f) (F : FX X T k f fd ps g) (hr : Room (k + 1) X.A) (hG : Quiet X.A) (hg : Gl X c) (hm : X.mg c = some (.ref C)) (hB : Bare dd dvs) (hb : Binds X.K fd ps ds) (hd : Vals dvs ds) (tk : Takes X Wx)
    (ha : SA X T Wx (e :: es) fa) (hdb : (c == ("__debug__" : Str)) = false := by decide) (he : starEach (e :: es) X.env = (false, eval e X.env) :: starEach es X.env := by rfl) (hpl : (backTo pos (starEach es X.env)).any (·.1) = false := by rfl) :
    SE X T Wx (.Call (.Name c p) (e :: es) [] pos) (sMk c g dd fa) :=
  ⟨(fg_make M F.fg hr hG hg hm hb hd tk ha.pa hdb he hpl).imp fun _ _ _ h => mk_go hm hB F.ar (fun _ _ _ z => z) h⟩

/-! ### fields -/
def fldD (f : Str) (d : D) : M D := fun st => match d with
  | .ref n => (match st[n]? with
    | some (.ins _ fs) => getO (fs.lookup f) st
    | _ => .bad)
  | _ => .bad
def sFd (c f : Str) (fo : Env → M D) : Env → M D := fun env => bnd (fo env) fun d st => match d with
  | .ref n => (match st[n]? with
    | some (.ins c' fs) => gd (c' == c) (getO (fs.lookup f)) st
    | _ => .bad)
  | _ => .bad
theorem se_fld {c fl : Str} (he : SE X T Wx e fo) (hcn : X.mg c = some (.ref C)) (hc : Cls X.K C) (hn : NoAttr X.K C fl) (hb : attributeBase e fl X.env (eval e X.env) = eval e X.env := by rfl) : SE X T Wx (.Attribute e fl pos) (sFd c fl fo) := by
  refine ⟨(pe_fld he.pe hb).imp fun σ H Q => ?_⟩
  rintro ⟨W, env, st, rl, h⟩
  refine tE_bind (k := fun _ d st => match d with
    | .ref n => (match st[n]? with
      | some (.ins c' fs) => gd (c' == c) (getO (fs.lookup fl)) st
      | _ => .bad)
    | _ => .bad) rl h fun W1 d st1 H1 v e1 r1 rv p => ?_
  match d, rv, p with
  | .ref n, rv, p =>
    dsimp only at p
    cases e : st1[n]? with
    | none => rw [e] at p; exact p.elim
    | some ob =>
      rw [e] at p
      cases ob with
      | ins c' fs =>
        obtain ⟨q, pp⟩ := Post.gd p
        have ec := beq_iff_eq.mp q
        subst ec
        obtain ⟨d, e7, p3⟩ := Post.getO pp
        obtain ⟨a, C', dx, gs, e2, e3, e4, e5, e6⟩ := ins_at r1.hp e rv
        rw [show X.mg c' = some (.ref C') from e4] at hcn
        cases hcn
        obtain ⟨v', e8, r8⟩ := (e6.look).1 d e7
        exact ⟨a, C, dx, gs, v', e2, e5, hc, hn, e8, p3.here r1.hp r8⟩
      | _ => exact p.elim
  | .non, _, p => exact p.elim
  | .bl _, _, p => exact p.elim
  | .int _, _, p => exact p.elim
  | .str _, _, p => exact p.elim
  | .tup _, _, p => exact p.elim
  | .lst _, _, p => exact p.elim
  | .frl _, _, p => exact p.elim
  | .dct _ _, _, p => exact p.elim
  | .fnv, _, p => exact p.elim
/-- o.f = value -/
def bFd (c fl : Str) (fo fv : Env → M D) : SM := fun env st => sOut (bnd (fv env) (fun d => bnd (fo env) fun o => fun st => match o with
  | .ref n => (match st[n]? with
    | some (.ins c' fs) => gd (c' == c && decide (fs.length < 1000)) (fun st => .ok () (st.set n (.ins c' (putD fl d fs)))) st
    | _ => .bad)
  | _ => .bad) st) env fun _ st' => .nx env st'
theorem ss_fld {c fl : Str} {pos' : Pos} {value : Expr} (ho : SE X T Wx o fo) (hv : SE X T Wx value fv) (hcn : X.mg c = some (.ref C)) (hc : Cls X.K C) (hn : NoAttr X.K C fl) (hs : swapsWith value (some (.Attribute o fl pos')) pos.line X.env = pure false := by rfl) :
    SS X T Wx (.Assign [.Attribute o fl pos'] value pos) (bFd c fl fo fv) := by
  refine ⟨(ps_fld ho.pe hv.pe hs).imp fun D σ H => ?_⟩
  rintro ⟨W, env, st, rl, h⟩
  have h' := postS_out (R := fun W' (_ : Unit) st' H' => PostS (Gof X T) Wx W' D (.nx env st')) rl h fun W' a st' H' e r p => p
  refine tE_bind (k := fun env d => bnd (fo env) fun o => fun st => match o with
    | .ref n => (match st[n]? with
      | some (.ins c' fs) => gd (c' == c && decide (fs.length < 1000)) (fun st => .ok () (st.set n (.ins c' (putD fl d fs)))) st
      | _ => .bad)
    | _ => .bad) rl h' fun W1 d st1 H1 v e1 r1 rv p => ?_
  refine tE_bind (k := fun _ o => fun st => match o with
    | .ref n => (match st[n]? with
      | some (.ins c' fs) => gd (c' == c && decide (fs.length < 1000)) (fun st => .ok () (st.set n (.ins c' (putD fl d fs)))) st
      | _ => .bad)
    | _ => .bad) r1 p fun W2 o st2 H2 w e2 r2 rw' p2 => ?_
  match o, rw', p2 with
  | .ref n, rw', p2 =>
    dsimp only at p2
    cases e : st2[n]? with
    | none => rw [e] at p2; exact p2.elim
    | some ob =>
      rw [e] at p2
      cases ob with
      | ins c' fs =>
        obtain ⟨q, p3⟩ := Post.gd p2
        rw [Bool.and_eq_true] at q
        have ec := beq_iff_eq.mp q.1
        subst ec
        obtain ⟨a, C', dx, gs, e3, e4, e5, e6, e7⟩ := ins_at r2.hp e rw'
        rw [show X.mg c' = some (.ref C') from e5] at hcn
        cases hcn
        refine ⟨a, C, dx, gs, e3, e6, hc, hn, by rw [← e7.length]; exact of_decide_eq_true q.2, ?_⟩
        have ok3 := r2.hp.setOb (u := .ins C dx (putF fl v gs)) (o := .ins c' (putD fl d fs)) e4 ⟨C, dx, _, e5, upd_same, e7.put (rv.ext e2)⟩
        exact p3 W2 _ (Ext.refl W2) ok3 W2 σ _ (Ext.refl W2) (r2.ext (Ext.refl W2) ok3)
      | _ => exact p2.elim
  | .non, _, p2 => exact p2.elim
  | .bl _, _, p2 => exact p2.elim
  | .int _, _, p2 => exact p2.elim
  | .str _, _, p2 => exact p2.elim
  | .tup _, _, p2 => exact p2.elim
  | .lst _, _, p2 => exact p2.elim
  | .frl _, _, p2 => exact p2.elim
  | .dct _ _, _, p2 => exact p2.elim
  | .fnv, _, p2 => exact p2.elim
end
end Sv
/-! Sv11: isinstance, repr, methods of lists, stores by subscript, pairs. -/
namespace Sv
open PySem L2 LamX
open PyProof.Rows hiding St

/-! ### isinstance -/
abbrev Ty := String ⊕ Str
def tyOf (d : D) (st : Store) : Option Ty := match d with
  | .non => some (.inl "NoneType")
  | .bl _ => some (.inl "bool")
  | .int _ => some (.inl "int")
  | .str _ => some (.inl "str")
  | .tup _ => some (.inl "tuple")
  | .lst _ => some (.inl "list")
  | .frl _ => some (.inl "list")
  | .dct _ _ => some (.inl "dict")
  | .ref n => match st[n]? with
    | some (.lst _) => some (.inl "list")
    | some (.dct _ _) => some (.inl "dict")
    | some (.ins c _) => some (.inr c)
    | none => none
  | .fnv => none
/-- an own class of whose instances isinstance may be asked -/
structure InsTy (K : PySem.W.Frag) (C : Addr) : Prop where
  cl : Cls K C
  ha : PySem.W.findIn K (.ref C) "__class__" = some (some (.builtin "object.__class__"))
  hn : PySem.W.specialIn K (.builtin "object.__class__") "__get__" = some (some (.builtin "getset_descriptor.__get__"))
  htk : PySem.W.takesIn K (.builtin "object.__class__") = some true
  hm : PySem.W.mroIn K C (.type "object") = some true
structure IsiOk (X : Cx) (u : Value) (ans : Ty → Option Bool) : Prop where
  bi : ∀ t b, ans (.inl t) = some b → PySem.W.kitOne X.K (.type t) u = some b
  own : ∀ c b C, ans (.inr c) = some b → X.mg c = some (.ref C) → PySem.W.kitOne X.K (.ref C) u = some b ∧ InsTy X.K C
def ansB (b : String) : Ty → Option Bool
  | .inl t => kitB t b
  | .inr _ => none
theorem isiB {X : Cx} (b : String) : IsiOk X (.type b) (ansB b) := ⟨fun t r h => kit_ty h, fun c r C h => by cases h⟩
def isiD (ans : Ty → Option Bool) (d : D) : M D := fun st => match tyOf d st with
  | some t => (match ans t with
    | some b => .ok (.bl b) st
    | none => .bad)
  | none => .bad
section
variable {K : PySem.W.Frag} {mg : Str → Option Value} {T : Tb} {Wx : WX} {X : Cx} {e o : Expr} {es : List Expr} {f fo fv : Env → M D} {g : Env → M (List D)} {pos p apos : Pos}
theorem tyx_of {W : Wd} {st : Store} {H : Hp} {d : D} {v : V} {ans : Ty → Option Bool} {u : Value} {t : Ty} {b : Bool} (ok : HeapOk (Gof X T) W st H) (r : RV X.K W d v) (A : IsiOk X u ans) (e : tyOf d st = some t) (eb : ans t = some b) : ∃ tv, TyX X.K H v tv ∧ PySem.W.kitOne X.K tv u = some b := by
  cases r with
  | non => cases e; exact ⟨_, .base .non, A.bi _ _ eb⟩
  | bl x => cases e; exact ⟨_, .base (.bl x), A.bi _ _ eb⟩
  | int x => cases e; exact ⟨_, .base (.int x), A.bi _ _ eb⟩
  | str x => cases e; exact ⟨_, .base (.str x), A.bi _ _ eb⟩
  | tup hq r =>
    cases e
    refine ⟨_, ?_, A.bi _ _ eb⟩
    rcases ok.sqT hq with (h | ⟨o, h⟩) | ⟨o, its, n, h1, h2, _⟩
    · exact .base (.tup h)
    · exact .fTuple h
    · exact .kTuple h1 h2
  | lst hq r => cases e; exact ⟨_, .base (.lst (ok.fz _ _ hq)), A.bi _ _ eb⟩
  | frl hq r =>
    cases e
    refine ⟨_, ?_, A.bi _ _ eb⟩
    rcases ok.sqL hq with (h | ⟨o, h⟩) | ⟨o, its, n, h1, h2, _⟩
    · exact .base (.lst h)
    · exact .base (.frz h)
    · exact .kList h1 h2
  | dct hq r => cases e; exact ⟨_, .fDict (ok.fz _ _ hq), A.bi _ _ eb⟩
  | @ref n a hn =>
    have e' : (match st[n]? with | some (.lst _) => some (.inl "list") | some (.dct _ _) => some (.inl "dict") | some (.ins c _) => some (.inr c) | none => none) = some t := e
    cases q : st[n]? with
    | none => rw [q] at e'; cases e'
    | some ob =>
      rw [q] at e'
      obtain ⟨a', e1, e2, _, ob'⟩ := ok.at_ q (.ref hn)
      cases e1
      cases ob with
      | lst ds =>
        cases e'
        obtain ⟨xs, h1, h2⟩ := ob'
        exact ⟨_, .base (.lst h1), A.bi _ _ eb⟩
      | dct ks vs =>
        cases e'
        obtain ⟨kvs, h1, h2, h3⟩ := ob'
        exact ⟨_, .base (.dK h1), A.bi _ _ eb⟩
      | ins c fs =>
        cases e'
        obtain ⟨C, dx, gs, h1, h2, h3⟩ := ob'
        obtain ⟨k1, k2⟩ := A.own c b C eb h1
        exact ⟨_, .base (.ins h2 k2.cl k2.ha k2.hn k2.htk k2.hm), k1⟩
theorem se_isi {c : V} {u : Value} {ans : Ty → Option Bool} {ec : Expr} (A : IsiOk X u ans) (k : ClsV c u) (hg : Gl X "isinstance") (hm : X.mg "isinstance" = none) (he : SE X T Wx e f) (hc : PE X ec (tC c))
    (h1 : starEach [e, ec] X.env = (false, eval e X.env) :: starEach [ec] X.env := by rfl) (h2 : starEach [ec] X.env = (false, eval ec X.env) :: starEach [] X.env := by rfl) (hpl : (backTo pos (starEach [ec] X.env)).any (·.1) = false := by rfl) :
    SE X T Wx (.Call (.Name "isinstance" p) [e, ec] [] pos) (s1 (isiD ans) f) := by
  refine ⟨(pe_callB call_isi hg hm PyProof.Rows.boot_isinstance (pa_cons he.pe (pa_cons hc pa_nil h2) h1) (by decide) (by decide) h1 hpl).imp fun σ H Q => ?_⟩
  rintro ⟨W, env, st, rl, h⟩
  refine tE_bind (k := fun _ d => isiD ans d) rl h fun W1 d st1 H1 v e1 r1 rv p => ?_
  unfold isiD at p
  cases q : tyOf d st1 with
  | none => rw [q] at p; exact p.elim
  | some t =>
    rw [q] at p
    dsimp only at p
    cases q2 : ans t with
    | none => rw [q2] at p; exact p.elim
    | some b =>
      rw [q2] at p
      obtain ⟨tv, h1, h2⟩ := tyx_of r1.hp rv A q q2
      exact ⟨v, c, tv, u, b, rfl, k, h1, h2, Post.here p r1.hp (.bl b)⟩

/-! ### repr -/
def shownD (d : D) : Str := (toP d).shown
def reprD (d : D) : M D := gd (flat deepest d && (toP d).showable && decide ((shownD d).length ≤ sizeLine)) (ret (.str (shownD d)))
def kRepr : List D → M D := k1 reprD
def rRepr (K : PySem.W.Frag) : List V → Hp → VK → Prop := fun xs H Q => ∃ v d, xs = [v] ∧ Dp K H v d ∧ d.showable = true ∧ d.hasDict = false ∧ d.depth ≤ 60 ∧ d.shown.length ≤ sizeLine ∧ Q (.str d.shown) H
mutual
theorem lay_noDict : ∀ d : PyData, d.canLay0 = true → d.hasDict = false
  | .none, _ => rfl
  | .bool _, _ => rfl
  | .int _, _ => rfl
  | .str _, _ => rfl
  | .list xs, h => by
    simp only [PyData.hasDict]
    exact lay_noDicts xs (by simpa [PyData.canLay0] using h)
  | .tuple xs, h => by
    simp only [PyData.hasDict]
    exact lay_noDicts xs (by simpa [PyData.canLay0] using h)
  | .dict kvs, h => by simp [PyData.canLay0] at h
theorem lay_noDicts : ∀ ds : List PyData, PyData.canLayAll0 ds = true → PyData.hasDictAll ds = false
  | [], _ => rfl
  | d :: ds, h => by
    have h' : d.canLay0 = true ∧ PyData.canLayAll0 ds = true := by simpa [PyData.canLayAll0] using h
    simp only [PyData.hasDictAll]
    rw [lay_noDict d h'.1, lay_noDicts ds h'.2]
    rfl
end
theorem cr_repr (hG : Quiet X.A) (hu : X.A.units + 65 < cLine) : CallR X (.builtin "repr") (rRepr X.K) := by
  intro pins s σ H xs us Q I r h
  obtain ⟨v, d, rfl, hd, h1, h2, h3, h4, q⟩ := h
  obtain ⟨u, rfl, ru⟩ := vals1 r
  have big : ∀ a, v = .ref a → wpAny (model X.prog X.w) X.A (call (.builtin "repr") [u]) (EP X pins σ Q) X.xe s := fun a e => by
    subst e
    obtain rfl : u = Value.ref a := ru
    obtain ⟨as, rd⟩ := Dp.reads I d _ _ hd rfl
    exact repr_of_reads' rd h1 (PyData.noDict_hsm h2) hG (by omega) (fun _ _ e => e) (fun h' u' tk hk => ⟨.str d.shown, H, I.kept hk, ⟨_, rfl⟩, q⟩) h4
  cases hd with
  | non =>
    obtain rfl : u = Value.none := ru
    exact PySem.P.repr_of_none ⟨.str _, H, I.tok _, ⟨_, rfl⟩, by simpa [PyData.shown] using q⟩
  | bl b =>
    obtain rfl : u = Value.bool b := ru
    exact PySem.P.repr_of_bool ⟨.str _, H, I.tok _, ⟨_, rfl⟩, by simpa [PyData.shown] using q⟩
  | int i =>
    obtain ⟨t, rfl⟩ := ru
    exact PySem.P.repr_of_int (by simpa [PyData.showable] using h1) ⟨.str _, H, I.tok _, ⟨_, rfl⟩, by simpa [PyData.shown] using q⟩
  | str x =>
    obtain ⟨t, rfl⟩ := ru
    exact PySem.P.repr_of_str ⟨.str _, H, I.tok _, ⟨_, rfl⟩, by simpa [PyData.shown] using q⟩ (by simpa [PyData.shown] using h4)
  | lst _ _ => exact big _ rfl
  | tup _ _ => exact big _ rfl
theorem sc_repr : ServesC K mg T Wx (rRepr K) kRepr := sc1 fun W σ d v st H Q ok r p => by
  obtain ⟨c, p⟩ := Post.gd p
  rw [Bool.and_eq_true, Bool.and_eq_true] at c
  have hd := flat_depth deepest d c.1.1
  exact ⟨v, toP d, rfl, RV.dp ok.fz deepest d v r c.1.1, c.1.2, lay_noDict _ (flat_lay deepest d c.1.1), Nat.le_trans hd (by decide), of_decide_eq_true c.2, p.here ok (.str _)⟩

/-! ### list.append, list.pop -/
def appD (o : D) (x : D) : M D := fun st => match o with
  | .ref n => (match st[n]? with
    | some (.lst ds) => gd (decide (ds.length < sizeLine)) (fun st => .ok .non (st.set n (.lst (ds ++ [x])))) st
    | _ => .bad)
  | _ => .bad
/-- the receiver is a list of the store; then the argument -/
def isLst (o : D) : M D := fun st => match o with
  | .ref n => (match st[n]? with
    | some (.lst _) => .ok o st
    | _ => .bad)
  | _ => .bad
def sApp1 (fo fv : Env → M D) : Env → M D := fun env => bnd (fo env) fun o => bnd (isLst o) fun _ => bnd (fv env) fun x => appD o x
theorem lstM_at {G : Gd} {W : Wd} {st : Store} {H : Hp} {n : Nat} {ds : List D} {v : V} (ok : HeapOk G W st H) (h : st[n]? = some (.lst ds)) (r : RV G.K W (.ref n) v) : ∃ a xs, v = .ref a ∧ W.m[n]? = some a ∧ H a = some (.lst xs) ∧ RVs G.K W ds xs := by
  obtain ⟨a, e1, e2, _, xs, h1, h2⟩ := ok.at_ h r
  exact ⟨a, xs, e1, e2, h1, h2⟩
theorem se_append (ho : SE X T Wx o fo) (ha : SE X T Wx e fv)
    (hbase : attributeBase o "append" X.env (eval o X.env) = eval o X.env := by rfl)
    (hfew : ((backTo pos (starEach [e] X.env)).all (fun x => !x.1) && (backToKw pos (keywordEach [] X.env)).all (fun x => x.1.isSome) && decide ([e].length + ([] : List Keyword).length + (if ([] : List Keyword).isEmpty then 0 else 1) < 30)) = true := by rfl)
    (hline : (apos.endLine == pos.line) = true := by rfl) (hs : starEach [e] X.env = (false, eval e X.env) :: starEach [] X.env := by rfl) (hplain : (backTo pos (starEach [] X.env)).any (·.1) = false := by rfl) :
    SE X T Wx (.Call (.Attribute o "append" apos) [e] [] pos) (sApp1 fo fv) := by
  refine ⟨(pe_bm F.plainAttrs_list F.slot_list_append F.type_list_append mt_append ho.pe (pa_cons ha.pe pa_nil hs) hbase hfew hline hs hplain).imp fun σ H Q => ?_⟩
  rintro ⟨W, env, st, rl, h⟩
  refine tE_bind (k := fun env o => bnd (isLst o) fun _ => bnd (fv env) fun x => appD o x) rl h fun W1 d st1 H1 v e1 r1 rv p => ?_
  rw [bnd_run] at p
  match d, rv, p with
  | .ref n, rv, p =>
    unfold isLst at p
    dsimp only at p
    have p' := p
    cases q : st1[n]? with
    | none => rw [q] at p'; exact p'.elim
    | some ob =>
      rw [q] at p'
      cases ob with
      | lst ds =>
        obtain ⟨a, xs, rfl, h1, h2, h3⟩ := lstM_at r1.hp q rv
        refine ⟨.inl ⟨rfl, xs, .inl (.inl h2)⟩, ?_⟩
        refine tE_bind (k := fun _ x => appD (.ref n) x) r1 p' fun W2 x st2 H2 u e2 r2 ru p2 => ?_
        have p3 : Post (Gof X T) Wx σ W2 (Wpost (Gof X T) Q) (match st2[n]? with | some (.lst ds) => gd (decide (ds.length < sizeLine)) (fun st => .ok .non (st.set n (.lst (ds ++ [x])))) st2 | _ => .bad) := p2
        cases q2 : st2[n]? with
        | none => rw [q2] at p3; exact p3.elim
        | some ob2 =>
          rw [q2] at p3
          cases ob2 with
          | lst ds2 =>
            obtain ⟨c, p4⟩ := Post.gd p3
            obtain ⟨a', xs2, e3, k1, k2, k3⟩ := lstM_at r2.hp q2 (rv.ext e2)
            cases e3
            refine ⟨a, xs2, u, rfl, rfl, k2, by rw [← k3.length]; exact of_decide_eq_true c, ?_⟩
            have ok3 := r2.hp.setOb (u := .lst (xs2 ++ [u])) (o := .lst (ds2 ++ [x])) k1 ⟨_, upd_same, k3.append (.cons ru .nil)⟩
            exact p4 W2 _ (Ext.refl W2) ok3 .non .non
          | _ => exact p3.elim
      | _ => exact p'.elim
  | .non, _, p => exact p.elim
  | .bl _, _, p => exact p.elim
  | .int _, _, p => exact p.elim
  | .str _, _, p => exact p.elim
  | .tup _, _, p => exact p.elim
  | .lst _, _, p => exact p.elim
  | .frl _, _, p => exact p.elim
  | .dct _ _, _, p => exact p.elim
  | .fnv, _, p => exact p.elim
def popD (o : D) : M D := fun st => match o with
  | .ref n => (match st[n]? with
    | some (.lst ds) => (match ds[ds.length - 1]? with
      | some d => .ok d (st.set n (.lst ds.dropLast))
      | none => .bad)
    | _ => .bad)
  | _ => .bad
theorem RVs.dropLast : ∀ {W : Wd} {ds : List D} {xs : List V}, RVs K W ds xs → RVs K W ds.dropLast xs.dropLast
  | _, _, _, .nil => .nil
  | _, _, _, .cons r .nil => .nil
  | _, _, _, .cons r (.cons q t) => .cons r (RVs.dropLast (.cons q t))
theorem se_pop (ho : SE X T Wx o fo) (hbase : attributeBase o "pop" X.env (eval o X.env) = eval o X.env := by rfl) (hline : (apos.endLine == pos.line) = true := by rfl) : SE X T Wx (.Call (.Attribute o "pop" apos) [] [] pos) (s1 popD fo) := by
  refine ⟨(pe_bm0 F.plainAttrs_list F.slot_list_pop F.type_list_pop mt_pop ho.pe hbase hline).imp fun σ H Q => ?_⟩
  rintro ⟨W, env, st, rl, h⟩
  refine tE_bind (k := fun _ o => popD o) rl h fun W1 d st1 H1 v e1 r1 rv p => ?_
  match d, rv, p with
  | .ref n, rv, p =>
    have p' : Post (Gof X T) Wx σ W1 (Wpost (Gof X T) Q) (match st1[n]? with
      | some (.lst ds) => (match ds[ds.length - 1]? with
        | some d => .ok d (st1.set n (.lst ds.dropLast))
        | none => .bad)
      | _ => .bad) := p
    cases q : st1[n]? with
    | none => rw [q] at p'; exact p'.elim
    | some ob =>
      rw [q] at p'
      cases ob with
      | lst ds =>
        dsimp only at p'
        obtain ⟨a, xs, rfl, h1, h2, h3⟩ := lstM_at r1.hp q rv
        refine ⟨.inl ⟨rfl, xs, .inl (.inl h2)⟩, ?_⟩
        cases q2 : ds[ds.length - 1]? with
        | none => rw [q2] at p'; exact p'.elim
        | some d =>
          rw [q2] at p'
          obtain ⟨y, h4, h5⟩ := h3.get q2
          refine ⟨a, xs, y, rfl, rfl, h2, by rw [← h3.length]; exact h4, ?_⟩
          have ok3 := r1.hp.setOb (u := .lst xs.dropLast) (o := .lst ds.dropLast) h1 ⟨_, upd_same, h3.dropLast⟩
          exact p' W1 _ (Ext.refl W1) ok3 y h5
      | _ => exact p'.elim
  | .non, _, p => exact p.elim
  | .bl _, _, p => exact p.elim
  | .int _, _, p => exact p.elim
  | .str _, _, p => exact p.elim
  | .tup _, _, p => exact p.elim
  | .lst _, _, p => exact p.elim
  | .frl _, _, p => exact p.elim
  | .dct _ _, _, p => exact p.elim
  | .fnv, _, p => exact p.elim
end
end Sv
/-! Sv12: stores by subscript, pairs, starred displays, constants' dicts. -/
namespace Sv
open PySem L2 LamX
open PyProof.Rows hiding St

/-! ### o[i] = v -/
def putAt (o i d : D) (st : Store) : Option Store := match o with
  | .ref n => match st[n]? with
    | some (.lst ds) => (match i with
      | .int k => (match ixN ds.length k with
        | some j => some (st.set n (.lst (ds.set j d)))
        | none => none)
      | _ => none)
    | some (.dct ks vs) => (match keyOf i with
      | some k => (match decide (ks.length < sizeLine) with
        | true => some (st.set n (.dct (dPut k d (ks, vs)).1 (dPut k d (ks, vs)).2))
        | false => none)
      | none => none)
    | _ => none
  | _ => none
def gSb (fo fi : Env → M D) : TgM := fun d env st => match fo env st with
  | .ok o st1 => (match fi env st1 with
    | .ok i st2 => (match putAt o i d st2 with
      | some st3 => some (env, st3)
      | none => none)
    | _ => none)
  | _ => none
def rSetA : TSet := fun o i v H Q => rSetL o i v H Q ∨ rSetD o i v H Q
section
variable {X : Cx} {T : Tb} {Wx : WX} {o i e : Expr} {es : List Expr} {f fo fi : Env → M D} {g : Env → M (List D)} {pos p apos : Pos}
theorem set_all (hu : X.A.units + 1 < cLine) : PSet X rSetA := by
  intro pins s σ H o i v ov iv u Q I ro ri rv h
  rcases h with h | h
  · exact set_list pins s σ H o i v ov iv u Q I ro ri rv h
  · exact set_dict hu pins s σ H o i v ov iv u Q I ro ri rv h
theorem putAt_go {W : Wd} {st st' : Store} {H : Hp} {a b d : D} {x y v : V} {Q : Hp → Prop} (ok : HeapOk (Gof X T) W st H) (ra : RV X.K W a x) (rb : RV X.K W b y) (rd : RV X.K W d v) (h : putAt a b d st = some st')
    (q : ∀ H', HeapOk (Gof X T) W st' H' → Q H') : rSetA x y v H Q := by
  cases ra with
  | @ref n p hn =>
    unfold putAt at h
    dsimp only at h
    have h' := h
    clear h
    cases e : st[n]? with
    | none => rw [e] at h'; cases h'
    | some ob =>
      rw [e] at h'
      obtain ⟨p', e1, e2, _, ob'⟩ := ok.at_ e (.ref hn)
      cases e1
      cases ob with
      | lst ds =>
        dsimp only at h'
        cases rb with
        | int k =>
          dsimp only at h'
          cases e3 : ixN ds.length k with
          | none => rw [e3] at h'; cases h'
          | some j =>
            rw [e3] at h'
            cases h'
            obtain ⟨xs, h1, h2⟩ := ob'
            refine .inl ⟨p, xs, k, j, rfl, rfl, h1, by rw [← h2.length]; exact e3, q _ (ok.setOb e2 ⟨_, upd_same, h2.set rd j⟩)⟩
        | _ => cases h'
      | dct ks vs =>
        dsimp only at h'
        cases e3 : keyOf b with
        | none => rw [e3] at h'; cases h'
        | some k =>
          rw [e3] at h'
          dsimp only at h'
          cases e4 : decide (ks.length < sizeLine) with
          | false => rw [e4] at h'; cases h'
          | true =>
            rw [e4] at h'
            cases h'
            obtain ⟨kvs, h1, h2, h3⟩ := ob'
            subst h2
            have hl : kvs.length < sizeLine := by
              have := of_decide_eq_true e4
              rwa [List.length_map] at this
            refine .inr ⟨p, _, rfl, .inl ⟨kvs, k, h1, rv_key rb e3, hl, rfl⟩, q _ (ok.setOb e2 ⟨_, upd_same, put_keys kvs k v vs d, put_vals k h3 rd⟩)⟩
      | ins c fs => cases h'
  | _ => cases h
theorem sg_sub (hu : X.A.units + 1 < cLine) (ho : SE X T Wx o fo) (hi : SE X T Wx i fi)
    (ha : ∀ v, assign (.Subscript o i pos) X.env v = (do
      let ov ← holding [v] (eval o X.env)
      let iv ← holding [v, ov] (eval i X.env)
      standAt pos
      holding [v, ov, iv] (setItem ov iv v)
      release [v, ov, iv] []) := by intro _; rfl) : SG X T (.Subscript o i pos) (gSb fo fi) := by
  refine ⟨(pg_sub ho.pe hi.pe (set_all hu) ha).imp fun v σ H Q => ?_⟩
  rintro ⟨W, env, st, d, rl, rd, h⟩
  unfold gSb at h
  cases e1 : fo env st with
  | bad => rw [e1] at h; exact h.elim
  | ex x st1 => rw [e1] at h; exact h.elim
  | ok a st1 =>
    rw [e1] at h
    dsimp only at h
    refine ⟨W, env, st, rl, ?_⟩
    rw [e1]
    intro W1 H1 x1 ok1 u ra
    cases e2 : fi env st1 with
    | bad => rw [e2] at h; exact h.elim
    | ex x st2 => rw [e2] at h; exact h.elim
    | ok b st2 =>
      rw [e2] at h
      dsimp only at h
      refine ⟨W1, env, st1, rl.ext x1 ok1, ?_⟩
      rw [e2]
      intro W2 H2 x2 ok2 w rb
      cases e3 : putAt a b d st2 with
      | none => rw [e3] at h; exact h.elim
      | some st3 =>
        rw [e3] at h
        have x12 := x1.trans x2
        exact putAt_go ok2 (ra.ext x2) rb (rd.ext x12) e3 fun H' ok' => h W2 σ H' x12 (rl.ext x12 ok')
/-- target = value -/
def bAsg (f : Env → M D) (b : TgM) : SM := fun env st => sOut (f env st) env fun d st' => match b d env st' with
  | some (env1, st1) => .nx env1 st1
  | none => .bad
theorem ss_asg {tg : Expr} {b : TgM} (he : SE X T Wx e f) (hg : SG X T tg b) (hs : swapsWithSole [tg] e pos.line X.env = pure false := by rfl) (hw : swappedStores [tg] e X.env = pure none := by rfl)
    (h1 : (assignEach [tg] X.env).map (·.2) = [assign tg X.env] := by rfl) : SS X T Wx (.Assign [tg] e pos) (bAsg f b) := by
  refine ⟨(ps_asg he.pe hg.pg hs hw h1).imp fun D σ H => ?_⟩
  rintro ⟨W, env, st, rl, h⟩
  refine ⟨W, env, st, rl, postS_out rl h fun W' d st' H' e r p v rv => ⟨W', env, st', d, r, rv, ?_⟩⟩
  cases q : b d env st' with
  | none => rw [q] at p; exact p
  | some z =>
    rw [q] at p
    exact fun W2 σ2 H2 e2 rl2 => p W2 σ2 H2 e2 rl2
/-- a, b = x, y; a, b, c = x, y, z -/
def bPar (is : List Nat) (g : Env → M (List D)) : SM := fun env st => sOut (g env st) env fun ds st' => match ds.length == is.length with
  | true => .nx ((is.zip ds).foldl (fun e p => e.set p.1 (some p.2)) env) st'
  | false => .bad
theorem ss_par {i j : Nat} {x y : Str} {a b : Expr} {px py pt : Pos} {kt k2 pt2} (hc : X.calm = true) (hN : X.N.Nodup) (hi : X.N[i]? = some x) (hj : X.N[j]? = some y) (hij : i ≠ j) (hx : X.env.scope.names.lookup x = some .local) (hy : X.env.scope.names.lookup y = some .local) (ha : SA X T Wx [a, b] g)
    (hw : swappedStores [.Tuple [.Name x px, .Name y py] kt pt] (.Tuple [a, b] k2 pt2) X.env = pure (some [x, y])) (hs : swapsWithSole [.Tuple [.Name x px, .Name y py] kt pt] (.Tuple [a, b] k2 pt2) pos.line X.env = pure false := by rfl) :
    SS X T Wx (.Assign [.Tuple [.Name x px, .Name y py] kt pt] (.Tuple [a, b] k2 pt2) pos) (bPar [i, j] g) := by
  refine ⟨(ps_par hc hN hi hj hij hx hy ha.pa hw hs).imp fun D σ H => ?_⟩
  rintro ⟨W, env, st, rl, h⟩
  refine ⟨W, env, st, rl, postS_out rl h fun W' ds st' H' e r p vs rv => ?_⟩
  match ds, vs, rv, p with
  | [], _, _, p => exact p.elim
  | [_], _, _, p => exact p.elim
  | [d1, d2], [v1, v2], .cons r1 (.cons r2 .nil), p =>
    exact ⟨v1, v2, rfl, p W' _ H' (Ext.refl _) ((r.set r1 i).set r2 j)⟩
  | _ :: _ :: _ :: _, _, _, p => exact p.elim
theorem ss_par3 {i j l : Nat} {x y z : Str} {a b c : Expr} {px py pz pt : Pos} {kt k2 pt2} (hc : X.calm = true) (hN : X.N.Nodup) (hi : X.N[i]? = some x) (hj : X.N[j]? = some y) (hl : X.N[l]? = some z) (hij : i ≠ j) (hil : i ≠ l) (hjl : j ≠ l)
    (hx : X.env.scope.names.lookup x = some .local) (hy : X.env.scope.names.lookup y = some .local) (hz : X.env.scope.names.lookup z = some .local) (ha : SA X T Wx [a, b, c] g)
    (hw : swappedStores [.Tuple [.Name x px, .Name y py, .Name z pz] kt pt] (.Tuple [a, b, c] k2 pt2) X.env = pure (some [x, y, z])) (hs : swapsWithSole [.Tuple [.Name x px, .Name y py, .Name z pz] kt pt] (.Tuple [a, b, c] k2 pt2) pos.line X.env = pure false := by rfl) :
    SS X T Wx (.Assign [.Tuple [.Name x px, .Name y py, .Name z pz] kt pt] (.Tuple [a, b, c] k2 pt2) pos) (bPar [i, j, l] g) := by
  refine ⟨(L2.ps_par3 hc hN hi hj hl hij hil hjl hx hy hz ha.pa hw hs).imp fun D σ H => ?_⟩
  rintro ⟨W, env, st, rl, h⟩
  refine ⟨W, env, st, rl, postS_out rl h fun W' ds st' H' e r p vs rv => ?_⟩
  match ds, vs, rv, p with
  | [], _, _, p => exact p.elim
  | [_], _, _, p => exact p.elim
  | [_, _], _, _, p => exact p.elim
  | [d1, d2, d3], [v1, v2, v3], .cons r1 (.cons r2 (.cons r3 .nil)), p =>
    exact ⟨v1, v2, v3, rfl, p W' _ H' (Ext.refl _) (((r.set r1 i).set r2 j).set r3 l)⟩
  | _ :: _ :: _ :: _ :: _, _, _, p => exact p.elim
/-! ### (*t, ..) -/
def aStar (f : Env → M D) (g : Env → M (List D)) : Env → M (List D) := fun env => bnd (f env) fun d => fun st => match seqOf d st with
  | some es => bnd (g env) (fun ds => ret (es ++ ds)) st
  | none => .bad
theorem sa_star (he : SE X T Wx e f) (hr : SA X T Wx es g) (hs : starEach (.Starred e p :: es) X.env = (true, eval e X.env) :: starEach es X.env := by rfl) : SA X T Wx (.Starred e p :: es) (aStar f g) := by
  refine ⟨(StX.pa_star he.pe hr.pa hs).imp fun σ H Q => ?_⟩
  rintro ⟨W, env, st, rl, h⟩
  refine tE_bind (k := fun env d => fun st => match seqOf d st with | some es => bnd (g env) (fun ds => ret (es ++ ds)) st | none => .bad) rl h fun W1 d st1 H1 v e1 r1 rv p => ?_
  cases q : seqOf d st1 with
  | none => rw [q] at p; exact p.elim
  | some ds =>
    rw [q] at p
    obtain ⟨a, xs, rfl, h2, h3⟩ := seq_at r1.hp rv q
    refine ⟨a, xs, rfl, h2.symm, ?_⟩
    refine tA_bind (k := fun _ ds' => ret (ds ++ ds')) r1 p fun W2 ds' st2 H2 vs e2 r2 rvs p2 => ?_
    exact p2 W2 H2 (Ext.refl _) r2.hp _ ((h3.ext e2).append rvs)
/-! ### what is never reached -/
def bBad : SM := fun _ _ => .bad
def sBad : Env → M D := fun _ => bad
theorem ss_bad {s : Stmt} : SS X T Wx s bBad := ⟨⟨fun pins s' σ H D I h => by
  obtain ⟨W, env, st, rl, h⟩ := h
  exact h.elim⟩⟩
theorem sb_bad {s : List Stmt} : SB X T Wx s bBad := ⟨⟨fun pins s' σ H D I h => by
  obtain ⟨W, env, st, rl, h⟩ := h
  exact h.elim⟩⟩
theorem se_bad {e : Expr} : SE X T Wx e sBad := ⟨⟨fun pins s' σ H Q I h => by
  obtain ⟨W, env, st, rl, h⟩ := h
  exact h.elim⟩⟩
/-! ### {} -/
def sDict0 : Env → M D := fun _ => new (.dct [] [])
theorem se_dict0 : SE X T Wx (.Dict [] [] pos) sDict0 := by
  refine ⟨pe_dnewK.imp fun σ H Q => ?_⟩
  rintro ⟨W, env, st, rl, h⟩
  intro p hp
  obtain ⟨W2, e2, ok2, rv2⟩ := rl.hp.newOb (H' := upd H p (.dK [])) (o := .dct [] []) hp (upd_keeps hp) (rl.hp.fresh hp) fun W' _ => ⟨[], upd_same, rfl, .nil⟩
  exact h W2 _ e2 ok2 _ rv2
end
end Sv
/-! Sv13: own errors with one field that __init__ stores; raise; try. -/
namespace Sv
open PySem L2 LamX PySem.W PySem.Calls PySem.HandSPX
open PyProof.Rows hiding St

/-! ### the text of __init__(self, fl): self.fl = fl -/
def eArgs (fl : Str) (p1 p2 : Pos) : Arguments := { posonlyargs := [], args := [{ arg := "self", annotation := none, pos := p1 }, { arg := fl, annotation := none, pos := p2 }], vararg := none, kwonlyargs := [], kw_defaults := [], kwarg := none, defaults := [] }
def eBody (fl : Str) (q1 q2 q3 q4 : Pos) : List Stmt := [.Assign [.Attribute (.Name "self" q1) fl q2] (.Name fl q3) q4]
def eScope (fl : Str) : Scope := { kind := .function, names := [(PySem.Str.ofString "self", .local), (fl, .local)], isGenerator := false, isCoroutine := false, more := [] }
/-- what the field's name must be -/
structure ErrN (qn fl : Str) : Prop where
  bind : ∀ (p1 p2 q1 q2 q3 q4 : Pos) (x v kV doc pm cdv ct : Value) (an : Option Addr), bindArgs (fnOf "__init__" qn (eArgs fl p1 p2) (eBody fl q1 q2 q3 q4) (eScope fl) .none kV doc pm an cdv ct) ⟨[x, v], []⟩ = pure [(("self" : Str), x), (fl, v)]
  ls : (eScope fl).names.lookup ("self" : Str) = some NameKind.local
  lf : (eScope fl).names.lookup fl = some NameKind.local
  df : (fl == ("__debug__" : Str)) = false
  nf : fl ≠ "self"
/-- what the written part says of the class c, at C, and of its __init__, at fI -/
structure ErrTxt (K : Frag) (mg : Str → Option Value) (c qn fl : Str) (C fI : Addr) : Prop where
  nm : ErrN qn fl
  gC : mg c = some (.ref C)
  cls : ∃ nm q N bs bm sn sub ab col dd k0 k1 k2 k3 k5, K.lookup C = some (excClassObj nm q C N bs bm true sn sub ab col dd k0 k1 k2 k3 k5 "ValueError.__new__") ∧ refsVE bm = true
  sa : findIn K (.ref C) "__setattr__" = some (some (.builtin "object.__setattr__"))
  ga : findIn K (.ref C) "__getattribute__" = some (some (.builtin "BaseException.__getattribute__"))
  gg : findIn K (.ref C) "__getattr__" = some none
  noN : findIn K (.ref C) fl = some none
  iC : findIn K (.ref C) "__init__" = some (some (.ref fI))
  tC : typeIn K (.ref fI) = some (.type "function")
  kC : keepIn K (.ref C) = true
  exC : subIn K (.ref C) (.type "BaseException") = some true
  tyC : typeIn K (.ref C) = some (.type "type")
  hdC : hasDictIn K C = true
  fn : ∃ (oc : Value) (od : Option Addr) (kV doc pm : Value) (an : Option Addr) (cdv ct : Value) (osl : Array (Option Value)) (p1 p2 q1 q2 q3 q4 : Pos),
    K.lookup fI = some ⟨oc, od, .func (fnOf "__init__" qn (eArgs fl p1 p2) (eBody fl q1 q2 q3 q4) (eScope fl) .none kV doc pm an cdv ct), osl⟩ ∧ codeIn K cdv qn = true
theorem len_one (v : Value) : [v].length ≤ sizeLine := by
  rw [sizeLine_eq]
  exact (by decide : 1 ≤ 16777216)
/-- what __init__ leaves of a fresh exception at x -/
structure ErrInit (fl : Str) (h h' : Heap) (x C dx t1 : Addr) (v : Value) : Prop where
  keep : ∀ b o, b ≠ x → h.get? b = some o → h'.get? b = some o
  obj : h'.get? x = some { cls := .ref C, dict := some dx, data := .fields #[.ref t1, .none, .none, .none, .bool false, .none] }
  dbig : h.objs.size ≤ dx
  dne : dx ≠ x
  ns : h'.Ns1 dx (fun y => if y = fl then some v else none)
/-- a made one -/
structure ErrMade (fl : Str) (h h' : Heap) (e C d : Addr) (v : Value) : Prop where
  keep : ∀ b o, h.get? b = some o → h'.get? b = some o
  new : h.objs.size ≤ e
  obj : ∃ oe vs, h'.get? e = some oe ∧ oe.cls = .ref C ∧ oe.dict = some d ∧ oe.data = .fields vs ∧ vs[1]? = some .none
  dbig : h.objs.size ≤ d
  dne : d ≠ e
  ns : h'.Ns1 d (fun y => if y = fl then some v else none)
section
variable {prog : Program} {w : World} {A : Around} {E : Value → Shared → Prop} {R : Result → Shared → Prop} {s : Shared} {K : Frag} {mg : Str → Option Value} {c qn fl : Str} {C fI : Addr}
theorem err_ld {M : Model} {s : Shared} {name : Str} {scope : Scope} {L a : Addr} {cd : Value} {m : Str → Option Value} {x : Str} {pos : Pos} {v : Value} {Q : Value → Shared → Prop} {A : Around} {E : Value → Shared → Prop} (hn : s.heap.Ns L m) (hv : m x = some v) (h : Q v s)
    (hk : scope.kind = .function) (hl : (envOfC name scope L a cd).kindOf x = some .local) (hd : (x == ("__debug__" : Str)) = false) :
    wpAny M A (eval (.Name x pos) (envOfC name scope L a cd)) Q E s := wpAny_Name (wpAny_loadName_local hk hl hn hv h) hd
theorem err_init (T : ErrTxt K mg c qn fl C fI) {x t0 : Addr} {v : Value} (X : K.In s.heap) (hlim : s.heap.NoLimit) (hx : s.heap.get? x = some (excO C t0)) (hnx : K.lookup x = none) (hroom : A.depth < recursionLimit)
    (hq : ∀ h' tk dx, ErrInit fl s.heap h' x C dx t0 v → R (.ok (.ret .none)) { s with heap := h', toks := tk }) :
    codeAny (model prog w) A (.call (.ref fI) ⟨[.ref x, v], []⟩) R s := by
  obtain ⟨oc, od, kV, doc, pm, an, cdv, ct, osl, p1, p2, q1, q2, q3, q4, ho, hcd⟩ := T.fn
  obtain ⟨nm, q, N, bs, bm, sn, sub, ab, col, dd, k0, k1, k2, k3, k5, hC, hbm⟩ := T.cls
  have hcl : clsIn K C = some { name := nm, bases := bs, mro := .ref C :: bm, ns := N, qualname := q, hasDict := true, slotNames := sn, subclasses := sub, abstract := ab, collection := col, hasDel := false } := by unfold clsIn; rw [hC] <;> rfl
  have nd : ([("self" : Str), fl]).Nodup := by
    refine List.nodup_cons.mpr ⟨fun z => T.nm.nf (List.mem_singleton.mp z).symm, List.nodup_cons.mpr ⟨by simp, List.nodup_nil⟩⟩
  refine Att.call_fn (binds := [(("self" : Str), .ref x), (fl, v)]) X hlim ho hcd hroom (BindsTo.of_eq (T.nm.bind ..)) (by
    rw [List.all_cons, List.all_cons, List.all_nil]
    dsimp only
    rw [T.nm.ls, T.nm.lf]
    rfl) (fun s₁ IC => ?_) rfl rfl rfl
  obtain ⟨h₁, tk₁, rfl⟩ := IC.toInCall.same
  have k : ∀ b o, s.heap.get? b = some o → h₁.get? b = some o := IC.toInCall.keep
  have hn := IC.toInCall.ns
  have X₁ : K.In h₁ := X.keeps k
  have hx₁ := k _ _ hx
  show wpAny _ _ (execs _ _) _ _ _
  refine wpAny_execs_cons (plainObj_wpAny_Assign_Attribute ?_)
  have v1 := bindL_get (kindOf := (envOfC qn (eScope fl) s.heap.objs.size fI cdv).kindOf) (P := [("self" : Str), fl]) (vs := [.ref x, v]) (i := 1) (m := fun _ => none) nd rfl rfl T.nm.lf
  have v0 := bindL_get (kindOf := (envOfC qn (eScope fl) s.heap.objs.size fI cdv).kindOf) (P := [("self" : Str), fl]) (vs := [.ref x, v]) (i := 0) (m := fun _ => none) nd rfl rfl T.nm.ls
  refine err_ld (v := v) hn v1 (err_ld (v := .ref x) hn v0 ?_ rfl T.nm.ls (by decide)) rfl T.nm.lf T.nm.df
  refine set_plain X₁ (ox := excO C t0) (od := none) ⟨hx₁, rfl, rfl, trivial⟩ T.sa ?_
  refine exc_osa X₁ hx₁ hcl (show refsVE (.ref C :: bm) = true from hbm) rfl T.noN (fun h₃ tk₃ dx k₃ dn dne hx₃ hn₃ => ?_)
  show wpAny _ _ (execs _ _) _ _ _
  have z : s.heap.objs.size < h₁.objs.size := hn.lt
  exact wpAny_execs_nil (hq h₃ tk₃ dx ⟨fun b o hb e => k₃ b o hb (k b o e), hx₃, Nat.le_of_lt (Nat.lt_of_lt_of_le z dn), dne, hn₃⟩)
theorem err_made (T : ErrTxt K mg c qn fl C fI) {v : Value} (X : K.In s.heap) (hlim : s.heap.NoLimit) (hroom : A.depth + 1 < recursionLimit)
    (hq : ∀ h' tk e d, ErrMade fl s.heap h' e C d v → R (.ok (.ret (.ref e))) { s with heap := h', toks := tk }) :
    codeAny (model prog w) A (.call (.ref C) ⟨[v], []⟩) R s := by
  obtain ⟨nm, q, N, bs, bm, sn, sub, ab, col, dd, k0, k1, k2, k3, k5, hC, hbm⟩ := T.cls
  obtain ⟨hp, g, dr, tk, os⟩ := s
  have k : ∀ b o, hp.get? b = some o → ((hp.push (kdv_tup [v])).push (excO C hp.objs.size)).get? b = some o := fun b o e => Heap.get?_push_of_some _ (Heap.get?_push_of_some _ e)
  have hget : ((hp.push (kdv_tup [v])).push (excO C hp.objs.size)).get? (hp.objs.size + 1) = some (excO C hp.objs.size) := by heap_get
  have hnx : K.lookup (hp.objs.size + 1) = none := by
    cases e : K.lookup (hp.objs.size + 1) with
    | none => rfl
    | some o =>
      have z : hp.get? (hp.objs.size + 1) = some o := X _ _ e
      exact absurd (Nat.lt_of_succ_lt (Heap.lt_size z)) (Nat.lt_irrefl _)
  refine call_own F.excBase_ValueError (fun X => refsVE_contains X bm hbm) (X _ _ hC) (looks_findIn X T.iC) (fun self => bind_fn X self T.tC) (len_one v) ?_
  refine err_init (s := ⟨(hp.push (kdv_tup [v])).push (excO C hp.objs.size), g, dr, tk, os⟩) T (X.keeps k) (hlim.keeps k) hget hnx ?_ fun h' tk' dx ⟨k', hx, dn, dne, hns⟩ => ?_
  · show A.depth + 1 < recursionLimit
    exact hroom
  · have old : ∀ b o, hp.get? b = some o → h'.get? b = some o := fun b o e => k' b o (Nat.ne_of_lt (Nat.lt_succ_of_lt (Heap.lt_size e))) (k b o e)
    have z : hp.objs.size + 1 + 1 ≤ dx := by
      first
        | (simpa only [Heap.size_push] using dn)
        | exact dn
        | (have q := dn; rw [Heap.size_push, Heap.size_push] at q; exact q)
    exact ⟨rfl, hq h' tk' (hp.objs.size + 1) dx ⟨old, Nat.le_succ _, ⟨_, _, hx, rfl, rfl, rfl, rfl⟩, Nat.le_trans (Nat.le_trans (Nat.le_succ _) (Nat.le_succ _)) z, dne, hns⟩⟩
theorem relO_err {v : V} {v' : Value} (r : RelV v v') (f : Str) : RelO (List.lookup f [(fl, v)]) (if f = fl then some v' else none) := by
  by_cases hw : f = fl
  · subst hw
    rw [if_pos rfl]
    have q : List.lookup f [(f, v)] = some v := by simp [List.lookup]
    rw [q]
    exact r
  · rw [if_neg hw]
    have qw : (f == fl) = false := by simpa using hw
    have q2 : List.lookup f [(fl, v)] = none := by simp [List.lookup, qw]
    rw [q2]
    trivial
end
section
variable {X : Cx} {T : Tb} {Wx : WX} {c qn fl : Str} {C fI : Addr}
/-- c(e) -/
def tMkErr (C : Addr) (fl : Str) (ta : TA) : St → Hp → XK → Prop := fun σ H Q => ta σ H fun vs H1 => ∃ v, vs = [v] ∧ ∀ d, H1 d = none → Q (.ref C) (some d) (upd H1 d (.xd [(fl, v)]))
theorem pmk_err {a : Expr} {ta : TA} {p pos : Pos} {k : Nat} (E : ErrTxt X.K X.mg c qn fl C fI) (hr : Room k X.A) (ha : PA X [a] ta) (hg : Gl X c) (hdb : (c == ("__debug__" : Str)) = false := by decide)
    (he : starEach (a :: []) X.env = (false, eval a X.env) :: starEach [] X.env := by rfl) (hpl : (backTo pos (starEach [] X.env)).any (·.1) = false := by rfl) :
    PMk X (.Call (.Name c p) [a] [] pos) (tMkErr C fl ta) := by
  intro pins s σ H Q I h
  refine wpAny_Call_Name_kw (ld_glob I hg E.gC ?_ hdb)
  refine PySem.W.callWith_K (h₀ := X.base) I.ok.mod.kin E.kC (thn (ha.run pos pins s σ H _ I h) fun us s1 hh => ?_) he hpl
  obtain ⟨vs, H1, I1, r1, v, ev, q1⟩ := hh
  subst ev
  refine ⟨I1.kIn, ?_⟩
  cases r1 with
  | cons rv rn =>
    rename_i v' us'
    cases rn
    show wpAny _ _ (call (.ref C) [v']) _ _ _
    have hlim := I1.nolimit
    obtain ⟨hp, g, dr, tk, os⟩ := s1
    refine wpAny_call (err_made E I1.kIn hlim (by have := hr.dp; omega) fun h' tk' e d M => ?_)
    show MkP X pins σ Q (.ref e) ⟨h', g, dr, tk', os⟩
    obtain ⟨oe, fv, hoe, hc, hd, hdat, h1⟩ := M.obj
    have hns := M.ns
    obtain ⟨G', g1, g2⟩ := L2.restrict h' fun b => decide (b ≠ e)
    have gk : ∀ b, b ≠ e → G'.get? b = h'.get? b := fun b hb => g1 b (decide_eq_true hb)
    have ge : G'.get? e = none := g2 e (by simp)
    have old : ∀ b o, hp.get? b = some o → G'.get? b = some o := fun b o q => (gk b (Nat.ne_of_lt (Nat.lt_of_lt_of_le (Heap.lt_size q) M.new))).trans (M.keep b o q)
    have ob : ObjOk X.prog X.w (upd H1 d (.xd [(fl, v)])) G' d (.xd [(fl, v)]) :=
      ⟨_, hns.at (fun o q => (gk d M.dne).trans q), fun f => relO_err rv f⟩
    have J : Inv X pins σ (upd H1 d (.xd [(fl, v)])) ⟨G', g, dr, tk', os⟩ := I1.laid (t' := tk') old M.dbig ob
    refine ⟨e, oe, fv, ⟨G', g, dr, tk', os⟩, _, .ref C, some d, rfl, J, fun b o q => ?_, ge, hoe, ⟨hc, hd⟩, hdat, h1, ?_, rfl, I1.bare, raises_own E.exC E.tyC, q1 d (I1.hok.fresh M.dbig)⟩
    · by_cases hb : b = e
      · have q' : G'.get? b = some o := q
        rw [hb, ge] at q'; cases q'
      · exact (gk b hb).symm.trans q
    · rw [upd_ne (Ne.symm M.dne)]
      exact I1.hok.fresh M.new
/-- the field of the exception that a suite holds at a -/
def tErrF (C : Addr) (fl : Str) (a : Addr) (cls : Value) (d : Option Addr) (te : TE) : TE := fun σ H Q => te σ H fun x H1 => x = .ref a ∧ cls = .ref C ∧ ∃ (dd : Addr) (v : V), d = some dd ∧ H1 dd = some (.xd [(fl, v)]) ∧ Q v H1
theorem pe_errF {a : Addr} {oe : Obj} {cls : Value} {d : Option Addr} {pn : List (Addr × Obj)} {e : Expr} {te : TE} {pos : Pos} (E : ErrTxt X.K X.mg c qn fl C fI) (hz : Zc cls d oe) (hf : ∃ vs, oe.data = .fields vs) (he : PE (X.suite a ((a, oe) :: pn)) e te)
    (hb : attributeBase e fl X.env (eval e X.env) = eval e X.env := by rfl) :
    PE (X.suite a ((a, oe) :: pn)) (.Attribute e fl pos) (tErrF C fl a cls d te) := by
  refine ⟨fun pins s σ H Q I h => ?_⟩
  refine attr_of hb (thn (he.run pins s σ H _ I h) fun u s1 hh => ?_)
  obtain ⟨x, H1, I1, rx, ex, ec, dd, v, ed, ea, q⟩ := hh
  subst ex
  obtain rfl : u = Value.ref a := rx
  subst ec
  subst ed
  obtain ⟨ha, _⟩ := I1.pin (a, oe) (List.mem_append_left _ List.mem_cons_self)
  obtain ⟨vs, hd⟩ := hf
  have hx : ObjOk X.prog X.w H1 s1.heap dd (.xd [(fl, v)]) := I1.hok dd _ ea
  obtain ⟨mA, hns, hr⟩ := hx
  obtain ⟨od, ho, hl⟩ := lookIn_ns hns
  have l : List.lookup fl [(fl, v)] = some v := by simp [List.lookup]
  obtain ⟨u, hu, ru⟩ := RelO.some_of (v := v) (o := mA fl) (by rw [← l]; exact hr fl)
  have J : PySem.W.InstAt s1.heap a oe C (some od) := ⟨ha, hz.1, by unfold PySem.W.notCls; rw [hd] <;> rfl, by rw [hz.2]; exact ho⟩
  exact HandSPX.exc_get I1.kIn J E.ga E.gg E.exC (PySem.W.findObj_own E.hdC E.noN rfl (by rw [hl, hu])) (handed_of ru) ⟨v, H1, I1.tok _, ru, q⟩

/-! ### raise c(e) -/
def bRaise (c fl : Str) (f : Env → M D) : SM := fun env st => sOut (f env st) env fun d st' => .ex ⟨c, some (fl, d)⟩ env st'
theorem ss_raise {a : Expr} {f : Env → M D} {p pos pos2 : Pos} {k : Nat} (hc : X.calm = true) (E : ErrTxt X.K X.mg c qn fl C fI) (hr : Room k X.A) (tk : Takes X Wx) (ha : SE X T Wx a f) (hg : Gl X c) (hdb : (c == ("__debug__" : Str)) = false := by decide)
    (he : starEach (a :: []) X.env = (false, eval a X.env) :: starEach [] X.env := by rfl) (hpl : (backTo pos (starEach [] X.env)).any (·.1) = false := by rfl) :
    SS X T Wx (.Raise (some (.Call (.Name c p) [a] [] pos)) none pos2) (bRaise c fl f) := by
  refine ⟨(ps_raise hc tk (pmk_err E hr (pa_cons ha.pe pa_nil he) hg hdb he hpl)).imp fun D σ H => ?_⟩
  rintro ⟨W, env, st, rl, h⟩
  refine ⟨W, env, st, rl, postS_out rl h fun W' d st' H' e r p v rv => ⟨v, rfl, fun dd hd => ?_⟩⟩
  obtain ⟨e2, ok2⟩ := r.hp.frozen (o := .xd [(fl, v)]) hd
  exact p _ σ _ (.ref C) (some dd) e2 (r.ext e2 ok2) ⟨C, E.gC, rfl, dd, v, rfl, upd_same, rv.ext e2⟩
end
end Sv
/-! Sv14: try with any list of clauses, each with a name or without. -/
namespace Sv
open PySem L2 LamX
open PyProof.Rows hiding St

/-- a clause: its class, its name's slot, its suite's reading by the exception's place, class and dict -/
abbrev Cl3 := Value × Option Nat × (Addr → Value → Option Addr → TS)
def gone (i : Option Nat) (σ : St) : St := match i with
  | some i => σ.set i none
  | none => σ
def held (i : Option Nat) (a : Addr) (σ : St) : St := match i with
  | some i => σ.set i (some (.ref a))
  | none => σ
def endsAt (i : Option Nat) (D : Ends) : Ends := { nx := fun σ H => D.nx (gone i σ) H, rt := D.rt, bk := fun σ H => D.bk (gone i σ) H, ct := fun σ H => D.ct (gone i σ) H }
def wTry (K : PySem.W.Frag) (Wout : WX) (D : Ends) : List Cl3 → WX
  | [] => Wout
  | (c, i, ts) :: r => fun cls d σ H => ∃ b, PySem.W.exmOne K cls c = some b ∧ (b = true → ∀ a, H a = none → ts a cls d (endsAt i D) (held i a σ) H) ∧ (b = false → wTry K Wout D r cls d σ H)
inductive HdA (X : Cx) : List ExceptHandler → List Cl3 → Prop
  | nil : HdA X [] []
  | cons {x : Str} {c : Value} {n : Option Str} {i : Option Nat} {ts : Addr → Value → Option Addr → TS} {b₀ : Stmt} {suite : List Stmt} {np pos' : Pos} {hds : List ExceptHandler} {l : List Cl3} (hc : Names X x c)
      (hn : (n = none ∧ i = none) ∨ ∃ n' i', n = some n' ∧ i = some i' ∧ X.N[i']? = some n' ∧ X.env.kindOf n' = some .local)
      (hsu : ∀ (a : Addr) (oe : Obj) (cls : Value) (d : Option Addr) (pn : List (Addr × Obj)), Zc cls d oe → (∃ vs, oe.data = .fields vs) → PSs (X.suite a ((a, oe) :: pn)) (b₀ :: suite) (ts a cls d)) (r : HdA X hds l) :
      HdA X (.ExceptHandler (some (.Name x np)) n (b₀ :: suite) pos' :: hds) ((c, i, ts) :: l)
section
variable {X : Cx} {body : List Stmt} {h₀ : ExceptHandler} {hds : List ExceptHandler} {l : List Cl3} {pos : Pos} {tb : WX → TS} {Wout : WX}
theorem try_all (hs : X.stack = X.env :: X.outer) (hf : X.env.frame = some X.env.locals) (hN : X.N.Nodup) (tk : Takes X Wout)
    (hb : ∀ (W : WX) (pn : List (Addr × Obj)) (xe : Value → Shared → Prop), Takes (X.tr pn xe) W → PassesOwn (model X.prog X.w) X.A X.env xe → PSs (X.tr pn xe) body (tb W))
    (hh : HdA X (h₀ :: hds) l) : PS X (.Try body (h₀ :: hds) [] [] pos) (fun D σ H => tb (wTry X.K Wout D l) D σ H) := by
  refine ⟨fun pins s σ H D I h => ?_⟩
  have ok := I.ok
  have hfr : X.A.frames = some (X.env :: X.outer) := by rw [ok.frames, hs]
  refine wpAny_Try_except ?_
  refine wpAny_mono ((hb (wTry X.K Wout D l) (X.pn ++ pins) (fun e s₁ => wpAny (model X.prog X.w) X.A (noteFrame e X.env) (fun _ s₂ => wpAny (model X.prog X.w) X.A (setFlight e none) (fun _ s₃ =>
    wpAny (model X.prog X.w) X.A (handleBy e X.env (h₀ :: hds)) (SP X pins D) X.xe s₃) X.xe s₂) X.xe s₁) (fun u s' xx => ?_) PassesOwn.looking).run [] s σ H D (I.toTry _) h) (fun f s1 hsp => ?_) (fun e s1 he => he)
  · obtain ⟨a, B, sI, pins', σ', H', cls, d, rfl, J', nb, up, sky, na, os, ag, w⟩ := xx
    have J : Inv X pins σ' H' sI := J'.ofTry ok
    have sky' : Sky B (X.env :: X.outer) a (Zc cls d) X.env.locals s'.heap := by rw [← hs]; exact sky
    show wpAny (model X.prog X.w) X.A (noteFrame (.ref a) X.env) _ _ _
    refine Sky.land Zc.steady hfr hf sky' fun h3 fl3 up3 => ?_
    have J3 : Inv X pins σ' H' { s' with heap := h3 } := J.landed nb fl3.1 (up.trans up3) os ag
    obtain ⟨oe3, vs3, he3, hz3, hd3⟩ := fl3.there
    have nfr : a ∉ frs (X.env :: X.outer) := fun hm => by
      obtain ⟨_, o', e', hnf⟩ := fl3.2.2.1.mem hm
      rw [he3] at e'; cases e'
      exact hnf _ hd3
    have nL : a ≠ X.env.locals := fun z => nfr (List.mem_filterMap.mpr ⟨X.env, List.mem_cons_self, by rw [hf, z]⟩)
    have nF : a ∉ X.fs := fun hm => by
      obtain ⟨e, he, q⟩ := List.mem_filterMap.mp hm
      exact nfr (List.mem_filterMap.mpr ⟨e, List.mem_cons_of_mem _ he, q⟩)
    have S3 := J3.suite he3 hd3 na nL nF
    have go : ∀ {hds' : List ExceptHandler} {l' : List Cl3}, HdA X hds' l' → wTry X.K Wout D l' cls d σ' H' → wpAny (model X.prog X.w) X.A (handleBy (.ref a) X.env hds') (SP X pins D) X.xe { s' with heap := h3 } := by
      intro hds' l' hk
      induction hk with
      | nil =>
        intro w
        refine wpAny_handleBy_nil ?_
        obtain ⟨k1, k2, k3, oe, vs, T, oT, ts', he, hz, hd, h1, hr⟩ := id fl3
        unfold PySem.passOn
        refine wpAny_bind (wpAny_field he hd h1 ?_)
        rw [if_neg (show ¬ ((Value.ref T == Value.none) = true) from by simp)]
        have fin : wpAny (model X.prog X.w) X.A (setFlight (.ref a) X.env.frame) (fun _ s4 => wpAny (model X.prog X.w) X.A (throw (.ref a) : Sem Flow) (SP X pins D) X.xe s4) X.xe { s' with heap := h3 } := by
          rw [hf]
          refine HandSPX.setFlight_upZ fl3 fun h4 hh4 up4 => wpAny_throw (tk _ _ ?_)
          exact ⟨a, B, sI, pins, σ', H', cls, d, rfl, J, nb, (up.trans up3).trans up4, .inr (.inr (by rw [hs]; exact hh4)), na, os, ag, w⟩
        first
          | exact wpAny_bind (wpAny_pure (wpAny_bind fin))
          | exact wpAny_bind fin
      | @cons x c n i ts b₀ suite np pos' hds2 l2 hc hn hsu r ih =>
        intro w
        obtain ⟨b, hb1, hyes, hno⟩ := w
        refine wpAny_handleBy_cons (codeAny_handlers_test ?_) (by intro q; cases q)
        have LT : PySem.W.Looks (model X.prog X.w) h3 (typeOf (.ref a)) cls := fun A Q E s k q => wpAny_typeOf_ref (k _ _ he3) (by rw [hz3.1]; exact q)
        have LM := PySem.W.exm_one (M := model X.prog X.w) (J3.kIn) LT hb1
        have test : ∀ {Q : Value → Shared → Prop} {E : Value → Shared → Prop}, Q c { s' with heap := h3 } → wpAny (model X.prog X.w) (X.A.mark (some (.ref a))) (eval (.Name x np) X.env) Q E { s' with heap := h3 } := fun {Q E} q => by
          obtain ⟨hg, hdbg, hm | ⟨hm, hv, hnn⟩⟩ := hc
          · exact ld_glob (X := X.suite a ((a, oe3) :: (X.pn ++ pins))) S3 hg hm q hdbg
          · exact ld_blt (X := X.suite a ((a, oe3) :: (X.pn ++ pins))) S3 hg hm hv q hnn hdbg
        refine test (LM.here ?_)
        cases b with
        | false =>
          show wpAny _ X.A (handleBy (.ref a) X.env hds2) _ _ _
          exact ih (hno rfl)
        | true =>
          have land2 : ∀ {Q : Shared → Prop}, (∀ h4 oe4, Inv X pins σ' H' { s' with heap := h4 } → Zc cls d oe4 → (∃ vs, oe4.data = .fields vs) → Inv (X.suite a ((a, oe4) :: (X.pn ++ pins))) [] σ' H' { s' with heap := h4 } → Q { s' with heap := h4 }) →
              wpAny (model X.prog X.w) (X.A.mark (some (.ref a))) (setFlight (.ref a) none) (fun _ s => Q s) (fun _ _ => False) { s' with heap := h3 } := fun {Q} k => by
            refine HandSPX.lands_againZ fl3 fun h4 fl4 up4 => ?_
            have J4 : Inv X pins σ' H' { s' with heap := h4 } := J.landed nb fl4.1 ((up.trans up3).trans up4) os ag
            obtain ⟨oe4, vs4, he4, hz4, hd4⟩ := fl4.there
            exact k h4 oe4 J4 hz4 ⟨_, hd4⟩ (J4.suite he4 hd4 na nL nF)
          rcases hn with ⟨rfl, rfl⟩ | ⟨n', i', rfl, rfl, hi, hln⟩
          · refine codeAny_handlers_suite ?_
            refine wpAny_mono (land2 (Q := fun s4 => ∃ oe4, Zc cls d oe4 ∧ (∃ vs, oe4.data = .fields vs) ∧ Inv (X.suite a ((a, oe4) :: (X.pn ++ pins))) [] σ' H' s4) fun h4 oe4 J4 hz4 hd4 S4 => ⟨oe4, hz4, hd4, S4⟩) (fun _ s4 hs4 => ?_) (fun _ _ z => z.elim)
            obtain ⟨oe4, hz4, hd4, S4⟩ := hs4
            refine wpAny_mono ((hsu a oe4 cls d (X.pn ++ pins) hz4 hd4).run [] _ _ H' _ S4 (hyes rfl a na)) (fun f s6 hsp => ?_) (fun _ _ z => False.elim z)
            cases f with
            | next =>
              obtain ⟨σ6, H6, S6, q6⟩ := hsp
              exact ⟨_, _, S6.unsuite ok, q6⟩
            | brk =>
              obtain ⟨σ6, H6, S6, q6⟩ := hsp
              exact ⟨_, _, S6.unsuite ok, q6⟩
            | cont =>
              obtain ⟨σ6, H6, S6, q6⟩ := hsp
              exact ⟨_, _, S6.unsuite ok, q6⟩
            | ret u =>
              obtain ⟨v6, σ6, H6, S6, r6, q6⟩ := hsp
              exact ⟨_, _, _, S6.unsuite ok, r6, q6⟩
          · refine codeAny_handlers_suite_as ?_
            refine wpAny_mono (land2 (Q := fun s4 => ∃ oe4, Zc cls d oe4 ∧ (∃ vs, oe4.data = .fields vs) ∧ Inv (X.suite a ((a, oe4) :: (X.pn ++ pins))) [] σ' H' s4) fun h4 oe4 J4 hz4 hd4 S4 => ⟨oe4, hz4, hd4, S4⟩) (fun _ s4 hs4 => ?_) (fun _ _ z => z.elim)
            obtain ⟨oe4, hz4, hd4, S4⟩ := hs4
            refine store_ok (X := X.suite a ((a, oe4) :: (X.pn ++ pins))) (v := .ref a) S4 hN hi (.inl hln) rfl (fun s5 S5 => ?_) (.inr hln)
            refine wpAny_mono ((hsu a oe4 cls d (X.pn ++ pins) hz4 hd4).run [] s5 _ H' _ S5 (hyes rfl a na)) (fun f s6 hsp => ?_) (fun _ _ z => False.elim z)
            have end_ : ∀ {σ6 : St} {H6 : Hp} {Q : Shared → Prop}, Inv (X.suite a ((a, oe4) :: (X.pn ++ pins))) [] σ6 H6 s6 → (∀ s7, Inv X pins (σ6.set i' none) H6 s7 → Q s7) →
                wpAny (model X.prog X.w) X.A (do bindName X.env n' .none; unbindBehindTheSuite X.env n' pos') (fun _ s7 => Q s7) X.xe s6 := fun {σ6 H6 Q} S6 hq => gone_ok (S6.unsuite ok) hN hi hln hq
            cases f with
            | next =>
              obtain ⟨σ6, H6, S6, q6⟩ := hsp
              exact end_ S6 fun s7 J7 => ⟨_, _, J7, q6⟩
            | brk =>
              obtain ⟨σ6, H6, S6, q6⟩ := hsp
              exact end_ S6 fun s7 J7 => ⟨_, _, J7, q6⟩
            | cont =>
              obtain ⟨σ6, H6, S6, q6⟩ := hsp
              exact end_ S6 fun s7 J7 => ⟨_, _, J7, q6⟩
            | ret u =>
              obtain ⟨v6, σ6, H6, S6, r6, q6⟩ := hsp
              exact end_ S6 fun s7 J7 => ⟨_, _, _, J7, r6, q6⟩
    exact go hh w
  · cases f with
    | next =>
      obtain ⟨σ', H', J', q⟩ := hsp
      exact wpAny_execs_nil ⟨σ', H', J'.ofTry ok, q⟩
    | brk =>
      obtain ⟨σ', H', J', q⟩ := hsp
      exact ⟨σ', H', J'.ofTry ok, q⟩
    | cont =>
      obtain ⟨σ', H', J', q⟩ := hsp
      exact ⟨σ', H', J'.ofTry ok, q⟩
    | ret u =>
      obtain ⟨v, σ', H', J', r, q⟩ := hsp
      exact ⟨v, σ', H', J'.ofTry ok, r, q⟩
end

/-! ### its meaning -/
structure Hd where
  ans : Str → Option Bool
  slot : Option Nat
  suite : Ex → SM
def unF : Option D → Option D
  | some .fnv => none
  | o => o
def strip (env : Env) : Env := env.map unF
def envIn (i : Option Nat) (env : Env) : Env := match i with
  | some i => (strip env).set i (some .fnv)
  | none => strip env
def envOut (i : Option Nat) (env : Env) : Env := match i with
  | some i => (strip env).set i none
  | none => strip env
def outH (i : Option Nat) : SOut → SOut
  | .nx env st => .nx (envOut i env) st
  | .rt d st => .rt d st
  | .bk env st => .bk (envOut i env) st
  | .ct env st => .ct (envOut i env) st
  | .ex _ _ _ => .bad
  | .bad => .bad
def handleM : List Hd → Ex → SM
  | [], e => fun env st => .ex e env st
  | h :: r, e => fun env st => match h.ans e.cls with
    | none => .bad
    | some false => handleM r e env st
    | some true => outH h.slot (h.suite e (envIn h.slot env) st)
def bTry (body : SM) (hs : List Hd) : SM := fun env st => match body env st with
  | .ex e env' st' => handleM hs e env' st'
  | o => o
/-- what is known of a caught exception -/
def Caught (G : Gd) (e : Ex) (cls : Value) (d : Option Addr) : Prop := ∃ B, G.T.lo = some B ∧ ExR G B (fun _ => none) e cls d
theorem strip_get {env : Env} {i : Nat} {d : D} (h : (strip env)[i]? = some (some d)) : env[i]? = some (some d) ∧ d ≠ .fnv := by
  unfold strip at h
  rw [List.getElem?_map] at h
  cases e : env[i]? with
  | none => rw [e] at h; cases h
  | some o =>
    rw [e] at h
    have h' : unF o = some d := Option.some.inj h
    cases o with
    | none => cases h'
    | some z =>
      cases z with
      | fnv => cases h'
      | _ =>
        cases h'
        exact ⟨rfl, fun z => by cases z⟩
theorem RVf.plain {K : PySem.W.Frag} {W W' : Wd} (e : ExtB W W') {d : D} {v : V} (r : RVf K W d v) (h : d ≠ .fnv) : RVf K W' d v := by
  cases r with
  | v r => exact .v (r.extB e)
  | fn _ => exact absurd rfl h
/-- the world with another function value -/
def Wd.fn (W : Wd) (f : Option Addr) : Wd := ⟨W.F, W.m, W.P, f⟩
theorem fn_extB {W : Wd} {f : Option Addr} : ExtB W (W.fn f) := ⟨fun _ _ h => h, [], by simp [Wd.fn]⟩
theorem fn_extB' {W : Wd} {f : Option Addr} : ExtB (W.fn f) W := ⟨fun _ _ h => h, [], by simp [Wd.fn]⟩
theorem ObR.extB {G : Gd} {W W' : Wd} (e : ExtB W W') {H : Hp} {a : Addr} : ∀ {o : Ob}, ObR G W H a o → ObR G W' H a o
  | .lst _, ⟨vs, x, r⟩ => ⟨vs, x, r.extB e⟩
  | .dct _ _, ⟨kvs, x, r, q⟩ => ⟨kvs, x, r, q.extB e⟩
  | .ins _ _, ⟨C, dx, gs, g, x, r⟩ => ⟨C, dx, gs, g, x, by
    clear x
    induction r with
    | nil => exact .nil
    | cons r t ih => exact .cons (r.extB e) ih⟩
theorem HeapOk.fn {G : Gd} {W : Wd} {st : Store} {H : Hp} (ok : HeapOk G W st H) (f : Option Addr) : HeapOk G (W.fn f) st H :=
  ⟨ok.fz, ok.len, ok.inj, fun n o q => let ⟨a, x, y, z⟩ := ok.ob n o q; ⟨a, x, y, z.extB fn_extB⟩, ok.tab, ok.pr, ok.nt⟩
/-- in the suite's world: the frame -/
abbrev Tb.in_ (T : Tb) (B : Wd) (a : Option Addr) : Tb := ⟨T.tabs, some B, a⟩
theorem HeapOk.tb {K : PySem.W.Frag} {mg : Str → Option Value} {T T' : Tb} {W : Wd} {st : Store} {H : Hp} (h : T'.tabs = T.tabs) (ok : HeapOk ⟨K, mg, T⟩ W st H) : HeapOk ⟨K, mg, T'⟩ W st H :=
  ⟨ok.fz, ok.len, ok.inj, fun n o q => let ⟨a, x, y, z⟩ := ok.ob n o q; ⟨a, x, y, ObR.plain.mpr (ObR.plain.mp z)⟩, by
    show Tabs T'.tabs H
    rw [h]
    exact ok.tab, ok.pr, ok.nt⟩
section
variable {X : Cx} {T : Tb} {Wx : WX} {body : List Stmt} {pos : Pos} {sf : SM}
/-- a clause's derivation -/
structure SHd (X : Cx) (T : Tb) (h : ExceptHandler) (m : Hd) : Prop where
  ok : ∃ (x : Str) (c : Value) (n : Option Str) (b₀ : Stmt) (suite : List Stmt) (np pos' : Pos), h = .ExceptHandler (some (.Name x np)) n (b₀ :: suite) pos' ∧ Names X x c ∧
    ((n = none ∧ m.slot = none) ∨ ∃ n' i', n = some n' ∧ m.slot = some i' ∧ X.N[i']? = some n' ∧ X.env.kindOf n' = some .local) ∧
    (∀ cn b C, m.ans cn = some b → X.mg cn = some (.ref C) → PySem.W.exmOne X.K (.ref C) c = some b) ∧
    ∀ (a : Addr) (oe : Obj) (cls : Value) (d : Option Addr) (pn : List (Addr × Obj)) (B : Wd) (e : Ex), Zc cls d oe → (∃ vs, oe.data = .fields vs) → ExR (Gof X T) B (fun _ => none) e cls d →
      SB (X.suite a ((a, oe) :: pn)) (T.in_ B (some a)) WF (b₀ :: suite) (m.suite e)
inductive SHds (X : Cx) (T : Tb) : List ExceptHandler → List Hd → Prop
  | nil : SHds X T [] []
  | cons {h : ExceptHandler} {m : Hd} {hs : List ExceptHandler} {ms : List Hd} : SHd X T h m → SHds X T hs ms → SHds X T (h :: hs) (m :: ms)
/-- a suite's reading: from what is known of the exception -/
def tSu (X : Cx) (T : Tb) (m : Hd) : Addr → Value → Option Addr → TS := fun a cls d D σ H => ∃ B e, ExR (Gof X T) B (fun _ => none) e cls d ∧ tS (Gof X (T.in_ B (some a))) WF (m.suite e) D σ H
theorem SHds.hdA {c0 : List Value} : ∀ {hs : List ExceptHandler} {ms : List Hd}, SHds X T hs ms → ∃ cs : List Value, cs.length = ms.length ∧ HdA X hs ((cs.zip ms).map fun p => (p.1, p.2.slot, tSu X T p.2)) ∧
    ∀ p ∈ cs.zip ms, ∀ cn b C, p.2.ans cn = some b → X.mg cn = some (.ref C) → PySem.W.exmOne X.K (.ref C) p.1 = some b
  | _, _, .nil => ⟨[], rfl, .nil, fun p hp => by cases hp⟩
  | _, _, .cons (m := m) h t => by
    obtain ⟨cs, l, hd, ha⟩ := SHds.hdA (c0 := c0) t
    obtain ⟨x, c, n, b₀, suite, np, pos', rfl, hc, hn, hans, hsu⟩ := h.ok
    refine ⟨c :: cs, by rw [List.length_cons, List.length_cons, l], .cons hc hn (fun a oe cls d pn hz hf => ⟨fun pins s σ H D I k => ?_⟩) hd, fun p hp => ?_⟩
    · obtain ⟨B, e, hx, k⟩ := k
      exact (hsu a oe cls d pn B e hz hf hx).pss.run pins s σ H D I k
    · rcases List.mem_cons.mp (show p ∈ (c, m) :: cs.zip _ from hp) with rfl | hp
      · exact hans
      · exact ha p hp
theorem gone_fr {G G' : Gd} {W : Wd} {W' : Wd} {σ : St} {env : Env} (hK : G'.K = G.K) (r : Fr G W σ env) (e : ExtB W W') (hlo : ∀ B, G'.T.lo = some B → ExtB B W') (hfx : ∀ a, G'.T.fa = some a → W'.f = some a) : Fr G' W' σ (strip env) := by
  refine ⟨by unfold strip; rw [List.length_map]; exact r.len, fun i d q => ?_, hlo, hfx⟩
  obtain ⟨q1, q2⟩ := strip_get q
  obtain ⟨v, a, b⟩ := r.sl i d q1
  exact ⟨v, a, by rw [hK]; exact b.plain e q2⟩
theorem suite_go {D : Ends} {m : Hd} {W : Wd} {σ : St} {H : Hp} {env : Env} {st : Store} {a : Addr} {e : Ex} {cls : Value} {d : Option Addr} (rl : Rel (Gof X T) W σ H env st) (hx : ExR (Gof X T) W H e cls d)
    (p : PostS (Gof X T) Wx W D (outH m.slot (m.suite e (envIn m.slot env) st))) : tSu X T m a cls d (endsAt m.slot D) (held m.slot a σ) H := by
  refine ⟨W, e, hx, W.fn (some a), envIn m.slot env, st, ⟨?_, HeapOk.tb (T := T) (T' := T.in_ W (some a)) rfl (rl.hp.fn _)⟩, ?_⟩
  · have f0 : Fr (Gof X (T.in_ W (some a))) (W.fn (some a)) σ (strip env) := gone_fr (G := Gof X T) (G' := Gof X (T.in_ W (some a))) rfl rl.toFr fn_extB (fun B q => by cases q; exact fn_extB) (fun b q => by cases q; rfl)
    unfold envIn held
    cases m.slot with
    | none => exact f0
    | some i => exact f0.set (.fn rfl) i
  · have back : ∀ {W' : Wd} {H' : Hp} {st' : Store}, Ext (W.fn (some a)) W' → HeapOk (Gof X (T.in_ W (some a))) W' st' H' → Ext W (W'.fn W.f) ∧ HeapOk (Gof X T) (W'.fn W.f) st' H' := fun {W' H' st'} x ok =>
      ⟨⟨⟨⟨x.F, x.m⟩, rfl⟩, x.P⟩, HeapOk.tb (T := T.in_ W (some a)) (T' := T) rfl (ok.fn _)⟩
    have rel : ∀ {W' : Wd} {σ' : St} {H' : Hp} {st' : Store} {env' : Env}, Ext (W.fn (some a)) W' → Rel (Gof X (T.in_ W (some a))) W' σ' H' env' st' → Ext W (W'.fn W.f) ∧ Rel (Gof X T) (W'.fn W.f) (gone m.slot σ') H' (envOut m.slot env') st' := fun {W' σ' H' st' env'} x r => by
      obtain ⟨b1, b2⟩ := back x r.hp
      refine ⟨b1, ?_, b2⟩
      have f0 : Fr (Gof X T) (W'.fn W.f) σ' (strip env') := gone_fr (G := Gof X (T.in_ W (some a))) (G' := Gof X T) rfl r.toFr fn_extB (fun B q => (rl.lo B q).trans b1.toExtB) (fun b q => rl.fx b q)
      unfold gone envOut
      cases m.slot with
      | none => exact f0
      | some i => exact f0.wipe1 none i
    cases q : m.suite e (envIn m.slot env) st with
    | nx env' st' =>
      rw [q] at p
      intro W' σ' H' x r
      obtain ⟨b1, b2⟩ := rel x r
      exact p _ _ _ b1 b2
    | rt d' st' =>
      rw [q] at p
      intro W' H' v x ok rv
      obtain ⟨b1, b2⟩ := back x ok
      exact p _ _ v b1 b2 (rv.extB fn_extB)
    | bk env' st' =>
      rw [q] at p
      intro W' σ' H' x r
      obtain ⟨b1, b2⟩ := rel x r
      exact p _ _ _ b1 b2
    | ct env' st' =>
      rw [q] at p
      intro W' σ' H' x r
      obtain ⟨b1, b2⟩ := rel x r
      exact p _ _ _ b1 b2
    | ex _ _ _ => rw [q] at p; exact p.elim
    | bad => rw [q] at p; exact p.elim
theorem handle_go {D : Ends} : ∀ (cs : List Value) (ms : List Hd), cs.length = ms.length → (∀ p ∈ cs.zip ms, ∀ cn b C, p.2.ans cn = some b → X.mg cn = some (.ref C) → PySem.W.exmOne X.K (.ref C) p.1 = some b) →
    ∀ {W : Wd} {σ : St} {H : Hp} {env : Env} {st : Store} {e : Ex} {cls : Value} {d : Option Addr}, Rel (Gof X T) W σ H env st → ExR (Gof X T) W H e cls d → PostS (Gof X T) Wx W D (handleM ms e env st) → wTry X.K Wx D ((cs.zip ms).map fun p => (p.1, p.2.slot, tSu X T p.2)) cls d σ H
  | [], [], _, _, W, σ, H, env, st, e, cls, d, rl, hx, p => p W σ H cls d (Ext.refl W) rl hx
  | c :: cs, m :: ms, hl, ha, W, σ, H, env, st, e, cls, d, rl, hx, p => by
    have p' : PostS (Gof X T) Wx W D (match m.ans e.cls with | none => .bad | some false => handleM ms e env st | some true => outH m.slot (m.suite e (envIn m.slot env) st)) := p
    obtain ⟨C, hC, hcls, hrest⟩ := id hx
    subst hcls
    cases q : m.ans e.cls with
    | none => rw [q] at p'; exact p'.elim
    | some b =>
      have hm := ha (c, m) List.mem_cons_self e.cls b C q hC
      refine ⟨b, hm, fun hb a na => ?_, fun hb => ?_⟩
      · subst hb
        rw [q] at p'
        exact suite_go rl hx p'
      · subst hb
        rw [q] at p'
        exact handle_go cs ms (Nat.succ.inj hl) (fun z hz => ha z (List.mem_cons_of_mem _ hz)) rl hx p'
  | [], _ :: _, hl, _, _, _, _, _, _, _, _, _, _, _, _ => by cases hl
  | _ :: _, [], hl, _, _, _, _, _, _, _, _, _, _, _, _ => by cases hl
theorem ss_try {h₀ : ExceptHandler} {hds : List ExceptHandler} {ms : List Hd} (hs : X.stack = X.env :: X.outer) (hf : X.env.frame = some X.env.locals) (hN : X.N.Nodup) (tk : Takes X Wx)
    (hb : ∀ (W : WX) (pn : List (Addr × Obj)) (xe : Value → Shared → Prop), Takes (X.tr pn xe) W → PassesOwn (model X.prog X.w) X.A X.env xe → SB (X.tr pn xe) T W body sf) (hh : SHds X T (h₀ :: hds) ms) :
    SS X T Wx (.Try body (h₀ :: hds) [] [] pos) (bTry sf ms) := by
  obtain ⟨cs, l, hd, ha⟩ := hh.hdA (c0 := [])
  refine ⟨(try_all (tb := fun W => tS (Gof X T) W sf) hs hf hN tk (fun W pn xe tk' po => (hb W pn xe tk' po).pss) hd).imp fun D σ H => ?_⟩
  rintro ⟨W, env, st, rl, h⟩
  refine ⟨W, env, st, rl, ?_⟩
  unfold bTry at h
  cases q : sf env st with
  | ex e env' st' =>
    rw [q] at h
    intro W' σ' H' cls d x rl' hx
    exact handle_go cs ms l ha rl' hx (PostS.ext x h)
  | nx env' st' => rw [q] at h; exact h
  | rt d st' => rw [q] at h; exact h
  | bk env' st' => rw [q] at h; exact h
  | ct env' st' => rw [q] at h; exact h
  | bad => rw [q] at h; exact h

/-! ### in the suite: the field -/
def sErr (e : Ex) (i : Nat) (c fl : Str) : Env → M D := fun env st => match env[i]? with
  | some (some .fnv) => (match e.fld with
    | some (f, d) => gd (e.cls == c && f == fl) (ret d) st
    | none => .bad)
  | _ => .bad
theorem se_err {a : Addr} {oe : Obj} {cls : Value} {d : Option Addr} {pn : List (Addr × Obj)} {B : Wd} {e : Ex} {c qn fl n : Str} {C fI : Addr} {i : Nat} {p pos : Pos} (E : ErrTxt X.K X.mg c qn fl C fI) (hz : Zc cls d oe) (hf : ∃ vs, oe.data = .fields vs) (hx : ExR (Gof X T) B (fun _ => none) e cls d)
    (hN : X.N[i]? = some n) (hv : Vis X.env.scope n) (hd : (n == ("__debug__" : Str)) = false := by decide) (hcd : (n == ("__classdict__" : Str)) = false := by decide) (hb : attributeBase (.Name n p) fl X.env (eval (.Name n p) X.env) = eval (.Name n p) X.env := by rfl) :
    SE (X.suite a ((a, oe) :: pn)) (T.in_ B (some a)) Wx (.Attribute (.Name n p) fl pos) (sErr e i c fl) := by
  refine ⟨(pe_errF E hz hf (pe_var (X := X.suite a ((a, oe) :: pn)) (i := i) (pos := p) hN hv hd hcd) hb).imp fun σ H Q => ?_⟩
  rintro ⟨W, env, st, rl, h⟩
  unfold sErr at h
  cases q : env[i]? with
  | none => rw [q] at h; exact h.elim
  | some o =>
    cases o with
    | none => rw [q] at h; exact h.elim
    | some z =>
      cases z with
      | fnv =>
        rw [q] at h
        dsimp only at h
        obtain ⟨v, e1, e2⟩ := rl.sl i .fnv q
        cases e2 with
        | v r => cases r
        | fn hw =>
          have hw2 := rl.fx a rfl
          rw [hw2] at hw
          cases hw
          obtain ⟨C', hC', hcls, hrest⟩ := hx
          cases q2 : e.fld with
          | none => rw [q2] at h; exact h.elim
          | some fx =>
            obtain ⟨f, x⟩ := fx
            rw [q2] at h hrest
            obtain ⟨hc, h3⟩ := Post.gd h
            rw [Bool.and_eq_true] at hc
            have ec := beq_iff_eq.mp hc.1
            have ef := beq_iff_eq.mp hc.2
            subst ef
            rw [ec] at hC'
            have eC := E.gC
            rw [show X.mg c = some (.ref C') from hC'] at eC
            cases eC
            obtain ⟨dd, v', k1, k2, k3⟩ := hrest
            have lo := rl.lo B rfl
            exact ⟨.ref a, e1, rfl, hcls, dd, v', k1, rl.hp.fz _ _ (lo.F _ _ k2), Post.here h3 rl.hp (k3.extB lo)⟩
      | _ => rw [q] at h; exact h.elim
end
end Sv
/-! Sv15: a lambda with parameters, handed to a def that calls it. -/
namespace Sv
open PySem L2 LamX
open PyProof.Rows hiding St

/-! ### the lambda's names -/
/-- N: the maker's names; vs: those that the lambda does not know; ps: its parameters -/
structure LamP (N : List Str) (vs : List Nat) (ps : List Str) (sc scope : Scope) : Prop where
  kind : scope.kind = .function
  co : scope.isCoroutine = false
  gen : scope.isGenerator = false
  nocell : ∀ y ∈ scope.names, y.2 ≠ .cell
  free : ∀ y ∈ scope.names, y.2 = .free → sc.names.lookup y.1 = some .cell ∨ sc.names.lookup y.1 = some .free
  par : ∀ y ∈ ps, scope.names.lookup y = some .local
  loc : ∀ y, scope.names.lookup y = some .local → y ∈ ps
  nd : ps.Nodup
  cap : ∀ (i : Nat) (y : Str), N[i]? = some y → i ∉ vs → scope.names.lookup y = some .free
def lamPB (N : List Str) (vs : List Nat) (ps : List Str) (sc scope : Scope) : Bool :=
  decide (scope.kind = .function) && !scope.isCoroutine && !scope.isGenerator && decide ps.Nodup &&
    (scope.names.all fun y => !decide (y.2 = .cell) && (!decide (y.2 = .free) || decide (sc.names.lookup y.1 = some .cell) || decide (sc.names.lookup y.1 = some .free)) && (!decide (y.2 = .local) || decide (y.1 ∈ ps))) &&
    (ps.all fun y => decide (scope.names.lookup y = some .local)) &&
    (List.range N.length).all fun i => decide (i ∈ vs) || match N[i]? with
      | some y => decide (scope.names.lookup y = some .free)
      | none => true
theorem lamP_by {N : List Str} {vs : List Nat} {ps : List Str} {sc scope : Scope} (h : lamPB N vs ps sc scope = true) : LamP N vs ps sc scope := by
  unfold lamPB at h
  simp only [Bool.and_eq_true, Bool.or_eq_true, Bool.not_eq_true', decide_eq_true_eq, decide_eq_false_iff_not, List.all_eq_true] at h
  obtain ⟨⟨⟨⟨⟨⟨h1, h2⟩, h3⟩, h4⟩, h5⟩, h6⟩, h7⟩ := h
  refine ⟨h1, h2, h3, fun y hy => (h5 y hy).1.1, fun y hy e => ?_, h6, fun y hy => ?_, h4, fun i y hi hv => ?_⟩
  · rcases (h5 y hy).1.2 with (z | z) | z
    · exact absurd e z
    · exact .inl z
    · exact .inr z
  · have hm := PySem.mem_of_lookup hy
    rcases (h5 _ hm).2 with z | z
    · exact absurd rfl z
    · exact z
  · have hl := (List.getElem?_eq_some_iff.mp hi).1
    rcases h7 i (List.mem_range.mpr hl) with z | z
    · exact absurd z hv
    · rw [hi] at z
      simpa using z
/-- the context of the lambda's body -/
def lamCP (X : Cx) (ps : List Str) (A : Around) (outer : List PySem.Env) (s : Shared) (H : Hp) (E : XK) (scope : Scope) (f c' : Addr) : Cx := { lamCx X A outer s H E scope f c' with N := X.N ++ ps }
def lamσ (σ : St) (vs : List Nat) (as : List V) : St := wipe σ vs ++ as.map some
theorem wipe_mem {σ : St} {i : Nat} {v : V} : ∀ {vs : List Nat}, (wipe σ vs)[i]? = some (some v) → σ[i]? = some (some v) ∧ i ∉ vs := fun {vs} h => wipe_some h
section
variable {X : Cx} {pins : List (Addr × Obj)} {σ : St} {H HZ : Hp} {s s1 : Shared} {ps : List Str} {vs : List Nat}
theorem lam_enter {A : Around} {outer : List PySem.Env} {E : XK} {scope : Scope} {f c' : Addr} {h₁ : Heap} {tk : Nat} {us : List Value} {as : List V} (I : Inv X pins σ H s) (L : LamP X.N vs ps X.env.scope scope) (e0 : Env0 X.prog X.w X.K X.mg X.base A outer s1 HZ) (hd : A.handled = none)
    (un : Un (frs X.stack) [] H HZ s.heap s1.heap) (r : Vals as us) (hl : as.length = ps.length) (hns : h₁.Ns s1.heap.objs.size fun y => (ps.zip us).reverse.lookup y) (kp : ∀ b o, s1.heap.get? b = some o → h₁.get? b = some o) :
    Inv (lamCP X ps A outer s1 HZ E scope f c') [] (lamσ σ vs as) HZ { s1 with heap := h₁, toks := tk } := by
  have hfree : ∀ y ∈ scope.names, y.2 = .free → ∃ c, X.env.cells.lookup y.1 = some c := fun y hy e => (L.free y hy e).elim (fun k => I.ok.has _ (.inl k)) (fun k => I.ok.has _ (.inr k))
  have cm : ∀ {y c}, (cloFrom X.env.cells scope.names []).lookup y = some c → X.env.cells.lookup y = some c := fun {y c} e => NdefX.clo_cm hfree e
  have look : ∀ {y}, scope.names.lookup y = some .free → ∃ c, (cloFrom X.env.cells scope.names []).lookup y = some c := fun {y} hl => by
    have hy : (y, NameKind.free) ∈ scope.names := PySem.mem_of_lookup hl
    exact mem_lookup (cloFrom_has (cells := X.env.cells) (acc := []) hy)
  have cellK : ∀ {c : Addr} {v : Option Value}, H c = none → s.heap.IsCell c v → h₁.IsCell c v := fun {c v} n ⟨o, ho, hd⟩ => by
    obtain ⟨sl, q⟩ := un.any ho n (by simp)
    exact ⟨_, kp _ _ q, hd⟩
  have noA : ∀ b : Addr, b ∉ (lamCP X ps A outer s1 HZ E scope f c').ex := fun b z => absurd (show b ∈ ([] : List Addr) from z) (by simp)
  have len : (lamσ σ vs as).length = (X.N ++ ps).length := by
    unfold lamσ
    rw [List.length_append, List.length_append, List.length_map, wipe_length, hl, I.len]
  refine ⟨⟨e0.mod, L.kind, rfl, rfl, Nat.le_refl _, fun y z c e1 e2 => I.ok.inj y z c (cm e1) (cm e2), fun y hy => ?_, fun y c z _ => ?_, fun _ => hd, Around.frames_deeper e0.frames, .inr ⟨rfl, rfl⟩, fun b z => absurd z (noA b), e0.bs, e0.bsz, fun b _ _ => noA b,
      fun b z => absurd z (noA b), e0.funs, e0.frf⟩,
    rfl, e0.bare, Un.kept kp, ⟨_, hns, fun i y v e1 e2 e3 => ?_⟩, fun y c e => ?_, e0.hok.fresh (Nat.le_refl _), fun y c e => ?_, fun q hq => absurd (show q ∈ ([] : List (Addr × Obj)) ++ [] from hq) (by simp), e0.hok.kept kp, len⟩
  · have hy : scope.names.lookup y = some .cell ∨ scope.names.lookup y = some .free := hy
    rcases hy with hy | hy
    · exact absurd rfl (L.nocell _ (PySem.mem_of_lookup hy))
    · exact look hy
  · have z : false = true := z
    cases z
  · have e1 : (X.N ++ ps)[i]? = some y := e1
    have e3 : Vis scope y := e3
    have e2 : (wipe σ vs ++ as.map some)[i]? = some (some v) := e2
    have lw : (wipe σ vs).length = X.N.length := by rw [wipe_length, I.len]
    by_cases hi : i < X.N.length
    · rw [List.getElem?_append_left hi] at e1
      rw [List.getElem?_append_left (by rw [lw]; exact hi)] at e2
      obtain ⟨e2, hv⟩ := wipe_mem e2
      have k := L.cap i y e1 hv
      obtain ⟨m, hn, hl⟩ := I.loc
      have hvis : Vis X.env.scope y := (L.free _ (PySem.mem_of_lookup k) rfl).elim (fun k => .inr (.inl k)) (fun k => .inr (.inr k))
      obtain ⟨w', r, q⟩ := hl i y v e1 e2 hvis
      obtain ⟨c2, h2⟩ := look k
      refine ⟨w', r, .inr ⟨.inr k, c2, h2, ?_⟩⟩
      have c1 := cm h2
      rcases q with ⟨k', _⟩ | ⟨_, c3, e', z⟩
      · have k' : X.env.scope.names.lookup y = some .local := k'
        rcases L.free _ (PySem.mem_of_lookup k) rfl with k2 | k2 <;> rw [show X.env.scope.names.lookup y = _ from k2] at k' <;> cases k'
      · rw [c1] at e'
        cases e'
        exact cellK (I.freeC y _ c1) z
    · rw [List.getElem?_append_right (by omega)] at e1
      rw [List.getElem?_append_right (by rw [lw]; omega), lw, List.getElem?_map] at e2
      have ha : as[i - X.N.length]? = some v := by
        cases e : as[i - X.N.length]? with
        | none => rw [e] at e2; cases e2
        | some a => rw [e] at e2; cases e2; rfl
      obtain ⟨u, hu, rv⟩ := r.get ha
      have k := L.par y (List.mem_of_getElem? e1)
      refine ⟨u, rv, .inl ⟨k, ?_⟩⟩
      have hz : (ps.zip us)[i - X.N.length]? = some (y, u) := by
        rw [List.getElem?_zip_eq_some]
        exact ⟨e1, hu⟩
      have hm : (y, u) ∈ (ps.zip us).reverse := List.mem_reverse.mpr (List.mem_of_getElem? hz)
      have uniq : ∀ u', (y, u') ∈ ps.zip us → u' = u := fun u' hm' => by
        obtain ⟨j, hj⟩ := List.mem_iff_getElem?.mp hm'
        rw [List.getElem?_zip_eq_some] at hj
        have ej : j = i - X.N.length := by
          have h1 := (List.getElem?_eq_some_iff.mp hj.1).1
          have h2 := (List.getElem?_eq_some_iff.mp e1).1
          have h3 := (List.getElem?_eq_some_iff.mp hj.1).2
          have h4 := (List.getElem?_eq_some_iff.mp e1).2
          have pw := List.pairwise_iff_getElem.mp L.nd
          rcases Nat.lt_trichotomy j (i - X.N.length) with z | z | z
          · exact absurd (h3.trans h4.symm) (pw j _ h1 h2 z)
          · exact z
          · exact absurd (h4.trans h3.symm) (pw _ j h2 h1 z)
        rw [ej] at hj
        exact Option.some.inj (hj.2.symm.trans hu)
      cases e : (ps.zip us).reverse.lookup y with
      | none => exact absurd hm (fun z => by
          have := List.lookup_eq_none_iff.mp e (y, u) z
          simp at this)
      | some u' =>
        have hm' := PySem.mem_of_lookup e
        show (ps.zip us).reverse.lookup y = some u
        rw [e, uniq u' (List.mem_reverse.mp hm')]
  · obtain ⟨w', z⟩ := I.cell y c (cm e)
    exact ⟨w', cellK (I.freeC y c (cm e)) z⟩
  · obtain ⟨v, o, ho, hd⟩ := I.cell y c (cm e)
    exact un.free c o ho (I.freeC y c (cm e)) (by simp)
end

/-! ### its meaning -/
def lamM (np : Nat) (vs : List Nat) (fe : Env → M D) (env : Env) : Fn := fun as st => match as.length == np with
  | true => fe (strip (wipeE env vs) ++ as.map some) st
  | false => .bad
def sCv (i : Nat) (g : Fn) (fa : Env → M (List D)) : Env → M D := fun env => fun st => match env[i]? with
  | some (some .fnv) => bnd (fa env) g st
  | _ => .bad
theorem sCv_at {G : Gd} {Wx : WX} {σ : St} {W : Wd} {R : Wd → D → Store → Hp → Prop} {i : Nat} {g : Fn} {fa : Env → M (List D)} {env : Env} {st : Store} (h : Post G Wx σ W R (sCv i g fa env st)) : env[i]? = some (some .fnv) ∧ Post G Wx σ W R (bnd (fa env) g st) := by
  unfold sCv at h
  cases e : env[i]? with
  | none => rw [e] at h; exact h.elim
  | some o =>
    cases o with
    | none => rw [e] at h; exact h.elim
    | some d =>
      cases d with
      | fnv => rw [e] at h; exact ⟨rfl, h⟩
      | _ => rw [e] at h; exact h.elim
/-- in Z the name a, at slot i, holds a function that does g -/
structure ActOk (Z : Cx) (T : Tb) (a : Str) (i : Nat) (g : Fn) : Prop where
  some_ : ∀ (W : WX) (pn : List (Addr × Obj)) (xe : Value → Shared → Prop) (e : Expr) (es : List Expr) (fa : Env → M (List D)) (p1 p2 : Pos), Takes (Z.tr pn xe) W → SA (Z.tr pn xe) T W (e :: es) fa →
    starEach (e :: es) Z.env = (false, eval e Z.env) :: starEach es Z.env → (backTo p2 (starEach es Z.env)).any (·.1) = false → SE (Z.tr pn xe) T W (.Call (.Name a p1) (e :: es) [] p2) (sCv i g fa)
  none_ : ∀ (W : WX) (pn : List (Addr × Obj)) (xe : Value → Shared → Prop) (p1 p2 : Pos), Takes (Z.tr pn xe) W → SE (Z.tr pn xe) T W (.Call (.Name a p1) [] [] p2) (sCv i g aNil)
section
variable {X : Cx} {T : Tb} {pins : List (Addr × Obj)} {σ : St} {H : Hp} {s : Shared}
theorem act_of {Wx0 : WX} {Eg : XK} {Ng : List Str} {qg : Str} {sg : Scope} {gA f c' : Addr} {cdg pm ctv : Value} {params : Arguments} {body : Expr} {scope : Scope} {ps : List Str} {vs : List Nat} {k i : Nat} {a : Str} {fe : Env → M D} {B0 : Wd} {env : Env} {st0 : Store}
    (I : Inv X pins σ H s) (rl : Rel (Gof X T) B0 σ H env st0) (L : LamP X.N vs ps X.env.scope scope) (hf : s.heap.get? f = some (PySem.W.kla_obj "<lambda>" (X.env.qual ++ "<lambda>") params body scope (cloFrom X.env.cells scope.names []) pm c' ctv)) (hfn : H f = none) (hfr : f ∉ frs X.stack)
    (hco : B0.F c' = some (CodeO c' (X.env.qual ++ "<lambda>")))
    (hbind : ∀ us : List Value, us.length = ps.length → bindArgs (PySem.W.kla_fn "<lambda>" (X.env.qual ++ "<lambda>") params body scope (cloFrom X.env.cells scope.names []) pm (.ref c') ctv) ⟨us, []⟩ = pure (ps.zip us))
    (hr : Room (k + 1) (X.A.deeper (envOfC qg sg s.heap.objs.size gA cdg))) (hG : Quiet X.A)
    (hbody : ∀ (A : Around) (outer : List PySem.Env) (s : Shared) (H : Hp) (E : XK), Room k (A.deeper (lamEnv X scope s.heap.objs.size f c')) → Quiet A → SE (lamCP X ps A outer s H E scope f c') ⟨T.tabs, none, none⟩ (fun c d _ H => E c d H) body fe)
    (hN : Ng[i]? = some a) (hv : Vis sg a) (hd : (a == ("__debug__" : Str)) = false) (hcd : (a == ("__classdict__" : Str)) = false) :
    ActOk (cxOf (CX X.prog X.w) X.prog X.w X.K X.mg X.base Ng qg sg gA cdg X.A X.stack s H Eg) ⟨T.tabs, some (B0.fn (some f)), some f⟩ a i (lamM ps.length vs fe env) := by
  -- the call itself, from any state of the callee
  have run : ∀ {W : WX} {pn : List (Addr × Obj)} {xe : Value → Shared → Prop} {pinsZ : List (Addr × Obj)} {s1 : Shared} {σZ : St} {HZ : Hp} {us : List Value} {as : List V} {Q : VK} {envZ : Env} {st1 : Store} {ds : List D} {W1 : Wd},
      Takes ((cxOf (CX X.prog X.w) X.prog X.w X.K X.mg X.base Ng qg sg gA cdg X.A X.stack s H Eg).tr pn xe) W → Inv ((cxOf (CX X.prog X.w) X.prog X.w X.K X.mg X.base Ng qg sg gA cdg X.A X.stack s H Eg).tr pn xe) pinsZ σZ HZ s1 →
      Rel (Gof X ⟨T.tabs, some (B0.fn (some f)), some f⟩) W1 σZ HZ envZ st1 → Vals as us → RVs X.K W1 ds as → Post (Gof X ⟨T.tabs, some (B0.fn (some f)), some f⟩) W σZ W1 (Wpost (Gof X ⟨T.tabs, some (B0.fn (some f)), some f⟩) Q) (lamM ps.length vs fe env ds st1) →
      wpAny (model X.prog X.w) (X.A.deeper (envOfC qg sg s.heap.objs.size gA cdg)) (call (.ref f) us) (EP ((cxOf (CX X.prog X.w) X.prog X.w X.K X.mg X.base Ng qg sg gA cdg X.A X.stack s H Eg).tr pn xe) pinsZ σZ Q) xe s1 := by
    intro W pn xe pinsZ s1 σZ HZ us as Q envZ st1 ds W1 tk I1 rl1 r rv p
    have of1 : s1.heap.get? f = some (PySem.W.kla_obj "<lambda>" (X.env.qual ++ "<lambda>") params body scope (cloFrom X.env.cells scope.names []) pm c' ctv) := I1.base.keep f _ hf hfn hfr (fun z => nomatch (show f ∈ ([] : List Addr) from z))
    have un : Un (frs X.stack) [] H HZ s.heap s1.heap := I1.base
    have lo := rl1.lo _ rfl
    have loB : ExtB B0 W1 := fn_extB.trans lo
    have hc1 : HZ c' = some (CodeO c' (X.env.qual ++ "<lambda>")) := rl1.hp.fz _ _ (loB.F _ _ hco)
    obtain ⟨⟨oc, cvs, t, hoc, hdc, hvc⟩, _, _⟩ := I1.hok c' _ hc1
    have hl : as.length = ps.length := by
      unfold lamM at p
      cases q : ds.length == ps.length with
      | false => rw [q] at p; exact p.elim
      | true => rw [← rv.length]; exact beq_iff_eq.mp q
    have p2 : Post (Gof X ⟨T.tabs, some (B0.fn (some f)), some f⟩) W σZ W1 (Wpost (Gof X ⟨T.tabs, some (B0.fn (some f)), some f⟩) Q) (fe (strip (wipeE env vs) ++ ds.map some) st1) := by
      unfold lamM at p
      rw [show (ds.length == ps.length) = true from by rw [rv.length, hl]; exact beq_self_eq_true _] at p
      exact p
    have hul : us.length = ps.length := by rw [← r.length, hl]
    have rc : codeAny (model X.prog X.w) (X.A.deeper (envOfC qg sg s.heap.objs.size gA cdg)) (.call (.ref f) ⟨us, []⟩) (CR (CX X.prog X.w) (envOfC qg sg s.heap.objs.size gA cdg :: X.stack) X.prog X.w HZ s1 Q fun c d H2 => W c d σZ H2) s1 := by
      refine PySem.W.kla_callFunE hr.depth of1 rfl L.co L.gen rfl ⟨c', oc, cvs, t, rfl, hoc, hdc, hvc⟩ ?_
      rw [hbind us hul]
      refine wpAny_pure (wpAny_newFunctionEnv L.nocell (fun y hy => L.par y.1 (List.of_mem_zip hy).1) (fun h₁ hns hsb => ⟨I1.nolimit.fresh _ hsb, ?_⟩) L.kind)
      show codeAny _ _ (.expr body (lamEnv X scope s1.heap.objs.size f c')) _ _
      have kp : ∀ b o, s1.heap.get? b = some o → h₁.get? b = some o := fun b o e => hsb.extBut b o (Nat.ne_of_lt (Heap.lt_size e)) (Heap.get?_push_of_some _ e)
      have J : Inv (lamCP X ps (X.A.deeper (envOfC qg sg s.heap.objs.size gA cdg)) (envOfC qg sg s.heap.objs.size gA cdg :: X.stack) s1 HZ (fun c d H2 => W c d σZ H2) scope f c') [] (lamσ σ vs as) HZ { s1 with heap := h₁, toks := s1.toks + (ps.zip us).length } :=
        lam_enter I L I1.env0 hr.hd un r hl hns kp
      have fr0 : Fr (Gof X ⟨T.tabs, none, none⟩) W1 (lamσ σ vs as) (strip (wipeE env vs) ++ ds.map some) := by
        have f1 : Fr (Gof X ⟨T.tabs, none, none⟩) W1 (wipe σ vs) (strip (wipeE env vs)) := gone_fr (G := Gof X T) rfl (rl.wipe vs).toFr loB (fun B q => by cases q) (fun b q => by cases q)
        refine ⟨?_, fun j d q => ?_, fun B q => (by cases q), fun b q => (by cases q)⟩
        · unfold lamσ
          rw [List.length_append, List.length_append, List.length_map, List.length_map, f1.len, rv.length]
        · unfold lamσ
          by_cases hj : j < (strip (wipeE env vs)).length
          · rw [List.getElem?_append_left hj] at q
            rw [List.getElem?_append_left (by rw [f1.len]; exact hj)]
            exact f1.sl j d q
          · rw [List.getElem?_append_right (by omega), List.getElem?_map] at q
            rw [List.getElem?_append_right (by rw [f1.len]; omega), f1.len, List.getElem?_map]
            cases e : ds[j - (strip (wipeE env vs)).length]? with
            | none => rw [e] at q; cases q
            | some d' =>
              rw [e] at q
              cases q
              obtain ⟨v, h1, h2⟩ := rv.get e
              exact ⟨v, by rw [h1]; rfl, .v h2⟩
      have conv : Post (Gof X ⟨T.tabs, none, none⟩) (fun c d _ H2 => W c d σZ H2) (lamσ σ vs as) W1 (Wpost (Gof X ⟨T.tabs, none, none⟩) Q) (fe (strip (wipeE env vs) ++ ds.map some) st1) := by
        cases q : fe (strip (wipeE env vs) ++ ds.map some) st1 with
        | ok d st2 =>
          rw [q] at p2
          exact fun W' H' e ok v r => p2 W' H' e (HeapOk.tb (T := ⟨T.tabs, none, none⟩) rfl ok) v r
        | ex x st2 =>
          rw [q] at p2
          exact fun W' c d H' e ok x => p2 W' c d H' e (HeapOk.tb (T := ⟨T.tabs, none, none⟩) rfl ok) x
        | bad =>
          rw [q] at p2
          exact p2
      have ht : tE (Gof X ⟨T.tabs, none, none⟩) (fun c d _ H2 => W c d σZ H2) fe (lamσ σ vs as) HZ Q := ⟨W1, _, st1, ⟨fr0, HeapOk.tb (T := ⟨T.tabs, some (B0.fn (some f)), some f⟩) rfl rl1.hp⟩, conv⟩
      refine PySem.W.kla_codeExpr (wpAny_mono ((hbody _ _ s1 HZ _ (hr.deeper _) hG).pe.run [] _ _ HZ Q J ht) (fun v s' hq => ?_) fun e s' hq => hq)
      obtain ⟨w', H', J', rv, q⟩ := hq
      exact ⟨w', H', J'.os, J'.bare, J'.base, J'.hok, rv, q⟩
    refine wpAny_call (codeAny_mono rc fun r s' hq => ?_)
    cases r with
    | error e => exact tk e s' (XE.of_call I1 (fun cls d H' z => z) hq)
    | ok fl =>
      cases fl with
      | ret u => exact I1.after hq
      | _ => exact False.elim hq
  have slotf : ∀ {W1 : Wd} {σZ : St} {HZ : Hp} {envZ : Env} {st1 : Store}, Rel (Gof X ⟨T.tabs, some (B0.fn (some f)), some f⟩) W1 σZ HZ envZ st1 → envZ[i]? = some (some .fnv) → σZ[i]? = some (some (.ref f)) := fun {W1 σZ HZ envZ st1} rl1 q => by
    obtain ⟨v, e1, e2⟩ := rl1.sl i .fnv q
    cases e2 with
    | v r => cases r
    | fn hw =>
      have hw2 := rl1.fx f rfl
      rw [hw2] at hw
      cases hw
      exact e1
  have fnAt : ∀ {pn : List (Addr × Obj)} {xe : Value → Shared → Prop} {pinsZ : List (Addr × Obj)} {s1 : Shared} {σZ : St} {HZ : Hp}, Inv ((cxOf (CX X.prog X.w) X.prog X.w X.K X.mg X.base Ng qg sg gA cdg X.A X.stack s H Eg).tr pn xe) pinsZ σZ HZ s1 → PySem.W.FnAt f s1.heap := fun {pn xe pinsZ s1 σZ HZ} I1 =>
    ⟨_, _, _, _, I1.base.keep f _ hf hfn hfr (fun z => nomatch (show f ∈ ([] : List Addr) from z))⟩
  refine ⟨fun W pn xe e es fa p1 p2 tk ha he hpl => ⟨⟨fun pinsZ sZ σZ HZ Q IZ h => ?_⟩⟩, fun W pn xe p1 p2 tk => ⟨⟨fun pinsZ sZ σZ HZ Q IZ h => ?_⟩⟩⟩
  · obtain ⟨WZ, envZ, stZ, rlZ, h⟩ := h
    obtain ⟨hs, h⟩ := sCv_at h
    have hσ := slotf rlZ hs
    refine wpAny_Call_Name_kw (thn ((pe_var (X := (cxOf (CX X.prog X.w) X.prog X.w X.K X.mg X.base Ng qg sg gA cdg X.A X.stack s H Eg).tr pn xe) (pos := p1) (i := i) hN hv hd hcd).run pinsZ sZ σZ HZ (fun v H1 => v = .ref f ∧ H1 = HZ) IZ ⟨.ref f, hσ, rfl, rfl⟩) fun u s1 ⟨v, H1, I1, r1, q1⟩ => ?_)
    obtain ⟨ev, eH⟩ := q1
    subst ev
    rw [eH] at I1
    obtain rfl : u = Value.ref f := r1
    refine PySem.W.callWith_F (first := []) (fnAt I1) (thn (ha.pa.run p2 pinsZ s1 σZ HZ (fun as H2 => ∃ W2 ds st2, Rel (Gof X ⟨T.tabs, some (B0.fn (some f)), some f⟩) W2 σZ H2 envZ st2 ∧ RVs X.K W2 ds as ∧ Post (Gof X ⟨T.tabs, some (B0.fn (some f)), some f⟩) W σZ W2 (Wpost (Gof X ⟨T.tabs, some (B0.fn (some f)), some f⟩) Q) (lamM ps.length vs fe env ds st2)) I1
      (tA_bind (k := fun _ ds => lamM ps.length vs fe env ds) rlZ h fun W1 ds st1 H1 as e1 r1 rv p => ⟨W1, ds, st1, r1, rv, p⟩)) fun us s2 ⟨as, H2, I2, r2, W2, ds, st2, rl2, rv, p⟩ => ⟨fnAt I2, ?_⟩) he hpl
    exact run tk I2 rl2 r2 rv p
  · obtain ⟨WZ, envZ, stZ, rlZ, h⟩ := h
    obtain ⟨hs, h⟩ := sCv_at h
    have hσ := slotf rlZ hs
    refine wpAny_Call_Name_kw (thn ((pe_var (X := (cxOf (CX X.prog X.w) X.prog X.w X.K X.mg X.base Ng qg sg gA cdg X.A X.stack s H Eg).tr pn xe) (pos := p1) (i := i) hN hv hd hcd).run pinsZ sZ σZ HZ (fun v H1 => v = .ref f ∧ H1 = HZ) IZ ⟨.ref f, hσ, rfl, rfl⟩) fun u s1 ⟨v, H1, I1, r1, q1⟩ => ?_)
    obtain ⟨ev, eH⟩ := q1
    subst ev
    rw [eH] at I1
    obtain rfl : u = Value.ref f := r1
    exact PySem.W.callWith_F0 (first := []) (fnAt I1) (run tk I1 rlZ .nil .nil h)

/-! ### x(e, lambda ..) -/
/-- a def that calls what it gets in its last place: p other parameters, n names; its body by the function -/
def fnH (p n : Nat) (mb : Fn → SM) (g : Fn) : Fn := fun ds st => match ds.length == p with
  | true => outF (mb g (ds.map some ++ some .fnv :: List.replicate (n - (ds.length + 1)) none) st)
  | false => .bad
def sHO (m : Fn → Fn) (np : Nat) (vs : List Nat) (fe : Env → M D) (fa : Env → M (List D)) : Env → M D := fun env => bnd (fa env) fun ds => m (lamM np vs fe env) ds
theorem Rel.start1 {G G' : Gd} {W : Wd} {Ng : List Str} {ds : List D} {as : List V} {f : Addr} (r : RVs G.K W ds as) (hl : ds.length + 1 ≤ Ng.length) (hf : W.f = some f) (hlo : ∀ B, G.T.lo = some B → ExtB B W) (hfx : ∀ a, G.T.fa = some a → W.f = some a) :
    Fr G W (L2.start Ng (as ++ [.ref f])) (ds.map some ++ some .fnv :: List.replicate (Ng.length - (ds.length + 1)) none) := by
  have l := r.length
  have e1 : L2.start Ng (as ++ [.ref f]) = as.map some ++ some (.ref f) :: List.replicate (Ng.length - (as.length + 1)) none := by
    unfold L2.start
    rw [List.map_append, List.length_append, List.append_assoc]
    rfl
  rw [e1]
  refine ⟨by rw [List.length_append, List.length_append, List.length_map, List.length_map, List.length_cons, List.length_cons, List.length_replicate, List.length_replicate, l], fun j d q => ?_, hlo, hfx⟩
  rcases Nat.lt_trichotomy j ds.length with hj | hj | hj
  · rw [List.getElem?_append_left (by rw [List.length_map]; exact hj), List.getElem?_map] at q
    rw [List.getElem?_append_left (by rw [List.length_map]; omega), List.getElem?_map]
    cases e : ds[j]? with
    | none => rw [e] at q; cases q
    | some d' =>
      rw [e] at q
      cases q
      obtain ⟨v, h1, h2⟩ := r.get e
      exact ⟨v, by rw [h1]; rfl, .v h2⟩
  · rw [List.getElem?_append_right (by rw [List.length_map]; omega), List.length_map, hj, Nat.sub_self] at q
    rw [List.getElem?_append_right (by rw [List.length_map]; omega), List.length_map, hj, l, Nat.sub_self]
    cases q
    exact ⟨.ref f, rfl, .fn hf⟩
  · rw [List.getElem?_append_right (by rw [List.length_map]; omega), List.length_map] at q
    obtain ⟨k, hk⟩ : ∃ k, j - ds.length = k + 1 := ⟨j - ds.length - 1, by omega⟩
    rw [hk] at q
    have q' : (List.replicate (Ng.length - (ds.length + 1)) (none : Option D))[k]? = some (some d) := q
    rw [List.getElem?_replicate] at q'
    split at q' <;> cases q'
/-- the world that knows the lambda's code object -/
theorem lam_world {G : Gd} {W : Wd} {st : Store} {H1 H2 : Hp} {c' : Addr} {q : Str} (ok : HeapOk G W st H1) (eN : ExtN H1 H2) (tb : Tabs G.T.tabs H2) (hc : H2 c' = some (CodeO c' q)) : ∃ W2, Ext W W2 ∧ HeapOk G W2 st H2 ∧ W2.F c' = some (CodeO c' q) := by
  have hF : ∀ o, W.F c' = some o → o = CodeO c' q := fun o e => by
    have h1 := ok.fz _ _ e
    have h2 := eN c' o h1 (fun ps z => ok.nt c' ps (by rw [e, z]))
    rw [hc] at h2
    exact (Option.some.inj h2).symm
  have ext : CodeO c' q ≠ .tbl #[] := codeO_ne #[]
  have e : Ext W ⟨upd W.F c' (CodeO c' q), W.m, W.P, W.f⟩ := ⟨⟨⟨fun b o h => by
    show upd W.F c' (CodeO c' q) b = some o
    by_cases hb : b = c'
    · subst hb
      rw [upd_same, hF o h]
    · rw [upd_ne hb]
      exact h, [], by simp⟩, rfl⟩, rfl⟩
  refine ⟨_, e, ⟨fun b o h => ?_, ok.len, ok.inj, fun n o h => ?_, tb, fun p hp => ?_, fun b ps h => ?_⟩, upd_same⟩
  · have h : upd W.F c' (CodeO c' q) b = some o := h
    by_cases hb : b = c'
    · subst hb
      rw [upd_same] at h
      cases h
      exact hc
    · rw [upd_ne hb] at h
      exact eN b o (ok.fz _ _ h) (fun ps z => ok.nt b ps (by rw [h, z]))
  · obtain ⟨a, h1, h2, h3⟩ := ok.ob n o h
    obtain ⟨u, h4, kd⟩ := h3.kind
    have h5 : H2 a = some u := eN a u h4 (fun ps z => by rw [z] at kd; exact kd)
    have ha : a ≠ c' := fun z => by
      rw [z, hc] at h5
      cases h5
      exact kd
    exact ⟨a, h1, (upd_ne ha).trans h2, h3.ext e (h5.trans h4.symm)⟩
  · obtain ⟨p1, p2, p3, p4⟩ := ok.pr p hp
    have h5 : H2 p.1 = some p.2 := eN _ _ p1 p4.1
    have ha : p.1 ≠ c' := fun z => by
      rw [z, hc] at h5
      exact p4.2 _ (Option.some.inj h5).symm
    exact ⟨h5, (upd_ne ha).trans p2, p3, p4⟩
  · have h : upd W.F c' (CodeO c' q) b = some (.tbl ps) := h
    by_cases hb : b = c'
    · subst hb
      rw [upd_same] at h
      exact codeO_ne ps (Option.some.inj h)
    · rw [upd_ne hb] at h
      exact ok.nt b ps h
variable {Wx : WX}
/-- what the callee's body derives, given what its last parameter does -/
def HOBody (P : Program) (w : World) (K : PySem.W.Frag) (mg : Str → Option Value) (base : Heap) (tabs : List (Addr × Str)) (k : Nat) (gA : Addr) (fd : FuncData) (qg : Str) (sg : Scope) (Ng : List Str) (bg : List Stmt) (a : Str) (i : Nat) (mb : Fn → SM) : Prop :=
  ∀ (A : Around) (outer : List PySem.Env) (s : Shared) (H : Hp) (E : XK) (T' : Tb) (g : Fn), Room k (A.deeper (envOfC qg sg s.heap.objs.size gA fd.code)) → Quiet A → T'.tabs = tabs → ActOk (cxOf (CX P w) P w K mg base Ng qg sg gA fd.code A outer s H E) T' a i g →
    SB (cxOf (CX P w) P w K mg base Ng qg sg gA fd.code A outer s H E) T' (fun c d _ H => E c d H) bg (mb g)
theorem ho_run {x : Str} {gA : Addr} {fd : FuncData} {pg : Arguments} {bg : List Stmt} {sg : Scope} {Ng psG : List Str} {a : Str} {mb : Fn → SM} {params : Arguments} {body : Expr} {scope : Scope} {ps : List Str} {vs : List Nat} {fe : Env → M D} {k : Nat} {c P : Addr} {lpos : Pos}
    {env : Env} {st1 : Store} {W1 : Wd} {ds : List D} {as : List V} {us : List Value} {Q : VK}
    (hr : Room (k + 2) X.A) (hG : Quiet X.A) (tk : Takes X Wx) (F : FunD X.K x x pg bg sg [] [] gA fd) (Sg : FnScope Ng (psG ++ [a]) sg) (hb : L2.Binds X.K fd (psG ++ [a]) []) (hN : Ng[psG.length]? = some a) (hv : Vis sg a)
    (hbd : HOBody X.prog X.w X.K X.mg X.base T.tabs (k + 1) gA fd x sg Ng bg a psG.length mb)
    (TB : TabB X.base X.mg c P) (hcode : X.env.code = .ref c) (hmT : (P, X.env.qual ++ "<lambda>") ∈ T.tabs) (hu : ∀ p ∈ T.tabs, p.1 = P → p.2 = X.env.qual ++ "<lambda>") (L : LamP X.N vs ps X.env.scope scope) (hdef : defaultsOf params X.env = ([], []))
    (hbind : ∀ (q : Str) (cl : List (Str × Addr)) (pm cv ctv : Value) (us : List Value), us.length = ps.length → bindArgs (PySem.W.kla_fn "<lambda>" q params body scope cl pm cv ctv) ⟨us, []⟩ = pure (ps.zip us))
    (hbody : ∀ (A : Around) (outer : List PySem.Env) (s : Shared) (H : Hp) (E : XK) (f c' : Addr), Room k (A.deeper (lamEnv X scope s.heap.objs.size f c')) → Quiet A → SE (lamCP X ps A outer s H E scope f c') ⟨T.tabs, none, none⟩ (fun c d _ H => E c d H) body fe)
    (hd : (a == ("__debug__" : Str)) = false) (hcd : (a == ("__classdict__" : Str)) = false)
    (I : Inv X pins σ H s) (rl : Rel (Gof X T) W1 σ H env st1) (r : Vals as us) (rv : RVs X.K W1 ds as) (p : Post (Gof X T) Wx σ W1 (Wpost (Gof X T) Q) (fnH psG.length Ng.length mb (lamM ps.length vs fe env) ds st1)) :
    wpAny (model X.prog X.w) X.A (eval (.Lambda params body scope lpos) X.env) (fun fv s' => X.K.In s'.heap ∧ wpAny (model X.prog X.w) X.A (call (.ref gA) (us ++ [fv])) (EP X pins σ Q) X.xe s') X.xe s := by
  have hfree : ∀ y ∈ scope.names, y.2 = .free → ∃ c, X.env.cells.lookup y.1 = some c := fun y hy e => (L.free y hy e).elim (fun k => I.ok.has _ (.inl k)) (fun k => I.ok.has _ (.inr k))
  refine lam_make2 I TB hcode hmT hu rl.hp.tab hdef hfree fun f c' pm ctv H2 s' I2 eN T2 hf hfn hfr hco => ⟨I2.kIn, ?_⟩
  obtain ⟨W2, e2, ok2, hc2⟩ := lam_world rl.hp eN T2 hco
  have rl2 := rl.ext e2 ok2
  have rv2 := rv.ext e2
  obtain ⟨oc, od, dV, kV, doc, pmg, an, cdv, ct, osl, hfd, lk, hcg, _, _⟩ := F.ex
  have hl : ds.length = psG.length := by
    unfold fnH at p
    cases q : ds.length == psG.length with
    | false => rw [q] at p; exact p.elim
    | true => exact beq_iff_eq.mp q
  have hNl : psG.length < Ng.length := (List.getElem?_eq_some_iff.mp hN).1
  have p2 : Post (Gof X T) Wx σ W2 (Wpost (Gof X T) Q) (outF (mb (lamM ps.length vs fe env) (ds.map some ++ some .fnv :: List.replicate (Ng.length - (ds.length + 1)) none) st1)) := by
    unfold fnH at p
    rw [show (ds.length == psG.length) = true from by rw [hl]; exact beq_self_eq_true _] at p
    exact Post.ext e2 p
  have r2 : Vals (as ++ [.ref f]) (us ++ [.ref f]) := r.append (.cons rfl .nil)
  have hal : (as ++ [V.ref f]).length = (psG ++ [a]).length := by rw [List.length_append, List.length_append, ← rv.length, hl]; rfl
  have rc : codeAny (model X.prog X.w) X.A (.call (.ref gA) ⟨us ++ [.ref f], []⟩) (CR (CX X.prog X.w) X.stack X.prog X.w H2 s' Q fun c d H3 => Wx c d σ H3) s' := by
    subst hfd
    have hbn := hb s' (us ++ [.ref f]) I2.kIn (by rw [List.append_nil, ← r2.length, hal])
    rw [List.append_nil] at hbn
    refine run_ofS (N := Ng) (ps := psG ++ [a]) (us := us ++ [.ref f]) (vs := as ++ [.ref f]) lk hcg Sg hr I2.env0 hbn r2 hal fun hr' => ?_
    let Z : Cx := cxOf (CX X.prog X.w) X.prog X.w X.K X.mg X.base Ng x sg gA cdv X.A X.stack s' H2 fun c d H3 => Wx c d σ H3
    have act : ActOk Z ⟨T.tabs, some (W2.fn (some f)), some f⟩ a psG.length (lamM ps.length vs fe env) :=
      act_of (Wx0 := Wx) I2 rl2 L hf hfn hfr hc2 (fun us hl => hbind _ _ _ _ _ us hl) hr' hG (fun A outer s H E hr2 hG2 => hbody A outer s H E f c' hr2 hG2) hN hv hd hcd
    have h := hbd X.A X.stack s' H2 (fun c d H3 => Wx c d σ H3) ⟨T.tabs, some (W2.fn (some f)), some f⟩ _ hr' hG rfl act
    refine ⟨_, h.pss, W2.fn (some f), _, st1, ⟨Rel.start1 (G := Gof Z ⟨T.tabs, some (W2.fn (some f)), some f⟩) (G' := Gof X T) (rv2.extB fn_extB) (by omega) rfl (fun B q => by cases q; exact (Ext0.refl _).toExtB) (fun b q => by cases q; rfl), HeapOk.tb (T := T) rfl (ok2.fn _)⟩, ?_⟩
    have back : ∀ {W' : Wd} {H' : Hp} {st' : Store}, Ext (W2.fn (some f)) W' → HeapOk (Gof X ⟨T.tabs, some (W2.fn (some f)), some f⟩) W' st' H' → Ext W2 (W'.fn W2.f) ∧ HeapOk (Gof X T) (W'.fn W2.f) st' H' := fun {W' H' st'} x ok =>
      ⟨⟨⟨⟨x.F, x.m⟩, rfl⟩, x.P⟩, HeapOk.tb (T := ⟨T.tabs, some (W2.fn (some f)), some f⟩) (T' := T) rfl (ok.fn _)⟩
    unfold outF at p2
    cases q : mb (lamM ps.length vs fe env) (ds.map some ++ some .fnv :: List.replicate (Ng.length - (ds.length + 1)) none) st1 with
    | nx env' st' =>
      rw [q] at p2
      intro W' σ' H' x rl'
      obtain ⟨b1, b2⟩ := back x rl'.hp
      exact p2 _ H' b1 b2 .non .non
    | rt d st' =>
      rw [q] at p2
      intro W' H' v x ok rv'
      obtain ⟨b1, b2⟩ := back x ok
      exact p2 _ H' b1 b2 v (rv'.extB fn_extB)
    | ex e' env' st' =>
      rw [q] at p2
      intro W' σ' H' cls d x rl' xr
      obtain ⟨b1, b2⟩ := back x rl'.hp
      refine p2 _ cls d H' b1 b2 ?_
      obtain ⟨C, h1, h2, h3⟩ := xr
      refine ⟨C, h1, h2, ?_⟩
      cases z : e'.fld with
      | none => rw [z] at h3; exact h3
      | some fx =>
        rw [z] at h3
        obtain ⟨dd, v, k1, k2, k3⟩ := h3
        exact ⟨dd, v, k1, k2, k3.extB fn_extB⟩
    | bk env' st' => rw [q] at p2; exact p2.elim
    | ct env' st' => rw [q] at p2; exact p2.elim
    | bad => rw [q] at p2; exact p2.elim
  refine wpAny_call (codeAny_mono rc fun r s2 hq => ?_)
  cases r with
  | error e => exact tk e s2 (XE.of_call I2 (fun cls d H' z => z) hq)
  | ok fl =>
    cases fl with
    | ret u => exact I2.after hq
    | _ => exact False.elim hq
end
end Sv
/-! Sv16: x(.., lambda ..) as an expression; the end of a law. -/
namespace Sv
open PySem L2 LamX
open PyProof.Rows hiding St
section
variable {X : Cx} {T : Tb} {Wx : WX} {x : Str} {gA : Addr} {fd : FuncData} {pg : Arguments} {bg : List Stmt} {sg : Scope} {Ng psG : List Str} {a : Str} {mb : Fn → SM} {params : Arguments} {body : Expr} {scope : Scope} {ps : List Str} {vs : List Nat} {fe f : Env → M D} {k : Nat} {c P : Addr} {lpos p pos : Pos} {e : Expr}
/-- what a call with a lambda in the last place asks -/
structure HoCall (X : Cx) (T : Tb) (Wx : WX) (x : Str) (gA : Addr) (fd : FuncData) (pg : Arguments) (bg : List Stmt) (sg : Scope) (Ng psG : List Str) (a : Str) (mb : Fn → SM) (params : Arguments) (body : Expr) (scope : Scope) (ps : List Str) (vs : List Nat) (fe : Env → M D) (k : Nat) (c P : Addr) : Prop where
  hr : Room (k + 2) X.A
  hG : Quiet X.A
  tk : Takes X Wx
  hg : Gl X x
  hm : X.mg x = some (.ref gA)
  hk : PySem.W.keepIn X.K (.ref gA) = true
  hdb : (x == ("__debug__" : Str)) = false
  F : FunD X.K x x pg bg sg [] [] gA fd
  Sg : FnScope Ng (psG ++ [a]) sg
  hb : L2.Binds X.K fd (psG ++ [a]) []
  hN : Ng[psG.length]? = some a
  hv : Vis sg a
  hbd : HOBody X.prog X.w X.K X.mg X.base T.tabs (k + 1) gA fd x sg Ng bg a psG.length mb
  TB : TabB X.base X.mg c P
  hcode : X.env.code = .ref c
  hmT : (P, X.env.qual ++ "<lambda>") ∈ T.tabs
  hu : ∀ p ∈ T.tabs, p.1 = P → p.2 = X.env.qual ++ "<lambda>"
  L : LamP X.N vs ps X.env.scope scope
  hdef : defaultsOf params X.env = ([], [])
  hbind : ∀ (q : Str) (cl : List (Str × Addr)) (pm cv ctv : Value) (us : List Value), us.length = ps.length → bindArgs (PySem.W.kla_fn "<lambda>" q params body scope cl pm cv ctv) ⟨us, []⟩ = pure (ps.zip us)
  hbody : ∀ (A : Around) (outer : List PySem.Env) (s : Shared) (H : Hp) (E : XK) (f c' : Addr), Room k (A.deeper (lamEnv X scope s.heap.objs.size f c')) → Quiet A → SE (lamCP X ps A outer s H E scope f c') ⟨T.tabs, none, none⟩ (fun c d _ H => E c d H) body fe
  hd : (a == ("__debug__" : Str)) = false
  hcd : (a == ("__classdict__" : Str)) = false
theorem se_ho1 (o : HoCall X T Wx x gA fd pg bg sg Ng psG a mb params body scope ps vs fe k c P) (he : SE X T Wx e f) (h1 : starEach [e, .Lambda params body scope lpos] X.env = (false, eval e X.env) :: starEach [.Lambda params body scope lpos] X.env := by rfl)
    (h2 : (backTo pos (starEach [.Lambda params body scope lpos] X.env)).any (·.1) = false := by rfl) : SE X T Wx (.Call (.Name x p) [e, .Lambda params body scope lpos] [] pos) (sHO (fnH psG.length Ng.length mb) ps.length vs fe (aCons f aNil)) := by
  refine ⟨⟨fun pins s σ H Q I h => ?_⟩⟩
  obtain ⟨W, env, st, rl, h⟩ := h
  refine wpAny_Call_Name_kw (ld_glob I o.hg o.hm ?_ o.hdb)
  refine PySem.W.callWith_K (h₀ := X.base) I.ok.mod.kin o.hk ?_ h1 h2
  rw [h1]
  show wpAny _ _ (spliced ((false, eval e X.env) :: backTo pos (starEach [.Lambda params body scope lpos] X.env))) _ _ s
  have h' : Post (Gof X T) Wx σ W (Wpost (Gof X T) Q) (bnd (f env) (fun d => fnH psG.length Ng.length mb (lamM ps.length vs fe env) [d]) st) := by
    have e1 : sHO (fnH psG.length Ng.length mb) ps.length vs fe (aCons f aNil) env = bnd (f env) (fun d => fnH psG.length Ng.length mb (lamM ps.length vs fe env) [d]) := by
      unfold sHO aCons aNil
      rw [bnd_bnd]
      rfl
    rw [← e1]
    exact h
  refine Calls.spliced_cons (thn (he.pe.run pins s σ H (fun v H1 => ∃ W1 d st1, Rel (Gof X T) W1 σ H1 env st1 ∧ RV X.K W1 d v ∧ Post (Gof X T) Wx σ W1 (Wpost (Gof X T) Q) (fnH psG.length Ng.length mb (lamM ps.length vs fe env) [d] st1)) I
    (tE_bind (k := fun env d => fnH psG.length Ng.length mb (lamM ps.length vs fe env) [d]) rl h' fun W1 d st1 H1 v e1 r1 rv p => ⟨W1, d, st1, r1, rv, p⟩)) fun u s1 ⟨v, H1, I1, r1, W1, d, st1, rl1, rv, p⟩ => ?_)
  show wpAny _ _ (spliced ((false, eval (.Lambda params body scope lpos) X.env) :: backTo pos (starEach [] X.env))) _ _ s1
  refine Calls.spliced_cons (wpAny_mono (ho_run (us := [u]) (as := [v]) (ds := [d]) o.hr o.hG o.tk o.F o.Sg o.hb o.hN o.hv o.hbd o.TB o.hcode o.hmT o.hu o.L o.hdef o.hbind o.hbody o.hd o.hcd I1 rl1 (.cons r1 .nil) (.cons rv .nil) p) (fun fv s2 hs => Calls.spliced_nil hs) fun _ _ z => z)
theorem se_ho0 (o : HoCall X T Wx x gA fd pg bg sg Ng [] a mb params body scope ps vs fe k c P) (h1 : starEach [.Lambda params body scope lpos] X.env = (false, eval (.Lambda params body scope lpos) X.env) :: starEach [] X.env := by rfl)
    (h2 : (backTo pos (starEach [] X.env)).any (·.1) = false := by rfl) : SE X T Wx (.Call (.Name x p) [.Lambda params body scope lpos] [] pos) (sHO (fnH 0 Ng.length mb) ps.length vs fe aNil) := by
  refine ⟨⟨fun pins s σ H Q I h => ?_⟩⟩
  obtain ⟨W, env, st, rl, h⟩ := h
  refine wpAny_Call_Name_kw (ld_glob I o.hg o.hm ?_ o.hdb)
  refine PySem.W.callWith_K (h₀ := X.base) I.ok.mod.kin o.hk ?_ h1 h2
  rw [h1]
  show wpAny _ _ (spliced ((false, eval (.Lambda params body scope lpos) X.env) :: backTo pos (starEach [] X.env))) _ _ s
  refine Calls.spliced_cons (wpAny_mono (ho_run (psG := []) (us := []) (as := []) (ds := []) o.hr o.hG o.tk o.F o.Sg o.hb o.hN o.hv o.hbd o.TB o.hcode o.hmT o.hu o.L o.hdef o.hbind o.hbody o.hd o.hcd I rl .nil .nil h) (fun fv s2 hs => Calls.spliced_nil hs) fun _ _ z => z)
end

/-! ### the end: the law's def called by the caller of laws -/
section
variable {P : Program} {w : World} {K : PySem.W.Frag} {mg mb : Str → Option Value} {k : Nat} {fa a : Addr} {cs : List (Addr × Addr)} {fd : FuncData} {x : Str} {sp : Sp} {s₁ : Shared} {vs : List Value} {ns : List Int}
/-- from a heap that tracks the script (or not) and the tables -/
theorem law_from (KX : K.In s₁.heap) (hns : s₁.heap.Ns mainGlobals mg) (hb : s₁.heap.Ns builtinsNs mb) (hbb : ∀ x : Str, x ≠ "__name__" → mb x = bootBuiltins x) (hlim : s₁.heap.NoLimit) (hg : s₁.gens = #[])
    (hT : ∀ p ∈ cs, s₁.heap.get? p.2 = some { cls := .none, data := .fields #[] }) (nT : ∀ p ∈ cs, K.lookup p.2 = none) (C : ∀ p ∈ cs, PySem.W.CodeHd s₁.heap p.1 p.2)
    (hbm : ∃ (bm : Addr) (ob : Obj), mg "__builtins__" = some (.ref bm) ∧ bm ≠ builtinsNs ∧ s₁.heap.get? bm = some ob ∧ ob.cls = .type "module" ∧ ob.dict = some builtinsNs ∧ ob.data = .plain)
    (ha : s₁.heap.get? a = some { cls := .type "list", data := .seq vs.toArray }) (hr : Room k callerA) (F : ∀ base : Heap, K.In base → base.Ns mainGlobals mg → (∀ p ∈ cs, TabB base mg p.1 p.2) → FG P w K mg base k fa fd [x] sp)
    (hbind : ∀ (s : Shared) (u : Value), BindsTo s fd ⟨[u], []⟩ [(x, u)]) (hsp : ∀ H : Hp, (∀ b u, H b = some u → b = a ∨ b ∈ cs.map (·.2)) → (∀ p ∈ cs, H p.2 = some (.tbl #[])) → SqL K H a (ns.map V.int) → sp [.ref a] H (fun v _ => v = .bl true) fun _ _ _ => False)
    (H : Hp) (hH : ∀ p ∈ cs, H p.2 = some (.tbl #[])) (hO : ∀ b, H b = none ∨ b ∈ cs.map (·.2) ∨ ∃ o xs, H b = some (.frz o (.lst xs))) (hS : SqL K H a (ns.map V.int)) (hok : HOk P w H s₁.heap) (hA : ∀ b, H b ≠ none → b = a ∨ b ∈ cs.map (·.2)) (hK : H a ≠ none → K.lookup a = none) :
    codeAny (model P w) callerA (.call (.ref fa) ⟨[.ref a], []⟩) (fun r s' => r = .ok (.ret (.bool true)) ∧ OldK s₁.heap s'.heap ∧ s'.os = s₁.os ∧ AllBare s'.gens) s₁ := by
  have isT : ∀ b : Addr, b ∈ cs.map (·.2) → s₁.heap.get? b = some { cls := .none, data := .fields #[] } := fun b hb => by
    obtain ⟨p, hp, e⟩ := List.mem_map.mp hb
    exact e ▸ hT p hp
  -- what is neither a list nor an empty record is not tracked
  have noD : ∀ {b : Addr} {o : Obj}, s₁.heap.get? b = some o → (∀ vs n, o.data ≠ .seq vs n) → o.data ≠ .fields #[] → H b = none := fun {b o} e h1 h2 => by
    cases q : H b with
    | none => rfl
    | some u =>
      rcases hA b (by rw [q]; simp) with e' | e'
      · rw [e', ha] at e
        cases e
        exact (h1 _ _ rfl).elim
      · rw [isT b e'] at e
        cases e
        exact (h2 rfl).elim
  have nsK : ∀ {b : Addr} {m : Str → Option Value}, s₁.heap.Ns b m → (hidT s₁.heap H).Ns b m := fun {b m} ⟨o, es, ep, e, d, r⟩ =>
    ⟨o, es, ep, hidT_get e (noD e (fun vs n z => by rw [d] at z; cases z) (fun z => by rw [d] at z; cases z)), d, r⟩
  have hKb : K.In (hidT s₁.heap H) := fun b o e => hidT_get (KX b o e) (by
    cases q : H b with
    | none => rfl
    | some u =>
      rcases hA b (by rw [q]; simp) with e' | e'
      · rw [e'] at e q
        rw [hK (by rw [q]; simp)] at e
        cases e
      · obtain ⟨p, hp, ep⟩ := List.mem_map.mp e'
        rw [← ep, nT p hp] at e
        cases e)
  have hM : L2.Mod K mg (hidT s₁.heap H) := ⟨hKb, nsK hns, ⟨mb, nsK hb, hbb⟩, let ⟨mc, h1, h2⟩ := hlim; ⟨mc, nsK h1, h2⟩⟩
  have TB : ∀ p ∈ cs, TabB (hidT s₁.heap H) mg p.1 p.2 := fun p hp => by
    have hTp := hT p hp
    refine ⟨?_, ?_, fun z => ?_⟩
    · obtain ⟨o, us, file, tf, flags, tg, inF, text, tt, e1, r1, r2, r3, rest⟩ := C p hp
      refine ⟨o, us, file, tf, flags, tg, inF, text, tt, hidT_get e1 (noD e1 (fun vs n z => ?_) fun z => ?_), r1, r2, r3, rest⟩
      · rw [r2] at z
        cases z
      · rw [r2] at z
        cases z
        simp at r3
    · obtain ⟨bm, ob, b1, b2, b3, b4, b5, b6⟩ := hbm
      have nG : bm ≠ mainGlobals := fun q => by
        obtain ⟨o, es, ep, e, hd, _⟩ := hns
        rw [q, e] at b3
        cases b3
        rw [hd] at b6
        cases b6
      have nP : bm ≠ p.2 := fun q => by
        rw [q, hTp] at b3
        cases b3
        cases b6
      exact ⟨bm, ob, b1, b2, nG, nP, hidT_get b3 (noD b3 (fun vs n z => by rw [b6] at z; cases z) fun z => by rw [b6] at z; cases z), b4, b5, b6⟩
    · obtain ⟨o, es, ep, e, hd, _⟩ := hns
      rw [z, hTp] at e
      cases e
      cases hd
  have e0 : Env0 P w K mg (hidT s₁.heap H) callerA [] s₁ H := ⟨rfl, hM, fun b o e => of_hidT e, Nat.le_of_eq (hidT_size _ _), trivial, fun b hb => absurd (show b ∈ ([] : List Addr) from hb) (by simp), hok, .of_eq hg⟩
  refine codeAny_mono ((F _ hKb (nsK hns) TB).run callerA [] s₁ H ⟨[.ref a], []⟩ [.ref a] [.ref a] _ _ hr rfl e0 (hbind s₁ (.ref a)) (.cons rfl .nil) (hsp H (fun b u e => hA b (by rw [e]; simp)) hH hS)) fun r s' h => ?_
  cases r with
  | error e =>
    obtain ⟨_, _, _, _, _, _, _, _, _, _, _, _, z⟩ := h
    exact z.elim
  | ok fl =>
    cases fl with
    | ret u =>
      obtain ⟨v, H', os, bare, un, hok', r', q⟩ := h
      have q' : v = .bl true := q
      subst q'
      obtain rfl : u = Value.bool true := r'
      have key : ∀ b o, b ∉ cs.map (·.2) → s₁.heap.get? b = some o → s'.heap.get? b = some o := fun b o nb e => by
        cases q : H b with
        | none => exact un.keep b o e q (by intro z; exact absurd (show b ∈ ([] : List Addr) from z) (by simp)) (by simp)
        | some u =>
          rcases hO b with z | z | ⟨ob, xs, z⟩
          · rw [q] at z; cases z
          · exact absurd z nb
          · obtain ⟨e1, _⟩ := hok b _ z
            obtain ⟨e2, _⟩ := hok' b _ (un.frzs b ob _ z)
            rw [e] at e1; cases e1
            exact e2
      have grown : ∀ p ∈ cs, ∃ more : Array Value, s'.heap.get? p.2 = some { cls := .none, data := .fields more } := fun p hp => by
        obtain ⟨more, z⟩ := un.tbls p.2 #[] (hH p hp)
        exact ⟨_, hok' p.2 _ z⟩
      refine ⟨rfl, ⟨fun b o e => ?_, fun b o e => ?_⟩, os, bare⟩
      · by_cases hb : b ∈ cs.map (·.2)
        · obtain ⟨p, hp, ep⟩ := List.mem_map.mp hb
          obtain ⟨more, hm⟩ := grown p hp
          rw [← ep] at e ⊢
          rw [hT p hp] at e
          cases e
          exact .inr (.inl ⟨((C p hp).tab (hT p hp)).isCodeTable, rfl, #[], more, rfl, by rw [Array.empty_append]; exact hm⟩)
        · exact .inl (key b o hb e)
      · by_cases hb : b ∈ cs.map (·.2)
        · obtain ⟨p, hp, ep⟩ := List.mem_map.mp hb
          obtain ⟨more, hm⟩ := grown p hp
          rw [← ep]
          exact ⟨_, hm⟩
        · exact ⟨o, key b o hb e⟩
    | _ => exact False.elim h
theorem law_enter (KX : K.In s₁.heap) (hns : s₁.heap.Ns mainGlobals mg) (hb : s₁.heap.Ns builtinsNs mb) (hbb : ∀ x : Str, x ≠ "__name__" → mb x = bootBuiltins x) (hlim : s₁.heap.NoLimit) (hg : s₁.gens = #[])
    (hT : ∀ p ∈ cs, s₁.heap.get? p.2 = some { cls := .none, data := .fields #[] }) (nT : ∀ p ∈ cs, K.lookup p.2 = none) (C : ∀ p ∈ cs, PySem.W.CodeHd s₁.heap p.1 p.2)
    (hbm : ∃ (bm : Addr) (ob : Obj), mg "__builtins__" = some (.ref bm) ∧ bm ≠ builtinsNs ∧ s₁.heap.get? bm = some ob ∧ ob.cls = .type "module" ∧ ob.dict = some builtinsNs ∧ ob.data = .plain)
    (ha : s₁.heap.get? a = some { cls := .type "list", data := .seq vs.toArray }) (hi : IntsAre vs ns) (hl : ns.length ≤ sizeLine) (hr : Room k callerA) (F : ∀ base : Heap, K.In base → base.Ns mainGlobals mg → (∀ p ∈ cs, TabB base mg p.1 p.2) → FG P w K mg base k fa fd [x] sp)
    (hbind : ∀ (s : Shared) (u : Value), BindsTo s fd ⟨[u], []⟩ [(x, u)]) (hsp : ∀ H : Hp, (∀ b u, H b = some u → b = a ∨ b ∈ cs.map (·.2)) → (∀ p ∈ cs, H p.2 = some (.tbl #[])) → SqL K H a (ns.map V.int) → sp [.ref a] H (fun v _ => v = .bl true) fun _ _ _ => False) :
    codeAny (model P w) callerA (.call (.ref fa) ⟨[.ref a], []⟩) (fun r s' => r = .ok (.ret (.bool true)) ∧ OldK s₁.heap s'.heap ∧ s'.os = s₁.os ∧ AllBare s'.gens) s₁ := by
  have rv := vals_ints hi
  have isT : ∀ b : Addr, b ∈ cs.map (·.2) → s₁.heap.get? b = some { cls := .none, data := .fields #[] } := fun b hb => by
    obtain ⟨p, hp, e⟩ := List.mem_map.mp hb
    exact e ▸ hT p hp
  have aT : a ∉ cs.map (·.2) := fun z => by
    have q := isT a z
    rw [ha] at q
    have z' : Data.seq vs.toArray _ = Data.fields #[] := congrArg Obj.data (Option.some.inj q)
    cases z'
  have memT : ∀ p ∈ cs, p.2 ∈ cs.map (·.2) := fun p hp => List.mem_map.mpr ⟨p, hp, rfl⟩
  have go := fun H => law_from (x := x) (ns := ns) KX hns hb hbb hlim hg hT nT C hbm ha hr F hbind hsp H
  cases hk : K.lookup a with
  | some o =>
    have e := KX a o hk
    rw [ha] at e
    cases e
    let H0 : Hp := fun b => if b ∈ cs.map (·.2) then some (.tbl #[]) else none
    have t1 : ∀ b, b ∈ cs.map (·.2) → H0 b = some (.tbl #[]) := fun b hb => if_pos hb
    have t2 : ∀ b, b ∉ cs.map (·.2) → H0 b = none := fun b hb => if_neg hb
    refine go H0 (fun p hp => t1 _ (memT p hp)) (fun b => ?_) (.inr ⟨_, vs.toArray, _, hk, rfl, rfl, rfl, by rw [List.size_toArray, hi.length]; exact hl, by simpa using rv⟩) (fun b u z => ?_) (fun b z => ?_) fun z => absurd (t2 a aT) z
    · by_cases hb : b ∈ cs.map (·.2)
      · exact .inr (.inl hb)
      · exact .inl (t2 b hb)
    · by_cases hb : b ∈ cs.map (·.2)
      · rw [t1 b hb] at z
        cases z
        exact isT b hb
      · rw [t2 b hb] at z
        cases z
    · by_cases hb : b ∈ cs.map (·.2)
      · exact .inr hb
      · exact absurd (t2 b hb) z
  | none =>
    let H0 : Hp := fun b => if b = a then some (.frz { cls := .type "list", data := .seq vs.toArray } (.lst (ns.map V.int))) else if b ∈ cs.map (·.2) then some (.tbl #[]) else none
    have t0 : H0 a = some (.frz { cls := .type "list", data := .seq vs.toArray } (.lst (ns.map V.int))) := if_pos rfl
    have t1 : ∀ b, b ∈ cs.map (·.2) → H0 b = some (.tbl #[]) := fun b hb => (if_neg (show ¬ b = a from fun z => aT (by rw [← z]; exact hb))).trans (if_pos hb)
    have t2 : ∀ b, b ≠ a → b ∉ cs.map (·.2) → H0 b = none := fun b h1 h2 => (if_neg h1).trans (if_neg h2)
    refine go H0 (fun p hp => t1 _ (memT p hp)) (fun b => ?_) (.inl (.inr ⟨_, t0⟩)) (fun b u z => ?_) (fun b z => ?_) fun _ => hk
    · by_cases hb : b = a
      · exact .inr (.inr ⟨_, _, hb ▸ t0⟩)
      · by_cases hb2 : b ∈ cs.map (·.2)
        · exact .inr (.inl hb2)
        · exact .inl (t2 b hb hb2)
    · by_cases hb : b = a
      · subst hb
        rw [t0] at z
        cases z
        exact ⟨ha, by rw [List.length_map]; exact hl, vs, _, rv, ha⟩
      · by_cases hb2 : b ∈ cs.map (·.2)
        · rw [t1 b hb2] at z
          cases z
          exact isT b hb2
        · rw [t2 b hb hb2] at z
          cases z
    · by_cases hb : b = a
      · exact .inl hb
      · by_cases hb2 : b ∈ cs.map (·.2)
        · exact .inr hb2
        · exact absurd (t2 b hb hb2) z
end
/-- the start: the script's list is frozen, nothing is in the store -/
theorem start_ok {K : PySem.W.Frag} {mg : Str → Option Value} {cs : List (Addr × Addr)} {qs : List Str} {a : Addr} {H : Hp} {ns : List Int} (hO : ∀ b u, H b = some u → b = a ∨ b ∈ cs.map (·.2)) (hH : ∀ p ∈ cs, H p.2 = some (.tbl #[])) (hS : SqL K H a (ns.map V.int)) (tabs : List (Addr × Str)) (ht : ∀ p ∈ tabs, p.1 ∈ cs.map (·.2)) :
    ∃ W, HeapOk ⟨K, mg, ⟨tabs, none, none⟩⟩ W [] H ∧ RV K W (.frl (ns.map D.int)) (.ref a) := by
  let F : Hp := fun b => match H b with
    | some (.tbl _) => none
    | o => o
  have hF : ∀ b o, F b = some o → H b = some o ∧ ∀ ps, o ≠ .tbl ps := fun b o e => by
    have e' : (match H b with | some (.tbl _) => none | o => o) = some o := e
    cases q : H b with
    | none => rw [q] at e'; cases e'
    | some u =>
      rw [q] at e'
      cases u <;> first | (cases e'; exact ⟨rfl, fun ps z => nomatch z⟩) | cases e'
  have F1 : ∀ b o, H b = some o → (∀ ps, o ≠ .tbl ps) → F b = some o := fun b o e n => by
    show (match H b with | some (.tbl _) => none | o => o) = some o
    rw [e]
    cases o <;> first | rfl | exact absurd rfl (n _)
  refine ⟨⟨F, [], [], none⟩, ⟨fun b o e => (hF b o e).1, rfl, fun i j b h => by simp at h, fun n o h => by simp at h, fun p hp => ?_, fun q hq => by simp at hq, fun b ps e => (hF b _ e).2 ps rfl⟩, .frl ?_ (rvs_ints ns)⟩
  · obtain ⟨q, hq, e⟩ := List.mem_map.mp (ht p hp)
    exact TabS.nil (by rw [← e]; exact hH q hq)
  · rcases hS with (h | ⟨o, h⟩) | h
    · exact .inl (.inl (F1 _ _ h (fun ps z => nomatch z)))
    · exact .inl (.inr ⟨o, F1 _ _ h (fun ps z => nomatch z)⟩)
    · exact .inr h
/-- THE END for a law: the last def's meaning at each script is True -/
theorem law_holds {l : PySem.W.OpenLaw} {n k : Nat} {q : Program} {loose : List Str} {XP : (Str → Option Value) → Heap → Prop} {YP : World → Heap → Prop} {d : DefRec} {x : Str} {g : Fn}
    (hn : l.most = some n) (hn2 : n ≤ sizeLine) (hdf : d.params.defaults = []) (hr : Room k callerA)
    (F : ∀ (w : World) (mg : Str → Option Value) (fa : Addr) (h : Heap), YP w h → h.Ns mainGlobals mg → mg d.name = some (.ref fa) →
      ∃ (K : PySem.W.Frag) (fd : FuncData) (cs : List (Addr × Addr)) (tabs : List (Addr × Str)), K.In h ∧ (∀ p ∈ cs, h.get? p.2 = some { cls := .none, data := .fields #[] }) ∧ (∀ p ∈ cs, K.lookup p.2 = none) ∧ (∀ p ∈ cs, PySem.W.CodeHd h p.1 p.2) ∧ (∀ (s : Shared) (u : Value), BindsTo s fd ⟨[u], []⟩ [(x, u)]) ∧
        (∀ p ∈ tabs, p.1 ∈ cs.map (·.2)) ∧ ∀ base : Heap, K.In base → base.Ns mainGlobals mg → (∀ p ∈ cs, TabB base mg p.1 p.2) → FD l.prog w ⟨K, mg, ⟨tabs, none, none⟩⟩ base k fa fd [x] g)
    (law : ∀ ns : List Int, ns.length ≤ n → (∀ z ∈ ns, Builtin.Int.intBits z ≤ 1048576) → ∃ st, g [.frl (ns.map D.int)] [] = .ok (.bl true) st) :
    PySem.W.WalkO q loose XP YP l.row.toRowW d [] (fun f vs => PySem.call f vs) := by
  refine Att.attach_callB hn hdf fun w s₀ s₁ mg mb fa o pm cd doc a vs ns G Y ho hd hcd hmg hobj hints hlen hbits hg => ?_
  obtain ⟨K, fd, cs, tabs, KX, hT, nT, C, hb, ht, hF⟩ := F w mg fa _ Y G.T.g hmg
  refine law_enter KX G.T.g G.T.b G.T.builtins G.T.nolimit hg hT nT C G.T.bmain hobj hints (Nat.le_trans hlen hn2) hr (fun base h1 h2 h3 => (hF base h1 h2 h3).fg) hb fun H hO hH hS => ?_
  obtain ⟨W, ok, rv⟩ := start_ok (mg := mg) (qs := []) hO hH hS tabs ht
  refine ⟨rfl, W, [.frl (ns.map D.int)], [], ok, .cons rv .nil, ?_⟩
  obtain ⟨st, e⟩ := law ns hlen hbits
  rw [e]
  intro W' H' v _ _ r
  cases r
  rfl
end Sv
/-! Sv17: what the head must show of own classes, as Bools. -/
namespace Sv
open PySem L2 LamX PySem.W PySem.Calls PySem.HandSPX
open PyProof.Rows hiding St

/-- an own error class -/
def excB (K : Frag) (C : Addr) : Bool := match K.lookup C with
  | some ⟨.type "type", _, .cls cd, sl⟩ => (match cd.mro, sl.toList with
    | .ref C' :: bm, [_, _, _, _, some (.builtin n), _] => C' == C && n == "ValueError.__new__" && !cd.hasDel && cd.hasDict && refsVE bm
    | _, _ => false)
  | _ => false
theorem excB_ok {K : Frag} {C : Addr} (q : excB K C = true) : ∃ nm q N bs bm sn sub ab col dd k0 k1 k2 k3 k5, K.lookup C = some (excClassObj nm q C N bs bm true sn sub ab col dd k0 k1 k2 k3 k5 "ValueError.__new__") ∧ refsVE bm = true := by
  unfold excB at q
  split at q
  · rename_i dd cd sl ho
    split at q
    · rename_i C' bm k0 k1 k2 k3 n k5 hm hs
      simp only [Bool.and_eq_true, beq_iff_eq, Bool.not_eq_true'] at q
      obtain ⟨⟨⟨⟨rfl, rfl⟩, hdel⟩, hdc⟩, ht⟩ := q
      obtain ⟨nm, bs, mro, ns, qn, hd, sn, sub, ab, col, del⟩ := cd
      dsimp only at hm hdel hdc
      subst hm hdel hdc
      have hsl : sl = #[k0, k1, k2, k3, some (.builtin "ValueError.__new__"), k5] := by
        obtain ⟨l⟩ := sl
        simp only at hs
        rw [hs]
      subst hsl
      exact ⟨nm, qn, ns, bs, bm, sn, sub, ab, col, dd, k0, k1, k2, k3, k5, ho, ht⟩
    · cases q
  · cases q
/-- .. with a field that its own __init__ stores -/
def errB (K : Frag) (c fl : Str) : Bool :=
  excB K (He.ga K c) && (He.eqO (findIn K (.ref (He.ga K c)) "__setattr__") (some (some (.builtin "object.__setattr__"))) && (He.eqO (findIn K (.ref (He.ga K c)) "__getattribute__") (some (some (.builtin "BaseException.__getattribute__"))) &&
  (He.eqO (findIn K (.ref (He.ga K c)) "__getattr__") (some none) && (He.eqO (findIn K (.ref (He.ga K c)) fl) (some none) && (He.eqO (findIn K (.ref (He.ga K c)) "__init__") (some (some (.ref (He.ma K (He.ga K c) "__init__")))) &&
  (decide (typeIn K (.ref (He.ma K (He.ga K c) "__init__")) = some (.type "function")) && (keepIn K (.ref (He.ga K c)) && (decide (subIn K (.ref (He.ga K c)) (.type "BaseException") = some true) &&
  (decide (typeIn K (.ref (He.ga K c)) = some (.type "type")) && hasDictIn K (He.ga K c))))))))))
theorem errTxt {K : Frag} {mg : Str → Option Value} {c qn fl : Str} {fd : FuncData} {p1 p2 q1 q2 q3 q4 : Pos} (N : ErrN qn fl) (g : mg c = some (.ref (He.ga K c))) (F : FunD K "__init__" qn (eArgs fl p1 p2) (eBody fl q1 q2 q3 q4) (eScope fl) [] [] (He.ma K (He.ga K c) "__init__") fd)
    (h : errB K c fl = true) : ErrTxt K mg c qn fl (He.ga K c) (He.ma K (He.ga K c) "__init__") := by
  obtain ⟨h1, h⟩ := He.ba h
  obtain ⟨h2, h⟩ := He.ba h
  obtain ⟨h3, h⟩ := He.ba h
  obtain ⟨h4, h⟩ := He.ba h
  obtain ⟨h5, h⟩ := He.ba h
  obtain ⟨h6, h⟩ := He.ba h
  obtain ⟨h7, h⟩ := He.ba h
  obtain ⟨h8, h⟩ := He.ba h
  obtain ⟨h9, h⟩ := He.ba h
  obtain ⟨h10, h11⟩ := He.ba h
  refine ⟨N, g, excB_ok h1, He.eqO_ok h2, He.eqO_ok h3, He.eqO_ok h4, He.eqO_ok h5, He.eqO_ok h6, of_decide_eq_true h7, h8, of_decide_eq_true h9, of_decide_eq_true h10, h11, ?_⟩
  obtain ⟨oc, od, dV, kV, doc, pm, an, cdv, ct, osl, rfl, lk, hcd, hdv, hkv⟩ := F.ex
  rcases hdv with ⟨_, rfl⟩ | ⟨q, _⟩
  · exact ⟨oc, od, kV, doc, pm, an, cdv, ct, osl, p1, p2, q1, q2, q3, q4, lk, hcd⟩
  · exact absurd rfl q
/-- an own class of whose instances isinstance may be asked -/
def insTyB (K : Frag) (c : Str) : Bool :=
  He.eqO (findIn K (.ref (He.ga K c)) "__class__") (some (some (.builtin "object.__class__"))) && (He.eqO (specialIn K (.builtin "object.__class__") "__get__") (some (some (.builtin "getset_descriptor.__get__"))) &&
  (decide (takesIn K (.builtin "object.__class__") = some true) && decide (mroIn K (He.ga K c) (.type "object") = some true)))
theorem insTy {K : Frag} {c : Str} (cl : Cls K (He.ga K c)) (h : insTyB K c = true) : InsTy K (He.ga K c) := by
  obtain ⟨h1, h⟩ := He.ba h
  obtain ⟨h2, h⟩ := He.ba h
  obtain ⟨h3, h4⟩ := He.ba h
  exact ⟨cl, He.eqO_ok h1, He.eqO_ok h2, of_decide_eq_true h3, of_decide_eq_true h4⟩
end Sv
/-! Sv18: written dicts with text keys; small helps for printed derivations. -/
namespace Sv
open PySem L2 LamX
open PyProof.Rows hiding St

/-- at d: a written dict of these keys and values -/
structure KTab (K : PySem.W.Frag) (w : World) (d : Addr) (kvs : List (Str × D)) : Prop where
  dct : ∃ es n, KDict K w d es n
  has : ∀ z x, kvs.lookup z = some x → ∃ u v, PySem.W.nsIn K d z = some (some u) ∧ RelV v u ∧ ∀ W, RV K W x v
  no : ∀ z, kvs.lookup z = none → PySem.W.nsIn K d z = some none
def inKD (kvs : List (Str × D)) : D → M D
  | .str z => ret (.bl (kvs.lookup z).isSome)
  | _ => bad
def notInKD (kvs : List (Str × D)) : D → M D
  | .str z => ret (.bl (!(kvs.lookup z).isSome))
  | _ => bad
def ixKD (kvs : List (Str × D)) : D → M D
  | .str z => getO (kvs.lookup z)
  | _ => bad
abbrev sInK (kvs : List (Str × D)) (fa : Env → M D) : Env → M D := s1 (inKD kvs) fa
abbrev sNotInK (kvs : List (Str × D)) (fa : Env → M D) : Env → M D := s1 (notInKD kvs) fa
abbrev sIxK (kvs : List (Str × D)) (fb : Env → M D) : Env → M D := s1 (ixKD kvs) fb
section
variable {X : Cx} {T : Tb} {Wx : WX} {x : Str} {d : Addr} {kvs : List (Str × D)} {a : Expr} {fa : Env → M D} {p pos : Pos}
theorem KTab.ask (k : KTab X.K X.w d kvs) (z : Str) : ∃ r, PySem.W.nsIn X.K d z = some r ∧ r.isSome = (kvs.lookup z).isSome := by
  cases e : kvs.lookup z with
  | none => exact ⟨none, k.no z e, rfl⟩
  | some y =>
    obtain ⟨u, v, h, _⟩ := k.has z y e
    exact ⟨some u, h, rfl⟩
theorem se_inK (k : KTab X.K X.w d kvs) (ha : SE X T Wx a fa) (hg : Gl X x) (hm : X.mg x = some (.ref d)) (hd : (x == ("__debug__" : Str)) = false := by decide) (hm2 : behindInMarks .In (.Name x p) = false := by rfl) : SE X T Wx (.Compare a [.In] [.Name x p] pos) (sInK kvs fa) := by
  obtain ⟨es, n, kd⟩ := k.dct
  refine ⟨(pe_cmpR (op_in_kd kd) ha.pe (pe_glob (v := .ref d) hg hm rfl hd) hm2).imp fun σ H Q => ?_⟩
  rintro ⟨W, env, st, rl, h⟩
  refine tE_bind (k := fun _ => inKD kvs) rl h fun W1 y st1 H1 v e1 r1 rv q => ?_
  cases rv with
  | str z =>
    obtain ⟨r, h1, h2⟩ := k.ask z
    exact ⟨z, r, rfl, rfl, h1, by rw [h2]; exact q.here r1.hp (.bl _)⟩
  | _ => exact q.elim
theorem se_notInK (k : KTab X.K X.w d kvs) (ha : SE X T Wx a fa) (hg : Gl X x) (hm : X.mg x = some (.ref d)) (hd : (x == ("__debug__" : Str)) = false := by decide) (hm2 : behindInMarks .NotIn (.Name x p) = false := by rfl) : SE X T Wx (.Compare a [.NotIn] [.Name x p] pos) (sNotInK kvs fa) := by
  obtain ⟨es, n, kd⟩ := k.dct
  refine ⟨(pe_cmpR (op_notIn_kd kd) ha.pe (pe_glob (v := .ref d) hg hm rfl hd) hm2).imp fun σ H Q => ?_⟩
  rintro ⟨W, env, st, rl, h⟩
  refine tE_bind (k := fun _ => notInKD kvs) rl h fun W1 y st1 H1 v e1 r1 rv q => ?_
  cases rv with
  | str z =>
    obtain ⟨r, h1, h2⟩ := k.ask z
    exact ⟨z, r, rfl, rfl, h1, by rw [h2]; exact q.here r1.hp (.bl _)⟩
  | _ => exact q.elim
theorem se_ixK (k : KTab X.K X.w d kvs) (ha : SE X T Wx a fa) (hg : Gl X x) (hm : X.mg x = some (.ref d)) (hd : (x == ("__debug__" : Str)) = false := by decide) (hs : PlainIx a := by intro _ _; rfl) : SE X T Wx (.Subscript (.Name x p) a pos) (sIxK kvs fa) := by
  obtain ⟨es, n, kd⟩ := k.dct
  refine ⟨(pe_ix ix_kdict (pe_glob (v := .ref d) hg hm rfl hd) ha.pe hs).imp fun σ H Q => ?_⟩
  rintro ⟨W, env, st, rl, h⟩
  refine tE_bind (k := fun _ => ixKD kvs) rl h fun W1 y st1 H1 v e1 r1 rv q => ?_
  cases rv with
  | str z =>
    obtain ⟨y, e2, q2⟩ := Post.getO q
    obtain ⟨u, v, h1, h2, h3⟩ := k.has z y e2
    exact ⟨d, z, v, rfl, rfl, ⟨es, n, u, kd.at_, kd.lit, h1, h2⟩, q2.here r1.hp (h3 _)⟩
  | _ => exact q.elim
end
/-- its values as the head shows them -/
def dvD : He.Dv → Option D
  | .non => some .non
  | .bl b => some (.bl b)
  | .int i => some (.int i)
  | .str x => some (.str x)
  | _ => none
theorem dv_rv {K : PySem.W.Frag} {q : He.Dv} {x : D} (h : dvD q = some x) (W : Wd) : RV K W x (q.v K) := by
  cases q <;> cases h
  · exact .non
  · exact .bl _
  · exact .int _
  · exact .str _
theorem keysIn_find {P : Params} : ∀ {l : List DictEntry} {ks : List Str}, l.map He.keyOf = He.keysIn P ks → ∀ z, z ∉ ks → l.find? (·.key.isStr z) = none ∧ l.any (·.refKey) = false
  | [], [], _, z, _ => ⟨rfl, rfl⟩
  | [], k :: ks, h, _, _ => by cases h
  | e :: r, [], h, _, _ => by cases h
  | e :: r, k :: ks, h, z, hz => by
    have h1 : He.keyOf e :: r.map He.keyOf = some (k, PyData.keyHash P k) :: He.keysIn P ks := h
    injection h1 with h2 h3
    obtain ⟨i1, i2⟩ := keysIn_find h3 z (fun q => hz (List.mem_cons_of_mem _ q))
    have hk : k ≠ z := fun q => hz (by rw [q]; exact List.mem_cons_self)
    unfold He.keyOf at h2
    split at h2
    · rename_i y t q
      have h4 := Option.some.inj h2
      obtain ⟨h5, h6⟩ := Prod.mk.inj h4
      subst h5
      have h7 : e.key.isStr z = false := by
        rw [q]
        show (y == z) = false
        exact beq_false_of_ne hk
      have h8 : e.refKey = false := by
        unfold DictEntry.refKey
        rw [q]
      refine ⟨?_, ?_⟩
      · rw [List.find?_cons, h7]
        exact i1
      · rw [List.any_cons, h8, i2]
        rfl
    · cases h2
theorem ktab_of {K : PySem.W.Frag} {w : World} {d : Addr} {kds : List (Str × He.Dv)} {kvs : List (Str × D)} (h : He.dicW K d = some (He.keysIn w.params (kds.map (·.1)))) (hv : He.valsB K d kds = true) (hk : kds.map (fun q => (q.1, dvD q.2)) = kvs.map (fun q => (q.1, some q.2))) : KTab K w d kvs := by
  have keys : kds.map (·.1) = kvs.map (·.1) := by
    have := congrArg (List.map (·.1)) hk
    rw [List.map_map, List.map_map] at this
    exact this
  refine ⟨He.dicW_ok h, fun z x e => ?_, fun z e => ?_⟩
  · have hm : (z, some x) ∈ kvs.map (fun q => (q.1, some q.2)) := List.mem_map.mpr ⟨(z, x), PySem.mem_of_lookup e, rfl⟩
    rw [← hk] at hm
    obtain ⟨q, hq, eq⟩ := List.mem_map.mp hm
    obtain ⟨e1, e2⟩ := Prod.mk.inj eq
    obtain ⟨u, h1, h2⟩ := He.valsB_ok hv hq
    rw [← e1]
    exact ⟨u, _, h1, h2, dv_rv e2⟩
  · have hz : z ∉ kds.map (·.1) := fun hm => by
      rw [keys] at hm
      obtain ⟨q, hq, eq⟩ := List.mem_map.mp hm
      have := List.lookup_eq_none_iff.mp e q hq
      rw [eq] at this
      simp at this
    unfold He.dicW at h
    unfold PySem.W.nsIn
    cases q : K.lookup d with
    | none => rw [q] at h; cases h
    | some o =>
      obtain ⟨oc, od, dt, osl⟩ := o
      rw [q] at h
      cases oc with
      | type c =>
        cases od with
        | none =>
          cases dt with
          | dict es n =>
            have h1 : (match decide (c = "dict") && (osl.isEmpty && !(d == sysModules)) with
              | true => some (es.toList.map He.keyOf)
              | false => none) = some (He.keysIn w.params (kds.map (·.1))) := h
            split at h1
            · obtain ⟨f1, f2⟩ := keysIn_find (Option.some.inj h1) z hz
              dsimp only
              rw [f1, f2]
              rfl
            · cases h1
          | _ => cases h
        | some b => cases dt <;> cases h
      | _ => cases od <;> cases dt <;> cases h

/-! ### helps -/
def visB (sc : Scope) (x : Str) : Bool := match sc.names.lookup x with
  | some .local => true
  | some .cell => true
  | some .free => true
  | _ => false
theorem vis_of {sc : Scope} {x : Str} (h : visB sc x = true) : Vis sc x := by
  unfold visB at h
  unfold Vis
  split at h <;> simp_all
def locB (sc : Scope) (x : Str) : Bool := match sc.names.lookup x with
  | some .local => true
  | some .cell => true
  | _ => false
theorem loc_of {sc : Scope} {x : Str} (h : locB sc x = true) : L2.Loc sc x := by
  unfold locB at h
  unfold L2.Loc
  split at h <;> simp_all
theorem tkF {Y : Cx} : Takes Y WF := fun u s' ⟨_, _, _, _, _, _, _, _, _, _, _, _, _, _, _, _, w⟩ => w.elim
theorem room_u {k : Nat} {A : Around} (r : Room k A) : A.units + 65 < cLine := by have := r.un; omega
theorem room_u1 {k : Nat} {A : Around} (r : Room k A) : A.units + 1 < cLine := by have := r.un; omega
end Sv
/-! Sv19: what a printed derivation leans on. -/
namespace Sv
open PySem L2 LamX
open PyProof.Rows hiding St

/-- what the walk knows: the head's facts of the written part, the tables of the lambda makers -/
structure Cw (fa : List He.Fa) (fn : List He.DefD) (ts : List He.Tab) (tf : List He.Defn) (ex : PySem.W.Frag → Bool) (w : World) (K : PySem.W.Frag) (mg : Str → Option Value) (base : Heap) : Prop where
  h : ∃ h, K.In h ∧ h.Ns mainGlobals mg ∧ He.SaysX fa fn ts tf ex w h K
  tb : ∀ p ∈ tf, TabB base mg (He.cT K p).1 (He.cT K p).2
section
variable {fa : List He.Fa} {fn : List He.DefD} {ts : List He.Tab} {tf : List He.Defn} {ex : PySem.W.Frag → Bool} {w : World} {K : PySem.W.Frag} {mg : Str → Option Value} {base : Heap} (c : Cw fa fn ts tf ex w K mg base)
include c
theorem Cw.fact (i : Nat) {f : He.Fa} (e : fa[i]? = some f := by rfl) : f.ok K = true := by
  obtain ⟨h, _, _, s⟩ := c.h
  exact s.t.d.fact i e
theorem Cw.glo (i : Nat) {x : Str} (e : fa[i]? = some (.glo x) := by rfl) : mg x = some (.ref (He.ga K x)) := by
  obtain ⟨h, k, n, s⟩ := c.h
  exact He.glo_ok k n (s.t.d.fact i e)
theorem Cw.free (i : Nat) {x : Str} (e : fa[i]? = some (.free x) := by rfl) : mg x = none := by
  obtain ⟨h, k, n, s⟩ := c.h
  exact He.free_ok k n (s.t.d.fact i e)
theorem Cw.int (i : Nat) {x : Str} {z : Int} (e : fa[i]? = some (.int x z) := by rfl) : ∃ t, mg x = some (.int z t) := by
  obtain ⟨h, k, n, s⟩ := c.h
  exact He.int_ok k n (s.t.d.fact i e)
theorem Cw.str (i : Nat) {x : Str} {z : Str} (e : fa[i]? = some (.str x z) := by rfl) : ∃ t, mg x = some (.str z t) := by
  obtain ⟨h, k, n, s⟩ := c.h
  exact He.str_ok k n (s.t.d.fact i e)
theorem Cw.cls (i : Nat) {x : Str} (e : fa[i]? = some (.cls x) := by rfl) : Cls K (He.ga K x) := He.cls_ok (c.fact i e)
theorem Cw.mkr (i : Nat) {x : Str} (e : fa[i]? = some (.mkr x) := by rfl) : Mk K (He.ga K x) (He.ma K (He.ga K x) "__init__") := He.mkr_ok (c.fact i e)
theorem Cw.noat (i : Nat) {x f : Str} (e : fa[i]? = some (.noat x f) := by rfl) : NoAttr K (He.ga K x) f := He.noat_ok (c.fact i e)
theorem Cw.meth (i : Nat) {x m : Str} (e : fa[i]? = some (.meth x m) := by rfl) : Meth K (He.ga K x) m (He.ma K (He.ga K x) m) := He.meth_ok (c.fact i e)
theorem Cw.def_ (i : Nat) {d : He.DefD} (e : fn[i]? = some d := by rfl) : ∃ fd, FunD K d.name d.qual d.params d.body d.scope (d.dvs K) (d.kws K) (He.fAd K d.at_) fd := by
  obtain ⟨h, k, n, s⟩ := c.h
  exact s.t.d.def_ i e
theorem Cw.more : ex K = true := by
  obtain ⟨h, k, n, s⟩ := c.h
  exact s.more
theorem Cw.tab (i : Nat) {t : He.Tab} (e : ts[i]? = some t := by rfl) : He.dicW K (t.1 K) = some (He.keysIn w.params t.2) := by
  obtain ⟨h, k, n, s⟩ := c.h
  have z : ts.map (fun t => He.dicW K (t.1 K)) = ts.map fun t => some (He.keysIn w.params t.2) := congrArg (fun z : He.AlT => z.2) s.t
  have z2 : (ts.map fun t => He.dicW K (t.1 K))[i]? = (ts.map fun t => some (He.keysIn w.params t.2))[i]? := by rw [z]
  rw [List.getElem?_map, List.getElem?_map, e] at z2
  exact Option.some.inj z2
end
section
variable {X : Cx} {T : Tb} {Wx : WX} {x : Str} {p : Pos}
theorem se_gi {i : Int} (hg : Gl X x) (h : ∃ t, X.mg x = some (.int i t)) (hd : (x == ("__debug__" : Str)) = false := by decide) : SE X T Wx (.Name x p) (sCon (.int i)) := by
  obtain ⟨t, h⟩ := h
  exact se_globi hg h ⟨t, rfl⟩ hd
theorem se_gs {z : Str} (hg : Gl X x) (h : ∃ t, X.mg x = some (.str z t)) (hd : (x == ("__debug__" : Str)) = false := by decide) : SE X T Wx (.Name x p) (sCon (.str z)) := by
  obtain ⟨t, h⟩ := h
  exact se_globs hg h ⟨t, rfl⟩ hd
end
theorem FD.any {P : Program} {w : World} {K : PySem.W.Frag} {mg : Str → Option Value} {tabs : List (Addr × Str)} {base : Heap} {k : Nat} {f : Addr} {fd : FuncData} {ps : List Str} {g : Fn} {T : Tb} (F : FD P w ⟨K, mg, ⟨tabs, none, none⟩⟩ base k f fd ps g) (h : T.tabs = tabs) : FD P w ⟨K, mg, T⟩ base k f fd ps g := by
  subst h
  exact ⟨F.fg, F.ar⟩
/-- which classes a clause takes, by names -/
def ansE (l : List (Str × Bool)) (c : Str) : Option Bool := l.lookup c
def exmB (K : PySem.W.Frag) (l : List (Str × Bool)) (y : Value) : Bool := l.all fun p => decide (PySem.W.exmOne K (.ref (He.ga K p.1)) y = some p.2)
theorem ansE_ok {K : PySem.W.Frag} {mg : Str → Option Value} {l : List (Str × Bool)} {y : Value} (hm : ∀ p ∈ l, mg p.1 = some (.ref (He.ga K p.1))) (h : exmB K l y = true) : ∀ cn b C, ansE l cn = some b → mg cn = some (.ref C) → PySem.W.exmOne K (.ref C) y = some b := by
  intro cn b C e g
  have m := PySem.mem_of_lookup e
  have g2 := hm _ m
  rw [g] at g2
  cases g2
  exact of_decide_eq_true (List.all_eq_true.mp h _ m)
theorem bt_len : bootBuiltins "len" = some (.builtin "len") := by decide +kernel
theorem bt_tuple : bootBuiltins "tuple" = some (.type "tuple") := by decide +kernel
theorem bt_list : bootBuiltins "list" = some (.type "list") := by decide +kernel
theorem bt_int : bootBuiltins "int" = some (.type "int") := by decide +kernel
theorem bt_str : bootBuiltins "str" = some (.type "str") := by decide +kernel
theorem bt_bool : bootBuiltins "bool" = some (.type "bool") := by decide +kernel
theorem bt_dict : bootBuiltins "dict" = some (.type "dict") := by decide +kernel
theorem bt_sorted : bootBuiltins "sorted" = some (.builtin "sorted") := by decide +kernel
theorem bt_abs : bootBuiltins "abs" = some (.builtin "abs") := by decide +kernel
theorem bt_max : bootBuiltins "max" = some (.builtin "max") := by decide +kernel
theorem bt_min : bootBuiltins "min" = some (.builtin "min") := by decide +kernel
theorem bt_divmod : bootBuiltins "divmod" = some (.builtin "divmod") := by decide +kernel
theorem bt_all : bootBuiltins "all" = some (.builtin "all") := by decide +kernel
theorem bt_any : bootBuiltins "any" = some (.builtin "any") := by decide +kernel
theorem bt_sum : bootBuiltins "sum" = some (.builtin "sum") := by decide +kernel
theorem bt_repr : bootBuiltins "repr" = some (.builtin "repr") := by decide +kernel
/-- isinstance's class, by name -/
theorem isi_by {X : Cx} {x : Str} {n : String} {p : Pos} (hg : Gl X x) (hm : X.mg x = none) (hv : bootBuiltins x = some (.type n)) (hn : x ≠ "__name__" := by decide) (hd : (x == ("__debug__" : Str)) = false := by decide) : PE X (.Name x p) (tC (.ty n)) := pe_bltn hg hm hv rfl hn hd
end Sv
/-! Sv20: lambda makers. -/
namespace Sv
open PySem L2 LamX
open PyProof.Rows hiding St
theorem code_of {K : PySem.W.Frag} {p : He.Defn} {x qual : Str} {params : Arguments} {body : List Stmt} {scope : Scope} {dvs : List V} {kws : List (Str × V)} {fd : FuncData} (F : FunD K x qual params body scope dvs kws (He.fAd K p) fd) : fd.code = .ref (He.cT K p).1 := by
  obtain ⟨oc, od, dV, kV, doc, pm, an, cdv, ct, osl, rfl, lk, hcd, _, _⟩ := F.ex
  obtain ⟨c', e⟩ := He.codeIn_ref hcd
  have e2 : (PySem.W.fnOf x qual params body scope dV kV doc pm an cdv ct).code = .ref c' := e
  show (PySem.W.fnOf x qual params body scope dV kV doc pm an cdv ct).code = .ref (He.codeOf K p)
  rw [He.codeOf_eq lk e2]
  exact e2
theorem HOBody.up {P : Program} {w : World} {K : PySem.W.Frag} {mg : Str → Option Value} {base : Heap} {tabs : List (Addr × Str)} {k j : Nat} {gA : Addr} {fd : FuncData} {qg : Str} {sg : Scope} {Ng : List Str} {bg : List Stmt} {a : Str} {i : Nat} {mb : Fn → SM}
    (h : HOBody P w K mg base tabs k gA fd qg sg Ng bg a i mb) (hk : k ≤ j) : HOBody P w K mg base tabs j gA fd qg sg Ng bg a i mb := fun A outer s H E T' g hr => h A outer s H E T' g (hr.mono hk)
theorem lam_takes {X : Cx} {ps : List Str} {A : Around} {outer : List PySem.Env} {s : Shared} {H : Hp} {E : XK} {scope : Scope} {f c' : Addr} : Takes (lamCP X ps A outer s H E scope f c') (fun c d _ H => E c d H) := takes_of rfl rfl rfl rfl
/-! ### tuple(range(n)) -/
def rgD (a b : Int) : List D := (List.range (b - a).toNat).map fun i => D.int (a + (i : Nat))
theorem rv_rg {K : PySem.W.Frag} {W : Wd} (a b : Int) : RVs K W (rgD a b) (rgV a b) := by
  unfold rgD rgV
  generalize List.range (b - a).toNat = l
  induction l with
  | nil => exact .nil
  | cons i l ih => exact .cons (.int _) ih
def tupRg1D : D → M D
  | .int n => gd (decide (0 ≤ n) && decide (n ≤ 16777216)) (ret (.tup (rgD 0 n)))
  | _ => bad
section
variable {X : Cx} {T : Tb} {Wx : WX} {a : Expr} {fa : Env → M D} {p p2 pos pos2 : Pos}
theorem se_tupRg1 (hc : X.calm = true) (hg : Gl X "tuple") (hm : X.mg "tuple" = none) (hg2 : Gl X "range") (hm2 : X.mg "range" = none) (ha : SE X T Wx a fa)
    (na : starEach [.Call (.Name "range" p2) [a] [] pos2] X.env = (false, eval (.Call (.Name "range" p2) [a] [] pos2) X.env) :: starEach [] X.env := by rfl) (na2 : starEach [a] X.env = (false, eval a X.env) :: starEach [] X.env := by rfl) :
    SE X T Wx (.Call (.Name "tuple" p) [.Call (.Name "range" p2) [a] [] pos2] [] pos) (s1 tupRg1D fa) := by
  refine ⟨(pe_tupRg hc hg hm (prg_1 hg2 hm2 ha.pe na2) na).imp fun σ H Q => ?_⟩
  rintro ⟨W, env, st, rl, h⟩
  refine tE_bind (k := fun _ => tupRg1D) rl h fun W1 y st1 H1 v e1 r1 rv q => ?_
  cases rv with
  | int n =>
    obtain ⟨c, q2⟩ := Post.gd q
    rw [Bool.and_eq_true] at c
    have h1 := of_decide_eq_true c.1
    have h2 := of_decide_eq_true c.2
    refine ⟨n, rfl, RgOk.of_le (by omega) h2 (by omega) h1, fun l hl => ?_⟩
    obtain ⟨W', x, ok', rv⟩ := r1.hp.newTup hl (rv_rg (K := X.K) (W := W1) 0 n)
    exact q2 W' _ x ok' _ rv
  | _ => exact q.elim
end
end Sv
/-! Sv21: the meanings alone: what an outcome has (Ev0, Es0), rule by rule. -/
namespace Sv
open PySem PyProof.Rows

def Ev0 {α : Type} (o : Out α) (P : α → Store → Prop) (X : Ex → Store → Prop) : Prop := match o with
  | .ok a st => P a st
  | .ex e st => X e st
  | .bad => False
def Es0 (o : SOut) (N : Env → Store → Prop) (R : D → Store → Prop) (X : Ex → Env → Store → Prop) (B C : Env → Store → Prop) : Prop := match o with
  | .nx env st => N env st
  | .rt d st => R d st
  | .ex e env st => X e env st
  | .bk env st => B env st
  | .ct env st => C env st
  | .bad => False
def onB (d : D) (f : Bool → Prop) : Prop := match d with
  | .bl b => f b
  | _ => False
section
variable {α β : Type} {P : α → Store → Prop} {P' : β → Store → Prop} {Q : D → Store → Prop} {Ql : List D → Store → Prop} {X : Ex → Store → Prop} {st : Store} {env : Env}
theorem Ev0.imp {o : Out α} {P P2 : α → Store → Prop} {X X2 : Ex → Store → Prop} (h : Ev0 o P X) (hp : ∀ a st, P a st → P2 a st) (hx : ∀ e st, X e st → X2 e st) : Ev0 o P2 X2 := by
  cases o with
  | ok a st => exact hp _ _ h
  | ex e st => exact hx _ _ h
  | bad => exact h
theorem Ev0.get {o : Out α} (h : Ev0 o P fun _ _ => False) : ∃ a st, o = .ok a st ∧ P a st := by
  cases o with
  | ok a st => exact ⟨a, st, rfl, h⟩
  | ex e st => exact h.elim
  | bad => exact h.elim
theorem r_ev_ok {a : α} : Ev0 (.ok a st) P X ↔ P a st := Iff.rfl
theorem r_ev_ret {a : α} : Ev0 (Sv.ret a st) P X ↔ P a st := Iff.rfl
theorem r_ev_bnd {x : M α} {k : α → M β} : Ev0 (bnd x k st) P' X ↔ Ev0 (x st) (fun a st' => Ev0 (k a st') P' X) X := by
  unfold bnd
  cases x st <;> exact Iff.rfl
theorem r_ev_gd {c : Bool} {x : M α} : Ev0 (Sv.gd c x st) P X ↔ c = true ∧ Ev0 (x st) P X := by
  unfold Sv.gd
  cases c <;> simp [Ev0]
theorem r_ev_con {d : D} : Ev0 (sCon d env st) Q X ↔ Q d st := Iff.rfl
def lookE (env : Env) (i : Nat) (f : D → Prop) : Prop := match env[i]? with
  | some (some d) => d ≠ .fnv ∧ f d
  | _ => False
theorem r_ev_var {i : Nat} : Ev0 (sVar i env st) Q X ↔ lookE env i fun d => Q d st := by
  unfold sVar lookE
  cases env[i]? with
  | none => exact Iff.rfl
  | some o =>
    cases o with
    | none => exact Iff.rfl
    | some d => cases d <;> simp [Ev0]
theorem look0 {d : D} {r : Env} {f : D → Prop} : lookE (some d :: r) 0 f ↔ d ≠ .fnv ∧ f d := Iff.rfl
theorem lookS {o : Option D} {r : Env} {i : Nat} {f : D → Prop} : lookE (o :: r) (i + 1) f ↔ lookE r i f := Iff.rfl
theorem r_ev_s1 {g : D → M D} {fa : Env → M D} : Ev0 (s1 g fa env st) Q X ↔ Ev0 (fa env st) (fun a st' => Ev0 (g a st') Q X) X := r_ev_bnd
theorem r_ev_s2 {g : D → D → M D} {fa fb : Env → M D} : Ev0 (s2 g fa fb env st) Q X ↔ Ev0 (fa env st) (fun a st1 => Ev0 (fb env st1) (fun b st2 => Ev0 (g a b st2) Q X) X) X := by
  unfold s2
  rw [r_ev_bnd]
  simp only [r_ev_bnd]
theorem r_ev_nil : Ev0 (aNil env st) Ql X ↔ Ql [] st := Iff.rfl
theorem r_ev_cons {f : Env → M D} {g : Env → M (List D)} : Ev0 (aCons f g env st) Ql X ↔ Ev0 (f env st) (fun d st1 => Ev0 (g env st1) (fun ds st2 => Ql (d :: ds) st2) X) X := by
  unfold aCons
  rw [r_ev_bnd]
  simp only [r_ev_bnd, r_ev_ret]
theorem r_ev_app {k : List D → M D} {g : Env → M (List D)} : Ev0 (sApp k g env st) Q X ↔ Ev0 (g env st) (fun ds st1 => Ev0 (k ds st1) Q X) X := r_ev_bnd
theorem r_ev_call {m : Fn} {dd : List D} {g : Env → M (List D)} : Ev0 (sCl m dd g env st) Q X ↔ Ev0 (g env st) (fun ds st1 => Ev0 (m (ds ++ dd) st1) Q X) X := r_ev_bnd
theorem lim_ok {n : Nat} : lim n = true ↔ n ≤ 16777216 := by
  unfold lim
  rw [decide_eq_true_iff, sizeLine_eq]
theorem r_ev_tup {g : Env → M (List D)} : Ev0 (sTup g env st) Q X ↔ Ev0 (g env st) (fun ds st1 => ds.length ≤ 16777216 ∧ Q (.tup ds) st1) X := by
  unfold sTup
  rw [r_ev_bnd]
  simp only [r_ev_gd, r_ev_ret, lim_ok]
theorem r_ev_lst {g : Env → M (List D)} : Ev0 (sLst g env st) Q X ↔ Ev0 (g env st) (fun ds st1 => ds.length ≤ 16777216 ∧ Q (.lst ds) st1) X := by
  unfold sLst
  rw [r_ev_bnd]
  simp only [r_ev_gd, r_ev_ret, lim_ok]
theorem r_ev_new {o : Ob} : Ev0 (new o st) Q X ↔ Q (.ref st.length) (st ++ [o]) := Iff.rfl
theorem r_ev_lstM {g : Env → M (List D)} : Ev0 (sLstM g env st) Q X ↔ Ev0 (g env st) (fun ds st1 => ds.length ≤ 16777216 ∧ Q (.ref st1.length) (st1 ++ [.lst ds])) X := by
  unfold sLstM
  rw [r_ev_bnd]
  simp only [r_ev_gd, r_ev_new, lim_ok]
theorem onB_bl {b : Bool} {f : Bool → Prop} : onB (.bl b) f ↔ f b := Iff.rfl
theorem r_ev_and {fa fb : Env → M D} : Ev0 (sAnd fa fb env st) Q X ↔ Ev0 (fa env st) (fun a st1 => onB a fun b => if b = true then Ev0 (fb env st1) Q X else Q (.bl false) st1) X := by
  unfold sAnd
  rw [r_ev_bnd]
  refine iff_of_eq (congrArg (fun z => Ev0 (fa env st) z X) (funext fun a => funext fun st1 => ?_))
  cases a with
  | bl b => cases b <;> simp [onB, Ev0, Sv.ret]
  | _ => rfl
theorem r_ev_or {fa fb : Env → M D} : Ev0 (sOr fa fb env st) Q X ↔ Ev0 (fa env st) (fun a st1 => onB a fun b => if b = true then Q (.bl true) st1 else Ev0 (fb env st1) Q X) X := by
  unfold sOr
  rw [r_ev_bnd]
  refine iff_of_eq (congrArg (fun z => Ev0 (fa env st) z X) (funext fun a => funext fun st1 => ?_))
  cases a with
  | bl b => cases b <;> simp [onB, Ev0, Sv.ret]
  | _ => rfl
theorem r_ev_not {fa : Env → M D} : Ev0 (sNot fa env st) Q X ↔ Ev0 (fa env st) (fun a st1 => onB a fun b => Q (.bl !b) st1) X := by
  unfold sNot
  rw [r_ev_bnd]
  refine iff_of_eq (congrArg (fun z => Ev0 (fa env st) z X) (funext fun a => funext fun st1 => ?_))
  cases a <;> rfl
theorem r_ev_ite {fc fa fb : Env → M D} : Ev0 (sIte fc fa fb env st) Q X ↔ Ev0 (fc env st) (fun a st1 => onB a fun b => if b = true then Ev0 (fa env st1) Q X else Ev0 (fb env st1) Q X) X := by
  unfold sIte
  rw [r_ev_bnd]
  refine iff_of_eq (congrArg (fun z => Ev0 (fc env st) z X) (funext fun a => funext fun st1 => ?_))
  cases a with
  | bl b => cases b <;> simp [onB]
  | _ => rfl
theorem r_ev_chain {g g' : D → D → M D} {fa fb fc : Env → M D} : Ev0 (sChain g g' fa fb fc env st) Q X ↔ Ev0 (fa env st) (fun a st1 => Ev0 (fb env st1) (fun b st2 => Ev0 (g a b st2) (fun t st3 => onB t fun t => if t = true then Ev0 (fc env st3) (fun c st4 => Ev0 (g' b c st4) Q X) X else Q (.bl false) st3) X) X) X := by
  unfold sChain
  simp only [r_ev_bnd]
  refine iff_of_eq (congrArg (fun z => Ev0 (fa env st) z X) (funext fun a => funext fun st1 => congrArg (fun z => Ev0 (fb env st1) z X) (funext fun b => funext fun st2 => congrArg (fun z => Ev0 (g a b st2) z X) (funext fun t => funext fun st3 => ?_))))
  cases t with
  | bl b =>
    cases b with
    | true =>
      show Ev0 (bnd (fc env) (fun c => g' _ c) st3) Q X = _
      rw [r_ev_bnd]
      simp [onB]
    | false => simp [onB, Ev0, Sv.ret]
  | _ => rfl
end
/-! ### statements -/
section
variable {env : Env} {st : Store} {N B C : Env → Store → Prop} {R : D → Store → Prop} {X : Ex → Env → Store → Prop}
theorem r_es_ret {f : Env → M D} : Es0 (bRet f env st) N R X B C ↔ Ev0 (f env st) R fun e st => X e env st := by
  unfold bRet sOut
  cases f env st <;> exact Iff.rfl
theorem r_es_expr {f : Env → M D} : Es0 (bExpr f env st) N R X B C ↔ Ev0 (f env st) (fun _ st => N env st) fun e st => X e env st := by
  unfold bExpr sOut
  cases f env st <;> exact Iff.rfl
theorem r_es_set {i : Nat} {f : Env → M D} : Es0 (bSet i f env st) N R X B C ↔ Ev0 (f env st) (fun d st => N (env.set i (some d)) st) fun e st => X e env st := by
  unfold bSet sOut
  cases f env st <;> exact Iff.rfl
theorem r_es_nil : Es0 (bNil env st) N R X B C ↔ N env st := Iff.rfl
theorem r_es_cons {a b : SM} : Es0 (bCons a b env st) N R X B C ↔ Es0 (a env st) (fun env st => Es0 (b env st) N R X B C) R X B C := by
  unfold bCons
  cases a env st <;> exact Iff.rfl
theorem r_es_if {c : Env → M D} {a b : SM} : Es0 (bIf c a b env st) N R X B C ↔ Ev0 (c env st) (fun t st => onB t fun t => if t = true then Es0 (a env st) N R X B C else Es0 (b env st) N R X B C) fun e st => X e env st := by
  unfold bIf sOut bnd
  cases c env st with
  | ok t st1 =>
    cases t with
    | bl t => cases t <;> simp [asBool, Sv.ret, Ev0, onB]
    | _ => exact Iff.rfl
  | ex e st1 => exact Iff.rfl
  | bad => exact Iff.rfl
theorem r_es_raise {c fl : Str} {f : Env → M D} : Es0 (bRaise c fl f env st) N R X B C ↔ Ev0 (f env st) (fun d st => X ⟨c, some (fl, d)⟩ env st) fun e st => X e env st := by
  unfold bRaise sOut
  cases f env st <;> exact Iff.rfl
theorem Es0.imp {o : SOut} {N2 B2 C2 : Env → Store → Prop} {R2 : D → Store → Prop} {X2 : Ex → Env → Store → Prop} (h : Es0 o N R X B C) (hn : ∀ e s, N e s → N2 e s) (hr : ∀ d s, R d s → R2 d s) (hx : ∀ x e s, X x e s → X2 x e s) (hb : ∀ e s, B e s → B2 e s) (hc : ∀ e s, C e s → C2 e s) : Es0 o N2 R2 X2 B2 C2 := by
  cases o with
  | nx e s => exact hn _ _ h
  | rt d s => exact hr _ _ h
  | ex x e s => exact hx _ _ _ h
  | bk e s => exact hb _ _ h
  | ct e s => exact hc _ _ h
  | bad => exact h
/-- a def -/
theorem r_ev_fn {p n : Nat} {b : SM} {ds : List D} {Q : D → Store → Prop} {Y : Ex → Store → Prop} (h : ds.length = p) : Ev0 (fnM p n b ds st) Q Y ↔ Es0 (b (ds.map some ++ List.replicate (n - ds.length) none) st) (fun _ st => Q .non st) Q (fun e _ st => Y e st) (fun _ _ => False) (fun _ _ => False) := by
  unfold fnM
  rw [beq_iff_eq.mpr h]
  dsimp only
  unfold outF
  cases b (ds.map some ++ List.replicate (n - ds.length) none) st <;> exact Iff.rfl
/-- a loop by an invariant over what is done -/
theorem r_es_for {f : Env → M (List D)} {b : TgM} {body : SM} {ds : List D} {st1 : Store} (hf : f env st = .ok ds st1) (I : List D → Env → Store → Prop) (h0 : I [] env st1)
    (step : ∀ done d rest env st, ds = done ++ d :: rest → I done env st → ∃ env1 st1, b d env st = some (env1, st1) ∧ Es0 (body env1 st1) (I (done ++ [d])) R X N (I (done ++ [d]))) (fin : ∀ env st, I ds env st → N env st) : Es0 (bFor f b body env st) N R X B C := by
  have go : ∀ (rest done : List D) (env : Env) (st : Store), ds = done ++ rest → I done env st → Es0 (forL b body rest env st) N R X B C := by
    intro rest
    induction rest with
    | nil =>
      intro done env st e h
      rw [List.append_nil] at e
      subst e
      exact fin env st h
    | cons d rest ih =>
      intro done env st e h
      obtain ⟨env1, st1, e1, h1⟩ := step done d rest env st e h
      unfold forL
      rw [e1]
      dsimp only
      have e' : ds = (done ++ [d]) ++ rest := by rw [e]; simp
      cases q : body env1 st1 with
      | nx env2 st2 =>
        rw [q] at h1
        exact ih _ _ _ e' h1
      | ct env2 st2 =>
        rw [q] at h1
        exact ih _ _ _ e' h1
      | bk env2 st2 =>
        rw [q] at h1
        exact h1
      | rt d2 st2 =>
        rw [q] at h1
        exact h1
      | ex x env2 st2 =>
        rw [q] at h1
        exact h1
      | bad =>
        rw [q] at h1
        exact h1
  unfold bFor
  rw [hf]
  exact go ds [] env st1 rfl h0
end
end Sv
/-! Sv22: targets, operators, built-ins: what they have. -/
namespace Sv
open PySem PyProof.Rows
open L2 (atI ixN)

def Eg (o : Option (Env × Store)) (N : Env → Store → Prop) : Prop := match o with
  | some (e, s) => N e s
  | none => False
def Ep (o : Option Store) (N : Store → Prop) : Prop := match o with
  | some s => N s
  | none => False
section
variable {env : Env} {st : Store} {N B C : Env → Store → Prop} {R : D → Store → Prop} {X : Ex → Env → Store → Prop}
theorem r_es_asg {f : Env → M D} {b : TgM} : Es0 (bAsg f b env st) N R X B C ↔ Ev0 (f env st) (fun d st' => Eg (b d env st') N) fun e st => X e env st := by
  unfold bAsg sOut
  cases f env st with
  | ok d s1 =>
    show Es0 (match b d env s1 with | some (env1, st1) => SOut.nx env1 st1 | none => SOut.bad) N R X B C ↔ Eg (b d env s1) N
    cases b d env s1 with
    | none => exact Iff.rfl
    | some p => exact Iff.rfl
  | ex e s1 => exact Iff.rfl
  | bad => exact Iff.rfl
theorem eg_nm {i : Nat} {d : D} : Eg (gNm i d env st) N ↔ N (env.set i (some d)) st := Iff.rfl
theorem eg_tp {n : Nat} {b : TgsM} {ds : List D} : Eg (gTp n b (.tup ds) env st) N ↔ ds.length = n ∧ Eg (b ds env st) N := by
  unfold gTp
  cases e : ds.length == n with
  | true => simp [beq_iff_eq.mp e, e]
  | false =>
    have : ds.length ≠ n := by simpa using e
    simp [e, this, Eg]
theorem eg_gcons {b : TgM} {c : TgsM} {d : D} {r : List D} : Eg (gsCons b c (d :: r) env st) N ↔ Eg (b d env st) fun e s => Eg (c r e s) N := by
  unfold gsCons
  dsimp only
  cases b d env st with
  | none => exact Iff.rfl
  | some p => exact Iff.rfl
theorem eg_gnil : Eg (gsNil [] env st) N ↔ N env st := Iff.rfl
theorem r_eg_sb {fo fi : Env → M D} {d : D} : Eg (gSb fo fi d env st) N ↔ Ev0 (fo env st) (fun o s1 => Ev0 (fi env s1) (fun i s2 => Ep (putAt o i d s2) fun s3 => N env s3) fun _ _ => False) fun _ _ => False := by
  unfold gSb
  cases fo env st with
  | ok o s1 =>
    dsimp only [Ev0]
    cases fi env s1 with
    | ok i s2 =>
      dsimp only [Ev0]
      cases putAt o i d s2 <;> exact Iff.rfl
    | ex e s2 => exact Iff.rfl
    | bad => exact Iff.rfl
  | ex e s1 => exact Iff.rfl
  | bad => exact Iff.rfl
theorem r_es_par {is : List Nat} {g : Env → M (List D)} : Es0 (bPar is g env st) N R X B C ↔ Ev0 (g env st) (fun ds st' => ds.length = is.length ∧ N ((is.zip ds).foldl (fun e p => e.set p.1 (some p.2)) env) st') fun e st => X e env st := by
  unfold bPar sOut
  cases g env st with
  | ok ds s1 =>
    show Es0 (match ds.length == is.length with | true => SOut.nx _ s1 | false => SOut.bad) N R X B C ↔ ds.length = is.length ∧ _
    cases e : ds.length == is.length with
    | true => simp [beq_iff_eq.mp e, Es0]
    | false =>
      have : ds.length ≠ is.length := by simpa using e
      simp [this, Es0]
  | ex e s1 => exact Iff.rfl
  | bad => exact Iff.rfl
end
section
variable {P : D → Store → Prop} {X : Ex → Store → Prop} {st : Store} {i j : Int} {as bs : List D} {a b : D}
theorem r_ev_addI : Ev0 (opAdd (.int i) (.int j) st) P X ↔ P (.int (i + j)) st := Iff.rfl
theorem r_ev_subI : Ev0 (opSub (.int i) (.int j) st) P X ↔ P (.int (i - j)) st := Iff.rfl
theorem r_ev_addT : Ev0 (opAdd (.tup as) (.tup bs) st) P X ↔ as.length + bs.length ≤ 16777216 ∧ P (.tup (as ++ bs)) st := by
  show Ev0 (gd (lim (as.length + bs.length)) _ st) P X ↔ _
  rw [r_ev_gd, lim_ok]
  exact Iff.rfl
theorem r_ev_mulI : Ev0 (opMul (.int i) (.int j) st) P X ↔ (small64 i || small64 j) = true ∧ P (.int (i * j)) st := r_ev_gd
theorem r_ev_mulT {k : Int} : Ev0 (opMul (.tup as) (.int k) st) P X ↔ (!as.isEmpty && decide (2 ≤ k) && decide (k ≤ 1000) && decide (as.length ≤ 1000)) = true ∧ P (.tup (List.replicate k.toNat as).flatten) st := r_ev_gd
theorem r_ev_divI : Ev0 (opDiv (.int i) (.int j) st) P X ↔ (0 < j ∧ j < 1073741824) ∧ P (.int (i / j)) st := by
  show Ev0 (gd _ _ st) P X ↔ _
  rw [r_ev_gd, Bool.and_eq_true, decide_eq_true_iff, decide_eq_true_iff]
  exact Iff.rfl
theorem r_ev_modI : Ev0 (opMod (.int i) (.int j) st) P X ↔ 0 < j ∧ P (.int (i % j)) st := by
  show Ev0 (gd _ _ st) P X ↔ _
  rw [r_ev_gd, decide_eq_true_iff]
  exact Iff.rfl
theorem r_ev_ltI : Ev0 (opLt (.int i) (.int j) st) P X ↔ P (.bl (decide (i < j))) st := Iff.rfl
theorem r_ev_leI : Ev0 (opLe (.int i) (.int j) st) P X ↔ P (.bl (decide (i ≤ j))) st := Iff.rfl
theorem r_ev_gtI : Ev0 (opGt (.int i) (.int j) st) P X ↔ P (.bl (decide (j < i))) st := Iff.rfl
theorem r_ev_geI : Ev0 (opGe (.int i) (.int j) st) P X ↔ P (.bl (decide (j ≤ i))) st := Iff.rfl
theorem r_ev_eq : Ev0 (opEq a b st) P X ↔ (flat deepest a = true ∧ flat deepest b = true) ∧ P (.bl (eqD a b)) st := by
  show Ev0 (gd _ _ st) P X ↔ _
  rw [r_ev_gd, Bool.and_eq_true]
  exact Iff.rfl
theorem r_ev_ne : Ev0 (opNe a b st) P X ↔ (flat deepest a = true ∧ flat deepest b = true) ∧ P (.bl (!eqD a b)) st := by
  show Ev0 (gd _ _ st) P X ↔ _
  rw [r_ev_gd, Bool.and_eq_true]
  exact Iff.rfl
theorem r_ev_isN : Ev0 (opIsN a .non st) P X ↔ P (.bl (isNon a)) st := by
  show Ev0 (gd _ _ st) P X ↔ _
  rw [r_ev_gd]
  simp [isNon, Ev0, Sv.ret]
theorem r_ev_notN : Ev0 (opNotN a .non st) P X ↔ P (.bl (!isNon a)) st := by
  show Ev0 (gd _ _ st) P X ↔ _
  rw [r_ev_gd]
  simp [isNon, Ev0, Sv.ret]
theorem r_ev_getO {o : Option D} : Ev0 (getO o st) P X ↔ ∃ d, o = some d ∧ P d st := by
  cases o <;> simp [getO, Ev0, bad, Sv.ret]
theorem r_ev_ixT : Ev0 (ixD (.tup as) (.int i) st) P X ↔ ∃ d, atI as i = some d ∧ P d st := r_ev_getO
theorem r_ev_ixL : Ev0 (ixD (.lst as) (.int i) st) P X ↔ ∃ d, atI as i = some d ∧ P d st := r_ev_getO
theorem r_ev_ixF : Ev0 (ixD (.frl as) (.int i) st) P X ↔ ∃ d, atI as i = some d ∧ P d st := r_ev_getO
theorem r_ev_ixR {n : Nat} (h : st[n]? = some (.lst as)) : Ev0 (ixD (.ref n) (.int i) st) P X ↔ ∃ d, atI as i = some d ∧ P d st := by
  have e : ixD (.ref n) (.int i) st = getO (atI as i) st := by
    show (match st[n]? with | some (.lst ds) => getO (atI ds i) st | some (.dct ks vs) => getO (dGet (.inl i) ks vs) st | _ => Out.bad) = _
    rw [h]
  rw [e]
  exact r_ev_getO
theorem ep_putL {n : Nat} {d : D} {N : Store → Prop} {j : Nat} (h : st[n]? = some (.lst as)) (hj : ixN as.length i = some j) : Ep (putAt (.ref n) (.int i) d st) N ↔ N (st.set n (.lst (as.set j d))) := by
  have e : putAt (.ref n) (.int i) d st = some (st.set n (.lst (as.set j d))) := by
    unfold putAt
    dsimp only
    rw [h]
    dsimp only
    rw [hj]
  rw [e]
  exact Iff.rfl
theorem r_ev_len_t : Ev0 (kLen [.tup as] st) P X ↔ P (.int as.length) st := Iff.rfl
theorem r_ev_len_l : Ev0 (kLen [.lst as] st) P X ↔ P (.int as.length) st := Iff.rfl
theorem r_ev_len_f : Ev0 (kLen [.frl as] st) P X ↔ P (.int as.length) st := Iff.rfl
theorem r_ev_int : Ev0 (kInt [.int i] st) P X ↔ P (.int i) st := Iff.rfl
theorem r_ev_abs : Ev0 (kAbs [.int i] st) P X ↔ P (.int (if i < 0 then -i else i)) st := Iff.rfl
theorem r_ev_max : Ev0 (kMax2 [.int i, .int j] st) P X ↔ P (.int (if j > i then j else i)) st := Iff.rfl
theorem r_ev_min : Ev0 (kMin2 [.int i, .int j] st) P X ↔ P (.int (if j < i then j else i)) st := Iff.rfl
theorem r_ev_divmod : Ev0 (kDivmod [.int i, .int j] st) P X ↔ (0 < j ∧ j < 1073741824) ∧ P (.tup [.int (i / j), .int (i % j)]) st := by
  show Ev0 (gd _ _ st) P X ↔ _
  rw [r_ev_gd, Bool.and_eq_true, decide_eq_true_iff, decide_eq_true_iff]
  exact Iff.rfl
theorem r_ev_tuple_t : Ev0 (kTuple [.tup as] st) P X ↔ P (.tup as) st := Iff.rfl
theorem r_ev_tuple_l : Ev0 (kTuple [.lst as] st) P X ↔ P (.tup as) st := Iff.rfl
end
end Sv
/-! Sv23: equality of data; lists of ints. -/
namespace Sv
open PySem PyProof.Rows
open L2 (atI ixN)
theorem eqD_int {i j : Int} : eqD (.int i) (.int j) = decide (i = j) := by
  simp [eqD, toP, PyData.eqv, Bool.beq_eq_decide_eq]
theorem eqD_str {i j : Str} : eqD (.str i) (.str j) = decide (i = j) := by
  simp [eqD, toP, PyData.eqv, Bool.beq_eq_decide_eq]
theorem eqD_refl {d : D} (h : flat deepest d = true) : eqD d d = true := SeqAt.eqv_refl _ (flat_lay _ _ h)
theorem eqD_tnil {ds : List D} : eqD (.tup ds) (.tup []) = ds.isEmpty := by
  cases ds <;> simp [eqD, toP, toPs, PyData.eqv, PyData.eqvAll]
theorem eqD_snon {i : Str} : eqD (.str i) .non = false := by simp [eqD, toP, PyData.eqv]
theorem flat_int {n : Nat} {i : Int} : flat n (.int i) = true := by cases n <;> rfl
theorem flat_bl {n : Nat} {i : Bool} : flat n (.bl i) = true := by cases n <;> rfl
theorem flat_non {n : Nat} : flat n .non = true := by cases n <;> rfl
theorem flat_str {n : Nat} {x : Str} : flat n (.str x) = PyData.strOk x := by cases n <;> rfl
theorem flat_tup {n : Nat} {ds : List D} : flat (n + 1) (.tup ds) = flats n ds := rfl
theorem flats_all {n : Nat} {ds : List D} : flats n ds = true ↔ ∀ d ∈ ds, flat n d = true := by
  induction ds with
  | nil => simp [flats]
  | cons d ds ih =>
    show (flat n d && flats n ds) = true ↔ _
    rw [Bool.and_eq_true, ih]
    simp
theorem flats_ints {n : Nat} (l : List Int) : flats n (l.map D.int) = true := flats_all.mpr fun d hd => by
  obtain ⟨i, _, rfl⟩ := List.mem_map.mp hd
  exact flat_int
/-! ### loops -/
section
variable {env : Env} {st : Store} {N B C : Env → Store → Prop} {R : D → Store → Prop} {X : Ex → Env → Store → Prop}
theorem r_es_forE {f : Env → M (List D)} {b : TgM} {body : SM} : Es0 (bFor f b body env st) N R X B C ↔ Ev0 (f env st) (fun ds st1 => Es0 (forL b body ds env st1) N R X B C) fun e st => X e env st := by
  unfold bFor sOut
  cases f env st <;> exact Iff.rfl
theorem r_es_loop {b : TgM} {body : SM} {ds : List D} (I : List D → Env → Store → Prop) (h0 : I [] env st)
    (step : ∀ done d rest env st, ds = done ++ d :: rest → I done env st → Eg (b d env st) fun env1 st1 => Es0 (body env1 st1) (I (done ++ [d])) R X N (I (done ++ [d]))) (fin : ∀ env st, I ds env st → N env st) : Es0 (forL b body ds env st) N R X B C := by
  have h := r_es_for (f := fun _ st => .ok ds st) (b := b) (body := body) (env := env) (st := st) (N := N) (R := R) (X := X) (B := B) (C := C) rfl I h0 (fun done d rest env st e h => by
    have z := step done d rest env st e h
    cases q : b d env st with
    | none => rw [q] at z; exact z.elim
    | some p => rw [q] at z; exact ⟨p.1, p.2, rfl, z⟩) fin
  exact h
theorem r62_of {i : Int} (h1 : -(2 ^ 62) ≤ i) (h2 : i < 2 ^ 62) : r62 i = true := by
  unfold r62
  rw [decide_eq_true h1, decide_eq_true h2]
  rfl
theorem r_ev_r1 {g : Env → M (List D)} {P : List D → Store → Prop} {Y : Ex → Store → Prop} : Ev0 (iR1 g env st) P Y ↔ Ev0 (g env st) (fun ds st1 => ∃ j, ds = [.int j] ∧ r62 j = true ∧ P (rangeD 0 j.toNat) st1) Y := by
  unfold iR1
  rw [r_ev_bnd]
  refine iff_of_eq (congrArg (fun z => Ev0 (g env st) z Y) (funext fun ds => funext fun st1 => propext ?_))
  split
  · rename_i j
    rw [r_ev_gd, r_ev_ret]
    simp
  · rename_i h
    exact ⟨fun z => z.elim, fun ⟨j, e, _⟩ => (h j e).elim⟩
theorem r_ev_r2 {g : Env → M (List D)} {P : List D → Store → Prop} {Y : Ex → Store → Prop} : Ev0 (iR2 g env st) P Y ↔ Ev0 (g env st) (fun ds st1 => ∃ i j, ds = [.int i, .int j] ∧ (r62 i = true ∧ r62 j = true) ∧ P (rangeD i (j - i).toNat) st1) Y := by
  unfold iR2
  rw [r_ev_bnd]
  refine iff_of_eq (congrArg (fun z => Ev0 (g env st) z Y) (funext fun ds => funext fun st1 => propext ?_))
  split
  · rename_i i j
    rw [r_ev_gd, r_ev_ret, Bool.and_eq_true]
    exact ⟨fun z => ⟨i, j, rfl, z⟩, fun ⟨i', j', e, z⟩ => by cases e; exact z⟩
  · rename_i h
    exact ⟨fun z => z.elim, fun ⟨i, j, e, _⟩ => (h i j e).elim⟩
theorem r_ev_it {f : Env → M D} {P : List D → Store → Prop} {Y : Ex → Store → Prop} : Ev0 (iT f env st) P Y ↔ Ev0 (f env st) (fun d st1 => ∃ ds, d = .tup ds ∧ P ds st1) Y := by
  unfold iT
  rw [r_ev_bnd]
  refine iff_of_eq (congrArg (fun z => Ev0 (f env st) z Y) (funext fun d => funext fun st1 => propext ?_))
  cases d <;> simp [Ev0, Sv.ret, bad]
/-- a comprehension whose tests and elements change nothing -/
theorem compL_pure {b : TgM} {c : Env → M Bool} {e : Env → M D} {env : Env} {st : Store} (g : D → Env) (p : D → Bool) (v : D → D) : ∀ (ds : List D), (∀ d ∈ ds, b d env st = some (g d, st) ∧ c (g d) st = .ok (p d) st ∧ (p d = true → e (g d) st = .ok (v d) st)) → compL b c e ds env st = .ok ((ds.filter p).map v) st
  | [], _ => rfl
  | d :: ds, h => by
    obtain ⟨h1, h2, h3⟩ := h d List.mem_cons_self
    have ih := compL_pure g p v ds fun d hd => h d (List.mem_cons_of_mem _ hd)
    unfold compL
    rw [h1]
    dsimp only
    have hc : calmly (c (g d)) st = .ok (p d) st := by unfold calmly; rw [h2]
    rw [bnd_ok hc]
    cases q : p d with
    | false =>
      dsimp only
      rw [ih, List.filter_cons, q]
      rfl
    | true =>
      dsimp only
      have he : calmly (e (g d)) st = .ok (v d) st := by unfold calmly; rw [h3 q]
      rw [bnd_ok he, bnd_ok ih, List.filter_cons, q]
      rfl
end
section
variable {P : D → Store → Prop} {X : Ex → Store → Prop} {st : Store}
theorem r_ev_sl {f : Sv.Env → M D} {lo hi : Sv.Env → M (Option Int)} {env : Sv.Env} : Ev0 (sSl f lo hi env st) P X ↔ Ev0 (f env st) (fun d s1 => Ev0 (lo env s1) (fun l s2 => Ev0 (hi env s2) (fun h s3 => Ev0 (slD d l h s3) P X) X) X) X := by
  unfold sSl
  simp only [r_ev_bnd]
theorem r_ev_oNone {env : Sv.Env} {Q : Option Int → Store → Prop} : Ev0 (oNone env st) Q X ↔ Q none st := Iff.rfl
theorem r_ev_oSome {f : Sv.Env → M D} {env : Sv.Env} {Q : Option Int → Store → Prop} : Ev0 (oSome f env st) Q X ↔ Ev0 (f env st) (fun d s1 => ∃ i, d = .int i ∧ Q (some i) s1) X := by
  unfold oSome
  rw [r_ev_bnd]
  refine iff_of_eq (congrArg (fun z => Ev0 (f env st) z X) (funext fun d => funext fun st1 => propext ?_))
  cases d <;> simp [Ev0, Sv.ret, bad]
theorem r_ev_il {f : Sv.Env → M D} {env : Sv.Env} {Q : List D → Store → Prop} : Ev0 (iL f env st) Q X ↔ Ev0 (f env st) (fun d st1 => (∃ ds, d = .lst ds ∧ Q ds st1) ∨ ∃ ds, d = .frl ds ∧ Q ds st1) X := by
  unfold iL
  rw [r_ev_bnd]
  refine iff_of_eq (congrArg (fun z => Ev0 (f env st) z X) (funext fun d => funext fun st1 => propext ?_))
  cases d <;> simp [Ev0, Sv.ret, bad]
theorem r_ev_slF {ds : List D} {lo hi : Option Int} : Ev0 (slD (.frl ds) lo hi st) P X ↔ P (.lst (cutD ds lo hi)) st := Iff.rfl
theorem cut_ints {ns : List Int} {lo hi : Option Int} : ∀ d ∈ cutD (ns.map D.int) lo hi, ∃ i : Int, d = .int i := fun d hd => by
  unfold cutD at hd
  obtain ⟨i, _, rfl⟩ := List.mem_map.mp (List.mem_of_mem_drop (List.mem_of_mem_take hd))
  exact ⟨i, rfl⟩
theorem r_ev_powI {i j : Int} : Ev0 (opPow (.int i) (.int j) st) P X ↔ (decide (0 ≤ j) && decide (j ≤ 1000000) && decide (i.natAbs < 2 ^ 64)) = true ∧ P (.int (i ^ j.toNat)) st := r_ev_gd
end
section
variable {env : Sv.Env} {st : Store} {N B C : Sv.Env → Store → Prop} {R : D → Store → Prop} {X : Ex → Sv.Env → Store → Prop} {P : D → Store → Prop} {Y : Ex → Store → Prop}
/-- a field is put -/
def Fd (c fl : Str) (d o : D) (st : Store) (N : Store → Prop) : Prop := match o with
  | .ref n => (match st[n]? with
    | some (.ins c' fs) => (c' = c ∧ fs.length < 1000) ∧ N (st.set n (.ins c' (putD fl d fs)))
    | _ => False)
  | _ => False
theorem r_es_fd {c fl : Str} {fo fv : Sv.Env → M D} : Es0 (bFd c fl fo fv env st) N R X B C ↔ Ev0 (fv env st) (fun d s1 => Ev0 (fo env s1) (fun o s2 => Fd c fl d o s2 fun s3 => N env s3) fun e st => X e env st) fun e st => X e env st := by
  unfold bFd sOut
  cases h : fv env st with
  | ok d s1 =>
    rw [bnd_ok h]
    show _ ↔ Ev0 (fo env s1) _ _
    cases h2 : fo env s1 with
    | ok o s2 =>
      rw [bnd_ok h2]
      dsimp only [Ev0, Fd]
      cases o with
      | ref n =>
        dsimp only
        cases h3 : s2[n]? with
        | none => exact Iff.rfl
        | some ob =>
          cases ob with
          | ins c' fs =>
            dsimp only
            unfold gd
            by_cases e : c' = c ∧ fs.length < 1000
            · simp [e.1, e.2, Es0]
            · by_cases e1 : c' = c
              · have e2 : ¬ fs.length < 1000 := fun z => e ⟨e1, z⟩
                simp [e1, e2, Es0]
              · have e3 : (c' == c) = false := beq_false_of_ne e1
                simp [e1, e3, Es0]
          | _ => exact Iff.rfl
      | _ => exact Iff.rfl
    | ex e s2 => rw [show bnd (fo env) _ s1 = Out.ex e s2 from by unfold bnd; rw [h2]]; exact Iff.rfl
    | bad => rw [show bnd (fo env) _ s1 = Out.bad from by unfold bnd; rw [h2]]; exact Iff.rfl
  | ex e s1 => rw [show bnd (fv env) _ st = Out.ex e s1 from by unfold bnd; rw [h]]; exact Iff.rfl
  | bad => rw [show bnd (fv env) _ st = Out.bad from by unfold bnd; rw [h]]; exact Iff.rfl
theorem fd_at {c fl : Str} {d : D} {n : Nat} {fs : List (Str × D)} {M : Store → Prop} (h : st[n]? = some (.ins c fs)) (hl : fs.length < 1000) (k : M (st.set n (.ins c (putD fl d fs)))) : Fd c fl d (.ref n) st M := by
  unfold Fd
  dsimp only
  rw [h]
  exact ⟨⟨rfl, hl⟩, k⟩
theorem r_ev_fd {c f : Str} {fo : Sv.Env → M D} : Ev0 (sFd c f fo env st) P Y ↔ Ev0 (fo env st) (fun o s1 => ∃ n fs d, o = .ref n ∧ s1[n]? = some (.ins c fs) ∧ fs.lookup f = some d ∧ P d s1) Y := by
  unfold sFd
  rw [r_ev_bnd]
  refine iff_of_eq (congrArg (fun z => Ev0 (fo env st) z Y) (funext fun o => funext fun s1 => propext ?_))
  cases o with
  | ref n =>
    dsimp only
    cases h : s1[n]? with
    | none => exact ⟨fun z => z.elim, fun ⟨n', fs, d, e, e2, _⟩ => by cases e; rw [h] at e2; cases e2⟩
    | some ob =>
      cases ob with
      | ins c' fs =>
        dsimp only
        rw [r_ev_gd, r_ev_getO]
        constructor
        · rintro ⟨e, d, h1, h2⟩
          have e' := beq_iff_eq.mp e
          subst e'
          exact ⟨n, fs, d, rfl, h, h1, h2⟩
        · rintro ⟨n', fs', d, e, h1, h2, h3⟩
          cases e
          rw [h] at h1
          cases h1
          exact ⟨beq_self_eq_true _, d, h2, h3⟩
      | lst _ => exact ⟨fun z => z.elim, fun ⟨n', fs, d, e, e2, _⟩ => by cases e; rw [h] at e2; cases e2⟩
      | dct _ _ => exact ⟨fun z => z.elim, fun ⟨n', fs, d, e, e2, _⟩ => by cases e; rw [h] at e2; cases e2⟩
  | _ => exact ⟨fun z => z.elim, fun ⟨n', fs, d, e, _⟩ => by cases e⟩
end
end Sv
/-! Sv24: the plain layer: repr, try, dict comprehensions, one word for the rules. -/
namespace Sv
open PySem PyProof.Rows
open L2 (atI ixN)
/-! ### texts of signs -/
theorem strOk_app {a b : Str} : PyData.strOk (a ++ b) = (PyData.strOk a && PyData.strOk b) := by
  show (a.cps ++ b.cps).all _ = _
  rw [Array.all_append]
  rfl
theorem strOk_of (s : String) : PyData.strOk (Str.ofString s) = true := by
  rw [Str.ofString_eq_toList]
  show Array.all _ _ = true
  rw [Array.all_eq_true_iff_forall_mem]
  intro x hx
  have hx' : x ∈ s.toList.map Char.toNat := by simpa using hx
  obtain ⟨c, _, rfl⟩ := List.mem_map.mp hx'
  have h : c.toNat < 0x110000 := by
    have h1 := c.valid
    have h2 : c.toNat = c.val.toNat := rfl
    rw [h2]
    rcases h1 with h1 | h1
    · have h3 : c.val.toNat < 55296 := h1
      omega
    · exact h1.2
  simpa using h
theorem strOk_join {sep : Str} (hs : PyData.strOk sep = true) : ∀ ts : List Str, (∀ t ∈ ts, PyData.strOk t = true) → PyData.strOk (Str.join sep ts) = true
  | [], _ => show PyData.strOk Str.empty = true by decide +kernel
  | [x], h => h x List.mem_cons_self
  | x :: y :: r, h => by
    show PyData.strOk ((x ++ sep) ++ Str.join sep (y :: r)) = true
    rw [strOk_app, strOk_app, h x List.mem_cons_self, hs, strOk_join hs (y :: r) fun t ht => h t (List.mem_cons_of_mem _ ht)]
    rfl
theorem strOk_from : ∀ (ts : List Str) (k : Nat) (acc : Str), PyData.strOk acc = true → (∀ t ∈ ts, PyData.strOk t = true) → PyData.strOk (textFrom k acc ts) = true
  | [], _, _, h, _ => h
  | t :: ts, k, acc, h, ht => by
    refine strOk_from ts (k + 1) _ ?_ fun u hu => ht u (List.mem_cons_of_mem _ hu)
    rw [strOk_app, strOk_app, h, ht t List.mem_cons_self]
    split <;> rw [strOk_of] <;> rfl
/-! ### data that repr can show -/
mutual
def nice : PyData → Bool
  | .none | .bool _ => true
  | .int i => decide (i.natAbs < 10 ^ 12)
  | .str x => PyData.strOk x && PyData.strOk (reprText x)
  | .list xs | .tuple xs => nices xs
  | .dict _ => false
def nices : List PyData → Bool
  | [] => true
  | x :: xs => nice x && nices xs
end
mutual
theorem nice_show : ∀ d : PyData, nice d = true → PyData.strOk d.shown = true ∧ d.showable = true ∧ d.leavesShort 13 = true
  | .none, _ => ⟨strOk_of _, rfl, rfl⟩
  | .bool b, _ => ⟨by cases b <;> exact strOk_of _, rfl, rfl⟩
  | .int i, h => by
    have h' : i.natAbs < 10 ^ 12 := by simpa [nice] using h
    refine ⟨?_, ?_, ?_⟩
    · exact strOk_of _
    · show decide (i.natAbs.log2 < 1920) = true
      rw [decide_eq_true_iff]
      have : i.natAbs.log2 < 40 := by
        by_cases z : i.natAbs = 0
        · rw [z]; decide
        · exact (Nat.log2_lt z).mpr (by have : (10 : Nat) ^ 12 < 2 ^ 40 := by decide
                                        omega)
      omega
    · have := PyData.shown_int_le h'
      simpa [PyData.leavesShort] using this
  | .str x, h => by
    have h' : PyData.strOk x = true ∧ PyData.strOk (reprText x) = true := by simpa [nice] using h
    refine ⟨h'.2, rfl, ?_⟩
    exact PyData.leavesShort_of_canLay0 13 (.str x) (by simpa [PyData.canLay0] using h'.1) rfl
  | .list xs, h => by
    obtain ⟨h1, h2, h3⟩ := nices_show xs (by simpa [nice] using h)
    refine ⟨?_, h2, h3⟩
    show PyData.strOk (textFrom 0 "[" _ ++ "]") = true
    rw [strOk_app, strOk_from _ _ _ (strOk_of _) h1, strOk_of]
    rfl
  | .tuple xs, h => by
    obtain ⟨h1, h2, h3⟩ := nices_show xs (by simpa [nice] using h)
    refine ⟨?_, h2, h3⟩
    show PyData.strOk (tupleText _) = true
    unfold tupleText
    rw [strOk_app, strOk_app, strOk_join (strOk_of _) _ h1, strOk_of]
    split <;> rw [strOk_of] <;> rfl
  | .dict _, h => by simp [nice] at h
theorem nices_show : ∀ ds : List PyData, nices ds = true → (∀ t ∈ PyData.shownAll ds, PyData.strOk t = true) ∧ PyData.showableAll ds = true ∧ PyData.leavesShortAll 13 ds = true
  | [], _ => ⟨fun t h => by simp [PyData.shownAll] at h, rfl, rfl⟩
  | d :: ds, h => by
    have h' : nice d = true ∧ nices ds = true := by simpa [nices] using h
    obtain ⟨a1, a2, a3⟩ := nice_show d h'.1
    obtain ⟨b1, b2, b3⟩ := nices_show ds h'.2
    refine ⟨fun t ht => ?_, by simp [PyData.showableAll, a2, b2], by simp [PyData.leavesShortAll, a3, b3]⟩
    rcases List.mem_cons.mp (show t ∈ d.shown :: PyData.shownAll ds from ht) with e | e
    · rw [e]; exact a1
    · exact b1 t e
end
/-- d is flat to a depth, can be shown, is no heavier than w -/
structure Nice (n w : Nat) (d : D) : Prop where
  f : flat n d = true
  s : nice (toP d) = true
  w : (toP d).weight ≤ w
theorem Nice.mono {n w w' : Nat} {d : D} (h : Nice n w d) (e : w ≤ w') : Nice n w' d := ⟨h.f, h.s, by have := h.w; omega⟩
mutual
theorem flat_up : ∀ {n m : Nat} {d : D}, n ≤ m → flat n d = true → flat m d = true
  | _, _, .non, _, _ => flat_non
  | _, _, .bl _, _, _ => flat_bl
  | _, _, .int _, _, _ => flat_int
  | _, _, .str x, _, h => by rw [flat_str] at *; exact h
  | 0, _, .tup _, _, h => by simp [flat] at h
  | n + 1, 0, .tup _, e, _ => by omega
  | n + 1, m + 1, .tup ds, e, h => flats_up (n := n) (m := m) (by omega) h
  | 0, _, .lst _, _, h => by simp [flat] at h
  | n + 1, 0, .lst _, e, _ => by omega
  | n + 1, m + 1, .lst ds, e, h => flats_up (n := n) (m := m) (by omega) h
  | 0, _, .frl _, _, h => by simp [flat] at h
  | n + 1, 0, .frl _, e, _ => by omega
  | n + 1, m + 1, .frl ds, e, h => flats_up (n := n) (m := m) (by omega) h
  | n, _, .dct _ _, _, h => by cases n <;> simp [flat] at h
  | n, _, .ref _, _, h => by cases n <;> simp [flat] at h
  | n, _, .fnv, _, h => by cases n <;> simp [flat] at h
theorem flats_up : ∀ {n m : Nat} {ds : List D}, n ≤ m → flats n ds = true → flats m ds = true
  | _, _, [], _, _ => by simp [flats]
  | n, m, d :: ds, e, h => by
    have h' : flat n d = true ∧ flats n ds = true := by simpa [flats] using h
    show (flat m d && flats m ds) = true
    rw [flat_up e h'.1, flats_up e h'.2]
    rfl
end
theorem Nice.up {n m w w' : Nat} {d : D} (h : Nice n w d) (e : n ≤ m) (e' : w ≤ w') : Nice m w' d := ⟨flat_up e h.f, h.s, Nat.le_trans h.w e'⟩
theorem nice_non {n w : Nat} : Nice n w .non := ⟨flat_non, rfl, Nat.zero_le _⟩
theorem nice_bl {n w : Nat} {b : Bool} : Nice n w (.bl b) := ⟨flat_bl, rfl, Nat.zero_le _⟩
theorem nice_int {n w : Nat} {i : Int} (h : i.natAbs < 1024) (hw : 10 ≤ w) : Nice n w (.int i) := by
  refine ⟨flat_int, ?_, ?_⟩
  · show decide (i.natAbs < 10 ^ 12) = true
    rw [decide_eq_true_iff]
    have : (1024 : Nat) < 10 ^ 12 := by decide
    omega
  · show (if i == 0 then 0 else i.natAbs.log2 + 1) ≤ w
    split
    · omega
    · rename_i z
      have z' : i.natAbs ≠ 0 := by simpa using z
      have := (Nat.log2_lt z').mpr (show i.natAbs < 2 ^ 10 by have : (2 : Nat) ^ 10 = 1024 := by decide
                                                              omega)
      omega
theorem nice_str {n w : Nat} {x : Str} (h : (PyData.strOk x && PyData.strOk (reprText x)) = true) (hw : x.cps.size ≤ w) : Nice n w (.str x) := by
  have h1 : PyData.strOk x = true ∧ PyData.strOk (reprText x) = true := by simpa using h
  exact ⟨by rw [flat_str]; exact h1.1, h, hw⟩
theorem nices_of {n w : Nat} : ∀ {ds : List D}, (∀ d ∈ ds, Nice n w d) → flats n ds = true ∧ nices (toPs ds) = true ∧ PyData.weightAll (toPs ds) ≤ ds.length * (w + 1)
  | [], _ => ⟨by simp [flats], rfl, by simp [toPs, PyData.weightAll]⟩
  | d :: ds, h => by
    obtain ⟨h1, h2, h3⟩ := h d List.mem_cons_self
    obtain ⟨g1, g2, g3⟩ := nices_of fun x hx => h x (List.mem_cons_of_mem _ hx)
    refine ⟨?_, ?_, ?_⟩
    · show (flat n d && flats n ds) = true
      rw [h1, g1]; rfl
    · show (nice (toP d) && nices (toPs ds)) = true
      rw [h2, g2]; rfl
    · show (toP d).weight + 1 + PyData.weightAll (toPs ds) ≤ (ds.length + 1) * (w + 1)
      rw [Nat.succ_mul]
      omega
theorem nice_tup {n w w' k : Nat} {ds : List D} (h : ∀ d ∈ ds, Nice n w d) (hk : ds.length ≤ k) (hw : k * (w + 1) ≤ w') : Nice (n + 1) w' (.tup ds) := by
  obtain ⟨g1, g2, g3⟩ := nices_of h
  exact ⟨g1, g2, Nat.le_trans g3 (Nat.le_trans (Nat.mul_le_mul_right _ hk) hw)⟩
theorem nice_lst {n w w' k : Nat} {ds : List D} (h : ∀ d ∈ ds, Nice n w d) (hk : ds.length ≤ k) (hw : k * (w + 1) ≤ w') : Nice (n + 1) w' (.lst ds) := by
  obtain ⟨g1, g2, g3⟩ := nices_of h
  exact ⟨g1, g2, Nat.le_trans g3 (Nat.le_trans (Nat.mul_le_mul_right _ hk) hw)⟩
theorem nice_frl {n w w' k : Nat} {ds : List D} (h : ∀ d ∈ ds, Nice n w d) (hk : ds.length ≤ k) (hw : k * (w + 1) ≤ w') : Nice (n + 1) w' (.frl ds) := by
  obtain ⟨g1, g2, g3⟩ := nices_of h
  exact ⟨g1, g2, Nat.le_trans g3 (Nat.le_trans (Nat.mul_le_mul_right _ hk) hw)⟩
theorem Nice.strOk {n w : Nat} {d : D} (h : Nice n w d) : PyData.strOk (shownD d) = true := (nice_show _ h.s).1
section
variable {P : D → Store → Prop} {X : Ex → Store → Prop} {st : Store}
theorem r_ev_repr {n w : Nat} {d : D} (h : Nice n w d) (hn : n ≤ 20) (hw : w ≤ 1048576) : Ev0 (kRepr [d] st) P X ↔ P (.str (shownD d)) st := by
  have e1 := flat_up (m := deepest) hn h.f
  obtain ⟨_, e2, e3⟩ := nice_show _ h.s
  have e4 : (shownD d).length ≤ sizeLine := PyData.shown_fits (B := 13) (by decide) (by decide) e3 (by have := h.w; omega)
  show Ev0 (gd (flat deepest d && (toP d).showable && decide ((shownD d).length ≤ sizeLine)) (ret (.str (shownD d))) st) P X ↔ _
  rw [r_ev_gd, e1, e2, decide_eq_true e4]
  simp only [Bool.and_self, true_and]
  exact Iff.rfl
end
/-! ### try -/
section
variable {env : Sv.Env} {st : Store} {N B C : Sv.Env → Store → Prop} {R : D → Store → Prop} {X : Ex → Sv.Env → Store → Prop}
theorem r_es_try {body : SM} {hs : List Hd} : Es0 (bTry body hs env st) N R X B C ↔ Es0 (body env st) N R (fun e env st => Es0 (handleM hs e env st) N R X B C) B C := by
  unfold bTry
  cases body env st <;> exact Iff.rfl
end
end Sv
/-! Sv25: comprehensions, dicts of ints, sorted: what they have. -/
namespace Sv
open PySem PyProof.Rows
open L2 (atI ixN Key)
theorem r_eq_of_ev {α : Type} {o : Out α} {x : α} {st2 : Store} (h : Ev0 o (fun a s => a = x ∧ s = st2) fun _ _ => False) : o = .ok x st2 := by
  cases o with
  | ok a s => obtain ⟨rfl, rfl⟩ := h; rfl
  | ex e s => exact h.elim
  | bad => exact h.elim
theorem r_ev_eqn' {α : Type} {o : Out α} {a : α} {st2 : Store} {Q : α → Store → Prop} {X : Ex → Store → Prop} (h : o = .ok a st2) : Ev0 o Q X ↔ Q a st2 := by rw [h]; exact Iff.rfl
section
variable {α : Type} {P : α → Store → Prop} {Pl : List D → Store → Prop} {Q : D → Store → Prop} {X : Ex → Store → Prop} {st : Store} {env : Sv.Env}
theorem r_ev_calmly {x : M α} : Ev0 (calmly x st) P X ↔ Ev0 (x st) P fun _ _ => False := by
  unfold calmly
  cases x st <;> exact Iff.rfl
theorem r_ev_comp {vs : List Nat} {fi : Sv.Env → M (List D)} {b : TgM} {c : Sv.Env → M Bool} {e : Sv.Env → M D} : Ev0 (sComp vs fi b c e env st) Q X ↔ Ev0 (fi env st) (fun ds st1 => Ev0 (compL b c e ds (wipeE env vs) st1) (fun ys st2 => ys.length ≤ 16777216 ∧ Q (.lst ys) st2) X) X := by
  unfold sComp
  simp only [r_ev_bnd, r_ev_gd, r_ev_ret, lim_ok]
theorem r_ev_compM {vs : List Nat} {fi : Sv.Env → M (List D)} {b : TgM} {c : Sv.Env → M Bool} {e : Sv.Env → M D} : Ev0 (sCompM vs fi b c e env st) Q X ↔ Ev0 (fi env st) (fun ds st1 => Ev0 (compL b c e ds (wipeE env vs) st1) (fun ys st2 => ys.length ≤ 16777216 ∧ Q (.ref st2.length) (st2 ++ [.lst ys])) X) X := by
  unfold sCompM
  simp only [r_ev_bnd, r_ev_gd, r_ev_new, lim_ok]
theorem r_ev_dict {vs : List Nat} {fi : Sv.Env → M (List D)} {b : TgM} {c : Sv.Env → M Bool} {fk fe : Sv.Env → M D} : Ev0 (sDict fzD vs fi b c fk fe env st) Q X ↔ Ev0 (fi env st) (fun ds st1 => Ev0 (dictL b c fk fe ds (wipeE env vs) ([], []) st1) (fun p st2 => Q (.dct p.1 p.2) st2) X) X := by
  unfold sDict fzD
  simp only [r_ev_bnd, r_ev_ret]
theorem r_ev_dict2 {vs vs1 : List Nat} {fi fi1 : Sv.Env → M (List D)} {b b1 : TgM} {c c1 : Sv.Env → M Bool} {fk fe : Sv.Env → M D} : Ev0 (sDict2 fzD vs fi b c fi1 vs1 b1 c1 fk fe env st) Q X ↔ Ev0 (fi env st) (fun ds st1 => Ev0 (dictL2 b c fi1 vs1 b1 c1 fk fe ds (wipeE env vs) ([], []) st1) (fun p st2 => Q (.dct p.1 p.2) st2) X) X := by
  unfold sDict2 fzD
  simp only [r_ev_bnd, r_ev_ret]
theorem r_ev_cYes {Pb : Bool → Store → Prop} : Ev0 (cYes env st) Pb X ↔ Pb true st := Iff.rfl
theorem r_ev_cOne {Pb : Bool → Store → Prop} {f : Sv.Env → M D} : Ev0 (cOne f env st) Pb X ↔ Ev0 (f env st) (fun d s1 => onB d fun b => Pb b s1) X := by
  unfold cOne
  rw [r_ev_bnd]
  refine iff_of_eq (congrArg (fun z => Ev0 (f env st) z X) (funext fun d => funext fun s1 => propext ?_))
  cases d <;> exact Iff.rfl
/-- a comprehension by an invariant: what is done, what is found -/
theorem r_ev_compL {b : TgM} {c : Sv.Env → M Bool} {e : Sv.Env → M D} {ds : List D} (I : List D → List D → Store → Prop) (h0 : I [] [] st)
    (step : ∀ done ys d rest st, ds = done ++ d :: rest → I done ys st → Eg (b d env st) fun env1 st1 => Ev0 (c env1 st1) (fun t st2 => if t = true then Ev0 (e env1 st2) (fun y st3 => I (done ++ [d]) (ys ++ [y]) st3) (fun _ _ => False) else I (done ++ [d]) ys st2) fun _ _ => False)
    (fin : ∀ ys st, I ds ys st → Pl ys st) : Ev0 (compL b c e ds env st) Pl X := by
  have go : ∀ (rest done ys : List D) (st : Store) (k : List D → Store → Prop), ds = done ++ rest → I done ys st → (∀ zs st, I ds (ys ++ zs) st → k zs st) → Ev0 (compL b c e rest env st) k X := by
    intro rest
    induction rest with
    | nil =>
      intro done ys st k h hI hk
      rw [List.append_nil] at h
      subst h
      exact hk [] st (by rw [List.append_nil]; exact hI)
    | cons d rest ih =>
      intro done ys st k h hI hk
      have z := step done ys d rest st h hI
      unfold compL
      cases q : b d env st with
      | none => rw [q] at z; exact z.elim
      | some p =>
        rw [q] at z
        dsimp only
        have z' : Ev0 (c p.1 p.2) _ _ := z
        rw [r_ev_bnd, r_ev_calmly]
        refine z'.imp (fun t st2 ht => ?_) fun _ _ h => h
        have h' : ds = (done ++ [d]) ++ rest := by rw [h]; simp
        cases t with
        | false => exact ih _ _ _ k h' (by simpa using ht) hk
        | true =>
          dsimp only
          rw [r_ev_bnd, r_ev_calmly]
          refine Ev0.imp (if_pos rfl ▸ ht) (fun y st3 hy => ?_) fun _ _ h => h
          rw [r_ev_bnd]
          refine ih _ _ _ _ h' hy fun zs st4 hz => ?_
          exact hk (y :: zs) st4 (by rw [show ys ++ y :: zs = (ys ++ [y]) ++ zs by simp]; exact hz)
  exact go ds [] [] st Pl rfl h0 fun zs st h => fin zs st h
/-- a comprehension without a test whose elements change nothing -/
theorem compL_map {b : TgM} {e : Sv.Env → M D} (g : D → Sv.Env) (v : D → D) (ds : List D) (h : ∀ d ∈ ds, b d env st = some (g d, st) ∧ e (g d) st = .ok (v d) st) : compL b cYes e ds env st = .ok (ds.map v) st := by
  rw [compL_pure g (fun _ => true) v ds fun d hd => ⟨(h d hd).1, rfl, fun _ => (h d hd).2⟩]
  congr 1
  rw [List.filter_eq_self.mpr fun _ _ => rfl]
end
/-! ### dicts of ints with one value -/
def insI (ks : List Int) (k : Int) : List Int := if k ∈ ks then ks else ks ++ [k]
def uniq (ks : List Int) : List Int := ks.foldl insI []
def setK (ks : List Int) : List Key := ks.map Sum.inl
def setV (d : D) (ks : List Int) : List D := ks.map fun _ => d
theorem dSet_same (d : D) (k : Key) : ∀ ks : List Int, dSet k d (setK ks) (setV d ks) = setV d ks
  | [] => rfl
  | a :: ks => by
    show (if (Sum.inl a : Key) = k then d else d) :: dSet k d (setK ks) (setV d ks) = d :: setV d ks
    rw [dSet_same d k ks]
    split <;> rfl
theorem dPut_set (d : D) (ks : List Int) (k : Int) : dPut (.inl k) d (setK ks, setV d ks) = (setK (insI ks k), setV d (insI ks k)) := by
  unfold dPut insI
  dsimp only
  have e : ((setK ks).any fun j => decide (j = (Sum.inl k : Key))) = decide (k ∈ ks) := by
    unfold setK
    rw [List.any_map]
    induction ks with
    | nil => simp
    | cons a ks ih =>
      rw [List.any_cons, ih]
      by_cases h : a = k
      · subst h; simp
      · have h2 : ¬ k = a := fun z => h z.symm
        simp [h, h2]
  rw [e]
  by_cases h : k ∈ ks
  · rw [if_pos (decide_eq_true h), if_pos h, dSet_same]
  · rw [if_neg (by simpa using h), if_neg h]
    simp [setK, setV]
theorem insI_len (ks : List Int) (k : Int) : (insI ks k).length ≤ ks.length + 1 := by
  unfold insI
  split
  · omega
  · simp
theorem insI_nodup {ks : List Int} {k : Int} (h : ks.Nodup) : (insI ks k).Nodup := by
  unfold insI
  split
  · exact h
  · rename_i z
    rw [List.nodup_append]
    refine ⟨h, by simp, fun a ha b hb e => ?_⟩
    rw [List.mem_singleton] at hb
    subst hb
    subst e
    exact z ha
theorem insI_mem {ks : List Int} {k x : Int} : x ∈ insI ks k ↔ x ∈ ks ∨ x = k := by
  unfold insI
  split
  · rename_i z
    exact ⟨.inl, fun h => h.elim id fun e => e ▸ z⟩
  · simp
theorem foldl_insI_mem {x : Int} : ∀ {l ks : List Int}, x ∈ l.foldl insI ks ↔ x ∈ ks ∨ x ∈ l
  | [], ks => by simp
  | a :: l, ks => by
    rw [List.foldl_cons, foldl_insI_mem, insI_mem, List.mem_cons]
    constructor
    · rintro ((h | h) | h)
      · exact .inl h
      · exact .inr (.inl h)
      · exact .inr (.inr h)
    · rintro (h | h | h)
      · exact .inl (.inl h)
      · exact .inl (.inr h)
      · exact .inr h
theorem foldl_insI_nodup : ∀ {l ks : List Int}, ks.Nodup → (l.foldl insI ks).Nodup
  | [], _, h => h
  | a :: l, ks, h => foldl_insI_nodup (l := l) (insI_nodup (k := a) h)
theorem foldl_insI_len : ∀ (l ks : List Int), (l.foldl insI ks).length ≤ ks.length + l.length
  | [], _ => Nat.le_refl _
  | a :: l, ks => by
    have h1 := foldl_insI_len l (insI ks a)
    have h2 := insI_len ks a
    rw [List.foldl_cons, List.length_cons]
    omega
theorem uniq_mem {x : Int} {l : List Int} : x ∈ uniq l ↔ x ∈ l := by
  unfold uniq
  rw [foldl_insI_mem]
  simp
theorem uniq_nodup {l : List Int} : (uniq l).Nodup := foldl_insI_nodup List.nodup_nil
theorem uniq_len (l : List Int) : (uniq l).length ≤ l.length := by
  have := foldl_insI_len l []
  simpa [uniq] using this
/-- ints below n without twins are n at most -/
theorem nodup_len : ∀ (n : Nat) {l : List Int}, l.Nodup → (∀ x ∈ l, 0 ≤ x ∧ x < n) → l.length ≤ n
  | 0, l, _, h => by
    cases l with
    | nil => simp
    | cons a l => have := h a List.mem_cons_self; omega
  | n + 1, l, hn, h => by
    have h1 : (l.erase (n : Int)).length ≤ n := nodup_len n (hn.erase _) fun x hx => by
      have h2 := List.mem_of_mem_erase hx
      have h3 := h x h2
      have h4 : x ≠ (n : Int) := fun e => by
        subst e
        exact (List.Nodup.not_mem_erase hn) hx
      omega
    have h5 : l.length ≤ (l.erase (n : Int)).length + 1 := by
      rw [List.length_erase]
      split <;> omega
    omega
theorem sortI_perm (l : List Int) : (sortI l).Perm l := List.mergeSort_perm l _
theorem sortI_mem {x : Int} {l : List Int} : x ∈ sortI l ↔ x ∈ l := (sortI_perm l).mem_iff
theorem sortI_nodup {l : List Int} (h : l.Nodup) : (sortI l).Nodup := (sortI_perm l).nodup_iff.mpr h
theorem sortI_len (l : List Int) : (sortI l).length = l.length := (sortI_perm l).length_eq
theorem sortI_pairwise (l : List Int) : (sortI l).Pairwise (· ≤ ·) := by
  have e3 := List.pairwise_mergeSort (le := fun a b : Int => decide (a ≤ b)) (fun a b c h1 h2 => by simp only [decide_eq_true_eq] at *; omega) (fun a b => by simp only [Bool.or_eq_true, decide_eq_true_eq]; omega) l
  exact e3.imp fun h => of_decide_eq_true h
theorem kint?_map : ∀ ns : List Int, kint? (setK ns) = some ns
  | [] => rfl
  | n :: ns => by
    show (kint? (setK ns)).map (n :: ·) = _
    rw [kint?_map ns]
    rfl
section
variable {P : D → Store → Prop} {X : Ex → Store → Prop} {st : Store}
theorem r_ev_sorted_l {ns : List Int} : Ev0 (kSorted [D.lst (ns.map D.int)] st) P X ↔ P (D.lst ((sortI ns).map D.int)) st := by
  refine r_ev_eqn' ?_
  show sortedD (.lst (ns.map D.int)) st = _
  unfold sortedD intsOf lstOf
  dsimp only [Option.bind]
  rw [ints?_map]
theorem r_ev_sorted_d {ns : List Int} {vs : List D} : Ev0 (kSorted [.dct (setK ns) vs] st) P X ↔ ns.length < 64 ∧ P (.lst ((sortI ns).map D.int)) st := by
  show Ev0 (sortedD (.dct (setK ns) vs) st) P X ↔ _
  have e : sortedD (.dct (setK ns) vs) st = gd (decide (ns.length < 64)) (ret (D.lst ((sortI ns).map D.int))) st := by
    unfold sortedD
    show (match (kint? (setK ns)) with | some ns => gd (decide (ns.length < 64)) (ret (D.lst ((sortI ns).map D.int))) st | none => Out.bad) = _
    rw [kint?_map]
  rw [e, r_ev_gd, decide_eq_true_iff, r_ev_ret]
theorem r_ev_list_dct {n : Nat} {ks : List Key} {vs : List D} (h : st[n]? = some (.dct ks vs)) : Ev0 (kList [.ref n] st) P X ↔ P (.lst (ks.map keyD)) st := by
  refine r_ev_eqn' ?_
  show listD (.ref n) st = _
  unfold listD itemsOf seqOf dctOf
  dsimp only
  rw [h]
theorem r_ev_list_dctF {ks : List Key} {vs : List D} : Ev0 (kList [.dct ks vs] st) P X ↔ P (.lst (ks.map keyD)) st := Iff.rfl
theorem r_ev_list_t {ds : List D} : Ev0 (kList [.tup ds] st) P X ↔ P (.lst ds) st := Iff.rfl
theorem r_ev_list_l {ds : List D} : Ev0 (kList [.lst ds] st) P X ↔ P (.lst ds) st := Iff.rfl
theorem setK_keyD (ks : List Int) : (setK ks).map keyD = ks.map D.int := by
  unfold setK
  rw [List.map_map]
  rfl
theorem ep_putD {n : Nat} {d : D} {N : Store → Prop} {ks : List Int} {k : Int} (h : st[n]? = some (.dct (setK ks) (setV d ks))) (hl : ks.length < 1000000) : Ep (putAt (.ref n) (.int k) d st) N ↔ N (st.set n (.dct (setK (insI ks k)) (setV d (insI ks k)))) := by
  have e : putAt (.ref n) (.int k) d st = some (st.set n (.dct (setK (insI ks k)) (setV d (insI ks k)))) := by
    unfold putAt
    dsimp only
    rw [h]
    dsimp only [keyOf]
    have e1 : decide ((setK ks).length < sizeLine) = true := by
      rw [decide_eq_true_iff, sizeLine_eq]
      unfold setK
      rw [List.length_map]
      omega
    rw [e1, dPut_set]
  rw [e]
  exact Iff.rfl
theorem r_ev_all {bs : List Bool} : Ev0 (kAll [.lst (bs.map D.bl)] st) P X ↔ P (.bl (bs.all id)) st := by
  refine r_ev_eqn' ?_
  show onBls (fun bs => ret (.bl (bs.all id))) (.lst (bs.map D.bl)) st = _
  unfold onBls blsOf lstOf
  dsimp only [Option.bind]
  rw [bls?_map]
  rfl
theorem r_ev_any {bs : List Bool} : Ev0 (kAny [.lst (bs.map D.bl)] st) P X ↔ P (.bl (bs.any id)) st := by
  refine r_ev_eqn' ?_
  show onBls (fun bs => ret (.bl (bs.any id))) (.lst (bs.map D.bl)) st = _
  unfold onBls blsOf lstOf
  dsimp only [Option.bind]
  rw [bls?_map]
  rfl
theorem r_ev_tupRg {n : Int} : Ev0 (tupRg1D (.int n) st) P X ↔ (0 ≤ n ∧ n ≤ 16777216) ∧ P (.tup (rgD 0 n)) st := by
  show Ev0 (gd _ _ st) P X ↔ _
  rw [r_ev_gd, Bool.and_eq_true, decide_eq_true_iff, decide_eq_true_iff, r_ev_ret]
end
/-- a dict comprehension over ints with one value, that changes nothing -/
theorem dictL_set {b : TgM} {c : Sv.Env → M Bool} {fk fe : Sv.Env → M D} {env : Sv.Env} {st : Store} (v : D) (g : D → Sv.Env) (p : D → Bool) (k : D → Int) : ∀ (ds : List D) (ks : List Int), ks.length + ds.length < 1000000 →
    (∀ d ∈ ds, b d env st = some (g d, st) ∧ c (g d) st = .ok (p d) st ∧ (p d = true → fk (g d) st = .ok (.int (k d)) st ∧ fe (g d) st = .ok v st)) →
    dictL b c fk fe ds env (setK ks, setV v ks) st = .ok (setK (((ds.filter p).map k).foldl insI ks), setV v (((ds.filter p).map k).foldl insI ks)) st
  | [], ks, _, _ => rfl
  | d :: ds, ks, hl, h => by
    obtain ⟨h1, h2, h3⟩ := h d List.mem_cons_self
    rw [List.length_cons] at hl
    unfold dictL
    rw [h1]
    dsimp only
    have hc : calmly (c (g d)) st = .ok (p d) st := by unfold calmly; rw [h2]
    rw [bnd_ok hc]
    cases q : p d with
    | false =>
      dsimp only
      rw [dictL_set v g p k ds ks (by omega) fun d hd => h d (List.mem_cons_of_mem _ hd), List.filter_cons, q]
      rfl
    | true =>
      dsimp only
      have hk : calmly (fk (g d)) st = .ok (.int (k d)) st := by unfold calmly; rw [(h3 q).1]
      have hv : calmly (fe (g d)) st = .ok v st := by unfold calmly; rw [(h3 q).2]
      rw [bnd_ok hk, bnd_ok hv]
      dsimp only [keyOf]
      have e1 : decide ((setK ks).length < sizeLine) = true := by
        rw [decide_eq_true_iff, sizeLine_eq]
        unfold setK
        rw [List.length_map]
        omega
      rw [e1, dPut_set]
      have := insI_len ks (k d)
      rw [show gd true (dictL b c fk fe ds env (setK (insI ks (k d)), setV v (insI ks (k d)))) st = dictL b c fk fe ds env (setK (insI ks (k d)), setV v (insI ks (k d))) st from rfl,
        dictL_set v g p k ds (insI ks (k d)) (by omega) fun d hd => h d (List.mem_cons_of_mem _ hd), List.filter_cons, q]
      rfl

/-! ### over lists of anything that stands for data -/
section
variable {α : Type} {b : TgM} {c : Sv.Env → M Bool} {e fk fe : Sv.Env → M D} {env : Sv.Env} {st : Store}
theorem compA (l : List α) (φ : α → D) (f : α → D) (p : α → Bool) (g : α → Sv.Env) (h : ∀ a ∈ l, b (φ a) env st = some (g a, st) ∧ c (g a) st = .ok (p a) st ∧ (p a = true → e (g a) st = .ok (f a) st)) : compL b c e (l.map φ) env st = .ok ((l.filter p).map f) st := by
  induction l with
  | nil => rfl
  | cons a l ih =>
    obtain ⟨h1, h2, h3⟩ := h a List.mem_cons_self
    have ih := ih fun d hd => h d (List.mem_cons_of_mem _ hd)
    rw [List.map_cons]
    unfold compL
    rw [h1]
    dsimp only
    have hc : calmly (c (g a)) st = .ok (p a) st := by unfold calmly; rw [h2]
    rw [bnd_ok hc]
    cases q : p a with
    | false =>
      dsimp only
      rw [ih, List.filter_cons, q]
      rfl
    | true =>
      dsimp only
      have he : calmly (e (g a)) st = .ok (f a) st := by unfold calmly; rw [h3 q]
      rw [bnd_ok he, bnd_ok ih, List.filter_cons, q]
      rfl
theorem compA1 (l : List α) (φ : α → D) (f : α → D) (g : α → Sv.Env) (h : ∀ a ∈ l, b (φ a) env st = some (g a, st) ∧ e (g a) st = .ok (f a) st) : compL b cYes e (l.map φ) env st = .ok (l.map f) st := by
  rw [compA l φ f (fun _ => true) g fun a ha => ⟨(h a ha).1, rfl, fun _ => (h a ha).2⟩, List.filter_eq_self.mpr fun _ _ => rfl]
theorem dictA (v : D) (k : α → Int) (g : α → Sv.Env) : ∀ (l : List α) (φ : α → D) (ks : List Int), ks.length + l.length < 1000000 →
    (∀ a ∈ l, b (φ a) env st = some (g a, st) ∧ fk (g a) st = .ok (.int (k a)) st ∧ fe (g a) st = .ok v st) →
    dictL b cYes fk fe (l.map φ) env (setK ks, setV v ks) st = .ok (setK ((l.map k).foldl insI ks), setV v ((l.map k).foldl insI ks)) st
  | [], φ, ks, _, _ => rfl
  | a :: l, φ, ks, hl, h => by
    obtain ⟨h1, h2, h3⟩ := h a List.mem_cons_self
    rw [List.length_cons] at hl
    rw [List.map_cons]
    unfold dictL
    rw [h1]
    dsimp only
    have hc : calmly (cYes (g a)) st = .ok true st := rfl
    have hk : calmly (fk (g a)) st = .ok (.int (k a)) st := by unfold calmly; rw [h2]
    have hv : calmly (fe (g a)) st = .ok v st := by unfold calmly; rw [h3]
    rw [bnd_ok hc]
    dsimp only
    rw [bnd_ok hk, bnd_ok hv]
    dsimp only [keyOf]
    have e1 : decide ((setK ks).length < sizeLine) = true := by
      rw [decide_eq_true_iff, sizeLine_eq]
      unfold setK
      rw [List.length_map]
      omega
    rw [e1, dPut_set]
    have := insI_len ks (k a)
    rw [show gd true (dictL b cYes fk fe (l.map φ) env (setK (insI ks (k a)), setV v (insI ks (k a)))) st = dictL b cYes fk fe (l.map φ) env (setK (insI ks (k a)), setV v (insI ks (k a))) st from rfl,
      dictA v k g l φ (insI ks (k a)) (by omega) fun d hd => h d (List.mem_cons_of_mem _ hd)]
    rfl
theorem dictA2 {β : Type} {fi1 : Sv.Env → M (List D)} {vs1 : List Nat} {b1 : TgM} (v : D) (m : α → List β) (ψ : β → D) (k : α → β → Int) (g : α → Sv.Env) (g1 : α → β → Sv.Env) : ∀ (l : List α) (φ : α → D) (ks : List Int), ks.length + (l.flatMap m).length < 1000000 →
    (∀ a ∈ l, b (φ a) env st = some (g a, st) ∧ fi1 (g a) st = .ok ((m a).map ψ) st ∧ ∀ z ∈ m a, b1 (ψ z) (wipeE (g a) vs1) st = some (g1 a z, st) ∧ fk (g1 a z) st = .ok (.int (k a z)) st ∧ fe (g1 a z) st = .ok v st) →
    dictL2 b cYes fi1 vs1 b1 cYes fk fe (l.map φ) env (setK ks, setV v ks) st = .ok (setK ((l.flatMap fun a => (m a).map (k a)).foldl insI ks), setV v ((l.flatMap fun a => (m a).map (k a)).foldl insI ks)) st
  | [], φ, ks, _, _ => rfl
  | a :: l, φ, ks, hl, h => by
    obtain ⟨h1, h2, h3⟩ := h a List.mem_cons_self
    rw [List.flatMap_cons, List.length_append] at hl
    rw [List.map_cons]
    unfold dictL2
    rw [h1]
    dsimp only
    have hc : calmly (cYes (g a)) st = .ok true st := rfl
    have hi : calmly (fi1 (g a)) st = .ok ((m a).map ψ) st := by unfold calmly; rw [h2]
    rw [bnd_ok hc]
    dsimp only
    rw [bnd_ok hi, bnd_ok (dictA v (k a) (g1 a) (m a) ψ ks (by omega) h3)]
    have h5 := foldl_insI_len ((m a).map (k a)) ks
    rw [List.length_map] at h5
    rw [dictA2 v m ψ k g g1 l φ _ (by omega) fun d hd => h d (List.mem_cons_of_mem _ hd), List.flatMap_cons, List.foldl_append]
end
section
variable {α : Type} {env : Sv.Env} {st : Store} {N B C : Sv.Env → Store → Prop} {R : D → Store → Prop} {X : Ex → Sv.Env → Store → Prop} {Pl : List D → Store → Prop} {Y : Ex → Store → Prop}
theorem split_map {l : List α} {φ : α → D} {done rest : List D} {d : D} (h : l.map φ = done ++ d :: rest) : ∃ l1 a l2, l = l1 ++ a :: l2 ∧ done = l1.map φ ∧ d = φ a ∧ rest = l2.map φ := by
  obtain ⟨l1, l3, e1, e2, e3⟩ := List.map_eq_append_iff.mp h
  obtain ⟨a, l2, e4, e5, e6⟩ := List.map_eq_cons_iff.mp e3
  exact ⟨l1, a, l2, by rw [e1, e4], e2.symm, e5.symm, e6.symm⟩
theorem r_es_loopA {b : TgM} {body : SM} (l : List α) (φ : α → D) (I : List α → Sv.Env → Store → Prop) (h0 : I [] env st)
    (step : ∀ done a rest env st, l = done ++ a :: rest → I done env st → Eg (b (φ a) env st) fun env1 st1 => Es0 (body env1 st1) (I (done ++ [a])) R X N (I (done ++ [a]))) (fin : ∀ env st, I l env st → N env st) : Es0 (forL b body (l.map φ) env st) N R X B C := by
  have go : ∀ (rest done : List α) (env : Sv.Env) (st : Store), l = done ++ rest → I done env st → Es0 (forL b body (rest.map φ) env st) N R X B C := by
    intro rest
    induction rest with
    | nil =>
      intro done env st e h
      rw [List.append_nil] at e
      subst e
      exact fin env st h
    | cons d rest ih =>
      intro done env st e h
      have z := step done d rest env st e h
      rw [List.map_cons]
      unfold forL
      cases q : b (φ d) env st with
      | none => rw [q] at z; exact z.elim
      | some p =>
        rw [q] at z
        dsimp only
        have h1 : Es0 (body p.1 p.2) _ _ _ _ _ := z
        have e' : l = (done ++ [d]) ++ rest := by rw [e]; simp
        cases q : body p.1 p.2 with
        | nx env2 st2 =>
          rw [q] at h1
          exact ih _ _ _ e' h1
        | ct env2 st2 =>
          rw [q] at h1
          exact ih _ _ _ e' h1
        | bk env2 st2 =>
          rw [q] at h1
          exact h1
        | rt d2 st2 =>
          rw [q] at h1
          exact h1
        | ex x env2 st2 =>
          rw [q] at h1
          exact h1
        | bad =>
          rw [q] at h1
          exact h1
  exact go l [] env st rfl h0
theorem r_ev_compA {b : TgM} {c : Sv.Env → M Bool} {e : Sv.Env → M D} (l : List α) (φ : α → D) (I : List α → List D → Store → Prop) (h0 : I [] [] st)
    (step : ∀ done ys a rest st, l = done ++ a :: rest → I done ys st → Eg (b (φ a) env st) fun env1 st1 => Ev0 (c env1 st1) (fun t st2 => if t = true then Ev0 (e env1 st2) (fun y st3 => I (done ++ [a]) (ys ++ [y]) st3) (fun _ _ => False) else I (done ++ [a]) ys st2) fun _ _ => False)
    (fin : ∀ ys st, I l ys st → Pl ys st) : Ev0 (compL b c e (l.map φ) env st) Pl Y := by
  refine r_ev_compL (fun done ys st => ∃ done', done = done'.map φ ∧ (∃ rest, l = done' ++ rest) ∧ I done' ys st) ⟨[], rfl, ⟨l, rfl⟩, h0⟩ ?_ ?_
  · rintro done ys d rest st e ⟨done', rfl, ⟨r, hr⟩, hI⟩
    obtain ⟨l1, a, l2, e1, e2, e3, e4⟩ := split_map e
    have hlen : done'.length = l1.length := by simpa using congrArg List.length e2
    have hd : done' = l1 := by
      have := hr.symm.trans e1
      exact (List.append_inj this hlen).1
    subst hd
    subst e3
    have z := step done' ys a l2 st e1 hI
    cases q : b (φ a) env st with
    | none => rw [q] at z; exact z.elim
    | some p =>
      rw [q] at z
      show Ev0 (c p.1 p.2) _ _
      have z' : Ev0 (c p.1 p.2) _ _ := z
      refine z'.imp (fun t s h => ?_) fun _ _ h => h
      have mk : ∀ ys s, I (done' ++ [a]) ys s → ∃ done'', List.map φ done' ++ [φ a] = List.map φ done'' ∧ (∃ rest, l = done'' ++ rest) ∧ I done'' ys s := fun ys s h => ⟨done' ++ [a], by simp, ⟨l2, by rw [e1]; simp⟩, h⟩
      split
      · rename_i ht
        rw [if_pos ht] at h
        exact h.imp (fun y s3 h => mk _ _ h) fun _ _ h => h
      · rename_i ht
        rw [if_neg ht] at h
        exact mk _ _ h
  · rintro ys st ⟨done', e, ⟨r, hr⟩, hI⟩
    have hlen : l.length = done'.length := by simpa using congrArg List.length e
    have : r = [] := by
      have := congrArg List.length hr
      rw [List.length_append] at this
      exact List.eq_nil_of_length_eq_zero (by omega)
    subst this
    rw [List.append_nil] at hr
    subst hr
    exact fin ys st hI
end
end Sv
/-! Sv26: more rules; one word for the rules. -/
namespace Sv
open PySem PyProof.Rows
open L2 (atI ixN Key)
/-! ### fields -/
def FdG (c fl : Str) (o : D) (st : Store) (Q : D → Prop) : Prop := match o with
  | .ref n => (match st[n]? with
    | some (.ins c' fs) => c' = c ∧ ∃ d, fs.lookup fl = some d ∧ Q d
    | _ => False)
  | _ => False
/-- an instance of a class whose method is asked -/
def MtG (c m : Str) (o : D) (st : Store) (Q : Prop) : Prop := match o with
  | .ref n => (match st[n]? with
    | some (.ins c' fs) => (c' = c ∧ fs.lookup m = none) ∧ Q
    | _ => False)
  | _ => False
section
variable {α : Type} {P : D → Store → Prop} {Pl : List D → Store → Prop} {X : Ex → Store → Prop} {st : Store} {env : Sv.Env} {N B C : Sv.Env → Store → Prop} {R : D → Store → Prop} {Y : Ex → Sv.Env → Store → Prop}
theorem r_ev_fdg {c f : Str} {fo : Sv.Env → M D} : Ev0 (sFd c f fo env st) P X ↔ Ev0 (fo env st) (fun o s1 => FdG c f o s1 fun d => P d s1) X := by
  rw [r_ev_fd]
  refine iff_of_eq (congrArg (fun z => Ev0 (fo env st) z X) (funext fun o => funext fun s1 => propext ?_))
  unfold FdG
  constructor
  · rintro ⟨n, fs, d, rfl, h1, h2, h3⟩
    dsimp only
    rw [h1]
    exact ⟨rfl, d, h2, h3⟩
  · cases o with
    | ref n =>
      dsimp only
      cases h : s1[n]? with
      | none => exact fun z => z.elim
      | some ob =>
        cases ob with
        | ins c' fs =>
          rintro ⟨rfl, d, h2, h3⟩
          exact ⟨n, fs, d, rfl, h, h2, h3⟩
        | _ => exact fun z => z.elim
    | _ => exact fun z => z.elim
theorem fdg_at {c fl : Str} {n : Nat} {fs : List (Str × D)} {d : D} (h : st[n]? = some (.ins c fs)) (hl : fs.lookup fl = some d) (Q : D → Prop) : FdG c fl (.ref n) st Q ↔ Q d := by
  unfold FdG
  dsimp only
  rw [h]
  simp [hl]
theorem r_ev_mth {c m : Str} {g : Fn} {dd : List D} {fo : Sv.Env → M D} {fa : Sv.Env → M (List D)} : Ev0 (sMth c m g dd fo fa env st) P X ↔ Ev0 (fo env st) (fun o s1 => MtG c m o s1 (Ev0 (fa env s1) (fun ds s2 => Ev0 (g (o :: (ds ++ dd)) s2) P X) X)) X := by
  unfold sMth
  rw [r_ev_bnd]
  refine iff_of_eq (congrArg (fun z => Ev0 (fo env st) z X) (funext fun o => funext fun s1 => propext ?_))
  unfold MtG
  cases o with
  | ref n =>
    dsimp only
    cases h : s1[n]? with
    | none => exact Iff.rfl
    | some ob =>
      cases ob with
      | ins c' fs =>
        dsimp only
        rw [r_ev_gd, r_ev_bnd, Bool.and_eq_true, beq_iff_eq, Option.isNone_iff_eq_none]
      | _ => exact Iff.rfl
  | _ => exact Iff.rfl
theorem mtg_at {c m : Str} {n : Nat} {fs : List (Str × D)} {Q : Prop} (h : st[n]? = some (.ins c fs)) (hl : fs.lookup m = none) : MtG c m (.ref n) st Q ↔ Q := by
  unfold MtG
  dsimp only
  rw [h]
  simp [hl]
theorem r_ev_mk {c : Str} {g : Fn} {dd : List D} {fa : Sv.Env → M (List D)} : Ev0 (sMk c g dd fa env st) P X ↔ Ev0 (fa env st) (fun ds s1 => Ev0 (g (.ref s1.length :: (ds ++ dd)) (s1 ++ [.ins c []])) (fun r s2 => r = .non ∧ P (.ref s1.length) s2) X) X := by
  unfold sMk
  simp only [r_ev_bnd, r_ev_new]
  refine iff_of_eq (congrArg (fun z => Ev0 (fa env st) z X) (funext fun ds => funext fun s1 => congrArg (fun z => Ev0 (g (.ref s1.length :: (ds ++ dd)) (s1 ++ [.ins c []])) z X) (funext fun r => funext fun s2 => propext ?_)))
  cases r <;> simp [isNonO, Ev0, Sv.ret, bad]
theorem r_ev_outF {o : SOut} : Ev0 (outF o) P X ↔ Es0 o (fun _ st => P .non st) P (fun e _ st => X e st) (fun _ _ => False) (fun _ _ => False) := by
  unfold outF
  cases o <;> exact Iff.rfl
theorem r_ev_en {g : Sv.Env → M (List D)} : Ev0 (iEn g env st) Pl X ↔ Ev0 (g env st) (fun ds s => ∃ es, ds = [.tup es] ∧ Pl (enumD 0 es) s) X := by
  unfold iEn
  rw [r_ev_bnd]
  refine iff_of_eq (congrArg (fun z => Ev0 (g env st) z X) (funext fun ds => funext fun st1 => propext ?_))
  split
  · simp [Ev0, Sv.ret]
  · rename_i h
    exact ⟨fun z => z.elim, fun ⟨es, e, _⟩ => (h es e).elim⟩
theorem r_ev_z {g : Sv.Env → M (List D)} : Ev0 (iZ g env st) Pl X ↔ Ev0 (g env st) (fun ds s => (∃ as bs, ds = [.tup as, .tup bs] ∧ Pl (zipD as bs) s) ∨ ∃ as bs, ds = [.lst as, .lst bs] ∧ Pl (zipD as bs) s) X := by
  unfold iZ
  rw [r_ev_bnd]
  refine iff_of_eq (congrArg (fun z => Ev0 (g env st) z X) (funext fun ds => funext fun st1 => propext ?_))
  split
  · rename_i as bs
    refine ⟨fun z => .inl ⟨as, bs, rfl, z⟩, ?_⟩
    rintro (⟨as', bs', e, z⟩ | ⟨as', bs', e, z⟩)
    · cases e; exact z
    · cases e
  · rename_i as bs
    refine ⟨fun z => .inr ⟨as, bs, rfl, z⟩, ?_⟩
    rintro (⟨as', bs', e, z⟩ | ⟨as', bs', e, z⟩)
    · cases e
    · cases e; exact z
  · rename_i h1 h2
    refine ⟨fun z => z.elim, ?_⟩
    rintro (⟨as, bs, e, _⟩ | ⟨as, bs, e, _⟩)
    · exact (h1 _ _ e).elim
    · exact (h2 _ _ e).elim
theorem r_ev_iK {f : Sv.Env → M D} : Ev0 (iK f env st) Pl X ↔ Ev0 (f env st) (fun d s => ∃ ks vs, d = .dct ks vs ∧ Pl (ks.map keyD) s) X := by
  unfold iK
  rw [r_ev_bnd]
  refine iff_of_eq (congrArg (fun z => Ev0 (f env st) z X) (funext fun d => funext fun st1 => propext ?_))
  cases d <;> simp [Ev0, Sv.ret, bad]
theorem r_ev_iS {f : Sv.Env → M D} : Ev0 (iS f env st) Pl X ↔ Ev0 (f env st) (fun d s => ∃ x, d = .str x ∧ Pl (chars x) s) X := by
  unfold iS
  rw [r_ev_bnd]
  refine iff_of_eq (congrArg (fun z => Ev0 (f env st) z X) (funext fun d => funext fun st1 => propext ?_))
  cases d <;> simp [Ev0, Sv.ret, bad]
theorem r_ev_cv {i : Nat} {g : Fn} {fa : Sv.Env → M (List D)} : Ev0 (sCv i g fa env st) P X ↔ env[i]? = some (some .fnv) ∧ Ev0 (fa env st) (fun ds s => Ev0 (g ds s) P X) X := by
  unfold sCv
  cases h : env[i]? with
  | none => simp [Ev0]
  | some o =>
    cases o with
    | none => simp [Ev0]
    | some d =>
      cases d with
      | fnv => rw [← r_ev_bnd]; simp
      | _ => simp [Ev0]
theorem r_ev_ho {m : Fn → Fn} {np : Nat} {vs : List Nat} {fe : Sv.Env → M D} {fa : Sv.Env → M (List D)} : Ev0 (sHO m np vs fe fa env st) P X ↔ Ev0 (fa env st) (fun ds s => Ev0 (m (lamM np vs fe env) ds s) P X) X := by
  unfold sHO
  rw [r_ev_bnd]
theorem r_ev_fnH {p n : Nat} {mb : Fn → SM} {g : Fn} {ds : List D} (h : ds.length = p) : Ev0 (fnH p n mb g ds st) P X ↔ Es0 (mb g (ds.map some ++ some .fnv :: List.replicate (n - (ds.length + 1)) none) st) (fun _ st => P .non st) P (fun e _ st => X e st) (fun _ _ => False) (fun _ _ => False) := by
  unfold fnH
  rw [beq_iff_eq.mpr h]
  exact r_ev_outF
theorem r_ev_lam {np : Nat} {vs : List Nat} {fe : Sv.Env → M D} {as : List D} (h : as.length = np) : Ev0 (lamM np vs fe env as st) P X ↔ Ev0 (fe (strip (wipeE env vs) ++ as.map some) st) P X := by
  unfold lamM
  rw [beq_iff_eq.mpr h]
theorem r_ev_slT {ds : List D} {lo hi : Option Int} : Ev0 (slD (.tup ds) lo hi st) P X ↔ P (.tup (cutD ds lo hi)) st := Iff.rfl
theorem r_ev_slL {ds : List D} {lo hi : Option Int} : Ev0 (slD (.lst ds) lo hi st) P X ↔ P (.lst (cutD ds lo hi)) st := Iff.rfl
theorem r_ev_slR {n : Nat} {ds : List D} {lo hi : Option Int} (h : st[n]? = some (.lst ds)) : Ev0 (slD (.ref n) lo hi st) P X ↔ P (.lst (cutD ds lo hi)) st := by
  refine r_ev_eqn' ?_
  unfold slD
  dsimp only
  rw [h]
theorem r_ev_dict0 : Ev0 (sDict0 env st) P X ↔ P (.ref st.length) (st ++ [.dct [] []]) := Iff.rfl
theorem r_es_retN : Es0 (bRetN env st) N R Y B C ↔ R .non st := Iff.rfl
theorem r_es_break : Es0 (bBreak env st) N R Y B C ↔ B env st := Iff.rfl
theorem r_es_cont : Es0 (bCont env st) N R Y B C ↔ C env st := Iff.rfl
theorem r_es_bad : Es0 (bBad env st) N R Y B C ↔ False := Iff.rfl
theorem r_es_pass : Es0 (bPass env st) N R Y B C ↔ N env st := Iff.rfl
theorem r_ev_sbad : Ev0 (sBad env st) P X ↔ False := Iff.rfl
theorem r_ev_inK {kvs : List (Str × D)} {z : Str} : Ev0 (inKD kvs (.str z) st) P X ↔ P (.bl (kvs.lookup z).isSome) st := Iff.rfl
theorem r_ev_notInK {kvs : List (Str × D)} {z : Str} : Ev0 (notInKD kvs (.str z) st) P X ↔ P (.bl (!(kvs.lookup z).isSome)) st := Iff.rfl
theorem r_ev_ixK {kvs : List (Str × D)} {z : Str} : Ev0 (ixKD kvs (.str z) st) P X ↔ ∃ d, kvs.lookup z = some d ∧ P d st := r_ev_getO
theorem r_ev_star {f : Sv.Env → M D} {g : Sv.Env → M (List D)} : Ev0 (aStar f g env st) Pl X ↔ Ev0 (f env st) (fun d s => ∃ es, seqOf d s = some es ∧ Ev0 (g env s) (fun ds s2 => Pl (es ++ ds) s2) X) X := by
  unfold aStar
  rw [r_ev_bnd]
  refine iff_of_eq (congrArg (fun z => Ev0 (f env st) z X) (funext fun d => funext fun st1 => propext ?_))
  cases h : seqOf d st1 with
  | none => simp [Ev0]
  | some es =>
    dsimp only
    rw [r_ev_bnd]
    simp [r_ev_ret]
theorem r_es_append {fo fv : Sv.Env → M D} : Ev0 (sApp1 fo fv env st) P X ↔ Ev0 (fo env st) (fun o s => Ev0 (isLst o s) (fun _ s => Ev0 (fv env s) (fun x s => Ev0 (appD o x s) P X) X) X) X := by
  unfold sApp1
  simp only [r_ev_bnd]
theorem r_ev_isLst {n : Nat} {ds : List D} (h : st[n]? = some (.lst ds)) : Ev0 (isLst (.ref n) st) P X ↔ P (.ref n) st := by
  refine r_ev_eqn' ?_
  unfold isLst
  dsimp only
  rw [h]
theorem r_ev_appD {n : Nat} {ds : List D} {x : D} (h : st[n]? = some (.lst ds)) (hl : ds.length < 16777216) : Ev0 (appD (.ref n) x st) P X ↔ P .non (st.set n (.lst (ds ++ [x]))) := by
  have e : appD (.ref n) x st = .ok .non (st.set n (.lst (ds ++ [x]))) := by
    unfold appD
    dsimp only
    rw [h]
    dsimp only
    have e1 : decide (ds.length < sizeLine) = true := by rw [decide_eq_true_iff, sizeLine_eq]; exact hl
    rw [e1]
    rfl
  rw [e]
  exact Iff.rfl
theorem r_ev_popD {n : Nat} {ds : List D} {x : D} (h : st[n]? = some (.lst (ds ++ [x]))) : Ev0 (popD (.ref n) st) P X ↔ P x (st.set n (.lst ds)) := by
  have e : popD (.ref n) st = .ok x (st.set n (.lst ds)) := by
    unfold popD
    dsimp only
    rw [h]
    simp
  rw [e]
  exact Iff.rfl
theorem r_es_bnil2 : Es0 (bNil env st) N R Y B C ↔ N env st := Iff.rfl
/-- a suite's ends -/
theorem r_es_outH {i : Option Nat} {o : SOut} (h : Es0 o (fun e s => N (envOut i e) s) R (fun _ _ _ => False) (fun e s => B (envOut i e) s) (fun e s => C (envOut i e) s)) : Es0 (outH i o) N R Y B C := by
  cases o <;> exact h
theorem r_es_hit {h : Hd} {r : List Hd} {e : Ex} (ha : h.ans e.cls = some true) (k : Es0 (h.suite e (envIn h.slot env) st) (fun e s => N (envOut h.slot e) s) R (fun _ _ _ => False) (fun e s => B (envOut h.slot e) s) (fun e s => C (envOut h.slot e) s)) : Es0 (handleM (h :: r) e env st) N R Y B C := by
  unfold handleM
  rw [ha]
  exact r_es_outH k
theorem r_es_miss {h : Hd} {r : List Hd} {e : Ex} (ha : h.ans e.cls = some false) (k : Es0 (handleM r e env st) N R Y B C) : Es0 (handleM (h :: r) e env st) N R Y B C := by
  unfold handleM
  rw [ha]
  exact k
theorem r_es_end {e : Ex} : Es0 (handleM [] e env st) N R Y B C ↔ Y e env st := Iff.rfl
theorem r_ev_err {e : Ex} {i : Nat} {c fl : Str} {d : D} (h : env[i]? = some (some .fnv)) (he : e = ⟨c, some (fl, d)⟩) : Ev0 (sErr e i c fl env st) P X ↔ P d st := by
  subst he
  unfold sErr
  rw [h]
  dsimp only
  rw [r_ev_gd, r_ev_ret]
  simp
theorem r_isi_int_non : Ev0 (isiD (ansB "int") .non st) P X ↔ P (.bl false) st := r_ev_eqn' rfl
theorem r_isi_int_bl {b : Bool} : Ev0 (isiD (ansB "int") (.bl b) st) P X ↔ P (.bl true) st := r_ev_eqn' rfl
theorem r_isi_int_int {i : Int} : Ev0 (isiD (ansB "int") (.int i) st) P X ↔ P (.bl true) st := r_ev_eqn' rfl
theorem r_isi_int_str {x : Str} : Ev0 (isiD (ansB "int") (.str x) st) P X ↔ P (.bl false) st := r_ev_eqn' rfl
theorem r_isi_int_tup {ds : List D} : Ev0 (isiD (ansB "int") (.tup ds) st) P X ↔ P (.bl false) st := r_ev_eqn' rfl
theorem r_isi_int_lst {ds : List D} : Ev0 (isiD (ansB "int") (.lst ds) st) P X ↔ P (.bl false) st := r_ev_eqn' rfl
theorem r_isi_int_frl {ds : List D} : Ev0 (isiD (ansB "int") (.frl ds) st) P X ↔ P (.bl false) st := r_ev_eqn' rfl
theorem r_isi_int_dct {ks : List Key} {vs : List D} : Ev0 (isiD (ansB "int") (.dct ks vs) st) P X ↔ P (.bl false) st := r_ev_eqn' rfl
theorem r_isi_bool_non : Ev0 (isiD (ansB "bool") .non st) P X ↔ P (.bl false) st := r_ev_eqn' rfl
theorem r_isi_bool_bl {b : Bool} : Ev0 (isiD (ansB "bool") (.bl b) st) P X ↔ P (.bl true) st := r_ev_eqn' rfl
theorem r_isi_bool_int {i : Int} : Ev0 (isiD (ansB "bool") (.int i) st) P X ↔ P (.bl false) st := r_ev_eqn' rfl
theorem r_isi_bool_str {x : Str} : Ev0 (isiD (ansB "bool") (.str x) st) P X ↔ P (.bl false) st := r_ev_eqn' rfl
theorem r_isi_bool_tup {ds : List D} : Ev0 (isiD (ansB "bool") (.tup ds) st) P X ↔ P (.bl false) st := r_ev_eqn' rfl
theorem r_isi_bool_lst {ds : List D} : Ev0 (isiD (ansB "bool") (.lst ds) st) P X ↔ P (.bl false) st := r_ev_eqn' rfl
theorem r_isi_bool_frl {ds : List D} : Ev0 (isiD (ansB "bool") (.frl ds) st) P X ↔ P (.bl false) st := r_ev_eqn' rfl
theorem r_isi_bool_dct {ks : List Key} {vs : List D} : Ev0 (isiD (ansB "bool") (.dct ks vs) st) P X ↔ P (.bl false) st := r_ev_eqn' rfl
theorem r_isi_str_non : Ev0 (isiD (ansB "str") .non st) P X ↔ P (.bl false) st := r_ev_eqn' rfl
theorem r_isi_str_bl {b : Bool} : Ev0 (isiD (ansB "str") (.bl b) st) P X ↔ P (.bl false) st := r_ev_eqn' rfl
theorem r_isi_str_int {i : Int} : Ev0 (isiD (ansB "str") (.int i) st) P X ↔ P (.bl false) st := r_ev_eqn' rfl
theorem r_isi_str_str {x : Str} : Ev0 (isiD (ansB "str") (.str x) st) P X ↔ P (.bl true) st := r_ev_eqn' rfl
theorem r_isi_str_tup {ds : List D} : Ev0 (isiD (ansB "str") (.tup ds) st) P X ↔ P (.bl false) st := r_ev_eqn' rfl
theorem r_isi_str_lst {ds : List D} : Ev0 (isiD (ansB "str") (.lst ds) st) P X ↔ P (.bl false) st := r_ev_eqn' rfl
theorem r_isi_str_frl {ds : List D} : Ev0 (isiD (ansB "str") (.frl ds) st) P X ↔ P (.bl false) st := r_ev_eqn' rfl
theorem r_isi_str_dct {ks : List Key} {vs : List D} : Ev0 (isiD (ansB "str") (.dct ks vs) st) P X ↔ P (.bl false) st := r_ev_eqn' rfl
theorem r_isi_tuple_non : Ev0 (isiD (ansB "tuple") .non st) P X ↔ P (.bl false) st := r_ev_eqn' rfl
theorem r_isi_tuple_bl {b : Bool} : Ev0 (isiD (ansB "tuple") (.bl b) st) P X ↔ P (.bl false) st := r_ev_eqn' rfl
theorem r_isi_tuple_int {i : Int} : Ev0 (isiD (ansB "tuple") (.int i) st) P X ↔ P (.bl false) st := r_ev_eqn' rfl
theorem r_isi_tuple_str {x : Str} : Ev0 (isiD (ansB "tuple") (.str x) st) P X ↔ P (.bl false) st := r_ev_eqn' rfl
theorem r_isi_tuple_tup {ds : List D} : Ev0 (isiD (ansB "tuple") (.tup ds) st) P X ↔ P (.bl true) st := r_ev_eqn' rfl
theorem r_isi_tuple_lst {ds : List D} : Ev0 (isiD (ansB "tuple") (.lst ds) st) P X ↔ P (.bl false) st := r_ev_eqn' rfl
theorem r_isi_tuple_frl {ds : List D} : Ev0 (isiD (ansB "tuple") (.frl ds) st) P X ↔ P (.bl false) st := r_ev_eqn' rfl
theorem r_isi_tuple_dct {ks : List Key} {vs : List D} : Ev0 (isiD (ansB "tuple") (.dct ks vs) st) P X ↔ P (.bl false) st := r_ev_eqn' rfl
theorem r_isi_list_non : Ev0 (isiD (ansB "list") .non st) P X ↔ P (.bl false) st := r_ev_eqn' rfl
theorem r_isi_list_bl {b : Bool} : Ev0 (isiD (ansB "list") (.bl b) st) P X ↔ P (.bl false) st := r_ev_eqn' rfl
theorem r_isi_list_int {i : Int} : Ev0 (isiD (ansB "list") (.int i) st) P X ↔ P (.bl false) st := r_ev_eqn' rfl
theorem r_isi_list_str {x : Str} : Ev0 (isiD (ansB "list") (.str x) st) P X ↔ P (.bl false) st := r_ev_eqn' rfl
theorem r_isi_list_tup {ds : List D} : Ev0 (isiD (ansB "list") (.tup ds) st) P X ↔ P (.bl false) st := r_ev_eqn' rfl
theorem r_isi_list_lst {ds : List D} : Ev0 (isiD (ansB "list") (.lst ds) st) P X ↔ P (.bl true) st := r_ev_eqn' rfl
theorem r_isi_list_frl {ds : List D} : Ev0 (isiD (ansB "list") (.frl ds) st) P X ↔ P (.bl true) st := r_ev_eqn' rfl
theorem r_isi_list_dct {ks : List Key} {vs : List D} : Ev0 (isiD (ansB "list") (.dct ks vs) st) P X ↔ P (.bl false) st := r_ev_eqn' rfl
theorem r_isi_dict_non : Ev0 (isiD (ansB "dict") .non st) P X ↔ P (.bl false) st := r_ev_eqn' rfl
theorem r_isi_dict_bl {b : Bool} : Ev0 (isiD (ansB "dict") (.bl b) st) P X ↔ P (.bl false) st := r_ev_eqn' rfl
theorem r_isi_dict_int {i : Int} : Ev0 (isiD (ansB "dict") (.int i) st) P X ↔ P (.bl false) st := r_ev_eqn' rfl
theorem r_isi_dict_str {x : Str} : Ev0 (isiD (ansB "dict") (.str x) st) P X ↔ P (.bl false) st := r_ev_eqn' rfl
theorem r_isi_dict_tup {ds : List D} : Ev0 (isiD (ansB "dict") (.tup ds) st) P X ↔ P (.bl false) st := r_ev_eqn' rfl
theorem r_isi_dict_lst {ds : List D} : Ev0 (isiD (ansB "dict") (.lst ds) st) P X ↔ P (.bl false) st := r_ev_eqn' rfl
theorem r_isi_dict_frl {ds : List D} : Ev0 (isiD (ansB "dict") (.frl ds) st) P X ↔ P (.bl false) st := r_ev_eqn' rfl
theorem r_isi_dict_dct {ks : List Key} {vs : List D} : Ev0 (isiD (ansB "dict") (.dct ks vs) st) P X ↔ P (.bl true) st := r_ev_eqn' rfl
end
/-- the same, by what is asked of each end -/
theorem r_ev_and_mono {α : Type} {o : Out α} {P P2 : α → Store → Prop} {X X2 : Ex → Store → Prop} (h : Ev0 o P X) (hp : ∀ a st, P a st → P2 a st) (hx : ∀ e st, X e st → X2 e st) : Ev0 o P2 X2 := h.imp hp hx
end Sv
/-! Sv27: the same rules, where what an outcome has is never unfolded. -/
namespace Sv
open PySem PyProof.Rows
open L2 (atI ixN Key)
structure Ev {α : Type} (o : Out α) (P : α → Store → Prop) (X : Ex → Store → Prop) : Prop where
  raw : Ev0 o P X
structure Es (o : SOut) (N : Env → Store → Prop) (R : D → Store → Prop) (X : Ex → Env → Store → Prop) (B C : Env → Store → Prop) : Prop where
  raw : Es0 o N R X B C
theorem evx {α : Type} {o : Out α} {P : α → Store → Prop} {X : Ex → Store → Prop} : Ev o P X = Ev0 o P X := propext ⟨fun h => h.raw, fun h => ⟨h⟩⟩
theorem esx {o : SOut} {N : Env → Store → Prop} {R : D → Store → Prop} {X : Ex → Env → Store → Prop} {B C : Env → Store → Prop} : Es o N R X B C = Es0 o N R X B C := propext ⟨fun h => h.raw, fun h => ⟨h⟩⟩
section
variable {α β : Type} {P : α → Store → Prop} {P' : β → Store → Prop} {Q : D → Store → Prop} {Ql : List D → Store → Prop} {X : Ex → Store → Prop} {st : Store} {env : Env}
theorem Ev.imp {o : Out α} {P P2 : α → Store → Prop} {X X2 : Ex → Store → Prop} (h : Ev o P X) (hp : ∀ a st, P a st → P2 a st) (hx : ∀ e st, X e st → X2 e st) : Ev o P2 X2 := by
  simp only [evx, esx] at *
  exact Ev0.imp h hp hx
theorem Ev.get {o : Out α} (h : Ev o P fun _ _ => False) : ∃ a st, o = .ok a st ∧ P a st := by
  simp only [evx, esx] at *
  exact Ev0.get h
theorem ev_ok {a : α} : Ev (.ok a st) P X ↔ P a st := by
  simp only [evx, esx] at *
  exact r_ev_ok
theorem ev_ret {a : α} : Ev (Sv.ret a st) P X ↔ P a st := by
  simp only [evx, esx] at *
  exact r_ev_ret
theorem ev_bnd {x : M α} {k : α → M β} : Ev (bnd x k st) P' X ↔ Ev (x st) (fun a st' => Ev (k a st') P' X) X := by
  simp only [evx, esx] at *
  exact r_ev_bnd
theorem ev_gd {c : Bool} {x : M α} : Ev (Sv.gd c x st) P X ↔ c = true ∧ Ev (x st) P X := by
  simp only [evx, esx] at *
  exact r_ev_gd
theorem ev_con {d : D} : Ev (sCon d env st) Q X ↔ Q d st := by
  simp only [evx, esx] at *
  exact r_ev_con
theorem ev_var {i : Nat} : Ev (sVar i env st) Q X ↔ lookE env i fun d => Q d st := by
  simp only [evx, esx] at *
  exact r_ev_var
theorem ev_s1 {g : D → M D} {fa : Env → M D} : Ev (s1 g fa env st) Q X ↔ Ev (fa env st) (fun a st' => Ev (g a st') Q X) X := by
  simp only [evx, esx] at *
  exact r_ev_s1
theorem ev_s2 {g : D → D → M D} {fa fb : Env → M D} : Ev (s2 g fa fb env st) Q X ↔ Ev (fa env st) (fun a st1 => Ev (fb env st1) (fun b st2 => Ev (g a b st2) Q X) X) X := by
  simp only [evx, esx] at *
  exact r_ev_s2
theorem ev_nil : Ev (aNil env st) Ql X ↔ Ql [] st := by
  simp only [evx, esx] at *
  exact r_ev_nil
theorem ev_cons {f : Env → M D} {g : Env → M (List D)} : Ev (aCons f g env st) Ql X ↔ Ev (f env st) (fun d st1 => Ev (g env st1) (fun ds st2 => Ql (d :: ds) st2) X) X := by
  simp only [evx, esx] at *
  exact r_ev_cons
theorem ev_app {k : List D → M D} {g : Env → M (List D)} : Ev (sApp k g env st) Q X ↔ Ev (g env st) (fun ds st1 => Ev (k ds st1) Q X) X := by
  simp only [evx, esx] at *
  exact r_ev_app
theorem ev_call {m : Fn} {dd : List D} {g : Env → M (List D)} : Ev (sCl m dd g env st) Q X ↔ Ev (g env st) (fun ds st1 => Ev (m (ds ++ dd) st1) Q X) X := by
  simp only [evx, esx] at *
  exact r_ev_call
theorem ev_tup {g : Env → M (List D)} : Ev (sTup g env st) Q X ↔ Ev (g env st) (fun ds st1 => ds.length ≤ 16777216 ∧ Q (.tup ds) st1) X := by
  simp only [evx, esx] at *
  exact r_ev_tup
theorem ev_lst {g : Env → M (List D)} : Ev (sLst g env st) Q X ↔ Ev (g env st) (fun ds st1 => ds.length ≤ 16777216 ∧ Q (.lst ds) st1) X := by
  simp only [evx, esx] at *
  exact r_ev_lst
theorem ev_new {o : Ob} : Ev (new o st) Q X ↔ Q (.ref st.length) (st ++ [o]) := by
  simp only [evx, esx] at *
  exact r_ev_new
theorem ev_lstM {g : Env → M (List D)} : Ev (sLstM g env st) Q X ↔ Ev (g env st) (fun ds st1 => ds.length ≤ 16777216 ∧ Q (.ref st1.length) (st1 ++ [.lst ds])) X := by
  simp only [evx, esx] at *
  exact r_ev_lstM
theorem ev_and {fa fb : Env → M D} : Ev (sAnd fa fb env st) Q X ↔ Ev (fa env st) (fun a st1 => onB a fun b => if b = true then Ev (fb env st1) Q X else Q (.bl false) st1) X := by
  simp only [evx, esx] at *
  exact r_ev_and
theorem ev_or {fa fb : Env → M D} : Ev (sOr fa fb env st) Q X ↔ Ev (fa env st) (fun a st1 => onB a fun b => if b = true then Q (.bl true) st1 else Ev (fb env st1) Q X) X := by
  simp only [evx, esx] at *
  exact r_ev_or
theorem ev_not {fa : Env → M D} : Ev (sNot fa env st) Q X ↔ Ev (fa env st) (fun a st1 => onB a fun b => Q (.bl !b) st1) X := by
  simp only [evx, esx] at *
  exact r_ev_not
theorem ev_ite {fc fa fb : Env → M D} : Ev (sIte fc fa fb env st) Q X ↔ Ev (fc env st) (fun a st1 => onB a fun b => if b = true then Ev (fa env st1) Q X else Ev (fb env st1) Q X) X := by
  simp only [evx, esx] at *
  exact r_ev_ite
theorem ev_chain {g g' : D → D → M D} {fa fb fc : Env → M D} : Ev (sChain g g' fa fb fc env st) Q X ↔ Ev (fa env st) (fun a st1 => Ev (fb env st1) (fun b st2 => Ev (g a b st2) (fun t st3 => onB t fun t => if t = true then Ev (fc env st3) (fun c st4 => Ev (g' b c st4) Q X) X else Q (.bl false) st3) X) X) X := by
  simp only [evx, esx] at *
  exact r_ev_chain
end
section
variable {env : Env} {st : Store} {N B C : Env → Store → Prop} {R : D → Store → Prop} {X : Ex → Env → Store → Prop}
theorem es_ret {f : Env → M D} : Es (bRet f env st) N R X B C ↔ Ev (f env st) R fun e st => X e env st := by
  simp only [evx, esx] at *
  exact r_es_ret
theorem es_expr {f : Env → M D} : Es (bExpr f env st) N R X B C ↔ Ev (f env st) (fun _ st => N env st) fun e st => X e env st := by
  simp only [evx, esx] at *
  exact r_es_expr
theorem es_set {i : Nat} {f : Env → M D} : Es (bSet i f env st) N R X B C ↔ Ev (f env st) (fun d st => N (env.set i (some d)) st) fun e st => X e env st := by
  simp only [evx, esx] at *
  exact r_es_set
theorem es_nil : Es (bNil env st) N R X B C ↔ N env st := by
  simp only [evx, esx] at *
  exact r_es_nil
theorem es_cons {a b : SM} : Es (bCons a b env st) N R X B C ↔ Es (a env st) (fun env st => Es (b env st) N R X B C) R X B C := by
  simp only [evx, esx] at *
  exact r_es_cons
theorem es_if {c : Env → M D} {a b : SM} : Es (bIf c a b env st) N R X B C ↔ Ev (c env st) (fun t st => onB t fun t => if t = true then Es (a env st) N R X B C else Es (b env st) N R X B C) fun e st => X e env st := by
  simp only [evx, esx] at *
  exact r_es_if
theorem es_raise {c fl : Str} {f : Env → M D} : Es (bRaise c fl f env st) N R X B C ↔ Ev (f env st) (fun d st => X ⟨c, some (fl, d)⟩ env st) fun e st => X e env st := by
  simp only [evx, esx] at *
  exact r_es_raise
theorem Es.imp {o : SOut} {N2 B2 C2 : Env → Store → Prop} {R2 : D → Store → Prop} {X2 : Ex → Env → Store → Prop} (h : Es o N R X B C) (hn : ∀ e s, N e s → N2 e s) (hr : ∀ d s, R d s → R2 d s) (hx : ∀ x e s, X x e s → X2 x e s) (hb : ∀ e s, B e s → B2 e s) (hc : ∀ e s, C e s → C2 e s) : Es o N2 R2 X2 B2 C2 := by
  simp only [evx, esx] at *
  exact Es0.imp h hn hr hx hb hc
theorem ev_fn {p n : Nat} {b : SM} {ds : List D} {Q : D → Store → Prop} {Y : Ex → Store → Prop} (h : ds.length = p) : Ev (fnM p n b ds st) Q Y ↔ Es (b (ds.map some ++ List.replicate (n - ds.length) none) st) (fun _ st => Q .non st) Q (fun e _ st => Y e st) (fun _ _ => False) (fun _ _ => False) := by
  simp only [evx, esx] at *
  exact r_ev_fn h
theorem es_for {f : Env → M (List D)} {b : TgM} {body : SM} {ds : List D} {st1 : Store} (hf : f env st = .ok ds st1) (I : List D → Env → Store → Prop) (h0 : I [] env st1)
    (step : ∀ done d rest env st, ds = done ++ d :: rest → I done env st → ∃ env1 st1, b d env st = some (env1, st1) ∧ Es (body env1 st1) (I (done ++ [d])) R X N (I (done ++ [d]))) (fin : ∀ env st, I ds env st → N env st) : Es (bFor f b body env st) N R X B C := by
  simp only [evx, esx] at *
  exact r_es_for hf I h0 step fin
end
section
variable {env : Env} {st : Store} {N B C : Env → Store → Prop} {R : D → Store → Prop} {X : Ex → Env → Store → Prop}
theorem es_asg {f : Env → M D} {b : TgM} : Es (bAsg f b env st) N R X B C ↔ Ev (f env st) (fun d st' => Eg (b d env st') N) fun e st => X e env st := by
  simp only [evx, esx] at *
  exact r_es_asg
theorem eg_sb {fo fi : Env → M D} {d : D} : Eg (gSb fo fi d env st) N ↔ Ev (fo env st) (fun o s1 => Ev (fi env s1) (fun i s2 => Ep (putAt o i d s2) fun s3 => N env s3) fun _ _ => False) fun _ _ => False := by
  simp only [evx, esx] at *
  exact r_eg_sb
theorem es_par {is : List Nat} {g : Env → M (List D)} : Es (bPar is g env st) N R X B C ↔ Ev (g env st) (fun ds st' => ds.length = is.length ∧ N ((is.zip ds).foldl (fun e p => e.set p.1 (some p.2)) env) st') fun e st => X e env st := by
  simp only [evx, esx] at *
  exact r_es_par
end
section
variable {P : D → Store → Prop} {X : Ex → Store → Prop} {st : Store} {i j : Int} {as bs : List D} {a b : D}
theorem ev_addI : Ev (opAdd (.int i) (.int j) st) P X ↔ P (.int (i + j)) st := by
  simp only [evx, esx] at *
  exact r_ev_addI
theorem ev_subI : Ev (opSub (.int i) (.int j) st) P X ↔ P (.int (i - j)) st := by
  simp only [evx, esx] at *
  exact r_ev_subI
theorem ev_addT : Ev (opAdd (.tup as) (.tup bs) st) P X ↔ as.length + bs.length ≤ 16777216 ∧ P (.tup (as ++ bs)) st := by
  simp only [evx, esx] at *
  exact r_ev_addT
theorem ev_mulI : Ev (opMul (.int i) (.int j) st) P X ↔ (small64 i || small64 j) = true ∧ P (.int (i * j)) st := by
  simp only [evx, esx] at *
  exact r_ev_mulI
theorem ev_mulT {k : Int} : Ev (opMul (.tup as) (.int k) st) P X ↔ (!as.isEmpty && decide (2 ≤ k) && decide (k ≤ 1000) && decide (as.length ≤ 1000)) = true ∧ P (.tup (List.replicate k.toNat as).flatten) st := by
  simp only [evx, esx] at *
  exact r_ev_mulT
theorem ev_divI : Ev (opDiv (.int i) (.int j) st) P X ↔ (0 < j ∧ j < 1073741824) ∧ P (.int (i / j)) st := by
  simp only [evx, esx] at *
  exact r_ev_divI
theorem ev_modI : Ev (opMod (.int i) (.int j) st) P X ↔ 0 < j ∧ P (.int (i % j)) st := by
  simp only [evx, esx] at *
  exact r_ev_modI
theorem ev_ltI : Ev (opLt (.int i) (.int j) st) P X ↔ P (.bl (decide (i < j))) st := by
  simp only [evx, esx] at *
  exact r_ev_ltI
theorem ev_leI : Ev (opLe (.int i) (.int j) st) P X ↔ P (.bl (decide (i ≤ j))) st := by
  simp only [evx, esx] at *
  exact r_ev_leI
theorem ev_gtI : Ev (opGt (.int i) (.int j) st) P X ↔ P (.bl (decide (j < i))) st := by
  simp only [evx, esx] at *
  exact r_ev_gtI
theorem ev_geI : Ev (opGe (.int i) (.int j) st) P X ↔ P (.bl (decide (j ≤ i))) st := by
  simp only [evx, esx] at *
  exact r_ev_geI
theorem ev_eq : Ev (opEq a b st) P X ↔ (flat deepest a = true ∧ flat deepest b = true) ∧ P (.bl (eqD a b)) st := by
  simp only [evx, esx] at *
  exact r_ev_eq
theorem ev_ne : Ev (opNe a b st) P X ↔ (flat deepest a = true ∧ flat deepest b = true) ∧ P (.bl (!eqD a b)) st := by
  simp only [evx, esx] at *
  exact r_ev_ne
theorem ev_isN : Ev (opIsN a .non st) P X ↔ P (.bl (isNon a)) st := by
  simp only [evx, esx] at *
  exact r_ev_isN
theorem ev_notN : Ev (opNotN a .non st) P X ↔ P (.bl (!isNon a)) st := by
  simp only [evx, esx] at *
  exact r_ev_notN
theorem ev_getO {o : Option D} : Ev (getO o st) P X ↔ ∃ d, o = some d ∧ P d st := by
  simp only [evx, esx] at *
  exact r_ev_getO
theorem ev_ixT : Ev (ixD (.tup as) (.int i) st) P X ↔ ∃ d, atI as i = some d ∧ P d st := by
  simp only [evx, esx] at *
  exact r_ev_ixT
theorem ev_ixL : Ev (ixD (.lst as) (.int i) st) P X ↔ ∃ d, atI as i = some d ∧ P d st := by
  simp only [evx, esx] at *
  exact r_ev_ixL
theorem ev_ixF : Ev (ixD (.frl as) (.int i) st) P X ↔ ∃ d, atI as i = some d ∧ P d st := by
  simp only [evx, esx] at *
  exact r_ev_ixF
theorem ev_ixR {n : Nat} (h : st[n]? = some (.lst as)) : Ev (ixD (.ref n) (.int i) st) P X ↔ ∃ d, atI as i = some d ∧ P d st := by
  simp only [evx, esx] at *
  exact r_ev_ixR h
theorem ev_len_t : Ev (kLen [.tup as] st) P X ↔ P (.int as.length) st := by
  simp only [evx, esx] at *
  exact r_ev_len_t
theorem ev_len_l : Ev (kLen [.lst as] st) P X ↔ P (.int as.length) st := by
  simp only [evx, esx] at *
  exact r_ev_len_l
theorem ev_len_f : Ev (kLen [.frl as] st) P X ↔ P (.int as.length) st := by
  simp only [evx, esx] at *
  exact r_ev_len_f
theorem ev_int : Ev (kInt [.int i] st) P X ↔ P (.int i) st := by
  simp only [evx, esx] at *
  exact r_ev_int
theorem ev_abs : Ev (kAbs [.int i] st) P X ↔ P (.int (if i < 0 then -i else i)) st := by
  simp only [evx, esx] at *
  exact r_ev_abs
theorem ev_max : Ev (kMax2 [.int i, .int j] st) P X ↔ P (.int (if j > i then j else i)) st := by
  simp only [evx, esx] at *
  exact r_ev_max
theorem ev_min : Ev (kMin2 [.int i, .int j] st) P X ↔ P (.int (if j < i then j else i)) st := by
  simp only [evx, esx] at *
  exact r_ev_min
theorem ev_divmod : Ev (kDivmod [.int i, .int j] st) P X ↔ (0 < j ∧ j < 1073741824) ∧ P (.tup [.int (i / j), .int (i % j)]) st := by
  simp only [evx, esx] at *
  exact r_ev_divmod
theorem ev_tuple_t : Ev (kTuple [.tup as] st) P X ↔ P (.tup as) st := by
  simp only [evx, esx] at *
  exact r_ev_tuple_t
theorem ev_tuple_l : Ev (kTuple [.lst as] st) P X ↔ P (.tup as) st := by
  simp only [evx, esx] at *
  exact r_ev_tuple_l
end
section
variable {env : Env} {st : Store} {N B C : Env → Store → Prop} {R : D → Store → Prop} {X : Ex → Env → Store → Prop}
theorem es_forE {f : Env → M (List D)} {b : TgM} {body : SM} : Es (bFor f b body env st) N R X B C ↔ Ev (f env st) (fun ds st1 => Es (forL b body ds env st1) N R X B C) fun e st => X e env st := by
  simp only [evx, esx] at *
  exact r_es_forE
theorem es_loop {b : TgM} {body : SM} {ds : List D} (I : List D → Env → Store → Prop) (h0 : I [] env st)
    (step : ∀ done d rest env st, ds = done ++ d :: rest → I done env st → Eg (b d env st) fun env1 st1 => Es (body env1 st1) (I (done ++ [d])) R X N (I (done ++ [d]))) (fin : ∀ env st, I ds env st → N env st) : Es (forL b body ds env st) N R X B C := by
  simp only [evx, esx] at *
  exact r_es_loop I h0 step fin
theorem ev_r1 {g : Env → M (List D)} {P : List D → Store → Prop} {Y : Ex → Store → Prop} : Ev (iR1 g env st) P Y ↔ Ev (g env st) (fun ds st1 => ∃ j, ds = [.int j] ∧ r62 j = true ∧ P (rangeD 0 j.toNat) st1) Y := by
  simp only [evx, esx] at *
  exact r_ev_r1
theorem ev_r2 {g : Env → M (List D)} {P : List D → Store → Prop} {Y : Ex → Store → Prop} : Ev (iR2 g env st) P Y ↔ Ev (g env st) (fun ds st1 => ∃ i j, ds = [.int i, .int j] ∧ (r62 i = true ∧ r62 j = true) ∧ P (rangeD i (j - i).toNat) st1) Y := by
  simp only [evx, esx] at *
  exact r_ev_r2
theorem ev_it {f : Env → M D} {P : List D → Store → Prop} {Y : Ex → Store → Prop} : Ev (iT f env st) P Y ↔ Ev (f env st) (fun d st1 => ∃ ds, d = .tup ds ∧ P ds st1) Y := by
  simp only [evx, esx] at *
  exact r_ev_it
end
section
variable {P : D → Store → Prop} {X : Ex → Store → Prop} {st : Store}
theorem ev_sl {f : Sv.Env → M D} {lo hi : Sv.Env → M (Option Int)} {env : Sv.Env} : Ev (sSl f lo hi env st) P X ↔ Ev (f env st) (fun d s1 => Ev (lo env s1) (fun l s2 => Ev (hi env s2) (fun h s3 => Ev (slD d l h s3) P X) X) X) X := by
  simp only [evx, esx] at *
  exact r_ev_sl
theorem ev_oNone {env : Sv.Env} {Q : Option Int → Store → Prop} : Ev (oNone env st) Q X ↔ Q none st := by
  simp only [evx, esx] at *
  exact r_ev_oNone
theorem ev_oSome {f : Sv.Env → M D} {env : Sv.Env} {Q : Option Int → Store → Prop} : Ev (oSome f env st) Q X ↔ Ev (f env st) (fun d s1 => ∃ i, d = .int i ∧ Q (some i) s1) X := by
  simp only [evx, esx] at *
  exact r_ev_oSome
theorem ev_il {f : Sv.Env → M D} {env : Sv.Env} {Q : List D → Store → Prop} : Ev (iL f env st) Q X ↔ Ev (f env st) (fun d st1 => (∃ ds, d = .lst ds ∧ Q ds st1) ∨ ∃ ds, d = .frl ds ∧ Q ds st1) X := by
  simp only [evx, esx] at *
  exact r_ev_il
theorem ev_slF {ds : List D} {lo hi : Option Int} : Ev (slD (.frl ds) lo hi st) P X ↔ P (.lst (cutD ds lo hi)) st := by
  simp only [evx, esx] at *
  exact r_ev_slF
theorem ev_powI {i j : Int} : Ev (opPow (.int i) (.int j) st) P X ↔ (decide (0 ≤ j) && decide (j ≤ 1000000) && decide (i.natAbs < 2 ^ 64)) = true ∧ P (.int (i ^ j.toNat)) st := by
  simp only [evx, esx] at *
  exact r_ev_powI
end
section
variable {env : Sv.Env} {st : Store} {N B C : Sv.Env → Store → Prop} {R : D → Store → Prop} {X : Ex → Sv.Env → Store → Prop} {P : D → Store → Prop} {Y : Ex → Store → Prop}
theorem es_fd {c fl : Str} {fo fv : Sv.Env → M D} : Es (bFd c fl fo fv env st) N R X B C ↔ Ev (fv env st) (fun d s1 => Ev (fo env s1) (fun o s2 => Fd c fl d o s2 fun s3 => N env s3) fun e st => X e env st) fun e st => X e env st := by
  simp only [evx, esx] at *
  exact r_es_fd
theorem ev_fd {c f : Str} {fo : Sv.Env → M D} : Ev (sFd c f fo env st) P Y ↔ Ev (fo env st) (fun o s1 => ∃ n fs d, o = .ref n ∧ s1[n]? = some (.ins c fs) ∧ fs.lookup f = some d ∧ P d s1) Y := by
  simp only [evx, esx] at *
  exact r_ev_fd
end
section
variable {P : D → Store → Prop} {X : Ex → Store → Prop} {st : Store}
theorem ev_repr {n w : Nat} {d : D} (h : Nice n w d) (hn : n ≤ 20) (hw : w ≤ 1048576) : Ev (kRepr [d] st) P X ↔ P (.str (shownD d)) st := by
  simp only [evx, esx] at *
  exact r_ev_repr h hn hw
end
section
variable {env : Sv.Env} {st : Store} {N B C : Sv.Env → Store → Prop} {R : D → Store → Prop} {X : Ex → Sv.Env → Store → Prop}
theorem es_try {body : SM} {hs : List Hd} : Es (bTry body hs env st) N R X B C ↔ Es (body env st) N R (fun e env st => Es (handleM hs e env st) N R X B C) B C := by
  simp only [evx, esx] at *
  exact r_es_try
end
theorem eq_of_ev {α : Type} {o : Out α} {x : α} {st2 : Store} (h : Ev o (fun a s => a = x ∧ s = st2) fun _ _ => False) : o = .ok x st2 := by
  simp only [evx, esx] at *
  exact r_eq_of_ev h
theorem ev_eqn' {α : Type} {o : Out α} {a : α} {st2 : Store} {Q : α → Store → Prop} {X : Ex → Store → Prop} (h : o = .ok a st2) : Ev o Q X ↔ Q a st2 := by
  simp only [evx, esx] at *
  exact r_ev_eqn' h
section
variable {α : Type} {P : α → Store → Prop} {Pl : List D → Store → Prop} {Q : D → Store → Prop} {X : Ex → Store → Prop} {st : Store} {env : Sv.Env}
theorem ev_calmly {x : M α} : Ev (calmly x st) P X ↔ Ev (x st) P fun _ _ => False := by
  simp only [evx, esx] at *
  exact r_ev_calmly
theorem ev_comp {vs : List Nat} {fi : Sv.Env → M (List D)} {b : TgM} {c : Sv.Env → M Bool} {e : Sv.Env → M D} : Ev (sComp vs fi b c e env st) Q X ↔ Ev (fi env st) (fun ds st1 => Ev (compL b c e ds (wipeE env vs) st1) (fun ys st2 => ys.length ≤ 16777216 ∧ Q (.lst ys) st2) X) X := by
  simp only [evx, esx] at *
  exact r_ev_comp
theorem ev_compM {vs : List Nat} {fi : Sv.Env → M (List D)} {b : TgM} {c : Sv.Env → M Bool} {e : Sv.Env → M D} : Ev (sCompM vs fi b c e env st) Q X ↔ Ev (fi env st) (fun ds st1 => Ev (compL b c e ds (wipeE env vs) st1) (fun ys st2 => ys.length ≤ 16777216 ∧ Q (.ref st2.length) (st2 ++ [.lst ys])) X) X := by
  simp only [evx, esx] at *
  exact r_ev_compM
theorem ev_dict {vs : List Nat} {fi : Sv.Env → M (List D)} {b : TgM} {c : Sv.Env → M Bool} {fk fe : Sv.Env → M D} : Ev (sDict fzD vs fi b c fk fe env st) Q X ↔ Ev (fi env st) (fun ds st1 => Ev (dictL b c fk fe ds (wipeE env vs) ([], []) st1) (fun p st2 => Q (.dct p.1 p.2) st2) X) X := by
  simp only [evx, esx] at *
  exact r_ev_dict
theorem ev_dict2 {vs vs1 : List Nat} {fi fi1 : Sv.Env → M (List D)} {b b1 : TgM} {c c1 : Sv.Env → M Bool} {fk fe : Sv.Env → M D} : Ev (sDict2 fzD vs fi b c fi1 vs1 b1 c1 fk fe env st) Q X ↔ Ev (fi env st) (fun ds st1 => Ev (dictL2 b c fi1 vs1 b1 c1 fk fe ds (wipeE env vs) ([], []) st1) (fun p st2 => Q (.dct p.1 p.2) st2) X) X := by
  simp only [evx, esx] at *
  exact r_ev_dict2
theorem ev_cYes {Pb : Bool → Store → Prop} : Ev (cYes env st) Pb X ↔ Pb true st := by
  simp only [evx, esx] at *
  exact r_ev_cYes
theorem ev_cOne {Pb : Bool → Store → Prop} {f : Sv.Env → M D} : Ev (cOne f env st) Pb X ↔ Ev (f env st) (fun d s1 => onB d fun b => Pb b s1) X := by
  simp only [evx, esx] at *
  exact r_ev_cOne
theorem ev_compL {b : TgM} {c : Sv.Env → M Bool} {e : Sv.Env → M D} {ds : List D} (I : List D → List D → Store → Prop) (h0 : I [] [] st)
    (step : ∀ done ys d rest st, ds = done ++ d :: rest → I done ys st → Eg (b d env st) fun env1 st1 => Ev (c env1 st1) (fun t st2 => if t = true then Ev (e env1 st2) (fun y st3 => I (done ++ [d]) (ys ++ [y]) st3) (fun _ _ => False) else I (done ++ [d]) ys st2) fun _ _ => False)
    (fin : ∀ ys st, I ds ys st → Pl ys st) : Ev (compL b c e ds env st) Pl X := by
  simp only [evx, esx] at *
  exact r_ev_compL I h0 step fin
end
section
variable {P : D → Store → Prop} {X : Ex → Store → Prop} {st : Store}
theorem ev_sorted_l {ns : List Int} : Ev (kSorted [D.lst (ns.map D.int)] st) P X ↔ P (D.lst ((sortI ns).map D.int)) st := by
  simp only [evx, esx] at *
  exact r_ev_sorted_l
theorem ev_sorted_d {ns : List Int} {vs : List D} : Ev (kSorted [.dct (setK ns) vs] st) P X ↔ ns.length < 64 ∧ P (.lst ((sortI ns).map D.int)) st := by
  simp only [evx, esx] at *
  exact r_ev_sorted_d
theorem ev_list_dct {n : Nat} {ks : List Key} {vs : List D} (h : st[n]? = some (.dct ks vs)) : Ev (kList [.ref n] st) P X ↔ P (.lst (ks.map keyD)) st := by
  simp only [evx, esx] at *
  exact r_ev_list_dct h
theorem ev_list_dctF {ks : List Key} {vs : List D} : Ev (kList [.dct ks vs] st) P X ↔ P (.lst (ks.map keyD)) st := by
  simp only [evx, esx] at *
  exact r_ev_list_dctF
theorem ev_list_t {ds : List D} : Ev (kList [.tup ds] st) P X ↔ P (.lst ds) st := by
  simp only [evx, esx] at *
  exact r_ev_list_t
theorem ev_list_l {ds : List D} : Ev (kList [.lst ds] st) P X ↔ P (.lst ds) st := by
  simp only [evx, esx] at *
  exact r_ev_list_l
theorem ev_all {bs : List Bool} : Ev (kAll [.lst (bs.map D.bl)] st) P X ↔ P (.bl (bs.all id)) st := by
  simp only [evx, esx] at *
  exact r_ev_all
theorem ev_any {bs : List Bool} : Ev (kAny [.lst (bs.map D.bl)] st) P X ↔ P (.bl (bs.any id)) st := by
  simp only [evx, esx] at *
  exact r_ev_any
theorem ev_tupRg {n : Int} : Ev (tupRg1D (.int n) st) P X ↔ (0 ≤ n ∧ n ≤ 16777216) ∧ P (.tup (rgD 0 n)) st := by
  simp only [evx, esx] at *
  exact r_ev_tupRg
end
section
variable {α : Type} {b : TgM} {c : Sv.Env → M Bool} {e fk fe : Sv.Env → M D} {env : Sv.Env} {st : Store}
end
section
variable {α : Type} {env : Sv.Env} {st : Store} {N B C : Sv.Env → Store → Prop} {R : D → Store → Prop} {X : Ex → Sv.Env → Store → Prop} {Pl : List D → Store → Prop} {Y : Ex → Store → Prop}
theorem es_loopA {b : TgM} {body : SM} (l : List α) (φ : α → D) (I : List α → Sv.Env → Store → Prop) (h0 : I [] env st)
    (step : ∀ done a rest env st, l = done ++ a :: rest → I done env st → Eg (b (φ a) env st) fun env1 st1 => Es (body env1 st1) (I (done ++ [a])) R X N (I (done ++ [a]))) (fin : ∀ env st, I l env st → N env st) : Es (forL b body (l.map φ) env st) N R X B C := by
  simp only [evx, esx] at *
  exact r_es_loopA l φ I h0 step fin
theorem ev_compA {b : TgM} {c : Sv.Env → M Bool} {e : Sv.Env → M D} (l : List α) (φ : α → D) (I : List α → List D → Store → Prop) (h0 : I [] [] st)
    (step : ∀ done ys a rest st, l = done ++ a :: rest → I done ys st → Eg (b (φ a) env st) fun env1 st1 => Ev (c env1 st1) (fun t st2 => if t = true then Ev (e env1 st2) (fun y st3 => I (done ++ [a]) (ys ++ [y]) st3) (fun _ _ => False) else I (done ++ [a]) ys st2) fun _ _ => False)
    (fin : ∀ ys st, I l ys st → Pl ys st) : Ev (compL b c e (l.map φ) env st) Pl Y := by
  simp only [evx, esx] at *
  exact r_ev_compA l φ I h0 step fin
end
section
variable {α : Type} {P : D → Store → Prop} {Pl : List D → Store → Prop} {X : Ex → Store → Prop} {st : Store} {env : Sv.Env} {N B C : Sv.Env → Store → Prop} {R : D → Store → Prop} {Y : Ex → Sv.Env → Store → Prop}
theorem ev_fdg {c f : Str} {fo : Sv.Env → M D} : Ev (sFd c f fo env st) P X ↔ Ev (fo env st) (fun o s1 => FdG c f o s1 fun d => P d s1) X := by
  simp only [evx, esx] at *
  exact r_ev_fdg
theorem ev_mth {c m : Str} {g : Fn} {dd : List D} {fo : Sv.Env → M D} {fa : Sv.Env → M (List D)} : Ev (sMth c m g dd fo fa env st) P X ↔ Ev (fo env st) (fun o s1 => MtG c m o s1 (Ev (fa env s1) (fun ds s2 => Ev (g (o :: (ds ++ dd)) s2) P X) X)) X := by
  simp only [evx, esx] at *
  exact r_ev_mth
theorem ev_mk {c : Str} {g : Fn} {dd : List D} {fa : Sv.Env → M (List D)} : Ev (sMk c g dd fa env st) P X ↔ Ev (fa env st) (fun ds s1 => Ev (g (.ref s1.length :: (ds ++ dd)) (s1 ++ [.ins c []])) (fun r s2 => r = .non ∧ P (.ref s1.length) s2) X) X := by
  simp only [evx, esx] at *
  exact r_ev_mk
theorem ev_outF {o : SOut} : Ev (outF o) P X ↔ Es o (fun _ st => P .non st) P (fun e _ st => X e st) (fun _ _ => False) (fun _ _ => False) := by
  simp only [evx, esx] at *
  exact r_ev_outF
theorem ev_en {g : Sv.Env → M (List D)} : Ev (iEn g env st) Pl X ↔ Ev (g env st) (fun ds s => ∃ es, ds = [.tup es] ∧ Pl (enumD 0 es) s) X := by
  simp only [evx, esx] at *
  exact r_ev_en
theorem ev_z {g : Sv.Env → M (List D)} : Ev (iZ g env st) Pl X ↔ Ev (g env st) (fun ds s => (∃ as bs, ds = [.tup as, .tup bs] ∧ Pl (zipD as bs) s) ∨ ∃ as bs, ds = [.lst as, .lst bs] ∧ Pl (zipD as bs) s) X := by
  simp only [evx, esx] at *
  exact r_ev_z
theorem ev_iK {f : Sv.Env → M D} : Ev (iK f env st) Pl X ↔ Ev (f env st) (fun d s => ∃ ks vs, d = .dct ks vs ∧ Pl (ks.map keyD) s) X := by
  simp only [evx, esx] at *
  exact r_ev_iK
theorem ev_iS {f : Sv.Env → M D} : Ev (iS f env st) Pl X ↔ Ev (f env st) (fun d s => ∃ x, d = .str x ∧ Pl (chars x) s) X := by
  simp only [evx, esx] at *
  exact r_ev_iS
theorem ev_cv {i : Nat} {g : Fn} {fa : Sv.Env → M (List D)} : Ev (sCv i g fa env st) P X ↔ env[i]? = some (some .fnv) ∧ Ev (fa env st) (fun ds s => Ev (g ds s) P X) X := by
  simp only [evx, esx] at *
  exact r_ev_cv
theorem ev_ho {m : Fn → Fn} {np : Nat} {vs : List Nat} {fe : Sv.Env → M D} {fa : Sv.Env → M (List D)} : Ev (sHO m np vs fe fa env st) P X ↔ Ev (fa env st) (fun ds s => Ev (m (lamM np vs fe env) ds s) P X) X := by
  simp only [evx, esx] at *
  exact r_ev_ho
theorem ev_fnH {p n : Nat} {mb : Fn → SM} {g : Fn} {ds : List D} (h : ds.length = p) : Ev (fnH p n mb g ds st) P X ↔ Es (mb g (ds.map some ++ some .fnv :: List.replicate (n - (ds.length + 1)) none) st) (fun _ st => P .non st) P (fun e _ st => X e st) (fun _ _ => False) (fun _ _ => False) := by
  simp only [evx, esx] at *
  exact r_ev_fnH h
theorem ev_lam {np : Nat} {vs : List Nat} {fe : Sv.Env → M D} {as : List D} (h : as.length = np) : Ev (lamM np vs fe env as st) P X ↔ Ev (fe (strip (wipeE env vs) ++ as.map some) st) P X := by
  simp only [evx, esx] at *
  exact r_ev_lam h
theorem ev_slT {ds : List D} {lo hi : Option Int} : Ev (slD (.tup ds) lo hi st) P X ↔ P (.tup (cutD ds lo hi)) st := by
  simp only [evx, esx] at *
  exact r_ev_slT
theorem ev_slL {ds : List D} {lo hi : Option Int} : Ev (slD (.lst ds) lo hi st) P X ↔ P (.lst (cutD ds lo hi)) st := by
  simp only [evx, esx] at *
  exact r_ev_slL
theorem ev_slR {n : Nat} {ds : List D} {lo hi : Option Int} (h : st[n]? = some (.lst ds)) : Ev (slD (.ref n) lo hi st) P X ↔ P (.lst (cutD ds lo hi)) st := by
  simp only [evx, esx] at *
  exact r_ev_slR h
theorem ev_dict0 : Ev (sDict0 env st) P X ↔ P (.ref st.length) (st ++ [.dct [] []]) := by
  simp only [evx, esx] at *
  exact r_ev_dict0
theorem es_retN : Es (bRetN env st) N R Y B C ↔ R .non st := by
  simp only [evx, esx] at *
  exact r_es_retN
theorem es_break : Es (bBreak env st) N R Y B C ↔ B env st := by
  simp only [evx, esx] at *
  exact r_es_break
theorem es_cont : Es (bCont env st) N R Y B C ↔ C env st := by
  simp only [evx, esx] at *
  exact r_es_cont
theorem es_bad : Es (bBad env st) N R Y B C ↔ False := by
  simp only [evx, esx] at *
  exact r_es_bad
theorem es_pass : Es (bPass env st) N R Y B C ↔ N env st := by
  simp only [evx, esx] at *
  exact r_es_pass
theorem ev_sbad : Ev (sBad env st) P X ↔ False := by
  simp only [evx, esx] at *
  exact r_ev_sbad
theorem ev_inK {kvs : List (Str × D)} {z : Str} : Ev (inKD kvs (.str z) st) P X ↔ P (.bl (kvs.lookup z).isSome) st := by
  simp only [evx, esx] at *
  exact r_ev_inK
theorem ev_notInK {kvs : List (Str × D)} {z : Str} : Ev (notInKD kvs (.str z) st) P X ↔ P (.bl (!(kvs.lookup z).isSome)) st := by
  simp only [evx, esx] at *
  exact r_ev_notInK
theorem ev_ixK {kvs : List (Str × D)} {z : Str} : Ev (ixKD kvs (.str z) st) P X ↔ ∃ d, kvs.lookup z = some d ∧ P d st := by
  simp only [evx, esx] at *
  exact r_ev_ixK
theorem ev_star {f : Sv.Env → M D} {g : Sv.Env → M (List D)} : Ev (aStar f g env st) Pl X ↔ Ev (f env st) (fun d s => ∃ es, seqOf d s = some es ∧ Ev (g env s) (fun ds s2 => Pl (es ++ ds) s2) X) X := by
  simp only [evx, esx] at *
  exact r_ev_star
theorem es_append {fo fv : Sv.Env → M D} : Ev (sApp1 fo fv env st) P X ↔ Ev (fo env st) (fun o s => Ev (isLst o s) (fun _ s => Ev (fv env s) (fun x s => Ev (appD o x s) P X) X) X) X := by
  simp only [evx, esx] at *
  exact r_es_append
theorem ev_isLst {n : Nat} {ds : List D} (h : st[n]? = some (.lst ds)) : Ev (isLst (.ref n) st) P X ↔ P (.ref n) st := by
  simp only [evx, esx] at *
  exact r_ev_isLst h
theorem ev_appD {n : Nat} {ds : List D} {x : D} (h : st[n]? = some (.lst ds)) (hl : ds.length < 16777216) : Ev (appD (.ref n) x st) P X ↔ P .non (st.set n (.lst (ds ++ [x]))) := by
  simp only [evx, esx] at *
  exact r_ev_appD h hl
theorem ev_popD {n : Nat} {ds : List D} {x : D} (h : st[n]? = some (.lst (ds ++ [x]))) : Ev (popD (.ref n) st) P X ↔ P x (st.set n (.lst ds)) := by
  simp only [evx, esx] at *
  exact r_ev_popD h
theorem es_bnil2 : Es (bNil env st) N R Y B C ↔ N env st := by
  simp only [evx, esx] at *
  exact r_es_bnil2
theorem es_outH {i : Option Nat} {o : SOut} (h : Es o (fun e s => N (envOut i e) s) R (fun _ _ _ => False) (fun e s => B (envOut i e) s) (fun e s => C (envOut i e) s)) : Es (outH i o) N R Y B C := by
  simp only [evx, esx] at *
  exact r_es_outH h
theorem es_hit {h : Hd} {r : List Hd} {e : Ex} (ha : h.ans e.cls = some true) (k : Es (h.suite e (envIn h.slot env) st) (fun e s => N (envOut h.slot e) s) R (fun _ _ _ => False) (fun e s => B (envOut h.slot e) s) (fun e s => C (envOut h.slot e) s)) : Es (handleM (h :: r) e env st) N R Y B C := by
  simp only [evx, esx] at *
  exact r_es_hit ha k
theorem es_miss {h : Hd} {r : List Hd} {e : Ex} (ha : h.ans e.cls = some false) (k : Es (handleM r e env st) N R Y B C) : Es (handleM (h :: r) e env st) N R Y B C := by
  simp only [evx, esx] at *
  exact r_es_miss ha k
theorem es_end {e : Ex} : Es (handleM [] e env st) N R Y B C ↔ Y e env st := by
  simp only [evx, esx] at *
  exact r_es_end
theorem ev_err {e : Ex} {i : Nat} {c fl : Str} {d : D} (h : env[i]? = some (some .fnv)) (he : e = ⟨c, some (fl, d)⟩) : Ev (sErr e i c fl env st) P X ↔ P d st := by
  simp only [evx, esx] at *
  exact r_ev_err h he
theorem isi_int_non : Ev (isiD (ansB "int") .non st) P X ↔ P (.bl false) st := by
  simp only [evx, esx] at *
  exact r_isi_int_non
theorem isi_int_bl {b : Bool} : Ev (isiD (ansB "int") (.bl b) st) P X ↔ P (.bl true) st := by
  simp only [evx, esx] at *
  exact r_isi_int_bl
theorem isi_int_int {i : Int} : Ev (isiD (ansB "int") (.int i) st) P X ↔ P (.bl true) st := by
  simp only [evx, esx] at *
  exact r_isi_int_int
theorem isi_int_str {x : Str} : Ev (isiD (ansB "int") (.str x) st) P X ↔ P (.bl false) st := by
  simp only [evx, esx] at *
  exact r_isi_int_str
theorem isi_int_tup {ds : List D} : Ev (isiD (ansB "int") (.tup ds) st) P X ↔ P (.bl false) st := by
  simp only [evx, esx] at *
  exact r_isi_int_tup
theorem isi_int_lst {ds : List D} : Ev (isiD (ansB "int") (.lst ds) st) P X ↔ P (.bl false) st := by
  simp only [evx, esx] at *
  exact r_isi_int_lst
theorem isi_int_frl {ds : List D} : Ev (isiD (ansB "int") (.frl ds) st) P X ↔ P (.bl false) st := by
  simp only [evx, esx] at *
  exact r_isi_int_frl
theorem isi_int_dct {ks : List Key} {vs : List D} : Ev (isiD (ansB "int") (.dct ks vs) st) P X ↔ P (.bl false) st := by
  simp only [evx, esx] at *
  exact r_isi_int_dct
theorem isi_bool_non : Ev (isiD (ansB "bool") .non st) P X ↔ P (.bl false) st := by
  simp only [evx, esx] at *
  exact r_isi_bool_non
theorem isi_bool_bl {b : Bool} : Ev (isiD (ansB "bool") (.bl b) st) P X ↔ P (.bl true) st := by
  simp only [evx, esx] at *
  exact r_isi_bool_bl
theorem isi_bool_int {i : Int} : Ev (isiD (ansB "bool") (.int i) st) P X ↔ P (.bl false) st := by
  simp only [evx, esx] at *
  exact r_isi_bool_int
theorem isi_bool_str {x : Str} : Ev (isiD (ansB "bool") (.str x) st) P X ↔ P (.bl false) st := by
  simp only [evx, esx] at *
  exact r_isi_bool_str
theorem isi_bool_tup {ds : List D} : Ev (isiD (ansB "bool") (.tup ds) st) P X ↔ P (.bl false) st := by
  simp only [evx, esx] at *
  exact r_isi_bool_tup
theorem isi_bool_lst {ds : List D} : Ev (isiD (ansB "bool") (.lst ds) st) P X ↔ P (.bl false) st := by
  simp only [evx, esx] at *
  exact r_isi_bool_lst
theorem isi_bool_frl {ds : List D} : Ev (isiD (ansB "bool") (.frl ds) st) P X ↔ P (.bl false) st := by
  simp only [evx, esx] at *
  exact r_isi_bool_frl
theorem isi_bool_dct {ks : List Key} {vs : List D} : Ev (isiD (ansB "bool") (.dct ks vs) st) P X ↔ P (.bl false) st := by
  simp only [evx, esx] at *
  exact r_isi_bool_dct
theorem isi_str_non : Ev (isiD (ansB "str") .non st) P X ↔ P (.bl false) st := by
  simp only [evx, esx] at *
  exact r_isi_str_non
theorem isi_str_bl {b : Bool} : Ev (isiD (ansB "str") (.bl b) st) P X ↔ P (.bl false) st := by
  simp only [evx, esx] at *
  exact r_isi_str_bl
theorem isi_str_int {i : Int} : Ev (isiD (ansB "str") (.int i) st) P X ↔ P (.bl false) st := by
  simp only [evx, esx] at *
  exact r_isi_str_int
theorem isi_str_str {x : Str} : Ev (isiD (ansB "str") (.str x) st) P X ↔ P (.bl true) st := by
  simp only [evx, esx] at *
  exact r_isi_str_str
theorem isi_str_tup {ds : List D} : Ev (isiD (ansB "str") (.tup ds) st) P X ↔ P (.bl false) st := by
  simp only [evx, esx] at *
  exact r_isi_str_tup
theorem isi_str_lst {ds : List D} : Ev (isiD (ansB "str") (.lst ds) st) P X ↔ P (.bl false) st := by
  simp only [evx, esx] at *
  exact r_isi_str_lst
theorem isi_str_frl {ds : List D} : Ev (isiD (ansB "str") (.frl ds) st) P X ↔ P (.bl false) st := by
  simp only [evx, esx] at *
  exact r_isi_str_frl
theorem isi_str_dct {ks : List Key} {vs : List D} : Ev (isiD (ansB "str") (.dct ks vs) st) P X ↔ P (.bl false) st := by
  simp only [evx, esx] at *
  exact r_isi_str_dct
theorem isi_tuple_non : Ev (isiD (ansB "tuple") .non st) P X ↔ P (.bl false) st := by
  simp only [evx, esx] at *
  exact r_isi_tuple_non
theorem isi_tuple_bl {b : Bool} : Ev (isiD (ansB "tuple") (.bl b) st) P X ↔ P (.bl false) st := by
  simp only [evx, esx] at *
  exact r_isi_tuple_bl
theorem isi_tuple_int {i : Int} : Ev (isiD (ansB "tuple") (.int i) st) P X ↔ P (.bl false) st := by
  simp only [evx, esx] at *
  exact r_isi_tuple_int
theorem isi_tuple_str {x : Str} : Ev (isiD (ansB "tuple") (.str x) st) P X ↔ P (.bl false) st := by
  simp only [evx, esx] at *
  exact r_isi_tuple_str
theorem isi_tuple_tup {ds : List D} : Ev (isiD (ansB "tuple") (.tup ds) st) P X ↔ P (.bl true) st := by
  simp only [evx, esx] at *
  exact r_isi_tuple_tup
theorem isi_tuple_lst {ds : List D} : Ev (isiD (ansB "tuple") (.lst ds) st) P X ↔ P (.bl false) st := by
  simp only [evx, esx] at *
  exact r_isi_tuple_lst
theorem isi_tuple_frl {ds : List D} : Ev (isiD (ansB "tuple") (.frl ds) st) P X ↔ P (.bl false) st := by
  simp only [evx, esx] at *
  exact r_isi_tuple_frl
theorem isi_tuple_dct {ks : List Key} {vs : List D} : Ev (isiD (ansB "tuple") (.dct ks vs) st) P X ↔ P (.bl false) st := by
  simp only [evx, esx] at *
  exact r_isi_tuple_dct
theorem isi_list_non : Ev (isiD (ansB "list") .non st) P X ↔ P (.bl false) st := by
  simp only [evx, esx] at *
  exact r_isi_list_non
theorem isi_list_bl {b : Bool} : Ev (isiD (ansB "list") (.bl b) st) P X ↔ P (.bl false) st := by
  simp only [evx, esx] at *
  exact r_isi_list_bl
theorem isi_list_int {i : Int} : Ev (isiD (ansB "list") (.int i) st) P X ↔ P (.bl false) st := by
  simp only [evx, esx] at *
  exact r_isi_list_int
theorem isi_list_str {x : Str} : Ev (isiD (ansB "list") (.str x) st) P X ↔ P (.bl false) st := by
  simp only [evx, esx] at *
  exact r_isi_list_str
theorem isi_list_tup {ds : List D} : Ev (isiD (ansB "list") (.tup ds) st) P X ↔ P (.bl false) st := by
  simp only [evx, esx] at *
  exact r_isi_list_tup
theorem isi_list_lst {ds : List D} : Ev (isiD (ansB "list") (.lst ds) st) P X ↔ P (.bl true) st := by
  simp only [evx, esx] at *
  exact r_isi_list_lst
theorem isi_list_frl {ds : List D} : Ev (isiD (ansB "list") (.frl ds) st) P X ↔ P (.bl true) st := by
  simp only [evx, esx] at *
  exact r_isi_list_frl
theorem isi_list_dct {ks : List Key} {vs : List D} : Ev (isiD (ansB "list") (.dct ks vs) st) P X ↔ P (.bl false) st := by
  simp only [evx, esx] at *
  exact r_isi_list_dct
theorem isi_dict_non : Ev (isiD (ansB "dict") .non st) P X ↔ P (.bl false) st := by
  simp only [evx, esx] at *
  exact r_isi_dict_non
theorem isi_dict_bl {b : Bool} : Ev (isiD (ansB "dict") (.bl b) st) P X ↔ P (.bl false) st := by
  simp only [evx, esx] at *
  exact r_isi_dict_bl
theorem isi_dict_int {i : Int} : Ev (isiD (ansB "dict") (.int i) st) P X ↔ P (.bl false) st := by
  simp only [evx, esx] at *
  exact r_isi_dict_int
theorem isi_dict_str {x : Str} : Ev (isiD (ansB "dict") (.str x) st) P X ↔ P (.bl false) st := by
  simp only [evx, esx] at *
  exact r_isi_dict_str
theorem isi_dict_tup {ds : List D} : Ev (isiD (ansB "dict") (.tup ds) st) P X ↔ P (.bl false) st := by
  simp only [evx, esx] at *
  exact r_isi_dict_tup
theorem isi_dict_lst {ds : List D} : Ev (isiD (ansB "dict") (.lst ds) st) P X ↔ P (.bl false) st := by
  simp only [evx, esx] at *
  exact r_isi_dict_lst
theorem isi_dict_frl {ds : List D} : Ev (isiD (ansB "dict") (.frl ds) st) P X ↔ P (.bl false) st := by
  simp only [evx, esx] at *
  exact r_isi_dict_frl
theorem isi_dict_dct {ks : List Key} {vs : List D} : Ev (isiD (ansB "dict") (.dct ks vs) st) P X ↔ P (.bl true) st := by
  simp only [evx, esx] at *
  exact r_isi_dict_dct
end
theorem ev_and_mono {α : Type} {o : Out α} {P P2 : α → Store → Prop} {X X2 : Ex → Store → Prop} (h : Ev o P X) (hp : ∀ a st, P a st → P2 a st) (hx : ∀ e st, X e st → X2 e st) : Ev o P2 X2 := by
  simp only [evx, esx] at *
  exact r_ev_and_mono h hp hx
end Sv
/-! Sv30: -n; isinstance of a caught error. -/
namespace Sv
open PySem L2 LamX
open PyProof.Rows hiding St
def negD : D → M D
  | .int i => ret (.int (-i))
  | _ => bad
/-- what an error class must say, so that isinstance may be asked of its instances -/
def isOne (K : PySem.W.Frag) (y : Value) (C : Addr) (b : Bool) : Bool :=
  (PySem.W.clsIn K C).isSome && (He.eqO (PySem.W.findIn K (.ref C) "__getattribute__") (some (some (.builtin "BaseException.__getattribute__"))) && (He.eqO (PySem.W.findIn K (.ref C) "__getattr__") (some none) && (decide (PySem.W.subIn K (.ref C) (.type "BaseException") = some true) &&
  (He.eqO (PySem.W.findIn K (.ref C) "__class__") (some (some (.builtin "object.__class__"))) && (He.eqO (PySem.W.specialIn K (.builtin "object.__class__") "__get__") (some (some (.builtin "getset_descriptor.__get__"))) && (decide (PySem.W.takesIn K (.builtin "object.__class__") = some true) && (decide (PySem.W.mroIn K C (.type "object") = some true) && decide (PySem.W.kitOne K (.ref C) y = some b))))))))
def iseB (K : PySem.W.Frag) (l : List (Str × Bool)) (y : Value) : Bool := l.all fun p => isOne K y (He.ga K p.1) p.2
/-- isinstance(e, c) in a suite -/
def sIsE (e : Ex) (i : Nat) (l : List (Str × Bool)) : Env → M D := fun env st => match env[i]? with
  | some (some .fnv) => (match l.lookup e.cls with
    | some b => .ok (.bl b) st
    | none => .bad)
  | _ => .bad
section
variable {X : Cx} {T : Tb} {Wx : WX} {x : Str} {p pos : Pos} {a : Expr} {fa : Env → M D}
theorem se_neg (ha : SE X T Wx a fa) : SE X T Wx (.UnaryOp .USub a pos) (s1 negD fa) := by
  refine ⟨(pe_un un_neg ha.pe).imp fun σ H Q => ?_⟩
  rintro ⟨W, env, st, rl, h⟩
  refine tE_bind (k := fun _ => negD) rl h fun W1 y st1 H1 v e1 r1 rv q => ?_
  cases rv with
  | int i => exact ⟨i, rfl, q.here r1.hp (.int _)⟩
  | _ => exact q.elim
/-- the exception that the suite holds -/
def rIsE2 (K : PySem.W.Frag) (D a : Addr) (d : Option Addr) : List V → Hp → VK → Prop := fun xs H Q => ∃ (c : V) (cv : Value) (b : Bool), xs = [.ref a, c] ∧ (∀ u, RelV c u → u = cv) ∧ isOne K cv D b = true ∧ (∀ dd, d = some dd → ∃ fs, H dd = some (.xd fs)) ∧ Q (.bl b) H
theorem call_isE2 {a D : Addr} {oe : Obj} {d : Option Addr} {pn : List (Addr × Obj)} (hz : Zc (.ref D) d oe) (hf : ∃ vs, oe.data = .fields vs) : CallR (X.suite a ((a, oe) :: pn)) (.builtin "isinstance") (rIsE2 X.K D a d) := by
  intro pins s σ H xs us Q I r h
  obtain ⟨c, cv, b, rfl, hcv, e, hd, q⟩ := h
  unfold isOne at e
  obtain ⟨c1, e⟩ := He.ba e
  obtain ⟨c2, e⟩ := He.ba e
  obtain ⟨c3, e⟩ := He.ba e
  obtain ⟨c4, e⟩ := He.ba e
  obtain ⟨c5, e⟩ := He.ba e
  obtain ⟨c6, e⟩ := He.ba e
  obtain ⟨c7, e⟩ := He.ba e
  obtain ⟨c8, c9⟩ := He.ba e
  cases r with
  | cons rx rr =>
    cases rr with
    | cons rt rr =>
      cases rr
      cases rx
      have ec := hcv _ rt
      subst ec
      obtain ⟨hget, _⟩ := I.pin (a, oe) (List.mem_append.mpr (.inl List.mem_cons_self))
      obtain ⟨vs, hv⟩ := hf
      have J : ∃ od, PySem.W.InstAt s.heap a oe D od := by
        cases d with
        | none =>
          refine ⟨none, hget, hz.1, by unfold PySem.W.notCls; rw [hv] <;> rfl, ?_⟩
          rw [hz.2]
          trivial
        | some dd =>
          obtain ⟨fs, hH⟩ := hd dd rfl
          have hx : ObjOk X.prog X.w H s.heap dd (.xd fs) := I.hok dd _ hH
          obtain ⟨mA, hns, hr⟩ := hx
          obtain ⟨od, ho, hl⟩ := lookIn_ns hns
          exact ⟨some od, hget, hz.1, by unfold PySem.W.notCls; rw [hv] <;> rfl, by rw [hz.2]; exact ho⟩
      obtain ⟨od, J⟩ := J
      exact PySem.W.kia_one (PySem.W.kitx_exc c1 (He.eqO_ok c2) (He.eqO_ok c3) (of_decide_eq_true c4) (He.eqO_ok c5) (He.eqO_ok c6) (of_decide_eq_true c7) (of_decide_eq_true c8)) I.kIn J (of_decide_eq_true c9) (fun z => nomatch z) fun tk => ⟨.bl b, H, I.kept (t' := tk) fun _ _ z => z, rfl, q⟩
theorem se_isE {ad : Addr} {oe : Obj} {cls : Value} {d : Option Addr} {pn : List (Addr × Obj)} {B : Wd} {e : Ex} {n : Str} {i : Nat} {l : List (Str × Bool)} {y : Value} {c : V} {ec : Expr} {p1 p2 pos : Pos} (hl : iseB X.K l y = true) (hm : ∀ q ∈ l, X.mg q.1 = some (.ref (He.ga X.K q.1)))
    (hz : Zc cls d oe) (hf : ∃ vs, oe.data = .fields vs) (hx : ExR (Gof X T) B (fun _ => none) e cls d) (k : ∀ u, RelV c u → u = y) (hg : Gl X "isinstance") (hmi : X.mg "isinstance" = none) (hc : PE (X.suite ad ((ad, oe) :: pn)) ec (tC c))
    (hN : X.N[i]? = some n) (hv : Vis X.env.scope n) (hd : (n == ("__debug__" : Str)) = false := by decide) (hcd : (n == ("__classdict__" : Str)) = false := by decide)
    (h1 : starEach [.Name n p1, ec] X.env = (false, eval (.Name n p1) X.env) :: starEach [ec] X.env := by rfl) (h2 : starEach [ec] X.env = (false, eval ec X.env) :: starEach [] X.env := by rfl) (hpl : (backTo pos (starEach [ec] X.env)).any (·.1) = false := by rfl) :
    SE (X.suite ad ((ad, oe) :: pn)) (T.in_ B (some ad)) Wx (.Call (.Name "isinstance" p2) [.Name n p1, ec] [] pos) (sIsE e i l) := by
  obtain ⟨C', hC', hcls, hrest⟩ := hx
  subst hcls
  refine ⟨(pe_callB (X := X.suite ad ((ad, oe) :: pn)) (call_isE2 hz hf) hg hmi PyProof.Rows.boot_isinstance (pa_cons (pe_var (X := X.suite ad ((ad, oe) :: pn)) (i := i) (pos := p1) hN hv hd hcd) (pa_cons hc pa_nil h2) h1) (by decide) (by decide) h1 hpl).imp fun σ H Q => ?_⟩
  rintro ⟨W, env, st, rl, h⟩
  unfold sIsE at h
  cases q : env[i]? with
  | none => rw [q] at h; exact h.elim
  | some o =>
    cases o with
    | none => rw [q] at h; exact h.elim
    | some z =>
      cases z with
      | fnv =>
        rw [q] at h
        dsimp only at h
        cases q3 : l.lookup e.cls with
        | none => rw [q3] at h; exact h.elim
        | some b =>
          rw [q3] at h
          obtain ⟨v, e1, e2⟩ := rl.sl i .fnv q
          cases e2 with
          | v r => cases r
          | fn hw =>
            have hw2 := rl.fx ad rfl
            rw [hw2] at hw
            cases hw
            have m := PySem.mem_of_lookup q3
            have g2 := hm _ m
            rw [show X.mg e.cls = some (.ref C') from hC'] at g2
            cases g2
            have hb : isOne X.K y (He.ga X.K e.cls) b = true := List.all_eq_true.mp hl _ m
            refine ⟨.ref ad, e1, c, y, b, rfl, k, hb, fun dd hdd => ?_, Post.here h rl.hp (.bl b)⟩
            cases q2 : e.fld with
            | none =>
              rw [q2] at hrest
              rw [show d = none from hrest] at hdd
              cases hdd
            | some fx =>
              rw [q2] at hrest
              obtain ⟨f, x⟩ := fx
              obtain ⟨dd', v', k1, k2, k3⟩ := hrest
              rw [hdd] at k1
              cases k1
              have lo := rl.lo B rfl
              exact ⟨_, rl.hp.fz _ _ (lo.F _ _ k2)⟩
      | _ => rw [q] at h; exact h.elim
end
/-! ### lists put together: a new one that may change -/
def lst2Of (d : D) (st : Store) : Option (List D) := match d with
  | .lst ds => some ds
  | .ref n => match st[n]? with
    | some (.lst ds) => some ds
    | _ => none
  | _ => none
def opAddM (a b : D) : M D := fun st => match lst2Of a st, lst2Of b st with
  | some x, some y => gd (lim (x.length + y.length)) (new (.lst (x ++ y))) st
  | _, _ => .bad
section
variable {K : PySem.W.Frag} {mg : Str → Option Value} {T : Tb} {Wx : WX}
theorem lst2_at {W : Wd} {st : Store} {H : Hp} {d : D} {v : V} {ds : List D} (ok : HeapOk ⟨K, mg, T⟩ W st H) (r : RV K W d v) (h : lst2Of d st = some ds) : ∃ a xs, v = .ref a ∧ H a = some (.lst xs) ∧ RVs K W ds xs := by
  cases r with
  | lst hq r => cases h; exact ⟨_, _, rfl, ok.fz _ _ hq, r⟩
  | @ref n a hn =>
    have e' : (match st[n]? with | some (.lst ds) => some ds | _ => none) = some ds := h
    cases q : st[n]? with
    | none => rw [q] at e'; cases e'
    | some ob =>
      rw [q] at e'
      obtain ⟨a', e1, e2, _, ob'⟩ := ok.at_ q (.ref hn)
      cases e1
      cases ob with
      | lst ds =>
        cases e'
        obtain ⟨xs, h1, h2⟩ := ob'
        exact ⟨_, xs, rfl, h1, h2⟩
      | _ => cases e'
  | _ => cases h
theorem sv_addM : Serves K mg T Wx (rAddS K) opAddM := by
  intro W σ a b x y st H Q ok ra rb p
  unfold opAddM at p
  cases e1 : lst2Of a st with
  | none => rw [e1] at p; exact p.elim
  | some ds =>
    cases e2 : lst2Of b st with
    | none => rw [e1, e2] at p; exact p.elim
    | some es =>
      rw [e1, e2] at p
      obtain ⟨l, xs, rfl, hl, r⟩ := lst2_at ok ra e1
      obtain ⟨l2, zs, rfl, hb, q⟩ := lst2_at ok rb e2
      obtain ⟨c, p⟩ := Post.gd p
      refine .inr (.inl ⟨l, l2, xs, zs, rfl, rfl, hl, hb, by rw [← r.length, ← q.length]; exact of_decide_eq_true c, fun t ht => ?_⟩)
      obtain ⟨W', x, ok', r'⟩ := ok.newOb (H' := upd H t (.lst (xs ++ zs))) (o := .lst (ds ++ es)) ht (upd_keeps ht) (ok.fresh ht) fun W' x => ⟨xs ++ zs, upd_same, (r.append q).ext x⟩
      exact p W' _ x ok' _ r'
end
end Sv
/-! Sv31: a tuple once. -/
namespace L2
open PySem PySem.Spec PyProof.Rows
theorem tuple_mulSame (l : Addr) (items : Array Value) (n : Nat) (dd : Option Addr) (sl : Array (Option Value)) (x : Int) (u : Tok) (c0 : (decide (x < -(2 ^ 63)) || decide (x ≥ 2 ^ 63)) = false) (c1 : (items.isEmpty || x == 1) = true) :
    Meets (Builtin.«tuple.__mul__» ⟨[.ref l, .int x u], []⟩) (fun _ R s => s.heap.get? l = some { cls := .type "tuple", dict := dd, data := .seq items n, slots := sl } ∧
      R (.ok (.ret (Value.ref l))) s) :=
  .of_wp fun prog w A R s h => by
    obtain ⟨hp, g, d, tk, os⟩ := s
    obtain ⟨hl, h⟩ := h
    have f1 := AutoSeq1.idx_int
    wp_walk using wpAny_loadPart' hl
    repeat (first
      | (refine wpAny_ite_false (decide_eq_false (by rw [c0]; exact Bool.false_ne_true)) ?_; wp_walk using wpAny_loadPart' hl)
      | (refine wpAny_ite_true (decide_eq_true c1) ?_; wp_walk using wpAny_loadPart' hl)
      | (rw [if_pos (by decide)]; wp_walk using wpAny_loadPart' hl)
      | (rw [if_pos c1]; wp_walk using wpAny_loadPart' hl))
    exact ⟨_, rfl, h⟩
def rRep1 (K : PySem.W.Frag) : R2 := fun x y H Q => ∃ l k xs, x = .ref l ∧ y = .int k ∧ SqT K H l xs ∧ (xs = [] ∨ k = 1) ∧ -1000 ≤ k ∧ k ≤ 1000 ∧ Q (.ref l) H
section
variable {X : Cx}
theorem op_rep1 : OpR X (binaryOp .Mult) (rRep1 X.K) := by
  intro pins s σ H x y v u Q I rx ry h
  obtain ⟨l, k, xs, rfl, rfl, hT, hk, h1, h2, q⟩ := h
  cases rx
  obtain ⟨t, rfl⟩ := ry
  obtain ⟨its, r, ⟨⟨cls, dd, data, sl⟩, ho, hc, n, hd⟩, hs⟩ := I.tuple hT
  simp only at hc hd
  subst hc hd
  have c0 : (decide (k < -(2 ^ 63)) || decide (k ≥ 2 ^ 63)) = false := by
    rw [decide_eq_false (by omega), decide_eq_false (by omega)] <;> rfl
  have c1 : (its.toArray.isEmpty || k == 1) = true := by
    rcases hk with e | e
    · have hle : its.length = xs.length := r.length.symm
      rw [e] at hle
      have : its = [] := List.eq_nil_of_length_eq_zero hle
      rw [this]
      rfl
    · rw [e]
      simp
  refine wpAny_binaryOp_repeat_ref (T := "tuple") (U := "int") (by decide) ⟨_, ho, rfl⟩ (fun s' => typeIs_int s' k t) noFill_tuple_mul F.fills_int_mul F.slot_int_rmul repeat_tuple F.slot_int_index.lookup
    (call_meets F.slot_int_rmul (typeIs_int s k t) F.entry_int_rmul (F.args_int_rmul_2 _ _) (int_rmul_tuple k t l its.toArray n dd sl)
      ⟨ho, rfl, ⟨_, ho, rfl⟩, call_meets F.slot_tuple_mul ⟨_, ho, rfl⟩ F.entry_tuple_mul (F.args_tuple_mul_2 _ _) (tuple_mulSame l its.toArray n dd sl k t c0 c1) ⟨ho, ?_⟩⟩)
  exact ⟨.ref l, H, I, rfl, q⟩
end
end L2
namespace Sv
open PySem L2 LamX
open PyProof.Rows hiding St
/-- t * k, k = 1 too -/
def opMul1 : D → D → M D
  | .tup a, .int k => if k = 1 then ret (.tup a) else opMul (.tup a) (.int k)
  | a, b => opMul a b
def rMulS1 (K : PySem.W.Frag) : R2 := fun x y H Q => rMulS K x y H Q ∨ rRep1 K x y H Q
theorem op_mulS1 {X : Cx} : OpR X (binaryOp .Mult) (rMulS1 X.K) := op_mulS.or op_rep1
theorem sv_mul1 {K : PySem.W.Frag} {mg : Str → Option Value} {T : Tb} {Wx : WX} : Serves K mg T Wx (rMulS1 K) opMul1 := by
  intro W σ a b x y st H Q ok ra rb p
  by_cases h : ∃ ds, a = .tup ds ∧ b = .int 1
  · obtain ⟨ds, rfl, rfl⟩ := h
    cases ra with
    | tup h r =>
      cases rb with
      | int =>
        have p' : Post ⟨K, mg, T⟩ Wx σ W (Wpost ⟨K, mg, T⟩ Q) (ret (.tup ds) st) := p
        exact .inr ⟨_, 1, _, rfl, rfl, ok.sqT h, .inr rfl, by decide, by decide, p'.here ok (.tup h r)⟩
  · have e : opMul1 a b = opMul a b := by
      unfold opMul1
      split
      · rename_i ds k
        split
        · rename_i hk
          subst hk
          exact absurd ⟨ds, rfl, rfl⟩ h
        · rfl
      · rfl
    rw [e] at p
    exact .inl (sv_mul W σ a b x y st H Q ok ra rb p)
end Sv
/-! Sv33: == and != by an own __eq__. -/
namespace PySem.W
open PySem PySem.Spec PySem.Calls PyProof.Rows
section
variable {prog : Program} {w : World} {A : Around} {E : Value → Shared → Prop} {s : Shared} {K : Frag} {x C L f : Addr} {h₀ : Heap} {m : Str → Option Value} {ox : Obj} {od : Option Obj} {b tb : Value}
theorem cmp_neOwn {Q : Value → Shared → Prop} (hu : A.units + 1 < cLine) (F : Fr h₀ L s.heap m) (X₀ : K.In h₀) (I : InstAt s.heap x ox C od) (hb : Looks (model prog w) s.heap (typeOf b) tb) (hn : notFirst K C tb = true)
    (hne : findIn K (.ref C) "__ne__" = some (some (.builtin "object.__ne__"))) (hsub : subIn K (.ref C) (.type "object") = some true)
    (hs : findIn K (.ref C) "__eq__" = some (some (.ref f))) (hf : isFn K (.ref f) = true)
    (h : wpAny (model prog w) A.in1 (call (.ref f) [.ref x, b]) (fun v s' => ∃ r, v = .bool r ∧ Q (.bool (!r)) s') E s) : wpAny (model prog w) A (richCompare .NotEq (.ref x) b) Q E s := by
  have X := X₀.keeps F.keep
  have sub : Looks (model prog w) s.heap (isInstance (.ref x) (.type "object")) true := I.type.andThen (looks_subIn X hsub)
  have inner : ∀ {Q' : Fin → Shared → Prop}, wpAny (model prog w) A.in1 (call (.ref f) [.ref x, b]) (fun v s' => ∃ r, v = .bool r ∧ Q' (.done (.ret (.bool (!r)))) s') E s → wpAny (model prog w) A.in1 (Builtin.«object.__ne__» ⟨[.ref x, b], []⟩) Q' E s := by
    intro Q' hcall
    obtain ⟨hp, g, d, t, os⟩ := s
    unfold Builtin.«object.__ne__»
    repeat (first
      | with_reducible refine wpAny_cRoomFor hu ?_
      | (refine wpAny_bind (m := callSpecialIfBound? (.ref x) (Str.ofString "__eq__") [b])
          (ifBound_K X I hs hf (wpAny_mono hcall (fun v s' hr => by
            obtain ⟨b, rfl, hq⟩ := hr
            repeat (first | exact hq | exact wpAny_pure hq | exact wpAny_truthy_bool hq | (refine wpAny_bind (m := truthy (.bool _)) (wpAny_truthy_bool ?_)) | wp_step)) fun _ _ e => e)))
      | wp_step)
  have one : wpAny (model prog w) A (tryCompare (.ref x) "__ne__" b) (fun r s' => ∃ v, r = some v ∧ Q v s') E s := by
    unfold tryCompare
    refine wpAny_bind ?_
    simp only [callSpecialIfBound?, bindSpecialIfBound?]
    refine wpAny_holding (wpAny_bind (wpAny_bind (wpAny_bind (I.type.here ((looks_findIn X hne).here ?_)))))
    have fin : ∀ {Q' : Option Value → Shared → Prop}, (∀ v s', (∃ r, v = Value.bool r ∧ Q (.bool r) s') → Q' (some v) s') → wpAny (model prog w) A (call (.builtin "object.__ne__") ([.ref x] ++ [b]) >>= fun v => pure (some v)) Q' E s := by
      intro Q' hQ
      refine wpAny_bind (wpAny_call (codeAny_call_builtin PySem.F.cmp_object.ne.plain PySem.F.cmpEntry_ne (check_slot PySem.F.cmpKind_ne PySem.F.cmpSplit_ne sub (PySem.F.cmpArgs_ne _ _) ?_)))
      refine inner (wpAny_mono h (fun v s' hv => ?_) fun _ _ e => e)
      obtain ⟨r, rfl, hq⟩ := hv
      exact ⟨r, rfl, wpAny_pure (hQ _ _ ⟨!r, rfl, hq⟩)⟩
    have fin2 : wpAny (model prog w) A (call (.builtin "object.__ne__") ([.ref x] ++ [b]) >>= fun v => pure (some v)) (fun a s' => wpAny (model prog w) A (match a with
        | some Value.notImplemented => pure none
        | none => pure none
        | some v => pure (some v)) (fun r s' => ∃ v, r = some v ∧ Q v s') E s') E s := fin fun v s' ⟨r, e, hq⟩ => by
      subst e
      exact wpAny_pure ⟨_, rfl, hq⟩
    refine wpAny_bind (wpAny_askSetting (wpAny_ite ?_))
    have bd : bindSpecial (.builtin "object.__ne__") (.ref x) = pure (.builtin "object.__ne__", [.ref x]) := PySem.F.cmp_object.ne.bind _
    split
    · exact wpAny_bind (by rw [bd]; exact wpAny_pure (wpAny_pure fin2))
    · exact wpAny_tryCatch (wpAny_bind (by rw [bd]; exact wpAny_pure (wpAny_pure fin2)))
  unfold richCompare
  simp only [oneThing_ref]
  refine wpAny_holding (wpAny_bind (wpAny_cRoomFor (Nat.lt_of_succ_lt hu) ?_))
  refine wpAny_bind (I.type.here (wpAny_bind (hb.here ?_)))
  split
  · rename_i q
    have e : subIn K tb (.ref C) = some false := by
      rcases Bool.or_eq_true_iff.mp hn with e | e
      · rw [beq_iff_eq.mp e] at q; simp at q
      · exact beq_iff_eq.mp e
    refine wpAny_bind ((looks_subIn X e).here ?_)
    simp only [Bool.false_eq_true, if_false]
    refine wpAny_bind (wpAny_mono one (fun r s' z => ?_) fun _ _ e => e)
    obtain ⟨v, rfl, hq⟩ := z
    exact wpAny_pure hq
  · refine wpAny_bind (wpAny_pure ?_)
    simp only [Bool.false_eq_true, if_false]
    refine wpAny_bind (wpAny_mono one (fun r s' z => ?_) fun _ _ e => e)
    obtain ⟨v, rfl, hq⟩ := z
    exact wpAny_pure hq
end
end PySem.W
/-! Sv34: == and != by an own __eq__; isinstance by an own class. -/
namespace Sv
open PySem L2 LamX
open PyProof.Rows hiding St
/-- what an own class with an own __eq__ must show -/
def eqOB (K : PySem.W.Frag) (c : Str) : Bool :=
  He.eqO (PySem.W.findIn K (.ref (He.ga K c)) "__eq__") (some (some (.ref (He.ma K (He.ga K c) "__eq__")))) && (PySem.W.isFn K (.ref (He.ma K (He.ga K c) "__eq__")) && (He.eqO (PySem.W.findIn K (.ref (He.ga K c)) "__ne__") (some (some (.builtin "object.__ne__"))) && decide (PySem.W.subIn K (.ref (He.ga K c)) (.type "object") = some true)))
/-- one is an instance of the class c, the other too; g tells -/
def eqOwn (neg : Bool) (c : Str) (g : Fn) (a b : D) : M D := fun st => match a, b with
  | .ref n, .ref m => (match st[n]?, st[m]? with
    | some (.ins c1 _), some (.ins c2 _) => gd (c1 == c && c2 == c) (bnd (calmly (g [.ref n, .ref m])) fun r => match r with
      | .bl t => ret (.bl (neg ^^ t))
      | _ => bad) st
    | _, _ => .bad)
  | _, _ => .bad
def rOwn (neg : Bool) (C : Addr) (sp : Sp) : R2 := fun x y H Q => ∃ a dx fs b dy gs, x = .ref a ∧ H a = some (.ins C dx fs) ∧ y = .ref b ∧ H b = some (.ins C dy gs) ∧ sp [x, y] H (fun v H' => ∃ t, v = .bl t ∧ Q (.bl (neg ^^ t)) H') (fun _ _ _ => False)
section
variable {X : Cx} {T : Tb} {k : Nat} {f C : Addr} {fd : FuncData} {ps : List Str} {sp : Sp}
theorem fg_runA {A : Around} {pins : List (Addr × Obj)} {σ : St} {H : Hp} {s : Shared} {Q : VK} {us : List Value} {vs : List V} (F : FG X.prog X.w X.K X.mg X.base k f fd ps sp) (hr : Room k A) (hG : Quiet A) (hA : A.frames = X.A.frames) (hb : L2.Binds X.K fd ps [])
    (I : Inv X pins σ H s) (r : Vals vs us) (h : sp vs H Q fun _ _ _ => False) : wpAny (model X.prog X.w) A (call (.ref f) us) (EP X pins σ Q) X.xe s := by
  have hl : us.length = ps.length := by rw [← r.length]; exact F.len _ _ _ _ h
  have e0 : Env0 X.prog X.w X.K X.mg X.base A X.stack s H := by
    have e := I.env0
    exact ⟨by rw [hA]; exact e.frames, e.mod, e.bs, e.bsz, e.funs, e.frf, e.hok, e.bare⟩
  refine wpAny_call (codeAny_mono (F.run A X.stack s H ⟨us, []⟩ us vs Q _ hr hG e0 (by
    have := hb s us I.kIn (by simpa using hl)
    simpa using this) r h) fun r s' hq => ?_)
  cases r with
  | error e => exact (tkF (Y := X)) e s' (XE.of_call I (fun cls d H' z => z) hq)
  | ok fl =>
    cases fl with
    | ret u => exact I.after hq
    | _ => exact False.elim hq
theorem op_ownEq (F : FG X.prog X.w X.K X.mg X.base k f fd ps sp) (hr : Room (k + 1) X.A) (hG : Quiet X.A) (hb : L2.Binds X.K fd ps []) (hs : PySem.W.findIn X.K (.ref C) "__eq__" = some (some (.ref f))) (hf : PySem.W.isFn X.K (.ref f) = true) : OpR X (compareOp .Eq) (rOwn false C sp) := by
  intro pins s σ H x y v u Q I rx ry h
  obtain ⟨a, dx, fs, b, dy, gs, rfl, ha, rfl, hb', h⟩ := h
  cases rx
  cases ry
  obtain ⟨mA, J, _⟩ := ins_get I.hok ha
  obtain ⟨mB, J', _⟩ := ins_get I.hok hb'
  obtain ⟨od, J, _⟩ := J.look
  obtain ⟨od', J', _⟩ := J'.look
  obtain ⟨m, hF⟩ := I.fr
  show wpAny (model X.prog X.w) X.A (richCompare .Eq _ _) (EP X pins σ Q) X.xe s
  refine PySem.W.cmp_K (op := .Eq) (tb := .ref C) (by have := hr.un; omega) hF I.ok.mod.kin J J'.type (by simp [PySem.W.notFirst]) hs hf ?_
  refine wpAny_mono (fg_runA (vs := [.ref a, .ref b]) F (hr.mono (by omega)) hG rfl hb I (.cons rfl (.cons rfl .nil)) h) (fun r s' hq => ?_) fun _ _ e => e
  obtain ⟨z, H', I', rz, t, e, q⟩ := hq
  subst e
  cases rz
  refine ⟨.bl t, H', I', rfl, ?_⟩
  simpa using q
theorem op_ownNe (F : FG X.prog X.w X.K X.mg X.base k f fd ps sp) (hr : Room (k + 1) X.A) (hG : Quiet X.A) (hb : L2.Binds X.K fd ps []) (hs : PySem.W.findIn X.K (.ref C) "__eq__" = some (some (.ref f))) (hf : PySem.W.isFn X.K (.ref f) = true)
    (hne : PySem.W.findIn X.K (.ref C) "__ne__" = some (some (.builtin "object.__ne__"))) (hsub : PySem.W.subIn X.K (.ref C) (.type "object") = some true) : OpR X (compareOp .NotEq) (rOwn true C sp) := by
  intro pins s σ H x y v u Q I rx ry h
  obtain ⟨a, dx, fs, b, dy, gs, rfl, ha, rfl, hb', h⟩ := h
  cases rx
  cases ry
  obtain ⟨mA, J, _⟩ := ins_get I.hok ha
  obtain ⟨mB, J', _⟩ := ins_get I.hok hb'
  obtain ⟨od, J, _⟩ := J.look
  obtain ⟨od', J', _⟩ := J'.look
  obtain ⟨m, hF⟩ := I.fr
  show wpAny (model X.prog X.w) X.A (richCompare .NotEq _ _) (EP X pins σ Q) X.xe s
  refine PySem.W.cmp_neOwn (tb := .ref C) (by have := hr.un; omega) hF I.ok.mod.kin J J'.type (by simp [PySem.W.notFirst]) hne hsub hs hf ?_
  refine wpAny_mono (fg_runA (A := X.A.in1) (vs := [.ref a, .ref b]) F hr.in1 hG rfl hb I (.cons rfl (.cons rfl .nil)) h) (fun r s' hq => ?_) fun _ _ e => e
  obtain ⟨z, H', I', rz, t, e, q⟩ := hq
  subst e
  cases rz
  refine ⟨t, rfl, .bl (!t), H', I', rfl, ?_⟩
  simpa using q
theorem sv_own {Wx : WX} {neg : Bool} {c : Str} {g : Fn} (hc : X.mg c = some (.ref C)) : Serves X.K X.mg T Wx (rOwn neg C (spF (Gof X T) 2 g)) (eqOwn neg c g) := by
  intro W σ a b x y st H Q ok ra rb p
  match a, b, ra, rb, p with
  | .ref n, .ref m, ra, rb, p =>
    have p' : Post (Gof X T) Wx σ W (Wpost (Gof X T) Q) ((match st[n]?, st[m]? with
      | some (.ins c1 _), some (.ins c2 _) => gd (c1 == c && c2 == c) (bnd (calmly (g [.ref n, .ref m])) fun r => match r with
        | .bl t => ret (.bl (neg ^^ t))
        | _ => bad) st
      | _, _ => .bad : Out D)) := p
    cases e1 : st[n]? with
    | none => rw [e1] at p'; exact p'.elim
    | some o1 =>
      cases e2 : st[m]? with
      | none => rw [e1, e2] at p'; cases o1 <;> exact p'.elim
      | some o2 =>
        rw [e1, e2] at p'
        cases o1 with
        | ins c1 f1 =>
          cases o2 with
          | ins c2 f2 =>
            obtain ⟨q, p2⟩ := Post.gd p'
            rw [Bool.and_eq_true, beq_iff_eq, beq_iff_eq] at q
            obtain ⟨rfl, rfl⟩ := q
            obtain ⟨a1, C1, dx1, gs1, h1, _, h3, h4, _⟩ := ins_at (G := Gof X T) ok e1 ra
            obtain ⟨a2, C2, dx2, gs2, k1, _, k3, k4, _⟩ := ins_at (G := Gof X T) ok e2 rb
            subst h1 k1
            have z1 := h3.symm.trans hc
            cases z1
            have z2 := k3.symm.trans hc
            cases z2
            refine ⟨a1, dx1, gs1, a2, dx2, gs2, rfl, h4, rfl, k4, rfl, W, [.ref n, .ref m], st, ok.toPlain, .cons ra (.cons rb .nil), ?_⟩
            cases e3 : g [.ref n, .ref m] st with
            | bad =>
              rw [show bnd (calmly (g [.ref n, .ref m])) _ st = Out.bad from by unfold bnd calmly; rw [e3]] at p2
              exact p2.elim
            | ex e s => 
              rw [show bnd (calmly (g [.ref n, .ref m])) _ st = Out.bad from by unfold bnd calmly; rw [e3]] at p2
              exact p2.elim
            | ok r s =>
              rw [bnd_ok (show calmly (g [.ref n, .ref m]) st = .ok r s from by unfold calmly; rw [e3])] at p2
              intro W' H' v x ok' rv
              cases rv with
              | bl t => exact ⟨t, rfl, p2 W' H' x ok'.ofPlain _ (.bl _)⟩
              | _ => exact p2.elim
          | _ => exact p'.elim
        | _ => exact p'.elim
  | .non, _, _, _, p => exact p.elim
  | .bl _, _, _, _, p => exact p.elim
  | .int _, _, _, _, p => exact p.elim
  | .str _, _, _, _, p => exact p.elim
  | .tup _, _, _, _, p => exact p.elim
  | .lst _, _, _, _, p => exact p.elim
  | .frl _, _, _, _, p => exact p.elim
  | .dct _ _, _, _, _, p => exact p.elim
  | .fnv, _, _, _, p => exact p.elim
  | .ref _, .non, _, _, p => exact p.elim
  | .ref _, .bl _, _, _, p => exact p.elim
  | .ref _, .int _, _, _, p => exact p.elim
  | .ref _, .str _, _, _, p => exact p.elim
  | .ref _, .tup _, _, _, p => exact p.elim
  | .ref _, .lst _, _, _, p => exact p.elim
  | .ref _, .frl _, _, _, p => exact p.elim
  | .ref _, .dct _ _, _, _, p => exact p.elim
  | .ref _, .fnv, _, _, p => exact p.elim
theorem op_ownEqB {c : Str} (F : FG X.prog X.w X.K X.mg X.base k (He.ma X.K (He.ga X.K c) "__eq__") fd ps sp) (hr : Room (k + 1) X.A) (hG : Quiet X.A) (hb : L2.Binds X.K fd ps []) (h : eqOB X.K c = true) : OpR X (compareOp .Eq) (rOwn false (He.ga X.K c) sp) := by
  obtain ⟨h1, h⟩ := He.ba h
  obtain ⟨h2, h⟩ := He.ba h
  exact op_ownEq F hr hG hb (He.eqO_ok h1) h2
theorem op_ownNeB {c : Str} (F : FG X.prog X.w X.K X.mg X.base k (He.ma X.K (He.ga X.K c) "__eq__") fd ps sp) (hr : Room (k + 1) X.A) (hG : Quiet X.A) (hb : L2.Binds X.K fd ps []) (h : eqOB X.K c = true) : OpR X (compareOp .NotEq) (rOwn true (He.ga X.K c) sp) := by
  obtain ⟨h1, h⟩ := He.ba h
  obtain ⟨h2, h⟩ := He.ba h
  obtain ⟨h3, h4⟩ := He.ba h
  exact op_ownNe F hr hG hb (He.eqO_ok h1) h2 (He.eqO_ok h3) (of_decide_eq_true h4)
/-! ### isinstance(x, c), c an own class -/
def tyNames : List String := ["NoneType", "bool", "int", "str", "tuple", "list", "dict"]
def isoB (K : PySem.W.Frag) (c : Str) : Bool := tyNames.all (fun t => decide (PySem.W.kitOne K (.type t) (.ref (He.ga K c)) = some false)) && (decide (PySem.W.kitOne K (.ref (He.ga K c)) (.ref (He.ga K c)) = some true) && insTyB K c)
def ansO (c : Str) : Ty → Option Bool
  | .inl t => if tyNames.contains t then some false else none
  | .inr c' => if c' = c then some true else none
theorem isiO {c : Str} (h : isoB X.K c = true) (cl : Cls X.K (He.ga X.K c)) (hm : X.mg c = some (.ref (He.ga X.K c))) : IsiOk X (.ref (He.ga X.K c)) (ansO c) := by
  obtain ⟨h1, h⟩ := He.ba h
  obtain ⟨h2, h3⟩ := He.ba h
  refine ⟨fun t b e => ?_, fun c' b C e g => ?_⟩
  · unfold ansO at e
    dsimp only at e
    split at e
    · rename_i q
      cases e
      exact of_decide_eq_true (List.all_eq_true.mp h1 t (by simpa using q))
    · cases e
  · unfold ansO at e
    dsimp only at e
    split at e
    · rename_i q
      cases e
      subst q
      rw [hm] at g
      cases g
      exact ⟨of_decide_eq_true h2, insTy cl h3⟩
    · cases e
end
end Sv
/-! Sv35: methods called by keywords alone, in the parameters' order. -/
namespace Sv
open PySem L2 LamX
open PyProof.Rows hiding St
structure SK (X : Cx) (T : Tb) (Wx : WX) (kws : List Keyword) (f : Env → M (List D)) : Prop where
  pk : PK X kws (tA (Gof X T) Wx f)
theorem _root_.L2.PK.imp {X : Cx} {e : List Keyword} {t t' : TA} (h : PK X e t) (i : ∀ σ H Q, t' σ H Q → t σ H Q) : PK X e t' := ⟨fun pos pins s σ H Q I k => h.run pos pins s σ H Q I (i _ _ _ k)⟩
section
variable {X : Cx} {T : Tb} {Wx : WX} {k : Nat} {f C : Addr} {fd : FuncData} {ps ks : List Str} {sp : Sp} {g : Fn} {x m : Str} {p pos apos kpos : Pos} {e o : Expr} {es : List Expr} {kws : List Keyword} {ta : TE} {t tk0 : TA} {fo fe : Env → M D} {fk : Env → M (List D)} {nm : Option Str}
theorem sk_nil : SK X T Wx [] aNil := by
  refine ⟨pk_nil.imp fun σ H Q => ?_⟩
  rintro ⟨W, env, st, rl, h⟩
  exact h W H (Ext.refl _) rl.hp [] .nil
theorem sk_cons (ha : SE X T Wx e fe) (hr : SK X T Wx kws fk) : SK X T Wx (⟨nm, e, kpos⟩ :: kws) (aCons fe fk) := by
  refine ⟨(pk_cons ha.pe hr.pk).imp fun σ H Q => ?_⟩
  rintro ⟨W, env, st, rl, h⟩
  refine tE_bind (k := fun env d => bnd (fk env) fun ds => ret (d :: ds)) rl h fun W1 d st1 H1 v e1 r1 rv p => ?_
  refine tA_bind (k := fun _ ds => ret (d :: ds)) r1 p fun W2 ds st2 H2 vs e2 r2 rvs p2 => ?_
  exact p2 W2 H2 (Ext.refl _) r2.hp (v :: vs) (.cons (rv.ext e2) rvs)
/-- how such a call binds -/
def KB1 (K : PySem.W.Frag) (fd : FuncData) (ps ks : List Str) : Prop := ∀ (s : Shared) (u : Value) (ws : List Value), K.In s.heap → ws.length = ks.length → BindsTo s fd ⟨[u], ks.zip ws⟩ (ps.zip (u :: ws))
theorem fg_runK {pins : List (Addr × Obj)} {σ : St} {H : Hp} {s : Shared} {Q : VK} {u : Value} {v : V} {ws : List Value} {zs : List V} (F : FG X.prog X.w X.K X.mg X.base k f fd ps sp) (hr : Room k X.A) (hG : Quiet X.A) (hb : KB1 X.K fd ps ks) (hl : ps.length = ks.length + 1) (tk : Takes X Wx)
    (I : Inv X pins σ H s) (rv : RelV v u) (r : Vals zs ws) (h : sp (v :: zs) H Q fun c d H2 => Wx c d σ H2) : wpAny (model X.prog X.w) X.A (call (.ref f) [u] (ks.zip ws)) (EP X pins σ Q) X.xe s := by
  have r2 : Vals (v :: zs) (u :: ws) := .cons rv r
  have l1 := F.len _ _ _ _ h
  have l2 : ws.length = ks.length := by
    rw [← r.length]
    rw [List.length_cons] at l1
    omega
  refine wpAny_call (codeAny_mono (F.run X.A X.stack s H ⟨[u], ks.zip ws⟩ (u :: ws) (v :: zs) Q _ hr hG I.env0 (hb s u ws I.kIn l2) r2 h) fun r s' hq => ?_)
  cases r with
  | error e => exact tk e s' (XE.of_call I (fun cls d H' z => z) hq)
  | ok fl =>
    cases fl with
    | ret u => exact I.after hq
    | _ => exact False.elim hq
theorem fg_methK {pl : Sem Bool} (he : PE X o ta) (c : Cls X.K C) (hm : Meth X.K C m f) (F : FG X.prog X.w X.K X.mg X.base k f fd ps sp) (hr : Room k X.A) (hG : Quiet X.A) (hb : KB1 X.K fd ps ks) (hl : ps.length = ks.length + 1) (tk : Takes X Wx) (hkw : PK X kws tk0)
    (hall : (backToKw pos (keywordEach kws X.env)).all (·.1.isSome) = true := by rfl) (hks : (backToKw pos (keywordEach kws X.env)).filterMap (·.1) = ks := by rfl)
    (hpl : ((backTo pos (starEach [] X.env)).any (·.1) || (backToKw pos (keywordEach kws X.env)).any (·.1.isNone)) = false := by rfl)
    (ht : eval (.Call (.Attribute o m apos) [] kws pos) X.env = (do
      let ov ← eval o X.env
      standAt apos.atName
      let (f, first) ← holding [ov] (getMethod ov m pl)
      callWith pos f first (backTo pos (starEach [] X.env)) (backToKw pos (keywordEach kws X.env))) := by rfl) :
    PE X (.Call (.Attribute o m apos) [] kws pos) (tMth C m sp Wx [] ta tk0) := by
  refine ⟨fun pins s σ H Q I h => ?_⟩
  refine PySem.W.methodCall_KW (pl := pl) (thn (he.run pins s σ H _ I h) fun u s1 ⟨x, H1, I1, rx, a, dx, fs, ex, ea, l, q⟩ => ?_) ht
  subst ex
  obtain rfl : u = Value.ref a := rx
  refine getmeth_ok I1 ea c hm l ?_
  refine PySem.W.callWith_KW0 (first := [.ref a]) (h₀ := X.base) I.ok.mod.kin hm.kp hall ?_ hpl
  refine thn (hkw.run pos pins s1 σ H1 _ I1 q) fun ws s2 ⟨zs, H2, I2, rz, q2⟩ => ⟨I2.kIn, ?_⟩
  rw [hks]
  have q3 : sp (V.ref a :: zs) H2 Q fun c d H3 => Wx c d σ H3 := by simpa using q2
  exact fg_runK (v := .ref a) F hr hG hb hl tk I2 rfl rz q3
theorem se_methK {pl : Sem Bool} {c : Str} (he : SE X T Wx o fo) (hcn : X.mg c = some (.ref C)) (hc : Cls X.K C) (hm : Meth X.K C m f) (F : FX X T k f fd ps g) (hr : Room k X.A) (hG : Quiet X.A) (hb : KB1 X.K fd ps ks) (hl : ps.length = ks.length + 1) (tk : Takes X Wx) (ha : SK X T Wx kws fk)
    (hall : (backToKw pos (keywordEach kws X.env)).all (·.1.isSome) = true := by rfl) (hks : (backToKw pos (keywordEach kws X.env)).filterMap (·.1) = ks := by rfl)
    (hpl : ((backTo pos (starEach [] X.env)).any (·.1) || (backToKw pos (keywordEach kws X.env)).any (·.1.isNone)) = false := by rfl)
    (ht : eval (.Call (.Attribute o m apos) [] kws pos) X.env = (do
      let ov ← eval o X.env
      standAt apos.atName
      let (f, first) ← holding [ov] (getMethod ov m pl)
      callWith pos f first (backTo pos (starEach [] X.env)) (backToKw pos (keywordEach kws X.env))) := by rfl) :
    SE X T Wx (.Call (.Attribute o m apos) [] kws pos) (sMth c m g [] fo fk) :=
  ⟨(fg_methK he.pe hc hm F.fg hr hG hb hl tk ha.pk hall hks hpl ht).imp fun _ _ _ h => mth_go hcn (dvs := []) (fun _ _ => .nil) F.ar (fun _ _ _ z => z) h⟩
end
theorem FunD.kb1 {K : PySem.W.Frag} {x qual : Str} {params : Arguments} {body : List Stmt} {scope : Scope} {f : Addr} {fd : FuncData} {ps ks : List Str} {kws : List (Str × V)} (F : FunD K x qual params body scope [] kws f fd)
    (h : ∀ (kV doc pm : Value) (an : Option Addr) (cdv ct : Value) (u : Value) (ws : List Value), ws.length = ks.length → bindArgs (PySem.W.fnOf x qual params body scope .none kV doc pm an cdv ct) ⟨[u], ks.zip ws⟩ = pure (ps.zip (u :: ws))) : KB1 K fd ps ks := by
  obtain ⟨oc, od, dV, kV, doc, pm, an, cdv, ct, osl, rfl, lk, hcd, hD, hK⟩ := F.ex
  rcases hD with ⟨_, rfl⟩ | ⟨e, _⟩
  · exact fun s u ws _ hl => .of_eq (h kV doc pm an cdv ct u ws hl)
  · exact absurd rfl e
end Sv
/-! Sv36: raise of a class without own __init__; lists of the store seen as data; for over them; slices that may change. -/
namespace Sv
open PySem L2 LamX
open PyProof.Rows hiding St
/-! ### raise C() -/
def bRaise0 (c : Str) : SM := fun env st => .ex ⟨c, none⟩ env st
def exc0B (K : PySem.W.Frag) (c : Str) : Bool := PySem.W.excIn K (He.ga K c) [.type "ValueError", .type "Exception", .type "BaseException", .type "object"] "ValueError.__new__" && (PySem.W.keepIn K (.ref (He.ga K c)) && (decide (PySem.W.subIn K (.ref (He.ga K c)) (.type "BaseException") = some true) && decide (PySem.W.typeIn K (.ref (He.ga K c)) = some (.type "type"))))
section
variable {X : Cx} {T : Tb} {Wx : WX}
theorem pmk_own00 {C : Addr} {bmB : List Value} {B newId initId : String} {x : Str} {p pos : Pos} (F : ExcBaseFacts B newId initId bmB) (q : PySem.W.excIn X.K C bmB newId = true) (gC : X.mg x = some (.ref C)) (kC : PySem.W.keepIn X.K (.ref C) = true) (r : Raises X (.ref C)) (hg : Gl X x)
    (hdb : (x == ("__debug__" : Str)) = false := by decide) : PMk X (.Call (.Name x p) [] [] pos) (fun _ H Q => Q (.ref C) none H) := by
  intro pins s σ H Q I h
  refine wpAny_Call_Name_kw (ld_glob I hg gC ?_ hdb)
  refine PySem.W.callWith_K0 I.kIn kC ?_
  show wpAny _ _ (call (.ref C) []) _ _ _
  obtain ⟨bm, N, nm, qn, bs, hdct, sn, sub, ab, col, dd, k0, k1, k2, k3, k5, mN, hC, hN, hni, T⟩ := exc_obj I.kIn q
  refine wpAny_call_exc_subT F T hC hN hni (fun h' e hm => ?_) (Nat.zero_le _)
  exact mk_of I hm r h (I.hok.gone hm.new)
theorem ss_raise0 {x : Str} {p pos pos2 : Pos} (hc : X.calm = true) (h : exc0B X.K x = true) (gC : X.mg x = some (.ref (He.ga X.K x))) (tk : Takes X Wx) (hg : Gl X x) (hdb : (x == ("__debug__" : Str)) = false := by decide) :
    SS X T Wx (.Raise (some (.Call (.Name x p) [] [] pos)) none pos2) (bRaise0 x) := by
  obtain ⟨h1, h⟩ := He.ba h
  obtain ⟨h2, h⟩ := He.ba h
  obtain ⟨h3, h4⟩ := He.ba h
  refine ⟨(ps_raise hc tk (pmk_own00 PySem.F.excBase_ValueError h1 gC h2 (raises_own (of_decide_eq_true h3) (of_decide_eq_true h4)) hg hdb)).imp fun D σ H => ?_⟩
  rintro ⟨W, env, st, rl, h⟩
  exact h W σ H (.ref (He.ga X.K x)) none (Ext.refl _) rl ⟨He.ga X.K x, gC, rfl, rfl⟩
end
/-! ### lists of the store as data -/
def reify (st : Store) : Nat → D → D
  | 0, d => d
  | n + 1, .ref k => match st[k]? with
    | some (.lst ds) => .lst (ds.map (reify st n))
    | _ => .ref k
  | n + 1, .tup ds => .tup (ds.map (reify st n))
  | n + 1, .lst ds => .lst (ds.map (reify st n))
  | n + 1, .frl ds => .frl (ds.map (reify st n))
  | _ + 1, d => d
theorem reify_dp {G : Gd} {W : Wd} {st : Store} {H : Hp} (ok : HeapOk G W st H) : ∀ (n m : Nat) (d : D) (v : V), RV G.K W d v → flat m (reify st n d) = true → Dp G.K H v (toP (reify st n d))
  | 0, m, d, v, r, h => r.dp ok.fz m d v (by simpa [reify] using h)
  | n + 1, m, d, v, r, h => by
    have all : ∀ (m : Nat) (ds : List D) (vs : List V), RVs G.K W ds vs → flats m (ds.map (reify st n)) = true → DpAll G.K H vs (toPs (ds.map (reify st n))) := by
      intro m ds vs r
      induction ds generalizing vs with
      | nil => intro _; cases r; exact .nil
      | cons d ds ih =>
        intro h
        cases r with
        | cons r t =>
          have h' : flat m (reify st n d) = true ∧ flats m (ds.map (reify st n)) = true := by simpa [flats] using h
          exact .cons (reify_dp ok n m d _ r h'.1) (ih _ t h'.2)
    cases r with
    | non => exact .non
    | bl b => exact .bl b
    | int i => exact .int i
    | str x => exact .str x
    | tup q r =>
      cases m with
      | zero => simp [reify, flat] at h
      | succ m => exact .tup (ok.sqT q) (all m _ _ r (by simpa [reify, flat] using h))
    | lst q r =>
      cases m with
      | zero => simp [reify, flat] at h
      | succ m => exact .lst (.inl (.inl (ok.fz _ _ q))) (all m _ _ r (by simpa [reify, flat] using h))
    | frl q r =>
      cases m with
      | zero => simp [reify, flat] at h
      | succ m => exact .lst (ok.sqL q) (all m _ _ r (by simpa [reify, flat] using h))
    | dct q r => cases m <;> simp [reify, flat] at h
    | @ref k a hk =>
      have e0 : reify st (n + 1) (.ref k) = match st[k]? with
        | some (.lst ds) => .lst (ds.map (reify st n))
        | _ => .ref k := rfl
      cases e : st[k]? with
      | none => rw [e0, e] at h; cases m <;> simp [flat] at h
      | some ob =>
        cases ob with
        | lst ds =>
          rw [e0, e] at h ⊢
          obtain ⟨a', e1, e2, _, xs, h1, h2⟩ := ok.at_ e (.ref hk)
          cases e1
          cases m with
          | zero => simp [flat] at h
          | succ m => exact .lst (.inl (.inl h1)) (all m _ _ h2 (by simpa [flat] using h))
        | dct ks vs => rw [e0, e] at h; cases m <;> simp [flat] at h
        | ins c fs => rw [e0, e] at h; cases m <;> simp [flat] at h
def opEqR (a b : D) : M D := fun st => gd (flat deepest (reify st 5 a) && flat deepest (reify st 5 b)) (ret (.bl (eqD (reify st 5 a) (reify st 5 b)))) st
def opNeR (a b : D) : M D := fun st => gd (flat deepest (reify st 5 a) && flat deepest (reify st 5 b)) (ret (.bl (!eqD (reify st 5 a) (reify st 5 b)))) st
def reprDR (d : D) : M D := fun st => reprD (reify st 5 d) st
def kReprR : List D → M D := k1 reprDR
section
variable {K : PySem.W.Frag} {mg : Str → Option Value} {T : Tb} {Wx : WX}
theorem sv_eqR : Serves K mg T Wx (rEqD K) opEqR := by
  intro W σ a b x y st H Q ok ra rb p
  obtain ⟨c, p⟩ := Post.gd p
  rw [Bool.and_eq_true] at c
  exact ⟨toP (reify st 5 a), toP (reify st 5 b), reify_dp ok _ _ _ _ ra c.1, reify_dp ok _ _ _ _ rb c.2, flat_shaped c.1 (by decide), flat_shaped c.2 (by decide), p.here ok (.bl _)⟩
theorem sv_neR : Serves K mg T Wx (rNeD K) opNeR := by
  intro W σ a b x y st H Q ok ra rb p
  obtain ⟨c, p⟩ := Post.gd p
  rw [Bool.and_eq_true] at c
  exact ⟨toP (reify st 5 a), toP (reify st 5 b), reify_dp ok _ _ _ _ ra c.1, reify_dp ok _ _ _ _ rb c.2, flat_shaped c.1 (by decide), flat_shaped c.2 (by decide), p.here ok (.bl _)⟩
theorem sc_reprR : ServesC K mg T Wx (rRepr K) kReprR := sc1 fun W σ d v st H Q ok r p => by
  have p' : Post ⟨K, mg, T⟩ Wx σ W (Wpost ⟨K, mg, T⟩ Q) (reprD (reify st 5 d) st) := p
  obtain ⟨c, p⟩ := Post.gd p'
  rw [Bool.and_eq_true, Bool.and_eq_true] at c
  have hd := flat_depth deepest _ c.1.1
  exact ⟨v, toP (reify st 5 d), rfl, reify_dp ok _ _ _ _ r c.1.1, c.1.2, lay_noDict _ (flat_lay deepest _ c.1.1), Nat.le_trans hd (by decide), of_decide_eq_true c.2, p.here ok (.str _)⟩
/-- s[lo:hi] of a list, that may change -/
def slDM (d : D) (lo hi : Option Int) : M D := fun st => match lst2Of d st with
  | some ds => new (.lst (cutD ds lo hi)) st
  | none => .bad
def sSlM (f : Env → M D) (lo hi : Env → M (Option Int)) : Env → M D := fun env => bnd (f env) fun d => bnd (lo env) fun l => bnd (hi env) fun h => slDM d l h
end
section
variable {X : Cx} {T : Tb} {Wx : WX}
theorem se_sliceM {e : Expr} {lo hi : Option Expr} {f : Env → M D} {fl fh : Env → M (Option Int)} {p2 pos : Pos} (he : SE X T Wx e f) (hl : SO X T Wx lo fl) (hh : SO X T Wx hi fh) : SE X T Wx (.Subscript e (.Slice lo hi none p2) pos) (sSlM f fl fh) := by
  refine ⟨(pe_slice sl_all he.pe hl.po hh.po).imp fun σ H Q => ?_⟩
  rintro ⟨W, env, st, rl, h⟩
  refine tE_bind (k := fun env d => bnd (fl env) fun l => bnd (fh env) fun h => slDM d l h) rl h fun W1 d st1 H1 v e1 r1 rv p => ?_
  refine ⟨W1, env, st1, r1, Post.imp (k := fun l => bnd (fh env) fun h => slDM d l h) p fun W2 l st2 H2 e2 ok2 p2 => ?_⟩
  refine ⟨W2, env, st2, r1.ext e2 ok2, Post.imp (k := fun h => slDM d l h) p2 fun W3 u st3 H3 e3 ok3 p3 => ?_⟩
  have p4 : Post (Gof X T) Wx σ W3 (Wpost (Gof X T) Q) (match lst2Of d st3 with | some ds => new (.lst (cutD ds l u)) st3 | none => .bad) := p3
  cases q : lst2Of d st3 with
  | none => rw [q] at p4; exact p4.elim
  | some ds =>
    rw [q] at p4
    obtain ⟨a, xs, rfl, h1, h2⟩ := lst2_at (K := X.K) (mg := X.mg) (T := T) ok3 (rv.ext (e2.trans e3)) q
    refine .inr (.inl ⟨_, _, rfl, .inl (.inl h1), fun q hq2 => ?_⟩)
    obtain ⟨W', x, ok', r'⟩ := ok3.newOb (H' := upd H3 q (.lst (cutV xs l u))) (o := .lst (cutD ds l u)) hq2 (upd_keeps hq2) (ok3.fresh hq2) fun W' x => ⟨cutV xs l u, upd_same, (h2.cut l u).ext x⟩
    exact p4 W' _ x ok' _ r'
/-! ### for over a list of the store -/
def forRL (n : Nat) (b : TgM) (body : SM) : Nat → Nat → SM
  | 0, _ => fun _ _ => .bad
  | k + 1, i => fun env st => match st[n]? with
    | some (.lst ds) => (match ds[i]? with
      | none => .nx env st
      | some d => match b d env st with
        | none => .bad
        | some (env1, st1) => match body env1 st1 with
          | .nx env2 st2 => forRL n b body k (i + 1) env2 st2
          | .ct env2 st2 => forRL n b body k (i + 1) env2 st2
          | .bk env2 st2 => .nx env2 st2
          | o => o)
    | _ => .bad
def bForR (N : Nat) (f : Env → M D) (b : TgM) (body : SM) : SM := fun env st => sOut (f env st) env fun d st' => match d with
  | .ref n => forRL n b body N 0 env st'
  | _ => .bad
theorem ss_forR {tg iter : Expr} {body : List Stmt} {f : Env → M D} {b : TgM} {sf : SM} {N : Nat} {pos : Pos} (hp : PassesOwn (model X.prog X.w) X.A X.env X.xe) (hc : X.calm = true) (hi : SE X T Wx iter f) (hg : SG X T tg b) (hb : SB X T Wx body sf)
    (hs : ∀ x, foldedSetIterable iter X.env x = pure x := by intro _; rfl) : SS X T Wx (.For tg iter body [] pos) (bForR N f b sf) := by
  refine ⟨(ps_for hp hc (pi_list hi.pe) hg.pg hb.pss hs).imp fun D σ H => ?_⟩
  rintro ⟨W0, env0, st0, rl0, h0⟩
  refine ⟨W0, env0, st0, rl0, postS_out rl0 h0 fun W1 d st1 H1 e1 rl1 p1 v rv => ?_⟩
  match d, rv, p1 with
  | .non, _, p1 => exact p1.elim
  | .bl _, _, p1 => exact p1.elim
  | .int _, _, p1 => exact p1.elim
  | .str _, _, p1 => exact p1.elim
  | .tup _, _, p1 => exact p1.elim
  | .lst _, _, p1 => exact p1.elim
  | .frl _, _, p1 => exact p1.elim
  | .dct _ _, _, p1 => exact p1.elim
  | .fnv, _, p1 => exact p1.elim
  | .ref n, .ref (a := a) hn, p1 =>
    -- what the store has at n
    have at_ : ∀ {W : Wd} {σ : St} {H : Hp} {env : Env} {st : Store} {ds : List Sv.D}, Ext W1 W → Rel (Gof X T) W σ H env st → st[n]? = some (.lst ds) → ∃ xs, H a = some (.lst xs) ∧ RVs X.K W ds xs := by
      intro W σ H env st ds e rl q
      obtain ⟨a', e1, e2, _, xs, h1, h2⟩ := rl.hp.at_ q (.ref (e.toExt0.toExtB.get hn))
      cases e1
      exact ⟨xs, h1, h2⟩
    have first : ∃ xs, SqL X.K H1 a xs := by
      cases N with
      | zero => exact p1.elim
      | succ N =>
        have p2 : PostS (Gof X T) Wx W1 D (match st1[n]? with
          | some (.lst ds) => (match ds[0]? with
            | none => .nx env0 st1
            | some d => match b d env0 st1 with
              | none => .bad
              | some (env1, st2) => match sf env1 st2 with
                | .nx env2 st2 => forRL n b sf N (0 + 1) env2 st2
                | .ct env2 st2 => forRL n b sf N (0 + 1) env2 st2
                | .bk env2 st2 => .nx env2 st2
                | o => o)
          | _ => .bad) := p1
        cases q : st1[n]? with
        | none => rw [q] at p2; exact p2.elim
        | some ob =>
          rw [q] at p2
          cases ob with
          | lst ds =>
            obtain ⟨xs, h1, h2⟩ := at_ (Ext.refl W1) rl1 q
            exact ⟨xs, .inl (.inl h1)⟩
          | _ => exact p2.elim
    refine ⟨a, rfl, first, ?_⟩
    refine ⟨fun i m σ H => ∃ k, m = k ∧ ∃ W env st, Ext W1 W ∧ Rel (Gof X T) W σ H env st ∧ PostS (Gof X T) Wx W D (forRL n b sf k i env st), ⟨N, N, rfl, W1, env0, st1, Ext.refl W1, rl1, p1⟩, ?_⟩
    rintro i m σ H ⟨k, rfl, W, env, st, e, rl, p⟩
    cases m with
    | zero => exact p.elim
    | succ k =>
      have p2 : PostS (Gof X T) Wx W D (match st[n]? with
        | some (.lst ds) => (match ds[i]? with
          | none => .nx env st
          | some d => match b d env st with
            | none => .bad
            | some (env1, st2) => match sf env1 st2 with
              | .nx env2 st2 => forRL n b sf k (i + 1) env2 st2
              | .ct env2 st2 => forRL n b sf k (i + 1) env2 st2
              | .bk env2 st2 => .nx env2 st2
              | o => o)
        | _ => .bad) := p
      cases q : st[n]? with
      | none => rw [q] at p2; exact p2.elim
      | some ob =>
        rw [q] at p2
        cases ob with
        | lst ds =>
          obtain ⟨xs, h1, h2⟩ := at_ e rl q
          dsimp only at p2
          cases q2 : ds[i]? with
          | none =>
            rw [q2] at p2
            refine .inl ⟨⟨xs, .inl (.inl h1), by rw [← h2.length]; exact List.getElem?_eq_none_iff.mp q2⟩, p2 W σ H (Ext.refl W) rl⟩
          | some d =>
            rw [q2] at p2
            dsimp only at p2
            obtain ⟨x, h3, h4⟩ := h2.get q2
            refine .inr ⟨⟨xs, x, .inl (.inl h1), h3⟩, fun σ' H' => ∃ W env st, Ext W1 W ∧ Rel (Gof X T) W σ' H' env st ∧ PostS (Gof X T) Wx W D (forRL n b sf k (i + 1) env st),
              fun σ' H' r => ⟨k, Nat.lt_succ_self _, k, rfl, r⟩, fun y H' yl => ?_⟩
            obtain ⟨rfl, hy⟩ := yl
            have h5 := hy xs (.inl (.inl h1))
            rw [h3] at h5
            cases h5
            refine ⟨W, env, st, d, rl, h4, ?_⟩
            cases q3 : b d env st with
            | none => rw [q3] at p2; exact p2.elim
            | some pr =>
              obtain ⟨env1, st2⟩ := pr
              rw [q3] at p2
              refine fun W3 σ3 H3 e3 rl3 => ⟨W3, env1, st2, rl3, ?_⟩
              have p3 := PostS.ext e3 p2
              dsimp only at p3
              have w3 : Ext W1 W3 := e.trans e3
              cases z : sf env1 st2 with
              | nx env4 st4 =>
                rw [z] at p3
                exact fun W5 σ5 H5 e5 rl5 => ⟨W5, env4, st4, w3.trans e5, rl5, PostS.ext e5 p3⟩
              | ct env4 st4 =>
                rw [z] at p3
                exact fun W5 σ5 H5 e5 rl5 => ⟨W5, env4, st4, w3.trans e5, rl5, PostS.ext e5 p3⟩
              | bk env4 st4 => rw [z] at p3; exact p3
              | rt d4 st4 => rw [z] at p3; exact p3
              | ex x4 env4 st4 => rw [z] at p3; exact p3
              | bad => rw [z] at p3; exact p3
        | _ => exact p2.elim
end
end Sv
/-! Sv37: [.. for .. in a list of the store]. -/
namespace Sv
open PySem L2 LamX
open PyProof.Rows hiding St
def compRL (n : Nat) (b : TgM) (c : Env → M Bool) (e : Env → M D) : Nat → Nat → Env → M (List D)
  | 0, _, _ => bad
  | k + 1, i, env => fun st => match st[n]? with
    | some (.lst ds) => (match ds[i]? with
      | none => .ok [] st
      | some d => match b d env st with
        | none => .bad
        | some (env1, st1) => bnd (calmly (c env1)) (fun t => match t with
          | true => bnd (calmly (e env1)) fun y => bnd (compRL n b c e k (i + 1) env) fun ys => ret (y :: ys)
          | false => compRL n b c e k (i + 1) env) st1)
    | _ => .bad
def sCompR (N : Nat) (vs : List Nat) (f : Env → M D) (b : TgM) (c : Env → M Bool) (e : Env → M D) : Env → M D := fun env =>
  bnd (f env) fun d => match d with
    | .ref n => bnd (compRL n b c e N 0 (wipeE env vs)) fun ys => gd (lim ys.length) (ret (.lst ys))
    | _ => bad
theorem compR_noex (n : Nat) (b : TgM) (c : Env → M Bool) (e : Env → M D) : ∀ (k i : Nat) (env : Env) (st st' : Store) (x : Ex), compRL n b c e k i env st = .ex x st' → False
  | 0, _, _, _, _, _, h => by cases h
  | k + 1, i, env, st, st', x, h => by
    have h' : (match st[n]? with
      | some (.lst ds) => (match ds[i]? with
        | none => (.ok [] st : Out (List D))
        | some d => match b d env st with
          | none => .bad
          | some (env1, st1) => bnd (calmly (c env1)) (fun t => match t with
            | true => bnd (calmly (e env1)) fun y => bnd (compRL n b c e k (i + 1) env) fun ys => ret (y :: ys)
            | false => compRL n b c e k (i + 1) env) st1)
      | _ => .bad) = .ex x st' := h
    cases q0 : st[n]? with
    | none => rw [q0] at h'; cases h'
    | some ob =>
      rw [q0] at h'
      cases ob with
      | lst ds =>
        dsimp only at h'
        cases q1 : ds[i]? with
        | none => rw [q1] at h'; cases h'
        | some d =>
          rw [q1] at h'
          dsimp only at h'
          cases q : b d env st with
          | none =>
            rw [q] at h'
            cases h'
          | some pr =>
            obtain ⟨env1, st1⟩ := pr
            rw [q] at h'
            dsimp only at h'
            rcases bnd_ex h' with z | ⟨t, s, _, z⟩
            · exact calmly_noex z
            · cases t with
              | false => exact compR_noex n b c e k (i + 1) env _ _ _ z
              | true =>
                rcases bnd_ex z with z | ⟨y, s2, _, z⟩
                · exact calmly_noex z
                · rcases bnd_ex z with z | ⟨ys, s3, _, z⟩
                  · exact compR_noex n b c e k (i + 1) env _ _ _ z
                  · cases z
      | _ => cases h'
theorem compR_core {G : Gd} {N : Nat} {vs : List Nat} {f : Env → M D} {b : TgM} {g : TG} {c : Env → M Bool} {e : Env → M D} {σ : St} {H : Hp} {Q : VK} {Wx : WX} {W0 : Wd} {env0 : Env} {st0 : Store}
    (hg : ∀ v σ H Q, tG G b v σ H Q → g v σ H Q) (hv : ∀ v σ H Q, g v σ H Q → g v σ H fun σ2 H2 => wipe σ2 vs = wipe σ vs ∧ Q σ2 H2) (rl0 : Rel G W0 σ H env0 st0)
    (h0 : Post G Wx σ W0 (Wpost G Q) (sCompR N vs f b c e env0 st0)) :
    tLc (iList G.K (tE G Wx f)) g (tT G WF c) (tE G WF e) vs σ H Q := by
  refine ⟨W0, env0, st0, rl0, Post.imp (k := fun d => match d with
    | .ref n => bnd (compRL n b c e N 0 (wipeE env0 vs)) fun ys => gd (lim ys.length) (ret (D.lst ys))
    | _ => bad) h0 fun W1 d st1 H1 e1 ok1 p1 v rv => ?_⟩
  have rl1 := rl0.ext e1 ok1
  match d, rv, p1 with
  | .non, _, p1 => exact p1.elim
  | .bl _, _, p1 => exact p1.elim
  | .int _, _, p1 => exact p1.elim
  | .str _, _, p1 => exact p1.elim
  | .tup _, _, p1 => exact p1.elim
  | .lst _, _, p1 => exact p1.elim
  | .frl _, _, p1 => exact p1.elim
  | .dct _ _, _, p1 => exact p1.elim
  | .fnv, _, p1 => exact p1.elim
  | .ref n, .ref (a := a0) hn, p1 =>
    have at_ : ∀ {W : Wd} {H : Hp} {st : Store} {ds : List D}, Ext0 W1 W → HeapOk G W st H → st[n]? = some (.lst ds) → ∃ xs, H a0 = some (.lst xs) ∧ RVs G.K W ds xs := by
      intro W H st ds e ok q
      obtain ⟨a', e1, e2, _, xs, h1, h2⟩ := ok.at_ q (.ref (e.toExtB.get hn))
      cases e1
      exact ⟨xs, h1, h2⟩
    -- one step of the walk, opened
    have open_ : ∀ (k i : Nat) (env : Env) (st : Store), compRL n b c e (k + 1) i env st = (match st[n]? with
      | some (.lst ds) => (match ds[i]? with
        | none => .ok [] st
        | some d => match b d env st with
          | none => .bad
          | some (env1, st1) => bnd (calmly (c env1)) (fun t => match t with
            | true => bnd (calmly (e env1)) fun y => bnd (compRL n b c e k (i + 1) env) fun ys => ret (y :: ys)
            | false => compRL n b c e k (i + 1) env) st1)
      | _ => .bad) := fun _ _ _ _ => rfl
    have first : ∃ xs, SqL G.K H1 a0 xs := by
      cases N with
      | zero => exact p1.elim
      | succ N =>
        have p2 : Post G Wx σ W1 (Wpost G Q) (bnd (compRL n b c e (N + 1) 0 (wipeE env0 vs)) (fun ys => gd (lim ys.length) (ret (.lst ys))) st1) := p1
        rw [bnd_run, open_] at p2
        cases q : st1[n]? with
        | none => rw [q] at p2; exact p2.elim
        | some ob =>
          cases ob with
          | lst ds =>
            obtain ⟨xs, h1, h2⟩ := at_ (Ext0.refl W1) ok1 q
            exact ⟨xs, .inl (.inl h1)⟩
          | dct ks vs => rw [q] at p2; exact p2.elim
          | ins c fs => rw [q] at p2; exact p2.elim
    refine ⟨a0, rfl, first, fun a ha => ?_⟩
    have hP1 : ∀ q ∈ W1.P, q.1 ≠ a := fun q hq z => by
      obtain ⟨q1, _⟩ := ok1.pr q hq
      rw [z, ha] at q1
      cases q1
    let Iv : Nat → Nat → Hp → Prop := fun i k H => ∃ W acc xs st, Ext0 W1 W ∧ W.P = (a, .lst xs) :: W1.P ∧ RVs G.K W acc xs ∧ HeapOk G W st H ∧
      Post G Wx σ W1 (Wpost G Q) (bnd (compRL n b c e k i (wipeE env0 vs)) (fun ys => gd (lim (acc ++ ys).length) (ret (.lst (acc ++ ys)))) st)
    have start : Iv 0 N (upd H1 a (.lst [])) := ⟨W1.hold a (.lst []), [], [], st1, hold_ext0, rfl, .nil, ok1.hold ha ⟨fun ps z => (nomatch z), fun φ z => (nomatch z)⟩, p1⟩
    refine ⟨fun i m H => Iv i m H, ⟨_, start⟩, ?_⟩
    rintro i m H2 ⟨W, acc, xs, st, eW, hP, rv, ok, p⟩
    cases m with
    | zero => exact p.elim
    | succ k =>
      rw [bnd_run, open_] at p
      cases q0 : st[n]? with
      | none => rw [q0] at p; exact p.elim
      | some ob =>
        rw [q0] at p
        cases ob with
        | dct ks vs => exact p.elim
        | ins c fs => exact p.elim
        | lst ds =>
          obtain ⟨ys0, h1, h2⟩ := at_ eW ok q0
          dsimp only at p
          cases q1 : ds[i]? with
          | none =>
            rw [q1] at p
            dsimp only at p
            refine .inl ⟨⟨ys0, .inl (.inl h1), by rw [← h2.length]; exact List.getElem?_eq_none_iff.mp q1⟩, ?_⟩
            obtain ⟨_, p''⟩ := Post.gd p
            rw [List.append_nil] at p''
            exact fin_ret ok hP hP1 rv eW p''
          | some d =>
            rw [q1] at p
            dsimp only at p
            obtain ⟨x0, h3, rd⟩ := h2.get q1
            refine .inr ⟨⟨ys0, x0, .inl (.inl h1), h3⟩, fun H' => Iv (i + 1) k H', fun H' q => ⟨k, Nat.lt_succ_self _, q⟩, fun x H' yl => ?_⟩
            obtain ⟨rfl, hy⟩ := yl
            have h5 := hy ys0 (.inl (.inl h1))
            rw [h3] at h5
            cases h5
            have slots2 : Rel G W (wipe σ vs) H' (wipeE env0 vs) st := ⟨(rl1.wipe vs).toFr.ext0 eW, ok⟩
            have turn := hv x0 (wipe σ vs) H' (fun σ2 H2 => tT G WF c σ2 H2 fun t H3 => if t = true then tE G WF e σ2 H3 fun z H4 => ∃ ac, H4 a = some (.lst ac) ∧ ac.length < sizeLine ∧ Iv (i + 1) k (upd H4 a (.lst (ac ++ [z]))) else Iv (i + 1) k H3) (hg _ _ _ _ ⟨W, wipeE env0 vs, st, d, slots2, rd, ?_⟩)
            · rw [wipe_idem] at turn
              exact turn
            · cases q : b d (wipeE env0 vs) st with
              | none =>
                rw [q] at p
                exact False.elim p
              | some pr =>
                obtain ⟨env1, st2⟩ := pr
                rw [q] at p
                dsimp only at p
                refine fun W3 σ3 H3 e3 rl3 => ⟨W3, env1, st2, rl3, ?_⟩
                have p2 : Post G Wx σ W1 (Wpost G Q) (bnd (bnd (calmly (c env1)) (fun t => match t with
                    | true => bnd (calmly (e env1)) fun y => bnd (compRL n b c e k (i + 1) (wipeE env0 vs)) fun ys => ret (y :: ys)
                    | false => compRL n b c e k (i + 1) (wipeE env0 vs))) (fun ys => gd (lim (acc ++ ys).length) (ret (.lst (acc ++ ys)))) st2) := p
                rw [bnd_bnd] at p2
                refine Post.calm p2 fun W4 t st4 H4 e4 ok4 p4 => ?_
                have eW4 : Ext0 W1 W4 := eW.trans (e3.toExt0.trans e4.toExt0)
                have hP4 : W4.P = (a, .lst xs) :: W1.P := by rw [e4.P, e3.P, hP]
                have rv4 : RVs G.K W4 acc xs := rv.ext0 (e3.toExt0.trans e4.toExt0)
                cases t with
                | false =>
                  exact iteF ⟨W4, acc, xs, st4, eW4, hP4, rv4, ok4, p4⟩
                | true =>
                  refine iteT ⟨W4, env1, st4, rl3.ext e4 ok4, ?_⟩
                  have p5 : Post G Wx σ W1 (Wpost G Q) (bnd (bnd (calmly (e env1)) fun y => bnd (compRL n b c e k (i + 1) (wipeE env0 vs)) fun ys => ret (y :: ys)) (fun ys => gd (lim (acc ++ ys).length) (ret (.lst (acc ++ ys)))) st4) := p4
                  rw [bnd_bnd] at p5
                  refine Post.calm p5 fun W6 z st6 H6 e6 ok6 p6 v rz => ?_
                  have hP6 : W6.P = (a, .lst xs) :: W1.P := e6.P.trans hP4
                  have ha6 : H6 a = some (.lst xs) := (ok6.pr (a, .lst xs) (by rw [hP6]; exact List.mem_cons_self)).1
                  have p7 : Post G Wx σ W1 (Wpost G Q) (bnd (compRL n b c e k (i + 1) (wipeE env0 vs)) (fun ys => gd (lim ((acc ++ [z]) ++ ys).length) (ret (.lst ((acc ++ [z]) ++ ys)))) st6) := by
                    have e7 : bnd (bnd (compRL n b c e k (i + 1) (wipeE env0 vs)) fun ys => ret (z :: ys)) (fun ys => gd (lim (acc ++ ys).length) (ret (.lst (acc ++ ys)) : M D)) = bnd (compRL n b c e k (i + 1) (wipeE env0 vs)) (fun ys => gd (lim ((acc ++ [z]) ++ ys).length) (ret (.lst ((acc ++ [z]) ++ ys)))) := by
                      rw [bnd_bnd]
                      congr 1
                      funext ys
                      rw [ret_bnd, List.append_assoc]
                      rfl
                    rw [← e7]
                    exact p6
                  have hsz : xs.length < sizeLine := by
                    rw [← rv.length]
                    have p8 := p7
                    rw [bnd_run] at p8
                    cases w : compRL n b c e k (i + 1) (wipeE env0 vs) st6 with
                    | ok ys st8 =>
                      rw [w] at p8
                      obtain ⟨c8, _⟩ := Post.gd p8
                      have c9 : ((acc ++ [z]) ++ ys).length ≤ sizeLine := of_decide_eq_true c8
                      simp only [List.length_append, List.length_cons, List.length_nil] at c9
                      omega
                    | ex e8 st8 =>
                      exfalso
                      exact compR_noex _ _ _ _ _ _ _ _ _ _ w
                    | bad =>
                      rw [w] at p8
                      exact False.elim p8
                  refine ⟨xs, ha6, hsz, ⟨W6.F, W6.m, (a, .lst (xs ++ [v])) :: W1.P, W6.f⟩, acc ++ [z], xs ++ [v], st6, ?_, rfl, ?_, ok6.regrow hP6 ⟨fun ps z => (nomatch z), fun φ z => (nomatch z)⟩ hP1, p7⟩
                  · exact (eW4.trans e6.toExt0).trans ⟨⟨fun _ _ h => h, [], by simp⟩, rfl⟩
                  · exact RVs.ext0 (W := W6) (W' := ⟨W6.F, W6.m, (a, .lst (xs ++ [v])) :: W1.P, W6.f⟩) ⟨⟨fun _ _ h => h, [], by simp⟩, rfl⟩ ((rv4.ext0 e6.toExt0).append (.cons rz .nil))
section
variable {X : Cx} {T : Tb} {Wx : WX} {elt tg iter : Expr} {ifs : List Expr} {scope : Scope} {own : List (Str × Nat)} {g : TG} {f : Env → M D} {b : TgM} {fc : Env → M Bool} {fe : Env → M D} {pos : Pos} {N : Nat}
theorem se_compR (hc : X.calm = true) (hN : X.N.Nodup) (hi : SE X T Wx iter f) (ok : BlkOk X.N X.env.scope scope own) (hgo : ∀ v σ H Q, tG (Gof X T) b v σ H Q → g v σ H Q) (hgs : ∀ v σ H Q, g v σ H Q → g v σ H fun σ2 H2 => wipe σ2 (own.map (·.2)) = wipe σ (own.map (·.2)) ∧ Q σ2 H2)
    (hg : ∀ (s : Shared) (H : Hp) (C : Addr) (cl : List (Str × Addr)) (fp : List Addr), PG (X.blk s H scope (compEnvC scope cl C X.env) fp) tg g) (ht : ∀ (s : Shared) (H : Hp) (C : Addr) (cl : List (Str × Addr)) (fp : List Addr), STs (X.blk s H scope (compEnvC scope cl C X.env) fp) T WF ifs fc)
    (he : ∀ (s : Shared) (H : Hp) (C : Addr) (cl : List (Str × Addr)) (fp : List Addr), SE (X.blk s H scope (compEnvC scope cl C X.env) fp) T WF elt fe) (hs : ∀ x, foldedSetIterable iter X.env x = pure x := by intro _; rfl) :
    SE X T Wx (.ListComp elt [⟨tg, iter, ifs, 0⟩] scope pos) (sCompR N (own.map (·.2)) f b fc fe) := by
  refine ⟨(pe_lc (tt := tT (Gof X T) WF fc) (te := tE (Gof X T) WF fe) hc hN (pi_list hi.pe) ok hg (fun s H C cl fp => (ht s H C cl fp).pts) (fun s H C cl fp => (he s H C cl fp).pe) hs).imp fun σ H Q => ?_⟩
  rintro ⟨W, env, st, rl, h⟩
  exact compR_core hgo hgs rl h
end
end Sv
/-! Sv38: a new instance with defaults, with keywords alone; an own __eq__ asked with a plain value on the right. -/
namespace Sv
open PySem L2 LamX
open PyProof.Rows hiding St
section
variable {X : Cx} {T : Tb} {Wx : WX} {k : Nat} {f C : Addr} {fd : FuncData} {ps ks : List Str} {sp : Sp} {g : Fn} {p pos apos kpos : Pos} {e o : Expr} {es : List Expr} {kws : List Keyword} {ta : TE} {t tk0 : TA} {fo fe : Env → M D} {fa fk : Env → M (List D)} {dvs : List V} {dd : List D}
theorem se_makeD {c : Str} (M : Mk X.K C f) (F : FX X T k f fd ps g) (hr : Room (k + 1) X.A) (hG : Quiet X.A) (hg : Gl X c) (hm : X.mg c = some (.ref C)) (hB : Bare dd dvs) (hb : ∃ ds, Vals dvs ds ∧ L2.Binds X.K fd ps ds) (tk : Takes X Wx)
    (ha : SA X T Wx (e :: es) fa) (hdb : (c == ("__debug__" : Str)) = false := by decide) (he : starEach (e :: es) X.env = (false, eval e X.env) :: starEach es X.env := by rfl) (hpl : (backTo pos (starEach es X.env)).any (·.1) = false := by rfl) :
    SE X T Wx (.Call (.Name c p) (e :: es) [] pos) (sMk c g dd fa) := by
  obtain ⟨ds, h1, h2⟩ := hb
  exact se_make M F hr hG hg hm hB h2 h1 tk ha hdb he hpl
/-! ### C(k = v, ..) -/
/-- put in another order -/
def permL {α : Type} (p : List Nat) (l : List α) : List α := p.filterMap fun i => l[i]?
theorem permL_vals {vs : List V} {us : List Value} (r : Vals vs us) : ∀ p : List Nat, Vals (permL p vs) (permL p us)
  | [] => .nil
  | i :: p => by
    unfold permL
    rw [List.filterMap_cons, List.filterMap_cons]
    have ih := permL_vals r p
    cases e : vs[i]? with
    | none =>
      have : us[i]? = none := by
        rw [List.getElem?_eq_none_iff] at e ⊢
        rw [← r.length]
        exact e
      rw [this]
      exact ih
    | some v =>
      obtain ⟨u, hu, rv⟩ := r.get e
      rw [hu]
      exact .cons rv ih
theorem permL_rvs {K : PySem.W.Frag} {W : Wd} {ds : List D} {vs : List V} (r : RVs K W ds vs) : ∀ p : List Nat, RVs K W (permL p ds) (permL p vs)
  | [] => .nil
  | i :: p => by
    unfold permL
    rw [List.filterMap_cons, List.filterMap_cons]
    have ih := permL_rvs r p
    cases e : ds[i]? with
    | none =>
      have : vs[i]? = none := by
        rw [List.getElem?_eq_none_iff] at e ⊢
        rw [← r.length]
        exact e
      rw [this]
      exact ih
    | some v =>
      obtain ⟨u, hu, rv⟩ := r.get e
      rw [hu]
      exact .cons rv ih
/-- how such a call binds -/
def KBp (K : PySem.W.Frag) (fd : FuncData) (ps ks : List Str) (p : List Nat) : Prop := ∀ (s : Shared) (u : Value) (ws : List Value), K.In s.heap → ws.length = ks.length → BindsTo s fd ⟨[u], ks.zip ws⟩ (ps.zip (u :: permL p ws))
def tMkK (C : Addr) (n : Nat) (sp : Sp) (Wx : WX) (p : List Nat) (t : TA) : TE := fun σ H Q => t σ H fun vs H1 => vs.length = n ∧ ∀ x dx, H1 x = none → H1 dx = none → dx ≠ x →
  sp (.ref x :: permL p vs) (upd (upd H1 dx (.own x)) x (.ins C dx [])) (fun v H2 => v = .non ∧ Q (.ref x) H2) fun c d H3 => Wx c d σ H3
theorem fg_makeK {x : Str} {pm : List Nat} (M : Mk X.K C f) (F : FG X.prog X.w X.K X.mg X.base k f fd ps sp) (hr : Room (k + 1) X.A) (hG : Quiet X.A) (hg : Gl X x) (hm : X.mg x = some (.ref C)) (hb : KBp X.K fd ps ks pm) (tk : Takes X Wx)
    (hkw : PK X kws tk0) (hall : (backToKw pos (keywordEach kws X.env)).all (·.1.isSome) = true := by rfl) (hks : (backToKw pos (keywordEach kws X.env)).filterMap (·.1) = ks := by rfl) (hdb : (x == ("__debug__" : Str)) = false := by decide)
    (hpl : ((backTo pos (starEach [] X.env)).any (·.1) || (backToKw pos (keywordEach kws X.env)).any (·.1.isNone)) = false := by rfl) :
    PE X (.Call (.Name x p) [] kws pos) (tMkK C ks.length sp Wx pm tk0) := by
  refine ⟨fun pins s σ H Q I h => ?_⟩
  refine wpAny_Call_Name_kw (ld_glob I hg hm ?_ hdb)
  refine PySem.W.callWith_KW0 (h₀ := X.base) I.ok.mod.kin M.kp hall ?_ hpl
  refine thn (hkw.run pos pins s σ H _ I h) fun ws s2 ⟨zs, H2, I2, rz, l2, q2⟩ => ⟨I2.kIn, ?_⟩
  rw [hks]
  have hq := q2 (s2.heap.objs.size + 1) s2.heap.objs.size (I2.hok.fresh (Nat.le_succ _)) (I2.hok.fresh (Nat.le_refl _)) (Nat.ne_of_lt (Nat.lt_succ_self _))
  have I3 := Inv.made (C := C) I2
  have r2 : Vals (V.ref (s2.heap.objs.size + 1) :: permL pm zs) (Value.ref (s2.heap.objs.size + 1) :: permL pm ws) := .cons rfl (permL_vals rz pm)
  refine wpAny_call (make_map (f := f) I2.kIn M.makes M.init (beq_iff_eq.mp M.fn) (codeAny_mono (F.run _ X.stack _ _ ⟨[Value.ref (s2.heap.objs.size + 1)], ks.zip ws⟩ (Value.ref (s2.heap.objs.size + 1) :: permL pm ws) _ _ _ (hr.make C [] (ks.zip ws)) (make_quiet hG)
    (I3.env0.make C [] (ks.zip ws)) (hb _ (Value.ref (s2.heap.objs.size + 1)) ws I3.kIn (rz.length.symm.trans l2)) r2 hq) fun r s' hq' => ?_))
  cases r with
  | error e => exact tk e s' (XE.of_call I3 (fun cls d H' z => z) hq')
  | ok fl =>
    cases fl with
    | ret u =>
      obtain ⟨v, H', I4, rv, ev, q3⟩ := I3.after hq'
      subst ev
      exact ⟨rv, ⟨V.ref (s2.heap.objs.size + 1), H', I4, rfl, q3⟩⟩
    | _ => exact False.elim hq'
def sMkK (c : Str) (g : Fn) (n : Nat) (pm : List Nat) (fa : Env → M (List D)) : Env → M D := fun env => bnd (fa env) fun ds => gd (ds.length == n) (bnd (new (.ins c [])) fun d => bnd (g (d :: permL pm ds)) fun r => bnd (isNonO r) fun _ => ret d)
theorem mkK_go {c : Str} {pm : List Nat} {n : Nat} {σ : St} {H : Hp} {Q : VK} (hc : X.mg c = some (.ref C)) (ha : Arity g ps.length) (h : tE (Gof X T) Wx (sMkK c g n pm fa) σ H Q) :
    tMkK C n (spF (Gof X T) ps.length g) Wx pm (tA (Gof X T) Wx fa) σ H Q := by
  obtain ⟨W, env, st, rl, h⟩ := h
  refine tA_bind (k := fun _ ds => gd (ds.length == n) (bnd (new (.ins c [])) fun d => bnd (g (d :: permL pm ds)) fun r => bnd (isNonO r) fun _ => ret d)) rl h fun W1 ds st1 H1 vs e1 r1 r p => ?_
  obtain ⟨q0, p⟩ := Post.gd p
  refine ⟨by rw [← r.length]; exact beq_iff_eq.mp q0, fun x dx hx hdx hne => ?_⟩
  have hk : ∀ b u, H1 b = some u → upd (upd H1 dx (.own x)) x (.ins C dx []) b = some u := fun b u q => by
    rw [upd_ne (ne_of_none q hx), upd_ne (ne_of_none q hdx)]
    exact q
  obtain ⟨W2, e2, ok2, rv2⟩ := r1.hp.newOb (o := .ins c []) hx hk (r1.hp.fresh hx) fun W' _ => ⟨C, dx, [], hc, upd_same, .nil⟩
  have p1 : Post (Gof X T) Wx σ W2 (Wpost (Gof X T) Q) (bnd (g (.ref st1.length :: permL pm ds)) (fun r => bnd (isNonO r) fun _ => ret (D.ref st1.length)) (st1 ++ [.ins c []])) := Post.ext e2 p
  have r3 : RVs X.K W2 (.ref st1.length :: permL pm ds) (V.ref x :: permL pm vs) := .cons rv2 (permL_rvs (r.ext e2) pm)
  have hl : (D.ref st1.length :: permL pm ds).length = ps.length := by
    by_cases z : (D.ref st1.length :: permL pm ds).length = ps.length
    · exact z
    · rw [bnd_run, ha _ _ z] at p1
      exact p1.elim
  refine ⟨by rw [← r3.length, hl], W2, _, _, ok2.toPlain, r3, Post.f (Post.imp p1 fun W3 d st3 H3 e3 ok3 p3 v rv => ?_)⟩
  have p4 : Post (Gof X T) Wx σ W3 (Wpost (Gof X T) Q) (bnd (isNonO d) (fun _ => ret (D.ref st1.length)) st3) := p3
  cases rv with
  | non => exact ⟨rfl, p4.here ok3 (rv2.ext e3)⟩
  | _ => exact p4.elim
theorem se_makeK {c : Str} {pm : List Nat} (M : Mk X.K C f) (F : FX X T k f fd ps g) (hr : Room (k + 1) X.A) (hG : Quiet X.A) (hg : Gl X c) (hm : X.mg c = some (.ref C)) (hb : KBp X.K fd ps ks pm) (tk : Takes X Wx) (ha : SK X T Wx kws fk)
    (hall : (backToKw pos (keywordEach kws X.env)).all (·.1.isSome) = true := by rfl) (hks : (backToKw pos (keywordEach kws X.env)).filterMap (·.1) = ks := by rfl) (hdb : (c == ("__debug__" : Str)) = false := by decide)
    (hpl : ((backTo pos (starEach [] X.env)).any (·.1) || (backToKw pos (keywordEach kws X.env)).any (·.1.isNone)) = false := by rfl) :
    SE X T Wx (.Call (.Name c p) [] kws pos) (sMkK c g ks.length pm fk) :=
  ⟨(fg_makeK M F.fg hr hG hg hm hb tk ha.pk hall hks hdb hpl).imp fun _ _ _ h => mkK_go hm F.ar h⟩
end
theorem FunD.kbp {K : PySem.W.Frag} {x qual : Str} {params : Arguments} {body : List Stmt} {scope : Scope} {dvs : List V} {f : Addr} {fd : FuncData} {ps ks : List Str} {kws : List (Str × V)} (F : FunD K x qual params body scope dvs kws f fd) (pm : List Nat) (hd : dvs ≠ [])
    (h : ∀ (T : Addr) (kV doc pmo : Value) (an : Option Addr) (cdv ct : Value) (us its ws : List Value), us.length = 1 → its.length = dvs.length → ws.length = ks.length →
      ∃ k, bindArgs (PySem.W.fnOf x qual params body scope (.ref T) kV doc pmo an cdv ct) ⟨us, ks.zip ws⟩ = seqItems? (.ref T) >>= k ∧ k (some its.toArray) = pure (ps.zip (us ++ permL pm ws))) : KBp K fd ps ks pm := by
  obtain ⟨its, hb⟩ := F.kbindsD 1 ks (fun us its ws => us ++ permL pm ws) hd (fun r1 r2 r3 => r1.append (permL_vals r3 pm)) h
  intro s u ws hK hl
  exact hb.to s [u] ws hK rfl hl
/-! ### an own __eq__, a plain value on the right -/
/-- what the class must show of plain types -/
def eqPB (K : PySem.W.Frag) (c : Str) : Bool := tyNames.all fun t => PySem.W.notFirst K (He.ga K c) (.type t)
def plainD : D → Bool
  | .ref _ => false
  | .fnv => false
  | _ => true
def eqOwnP (c : Str) (g : Fn) (a b : D) : M D := fun st => match a with
  | .ref n => (match st[n]? with
    | some (.ins c1 _) => gd (c1 == c && plainD b) (bnd (calmly (g [.ref n, b])) fun r => match r with
      | .bl t => ret (.bl t)
      | _ => bad) st
    | _ => .bad)
  | _ => .bad
def rOwnP (K : PySem.W.Frag) (C : Addr) (sp : Sp) : R2 := fun x y H Q => ∃ a dx fs t, x = .ref a ∧ H a = some (.ins C dx fs) ∧ TyX K H y (.type t) ∧ PySem.W.notFirst K C (.type t) = true ∧ sp [x, y] H (fun v H' => ∃ t, v = .bl t ∧ Q (.bl t) H') (fun _ _ _ => False)
section
variable {X : Cx} {T : Tb} {k : Nat} {f C : Addr} {fd : FuncData} {ps : List Str} {sp : Sp}
theorem op_ownEqP (F : FG X.prog X.w X.K X.mg X.base k f fd ps sp) (hr : Room (k + 1) X.A) (hG : Quiet X.A) (hb : L2.Binds X.K fd ps []) (hs : PySem.W.findIn X.K (.ref C) "__eq__" = some (some (.ref f))) (hf : PySem.W.isFn X.K (.ref f) = true) : OpR X (compareOp .Eq) (rOwnP X.K C sp) := by
  intro pins s σ H x y v u Q I rx ry h
  obtain ⟨a, dx, fs, ty, rfl, ha, hy, hn, h⟩ := h
  cases rx
  obtain ⟨mA, J, _⟩ := ins_get I.hok ha
  obtain ⟨od, J, _⟩ := J.look
  obtain ⟨m, hF⟩ := I.fr
  obtain ⟨P, Z, hp, _⟩ := kit_of I ry hy
  show wpAny (model X.prog X.w) X.A (richCompare .Eq _ _) (EP X pins σ Q) X.xe s
  refine PySem.W.cmp_K (op := .Eq) (tb := .type ty) (by have := hr.un; omega) hF I.ok.mod.kin J (Z.ty _ _ I.kIn hp) hn hs hf ?_
  refine wpAny_mono (fg_runA (vs := [.ref a, y]) F (hr.mono (by omega)) hG rfl hb I (.cons rfl (.cons ry .nil)) h) (fun r s' hq => ?_) fun _ _ e => e
  obtain ⟨z, H', I', rz, t, e, q⟩ := hq
  subst e
  cases rz
  exact ⟨.bl t, H', I', rfl, q⟩
theorem op_ownEqPB {c : Str} (F : FG X.prog X.w X.K X.mg X.base k (He.ma X.K (He.ga X.K c) "__eq__") fd ps sp) (hr : Room (k + 1) X.A) (hG : Quiet X.A) (hb : L2.Binds X.K fd ps []) (h : eqOB X.K c = true) : OpR X (compareOp .Eq) (rOwnP X.K (He.ga X.K c) sp) := by
  obtain ⟨h1, h⟩ := He.ba h
  obtain ⟨h2, h⟩ := He.ba h
  exact op_ownEqP F hr hG hb (He.eqO_ok h1) h2
def kitAll : Ty → Option Bool
  | .inl t => if tyNames.contains t then some true else none
  | .inr _ => none
theorem plain_ty {W : Wd} {st : Store} {H : Hp} {d : D} {v : V} (ok : HeapOk (Gof X T) W st H) (r : RV X.K W d v) (e : plainD d = true) : ∃ t, t ∈ tyNames ∧ TyX X.K H v (.type t) := by
  cases r with
  | non => exact ⟨"NoneType", by decide, .base .non⟩
  | bl x => exact ⟨"bool", by decide, .base (.bl x)⟩
  | int x => exact ⟨"int", by decide, .base (.int x)⟩
  | str x => exact ⟨"str", by decide, .base (.str x)⟩
  | tup hq r =>
    refine ⟨"tuple", by decide, ?_⟩
    rcases ok.sqT hq with (h | ⟨o, h⟩) | ⟨o, its, n, h1, h2, _⟩
    · exact .base (.tup h)
    · exact .fTuple h
    · exact .kTuple h1 h2
  | lst hq r => exact ⟨"list", by decide, .base (.lst (ok.fz _ _ hq))⟩
  | frl hq r =>
    refine ⟨"list", by decide, ?_⟩
    rcases ok.sqL hq with (h | ⟨o, h⟩) | ⟨o, its, n, h1, h2, _⟩
    · exact .base (.lst h)
    · exact .base (.frz h)
    · exact .kList h1 h2
  | dct hq r => exact ⟨"dict", by decide, .fDict (ok.fz _ _ hq)⟩
  | ref hn => cases e
theorem sv_ownP {Wx : WX} {c : Str} {g : Fn} (hc : X.mg c = some (.ref (He.ga X.K c))) (hP : eqPB X.K c = true) : Serves X.K X.mg T Wx (rOwnP X.K (He.ga X.K c) (spF (Gof X T) 2 g)) (eqOwnP c g) := by
  intro W σ a b x y st H Q ok ra rb p
  cases a with
  | ref n =>
    have p' : Post (Gof X T) Wx σ W (Wpost (Gof X T) Q) ((match st[n]? with
      | some (.ins c1 _) => gd (c1 == c && plainD b) (bnd (calmly (g [.ref n, b])) fun r => match r with
        | .bl t => ret (.bl t)
        | _ => bad) st
      | _ => .bad : Out D)) := p
    cases e1 : st[n]? with
    | none => rw [e1] at p'; exact p'.elim
    | some o1 =>
      rw [e1] at p'
      cases o1 with
      | ins c1 f1 =>
        obtain ⟨q, p2⟩ := Post.gd p'
        rw [Bool.and_eq_true, beq_iff_eq] at q
        obtain ⟨rfl, q⟩ := q
        obtain ⟨a1, C1, dx1, gs1, h1, _, h3, h4, _⟩ := ins_at (G := Gof X T) ok e1 ra
        subst h1
        have z1 := h3.symm.trans hc
        cases z1
        obtain ⟨ty, ht, hy⟩ := plain_ty ok rb q
        refine ⟨a1, dx1, gs1, ty, rfl, h4, hy, List.all_eq_true.mp hP ty ht, rfl, W, [.ref n, b], st, ok.toPlain, .cons ra (.cons rb .nil), ?_⟩
        cases e3 : g [.ref n, b] st with
        | bad =>
          rw [show bnd (calmly (g [.ref n, b])) _ st = Out.bad from by unfold bnd calmly; rw [e3]] at p2
          exact p2.elim
        | ex e s =>
          rw [show bnd (calmly (g [.ref n, b])) _ st = Out.bad from by unfold bnd calmly; rw [e3]] at p2
          exact p2.elim
        | ok r s =>
          rw [bnd_ok (show calmly (g [.ref n, b]) st = .ok r s from by unfold calmly; rw [e3])] at p2
          intro W' H' v x ok' rv
          cases rv with
          | bl t => exact ⟨t, rfl, p2 W' H' x ok'.ofPlain _ (.bl _)⟩
          | _ => exact p2.elim
      | _ => exact p'.elim
  | _ => exact p.elim
end
end Sv
/-! Sv32: more rules of the plain layer. -/
namespace Sv
open PySem PyProof.Rows
open L2 (atI ixN Key)
section
variable {P : D → Store → Prop} {X : Ex → Store → Prop} {st : Store} {env : Sv.Env}
theorem ev_calmly_x {x : M D} {k : D → M D} : Ev (calmly x st) (fun a s => Ev (k a s) P X) X ↔ Ev (x st) (fun a s => Ev (k a s) P X) fun _ _ => False := ev_calmly
theorem ev_neg {i : Int} : Ev (negD (.int i) st) P X ↔ P (.int (-i)) st := by
  simp only [evx]
  exact Iff.rfl
theorem ev_mul1T {as : List D} {k : Int} : Ev (opMul1 (.tup as) (.int k) st) P X ↔ if k = 1 then P (.tup as) st else Ev (opMul (.tup as) (.int k) st) P X := by
  show Ev ((if k = 1 then ret (.tup as) else opMul (.tup as) (.int k) : M D) st) P X ↔ _
  split
  · exact ev_ret
  · exact Iff.rfl
theorem ev_addM {a b : D} {as bs : List D} (ha : lst2Of a st = some as) (hb : lst2Of b st = some bs) : Ev (opAddM a b st) P X ↔ as.length + bs.length ≤ 16777216 ∧ P (.ref st.length) (st ++ [.lst (as ++ bs)]) := by
  unfold opAddM
  rw [ha, hb]
  dsimp only
  rw [ev_gd, lim_ok, ev_new]
theorem ev_isE {e : Ex} {i : Nat} {l : List (Str × Bool)} {b : Bool} (h : env[i]? = some (some .fnv)) (hl : l.lookup e.cls = some b) : Ev (sIsE e i l env st) P X ↔ P (.bl b) st := by
  refine ev_eqn' ?_
  unfold sIsE
  rw [h, hl]
theorem ev_addL {a b : D} {as bs : List D} (ha : a = .lst as) (hb : b = .lst bs) : Ev (opAdd a b st) P X ↔ as.length + bs.length ≤ 16777216 ∧ P (.lst (as ++ bs)) st := by
  subst ha hb
  show Ev (gd _ _ st) P X ↔ _
  rw [ev_gd, lim_ok, ev_ret]
theorem ev_addRL {n : Nat} {as bs : List D} (h : st[n]? = some (.lst as)) : Ev (opAdd (.ref n) (.lst bs) st) P X ↔ as.length + bs.length ≤ 16777216 ∧ P (.lst (as ++ bs)) st := by
  have e : opAdd (.ref n) (.lst bs) st = gd (lim (as.length + bs.length)) (ret (D.lst (as ++ bs))) st := by
    unfold opAdd
    dsimp only
    rw [h]
  rw [e, ev_gd, lim_ok, ev_ret]
theorem ev_opEqR {a b : D} : Ev (opEqR a b st) P X ↔ (flat deepest (reify st 5 a) = true ∧ flat deepest (reify st 5 b) = true) ∧ P (.bl (eqD (reify st 5 a) (reify st 5 b))) st := by
  unfold opEqR
  rw [ev_gd, Bool.and_eq_true, ev_ret]
theorem ev_opNeR {a b : D} : Ev (opNeR a b st) P X ↔ (flat deepest (reify st 5 a) = true ∧ flat deepest (reify st 5 b) = true) ∧ P (.bl (!eqD (reify st 5 a) (reify st 5 b))) st := by
  unfold opNeR
  rw [ev_gd, Bool.and_eq_true, ev_ret]
theorem ev_reprR {n w : Nat} {d e : D} (hd : reify st 5 d = e) (h : Nice n w e) (hn : n ≤ 20) (hw : w ≤ 1048576) : Ev (kReprR [d] st) P X ↔ P (.str (shownD e)) st := by
  show Ev (reprD (reify st 5 d) st) P X ↔ _
  rw [hd]
  exact ev_repr h hn hw
theorem ev_slM {f : Sv.Env → M D} {lo hi : Sv.Env → M (Option Int)} : Ev (sSlM f lo hi env st) P X ↔ Ev (f env st) (fun d s1 => Ev (lo env s1) (fun l s2 => Ev (hi env s2) (fun h s3 => Ev (slDM d l h s3) P X) X) X) X := by
  unfold sSlM
  simp only [ev_bnd]
theorem ev_slDM {d : D} {ds : List D} {lo hi : Option Int} (h : lst2Of d st = some ds) : Ev (slDM d lo hi st) P X ↔ P (.ref st.length) (st ++ [.lst (cutD ds lo hi)]) := by
  unfold slDM
  rw [h]
  exact ev_new
section
variable {N B C : Sv.Env → Store → Prop} {R : D → Store → Prop} {Y : Ex → Sv.Env → Store → Prop}
theorem es_raise0 {c : Str} : Es (bRaise0 c env st) N R Y B C ↔ Y ⟨c, none⟩ env st := by
  simp only [esx]
  exact Iff.rfl
theorem es_forR {k : Nat} {f : Sv.Env → M D} {b : TgM} {body : SM} : Es (bForR k f b body env st) N R Y B C ↔ Ev (f env st) (fun d s => ∃ n, d = .ref n ∧ Es (forRL n b body k 0 env s) N R Y B C) fun e s => Y e env s := by
  simp only [evx, esx]
  unfold bForR sOut
  cases f env st with
  | ok d s => cases d <;> simp [Ev0, Es0]
  | ex e s => exact Iff.rfl
  | bad => exact Iff.rfl
/-- a list of the store that the body leaves as it is -/
theorem es_loopR {α : Type} {n : Nat} {b : TgM} {body : SM} (l : List α) (φ : α → D) (I : List α → Sv.Env → Store → Prop) (hn : ∀ done env st, I done env st → st[n]? = some (.lst (l.map φ))) (h0 : I [] env st)
    (step : ∀ done a rest env st, l = done ++ a :: rest → I done env st → Eg (b (φ a) env st) fun env1 st1 => Es (body env1 st1) (I (done ++ [a])) R Y N (I (done ++ [a]))) (fin : ∀ env st, I l env st → N env st) (k : Nat) (hk : l.length < k) : Es (forRL n b body k 0 env st) N R Y B C := by
  have go : ∀ (rest done : List α) (k : Nat) (env : Sv.Env) (st : Store), l = done ++ rest → rest.length < k → I done env st → Es (forRL n b body k done.length env st) N R Y B C := by
    intro rest
    induction rest with
    | nil =>
      intro done k env st e hk h
      rw [List.append_nil] at e
      subst e
      cases k with
      | zero => omega
      | succ k =>
        unfold forRL
        rw [hn _ _ _ h]
        dsimp only
        rw [List.getElem?_eq_none (by rw [List.length_map]; omega)]
        have := fin env st h
        simp only [esx]
        exact this
    | cons d rest ih =>
      intro done k env st e hk h
      cases k with
      | zero => omega
      | succ k =>
      have z := step done d rest env st e h
      have hd : (l.map φ)[done.length]? = some (φ d) := by
        rw [e, List.map_append, List.getElem?_append_right (by rw [List.length_map]; omega)]
        simp
      unfold forRL
      rw [hn _ _ _ h]
      dsimp only
      rw [hd]
      dsimp only
      cases q : b (φ d) env st with
      | none => rw [q] at z; exact z.elim
      | some p =>
        rw [q] at z
        dsimp only
        have h1 : Es (body p.1 p.2) _ _ _ _ _ := z
        have e' : l = (done ++ [d]) ++ rest := by rw [e]; simp
        have hk' : rest.length < k := by rw [List.length_cons] at hk; omega
        have hl : (done ++ [d]).length = done.length + 1 := by simp
        cases q : body p.1 p.2 with
        | nx env2 st2 =>
          rw [q] at h1
          have := ih _ k env2 st2 e' hk' (by simp only [esx] at h1; exact h1)
          rw [hl] at this
          exact this
        | ct env2 st2 =>
          rw [q] at h1
          have := ih _ k env2 st2 e' hk' (by simp only [esx] at h1; exact h1)
          rw [hl] at this
          exact this
        | bk env2 st2 =>
          rw [q] at h1
          simp only [esx] at h1 ⊢
          exact h1
        | rt d2 st2 =>
          rw [q] at h1
          simp only [esx] at h1 ⊢
          exact h1
        | ex x env2 st2 =>
          rw [q] at h1
          simp only [esx] at h1 ⊢
          exact h1
        | bad =>
          rw [q] at h1
          simp only [esx] at h1 ⊢
          exact h1
  have := go l [] k env st rfl hk h0
  exact this
end
theorem ev_own {neg : Bool} {c : Str} {g : Fn} {n m : Nat} {f1 f2 : List (Str × D)} (h1 : st[n]? = some (.ins c f1)) (h2 : st[m]? = some (.ins c f2)) : Ev (eqOwn neg c g (.ref n) (.ref m) st) P X ↔ Ev (g [.ref n, .ref m] st) (fun r s => onB r fun t => P (.bl (neg ^^ t)) s) fun _ _ => False := by
  unfold eqOwn
  dsimp only
  rw [h1, h2]
  dsimp only
  rw [ev_gd, ev_bnd]
  simp only [beq_self_eq_true, Bool.and_self, true_and]
  rw [ev_calmly_x]
  refine iff_of_eq (congrArg (fun z => Ev (g [.ref n, .ref m] st) z fun _ _ => False) (funext fun r => funext fun s => propext ?_))
  cases r with
  | bl t => exact ev_ret
  | _ => simp only [evx]; exact Iff.rfl
theorem ev_compR {N : Nat} {vs : List Nat} {f : Sv.Env → M D} {b : TgM} {c : Sv.Env → M Bool} {e : Sv.Env → M D} : Ev (sCompR N vs f b c e env st) P X ↔ Ev (f env st) (fun d s => ∃ n, d = .ref n ∧ Ev (compRL n b c e N 0 (wipeE env vs) s) (fun ys s2 => ys.length ≤ 16777216 ∧ P (.lst ys) s2) X) X := by
  unfold sCompR
  rw [ev_bnd]
  refine iff_of_eq (congrArg (fun z => Ev (f env st) z X) (funext fun d => funext fun s => propext ?_))
  cases d with
  | ref n =>
    simp only [ev_bnd, ev_gd, ev_ret, lim_ok]
    exact ⟨fun z => ⟨n, rfl, z⟩, fun ⟨m, q, z⟩ => by cases q; exact z⟩
  | _ =>
    simp only [evx]
    exact ⟨fun z => z.elim, fun ⟨m, q, z⟩ => by cases q⟩
theorem compRA {α : Type} {n : Nat} {b : TgM} {c : Sv.Env → M Bool} {e : Sv.Env → M D} (l : List α) (φ : α → D) (f : α → D) (p : α → Bool) (g : α → Sv.Env) (hs : st[n]? = some (.lst (l.map φ))) (h : ∀ a ∈ l, b (φ a) env st = some (g a, st) ∧ c (g a) st = .ok (p a) st ∧ (p a = true → e (g a) st = .ok (f a) st)) :
    ∀ (k i : Nat), l.length < k + i → i ≤ l.length → compRL n b c e k i env st = .ok (((l.drop i).filter p).map f) st
  | 0, i, h1, h2 => by omega
  | k + 1, i, h1, h2 => by
    unfold compRL
    rw [hs]
    dsimp only
    by_cases hi : i < l.length
    · have e1 : (l.map φ)[i]? = some (φ l[i]) := by rw [List.getElem?_map, List.getElem?_eq_getElem hi]; rfl
      rw [e1]
      dsimp only
      obtain ⟨h3, h4, h5⟩ := h l[i] (List.getElem_mem hi)
      rw [h3]
      dsimp only
      have ih := compRA l φ f p g hs h k (i + 1) (by omega) (by omega)
      have hc : calmly (c (g l[i])) st = .ok (p l[i]) st := by unfold calmly; rw [h4]
      rw [bnd_ok hc, List.drop_eq_getElem_cons hi, List.filter_cons]
      cases q : p l[i] with
      | false =>
        dsimp only
        rw [ih]
        rfl
      | true =>
        dsimp only
        have he : calmly (e (g l[i])) st = .ok (f l[i]) st := by unfold calmly; rw [h5 q]
        rw [bnd_ok he, bnd_ok ih]
        rfl
    · rw [List.getElem?_eq_none (by rw [List.length_map]; omega)]
      dsimp only
      rw [List.drop_of_length_le (by omega)]
      rfl
end
end Sv
/-! Sv41: rules for Sv38. -/
namespace Sv
open PySem L2 LamX
section
variable {st : Store} {env : Sv.Env} {P : D → Store → Prop} {X : Ex → Store → Prop}
theorem ev_mkK {c : Str} {g : Fn} {n : Nat} {pm : List Nat} {fa : Sv.Env → M (List D)} : Ev (sMkK c g n pm fa env st) P X ↔ Ev (fa env st) (fun ds s1 => ds.length = n ∧ Ev (g (.ref s1.length :: permL pm ds) (s1 ++ [.ins c []])) (fun r s2 => r = .non ∧ P (.ref s1.length) s2) X) X := by
  unfold sMkK
  rw [ev_bnd]
  refine iff_of_eq (congrArg (fun z => Ev (fa env st) z X) (funext fun ds => funext fun s1 => propext ?_))
  rw [ev_gd, ev_bnd, ev_new, ev_bnd, beq_iff_eq]
  refine and_congr_right fun _ => iff_of_eq (congrArg (fun z => Ev (g (.ref s1.length :: permL pm ds) (s1 ++ [.ins c []])) z X) (funext fun r => funext fun s2 => propext ?_))
  rw [ev_bnd]
  cases r with
  | non => simp only [isNonO, ev_ret, true_and]
  | _ => simp only [isNonO, evx, reduceCtorEq, false_and]; exact Iff.rfl
theorem ev_ownP {c : Str} {g : Fn} {n : Nat} {b : D} {f1 : List (Str × D)} (h1 : st[n]? = some (.ins c f1)) : Ev (eqOwnP c g (.ref n) b st) P X ↔ plainD b = true ∧ Ev (g [.ref n, b] st) (fun r s => onB r fun t => P (.bl t) s) fun _ _ => False := by
  unfold eqOwnP
  dsimp only
  rw [h1]
  dsimp only
  rw [ev_gd, ev_bnd]
  simp only [beq_self_eq_true, Bool.true_and]
  rw [ev_calmly_x]
  refine and_congr_right fun _ => iff_of_eq (congrArg (fun z => Ev (g [.ref n, b] st) z fun _ _ => False) (funext fun r => funext fun s => propext ?_))
  cases r with
  | bl t => exact ev_ret
  | _ => simp only [evx]; exact Iff.rfl
end
end Sv
namespace k78
open PySem PySem.Spec PyProof.Rows L2
def dv_SIZES : List (Str × He.Dv) := [("look", .int 2), ("miss", .int 1), ("still", .int 2)]
def kv_SIZES : List (Str × Sv.D) := [("look", .int 2), ("miss", .int 1), ("still", .int 2)]
def top (i : Nat) : Stmt := PySem.Challenge.pw_telltracks_k78_followers_made.main.body.getD i (.Pass ⟨0, 0, 0, 0⟩)
def clsB : Stmt → List Stmt
  | .ClassDef _ _ _ b .. => b
  | _ => []
def mth (i j : Nat) : Stmt := (clsB (top i)).getD j (.Pass ⟨0, 0, 0, 0⟩)
abbrev s_is_whole : Stmt := top 8
def d_is_whole : He.DefD := ⟨("is_whole", none), "is_whole", "is_whole", defArgs s_is_whole, defBody s_is_whole, defScope s_is_whole, [], []⟩
abbrev s_is_between : Stmt := top 9
def d_is_between : He.DefD := ⟨("is_between", none), "is_between", "is_between", defArgs s_is_between, defBody s_is_between, defScope s_is_between, [], []⟩
abbrev s_is_string : Stmt := top 10
def d_is_string : He.DefD := ⟨("is_string", none), "is_string", "is_string", defArgs s_is_string, defBody s_is_string, defScope s_is_string, [], []⟩
abbrev s_is_tuple_of : Stmt := top 11
def d_is_tuple_of : He.DefD := ⟨("is_tuple_of", none), "is_tuple_of", "is_tuple_of", defArgs s_is_tuple_of, defBody s_is_tuple_of, defScope s_is_tuple_of, [], []⟩
abbrev s_is_row : Stmt := top 12
def d_is_row : He.DefD := ⟨("is_row", none), "is_row", "is_row", defArgs s_is_row, defBody s_is_row, defScope s_is_row, [], []⟩
abbrev s_first_wrong : Stmt := top 13
def d_first_wrong : He.DefD := ⟨("first_wrong", none), "first_wrong", "first_wrong", defArgs s_first_wrong, defBody s_first_wrong, defScope s_first_wrong, [], []⟩
abbrev s_is_sorts : Stmt := top 21
def d_is_sorts : He.DefD := ⟨("is_sorts", none), "is_sorts", "is_sorts", defArgs s_is_sorts, defBody s_is_sorts, defScope s_is_sorts, [], []⟩
abbrev s_is_mark : Stmt := top 22
def d_is_mark : He.DefD := ⟨("is_mark", none), "is_mark", "is_mark", defArgs s_is_mark, defBody s_is_mark, defScope s_is_mark, [], []⟩
abbrev s_wrong_mark : Stmt := top 23
def d_wrong_mark : He.DefD := ⟨("wrong_mark", none), "wrong_mark", "wrong_mark", defArgs s_wrong_mark, defBody s_wrong_mark, defScope s_wrong_mark, [], []⟩
abbrev s_is_wide : Stmt := top 24
def d_is_wide : He.DefD := ⟨("is_wide", none), "is_wide", "is_wide", defArgs s_is_wide, defBody s_is_wide, defScope s_is_wide, [], []⟩
abbrev s_is_window : Stmt := top 25
def d_is_window : He.DefD := ⟨("is_window", none), "is_window", "is_window", defArgs s_is_window, defBody s_is_window, defScope s_is_window, [], []⟩
abbrev s_is_misread : Stmt := top 26
def d_is_misread : He.DefD := ⟨("is_misread", none), "is_misread", "is_misread", defArgs s_is_misread, defBody s_is_misread, defScope s_is_misread, [], []⟩
abbrev s_check_sorts : Stmt := top 27
def d_check_sorts : He.DefD := ⟨("check_sorts", none), "check_sorts", "check_sorts", defArgs s_check_sorts, defBody s_check_sorts, defScope s_check_sorts, [], []⟩
abbrev s_check_marks : Stmt := top 28
def d_check_marks : He.DefD := ⟨("check_marks", none), "check_marks", "check_marks", defArgs s_check_marks, defBody s_check_marks, defScope s_check_marks, [], []⟩
abbrev s_check_ring : Stmt := top 29
def d_check_ring : He.DefD := ⟨("check_ring", none), "check_ring", "check_ring", defArgs s_check_ring, defBody s_check_ring, defScope s_check_ring, [], []⟩
abbrev s_check_wide : Stmt := top 30
def d_check_wide : He.DefD := ⟨("check_wide", none), "check_wide", "check_wide", defArgs s_check_wide, defBody s_check_wide, defScope s_check_wide, [], []⟩
abbrev s_check_misread : Stmt := top 31
def d_check_misread : He.DefD := ⟨("check_misread", none), "check_misread", "check_misread", defArgs s_check_misread, defBody s_check_misread, defScope s_check_misread, [], []⟩
abbrev s_check_steps : Stmt := top 32
def d_check_steps : He.DefD := ⟨("check_steps", none), "check_steps", "check_steps", defArgs s_check_steps, defBody s_check_steps, defScope s_check_steps, [], []⟩
abbrev s_check_sorted_ring : Stmt := top 33
def d_check_sorted_ring : He.DefD := ⟨("check_sorted_ring", none), "check_sorted_ring", "check_sorted_ring", defArgs s_check_sorted_ring, defBody s_check_sorted_ring, defScope s_check_sorted_ring, [], []⟩
abbrev s_check_read : Stmt := top 34
def d_check_read : He.DefD := ⟨("check_read", none), "check_read", "check_read", defArgs s_check_read, defBody s_check_read, defScope s_check_read, [], []⟩
abbrev s_window_at : Stmt := top 35
def d_window_at : He.DefD := ⟨("window_at", none), "window_at", "window_at", defArgs s_window_at, defBody s_window_at, defScope s_window_at, [], []⟩
abbrev s_apart_of : Stmt := top 36
def d_apart_of : He.DefD := ⟨("apart_of", none), "apart_of", "apart_of", defArgs s_apart_of, defBody s_apart_of, defScope s_apart_of, [], []⟩
abbrev s_has_form : Stmt := top 41
def d_has_form : He.DefD := ⟨("has_form", none), "has_form", "has_form", defArgs s_has_form, defBody s_has_form, defScope s_has_form, [], []⟩
abbrev s_check_deed : Stmt := top 42
def d_check_deed : He.DefD := ⟨("check_deed", none), "check_deed", "check_deed", defArgs s_check_deed, defBody s_check_deed, defScope s_check_deed, [], []⟩
abbrev s_steps_on : Stmt := top 43
def d_steps_on : He.DefD := ⟨("steps_on", none), "steps_on", "steps_on", defArgs s_steps_on, defBody s_steps_on, defScope s_steps_on, [], []⟩
abbrev s_fitting : Stmt := top 44
def d_fitting : He.DefD := ⟨("fitting", none), "fitting", "fitting", defArgs s_fitting, defBody s_fitting, defScope s_fitting, [], []⟩
abbrev s_places_behind : Stmt := top 45
def d_places_behind : He.DefD := ⟨("places_behind", none), "places_behind", "places_behind", defArgs s_places_behind, defBody s_places_behind, defScope s_places_behind, [], []⟩
abbrev s_reason_against : Stmt := top 46
def d_reason_against : He.DefD := ⟨("reason_against", none), "reason_against", "reason_against", defArgs s_reason_against, defBody s_reason_against, defScope s_reason_against, [], []⟩
abbrev s_check_barred : Stmt := top 47
def d_check_barred : He.DefD := ⟨("check_barred", none), "check_barred", "check_barred", defArgs s_check_barred, defBody s_check_barred, defScope s_check_barred, [], []⟩
abbrev s_parts_of : Stmt := top 50
def d_parts_of : He.DefD := ⟨("parts_of", none), "parts_of", "parts_of", defArgs s_parts_of, defBody s_parts_of, defScope s_parts_of, [], []⟩
abbrev s_told_of : Stmt := top 51
def d_told_of : He.DefD := ⟨("told_of", none), "told_of", "told_of", defArgs s_told_of, defBody s_told_of, defScope s_told_of, [], []⟩
abbrev s__law_pool : Stmt := top 53
def d__law_pool : He.DefD := ⟨("_law_pool", none), "_law_pool", "_law_pool", defArgs s__law_pool, defBody s__law_pool, defScope s__law_pool, [], []⟩
abbrev s__law_draw : Stmt := top 54
def d__law_draw : He.DefD := ⟨("_law_draw", none), "_law_draw", "_law_draw", defArgs s__law_draw, defBody s__law_draw, defScope s__law_draw, [], []⟩
abbrev s__law_pick : Stmt := top 55
def d__law_pick : He.DefD := ⟨("_law_pick", none), "_law_pick", "_law_pick", defArgs s__law_pick, defBody s__law_pick, defScope s__law_pick, [], []⟩
abbrev s__law_ring : Stmt := top 56
def d__law_ring : He.DefD := ⟨("_law_ring", none), "_law_ring", "_law_ring", defArgs s__law_ring, defBody s__law_ring, defScope s__law_ring, [], []⟩
abbrev s__law_window : Stmt := top 57
def d__law_window : He.DefD := ⟨("_law_window", none), "_law_window", "_law_window", defArgs s__law_window, defBody s__law_window, defScope s__law_window, [], []⟩
abbrev s__law_barred : Stmt := top 58
def d__law_barred : He.DefD := ⟨("_law_barred", none), "_law_barred", "_law_barred", defArgs s__law_barred, defBody s__law_barred, defScope s__law_barred, [], []⟩
abbrev s__law_begun : Stmt := top 59
def d__law_begun : He.DefD := ⟨("_law_begun", none), "_law_begun", "_law_begun", defArgs s__law_begun, defBody s__law_begun, defScope s__law_begun, [], []⟩
abbrev s__law_made : Stmt := top 60
def d__law_made : He.DefD := ⟨("_law_made", none), "_law_made", "_law_made", defArgs s__law_made, defBody s__law_made, defScope s__law_made, [], []⟩
abbrev s__law_deed : Stmt := top 61
def d__law_deed : He.DefD := ⟨("_law_deed", none), "_law_deed", "_law_deed", defArgs s__law_deed, defBody s__law_deed, defScope s__law_deed, [], []⟩
abbrev s__law_told : Stmt := top 62
def d__law_told : He.DefD := ⟨("_law_told", none), "_law_told", "_law_told", defArgs s__law_told, defBody s__law_told, defScope s__law_told, [], []⟩
abbrev s__law_refused : Stmt := top 63
def d__law_refused : He.DefD := ⟨("_law_refused", none), "_law_refused", "_law_refused", defArgs s__law_refused, defBody s__law_refused, defScope s__law_refused, [], []⟩
abbrev s__law_right : Stmt := top 64
def d__law_right : He.DefD := ⟨("_law_right", none), "_law_right", "_law_right", defArgs s__law_right, defBody s__law_right, defScope s__law_right, [], []⟩
abbrev s_law : Stmt := top 65
def d_law : He.DefD := ⟨("law", none), "law", "law", defArgs s_law, defBody s_law, defScope s_law, [], []⟩
abbrev s_InvalidNumber___init__ : Stmt := mth 3 0
def d_InvalidNumber___init__ : He.DefD := ⟨("InvalidNumber", some "__init__"), "__init__", "InvalidNumber.__init__", defArgs s_InvalidNumber___init__, defBody s_InvalidNumber___init__, defScope s_InvalidNumber___init__, [], []⟩
abbrev s_InvalidRing___init__ : Stmt := mth 4 0
def d_InvalidRing___init__ : He.DefD := ⟨("InvalidRing", some "__init__"), "__init__", "InvalidRing.__init__", defArgs s_InvalidRing___init__, defBody s_InvalidRing___init__, defScope s_InvalidRing___init__, [], []⟩
abbrev s_InvalidDeed___init__ : Stmt := mth 5 0
def d_InvalidDeed___init__ : He.DefD := ⟨("InvalidDeed", some "__init__"), "__init__", "InvalidDeed.__init__", defArgs s_InvalidDeed___init__, defBody s_InvalidDeed___init__, defScope s_InvalidDeed___init__, [], []⟩
abbrev s_Barred___init__ : Stmt := mth 6 0
def d_Barred___init__ : He.DefD := ⟨("Barred", some "__init__"), "__init__", "Barred.__init__", defArgs s_Barred___init__, defBody s_Barred___init__, defScope s_Barred___init__, [], []⟩
abbrev s_Follower___init__ : Stmt := mth 49 0
def d_Follower___init__ : He.DefD := ⟨("Follower", some "__init__"), "__init__", "Follower.__init__", defArgs s_Follower___init__, defBody s_Follower___init__, defScope s_Follower___init__, [.int 0, .int 1, .int 0], []⟩
abbrev s_Follower_do : Stmt := mth 49 1
def d_Follower_do : He.DefD := ⟨("Follower", some "do"), "do", "Follower.do", defArgs s_Follower_do, defBody s_Follower_do, defScope s_Follower_do, [], []⟩
abbrev s_Follower_is_told : Stmt := mth 49 3
def d_Follower_is_told : He.DefD := ⟨("Follower", some "is_told"), "is_told", "Follower.is_told", defArgs s_Follower_is_told, defBody s_Follower_is_told, defScope s_Follower_is_told, [], []⟩
abbrev s_Follower___eq__ : Stmt := mth 49 4
def d_Follower___eq__ : He.DefD := ⟨("Follower", some "__eq__"), "__eq__", "Follower.__eq__", defArgs s_Follower___eq__, defBody s_Follower___eq__, defScope s_Follower___eq__, [], []⟩
def fn : List He.DefD := [d_is_whole, d_is_between, d_is_string, d_is_tuple_of, d_is_row, d_first_wrong, d_is_sorts, d_is_mark, d_wrong_mark, d_is_wide, d_is_window, d_is_misread, d_check_sorts, d_check_marks, d_check_ring, d_check_wide, d_check_misread, d_check_steps, d_check_sorted_ring, d_check_read, d_window_at, d_apart_of, d_has_form, d_check_deed, d_steps_on, d_fitting, d_places_behind, d_reason_against, d_check_barred, d_parts_of, d_told_of, d__law_pool, d__law_draw, d__law_pick, d__law_ring, d__law_window, d__law_barred, d__law_begun, d__law_made, d__law_deed, d__law_told, d__law_refused, d__law_right, d_law, d_InvalidNumber___init__, d_InvalidRing___init__, d_InvalidDeed___init__, d_Barred___init__, d_Follower___init__, d_Follower_do, d_Follower_is_told, d_Follower___eq__]
def fa : List He.Fa := [.glo "is_whole", .glo "is_between", .glo "is_string", .glo "is_tuple_of", .glo "is_row", .glo "first_wrong", .glo "is_sorts", .glo "is_mark", .glo "wrong_mark", .glo "is_wide", .glo "is_window", .glo "is_misread", .glo "check_sorts", .glo "check_marks", .glo "check_ring", .glo "check_wide", .glo "check_misread", .glo "check_steps", .glo "check_sorted_ring", .glo "check_read", .glo "window_at", .glo "apart_of", .glo "has_form", .glo "check_deed", .glo "steps_on", .glo "fitting", .glo "places_behind", .glo "reason_against", .glo "check_barred", .glo "parts_of", .glo "told_of", .glo "_law_pool", .glo "_law_draw", .glo "_law_pick", .glo "_law_ring", .glo "_law_window", .glo "_law_barred", .glo "_law_begun", .glo "_law_made", .glo "_law_deed", .glo "_law_told", .glo "_law_refused", .glo "_law_right", .glo "law", .free "ValueError", .free "abs", .free "all", .free "bool", .free "divmod", .free "enumerate", .free "int", .free "isinstance", .free "len", .free "list", .free "max", .free "min", .free "range", .free "repr", .free "sorted", .free "str", .free "tuple", .free "zip", .int "FEWEST_SORTS" 2, .str "FIRST" "first", .int "MOST_MARKS" 32, .int "MOST_MISREAD" 3, .int "MOST_SORTS" 4, .int "MOST_STEP" 5, .int "MOST_WIDE" 6, .str "NEVER" "never", .glo "SIZES", .glo "Barred", .glo "Follower", .cls "Follower", .mkr "Follower", .noat "Follower" "deeds", .noat "Follower" "least", .noat "Follower" "misread", .noat "Follower" "most", .noat "Follower" "past", .noat "Follower" "places", .noat "Follower" "ring", .noat "Follower" "sorts", .noat "Follower" "wide", .meth "Follower" "do", .meth "Follower" "is_told", .glo "InvalidDeed", .glo "InvalidNumber", .glo "InvalidRing", .glo "TrackError"]
def exl (K : PySem.W.Frag) : List Bool := [Sv.errB K "Barred" "reason", Sv.insTyB K "Follower", Sv.errB K "InvalidDeed" "index", Sv.errB K "InvalidNumber" "given", Sv.errB K "InvalidRing" "index", He.valsB K (He.ga K "SIZES") dv_SIZES, Sv.exmB K [("Barred", false), ("InvalidDeed", false), ("InvalidNumber", false), ("InvalidRing", true)] (.ref (He.ga K "InvalidRing")), Sv.exmB K [("Barred", false), ("InvalidDeed", false), ("InvalidNumber", true), ("InvalidRing", false)] (.ref (He.ga K "InvalidNumber")), Sv.exmB K [("Barred", true), ("InvalidDeed", false), ("InvalidNumber", false), ("InvalidRing", false)] (.ref (He.ga K "Barred")), Sv.iseB K [("Barred", true), ("InvalidDeed", true), ("InvalidNumber", true), ("InvalidRing", true)] (.type "ValueError"), Sv.iseB K [("Barred", true), ("InvalidDeed", true), ("InvalidNumber", true), ("InvalidRing", true)] (.ref (He.ga K "TrackError")), Sv.isoB K "Follower", Sv.eqOB K "Follower", Sv.eqPB K "Follower", decide ((He.cT K (("wrong_mark", none) : He.Defn)).2 ≠ (He.cT K (("_law_right", none) : He.Defn)).2)]
def ex (K : PySem.W.Frag) : Bool := (exl K).all id
def tf : List He.Defn := [(("wrong_mark", none) : He.Defn), (("_law_right", none) : He.Defn)]
def tabs : List He.Tab := [(fun K => He.ga K "SIZES", ["look", "miss", "still"])]
abbrev R : PySem.W.OpenRow := PySem.W.OpenLaw.row PySem.Challenge.rw_telltracks_k78_followers_made
abbrev hk : PySem.W.Hook := He.hookX 8 fa fn tabs tf ex
def ob (s : PySem.W.SharedT) : He.AlX := He.obsX 8 fa fn tabs tf ex (HandSHeadRun.getT s)
theorem ob_eq (s : PySem.W.SharedT) : ob s = hk.obs s.abs := He.obsX_eq (HandSHeadRun.getT_eq s)
def loose0 : List PySem.Str := ["_wall", "__name__", "TrackError", "InvalidNumber", "InvalidRing", "InvalidDeed", "Barred", "is_whole", "is_between", "is_string", "is_tuple_of", "is_row", "first_wrong", "FEWEST_SORTS", "MOST_SORTS", "MOST_MARKS", "MOST_WIDE", "MOST_MISREAD", "MOST_STEP", "is_sorts", "is_mark", "wrong_mark", "is_wide", "is_window", "is_misread", "check_sorts", "check_marks", "check_ring", "check_wide", "check_misread"]
def loose1 : List PySem.Str := ["check_steps", "check_sorted_ring", "check_read", "window_at", "apart_of", "SIZES", "NEVER", "FIRST", "has_form", "check_deed", "steps_on", "fitting", "places_behind", "reason_against", "check_barred", "Follower", "parts_of", "told_of", "_law_pool", "_law_draw", "_law_pick", "_law_ring", "_law_window", "_law_barred", "_law_begun", "_law_made", "_law_deed", "_law_told", "_law_refused", "_law_right"]
abbrev loose : List PySem.Str := loose0 ++ loose1
theorem run_f (w : World) : HandSHeadRun.RunEq R (PySem.W.view R.prog [65]) hk ob 15000 loose (w.withFollow "special-get-raises" false) := by
  intro os
  kernel_rfl
theorem run_t (w : World) : HandSHeadRun.RunEq R (PySem.W.view R.prog [65]) hk ob 15000 loose (w.withFollow "special-get-raises" true) := by
  intro os
  kernel_rfl
theorem run (w : World) : HandSHeadRun.RunEq R (PySem.W.view R.prog [65]) hk ob 15000 loose w := PySem.W.byRow2 "special-get-raises" run_f run_t w
end k78
namespace k78
open PySem L2 LamX Sv
open PyProof.Rows hiding St
abbrev C (w : World) (K : PySem.W.Frag) (mg : Str → Option Value) (base : Heap) : Prop := Cw fa fn tabs tf ex w K mg base
section
variable {w : World} {K : PySem.W.Frag} {mg : Str → Option Value} {base : Heap} (c : C w K mg base)
include c
theorem ex_0 : (Sv.errB K "Barred" "reason") = true := (List.all_eq_true.mp c.more) (Sv.errB K "Barred" "reason") (by unfold exl; simp only [List.mem_cons, true_or, or_true])
theorem ex_1 : (Sv.insTyB K "Follower") = true := (List.all_eq_true.mp c.more) (Sv.insTyB K "Follower") (by unfold exl; simp only [List.mem_cons, true_or, or_true])
theorem ex_2 : (Sv.errB K "InvalidDeed" "index") = true := (List.all_eq_true.mp c.more) (Sv.errB K "InvalidDeed" "index") (by unfold exl; simp only [List.mem_cons, true_or, or_true])
theorem ex_3 : (Sv.errB K "InvalidNumber" "given") = true := (List.all_eq_true.mp c.more) (Sv.errB K "InvalidNumber" "given") (by unfold exl; simp only [List.mem_cons, true_or, or_true])
theorem ex_4 : (Sv.errB K "InvalidRing" "index") = true := (List.all_eq_true.mp c.more) (Sv.errB K "InvalidRing" "index") (by unfold exl; simp only [List.mem_cons, true_or, or_true])
theorem ex_5 : (He.valsB K (He.ga K "SIZES") dv_SIZES) = true := (List.all_eq_true.mp c.more) (He.valsB K (He.ga K "SIZES") dv_SIZES) (by unfold exl; simp only [List.mem_cons, true_or, or_true])
theorem ex_6 : (Sv.exmB K [("Barred", false), ("InvalidDeed", false), ("InvalidNumber", false), ("InvalidRing", true)] (.ref (He.ga K "InvalidRing"))) = true := (List.all_eq_true.mp c.more) (Sv.exmB K [("Barred", false), ("InvalidDeed", false), ("InvalidNumber", false), ("InvalidRing", true)] (.ref (He.ga K "InvalidRing"))) (by unfold exl; simp only [List.mem_cons, true_or, or_true])
theorem ex_7 : (Sv.exmB K [("Barred", false), ("InvalidDeed", false), ("InvalidNumber", true), ("InvalidRing", false)] (.ref (He.ga K "InvalidNumber"))) = true := (List.all_eq_true.mp c.more) (Sv.exmB K [("Barred", false), ("InvalidDeed", false), ("InvalidNumber", true), ("InvalidRing", false)] (.ref (He.ga K "InvalidNumber"))) (by unfold exl; simp only [List.mem_cons, true_or, or_true])
theorem ex_8 : (Sv.exmB K [("Barred", true), ("InvalidDeed", false), ("InvalidNumber", false), ("InvalidRing", false)] (.ref (He.ga K "Barred"))) = true := (List.all_eq_true.mp c.more) (Sv.exmB K [("Barred", true), ("InvalidDeed", false), ("InvalidNumber", false), ("InvalidRing", false)] (.ref (He.ga K "Barred"))) (by unfold exl; simp only [List.mem_cons, true_or, or_true])
theorem ex_9 : (Sv.iseB K [("Barred", true), ("InvalidDeed", true), ("InvalidNumber", true), ("InvalidRing", true)] (.type "ValueError")) = true := (List.all_eq_true.mp c.more) (Sv.iseB K [("Barred", true), ("InvalidDeed", true), ("InvalidNumber", true), ("InvalidRing", true)] (.type "ValueError")) (by unfold exl; simp only [List.mem_cons, true_or, or_true])
theorem ex_10 : (Sv.iseB K [("Barred", true), ("InvalidDeed", true), ("InvalidNumber", true), ("InvalidRing", true)] (.ref (He.ga K "TrackError"))) = true := (List.all_eq_true.mp c.more) (Sv.iseB K [("Barred", true), ("InvalidDeed", true), ("InvalidNumber", true), ("InvalidRing", true)] (.ref (He.ga K "TrackError"))) (by unfold exl; simp only [List.mem_cons, true_or, or_true])
theorem ex_11 : (Sv.isoB K "Follower") = true := (List.all_eq_true.mp c.more) (Sv.isoB K "Follower") (by unfold exl; simp only [List.mem_cons, true_or, or_true])
theorem ex_12 : (Sv.eqOB K "Follower") = true := (List.all_eq_true.mp c.more) (Sv.eqOB K "Follower") (by unfold exl; simp only [List.mem_cons, true_or, or_true])
theorem ex_13 : (Sv.eqPB K "Follower") = true := (List.all_eq_true.mp c.more) (Sv.eqPB K "Follower") (by unfold exl; simp only [List.mem_cons, true_or, or_true])
theorem ex_14 : (decide ((He.cT K (("wrong_mark", none) : He.Defn)).2 ≠ (He.cT K (("_law_right", none) : He.Defn)).2)) = true := (List.all_eq_true.mp c.more) (decide ((He.cT K (("wrong_mark", none) : He.Defn)).2 ≠ (He.cT K (("_law_right", none) : He.Defn)).2)) (by unfold exl; simp only [List.mem_cons, true_or, or_true])
theorem kt_SIZES : KTab K w (He.ga K "SIZES") kv_SIZES := ktab_of (kds := dv_SIZES) (c.tab 0) (ex_5 c) rfl
theorem err_Barred : ErrTxt K mg "Barred" "Barred.__init__" "reason" (He.ga K "Barred") (He.ma K (He.ga K "Barred") "__init__") := by
  obtain ⟨fd, F⟩ := c.def_ 47
  exact errTxt ⟨fun _ _ _ _ _ _ _ _ _ _ _ _ _ _ => rfl, rfl, rfl, by decide, by decide⟩ (c.glo 71) F (ex_0 c)
theorem err_InvalidDeed : ErrTxt K mg "InvalidDeed" "InvalidDeed.__init__" "index" (He.ga K "InvalidDeed") (He.ma K (He.ga K "InvalidDeed") "__init__") := by
  obtain ⟨fd, F⟩ := c.def_ 46
  exact errTxt ⟨fun _ _ _ _ _ _ _ _ _ _ _ _ _ _ => rfl, rfl, rfl, by decide, by decide⟩ (c.glo 86) F (ex_2 c)
theorem err_InvalidNumber : ErrTxt K mg "InvalidNumber" "InvalidNumber.__init__" "given" (He.ga K "InvalidNumber") (He.ma K (He.ga K "InvalidNumber") "__init__") := by
  obtain ⟨fd, F⟩ := c.def_ 44
  exact errTxt ⟨fun _ _ _ _ _ _ _ _ _ _ _ _ _ _ => rfl, rfl, rfl, by decide, by decide⟩ (c.glo 87) F (ex_3 c)
theorem err_InvalidRing : ErrTxt K mg "InvalidRing" "InvalidRing.__init__" "index" (He.ga K "InvalidRing") (He.ma K (He.ga K "InvalidRing") "__init__") := by
  obtain ⟨fd, F⟩ := c.def_ 45
  exact errTxt ⟨fun _ _ _ _ _ _ _ _ _ _ _ _ _ _ => rfl, rfl, rfl, by decide, by decide⟩ (c.glo 88) F (ex_4 c)
theorem exm_InvalidRing : exmB K [("Barred", false), ("InvalidDeed", false), ("InvalidNumber", false), ("InvalidRing", true)] (.ref (He.ga K "InvalidRing")) = true := ex_6 c
theorem exm_InvalidNumber : exmB K [("Barred", false), ("InvalidDeed", false), ("InvalidNumber", true), ("InvalidRing", false)] (.ref (He.ga K "InvalidNumber")) = true := ex_7 c
theorem exm_Barred : exmB K [("Barred", true), ("InvalidDeed", false), ("InvalidNumber", false), ("InvalidRing", false)] (.ref (He.ga K "Barred")) = true := ex_8 c
theorem ise_ValueError : iseB K [("Barred", true), ("InvalidDeed", true), ("InvalidNumber", true), ("InvalidRing", true)] (.type "ValueError") = true := ex_9 c
theorem ise_TrackError : iseB K [("Barred", true), ("InvalidDeed", true), ("InvalidNumber", true), ("InvalidRing", true)] (.ref (He.ga K "TrackError")) = true := ex_10 c
theorem iso_Follower : isoB K "Follower" = true := ex_11 c
theorem eqo_Follower : eqOB K "Follower" = true := ex_12 c
theorem eqp_Follower : eqPB K "Follower" = true := ex_13 c
end
def tL (K : PySem.W.Frag) : List (Addr × Str) := [((He.cT K (("wrong_mark", none) : He.Defn)).2, ("wrong_mark" ++ ".<locals>.") ++ "<lambda>"), ((He.cT K (("_law_right", none) : He.Defn)).2, ("_law_right" ++ ".<locals>.") ++ "<lambda>")]
theorem tm_wrong_mark (K : PySem.W.Frag) : (("wrong_mark", none) : He.Defn) ∈ tf := by
  unfold tf
  simp only [List.mem_cons, true_or, or_true]
theorem tl_wrong_mark (K : PySem.W.Frag) : ((He.cT K (("wrong_mark", none) : He.Defn)).2, (("wrong_mark" : Str) ++ ".<locals>.") ++ "<lambda>") ∈ tL K := by
  unfold tL
  simp only [List.mem_cons, true_or, or_true]
theorem tu_wrong_mark {w : World} {K : PySem.W.Frag} {mg : Str → Option Value} {base : Heap} (c : C w K mg base) : ∀ p ∈ tL K, p.1 = (He.cT K (("wrong_mark", none) : He.Defn)).2 → p.2 = (("wrong_mark" : Str) ++ ".<locals>.") ++ "<lambda>" := by
  intro p hp e
  unfold tL at hp
  simp only [List.mem_cons, List.not_mem_nil, or_false] at hp
  rcases hp with rfl | rfl
  · rfl
  · exact absurd (e.symm) (of_decide_eq_true (ex_14 c))
theorem code_wrong_mark {w : World} {K : PySem.W.Frag} {mg : Str → Option Value} {base : Heap} (c : C w K mg base) {x qual : Str} {params : Arguments} {body : List Stmt} {scope : Scope} {dvs : List V} {kws : List (Str × V)} {fd : FuncData} (F : FunD K x qual params body scope dvs kws (He.fAd K (("wrong_mark", none) : He.Defn)) fd) : fd.code = .ref (He.cT K (("wrong_mark", none) : He.Defn)).1 := code_of F
theorem tm__law_right (K : PySem.W.Frag) : (("_law_right", none) : He.Defn) ∈ tf := by
  unfold tf
  simp only [List.mem_cons, true_or, or_true]
theorem tl__law_right (K : PySem.W.Frag) : ((He.cT K (("_law_right", none) : He.Defn)).2, (("_law_right" : Str) ++ ".<locals>.") ++ "<lambda>") ∈ tL K := by
  unfold tL
  simp only [List.mem_cons, true_or, or_true]
theorem tu__law_right {w : World} {K : PySem.W.Frag} {mg : Str → Option Value} {base : Heap} (c : C w K mg base) : ∀ p ∈ tL K, p.1 = (He.cT K (("_law_right", none) : He.Defn)).2 → p.2 = (("_law_right" : Str) ++ ".<locals>.") ++ "<lambda>" := by
  intro p hp e
  unfold tL at hp
  simp only [List.mem_cons, List.not_mem_nil, or_false] at hp
  rcases hp with rfl | rfl
  · exact absurd (e) (of_decide_eq_true (ex_14 c))
  · rfl
theorem code__law_right {w : World} {K : PySem.W.Frag} {mg : Str → Option Value} {base : Heap} (c : C w K mg base) {x qual : Str} {params : Arguments} {body : List Stmt} {scope : Scope} {dvs : List V} {kws : List (Str × V)} {fd : FuncData} (F : FunD K x qual params body scope dvs kws (He.fAd K (("_law_right", none) : He.Defn)) fd) : fd.code = .ref (He.cT K (("_law_right", none) : He.Defn)).1 := code_of F
section
theorem Bm_Follower___init__ {w : World} {K : PySem.W.Frag} {mg : Str → Option Value} {base : Heap} (c : C w K mg base) {fd : FuncData} (h : ∀ j : Nat, j ≤ 3 → ∃ ds, Vals ((d_Follower___init__.dvs K).drop j) ds ∧ L2.Binds K fd ["self", "sorts", "ring", "wide", "least", "most", "misread"] ds) : L2.Binds K fd ["self", "sorts", "ring", "wide", "least", "most", "misread"] [] := by
  obtain ⟨ds, hv, hb⟩ := h 3 (by decide)
  cases hv
  exact hb
abbrev N__law_draw : List Str := ["pool", "many", "figure", "held"]
theorem nd__law_draw : (N__law_draw).Nodup := by decide +kernel
theorem sc__law_draw : FnScope N__law_draw ["pool", "many"] (defScope s__law_draw) := ⟨rfl, rfl, rfl, nd__law_draw, rfl, by decide +kernel, by decide +kernel⟩
def b__law_draw : SM := (bCons (bIf (s2 opGt (s2 ixD (sVar 0) (sCon (.int 1))) (sCon (.int 0))) (bCons (bAsg (sApp kDivmod (aCons (s2 ixD (sVar 0) (sCon (.int 1))) (aCons (sVar 1) aNil))) (gTp 2 (gsCons (gSb (sVar 0) (sCon (.int 1))) (gsCons (gNm 2) gsNil)))) (bRet (sVar 2))) bNil) (bCons (bAsg (s2 opAdd (s2 ixD (sVar 0) (sCon (.int 2))) (sCon (.int 1))) (gSb (sVar 0) (sCon (.int 2)))) (bCons (bSet 3 (sApp kInt (aCons (s2 ixD (sVar 0) (sCon (.int 0))) aNil))) (bCons (bAsg (s2 opMod (sApp kInt (aCons (s2 opAdd (s2 opAdd (s2 opMul (sVar 3) (s2 opAdd (s2 opMod (sVar 3) (sCon (.int 20011))) (sCon (.int 30011)))) (s2 opMul (sCon (.int 70001)) (s2 ixD (sVar 0) (sCon (.int 2))))) (sCon (.int 9))) aNil)) (sCon (.int 2147482937))) (gSb (sVar 0) (sCon (.int 0)))) (bRet (s2 opMod (sApp kInt (aCons (s2 opDiv (s2 ixD (sVar 0) (sCon (.int 0))) (sCon (.int 128))) aNil)) (sVar 1)))))))
def m__law_draw : Fn := fnM 2 4 b__law_draw
theorem ok__law_draw {P : Program} {w : World} {K : PySem.W.Frag} {mg : Str → Option Value} {base : Heap} (c : C w K mg base) : ∃ fd, FunD K d__law_draw.name d__law_draw.qual d__law_draw.params d__law_draw.body d__law_draw.scope (d__law_draw.dvs K) (d__law_draw.kws K) (He.ga K "_law_draw") fd ∧ L2.Binds K fd ["pool", "many"] [] ∧ FD P w ⟨K, mg, ⟨tL K, none, none⟩⟩ base 1 (He.ga K "_law_draw") fd ["pool", "many"] m__law_draw := by
  obtain ⟨fd, F⟩ := c.def_ 32
  refine ⟨fd, F, F.bindsN fun _ _ _ _ _ _ us hl => match us, hl with | [_, _], _ => rfl, fd_of (k := 0) F sc__law_draw (by decide) fun A outer s H E hr hG => ?_⟩
  have tk : Takes (cxOf (CX P w) P w K mg base N__law_draw "_law_draw" (defScope s__law_draw) (He.ga K "_law_draw") fd.code A outer s H E) (fun c d _ H => E c d H) := takes_of rfl rfl rfl rfl
  have po : PassesOwn (model P w) (cxOf (CX P w) P w K mg base N__law_draw "_law_draw" (defScope s__law_draw) (He.ga K "_law_draw") fd.code A outer s H E).A (cxOf (CX P w) P w K mg base N__law_draw "_law_draw" (defScope s__law_draw) (He.ga K "_law_draw") fd.code A outer s H E).env (cxOf (CX P w) P w K mg base N__law_draw "_law_draw" (defScope s__law_draw) (He.ga K "_law_draw") fd.code A outer s H E).xe := passes_of rfl
  exact (sb_cons (ss_if (st_cmp op_gt sv_gt (se_ix (room_u1 hr) (se_var (i := 0) rfl (vis_of rfl)) se_int) se_int rfl) (sb_cons (ss_asg (se_callB call_divmod sc_divmod rfl (c.free 48) bt_divmod (sa_cons (se_ix (room_u1 hr) (se_var (i := 0) rfl (vis_of rfl)) se_int) (sa_cons (se_var (i := 1) rfl (vis_of rfl)) sa_nil))) (sg_tup rfl (sgs_cons (sg_sub (Wx := WF) (room_u1 hr) (se_var (i := 0) rfl (vis_of rfl)) se_int) (sgs_cons (sg_name (i := 2) nd__law_draw rfl (loc_of rfl)) sgs_nil)))) (sb_one (ss_ret (se_var (i := 2) rfl (vis_of rfl))))) sb_nil) (sb_cons (ss_asg (se_op op_addS sv_add (se_ix (room_u1 hr) (se_var (i := 0) rfl (vis_of rfl)) se_int) se_int) (sg_sub (Wx := WF) (room_u1 hr) (se_var (i := 0) rfl (vis_of rfl)) se_int)) (sb_cons (ss_set (i := 3) nd__law_draw rfl (loc_of rfl) (se_callTy cr_intA sc_int rfl (c.free 50) bt_int (sa_cons (se_ix (room_u1 hr) (se_var (i := 0) rfl (vis_of rfl)) se_int) sa_nil))) (sb_cons (ss_asg (se_op op_mod sv_mod (se_callTy cr_intA sc_int rfl (c.free 50) bt_int (sa_cons (se_op op_addS sv_add (se_op op_addS sv_add (se_op op_mulS sv_mul (se_var (i := 3) rfl (vis_of rfl)) (se_op op_addS sv_add (se_op op_mod sv_mod (se_var (i := 3) rfl (vis_of rfl)) se_int) se_int)) (se_op op_mulS sv_mul se_int (se_ix (room_u1 hr) (se_var (i := 0) rfl (vis_of rfl)) se_int))) se_int) sa_nil)) se_int) (sg_sub (Wx := WF) (room_u1 hr) (se_var (i := 0) rfl (vis_of rfl)) se_int)) (sb_one (ss_ret (se_op op_mod sv_mod (se_callTy cr_intA sc_int rfl (c.free 50) bt_int (sa_cons (se_op op_fdiv sv_div (se_ix (room_u1 hr) (se_var (i := 0) rfl (vis_of rfl)) se_int) se_int) sa_nil)) (se_var (i := 1) rfl (vis_of rfl)))))))))
abbrev N__law_ring : List Str := ["pool", "sorts", "most", "found", "turn"]
theorem nd__law_ring : (N__law_ring).Nodup := by decide +kernel
theorem sc__law_ring : FnScope N__law_ring ["pool", "sorts", "most"] (defScope s__law_ring) := ⟨rfl, rfl, rfl, nd__law_ring, rfl, by decide +kernel, by decide +kernel⟩
def b__law_ring : SM := (bCons (bSet 3 (sTup aNil)) (bCons (bFor (iR1 (aCons (s2 opAdd (sCon (.int 1)) (sCl m__law_draw [] (aCons (sVar 0) (aCons (sVar 2) aNil)))) aNil)) (gNm 4) (bSet 3 (s2 opAdd (sVar 3) (sTup (aCons (sCl m__law_draw [] (aCons (sVar 0) (aCons (sVar 1) aNil))) aNil))))) (bRet (sIte (sAnd (s2 opLe (s2 opMul (sCon (.int 2)) (sApp kLen (aCons (sVar 3) aNil))) (sVar 2)) (s2 opEq (sCl m__law_draw [] (aCons (sVar 0) (aCons (sCon (.int 6)) aNil))) (sCon (.int 0)))) (s2 opMul (sVar 3) (sCon (.int 2))) (sVar 3)))))
def m__law_ring : Fn := fnM 3 5 b__law_ring
theorem ok__law_ring {P : Program} {w : World} {K : PySem.W.Frag} {mg : Str → Option Value} {base : Heap} (c : C w K mg base) : ∃ fd, FunD K d__law_ring.name d__law_ring.qual d__law_ring.params d__law_ring.body d__law_ring.scope (d__law_ring.dvs K) (d__law_ring.kws K) (He.ga K "_law_ring") fd ∧ L2.Binds K fd ["pool", "sorts", "most"] [] ∧ FD P w ⟨K, mg, ⟨tL K, none, none⟩⟩ base 2 (He.ga K "_law_ring") fd ["pool", "sorts", "most"] m__law_ring := by
  obtain ⟨fd, F⟩ := c.def_ 34
  obtain ⟨fd__law_draw, F__law_draw, B__law_draw, G__law_draw⟩ := ok__law_draw (P := P) c
  refine ⟨fd, F, F.bindsN fun _ _ _ _ _ _ us hl => match us, hl with | [_, _, _], _ => rfl, fd_of (k := 1) F sc__law_ring (by decide) fun A outer s H E hr hG => ?_⟩
  have tk : Takes (cxOf (CX P w) P w K mg base N__law_ring "_law_ring" (defScope s__law_ring) (He.ga K "_law_ring") fd.code A outer s H E) (fun c d _ H => E c d H) := takes_of rfl rfl rfl rfl
  have po : PassesOwn (model P w) (cxOf (CX P w) P w K mg base N__law_ring "_law_ring" (defScope s__law_ring) (He.ga K "_law_ring") fd.code A outer s H E).A (cxOf (CX P w) P w K mg base N__law_ring "_law_ring" (defScope s__law_ring) (He.ga K "_law_ring") fd.code A outer s H E).env (cxOf (CX P w) P w K mg base N__law_ring "_law_ring" (defScope s__law_ring) (He.ga K "_law_ring") fd.code A outer s H E).xe := passes_of rfl
  exact (sb_cons (ss_set (i := 3) nd__law_ring rfl (loc_of rfl) (se_tup sa_nil)) (sb_cons (ss_for po rfl (si_rng1 rfl (c.free 56) (sa_cons (se_op op_addS sv_add se_int (se_call (G__law_draw.any rfl) (hr.mono (by decide)) hG rfl (c.glo 32) F__law_draw.kp bare_nil B__law_draw .nil tk (sa_cons (se_var (i := 0) rfl (vis_of rfl)) (sa_cons (se_var (i := 2) rfl (vis_of rfl)) sa_nil)))) sa_nil)) (sg_name (i := 4) nd__law_ring rfl (loc_of rfl)) (sb_one (ss_set (i := 3) nd__law_ring rfl (loc_of rfl) (se_op op_addS sv_add (se_var (i := 3) rfl (vis_of rfl)) (se_tup (sa_cons (se_call (G__law_draw.any rfl) (hr.mono (by decide)) hG rfl (c.glo 32) F__law_draw.kp bare_nil B__law_draw .nil tk (sa_cons (se_var (i := 0) rfl (vis_of rfl)) (sa_cons (se_var (i := 1) rfl (vis_of rfl)) sa_nil))) sa_nil)))))) (sb_one (ss_ret (se_ite (SW.st (sw_and (st_cmp op_le sv_le (se_op op_mulS sv_mul se_int (se_callB cr_lenA sc_len rfl (c.free 52) bt_len (sa_cons (se_var (i := 3) rfl (vis_of rfl)) sa_nil))) (se_var (i := 2) rfl (vis_of rfl)) rfl) (sw_one_and (st_cmp (op_eqD hr.units) sv_eq (se_call (G__law_draw.any rfl) (hr.mono (by decide)) hG rfl (c.glo 32) F__law_draw.kp bare_nil B__law_draw .nil tk (sa_cons (se_var (i := 0) rfl (vis_of rfl)) (sa_cons se_int sa_nil))) se_int rfl)))) (se_op op_mulS sv_mul (se_var (i := 3) rfl (vis_of rfl)) se_int) (se_var (i := 3) rfl (vis_of rfl)))))))
abbrev N__law_pick : List Str := ["pool", "some"]
theorem nd__law_pick : (N__law_pick).Nodup := by decide +kernel
theorem sc__law_pick : FnScope N__law_pick ["pool", "some"] (defScope s__law_pick) := ⟨rfl, rfl, rfl, nd__law_pick, rfl, by decide +kernel, by decide +kernel⟩
def b__law_pick : SM := (bRet (s2 ixD (sVar 1) (sCl m__law_draw [] (aCons (sVar 0) (aCons (sApp kLen (aCons (sVar 1) aNil)) aNil)))))
def m__law_pick : Fn := fnM 2 2 b__law_pick
theorem ok__law_pick {P : Program} {w : World} {K : PySem.W.Frag} {mg : Str → Option Value} {base : Heap} (c : C w K mg base) : ∃ fd, FunD K d__law_pick.name d__law_pick.qual d__law_pick.params d__law_pick.body d__law_pick.scope (d__law_pick.dvs K) (d__law_pick.kws K) (He.ga K "_law_pick") fd ∧ L2.Binds K fd ["pool", "some"] [] ∧ FD P w ⟨K, mg, ⟨tL K, none, none⟩⟩ base 2 (He.ga K "_law_pick") fd ["pool", "some"] m__law_pick := by
  obtain ⟨fd, F⟩ := c.def_ 33
  obtain ⟨fd__law_draw, F__law_draw, B__law_draw, G__law_draw⟩ := ok__law_draw (P := P) c
  refine ⟨fd, F, F.bindsN fun _ _ _ _ _ _ us hl => match us, hl with | [_, _], _ => rfl, fd_of (k := 1) F sc__law_pick (by decide) fun A outer s H E hr hG => ?_⟩
  have tk : Takes (cxOf (CX P w) P w K mg base N__law_pick "_law_pick" (defScope s__law_pick) (He.ga K "_law_pick") fd.code A outer s H E) (fun c d _ H => E c d H) := takes_of rfl rfl rfl rfl
  have po : PassesOwn (model P w) (cxOf (CX P w) P w K mg base N__law_pick "_law_pick" (defScope s__law_pick) (He.ga K "_law_pick") fd.code A outer s H E).A (cxOf (CX P w) P w K mg base N__law_pick "_law_pick" (defScope s__law_pick) (He.ga K "_law_pick") fd.code A outer s H E).env (cxOf (CX P w) P w K mg base N__law_pick "_law_pick" (defScope s__law_pick) (He.ga K "_law_pick") fd.code A outer s H E).xe := passes_of rfl
  exact (sb_one (ss_ret (se_ix (room_u1 hr) (se_var (i := 1) rfl (vis_of rfl)) (se_call (G__law_draw.any rfl) (hr.mono (by decide)) hG rfl (c.glo 32) F__law_draw.kp bare_nil B__law_draw .nil tk (sa_cons (se_var (i := 0) rfl (vis_of rfl)) (sa_cons (se_callB cr_lenA sc_len rfl (c.free 52) bt_len (sa_cons (se_var (i := 1) rfl (vis_of rfl)) sa_nil)) sa_nil))))))
abbrev N__law_begun : List Str := ["pool", "sorts", "least", "ring", "wide"]
theorem nd__law_begun : (N__law_begun).Nodup := by decide +kernel
theorem sc__law_begun : FnScope N__law_begun ["pool"] (defScope s__law_begun) := ⟨rfl, rfl, rfl, nd__law_begun, rfl, by decide +kernel, by decide +kernel⟩
def b__law_begun : SM := (bCons (bPar [1, 2] (aCons (s2 opAdd (sCon (.int 2)) (sCl m__law_draw [] (aCons (sVar 0) (aCons (sCon (.int 2)) aNil)))) (aCons (sCl m__law_draw [] (aCons (sVar 0) (aCons (sCon (.int 2)) aNil))) aNil))) (bCons (bPar [3, 4] (aCons (sCl m__law_ring [] (aCons (sVar 0) (aCons (sVar 1) (aCons (sCon (.int 9)) aNil)))) (aCons (s2 opAdd (sCon (.int 1)) (sCl m__law_draw [] (aCons (sVar 0) (aCons (sCon (.int 3)) aNil)))) aNil))) (bRet (sTup (aCons (sVar 1) (aCons (sVar 3) (aCons (sVar 4) (aCons (sVar 2) (aCons (s2 opAdd (sVar 2) (sCl m__law_draw [] (aCons (sVar 0) (aCons (sCon (.int 2)) aNil)))) (aCons (sCl m__law_pick [] (aCons (sVar 0) (aCons (sLst (aCons (sCon (.int 0)) (aCons (sCon (.int 0)) (aCons (sCon (.int 0)) (aCons (sCon (.int 1)) aNil))))) aNil))) aNil))))))))))
def m__law_begun : Fn := fnM 1 5 b__law_begun
theorem ok__law_begun {P : Program} {w : World} {K : PySem.W.Frag} {mg : Str → Option Value} {base : Heap} (c : C w K mg base) : ∃ fd, FunD K d__law_begun.name d__law_begun.qual d__law_begun.params d__law_begun.body d__law_begun.scope (d__law_begun.dvs K) (d__law_begun.kws K) (He.ga K "_law_begun") fd ∧ L2.Binds K fd ["pool"] [] ∧ FD P w ⟨K, mg, ⟨tL K, none, none⟩⟩ base 3 (He.ga K "_law_begun") fd ["pool"] m__law_begun := by
  obtain ⟨fd, F⟩ := c.def_ 37
  obtain ⟨fd__law_draw, F__law_draw, B__law_draw, G__law_draw⟩ := ok__law_draw (P := P) c
  obtain ⟨fd__law_ring, F__law_ring, B__law_ring, G__law_ring⟩ := ok__law_ring (P := P) c
  obtain ⟨fd__law_pick, F__law_pick, B__law_pick, G__law_pick⟩ := ok__law_pick (P := P) c
  refine ⟨fd, F, F.bindsN fun _ _ _ _ _ _ us hl => match us, hl with | [_], _ => rfl, fd_of (k := 2) F sc__law_begun (by decide) fun A outer s H E hr hG => ?_⟩
  have tk : Takes (cxOf (CX P w) P w K mg base N__law_begun "_law_begun" (defScope s__law_begun) (He.ga K "_law_begun") fd.code A outer s H E) (fun c d _ H => E c d H) := takes_of rfl rfl rfl rfl
  have po : PassesOwn (model P w) (cxOf (CX P w) P w K mg base N__law_begun "_law_begun" (defScope s__law_begun) (He.ga K "_law_begun") fd.code A outer s H E).A (cxOf (CX P w) P w K mg base N__law_begun "_law_begun" (defScope s__law_begun) (He.ga K "_law_begun") fd.code A outer s H E).env (cxOf (CX P w) P w K mg base N__law_begun "_law_begun" (defScope s__law_begun) (He.ga K "_law_begun") fd.code A outer s H E).xe := passes_of rfl
  exact (sb_cons (ss_par (i := 1) (j := 2) rfl nd__law_begun rfl rfl (by decide) rfl rfl (sa_cons (se_op op_addS sv_add se_int (se_call (G__law_draw.any rfl) (hr.mono (by decide)) hG rfl (c.glo 32) F__law_draw.kp bare_nil B__law_draw .nil tk (sa_cons (se_var (i := 0) rfl (vis_of rfl)) (sa_cons se_int sa_nil)))) (sa_cons (se_call (G__law_draw.any rfl) (hr.mono (by decide)) hG rfl (c.glo 32) F__law_draw.kp bare_nil B__law_draw .nil tk (sa_cons (se_var (i := 0) rfl (vis_of rfl)) (sa_cons se_int sa_nil))) sa_nil)) rfl) (sb_cons (ss_par (i := 3) (j := 4) rfl nd__law_begun rfl rfl (by decide) rfl rfl (sa_cons (se_call (G__law_ring.any rfl) (hr.mono (by decide)) hG rfl (c.glo 34) F__law_ring.kp bare_nil B__law_ring .nil tk (sa_cons (se_var (i := 0) rfl (vis_of rfl)) (sa_cons (se_var (i := 1) rfl (vis_of rfl)) (sa_cons se_int sa_nil)))) (sa_cons (se_op op_addS sv_add se_int (se_call (G__law_draw.any rfl) (hr.mono (by decide)) hG rfl (c.glo 32) F__law_draw.kp bare_nil B__law_draw .nil tk (sa_cons (se_var (i := 0) rfl (vis_of rfl)) (sa_cons se_int sa_nil)))) sa_nil)) rfl) (sb_one (ss_ret (se_tup (sa_cons (se_var (i := 1) rfl (vis_of rfl)) (sa_cons (se_var (i := 3) rfl (vis_of rfl)) (sa_cons (se_var (i := 4) rfl (vis_of rfl)) (sa_cons (se_var (i := 2) rfl (vis_of rfl)) (sa_cons (se_op op_addS sv_add (se_var (i := 2) rfl (vis_of rfl)) (se_call (G__law_draw.any rfl) (hr.mono (by decide)) hG rfl (c.glo 32) F__law_draw.kp bare_nil B__law_draw .nil tk (sa_cons (se_var (i := 0) rfl (vis_of rfl)) (sa_cons se_int sa_nil)))) (sa_cons (se_call (G__law_pick.any rfl) (hr.mono (by decide)) hG rfl (c.glo 33) F__law_pick.kp bare_nil B__law_pick .nil tk (sa_cons (se_var (i := 0) rfl (vis_of rfl)) (sa_cons (se_lst (sa_cons se_int (sa_cons se_int (sa_cons se_int (sa_cons se_int sa_nil))))) sa_nil))) sa_nil)))))))))))
abbrev N_is_whole : List Str := ["value"]
theorem nd_is_whole : (N_is_whole).Nodup := by decide +kernel
theorem sc_is_whole : FnScope N_is_whole ["value"] (defScope s_is_whole) := ⟨rfl, rfl, rfl, nd_is_whole, rfl, by decide +kernel, by decide +kernel⟩
def b_is_whole : SM := (bRet (sAnd (s1 (isiD (ansB "int")) (sVar 0)) (sNot (s1 (isiD (ansB "bool")) (sVar 0)))))
def m_is_whole : Fn := fnM 1 1 b_is_whole
theorem ok_is_whole {P : Program} {w : World} {K : PySem.W.Frag} {mg : Str → Option Value} {base : Heap} (c : C w K mg base) : ∃ fd, FunD K d_is_whole.name d_is_whole.qual d_is_whole.params d_is_whole.body d_is_whole.scope (d_is_whole.dvs K) (d_is_whole.kws K) (He.ga K "is_whole") fd ∧ L2.Binds K fd ["value"] [] ∧ FD P w ⟨K, mg, ⟨tL K, none, none⟩⟩ base 1 (He.ga K "is_whole") fd ["value"] m_is_whole := by
  obtain ⟨fd, F⟩ := c.def_ 0
  refine ⟨fd, F, F.bindsN fun _ _ _ _ _ _ us hl => match us, hl with | [_], _ => rfl, fd_of (k := 0) F sc_is_whole (by decide) fun A outer s H E hr hG => ?_⟩
  have tk : Takes (cxOf (CX P w) P w K mg base N_is_whole "is_whole" (defScope s_is_whole) (He.ga K "is_whole") fd.code A outer s H E) (fun c d _ H => E c d H) := takes_of rfl rfl rfl rfl
  have po : PassesOwn (model P w) (cxOf (CX P w) P w K mg base N_is_whole "is_whole" (defScope s_is_whole) (He.ga K "is_whole") fd.code A outer s H E).A (cxOf (CX P w) P w K mg base N_is_whole "is_whole" (defScope s_is_whole) (He.ga K "is_whole") fd.code A outer s H E).env (cxOf (CX P w) P w K mg base N_is_whole "is_whole" (defScope s_is_whole) (He.ga K "is_whole") fd.code A outer s H E).xe := passes_of rfl
  exact (sb_one (ss_ret (se_and (se_isi (isiB "int") (.ty "int") rfl (c.free 51) (se_var (i := 0) rfl (vis_of rfl)) (isi_by rfl (c.free 50) bt_int)) (se_one (se_not (se_isi (isiB "bool") (.ty "bool") rfl (c.free 51) (se_var (i := 0) rfl (vis_of rfl)) (isi_by rfl (c.free 47) bt_bool)))))))
abbrev N_is_between : List Str := ["value", "least", "most"]
theorem nd_is_between : (N_is_between).Nodup := by decide +kernel
theorem sc_is_between : FnScope N_is_between ["value", "least", "most"] (defScope s_is_between) := ⟨rfl, rfl, rfl, nd_is_between, rfl, by decide +kernel, by decide +kernel⟩
def b_is_between : SM := (bRet (sAnd (sCl m_is_whole [] (aCons (sVar 0) aNil)) (sChain opLe opLe (sVar 1) (sVar 0) (sVar 2))))
def m_is_between : Fn := fnM 3 3 b_is_between
theorem ok_is_between {P : Program} {w : World} {K : PySem.W.Frag} {mg : Str → Option Value} {base : Heap} (c : C w K mg base) : ∃ fd, FunD K d_is_between.name d_is_between.qual d_is_between.params d_is_between.body d_is_between.scope (d_is_between.dvs K) (d_is_between.kws K) (He.ga K "is_between") fd ∧ L2.Binds K fd ["value", "least", "most"] [] ∧ FD P w ⟨K, mg, ⟨tL K, none, none⟩⟩ base 2 (He.ga K "is_between") fd ["value", "least", "most"] m_is_between := by
  obtain ⟨fd, F⟩ := c.def_ 1
  obtain ⟨fd_is_whole, F_is_whole, B_is_whole, G_is_whole⟩ := ok_is_whole (P := P) c
  refine ⟨fd, F, F.bindsN fun _ _ _ _ _ _ us hl => match us, hl with | [_, _, _], _ => rfl, fd_of (k := 1) F sc_is_between (by decide) fun A outer s H E hr hG => ?_⟩
  have tk : Takes (cxOf (CX P w) P w K mg base N_is_between "is_between" (defScope s_is_between) (He.ga K "is_between") fd.code A outer s H E) (fun c d _ H => E c d H) := takes_of rfl rfl rfl rfl
  have po : PassesOwn (model P w) (cxOf (CX P w) P w K mg base N_is_between "is_between" (defScope s_is_between) (He.ga K "is_between") fd.code A outer s H E).A (cxOf (CX P w) P w K mg base N_is_between "is_between" (defScope s_is_between) (He.ga K "is_between") fd.code A outer s H E).env (cxOf (CX P w) P w K mg base N_is_between "is_between" (defScope s_is_between) (He.ga K "is_between") fd.code A outer s H E).xe := passes_of rfl
  exact (sb_one (ss_ret (se_and (se_call (G_is_whole.any rfl) (hr.mono (by decide)) hG rfl (c.glo 0) F_is_whole.kp bare_nil B_is_whole .nil tk (sa_cons (se_var (i := 0) rfl (vis_of rfl)) sa_nil)) (se_one (se_chain op_le sv_le op_le sv_le (se_var (i := 1) rfl (vis_of rfl)) (se_var (i := 0) rfl (vis_of rfl)) (se_var (i := 2) rfl (vis_of rfl)))))))
abbrev N_is_sorts : List Str := ["value"]
theorem nd_is_sorts : (N_is_sorts).Nodup := by decide +kernel
theorem sc_is_sorts : FnScope N_is_sorts ["value"] (defScope s_is_sorts) := ⟨rfl, rfl, rfl, nd_is_sorts, rfl, by decide +kernel, by decide +kernel⟩
def b_is_sorts : SM := (bRet (sCl m_is_between [] (aCons (sVar 0) (aCons (sCon (.int 2)) (aCons (sCon (.int 4)) aNil)))))
def m_is_sorts : Fn := fnM 1 1 b_is_sorts
theorem ok_is_sorts {P : Program} {w : World} {K : PySem.W.Frag} {mg : Str → Option Value} {base : Heap} (c : C w K mg base) : ∃ fd, FunD K d_is_sorts.name d_is_sorts.qual d_is_sorts.params d_is_sorts.body d_is_sorts.scope (d_is_sorts.dvs K) (d_is_sorts.kws K) (He.ga K "is_sorts") fd ∧ L2.Binds K fd ["value"] [] ∧ FD P w ⟨K, mg, ⟨tL K, none, none⟩⟩ base 3 (He.ga K "is_sorts") fd ["value"] m_is_sorts := by
  obtain ⟨fd, F⟩ := c.def_ 6
  obtain ⟨fd_is_between, F_is_between, B_is_between, G_is_between⟩ := ok_is_between (P := P) c
  refine ⟨fd, F, F.bindsN fun _ _ _ _ _ _ us hl => match us, hl with | [_], _ => rfl, fd_of (k := 2) F sc_is_sorts (by decide) fun A outer s H E hr hG => ?_⟩
  have tk : Takes (cxOf (CX P w) P w K mg base N_is_sorts "is_sorts" (defScope s_is_sorts) (He.ga K "is_sorts") fd.code A outer s H E) (fun c d _ H => E c d H) := takes_of rfl rfl rfl rfl
  have po : PassesOwn (model P w) (cxOf (CX P w) P w K mg base N_is_sorts "is_sorts" (defScope s_is_sorts) (He.ga K "is_sorts") fd.code A outer s H E).A (cxOf (CX P w) P w K mg base N_is_sorts "is_sorts" (defScope s_is_sorts) (He.ga K "is_sorts") fd.code A outer s H E).env (cxOf (CX P w) P w K mg base N_is_sorts "is_sorts" (defScope s_is_sorts) (He.ga K "is_sorts") fd.code A outer s H E).xe := passes_of rfl
  exact (sb_one (ss_ret (se_call (G_is_between.any rfl) (hr.mono (by decide)) hG rfl (c.glo 1) F_is_between.kp bare_nil B_is_between .nil tk (sa_cons (se_var (i := 0) rfl (vis_of rfl)) (sa_cons (se_gi rfl (c.int 62)) (sa_cons (se_gi rfl (c.int 66)) sa_nil))))))
abbrev N_check_sorts : List Str := ["sorts"]
theorem nd_check_sorts : (N_check_sorts).Nodup := by decide +kernel
theorem sc_check_sorts : FnScope N_check_sorts ["sorts"] (defScope s_check_sorts) := ⟨rfl, rfl, rfl, nd_check_sorts, rfl, by decide +kernel, by decide +kernel⟩
def b_check_sorts : SM := (bIf (sNot (sCl m_is_sorts [] (aCons (sVar 0) aNil))) (bRaise "InvalidNumber" "given" (sVar 0)) bNil)
def m_check_sorts : Fn := fnM 1 1 b_check_sorts
theorem ok_check_sorts {P : Program} {w : World} {K : PySem.W.Frag} {mg : Str → Option Value} {base : Heap} (c : C w K mg base) : ∃ fd, FunD K d_check_sorts.name d_check_sorts.qual d_check_sorts.params d_check_sorts.body d_check_sorts.scope (d_check_sorts.dvs K) (d_check_sorts.kws K) (He.ga K "check_sorts") fd ∧ L2.Binds K fd ["sorts"] [] ∧ FD P w ⟨K, mg, ⟨tL K, none, none⟩⟩ base 4 (He.ga K "check_sorts") fd ["sorts"] m_check_sorts := by
  obtain ⟨fd, F⟩ := c.def_ 12
  obtain ⟨fd_is_sorts, F_is_sorts, B_is_sorts, G_is_sorts⟩ := ok_is_sorts (P := P) c
  refine ⟨fd, F, F.bindsN fun _ _ _ _ _ _ us hl => match us, hl with | [_], _ => rfl, fd_of (k := 3) F sc_check_sorts (by decide) fun A outer s H E hr hG => ?_⟩
  have tk : Takes (cxOf (CX P w) P w K mg base N_check_sorts "check_sorts" (defScope s_check_sorts) (He.ga K "check_sorts") fd.code A outer s H E) (fun c d _ H => E c d H) := takes_of rfl rfl rfl rfl
  have po : PassesOwn (model P w) (cxOf (CX P w) P w K mg base N_check_sorts "check_sorts" (defScope s_check_sorts) (He.ga K "check_sorts") fd.code A outer s H E).A (cxOf (CX P w) P w K mg base N_check_sorts "check_sorts" (defScope s_check_sorts) (He.ga K "check_sorts") fd.code A outer s H E).env (cxOf (CX P w) P w K mg base N_check_sorts "check_sorts" (defScope s_check_sorts) (He.ga K "check_sorts") fd.code A outer s H E).xe := passes_of rfl
  exact (sb_one (ss_if (st_not (st_val (se_call (G_is_sorts.any rfl) (hr.mono (by decide)) hG rfl (c.glo 6) F_is_sorts.kp bare_nil B_is_sorts .nil tk (sa_cons (se_var (i := 0) rfl (vis_of rfl)) sa_nil)))) (sb_one (ss_raise rfl (err_InvalidNumber c) hr tk (se_var (i := 0) rfl (vis_of rfl)) rfl)) sb_nil))
abbrev N_is_row : List Str := ["value", "least", "most"]
theorem nd_is_row : (N_is_row).Nodup := by decide +kernel
theorem sc_is_row : FnScope N_is_row ["value", "least", "most"] (defScope s_is_row) := ⟨rfl, rfl, rfl, nd_is_row, rfl, by decide +kernel, by decide +kernel⟩
def b_is_row : SM := (bRet (sAnd (s1 (isiD (ansB "tuple")) (sVar 0)) (sChain opLe opLe (sVar 1) (sApp kLen (aCons (sVar 0) aNil)) (sVar 2))))
def m_is_row : Fn := fnM 3 3 b_is_row
theorem ok_is_row {P : Program} {w : World} {K : PySem.W.Frag} {mg : Str → Option Value} {base : Heap} (c : C w K mg base) : ∃ fd, FunD K d_is_row.name d_is_row.qual d_is_row.params d_is_row.body d_is_row.scope (d_is_row.dvs K) (d_is_row.kws K) (He.ga K "is_row") fd ∧ L2.Binds K fd ["value", "least", "most"] [] ∧ FD P w ⟨K, mg, ⟨tL K, none, none⟩⟩ base 1 (He.ga K "is_row") fd ["value", "least", "most"] m_is_row := by
  obtain ⟨fd, F⟩ := c.def_ 4
  refine ⟨fd, F, F.bindsN fun _ _ _ _ _ _ us hl => match us, hl with | [_, _, _], _ => rfl, fd_of (k := 0) F sc_is_row (by decide) fun A outer s H E hr hG => ?_⟩
  have tk : Takes (cxOf (CX P w) P w K mg base N_is_row "is_row" (defScope s_is_row) (He.ga K "is_row") fd.code A outer s H E) (fun c d _ H => E c d H) := takes_of rfl rfl rfl rfl
  have po : PassesOwn (model P w) (cxOf (CX P w) P w K mg base N_is_row "is_row" (defScope s_is_row) (He.ga K "is_row") fd.code A outer s H E).A (cxOf (CX P w) P w K mg base N_is_row "is_row" (defScope s_is_row) (He.ga K "is_row") fd.code A outer s H E).env (cxOf (CX P w) P w K mg base N_is_row "is_row" (defScope s_is_row) (He.ga K "is_row") fd.code A outer s H E).xe := passes_of rfl
  exact (sb_one (ss_ret (se_and (se_isi (isiB "tuple") (.ty "tuple") rfl (c.free 51) (se_var (i := 0) rfl (vis_of rfl)) (isi_by rfl (c.free 60) bt_tuple)) (se_one (se_chain op_le sv_le op_le sv_le (se_var (i := 1) rfl (vis_of rfl)) (se_callB cr_lenA sc_len rfl (c.free 52) bt_len (sa_cons (se_var (i := 0) rfl (vis_of rfl)) sa_nil)) (se_var (i := 2) rfl (vis_of rfl)))))))
abbrev N_first_wrong : List Str := ["value", "is_right", "index", "each"]
theorem nd_first_wrong : (N_first_wrong).Nodup := by decide +kernel
theorem sc_first_wrong : FnScope N_first_wrong ["value", "is_right"] (defScope s_first_wrong) := ⟨rfl, rfl, rfl, nd_first_wrong, rfl, by decide +kernel, by decide +kernel⟩
def h_first_wrong (g : Fn) : SM := (bCons (bFor (iEn (aCons (sVar 0) aNil)) (gTp 2 (gsCons (gNm 2) (gsCons (gNm 3) gsNil))) (bIf (sNot (sCv 1 g (aCons (sVar 3) (aCons (sSl (sVar 0) oNone (oSome (sVar 2))) aNil)))) (bRet (sVar 2)) bNil)) (bRet (sCon .non)))
theorem ho_first_wrong {P : Program} {w : World} {K : PySem.W.Frag} {mg : Str → Option Value} {base : Heap} (c : C w K mg base) : ∃ fd, FunD K "first_wrong" "first_wrong" (defArgs s_first_wrong) (defBody s_first_wrong) (defScope s_first_wrong) [] [] (He.ga K "first_wrong") fd ∧ L2.Binds K fd ["value", "is_right"] [] ∧ HOBody P w K mg base (tL K) 0 (He.ga K "first_wrong") fd "first_wrong" (defScope s_first_wrong) N_first_wrong (defBody s_first_wrong) "is_right" 1 h_first_wrong := by
  obtain ⟨fd, F⟩ := c.def_ 5
  refine ⟨fd, F, F.bindsN fun _ _ _ _ _ _ us hl => match us, hl with | [_, _], _ => rfl, fun A outer s H E T' g hr hG hT act => ?_⟩
  have hr : Room 0 (cxOf (CX P w) P w K mg base N_first_wrong "first_wrong" (defScope s_first_wrong) (He.ga K "first_wrong") fd.code A outer s H E).A := hr
  have tk : Takes (cxOf (CX P w) P w K mg base N_first_wrong "first_wrong" (defScope s_first_wrong) (He.ga K "first_wrong") fd.code A outer s H E) (fun c d _ H => E c d H) := takes_of rfl rfl rfl rfl
  have po : PassesOwn (model P w) (cxOf (CX P w) P w K mg base N_first_wrong "first_wrong" (defScope s_first_wrong) (He.ga K "first_wrong") fd.code A outer s H E).A (cxOf (CX P w) P w K mg base N_first_wrong "first_wrong" (defScope s_first_wrong) (He.ga K "first_wrong") fd.code A outer s H E).env (cxOf (CX P w) P w K mg base N_first_wrong "first_wrong" (defScope s_first_wrong) (He.ga K "first_wrong") fd.code A outer s H E).xe := passes_of rfl
  exact (sb_cons (ss_for po rfl (si_enum rfl (c.free 49) (sa_cons (se_var (i := 0) rfl (vis_of rfl)) sa_nil)) (sg_tup rfl (sgs_cons (sg_name (i := 2) nd_first_wrong rfl (loc_of rfl)) (sgs_cons (sg_name (i := 3) nd_first_wrong rfl (loc_of rfl)) sgs_nil))) (sb_one (ss_if (st_not (st_val (act.some_ _ [] _ _ _ _ _ _ tk (sa_cons (se_var (i := 3) rfl (vis_of rfl)) (sa_cons (se_slice (se_var (i := 0) rfl (vis_of rfl)) so_none (so_some (se_var (i := 2) rfl (vis_of rfl)))) sa_nil)) rfl rfl))) (sb_one (ss_ret (se_var (i := 2) rfl (vis_of rfl)))) sb_nil))) (sb_one (ss_ret se_non)))
abbrev N_is_mark : List Str := ["sorts", "value"]
theorem nd_is_mark : (N_is_mark).Nodup := by decide +kernel
theorem sc_is_mark : FnScope N_is_mark ["sorts", "value"] (defScope s_is_mark) := ⟨rfl, rfl, rfl, nd_is_mark, rfl, by decide +kernel, by decide +kernel⟩
def b_is_mark : SM := (bRet (sCl m_is_between [] (aCons (sVar 1) (aCons (sCon (.int 0)) (aCons (s2 opSub (sVar 0) (sCon (.int 1))) aNil)))))
def m_is_mark : Fn := fnM 2 2 b_is_mark
theorem ok_is_mark {P : Program} {w : World} {K : PySem.W.Frag} {mg : Str → Option Value} {base : Heap} (c : C w K mg base) : ∃ fd, FunD K d_is_mark.name d_is_mark.qual d_is_mark.params d_is_mark.body d_is_mark.scope (d_is_mark.dvs K) (d_is_mark.kws K) (He.ga K "is_mark") fd ∧ L2.Binds K fd ["sorts", "value"] [] ∧ FD P w ⟨K, mg, ⟨tL K, none, none⟩⟩ base 3 (He.ga K "is_mark") fd ["sorts", "value"] m_is_mark := by
  obtain ⟨fd, F⟩ := c.def_ 7
  obtain ⟨fd_is_between, F_is_between, B_is_between, G_is_between⟩ := ok_is_between (P := P) c
  refine ⟨fd, F, F.bindsN fun _ _ _ _ _ _ us hl => match us, hl with | [_, _], _ => rfl, fd_of (k := 2) F sc_is_mark (by decide) fun A outer s H E hr hG => ?_⟩
  have tk : Takes (cxOf (CX P w) P w K mg base N_is_mark "is_mark" (defScope s_is_mark) (He.ga K "is_mark") fd.code A outer s H E) (fun c d _ H => E c d H) := takes_of rfl rfl rfl rfl
  have po : PassesOwn (model P w) (cxOf (CX P w) P w K mg base N_is_mark "is_mark" (defScope s_is_mark) (He.ga K "is_mark") fd.code A outer s H E).A (cxOf (CX P w) P w K mg base N_is_mark "is_mark" (defScope s_is_mark) (He.ga K "is_mark") fd.code A outer s H E).env (cxOf (CX P w) P w K mg base N_is_mark "is_mark" (defScope s_is_mark) (He.ga K "is_mark") fd.code A outer s H E).xe := passes_of rfl
  exact (sb_one (ss_ret (se_call (G_is_between.any rfl) (hr.mono (by decide)) hG rfl (c.glo 1) F_is_between.kp bare_nil B_is_between .nil tk (sa_cons (se_var (i := 1) rfl (vis_of rfl)) (sa_cons se_int (sa_cons (se_op op_sub sv_sub (se_var (i := 0) rfl (vis_of rfl)) se_int) sa_nil))))))
abbrev N_wrong_mark : List Str := ["sorts", "value"]
theorem nd_wrong_mark : (N_wrong_mark).Nodup := by decide +kernel
theorem sc_wrong_mark : FnScope N_wrong_mark ["sorts", "value"] (defScope s_wrong_mark) := ⟨rfl, rfl, rfl, nd_wrong_mark, rfl, by decide +kernel, by decide +kernel⟩
def b_wrong_mark : SM := (bRet (sHO (fnH 1 4 h_first_wrong) 2 [1] (sCl m_is_mark [] (aCons (sVar 0) (aCons (sVar 2) aNil))) (aCons (sVar 1) aNil)))
def m_wrong_mark : Fn := fnM 2 2 b_wrong_mark
theorem ok_wrong_mark {P : Program} {w : World} {K : PySem.W.Frag} {mg : Str → Option Value} {base : Heap} (c : C w K mg base) : ∃ fd, FunD K d_wrong_mark.name d_wrong_mark.qual d_wrong_mark.params d_wrong_mark.body d_wrong_mark.scope (d_wrong_mark.dvs K) (d_wrong_mark.kws K) (He.ga K "wrong_mark") fd ∧ L2.Binds K fd ["sorts", "value"] [] ∧ FD P w ⟨K, mg, ⟨tL K, none, none⟩⟩ base 6 (He.ga K "wrong_mark") fd ["sorts", "value"] m_wrong_mark := by
  obtain ⟨fd, F⟩ := c.def_ 8
  obtain ⟨fd_is_mark, F_is_mark, B_is_mark, G_is_mark⟩ := ok_is_mark (P := P) c
  obtain ⟨fd_first_wrong, F_first_wrong, B_first_wrong, G_first_wrong⟩ := ho_first_wrong (P := P) c
  refine ⟨fd, F, F.bindsN fun _ _ _ _ _ _ us hl => match us, hl with | [_, _], _ => rfl, fd_of (k := 5) F sc_wrong_mark (by decide) fun A outer s H E hr hG => ?_⟩
  have tk : Takes (cxOf (CX P w) P w K mg base N_wrong_mark "wrong_mark" (defScope s_wrong_mark) (He.ga K "wrong_mark") fd.code A outer s H E) (fun c d _ H => E c d H) := takes_of rfl rfl rfl rfl
  have po : PassesOwn (model P w) (cxOf (CX P w) P w K mg base N_wrong_mark "wrong_mark" (defScope s_wrong_mark) (He.ga K "wrong_mark") fd.code A outer s H E).A (cxOf (CX P w) P w K mg base N_wrong_mark "wrong_mark" (defScope s_wrong_mark) (He.ga K "wrong_mark") fd.code A outer s H E).env (cxOf (CX P w) P w K mg base N_wrong_mark "wrong_mark" (defScope s_wrong_mark) (He.ga K "wrong_mark") fd.code A outer s H E).xe := passes_of rfl
  exact (sb_one (ss_ret (se_ho1 (T := ⟨tL K, none, none⟩) (x := "first_wrong") (fd := fd_first_wrong) (Ng := N_first_wrong) (psG := ["value"]) (a := "is_right") (mb := h_first_wrong) (ps := ["mark", "ahead"]) (vs := [1]) (fe := (sCl m_is_mark [] (aCons (sVar 0) (aCons (sVar 2) aNil)))) (k := 3) (c := (He.cT K ("wrong_mark", none)).1) (P := (He.cT K ("wrong_mark", none)).2) ⟨hr.mono (by decide), hG, tk, rfl, (c.glo 5), F_first_wrong.kp, by decide, F_first_wrong, sc_first_wrong, B_first_wrong, rfl, vis_of rfl, HOBody.up (k := 0) G_first_wrong (by decide), c.tb _ (tm_wrong_mark K), code_wrong_mark c F, tl_wrong_mark K, tu_wrong_mark c, lamP_by (N := N_wrong_mark) (sc := defScope s_wrong_mark) (by decide +kernel), rfl, fun q cl pm cv ctv us hl => match us, hl with | [_, _], _ => rfl, fun A outer s H E f c' hr hG => (se_call (G_is_mark.any rfl) (hr.mono (by decide)) hG rfl (c.glo 7) F_is_mark.kp bare_nil B_is_mark .nil lam_takes (sa_cons (se_var (i := 0) rfl (vis_of rfl)) (sa_cons (se_var (i := 2) rfl (vis_of rfl)) sa_nil))), by decide, by decide⟩ (se_var (i := 1) rfl (vis_of rfl)))))
abbrev N_check_marks : List Str := ["sorts", "value", "least", "most", "wrong"]
theorem nd_check_marks : (N_check_marks).Nodup := by decide +kernel
theorem sc_check_marks : FnScope N_check_marks ["sorts", "value", "least", "most"] (defScope s_check_marks) := ⟨rfl, rfl, rfl, nd_check_marks, rfl, by decide +kernel, by decide +kernel⟩
def b_check_marks : SM := (bCons (bSet 4 (sIte (sCl m_is_row [] (aCons (sVar 1) (aCons (sVar 2) (aCons (sVar 3) aNil)))) (sCl m_wrong_mark [] (aCons (sVar 0) (aCons (sVar 1) aNil))) (sCon .non))) (bIf (sOr (sNot (sCl m_is_row [] (aCons (sVar 1) (aCons (sVar 2) (aCons (sVar 3) aNil))))) (s2 opNotN (sVar 4) (sCon .non))) (bRaise "InvalidRing" "index" (sVar 4)) bNil))
def m_check_marks : Fn := fnM 4 5 b_check_marks
theorem ok_check_marks {P : Program} {w : World} {K : PySem.W.Frag} {mg : Str → Option Value} {base : Heap} (c : C w K mg base) : ∃ fd, FunD K d_check_marks.name d_check_marks.qual d_check_marks.params d_check_marks.body d_check_marks.scope (d_check_marks.dvs K) (d_check_marks.kws K) (He.ga K "check_marks") fd ∧ L2.Binds K fd ["sorts", "value", "least", "most"] [] ∧ FD P w ⟨K, mg, ⟨tL K, none, none⟩⟩ base 7 (He.ga K "check_marks") fd ["sorts", "value", "least", "most"] m_check_marks := by
  obtain ⟨fd, F⟩ := c.def_ 13
  obtain ⟨fd_is_row, F_is_row, B_is_row, G_is_row⟩ := ok_is_row (P := P) c
  obtain ⟨fd_wrong_mark, F_wrong_mark, B_wrong_mark, G_wrong_mark⟩ := ok_wrong_mark (P := P) c
  refine ⟨fd, F, F.bindsN fun _ _ _ _ _ _ us hl => match us, hl with | [_, _, _, _], _ => rfl, fd_of (k := 6) F sc_check_marks (by decide) fun A outer s H E hr hG => ?_⟩
  have tk : Takes (cxOf (CX P w) P w K mg base N_check_marks "check_marks" (defScope s_check_marks) (He.ga K "check_marks") fd.code A outer s H E) (fun c d _ H => E c d H) := takes_of rfl rfl rfl rfl
  have po : PassesOwn (model P w) (cxOf (CX P w) P w K mg base N_check_marks "check_marks" (defScope s_check_marks) (He.ga K "check_marks") fd.code A outer s H E).A (cxOf (CX P w) P w K mg base N_check_marks "check_marks" (defScope s_check_marks) (He.ga K "check_marks") fd.code A outer s H E).env (cxOf (CX P w) P w K mg base N_check_marks "check_marks" (defScope s_check_marks) (He.ga K "check_marks") fd.code A outer s H E).xe := passes_of rfl
  exact (sb_cons (ss_set (i := 4) nd_check_marks rfl (loc_of rfl) (se_ite (st_val (se_call (G_is_row.any rfl) (hr.mono (by decide)) hG rfl (c.glo 4) F_is_row.kp bare_nil B_is_row .nil tk (sa_cons (se_var (i := 1) rfl (vis_of rfl)) (sa_cons (se_var (i := 2) rfl (vis_of rfl)) (sa_cons (se_var (i := 3) rfl (vis_of rfl)) sa_nil))))) (se_call (G_wrong_mark.any rfl) (hr.mono (by decide)) hG rfl (c.glo 8) F_wrong_mark.kp bare_nil B_wrong_mark .nil tk (sa_cons (se_var (i := 0) rfl (vis_of rfl)) (sa_cons (se_var (i := 1) rfl (vis_of rfl)) sa_nil))) se_non)) (sb_one (ss_if (SW.st (sw_or (st_not (st_val (se_call (G_is_row.any rfl) (hr.mono (by decide)) hG rfl (c.glo 4) F_is_row.kp bare_nil B_is_row .nil tk (sa_cons (se_var (i := 1) rfl (vis_of rfl)) (sa_cons (se_var (i := 2) rfl (vis_of rfl)) (sa_cons (se_var (i := 3) rfl (vis_of rfl)) sa_nil)))))) (sw_one_or (st_cmp op_notN sv_notN (se_var (i := 4) rfl (vis_of rfl)) se_non rfl)))) (sb_one (ss_raise rfl (err_InvalidRing c) hr tk (se_var (i := 4) rfl (vis_of rfl)) rfl)) sb_nil)))
abbrev N_check_ring : List Str := ["sorts", "ring"]
theorem nd_check_ring : (N_check_ring).Nodup := by decide +kernel
theorem sc_check_ring : FnScope N_check_ring ["sorts", "ring"] (defScope s_check_ring) := ⟨rfl, rfl, rfl, nd_check_ring, rfl, by decide +kernel, by decide +kernel⟩
def b_check_ring : SM := (bExpr (sCl m_check_marks [] (aCons (sVar 0) (aCons (sVar 1) (aCons (sCon (.int 1)) (aCons (sCon (.int 32)) aNil))))))
def m_check_ring : Fn := fnM 2 2 b_check_ring
theorem ok_check_ring {P : Program} {w : World} {K : PySem.W.Frag} {mg : Str → Option Value} {base : Heap} (c : C w K mg base) : ∃ fd, FunD K d_check_ring.name d_check_ring.qual d_check_ring.params d_check_ring.body d_check_ring.scope (d_check_ring.dvs K) (d_check_ring.kws K) (He.ga K "check_ring") fd ∧ L2.Binds K fd ["sorts", "ring"] [] ∧ FD P w ⟨K, mg, ⟨tL K, none, none⟩⟩ base 8 (He.ga K "check_ring") fd ["sorts", "ring"] m_check_ring := by
  obtain ⟨fd, F⟩ := c.def_ 14
  obtain ⟨fd_check_marks, F_check_marks, B_check_marks, G_check_marks⟩ := ok_check_marks (P := P) c
  refine ⟨fd, F, F.bindsN fun _ _ _ _ _ _ us hl => match us, hl with | [_, _], _ => rfl, fd_of (k := 7) F sc_check_ring (by decide) fun A outer s H E hr hG => ?_⟩
  have tk : Takes (cxOf (CX P w) P w K mg base N_check_ring "check_ring" (defScope s_check_ring) (He.ga K "check_ring") fd.code A outer s H E) (fun c d _ H => E c d H) := takes_of rfl rfl rfl rfl
  have po : PassesOwn (model P w) (cxOf (CX P w) P w K mg base N_check_ring "check_ring" (defScope s_check_ring) (He.ga K "check_ring") fd.code A outer s H E).A (cxOf (CX P w) P w K mg base N_check_ring "check_ring" (defScope s_check_ring) (He.ga K "check_ring") fd.code A outer s H E).env (cxOf (CX P w) P w K mg base N_check_ring "check_ring" (defScope s_check_ring) (He.ga K "check_ring") fd.code A outer s H E).xe := passes_of rfl
  exact (sb_one (ss_expr (se_call (G_check_marks.any rfl) (hr.mono (by decide)) hG rfl (c.glo 13) F_check_marks.kp bare_nil B_check_marks .nil tk (sa_cons (se_var (i := 0) rfl (vis_of rfl)) (sa_cons (se_var (i := 1) rfl (vis_of rfl)) (sa_cons se_int (sa_cons (se_gi rfl (c.int 64)) sa_nil)))))))
abbrev N_check_sorted_ring : List Str := ["sorts", "ring"]
theorem nd_check_sorted_ring : (N_check_sorted_ring).Nodup := by decide +kernel
theorem sc_check_sorted_ring : FnScope N_check_sorted_ring ["sorts", "ring"] (defScope s_check_sorted_ring) := ⟨rfl, rfl, rfl, nd_check_sorted_ring, rfl, by decide +kernel, by decide +kernel⟩
def b_check_sorted_ring : SM := (bCons (bExpr (sCl m_check_sorts [] (aCons (sVar 0) aNil))) (bExpr (sCl m_check_ring [] (aCons (sVar 0) (aCons (sVar 1) aNil)))))
def m_check_sorted_ring : Fn := fnM 2 2 b_check_sorted_ring
theorem ok_check_sorted_ring {P : Program} {w : World} {K : PySem.W.Frag} {mg : Str → Option Value} {base : Heap} (c : C w K mg base) : ∃ fd, FunD K d_check_sorted_ring.name d_check_sorted_ring.qual d_check_sorted_ring.params d_check_sorted_ring.body d_check_sorted_ring.scope (d_check_sorted_ring.dvs K) (d_check_sorted_ring.kws K) (He.ga K "check_sorted_ring") fd ∧ L2.Binds K fd ["sorts", "ring"] [] ∧ FD P w ⟨K, mg, ⟨tL K, none, none⟩⟩ base 9 (He.ga K "check_sorted_ring") fd ["sorts", "ring"] m_check_sorted_ring := by
  obtain ⟨fd, F⟩ := c.def_ 18
  obtain ⟨fd_check_sorts, F_check_sorts, B_check_sorts, G_check_sorts⟩ := ok_check_sorts (P := P) c
  obtain ⟨fd_check_ring, F_check_ring, B_check_ring, G_check_ring⟩ := ok_check_ring (P := P) c
  refine ⟨fd, F, F.bindsN fun _ _ _ _ _ _ us hl => match us, hl with | [_, _], _ => rfl, fd_of (k := 8) F sc_check_sorted_ring (by decide) fun A outer s H E hr hG => ?_⟩
  have tk : Takes (cxOf (CX P w) P w K mg base N_check_sorted_ring "check_sorted_ring" (defScope s_check_sorted_ring) (He.ga K "check_sorted_ring") fd.code A outer s H E) (fun c d _ H => E c d H) := takes_of rfl rfl rfl rfl
  have po : PassesOwn (model P w) (cxOf (CX P w) P w K mg base N_check_sorted_ring "check_sorted_ring" (defScope s_check_sorted_ring) (He.ga K "check_sorted_ring") fd.code A outer s H E).A (cxOf (CX P w) P w K mg base N_check_sorted_ring "check_sorted_ring" (defScope s_check_sorted_ring) (He.ga K "check_sorted_ring") fd.code A outer s H E).env (cxOf (CX P w) P w K mg base N_check_sorted_ring "check_sorted_ring" (defScope s_check_sorted_ring) (He.ga K "check_sorted_ring") fd.code A outer s H E).xe := passes_of rfl
  exact (sb_cons (ss_expr (se_call (G_check_sorts.any rfl) (hr.mono (by decide)) hG rfl (c.glo 12) F_check_sorts.kp bare_nil B_check_sorts .nil tk (sa_cons (se_var (i := 0) rfl (vis_of rfl)) sa_nil))) (sb_one (ss_expr (se_call (G_check_ring.any rfl) (hr.mono (by decide)) hG rfl (c.glo 14) F_check_ring.kp bare_nil B_check_ring .nil tk (sa_cons (se_var (i := 0) rfl (vis_of rfl)) (sa_cons (se_var (i := 1) rfl (vis_of rfl)) sa_nil))))))
abbrev N_is_wide : List Str := ["value"]
theorem nd_is_wide : (N_is_wide).Nodup := by decide +kernel
theorem sc_is_wide : FnScope N_is_wide ["value"] (defScope s_is_wide) := ⟨rfl, rfl, rfl, nd_is_wide, rfl, by decide +kernel, by decide +kernel⟩
def b_is_wide : SM := (bRet (sCl m_is_between [] (aCons (sVar 0) (aCons (sCon (.int 1)) (aCons (sCon (.int 6)) aNil)))))
def m_is_wide : Fn := fnM 1 1 b_is_wide
theorem ok_is_wide {P : Program} {w : World} {K : PySem.W.Frag} {mg : Str → Option Value} {base : Heap} (c : C w K mg base) : ∃ fd, FunD K d_is_wide.name d_is_wide.qual d_is_wide.params d_is_wide.body d_is_wide.scope (d_is_wide.dvs K) (d_is_wide.kws K) (He.ga K "is_wide") fd ∧ L2.Binds K fd ["value"] [] ∧ FD P w ⟨K, mg, ⟨tL K, none, none⟩⟩ base 3 (He.ga K "is_wide") fd ["value"] m_is_wide := by
  obtain ⟨fd, F⟩ := c.def_ 9
  obtain ⟨fd_is_between, F_is_between, B_is_between, G_is_between⟩ := ok_is_between (P := P) c
  refine ⟨fd, F, F.bindsN fun _ _ _ _ _ _ us hl => match us, hl with | [_], _ => rfl, fd_of (k := 2) F sc_is_wide (by decide) fun A outer s H E hr hG => ?_⟩
  have tk : Takes (cxOf (CX P w) P w K mg base N_is_wide "is_wide" (defScope s_is_wide) (He.ga K "is_wide") fd.code A outer s H E) (fun c d _ H => E c d H) := takes_of rfl rfl rfl rfl
  have po : PassesOwn (model P w) (cxOf (CX P w) P w K mg base N_is_wide "is_wide" (defScope s_is_wide) (He.ga K "is_wide") fd.code A outer s H E).A (cxOf (CX P w) P w K mg base N_is_wide "is_wide" (defScope s_is_wide) (He.ga K "is_wide") fd.code A outer s H E).env (cxOf (CX P w) P w K mg base N_is_wide "is_wide" (defScope s_is_wide) (He.ga K "is_wide") fd.code A outer s H E).xe := passes_of rfl
  exact (sb_one (ss_ret (se_call (G_is_between.any rfl) (hr.mono (by decide)) hG rfl (c.glo 1) F_is_between.kp bare_nil B_is_between .nil tk (sa_cons (se_var (i := 0) rfl (vis_of rfl)) (sa_cons se_int (sa_cons (se_gi rfl (c.int 68)) sa_nil))))))
abbrev N_check_wide : List Str := ["wide"]
theorem nd_check_wide : (N_check_wide).Nodup := by decide +kernel
theorem sc_check_wide : FnScope N_check_wide ["wide"] (defScope s_check_wide) := ⟨rfl, rfl, rfl, nd_check_wide, rfl, by decide +kernel, by decide +kernel⟩
def b_check_wide : SM := (bIf (sNot (sCl m_is_wide [] (aCons (sVar 0) aNil))) (bRaise "InvalidNumber" "given" (sVar 0)) bNil)
def m_check_wide : Fn := fnM 1 1 b_check_wide
theorem ok_check_wide {P : Program} {w : World} {K : PySem.W.Frag} {mg : Str → Option Value} {base : Heap} (c : C w K mg base) : ∃ fd, FunD K d_check_wide.name d_check_wide.qual d_check_wide.params d_check_wide.body d_check_wide.scope (d_check_wide.dvs K) (d_check_wide.kws K) (He.ga K "check_wide") fd ∧ L2.Binds K fd ["wide"] [] ∧ FD P w ⟨K, mg, ⟨tL K, none, none⟩⟩ base 4 (He.ga K "check_wide") fd ["wide"] m_check_wide := by
  obtain ⟨fd, F⟩ := c.def_ 15
  obtain ⟨fd_is_wide, F_is_wide, B_is_wide, G_is_wide⟩ := ok_is_wide (P := P) c
  refine ⟨fd, F, F.bindsN fun _ _ _ _ _ _ us hl => match us, hl with | [_], _ => rfl, fd_of (k := 3) F sc_check_wide (by decide) fun A outer s H E hr hG => ?_⟩
  have tk : Takes (cxOf (CX P w) P w K mg base N_check_wide "check_wide" (defScope s_check_wide) (He.ga K "check_wide") fd.code A outer s H E) (fun c d _ H => E c d H) := takes_of rfl rfl rfl rfl
  have po : PassesOwn (model P w) (cxOf (CX P w) P w K mg base N_check_wide "check_wide" (defScope s_check_wide) (He.ga K "check_wide") fd.code A outer s H E).A (cxOf (CX P w) P w K mg base N_check_wide "check_wide" (defScope s_check_wide) (He.ga K "check_wide") fd.code A outer s H E).env (cxOf (CX P w) P w K mg base N_check_wide "check_wide" (defScope s_check_wide) (He.ga K "check_wide") fd.code A outer s H E).xe := passes_of rfl
  exact (sb_one (ss_if (st_not (st_val (se_call (G_is_wide.any rfl) (hr.mono (by decide)) hG rfl (c.glo 9) F_is_wide.kp bare_nil B_is_wide .nil tk (sa_cons (se_var (i := 0) rfl (vis_of rfl)) sa_nil)))) (sb_one (ss_raise rfl (err_InvalidNumber c) hr tk (se_var (i := 0) rfl (vis_of rfl)) rfl)) sb_nil))
abbrev N_check_read : List Str := ["sorts", "ring", "wide"]
theorem nd_check_read : (N_check_read).Nodup := by decide +kernel
theorem sc_check_read : FnScope N_check_read ["sorts", "ring", "wide"] (defScope s_check_read) := ⟨rfl, rfl, rfl, nd_check_read, rfl, by decide +kernel, by decide +kernel⟩
def b_check_read : SM := (bCons (bExpr (sCl m_check_sorted_ring [] (aCons (sVar 0) (aCons (sVar 1) aNil)))) (bExpr (sCl m_check_wide [] (aCons (sVar 2) aNil))))
def m_check_read : Fn := fnM 3 3 b_check_read
theorem ok_check_read {P : Program} {w : World} {K : PySem.W.Frag} {mg : Str → Option Value} {base : Heap} (c : C w K mg base) : ∃ fd, FunD K d_check_read.name d_check_read.qual d_check_read.params d_check_read.body d_check_read.scope (d_check_read.dvs K) (d_check_read.kws K) (He.ga K "check_read") fd ∧ L2.Binds K fd ["sorts", "ring", "wide"] [] ∧ FD P w ⟨K, mg, ⟨tL K, none, none⟩⟩ base 10 (He.ga K "check_read") fd ["sorts", "ring", "wide"] m_check_read := by
  obtain ⟨fd, F⟩ := c.def_ 19
  obtain ⟨fd_check_sorted_ring, F_check_sorted_ring, B_check_sorted_ring, G_check_sorted_ring⟩ := ok_check_sorted_ring (P := P) c
  obtain ⟨fd_check_wide, F_check_wide, B_check_wide, G_check_wide⟩ := ok_check_wide (P := P) c
  refine ⟨fd, F, F.bindsN fun _ _ _ _ _ _ us hl => match us, hl with | [_, _, _], _ => rfl, fd_of (k := 9) F sc_check_read (by decide) fun A outer s H E hr hG => ?_⟩
  have tk : Takes (cxOf (CX P w) P w K mg base N_check_read "check_read" (defScope s_check_read) (He.ga K "check_read") fd.code A outer s H E) (fun c d _ H => E c d H) := takes_of rfl rfl rfl rfl
  have po : PassesOwn (model P w) (cxOf (CX P w) P w K mg base N_check_read "check_read" (defScope s_check_read) (He.ga K "check_read") fd.code A outer s H E).A (cxOf (CX P w) P w K mg base N_check_read "check_read" (defScope s_check_read) (He.ga K "check_read") fd.code A outer s H E).env (cxOf (CX P w) P w K mg base N_check_read "check_read" (defScope s_check_read) (He.ga K "check_read") fd.code A outer s H E).xe := passes_of rfl
  exact (sb_cons (ss_expr (se_call (G_check_sorted_ring.any rfl) (hr.mono (by decide)) hG rfl (c.glo 18) F_check_sorted_ring.kp bare_nil B_check_sorted_ring .nil tk (sa_cons (se_var (i := 0) rfl (vis_of rfl)) (sa_cons (se_var (i := 1) rfl (vis_of rfl)) sa_nil)))) (sb_one (ss_expr (se_call (G_check_wide.any rfl) (hr.mono (by decide)) hG rfl (c.glo 15) F_check_wide.kp bare_nil B_check_wide .nil tk (sa_cons (se_var (i := 2) rfl (vis_of rfl)) sa_nil)))))
abbrev N_check_steps : List Str := ["least", "most"]
theorem nd_check_steps : (N_check_steps).Nodup := by decide +kernel
theorem sc_check_steps : FnScope N_check_steps ["least", "most"] (defScope s_check_steps) := ⟨rfl, rfl, rfl, nd_check_steps, rfl, by decide +kernel, by decide +kernel⟩
def b_check_steps : SM := (bCons (bIf (sNot (sCl m_is_between [] (aCons (sVar 0) (aCons (sCon (.int 0)) (aCons (sCon (.int 5)) aNil))))) (bRaise "InvalidNumber" "given" (sVar 0)) bNil) (bIf (sNot (sCl m_is_between [] (aCons (sVar 1) (aCons (sVar 0) (aCons (sCon (.int 5)) aNil))))) (bRaise "InvalidNumber" "given" (sVar 1)) bNil))
def m_check_steps : Fn := fnM 2 2 b_check_steps
theorem ok_check_steps {P : Program} {w : World} {K : PySem.W.Frag} {mg : Str → Option Value} {base : Heap} (c : C w K mg base) : ∃ fd, FunD K d_check_steps.name d_check_steps.qual d_check_steps.params d_check_steps.body d_check_steps.scope (d_check_steps.dvs K) (d_check_steps.kws K) (He.ga K "check_steps") fd ∧ L2.Binds K fd ["least", "most"] [] ∧ FD P w ⟨K, mg, ⟨tL K, none, none⟩⟩ base 3 (He.ga K "check_steps") fd ["least", "most"] m_check_steps := by
  obtain ⟨fd, F⟩ := c.def_ 17
  obtain ⟨fd_is_between, F_is_between, B_is_between, G_is_between⟩ := ok_is_between (P := P) c
  refine ⟨fd, F, F.bindsN fun _ _ _ _ _ _ us hl => match us, hl with | [_, _], _ => rfl, fd_of (k := 2) F sc_check_steps (by decide) fun A outer s H E hr hG => ?_⟩
  have tk : Takes (cxOf (CX P w) P w K mg base N_check_steps "check_steps" (defScope s_check_steps) (He.ga K "check_steps") fd.code A outer s H E) (fun c d _ H => E c d H) := takes_of rfl rfl rfl rfl
  have po : PassesOwn (model P w) (cxOf (CX P w) P w K mg base N_check_steps "check_steps" (defScope s_check_steps) (He.ga K "check_steps") fd.code A outer s H E).A (cxOf (CX P w) P w K mg base N_check_steps "check_steps" (defScope s_check_steps) (He.ga K "check_steps") fd.code A outer s H E).env (cxOf (CX P w) P w K mg base N_check_steps "check_steps" (defScope s_check_steps) (He.ga K "check_steps") fd.code A outer s H E).xe := passes_of rfl
  exact (sb_cons (ss_if (st_not (st_val (se_call (G_is_between.any rfl) (hr.mono (by decide)) hG rfl (c.glo 1) F_is_between.kp bare_nil B_is_between .nil tk (sa_cons (se_var (i := 0) rfl (vis_of rfl)) (sa_cons se_int (sa_cons (se_gi rfl (c.int 67)) sa_nil)))))) (sb_one (ss_raise rfl (err_InvalidNumber c) hr tk (se_var (i := 0) rfl (vis_of rfl)) rfl)) sb_nil) (sb_one (ss_if (st_not (st_val (se_call (G_is_between.any rfl) (hr.mono (by decide)) hG rfl (c.glo 1) F_is_between.kp bare_nil B_is_between .nil tk (sa_cons (se_var (i := 1) rfl (vis_of rfl)) (sa_cons (se_var (i := 0) rfl (vis_of rfl)) (sa_cons (se_gi rfl (c.int 67)) sa_nil)))))) (sb_one (ss_raise rfl (err_InvalidNumber c) hr tk (se_var (i := 1) rfl (vis_of rfl)) rfl)) sb_nil)))
abbrev N_is_misread : List Str := ["value"]
theorem nd_is_misread : (N_is_misread).Nodup := by decide +kernel
theorem sc_is_misread : FnScope N_is_misread ["value"] (defScope s_is_misread) := ⟨rfl, rfl, rfl, nd_is_misread, rfl, by decide +kernel, by decide +kernel⟩
def b_is_misread : SM := (bRet (sCl m_is_between [] (aCons (sVar 0) (aCons (sCon (.int 0)) (aCons (sCon (.int 3)) aNil)))))
def m_is_misread : Fn := fnM 1 1 b_is_misread
theorem ok_is_misread {P : Program} {w : World} {K : PySem.W.Frag} {mg : Str → Option Value} {base : Heap} (c : C w K mg base) : ∃ fd, FunD K d_is_misread.name d_is_misread.qual d_is_misread.params d_is_misread.body d_is_misread.scope (d_is_misread.dvs K) (d_is_misread.kws K) (He.ga K "is_misread") fd ∧ L2.Binds K fd ["value"] [] ∧ FD P w ⟨K, mg, ⟨tL K, none, none⟩⟩ base 3 (He.ga K "is_misread") fd ["value"] m_is_misread := by
  obtain ⟨fd, F⟩ := c.def_ 11
  obtain ⟨fd_is_between, F_is_between, B_is_between, G_is_between⟩ := ok_is_between (P := P) c
  refine ⟨fd, F, F.bindsN fun _ _ _ _ _ _ us hl => match us, hl with | [_], _ => rfl, fd_of (k := 2) F sc_is_misread (by decide) fun A outer s H E hr hG => ?_⟩
  have tk : Takes (cxOf (CX P w) P w K mg base N_is_misread "is_misread" (defScope s_is_misread) (He.ga K "is_misread") fd.code A outer s H E) (fun c d _ H => E c d H) := takes_of rfl rfl rfl rfl
  have po : PassesOwn (model P w) (cxOf (CX P w) P w K mg base N_is_misread "is_misread" (defScope s_is_misread) (He.ga K "is_misread") fd.code A outer s H E).A (cxOf (CX P w) P w K mg base N_is_misread "is_misread" (defScope s_is_misread) (He.ga K "is_misread") fd.code A outer s H E).env (cxOf (CX P w) P w K mg base N_is_misread "is_misread" (defScope s_is_misread) (He.ga K "is_misread") fd.code A outer s H E).xe := passes_of rfl
  exact (sb_one (ss_ret (se_call (G_is_between.any rfl) (hr.mono (by decide)) hG rfl (c.glo 1) F_is_between.kp bare_nil B_is_between .nil tk (sa_cons (se_var (i := 0) rfl (vis_of rfl)) (sa_cons se_int (sa_cons (se_gi rfl (c.int 65)) sa_nil))))))
abbrev N_check_misread : List Str := ["misread"]
theorem nd_check_misread : (N_check_misread).Nodup := by decide +kernel
theorem sc_check_misread : FnScope N_check_misread ["misread"] (defScope s_check_misread) := ⟨rfl, rfl, rfl, nd_check_misread, rfl, by decide +kernel, by decide +kernel⟩
def b_check_misread : SM := (bIf (sNot (sCl m_is_misread [] (aCons (sVar 0) aNil))) (bRaise "InvalidNumber" "given" (sVar 0)) bNil)
def m_check_misread : Fn := fnM 1 1 b_check_misread
theorem ok_check_misread {P : Program} {w : World} {K : PySem.W.Frag} {mg : Str → Option Value} {base : Heap} (c : C w K mg base) : ∃ fd, FunD K d_check_misread.name d_check_misread.qual d_check_misread.params d_check_misread.body d_check_misread.scope (d_check_misread.dvs K) (d_check_misread.kws K) (He.ga K "check_misread") fd ∧ L2.Binds K fd ["misread"] [] ∧ FD P w ⟨K, mg, ⟨tL K, none, none⟩⟩ base 4 (He.ga K "check_misread") fd ["misread"] m_check_misread := by
  obtain ⟨fd, F⟩ := c.def_ 16
  obtain ⟨fd_is_misread, F_is_misread, B_is_misread, G_is_misread⟩ := ok_is_misread (P := P) c
  refine ⟨fd, F, F.bindsN fun _ _ _ _ _ _ us hl => match us, hl with | [_], _ => rfl, fd_of (k := 3) F sc_check_misread (by decide) fun A outer s H E hr hG => ?_⟩
  have tk : Takes (cxOf (CX P w) P w K mg base N_check_misread "check_misread" (defScope s_check_misread) (He.ga K "check_misread") fd.code A outer s H E) (fun c d _ H => E c d H) := takes_of rfl rfl rfl rfl
  have po : PassesOwn (model P w) (cxOf (CX P w) P w K mg base N_check_misread "check_misread" (defScope s_check_misread) (He.ga K "check_misread") fd.code A outer s H E).A (cxOf (CX P w) P w K mg base N_check_misread "check_misread" (defScope s_check_misread) (He.ga K "check_misread") fd.code A outer s H E).env (cxOf (CX P w) P w K mg base N_check_misread "check_misread" (defScope s_check_misread) (He.ga K "check_misread") fd.code A outer s H E).xe := passes_of rfl
  exact (sb_one (ss_if (st_not (st_val (se_call (G_is_misread.any rfl) (hr.mono (by decide)) hG rfl (c.glo 11) F_is_misread.kp bare_nil B_is_misread .nil tk (sa_cons (se_var (i := 0) rfl (vis_of rfl)) sa_nil)))) (sb_one (ss_raise rfl (err_InvalidNumber c) hr tk (se_var (i := 0) rfl (vis_of rfl)) rfl)) sb_nil))
abbrev N_Follower___init__ : List Str := ["self", "sorts", "ring", "wide", "least", "most", "misread"]
theorem nd_Follower___init__ : (N_Follower___init__).Nodup := by decide +kernel
theorem sc_Follower___init__ : FnScope N_Follower___init__ ["self", "sorts", "ring", "wide", "least", "most", "misread"] (defScope s_Follower___init__) := ⟨rfl, rfl, rfl, nd_Follower___init__, rfl, by decide +kernel, by decide +kernel⟩
def b_Follower___init__ : SM := (bCons (bExpr (sCl m_check_read [] (aCons (sVar 1) (aCons (sVar 2) (aCons (sVar 3) aNil))))) (bCons (bExpr (sCl m_check_steps [] (aCons (sVar 4) (aCons (sVar 5) aNil)))) (bCons (bExpr (sCl m_check_misread [] (aCons (sVar 6) aNil))) (bCons (bFd "Follower" "sorts" (sVar 0) (sVar 1)) (bCons (bFd "Follower" "ring" (sVar 0) (sVar 2)) (bCons (bFd "Follower" "wide" (sVar 0) (sVar 3)) (bCons (bFd "Follower" "least" (sVar 0) (sVar 4)) (bCons (bFd "Follower" "most" (sVar 0) (sVar 5)) (bCons (bFd "Follower" "misread" (sVar 0) (sVar 6)) (bCons (bFd "Follower" "places" (sVar 0) (s1 tupRg1D (sApp kLen (aCons (sVar 2) aNil)))) (bCons (bFd "Follower" "deeds" (sVar 0) (sTup aNil)) (bFd "Follower" "past" (sVar 0) (sLstM aNil)))))))))))))
def m_Follower___init__ : Fn := fnM 7 7 b_Follower___init__
theorem ok_Follower___init__ {P : Program} {w : World} {K : PySem.W.Frag} {mg : Str → Option Value} {base : Heap} (c : C w K mg base) : ∃ fd, FunD K d_Follower___init__.name d_Follower___init__.qual d_Follower___init__.params d_Follower___init__.body d_Follower___init__.scope (d_Follower___init__.dvs K) (d_Follower___init__.kws K) (He.ma K (He.ga K "Follower") "__init__") fd ∧ (∀ j : Nat, j ≤ 3 → ∃ ds, Vals ((d_Follower___init__.dvs K).drop j) ds ∧ L2.Binds K fd ["self", "sorts", "ring", "wide", "least", "most", "misread"] ds) ∧ FD P w ⟨K, mg, ⟨tL K, none, none⟩⟩ base 11 (He.ma K (He.ga K "Follower") "__init__") fd ["self", "sorts", "ring", "wide", "least", "most", "misread"] m_Follower___init__ := by
  obtain ⟨fd, F⟩ := c.def_ 48
  obtain ⟨fd_check_read, F_check_read, B_check_read, G_check_read⟩ := ok_check_read (P := P) c
  obtain ⟨fd_check_steps, F_check_steps, B_check_steps, G_check_steps⟩ := ok_check_steps (P := P) c
  obtain ⟨fd_check_misread, F_check_misread, B_check_misread, G_check_misread⟩ := ok_check_misread (P := P) c
  have hb : (∀ j : Nat, j ≤ 3 → ∃ ds, Vals ((d_Follower___init__.dvs K).drop j) ds ∧ L2.Binds K fd ["self", "sorts", "ring", "wide", "least", "most", "misread"] ds) := fun j hj => by
    match j, hj with
    | 0, _ => exact F.binds1 4 0 (List.cons_ne_nil _ _) rfl fun T kV doc pm an cdv ct us its hu hi => match us, hu, its, hi with | [u0, u1, u2, u3], _, [t0, t1, t2], _ => ⟨_, rfl, rfl⟩
    | 1, _ => exact F.binds1 5 1 (List.cons_ne_nil _ _) rfl fun T kV doc pm an cdv ct us its hu hi => match us, hu, its, hi with | [u0, u1, u2, u3, u4], _, [t0, t1, t2], _ => ⟨_, rfl, rfl⟩
    | 2, _ => exact F.binds1 6 2 (List.cons_ne_nil _ _) rfl fun T kV doc pm an cdv ct us its hu hi => match us, hu, its, hi with | [u0, u1, u2, u3, u4, u5], _, [t0, t1, t2], _ => ⟨_, rfl, rfl⟩
    | 3, _ => exact F.binds1 7 3 (List.cons_ne_nil _ _) rfl fun T kV doc pm an cdv ct us its hu hi => match us, hu, its, hi with | [u0, u1, u2, u3, u4, u5, u6], _, [t0, t1, t2], _ => ⟨_, rfl, rfl⟩
    | n + 4, h => omega
  refine ⟨fd, F, hb, fd_of (k := 10) F sc_Follower___init__ (by decide) fun A outer s H E hr hG => ?_⟩
  have tk : Takes (cxOf (CX P w) P w K mg base N_Follower___init__ "Follower.__init__" (defScope s_Follower___init__) (He.ma K (He.ga K "Follower") "__init__") fd.code A outer s H E) (fun c d _ H => E c d H) := takes_of rfl rfl rfl rfl
  have po : PassesOwn (model P w) (cxOf (CX P w) P w K mg base N_Follower___init__ "Follower.__init__" (defScope s_Follower___init__) (He.ma K (He.ga K "Follower") "__init__") fd.code A outer s H E).A (cxOf (CX P w) P w K mg base N_Follower___init__ "Follower.__init__" (defScope s_Follower___init__) (He.ma K (He.ga K "Follower") "__init__") fd.code A outer s H E).env (cxOf (CX P w) P w K mg base N_Follower___init__ "Follower.__init__" (defScope s_Follower___init__) (He.ma K (He.ga K "Follower") "__init__") fd.code A outer s H E).xe := passes_of rfl
  exact (sb_cons (ss_expr (se_call (G_check_read.any rfl) (hr.mono (by decide)) hG rfl (c.glo 19) F_check_read.kp bare_nil B_check_read .nil tk (sa_cons (se_var (i := 1) rfl (vis_of rfl)) (sa_cons (se_var (i := 2) rfl (vis_of rfl)) (sa_cons (se_var (i := 3) rfl (vis_of rfl)) sa_nil))))) (sb_cons (ss_expr (se_call (G_check_steps.any rfl) (hr.mono (by decide)) hG rfl (c.glo 17) F_check_steps.kp bare_nil B_check_steps .nil tk (sa_cons (se_var (i := 4) rfl (vis_of rfl)) (sa_cons (se_var (i := 5) rfl (vis_of rfl)) sa_nil)))) (sb_cons (ss_expr (se_call (G_check_misread.any rfl) (hr.mono (by decide)) hG rfl (c.glo 16) F_check_misread.kp bare_nil B_check_misread .nil tk (sa_cons (se_var (i := 6) rfl (vis_of rfl)) sa_nil))) (sb_cons (ss_fld (se_var (i := 0) rfl (vis_of rfl)) (se_var (i := 1) rfl (vis_of rfl)) (c.glo 72) (c.cls 73) (c.noat 82)) (sb_cons (ss_fld (se_var (i := 0) rfl (vis_of rfl)) (se_var (i := 2) rfl (vis_of rfl)) (c.glo 72) (c.cls 73) (c.noat 81)) (sb_cons (ss_fld (se_var (i := 0) rfl (vis_of rfl)) (se_var (i := 3) rfl (vis_of rfl)) (c.glo 72) (c.cls 73) (c.noat 83)) (sb_cons (ss_fld (se_var (i := 0) rfl (vis_of rfl)) (se_var (i := 4) rfl (vis_of rfl)) (c.glo 72) (c.cls 73) (c.noat 76)) (sb_cons (ss_fld (se_var (i := 0) rfl (vis_of rfl)) (se_var (i := 5) rfl (vis_of rfl)) (c.glo 72) (c.cls 73) (c.noat 78)) (sb_cons (ss_fld (se_var (i := 0) rfl (vis_of rfl)) (se_var (i := 6) rfl (vis_of rfl)) (c.glo 72) (c.cls 73) (c.noat 77)) (sb_cons (ss_fld (se_var (i := 0) rfl (vis_of rfl)) (se_tupRg1 rfl rfl (c.free 60) rfl (c.free 56) (se_callB cr_lenA sc_len rfl (c.free 52) bt_len (sa_cons (se_var (i := 2) rfl (vis_of rfl)) sa_nil))) (c.glo 72) (c.cls 73) (c.noat 80)) (sb_cons (ss_fld (se_var (i := 0) rfl (vis_of rfl)) (se_tup sa_nil) (c.glo 72) (c.cls 73) (c.noat 75)) (sb_one (ss_fld (se_var (i := 0) rfl (vis_of rfl)) (se_lstM sa_nil) (c.glo 72) (c.cls 73) (c.noat 79))))))))))))))
abbrev N__law_made : List Str := ["parts"]
theorem nd__law_made : (N__law_made).Nodup := by decide +kernel
theorem sc__law_made : FnScope N__law_made ["parts"] (defScope s__law_made) := ⟨rfl, rfl, rfl, nd__law_made, rfl, by decide +kernel, by decide +kernel⟩
def b__law_made : SM := (bRet (sMk "Follower" m_Follower___init__ [] (aCons (s2 ixD (sVar 0) (sCon (.int 0))) (aCons (s2 ixD (sVar 0) (sCon (.int 1))) (aCons (s2 ixD (sVar 0) (sCon (.int 2))) (aCons (s2 ixD (sVar 0) (sCon (.int 3))) (aCons (s2 ixD (sVar 0) (sCon (.int 4))) (aCons (s2 ixD (sVar 0) (sCon (.int 5))) aNil))))))))
def m__law_made : Fn := fnM 1 1 b__law_made
theorem ok__law_made {P : Program} {w : World} {K : PySem.W.Frag} {mg : Str → Option Value} {base : Heap} (c : C w K mg base) : ∃ fd, FunD K d__law_made.name d__law_made.qual d__law_made.params d__law_made.body d__law_made.scope (d__law_made.dvs K) (d__law_made.kws K) (He.ga K "_law_made") fd ∧ L2.Binds K fd ["parts"] [] ∧ FD P w ⟨K, mg, ⟨tL K, none, none⟩⟩ base 13 (He.ga K "_law_made") fd ["parts"] m__law_made := by
  obtain ⟨fd, F⟩ := c.def_ 38
  obtain ⟨fd_Follower___init__, F_Follower___init__, B_Follower___init__, G_Follower___init__⟩ := ok_Follower___init__ (P := P) c
  refine ⟨fd, F, F.bindsN fun _ _ _ _ _ _ us hl => match us, hl with | [_], _ => rfl, fd_of (k := 12) F sc__law_made (by decide) fun A outer s H E hr hG => ?_⟩
  have tk : Takes (cxOf (CX P w) P w K mg base N__law_made "_law_made" (defScope s__law_made) (He.ga K "_law_made") fd.code A outer s H E) (fun c d _ H => E c d H) := takes_of rfl rfl rfl rfl
  have po : PassesOwn (model P w) (cxOf (CX P w) P w K mg base N__law_made "_law_made" (defScope s__law_made) (He.ga K "_law_made") fd.code A outer s H E).A (cxOf (CX P w) P w K mg base N__law_made "_law_made" (defScope s__law_made) (He.ga K "_law_made") fd.code A outer s H E).env (cxOf (CX P w) P w K mg base N__law_made "_law_made" (defScope s__law_made) (He.ga K "_law_made") fd.code A outer s H E).xe := passes_of rfl
  exact (sb_one (ss_ret (se_make (c.mkr 74) (G_Follower___init__.any rfl) (hr.mono (by decide)) hG rfl (c.glo 72) bare_nil (Bm_Follower___init__ c B_Follower___init__) .nil tk (sa_cons (se_ix (room_u1 hr) (se_var (i := 0) rfl (vis_of rfl)) se_int) (sa_cons (se_ix (room_u1 hr) (se_var (i := 0) rfl (vis_of rfl)) se_int) (sa_cons (se_ix (room_u1 hr) (se_var (i := 0) rfl (vis_of rfl)) se_int) (sa_cons (se_ix (room_u1 hr) (se_var (i := 0) rfl (vis_of rfl)) se_int) (sa_cons (se_ix (room_u1 hr) (se_var (i := 0) rfl (vis_of rfl)) se_int) (sa_cons (se_ix (room_u1 hr) (se_var (i := 0) rfl (vis_of rfl)) se_int) sa_nil)))))))))
abbrev N_parts_of : List Str := ["follower", "head"]
theorem nd_parts_of : (N_parts_of).Nodup := by decide +kernel
theorem sc_parts_of : FnScope N_parts_of ["follower"] (defScope s_parts_of) := ⟨rfl, rfl, rfl, nd_parts_of, rfl, by decide +kernel, by decide +kernel⟩
def b_parts_of : SM := (bCons (bSet 1 (sTup (aCons (sFd "Follower" "sorts" (sVar 0)) (aCons (sFd "Follower" "ring" (sVar 0)) (aCons (sFd "Follower" "wide" (sVar 0)) aNil))))) (bRet (sTup (aStar (sVar 1) (aCons (sFd "Follower" "least" (sVar 0)) (aCons (sFd "Follower" "most" (sVar 0)) (aCons (sFd "Follower" "misread" (sVar 0)) aNil)))))))
def m_parts_of : Fn := fnM 1 2 b_parts_of
theorem ok_parts_of {P : Program} {w : World} {K : PySem.W.Frag} {mg : Str → Option Value} {base : Heap} (c : C w K mg base) : ∃ fd, FunD K d_parts_of.name d_parts_of.qual d_parts_of.params d_parts_of.body d_parts_of.scope (d_parts_of.dvs K) (d_parts_of.kws K) (He.ga K "parts_of") fd ∧ L2.Binds K fd ["follower"] [] ∧ FD P w ⟨K, mg, ⟨tL K, none, none⟩⟩ base 1 (He.ga K "parts_of") fd ["follower"] m_parts_of := by
  obtain ⟨fd, F⟩ := c.def_ 29
  refine ⟨fd, F, F.bindsN fun _ _ _ _ _ _ us hl => match us, hl with | [_], _ => rfl, fd_of (k := 0) F sc_parts_of (by decide) fun A outer s H E hr hG => ?_⟩
  have tk : Takes (cxOf (CX P w) P w K mg base N_parts_of "parts_of" (defScope s_parts_of) (He.ga K "parts_of") fd.code A outer s H E) (fun c d _ H => E c d H) := takes_of rfl rfl rfl rfl
  have po : PassesOwn (model P w) (cxOf (CX P w) P w K mg base N_parts_of "parts_of" (defScope s_parts_of) (He.ga K "parts_of") fd.code A outer s H E).A (cxOf (CX P w) P w K mg base N_parts_of "parts_of" (defScope s_parts_of) (He.ga K "parts_of") fd.code A outer s H E).env (cxOf (CX P w) P w K mg base N_parts_of "parts_of" (defScope s_parts_of) (He.ga K "parts_of") fd.code A outer s H E).xe := passes_of rfl
  exact (sb_cons (ss_set (i := 1) nd_parts_of rfl (loc_of rfl) (se_tup (sa_cons (se_fld (se_var (i := 0) rfl (vis_of rfl)) (c.glo 72) (c.cls 73) (c.noat 82)) (sa_cons (se_fld (se_var (i := 0) rfl (vis_of rfl)) (c.glo 72) (c.cls 73) (c.noat 81)) (sa_cons (se_fld (se_var (i := 0) rfl (vis_of rfl)) (c.glo 72) (c.cls 73) (c.noat 83)) sa_nil))))) (sb_one (ss_ret (se_tup (sa_star (se_var (i := 1) rfl (vis_of rfl)) (sa_cons (se_fld (se_var (i := 0) rfl (vis_of rfl)) (c.glo 72) (c.cls 73) (c.noat 76)) (sa_cons (se_fld (se_var (i := 0) rfl (vis_of rfl)) (c.glo 72) (c.cls 73) (c.noat 78)) (sa_cons (se_fld (se_var (i := 0) rfl (vis_of rfl)) (c.glo 72) (c.cls 73) (c.noat 77)) sa_nil))))))))
abbrev N_told_of : List Str := ["follower"]
theorem nd_told_of : (N_told_of).Nodup := by decide +kernel
theorem sc_told_of : FnScope N_told_of ["follower"] (defScope s_told_of) := ⟨rfl, rfl, rfl, nd_told_of, rfl, by decide +kernel, by decide +kernel⟩
def b_told_of : SM := (bRet (sTup (aCons (sCl m_parts_of [] (aCons (sVar 0) aNil)) (aCons (sFd "Follower" "deeds" (sVar 0)) aNil))))
def m_told_of : Fn := fnM 1 1 b_told_of
theorem ok_told_of {P : Program} {w : World} {K : PySem.W.Frag} {mg : Str → Option Value} {base : Heap} (c : C w K mg base) : ∃ fd, FunD K d_told_of.name d_told_of.qual d_told_of.params d_told_of.body d_told_of.scope (d_told_of.dvs K) (d_told_of.kws K) (He.ga K "told_of") fd ∧ L2.Binds K fd ["follower"] [] ∧ FD P w ⟨K, mg, ⟨tL K, none, none⟩⟩ base 2 (He.ga K "told_of") fd ["follower"] m_told_of := by
  obtain ⟨fd, F⟩ := c.def_ 30
  obtain ⟨fd_parts_of, F_parts_of, B_parts_of, G_parts_of⟩ := ok_parts_of (P := P) c
  refine ⟨fd, F, F.bindsN fun _ _ _ _ _ _ us hl => match us, hl with | [_], _ => rfl, fd_of (k := 1) F sc_told_of (by decide) fun A outer s H E hr hG => ?_⟩
  have tk : Takes (cxOf (CX P w) P w K mg base N_told_of "told_of" (defScope s_told_of) (He.ga K "told_of") fd.code A outer s H E) (fun c d _ H => E c d H) := takes_of rfl rfl rfl rfl
  have po : PassesOwn (model P w) (cxOf (CX P w) P w K mg base N_told_of "told_of" (defScope s_told_of) (He.ga K "told_of") fd.code A outer s H E).A (cxOf (CX P w) P w K mg base N_told_of "told_of" (defScope s_told_of) (He.ga K "told_of") fd.code A outer s H E).env (cxOf (CX P w) P w K mg base N_told_of "told_of" (defScope s_told_of) (He.ga K "told_of") fd.code A outer s H E).xe := passes_of rfl
  exact (sb_one (ss_ret (se_tup (sa_cons (se_call (G_parts_of.any rfl) (hr.mono (by decide)) hG rfl (c.glo 29) F_parts_of.kp bare_nil B_parts_of .nil tk (sa_cons (se_var (i := 0) rfl (vis_of rfl)) sa_nil)) (sa_cons (se_fld (se_var (i := 0) rfl (vis_of rfl)) (c.glo 72) (c.cls 73) (c.noat 75)) sa_nil)))))
abbrev N_Follower___eq__ : List Str := ["self", "other"]
theorem nd_Follower___eq__ : (N_Follower___eq__).Nodup := by decide +kernel
theorem sc_Follower___eq__ : FnScope N_Follower___eq__ ["self", "other"] (defScope s_Follower___eq__) := ⟨rfl, rfl, rfl, nd_Follower___eq__, rfl, by decide +kernel, by decide +kernel⟩
def b_Follower___eq__ : SM := (bRet (sAnd (s1 (isiD (ansO "Follower")) (sVar 1)) (s2 opEq (sCl m_told_of [] (aCons (sVar 0) aNil)) (sCl m_told_of [] (aCons (sVar 1) aNil)))))
def m_Follower___eq__ : Fn := fnM 2 2 b_Follower___eq__
theorem ok_Follower___eq__ {P : Program} {w : World} {K : PySem.W.Frag} {mg : Str → Option Value} {base : Heap} (c : C w K mg base) : ∃ fd, FunD K d_Follower___eq__.name d_Follower___eq__.qual d_Follower___eq__.params d_Follower___eq__.body d_Follower___eq__.scope (d_Follower___eq__.dvs K) (d_Follower___eq__.kws K) (He.ma K (He.ga K "Follower") "__eq__") fd ∧ L2.Binds K fd ["self", "other"] [] ∧ FD P w ⟨K, mg, ⟨tL K, none, none⟩⟩ base 3 (He.ma K (He.ga K "Follower") "__eq__") fd ["self", "other"] m_Follower___eq__ := by
  obtain ⟨fd, F⟩ := c.def_ 51
  obtain ⟨fd_told_of, F_told_of, B_told_of, G_told_of⟩ := ok_told_of (P := P) c
  refine ⟨fd, F, F.bindsN fun _ _ _ _ _ _ us hl => match us, hl with | [_, _], _ => rfl, fd_of (k := 2) F sc_Follower___eq__ (by decide) fun A outer s H E hr hG => ?_⟩
  have tk : Takes (cxOf (CX P w) P w K mg base N_Follower___eq__ "Follower.__eq__" (defScope s_Follower___eq__) (He.ma K (He.ga K "Follower") "__eq__") fd.code A outer s H E) (fun c d _ H => E c d H) := takes_of rfl rfl rfl rfl
  have po : PassesOwn (model P w) (cxOf (CX P w) P w K mg base N_Follower___eq__ "Follower.__eq__" (defScope s_Follower___eq__) (He.ma K (He.ga K "Follower") "__eq__") fd.code A outer s H E).A (cxOf (CX P w) P w K mg base N_Follower___eq__ "Follower.__eq__" (defScope s_Follower___eq__) (He.ma K (He.ga K "Follower") "__eq__") fd.code A outer s H E).env (cxOf (CX P w) P w K mg base N_Follower___eq__ "Follower.__eq__" (defScope s_Follower___eq__) (He.ma K (He.ga K "Follower") "__eq__") fd.code A outer s H E).xe := passes_of rfl
  exact (sb_one (ss_ret (se_and (se_isi (c := .ref (He.ga K "Follower")) (isiO (iso_Follower c) (c.cls 73) (c.glo 72)) (.own _) rfl (c.free 51) (se_var (i := 1) rfl (vis_of rfl)) (pe_glob (v := .ref (He.ga K "Follower")) rfl (c.glo 72) rfl)) (se_one (se_cmp (op_eqD hr.units) sv_eq (se_call (G_told_of.any rfl) (hr.mono (by decide)) hG rfl (c.glo 30) F_told_of.kp bare_nil B_told_of .nil tk (sa_cons (se_var (i := 0) rfl (vis_of rfl)) sa_nil)) (se_call (G_told_of.any rfl) (hr.mono (by decide)) hG rfl (c.glo 30) F_told_of.kp bare_nil B_told_of .nil tk (sa_cons (se_var (i := 1) rfl (vis_of rfl)) sa_nil)) rfl)))))
abbrev N__law_window : List Str := ["ring", "at", "wide", "k"]
theorem nd__law_window : (N__law_window).Nodup := by decide +kernel
theorem sc__law_window : FnScope N__law_window ["ring", "at", "wide"] (defScope s__law_window) := ⟨rfl, rfl, rfl, nd__law_window, rfl, by decide +kernel, by decide +kernel⟩
def b__law_window : SM := (bRet (sApp kTuple (aCons (sComp [3] (iR1 (aCons (sVar 2) aNil)) (gNm 3) cYes (s2 ixD (sVar 0) (s2 opMod (sApp kInt (aCons (s2 opAdd (sVar 1) (sVar 3)) aNil)) (sApp kLen (aCons (sVar 0) aNil))))) aNil)))
def m__law_window : Fn := fnM 3 4 b__law_window
theorem ok__law_window {P : Program} {w : World} {K : PySem.W.Frag} {mg : Str → Option Value} {base : Heap} (c : C w K mg base) : ∃ fd, FunD K d__law_window.name d__law_window.qual d__law_window.params d__law_window.body d__law_window.scope (d__law_window.dvs K) (d__law_window.kws K) (He.ga K "_law_window") fd ∧ L2.Binds K fd ["ring", "at", "wide"] [] ∧ FD P w ⟨K, mg, ⟨tL K, none, none⟩⟩ base 1 (He.ga K "_law_window") fd ["ring", "at", "wide"] m__law_window := by
  obtain ⟨fd, F⟩ := c.def_ 35
  refine ⟨fd, F, F.bindsN fun _ _ _ _ _ _ us hl => match us, hl with | [_, _, _], _ => rfl, fd_of (k := 0) F sc__law_window (by decide) fun A outer s H E hr hG => ?_⟩
  have tk : Takes (cxOf (CX P w) P w K mg base N__law_window "_law_window" (defScope s__law_window) (He.ga K "_law_window") fd.code A outer s H E) (fun c d _ H => E c d H) := takes_of rfl rfl rfl rfl
  have po : PassesOwn (model P w) (cxOf (CX P w) P w K mg base N__law_window "_law_window" (defScope s__law_window) (He.ga K "_law_window") fd.code A outer s H E).A (cxOf (CX P w) P w K mg base N__law_window "_law_window" (defScope s__law_window) (He.ga K "_law_window") fd.code A outer s H E).env (cxOf (CX P w) P w K mg base N__law_window "_law_window" (defScope s__law_window) (He.ga K "_law_window") fd.code A outer s H E).xe := passes_of rfl
  exact (sb_one (ss_ret (se_callTy cr_tupOf sc_tuple rfl (c.free 60) bt_tuple (sa_cons (se_comp (own := [("k", 3)]) (b := (gNm 3)) (g := (gName 3)) rfl nd__law_window (si_rng1 rfl (c.free 56) (sa_cons (se_var (i := 2) rfl (vis_of rfl)) sa_nil)) (blkOk_by (N := N__law_window) (sc := defScope s__law_window) (by decide +kernel)) gname_of (gname_same (by decide)) (fun s H C cl fp => (pg_name (i := 3) nd__law_window rfl (loc_of rfl))) (fun s H C cl fp => sts_nil) (fun s H C cl fp => (se_ix (room_u1 hr) (se_var (i := 0) rfl (vis_of rfl)) (se_op op_mod sv_mod (se_callTy cr_intA sc_int rfl (c.free 50) bt_int (sa_cons (se_op op_addS sv_add (se_var (i := 1) rfl (vis_of rfl)) (se_var (i := 3) rfl (vis_of rfl))) sa_nil)) (se_callB cr_lenA sc_len rfl (c.free 52) bt_len (sa_cons (se_var (i := 0) rfl (vis_of rfl)) sa_nil)))))) sa_nil))))
abbrev N__law_deed : List Str := ["pool", "parts", "now", "sorts", "ring", "wide", "least", "most", "misread", "way", "window", "place", "lap"]
theorem nd__law_deed : (N__law_deed).Nodup := by decide +kernel
theorem sc__law_deed : FnScope N__law_deed ["pool", "parts", "now"] (defScope s__law_deed) := ⟨rfl, rfl, rfl, nd__law_deed, rfl, by decide +kernel, by decide +kernel⟩
def b__law_deed : SM := (bCons (bAsg (sVar 1) (gTp 6 (gsCons (gNm 3) (gsCons (gNm 4) (gsCons (gNm 5) (gsCons (gNm 6) (gsCons (gNm 7) (gsCons (gNm 8) gsNil)))))))) (bCons (bPar [9, 10] (aCons (sCl m__law_draw [] (aCons (sVar 0) (aCons (sCon (.int 8)) aNil))) (aCons (sTup aNil) aNil))) (bCons (bIf (s2 opEq (sVar 9) (sCon (.int 0))) (bRet (sTup (aCons (sCon (.str "miss")) aNil))) bNil) (bCons (bIf (sAnd (s2 opNe (s2 ixD (sVar 2) (sCon (.int 0))) (sTup aNil)) (s2 opLt (sVar 9) (sCon (.int 6)))) (bCons (bSet 11 (s2 opAdd (sCl m__law_pick [] (aCons (sVar 0) (aCons (s2 ixD (sVar 2) (sCon (.int 0))) aNil))) (sIte (s2 opEq (sVar 9) (sCon (.int 1))) (sCon (.int 0)) (sCl m__law_pick [] (aCons (sVar 0) (aCons (sLst (aCons (sVar 6) (aCons (sVar 7) aNil))) aNil)))))) (bSet 10 (sCl m__law_window [] (aCons (sVar 4) (aCons (sVar 11) (aCons (sVar 5) aNil)))))) (bFor (iR1 (aCons (sVar 5) aNil)) (gNm 12) (bSet 10 (s2 opAdd (sVar 10) (sTup (aCons (sCl m__law_draw [] (aCons (sVar 0) (aCons (sVar 3) aNil))) aNil)))))) (bRet (sTup (aCons (sIte (s2 opEq (sVar 9) (sCon (.int 1))) (sCon (.str "still")) (sCon (.str "look"))) (aCons (sVar 10) aNil))))))))
def m__law_deed : Fn := fnM 3 13 b__law_deed
theorem ok__law_deed {P : Program} {w : World} {K : PySem.W.Frag} {mg : Str → Option Value} {base : Heap} (c : C w K mg base) : ∃ fd, FunD K d__law_deed.name d__law_deed.qual d__law_deed.params d__law_deed.body d__law_deed.scope (d__law_deed.dvs K) (d__law_deed.kws K) (He.ga K "_law_deed") fd ∧ L2.Binds K fd ["pool", "parts", "now"] [] ∧ FD P w ⟨K, mg, ⟨tL K, none, none⟩⟩ base 3 (He.ga K "_law_deed") fd ["pool", "parts", "now"] m__law_deed := by
  obtain ⟨fd, F⟩ := c.def_ 39
  obtain ⟨fd__law_draw, F__law_draw, B__law_draw, G__law_draw⟩ := ok__law_draw (P := P) c
  obtain ⟨fd__law_pick, F__law_pick, B__law_pick, G__law_pick⟩ := ok__law_pick (P := P) c
  obtain ⟨fd__law_window, F__law_window, B__law_window, G__law_window⟩ := ok__law_window (P := P) c
  refine ⟨fd, F, F.bindsN fun _ _ _ _ _ _ us hl => match us, hl with | [_, _, _], _ => rfl, fd_of (k := 2) F sc__law_deed (by decide) fun A outer s H E hr hG => ?_⟩
  have tk : Takes (cxOf (CX P w) P w K mg base N__law_deed "_law_deed" (defScope s__law_deed) (He.ga K "_law_deed") fd.code A outer s H E) (fun c d _ H => E c d H) := takes_of rfl rfl rfl rfl
  have po : PassesOwn (model P w) (cxOf (CX P w) P w K mg base N__law_deed "_law_deed" (defScope s__law_deed) (He.ga K "_law_deed") fd.code A outer s H E).A (cxOf (CX P w) P w K mg base N__law_deed "_law_deed" (defScope s__law_deed) (He.ga K "_law_deed") fd.code A outer s H E).env (cxOf (CX P w) P w K mg base N__law_deed "_law_deed" (defScope s__law_deed) (He.ga K "_law_deed") fd.code A outer s H E).xe := passes_of rfl
  exact (sb_cons (ss_asg (se_var (i := 1) rfl (vis_of rfl)) (sg_tup rfl (sgs_cons (sg_name (i := 3) nd__law_deed rfl (loc_of rfl)) (sgs_cons (sg_name (i := 4) nd__law_deed rfl (loc_of rfl)) (sgs_cons (sg_name (i := 5) nd__law_deed rfl (loc_of rfl)) (sgs_cons (sg_name (i := 6) nd__law_deed rfl (loc_of rfl)) (sgs_cons (sg_name (i := 7) nd__law_deed rfl (loc_of rfl)) (sgs_cons (sg_name (i := 8) nd__law_deed rfl (loc_of rfl)) sgs_nil)))))))) (sb_cons (ss_par (i := 9) (j := 10) rfl nd__law_deed rfl rfl (by decide) rfl rfl (sa_cons (se_call (G__law_draw.any rfl) (hr.mono (by decide)) hG rfl (c.glo 32) F__law_draw.kp bare_nil B__law_draw .nil tk (sa_cons (se_var (i := 0) rfl (vis_of rfl)) (sa_cons se_int sa_nil))) (sa_cons (se_tup sa_nil) sa_nil)) rfl) (sb_cons (ss_if (st_cmp (op_eqD hr.units) sv_eq (se_var (i := 9) rfl (vis_of rfl)) se_int rfl) (sb_one (ss_ret (se_tup (sa_cons se_str sa_nil)))) sb_nil) (sb_cons (ss_if (SW.st (sw_and (st_cmp (op_neD hr.units) sv_ne (se_ix (room_u1 hr) (se_var (i := 2) rfl (vis_of rfl)) se_int) (se_tup sa_nil) rfl) (sw_one_and (st_cmp op_lt sv_lt (se_var (i := 9) rfl (vis_of rfl)) se_int rfl)))) (sb_cons (ss_set (i := 11) nd__law_deed rfl (loc_of rfl) (se_op op_addS sv_add (se_call (G__law_pick.any rfl) (hr.mono (by decide)) hG rfl (c.glo 33) F__law_pick.kp bare_nil B__law_pick .nil tk (sa_cons (se_var (i := 0) rfl (vis_of rfl)) (sa_cons (se_ix (room_u1 hr) (se_var (i := 2) rfl (vis_of rfl)) se_int) sa_nil))) (se_ite (st_cmp (op_eqD hr.units) sv_eq (se_var (i := 9) rfl (vis_of rfl)) se_int rfl) se_int (se_call (G__law_pick.any rfl) (hr.mono (by decide)) hG rfl (c.glo 33) F__law_pick.kp bare_nil B__law_pick .nil tk (sa_cons (se_var (i := 0) rfl (vis_of rfl)) (sa_cons (se_lst (sa_cons (se_var (i := 6) rfl (vis_of rfl)) (sa_cons (se_var (i := 7) rfl (vis_of rfl)) sa_nil))) sa_nil)))))) (sb_one (ss_set (i := 10) nd__law_deed rfl (loc_of rfl) (se_call (G__law_window.any rfl) (hr.mono (by decide)) hG rfl (c.glo 35) F__law_window.kp bare_nil B__law_window .nil tk (sa_cons (se_var (i := 4) rfl (vis_of rfl)) (sa_cons (se_var (i := 11) rfl (vis_of rfl)) (sa_cons (se_var (i := 5) rfl (vis_of rfl)) sa_nil))))))) (sb_one (ss_for po rfl (si_rng1 rfl (c.free 56) (sa_cons (se_var (i := 5) rfl (vis_of rfl)) sa_nil)) (sg_name (i := 12) nd__law_deed rfl (loc_of rfl)) (sb_one (ss_set (i := 10) nd__law_deed rfl (loc_of rfl) (se_op op_addS sv_add (se_var (i := 10) rfl (vis_of rfl)) (se_tup (sa_cons (se_call (G__law_draw.any rfl) (hr.mono (by decide)) hG rfl (c.glo 32) F__law_draw.kp bare_nil B__law_draw .nil tk (sa_cons (se_var (i := 0) rfl (vis_of rfl)) (sa_cons (se_var (i := 3) rfl (vis_of rfl)) sa_nil))) sa_nil)))))))) (sb_one (ss_ret (se_tup (sa_cons (se_ite (st_cmp (op_eqD hr.units) sv_eq (se_var (i := 9) rfl (vis_of rfl)) se_int rfl) se_str se_str) (sa_cons (se_var (i := 10) rfl (vis_of rfl)) sa_nil)))))))))
abbrev N__law_refused : List Str := ["call", "e"]
theorem nd__law_refused : (N__law_refused).Nodup := by decide +kernel
theorem sc__law_refused : FnScope N__law_refused ["call"] (defScope s__law_refused) := ⟨rfl, rfl, rfl, nd__law_refused, rfl, by decide +kernel, by decide +kernel⟩
def h__law_refused (g : Fn) : SM := (bCons (bTry (bExpr (sCv 0 g aNil)) (⟨ansE [("Barred", false), ("InvalidDeed", false), ("InvalidNumber", true), ("InvalidRing", false)], (some 1), fun e => (bRet (sLst (aCons (sCon (.str "number")) (aCons (sApp kRepr (aCons (sErr e 1 "InvalidNumber" "given") aNil)) (aCons (sIsE e 1 [("Barred", true), ("InvalidDeed", true), ("InvalidNumber", true), ("InvalidRing", true)]) aNil)))))⟩ :: (⟨ansE [("Barred", false), ("InvalidDeed", false), ("InvalidNumber", false), ("InvalidRing", true)], (some 1), fun e => (bRet (sLst (aCons (sCon (.str "ring")) (aCons (sApp kRepr (aCons (sErr e 1 "InvalidRing" "index") aNil)) (aCons (sIsE e 1 [("Barred", true), ("InvalidDeed", true), ("InvalidNumber", true), ("InvalidRing", true)]) aNil)))))⟩ :: []))) (bRet (sCon .non)))
theorem ho__law_refused {P : Program} {w : World} {K : PySem.W.Frag} {mg : Str → Option Value} {base : Heap} (c : C w K mg base) : ∃ fd, FunD K "_law_refused" "_law_refused" (defArgs s__law_refused) (defBody s__law_refused) (defScope s__law_refused) [] [] (He.ga K "_law_refused") fd ∧ L2.Binds K fd ["call"] [] ∧ HOBody P w K mg base (tL K) 0 (He.ga K "_law_refused") fd "_law_refused" (defScope s__law_refused) N__law_refused (defBody s__law_refused) "call" 0 h__law_refused := by
  obtain ⟨fd, F⟩ := c.def_ 41
  refine ⟨fd, F, F.bindsN fun _ _ _ _ _ _ us hl => match us, hl with | [_], _ => rfl, fun A outer s H E T' g hr hG hT act => ?_⟩
  have hr : Room 0 (cxOf (CX P w) P w K mg base N__law_refused "_law_refused" (defScope s__law_refused) (He.ga K "_law_refused") fd.code A outer s H E).A := hr
  have tk : Takes (cxOf (CX P w) P w K mg base N__law_refused "_law_refused" (defScope s__law_refused) (He.ga K "_law_refused") fd.code A outer s H E) (fun c d _ H => E c d H) := takes_of rfl rfl rfl rfl
  have po : PassesOwn (model P w) (cxOf (CX P w) P w K mg base N__law_refused "_law_refused" (defScope s__law_refused) (He.ga K "_law_refused") fd.code A outer s H E).A (cxOf (CX P w) P w K mg base N__law_refused "_law_refused" (defScope s__law_refused) (He.ga K "_law_refused") fd.code A outer s H E).env (cxOf (CX P w) P w K mg base N__law_refused "_law_refused" (defScope s__law_refused) (He.ga K "_law_refused") fd.code A outer s H E).xe := passes_of rfl
  exact (sb_cons (ss_try rfl rfl nd__law_refused tk (fun W pn xe tk2 po2 => (sb_one (ss_expr (act.none_ _ _ _ _ _ tk2)))) (SHds.cons ⟨_, (.ref (He.ga K "InvalidNumber")), _, _, _, _, _, rfl, ⟨rfl, rfl, .inl (c.glo 87)⟩, (.inr ⟨"e", 1, rfl, rfl, rfl, rfl⟩), (ansE_ok (l := [("Barred", false), ("InvalidDeed", false), ("InvalidNumber", true), ("InvalidRing", false)]) (by
    exact fun p hp => by
      simp only [List.mem_cons, List.not_mem_nil, or_false] at hp
      rcases hp with rfl | rfl | rfl | rfl
      · exact (c.glo 71)
      · exact (c.glo 86)
      · exact (c.glo 87)
      · exact (c.glo 88)) (exm_InvalidNumber c)), fun a oe cls d pn B e hz hf hx => (sb_one (ss_ret (se_lst (sa_cons se_str (sa_cons (se_callB (cr_repr hG (have h := room_u hr; h)) sc_repr rfl (c.free 57) bt_repr (sa_cons (se_err (i := 1) (err_InvalidNumber c) hz hf hx rfl (vis_of rfl)) sa_nil)) (sa_cons (se_isE (c := (.ref (He.ga K "TrackError"))) (y := (.ref (He.ga K "TrackError"))) (l := [("Barred", true), ("InvalidDeed", true), ("InvalidNumber", true), ("InvalidRing", true)]) (ise_TrackError c) (by
    exact fun p hp => by
      simp only [List.mem_cons, List.not_mem_nil, or_false] at hp
      rcases hp with rfl | rfl | rfl | rfl
      · exact (c.glo 71)
      · exact (c.glo 86)
      · exact (c.glo 87)
      · exact (c.glo 88)) hz hf hx (fun u h => h) rfl (c.free 51) (pe_glob (v := .ref (He.ga K "TrackError")) rfl (c.glo 89) rfl) rfl (vis_of rfl)) sa_nil))))))⟩ (SHds.cons ⟨_, (.ref (He.ga K "InvalidRing")), _, _, _, _, _, rfl, ⟨rfl, rfl, .inl (c.glo 88)⟩, (.inr ⟨"e", 1, rfl, rfl, rfl, rfl⟩), (ansE_ok (l := [("Barred", false), ("InvalidDeed", false), ("InvalidNumber", false), ("InvalidRing", true)]) (by
    exact fun p hp => by
      simp only [List.mem_cons, List.not_mem_nil, or_false] at hp
      rcases hp with rfl | rfl | rfl | rfl
      · exact (c.glo 71)
      · exact (c.glo 86)
      · exact (c.glo 87)
      · exact (c.glo 88)) (exm_InvalidRing c)), fun a oe cls d pn B e hz hf hx => (sb_one (ss_ret (se_lst (sa_cons se_str (sa_cons (se_callB (cr_repr hG (have h := room_u hr; h)) sc_repr rfl (c.free 57) bt_repr (sa_cons (se_err (i := 1) (err_InvalidRing c) hz hf hx rfl (vis_of rfl)) sa_nil)) (sa_cons (se_isE (c := (.ty "ValueError")) (y := (.type "ValueError")) (l := [("Barred", true), ("InvalidDeed", true), ("InvalidNumber", true), ("InvalidRing", true)]) (ise_ValueError c) (by
    exact fun p hp => by
      simp only [List.mem_cons, List.not_mem_nil, or_false] at hp
      rcases hp with rfl | rfl | rfl | rfl
      · exact (c.glo 71)
      · exact (c.glo 86)
      · exact (c.glo 87)
      · exact (c.glo 88)) hz hf hx (fun u h => h) rfl (c.free 51) (isi_by rfl (c.free 44) (by decide +kernel)) rfl (vis_of rfl)) sa_nil))))))⟩ SHds.nil))) (sb_one (ss_ret se_non)))
abbrev N_Follower_is_told : List Str := ["self"]
theorem nd_Follower_is_told : (N_Follower_is_told).Nodup := by decide +kernel
theorem sc_Follower_is_told : FnScope N_Follower_is_told ["self"] (defScope s_Follower_is_told) := ⟨rfl, rfl, rfl, nd_Follower_is_told, rfl, by decide +kernel, by decide +kernel⟩
def b_Follower_is_told : SM := (bRet (s2 opEq (sApp kLen (aCons (sFd "Follower" "places" (sVar 0)) aNil)) (sCon (.int 1))))
def m_Follower_is_told : Fn := fnM 1 1 b_Follower_is_told
theorem ok_Follower_is_told {P : Program} {w : World} {K : PySem.W.Frag} {mg : Str → Option Value} {base : Heap} (c : C w K mg base) : ∃ fd, FunD K d_Follower_is_told.name d_Follower_is_told.qual d_Follower_is_told.params d_Follower_is_told.body d_Follower_is_told.scope (d_Follower_is_told.dvs K) (d_Follower_is_told.kws K) (He.ma K (He.ga K "Follower") "is_told") fd ∧ L2.Binds K fd ["self"] [] ∧ FD P w ⟨K, mg, ⟨tL K, none, none⟩⟩ base 1 (He.ma K (He.ga K "Follower") "is_told") fd ["self"] m_Follower_is_told := by
  obtain ⟨fd, F⟩ := c.def_ 50
  refine ⟨fd, F, F.bindsN fun _ _ _ _ _ _ us hl => match us, hl with | [_], _ => rfl, fd_of (k := 0) F sc_Follower_is_told (by decide) fun A outer s H E hr hG => ?_⟩
  have tk : Takes (cxOf (CX P w) P w K mg base N_Follower_is_told "Follower.is_told" (defScope s_Follower_is_told) (He.ma K (He.ga K "Follower") "is_told") fd.code A outer s H E) (fun c d _ H => E c d H) := takes_of rfl rfl rfl rfl
  have po : PassesOwn (model P w) (cxOf (CX P w) P w K mg base N_Follower_is_told "Follower.is_told" (defScope s_Follower_is_told) (He.ma K (He.ga K "Follower") "is_told") fd.code A outer s H E).A (cxOf (CX P w) P w K mg base N_Follower_is_told "Follower.is_told" (defScope s_Follower_is_told) (He.ma K (He.ga K "Follower") "is_told") fd.code A outer s H E).env (cxOf (CX P w) P w K mg base N_Follower_is_told "Follower.is_told" (defScope s_Follower_is_told) (He.ma K (He.ga K "Follower") "is_told") fd.code A outer s H E).xe := passes_of rfl
  exact (sb_one (ss_ret (se_cmp (op_eqD hr.units) sv_eq (se_callB cr_lenA sc_len rfl (c.free 52) bt_len (sa_cons (se_fld (se_var (i := 0) rfl (vis_of rfl)) (c.glo 72) (c.cls 73) (c.noat 80)) sa_nil)) se_int rfl)))
abbrev N_is_string : List Str := ["value"]
theorem nd_is_string : (N_is_string).Nodup := by decide +kernel
theorem sc_is_string : FnScope N_is_string ["value"] (defScope s_is_string) := ⟨rfl, rfl, rfl, nd_is_string, rfl, by decide +kernel, by decide +kernel⟩
def b_is_string : SM := (bRet (s1 (isiD (ansB "str")) (sVar 0)))
def m_is_string : Fn := fnM 1 1 b_is_string
theorem ok_is_string {P : Program} {w : World} {K : PySem.W.Frag} {mg : Str → Option Value} {base : Heap} (c : C w K mg base) : ∃ fd, FunD K d_is_string.name d_is_string.qual d_is_string.params d_is_string.body d_is_string.scope (d_is_string.dvs K) (d_is_string.kws K) (He.ga K "is_string") fd ∧ L2.Binds K fd ["value"] [] ∧ FD P w ⟨K, mg, ⟨tL K, none, none⟩⟩ base 1 (He.ga K "is_string") fd ["value"] m_is_string := by
  obtain ⟨fd, F⟩ := c.def_ 2
  refine ⟨fd, F, F.bindsN fun _ _ _ _ _ _ us hl => match us, hl with | [_], _ => rfl, fd_of (k := 0) F sc_is_string (by decide) fun A outer s H E hr hG => ?_⟩
  have tk : Takes (cxOf (CX P w) P w K mg base N_is_string "is_string" (defScope s_is_string) (He.ga K "is_string") fd.code A outer s H E) (fun c d _ H => E c d H) := takes_of rfl rfl rfl rfl
  have po : PassesOwn (model P w) (cxOf (CX P w) P w K mg base N_is_string "is_string" (defScope s_is_string) (He.ga K "is_string") fd.code A outer s H E).A (cxOf (CX P w) P w K mg base N_is_string "is_string" (defScope s_is_string) (He.ga K "is_string") fd.code A outer s H E).env (cxOf (CX P w) P w K mg base N_is_string "is_string" (defScope s_is_string) (He.ga K "is_string") fd.code A outer s H E).xe := passes_of rfl
  exact (sb_one (ss_ret (se_isi (isiB "str") (.ty "str") rfl (c.free 51) (se_var (i := 0) rfl (vis_of rfl)) (isi_by rfl (c.free 59) bt_str))))
abbrev N_has_form : List Str := ["value"]
theorem nd_has_form : (N_has_form).Nodup := by decide +kernel
theorem sc_has_form : FnScope N_has_form ["value"] (defScope s_has_form) := ⟨rfl, rfl, rfl, nd_has_form, rfl, by decide +kernel, by decide +kernel⟩
def b_has_form : SM := (bCons (bIf (sOr (sNot (s1 (isiD (ansB "tuple")) (sVar 0))) (sOr (s2 opEq (sApp kLen (aCons (sVar 0) aNil)) (sCon (.int 0))) (sNot (sCl m_is_string [] (aCons (s2 ixD (sVar 0) (sCon (.int 0))) aNil))))) (bRet (sCon (.bl false))) bNil) (bRet (sAnd (sInK kv_SIZES (s2 ixD (sVar 0) (sCon (.int 0)))) (s2 opEq (sApp kLen (aCons (sVar 0) aNil)) (sIxK kv_SIZES (s2 ixD (sVar 0) (sCon (.int 0))))))))
def m_has_form : Fn := fnM 1 1 b_has_form
theorem ok_has_form {P : Program} {w : World} {K : PySem.W.Frag} {mg : Str → Option Value} {base : Heap} (c : C w K mg base) : ∃ fd, FunD K d_has_form.name d_has_form.qual d_has_form.params d_has_form.body d_has_form.scope (d_has_form.dvs K) (d_has_form.kws K) (He.ga K "has_form") fd ∧ L2.Binds K fd ["value"] [] ∧ FD P w ⟨K, mg, ⟨tL K, none, none⟩⟩ base 2 (He.ga K "has_form") fd ["value"] m_has_form := by
  obtain ⟨fd, F⟩ := c.def_ 22
  obtain ⟨fd_is_string, F_is_string, B_is_string, G_is_string⟩ := ok_is_string (P := P) c
  refine ⟨fd, F, F.bindsN fun _ _ _ _ _ _ us hl => match us, hl with | [_], _ => rfl, fd_of (k := 1) F sc_has_form (by decide) fun A outer s H E hr hG => ?_⟩
  have tk : Takes (cxOf (CX P w) P w K mg base N_has_form "has_form" (defScope s_has_form) (He.ga K "has_form") fd.code A outer s H E) (fun c d _ H => E c d H) := takes_of rfl rfl rfl rfl
  have po : PassesOwn (model P w) (cxOf (CX P w) P w K mg base N_has_form "has_form" (defScope s_has_form) (He.ga K "has_form") fd.code A outer s H E).A (cxOf (CX P w) P w K mg base N_has_form "has_form" (defScope s_has_form) (He.ga K "has_form") fd.code A outer s H E).env (cxOf (CX P w) P w K mg base N_has_form "has_form" (defScope s_has_form) (He.ga K "has_form") fd.code A outer s H E).xe := passes_of rfl
  exact (sb_cons (ss_if (SW.st (sw_or (st_not (st_val (se_isi (isiB "tuple") (.ty "tuple") rfl (c.free 51) (se_var (i := 0) rfl (vis_of rfl)) (isi_by rfl (c.free 60) bt_tuple)))) (sw_or (st_cmp (op_eqD hr.units) sv_eq (se_callB cr_lenA sc_len rfl (c.free 52) bt_len (sa_cons (se_var (i := 0) rfl (vis_of rfl)) sa_nil)) se_int rfl) (sw_one_or (st_not (st_val (se_call (G_is_string.any rfl) (hr.mono (by decide)) hG rfl (c.glo 2) F_is_string.kp bare_nil B_is_string .nil tk (sa_cons (se_ix (room_u1 hr) (se_var (i := 0) rfl (vis_of rfl)) se_int) sa_nil)))))))) (sb_one (ss_ret se_bl)) sb_nil) (sb_one (ss_ret (se_and (se_inK (kt_SIZES c) (se_ix (room_u1 hr) (se_var (i := 0) rfl (vis_of rfl)) se_int) rfl (c.glo 70)) (se_one (se_cmp (op_eqD hr.units) sv_eq (se_callB cr_lenA sc_len rfl (c.free 52) bt_len (sa_cons (se_var (i := 0) rfl (vis_of rfl)) sa_nil)) (se_ixK (kt_SIZES c) (se_ix (room_u1 hr) (se_var (i := 0) rfl (vis_of rfl)) se_int) rfl (c.glo 70)) rfl))))))
abbrev N_is_tuple_of : List Str := ["value", "many"]
theorem nd_is_tuple_of : (N_is_tuple_of).Nodup := by decide +kernel
theorem sc_is_tuple_of : FnScope N_is_tuple_of ["value", "many"] (defScope s_is_tuple_of) := ⟨rfl, rfl, rfl, nd_is_tuple_of, rfl, by decide +kernel, by decide +kernel⟩
def b_is_tuple_of : SM := (bRet (sAnd (s1 (isiD (ansB "tuple")) (sVar 0)) (s2 opEq (sApp kLen (aCons (sVar 0) aNil)) (sVar 1))))
def m_is_tuple_of : Fn := fnM 2 2 b_is_tuple_of
theorem ok_is_tuple_of {P : Program} {w : World} {K : PySem.W.Frag} {mg : Str → Option Value} {base : Heap} (c : C w K mg base) : ∃ fd, FunD K d_is_tuple_of.name d_is_tuple_of.qual d_is_tuple_of.params d_is_tuple_of.body d_is_tuple_of.scope (d_is_tuple_of.dvs K) (d_is_tuple_of.kws K) (He.ga K "is_tuple_of") fd ∧ L2.Binds K fd ["value", "many"] [] ∧ FD P w ⟨K, mg, ⟨tL K, none, none⟩⟩ base 1 (He.ga K "is_tuple_of") fd ["value", "many"] m_is_tuple_of := by
  obtain ⟨fd, F⟩ := c.def_ 3
  refine ⟨fd, F, F.bindsN fun _ _ _ _ _ _ us hl => match us, hl with | [_, _], _ => rfl, fd_of (k := 0) F sc_is_tuple_of (by decide) fun A outer s H E hr hG => ?_⟩
  have tk : Takes (cxOf (CX P w) P w K mg base N_is_tuple_of "is_tuple_of" (defScope s_is_tuple_of) (He.ga K "is_tuple_of") fd.code A outer s H E) (fun c d _ H => E c d H) := takes_of rfl rfl rfl rfl
  have po : PassesOwn (model P w) (cxOf (CX P w) P w K mg base N_is_tuple_of "is_tuple_of" (defScope s_is_tuple_of) (He.ga K "is_tuple_of") fd.code A outer s H E).A (cxOf (CX P w) P w K mg base N_is_tuple_of "is_tuple_of" (defScope s_is_tuple_of) (He.ga K "is_tuple_of") fd.code A outer s H E).env (cxOf (CX P w) P w K mg base N_is_tuple_of "is_tuple_of" (defScope s_is_tuple_of) (He.ga K "is_tuple_of") fd.code A outer s H E).xe := passes_of rfl
  exact (sb_one (ss_ret (se_and (se_isi (isiB "tuple") (.ty "tuple") rfl (c.free 51) (se_var (i := 0) rfl (vis_of rfl)) (isi_by rfl (c.free 60) bt_tuple)) (se_one (se_cmp (op_eqD hr.units) sv_eq (se_callB cr_lenA sc_len rfl (c.free 52) bt_len (sa_cons (se_var (i := 0) rfl (vis_of rfl)) sa_nil)) (se_var (i := 1) rfl (vis_of rfl)) rfl)))))
abbrev N_is_window : List Str := ["sorts", "wide", "value"]
theorem nd_is_window : (N_is_window).Nodup := by decide +kernel
theorem sc_is_window : FnScope N_is_window ["sorts", "wide", "value"] (defScope s_is_window) := ⟨rfl, rfl, rfl, nd_is_window, rfl, by decide +kernel, by decide +kernel⟩
def b_is_window : SM := (bRet (sAnd (sCl m_is_tuple_of [] (aCons (sVar 2) (aCons (sVar 1) aNil))) (s2 opIsN (sCl m_wrong_mark [] (aCons (sVar 0) (aCons (sVar 2) aNil))) (sCon .non))))
def m_is_window : Fn := fnM 3 3 b_is_window
theorem ok_is_window {P : Program} {w : World} {K : PySem.W.Frag} {mg : Str → Option Value} {base : Heap} (c : C w K mg base) : ∃ fd, FunD K d_is_window.name d_is_window.qual d_is_window.params d_is_window.body d_is_window.scope (d_is_window.dvs K) (d_is_window.kws K) (He.ga K "is_window") fd ∧ L2.Binds K fd ["sorts", "wide", "value"] [] ∧ FD P w ⟨K, mg, ⟨tL K, none, none⟩⟩ base 7 (He.ga K "is_window") fd ["sorts", "wide", "value"] m_is_window := by
  obtain ⟨fd, F⟩ := c.def_ 10
  obtain ⟨fd_wrong_mark, F_wrong_mark, B_wrong_mark, G_wrong_mark⟩ := ok_wrong_mark (P := P) c
  obtain ⟨fd_is_tuple_of, F_is_tuple_of, B_is_tuple_of, G_is_tuple_of⟩ := ok_is_tuple_of (P := P) c
  refine ⟨fd, F, F.bindsN fun _ _ _ _ _ _ us hl => match us, hl with | [_, _, _], _ => rfl, fd_of (k := 6) F sc_is_window (by decide) fun A outer s H E hr hG => ?_⟩
  have tk : Takes (cxOf (CX P w) P w K mg base N_is_window "is_window" (defScope s_is_window) (He.ga K "is_window") fd.code A outer s H E) (fun c d _ H => E c d H) := takes_of rfl rfl rfl rfl
  have po : PassesOwn (model P w) (cxOf (CX P w) P w K mg base N_is_window "is_window" (defScope s_is_window) (He.ga K "is_window") fd.code A outer s H E).A (cxOf (CX P w) P w K mg base N_is_window "is_window" (defScope s_is_window) (He.ga K "is_window") fd.code A outer s H E).env (cxOf (CX P w) P w K mg base N_is_window "is_window" (defScope s_is_window) (He.ga K "is_window") fd.code A outer s H E).xe := passes_of rfl
  exact (sb_one (ss_ret (se_and (se_call (G_is_tuple_of.any rfl) (hr.mono (by decide)) hG rfl (c.glo 3) F_is_tuple_of.kp bare_nil B_is_tuple_of .nil tk (sa_cons (se_var (i := 2) rfl (vis_of rfl)) (sa_cons (se_var (i := 1) rfl (vis_of rfl)) sa_nil))) (se_one (se_cmp op_isN sv_isN (se_call (G_wrong_mark.any rfl) (hr.mono (by decide)) hG rfl (c.glo 8) F_wrong_mark.kp bare_nil B_wrong_mark .nil tk (sa_cons (se_var (i := 0) rfl (vis_of rfl)) (sa_cons (se_var (i := 2) rfl (vis_of rfl)) sa_nil))) se_non rfl)))))
abbrev N_check_deed : List Str := ["sorts", "wide", "value"]
theorem nd_check_deed : (N_check_deed).Nodup := by decide +kernel
theorem sc_check_deed : FnScope N_check_deed ["sorts", "wide", "value"] (defScope s_check_deed) := ⟨rfl, rfl, rfl, nd_check_deed, rfl, by decide +kernel, by decide +kernel⟩
def b_check_deed : SM := (bCons (bIf (sNot (sCl m_has_form [] (aCons (sVar 2) aNil))) (bRaise "InvalidDeed" "index" (sCon (.int 0))) bNil) (bIf (sAnd (s2 opNe (s2 ixD (sVar 2) (sCon (.int 0))) (sCon (.str "miss"))) (sNot (sCl m_is_window [] (aCons (sVar 0) (aCons (sVar 1) (aCons (s2 ixD (sVar 2) (sCon (.int 1))) aNil)))))) (bRaise "InvalidDeed" "index" (sCon (.int 1))) bNil))
def m_check_deed : Fn := fnM 3 3 b_check_deed
theorem ok_check_deed {P : Program} {w : World} {K : PySem.W.Frag} {mg : Str → Option Value} {base : Heap} (c : C w K mg base) : ∃ fd, FunD K d_check_deed.name d_check_deed.qual d_check_deed.params d_check_deed.body d_check_deed.scope (d_check_deed.dvs K) (d_check_deed.kws K) (He.ga K "check_deed") fd ∧ L2.Binds K fd ["sorts", "wide", "value"] [] ∧ FD P w ⟨K, mg, ⟨tL K, none, none⟩⟩ base 8 (He.ga K "check_deed") fd ["sorts", "wide", "value"] m_check_deed := by
  obtain ⟨fd, F⟩ := c.def_ 23
  obtain ⟨fd_has_form, F_has_form, B_has_form, G_has_form⟩ := ok_has_form (P := P) c
  obtain ⟨fd_is_window, F_is_window, B_is_window, G_is_window⟩ := ok_is_window (P := P) c
  refine ⟨fd, F, F.bindsN fun _ _ _ _ _ _ us hl => match us, hl with | [_, _, _], _ => rfl, fd_of (k := 7) F sc_check_deed (by decide) fun A outer s H E hr hG => ?_⟩
  have tk : Takes (cxOf (CX P w) P w K mg base N_check_deed "check_deed" (defScope s_check_deed) (He.ga K "check_deed") fd.code A outer s H E) (fun c d _ H => E c d H) := takes_of rfl rfl rfl rfl
  have po : PassesOwn (model P w) (cxOf (CX P w) P w K mg base N_check_deed "check_deed" (defScope s_check_deed) (He.ga K "check_deed") fd.code A outer s H E).A (cxOf (CX P w) P w K mg base N_check_deed "check_deed" (defScope s_check_deed) (He.ga K "check_deed") fd.code A outer s H E).env (cxOf (CX P w) P w K mg base N_check_deed "check_deed" (defScope s_check_deed) (He.ga K "check_deed") fd.code A outer s H E).xe := passes_of rfl
  exact (sb_cons (ss_if (st_not (st_val (se_call (G_has_form.any rfl) (hr.mono (by decide)) hG rfl (c.glo 22) F_has_form.kp bare_nil B_has_form .nil tk (sa_cons (se_var (i := 2) rfl (vis_of rfl)) sa_nil)))) (sb_one (ss_raise rfl (err_InvalidDeed c) hr tk se_int rfl)) sb_nil) (sb_one (ss_if (SW.st (sw_and (st_cmp (op_neD hr.units) sv_ne (se_ix (room_u1 hr) (se_var (i := 2) rfl (vis_of rfl)) se_int) se_str rfl) (sw_one_and (st_not (st_val (se_call (G_is_window.any rfl) (hr.mono (by decide)) hG rfl (c.glo 10) F_is_window.kp bare_nil B_is_window .nil tk (sa_cons (se_var (i := 0) rfl (vis_of rfl)) (sa_cons (se_var (i := 1) rfl (vis_of rfl)) (sa_cons (se_ix (room_u1 hr) (se_var (i := 2) rfl (vis_of rfl)) se_int) sa_nil))))))))) (sb_one (ss_raise rfl (err_InvalidDeed c) hr tk se_int rfl)) sb_nil)))
abbrev N_apart_of : List Str := ["one", "other", "mark", "far"]
theorem nd_apart_of : (N_apart_of).Nodup := by decide +kernel
theorem sc_apart_of : FnScope N_apart_of ["one", "other"] (defScope s_apart_of) := ⟨rfl, rfl, rfl, nd_apart_of, rfl, by decide +kernel, by decide +kernel⟩
def b_apart_of : SM := (bRet (sApp kLen (aCons (sComp [2, 3] (iZ (aCons (sVar 0) (aCons (sVar 1) aNil))) (gTp 2 (gsCons (gNm 2) (gsCons (gNm 3) gsNil))) (cOne (s2 opNe (sVar 2) (sVar 3))) (sCon (.int 1))) aNil)))
def m_apart_of : Fn := fnM 2 4 b_apart_of
theorem ok_apart_of {P : Program} {w : World} {K : PySem.W.Frag} {mg : Str → Option Value} {base : Heap} (c : C w K mg base) : ∃ fd, FunD K d_apart_of.name d_apart_of.qual d_apart_of.params d_apart_of.body d_apart_of.scope (d_apart_of.dvs K) (d_apart_of.kws K) (He.ga K "apart_of") fd ∧ L2.Binds K fd ["one", "other"] [] ∧ FD P w ⟨K, mg, ⟨tL K, none, none⟩⟩ base 1 (He.ga K "apart_of") fd ["one", "other"] m_apart_of := by
  obtain ⟨fd, F⟩ := c.def_ 21
  refine ⟨fd, F, F.bindsN fun _ _ _ _ _ _ us hl => match us, hl with | [_, _], _ => rfl, fd_of (k := 0) F sc_apart_of (by decide) fun A outer s H E hr hG => ?_⟩
  have tk : Takes (cxOf (CX P w) P w K mg base N_apart_of "apart_of" (defScope s_apart_of) (He.ga K "apart_of") fd.code A outer s H E) (fun c d _ H => E c d H) := takes_of rfl rfl rfl rfl
  have po : PassesOwn (model P w) (cxOf (CX P w) P w K mg base N_apart_of "apart_of" (defScope s_apart_of) (He.ga K "apart_of") fd.code A outer s H E).A (cxOf (CX P w) P w K mg base N_apart_of "apart_of" (defScope s_apart_of) (He.ga K "apart_of") fd.code A outer s H E).env (cxOf (CX P w) P w K mg base N_apart_of "apart_of" (defScope s_apart_of) (He.ga K "apart_of") fd.code A outer s H E).xe := passes_of rfl
  exact (sb_one (ss_ret (se_callB cr_lenA sc_len rfl (c.free 52) bt_len (sa_cons (se_comp (own := [("mark", 2), ("far", 3)]) (b := (gTp 2 (gsCons (gNm 2) (gsCons (gNm 3) gsNil)))) (g := (gTup K 2 (gCons (gName 2) (gCons (gName 3) gNil)))) rfl nd_apart_of (si_zip rfl (c.free 61) (sa_cons (se_var (i := 0) rfl (vis_of rfl)) (sa_cons (se_var (i := 1) rfl (vis_of rfl)) sa_nil))) (blkOk_by (N := N_apart_of) (sc := defScope s_apart_of) (by decide +kernel)) gpair_of (gpair_same (by decide) (by decide)) (fun s H C cl fp => (pg_tup rfl (pgs_cons (pg_name (i := 2) nd_apart_of rfl (loc_of rfl)) (pgs_cons (pg_name (i := 3) nd_apart_of rfl (loc_of rfl)) pgs_nil)))) (fun s H C cl fp => (sts_one (st_cmp (op_neD hr.units) sv_ne (se_var (i := 2) rfl (vis_of rfl)) (se_var (i := 3) rfl (vis_of rfl)) rfl))) (fun s H C cl fp => se_int)) sa_nil))))
abbrev N_window_at : List Str := ["ring", "place", "wide", "turn"]
theorem nd_window_at : (N_window_at).Nodup := by decide +kernel
theorem sc_window_at : FnScope N_window_at ["ring", "place", "wide"] (defScope s_window_at) := ⟨rfl, rfl, rfl, nd_window_at, rfl, by decide +kernel, by decide +kernel⟩
def b_window_at : SM := (bRet (sApp kTuple (aCons (sComp [3] (iR1 (aCons (sVar 2) aNil)) (gNm 3) cYes (s2 ixD (sVar 0) (s2 opMod (s2 opAdd (sVar 1) (sVar 3)) (sApp kLen (aCons (sVar 0) aNil))))) aNil)))
def m_window_at : Fn := fnM 3 4 b_window_at
theorem ok_window_at {P : Program} {w : World} {K : PySem.W.Frag} {mg : Str → Option Value} {base : Heap} (c : C w K mg base) : ∃ fd, FunD K d_window_at.name d_window_at.qual d_window_at.params d_window_at.body d_window_at.scope (d_window_at.dvs K) (d_window_at.kws K) (He.ga K "window_at") fd ∧ L2.Binds K fd ["ring", "place", "wide"] [] ∧ FD P w ⟨K, mg, ⟨tL K, none, none⟩⟩ base 1 (He.ga K "window_at") fd ["ring", "place", "wide"] m_window_at := by
  obtain ⟨fd, F⟩ := c.def_ 20
  refine ⟨fd, F, F.bindsN fun _ _ _ _ _ _ us hl => match us, hl with | [_, _, _], _ => rfl, fd_of (k := 0) F sc_window_at (by decide) fun A outer s H E hr hG => ?_⟩
  have tk : Takes (cxOf (CX P w) P w K mg base N_window_at "window_at" (defScope s_window_at) (He.ga K "window_at") fd.code A outer s H E) (fun c d _ H => E c d H) := takes_of rfl rfl rfl rfl
  have po : PassesOwn (model P w) (cxOf (CX P w) P w K mg base N_window_at "window_at" (defScope s_window_at) (He.ga K "window_at") fd.code A outer s H E).A (cxOf (CX P w) P w K mg base N_window_at "window_at" (defScope s_window_at) (He.ga K "window_at") fd.code A outer s H E).env (cxOf (CX P w) P w K mg base N_window_at "window_at" (defScope s_window_at) (He.ga K "window_at") fd.code A outer s H E).xe := passes_of rfl
  exact (sb_one (ss_ret (se_callTy cr_tupOf sc_tuple rfl (c.free 60) bt_tuple (sa_cons (se_comp (own := [("turn", 3)]) (b := (gNm 3)) (g := (gName 3)) rfl nd_window_at (si_rng1 rfl (c.free 56) (sa_cons (se_var (i := 2) rfl (vis_of rfl)) sa_nil)) (blkOk_by (N := N_window_at) (sc := defScope s_window_at) (by decide +kernel)) gname_of (gname_same (by decide)) (fun s H C cl fp => (pg_name (i := 3) nd_window_at rfl (loc_of rfl))) (fun s H C cl fp => sts_nil) (fun s H C cl fp => (se_ix (room_u1 hr) (se_var (i := 0) rfl (vis_of rfl)) (se_op op_mod sv_mod (se_op op_addS sv_add (se_var (i := 1) rfl (vis_of rfl)) (se_var (i := 3) rfl (vis_of rfl))) (se_callB cr_lenA sc_len rfl (c.free 52) bt_len (sa_cons (se_var (i := 0) rfl (vis_of rfl)) sa_nil)))))) sa_nil))))
abbrev N_fitting : List Str := ["ring", "places", "window", "misread", "wide", "place"]
theorem nd_fitting : (N_fitting).Nodup := by decide +kernel
theorem sc_fitting : FnScope N_fitting ["ring", "places", "window", "misread"] (defScope s_fitting) := ⟨rfl, rfl, rfl, nd_fitting, rfl, by decide +kernel, by decide +kernel⟩
def b_fitting : SM := (bCons (bSet 4 (sApp kLen (aCons (sVar 2) aNil))) (bRet (sApp kTuple (aCons (sComp [5] (iT (sVar 1)) (gNm 5) (cOne (s2 opLe (sCl m_apart_of [] (aCons (sCl m_window_at [] (aCons (sVar 0) (aCons (sVar 5) (aCons (sVar 4) aNil)))) (aCons (sVar 2) aNil))) (sVar 3))) (sVar 5)) aNil))))
def m_fitting : Fn := fnM 4 6 b_fitting
theorem ok_fitting {P : Program} {w : World} {K : PySem.W.Frag} {mg : Str → Option Value} {base : Heap} (c : C w K mg base) : ∃ fd, FunD K d_fitting.name d_fitting.qual d_fitting.params d_fitting.body d_fitting.scope (d_fitting.dvs K) (d_fitting.kws K) (He.ga K "fitting") fd ∧ L2.Binds K fd ["ring", "places", "window", "misread"] [] ∧ FD P w ⟨K, mg, ⟨tL K, none, none⟩⟩ base 2 (He.ga K "fitting") fd ["ring", "places", "window", "misread"] m_fitting := by
  obtain ⟨fd, F⟩ := c.def_ 25
  obtain ⟨fd_apart_of, F_apart_of, B_apart_of, G_apart_of⟩ := ok_apart_of (P := P) c
  obtain ⟨fd_window_at, F_window_at, B_window_at, G_window_at⟩ := ok_window_at (P := P) c
  refine ⟨fd, F, F.bindsN fun _ _ _ _ _ _ us hl => match us, hl with | [_, _, _, _], _ => rfl, fd_of (k := 1) F sc_fitting (by decide) fun A outer s H E hr hG => ?_⟩
  have tk : Takes (cxOf (CX P w) P w K mg base N_fitting "fitting" (defScope s_fitting) (He.ga K "fitting") fd.code A outer s H E) (fun c d _ H => E c d H) := takes_of rfl rfl rfl rfl
  have po : PassesOwn (model P w) (cxOf (CX P w) P w K mg base N_fitting "fitting" (defScope s_fitting) (He.ga K "fitting") fd.code A outer s H E).A (cxOf (CX P w) P w K mg base N_fitting "fitting" (defScope s_fitting) (He.ga K "fitting") fd.code A outer s H E).env (cxOf (CX P w) P w K mg base N_fitting "fitting" (defScope s_fitting) (He.ga K "fitting") fd.code A outer s H E).xe := passes_of rfl
  exact (sb_cons (ss_set (i := 4) nd_fitting rfl (loc_of rfl) (se_callB cr_lenA sc_len rfl (c.free 52) bt_len (sa_cons (se_var (i := 2) rfl (vis_of rfl)) sa_nil))) (sb_one (ss_ret (se_callTy cr_tupOf sc_tuple rfl (c.free 60) bt_tuple (sa_cons (se_comp (own := [("place", 5)]) (b := (gNm 5)) (g := (gName 5)) rfl nd_fitting (si_tup (se_var (i := 1) rfl (vis_of rfl))) (blkOk_by (N := N_fitting) (sc := defScope s_fitting) (by decide +kernel)) gname_of (gname_same (by decide)) (fun s H C cl fp => (pg_name (i := 5) nd_fitting rfl (loc_of rfl))) (fun s H C cl fp => (sts_one (st_cmp op_le sv_le (se_call (G_apart_of.any rfl) (hr.mono (by decide)) hG rfl (c.glo 21) F_apart_of.kp bare_nil B_apart_of .nil tkF (sa_cons (se_call (G_window_at.any rfl) (hr.mono (by decide)) hG rfl (c.glo 20) F_window_at.kp bare_nil B_window_at .nil tkF (sa_cons (se_var (i := 0) rfl (vis_of rfl)) (sa_cons (se_var (i := 5) rfl (vis_of rfl)) (sa_cons (se_var (i := 4) rfl (vis_of rfl)) sa_nil)))) (sa_cons (se_var (i := 2) rfl (vis_of rfl)) sa_nil))) (se_var (i := 3) rfl (vis_of rfl)) rfl))) (fun s H C cl fp => (se_var (i := 5) rfl (vis_of rfl)))) sa_nil)))))
abbrev N_steps_on : List Str := ["ring", "places", "least", "most", "ends", "place", "step"]
theorem nd_steps_on : (N_steps_on).Nodup := by decide +kernel
theorem sc_steps_on : FnScope N_steps_on ["ring", "places", "least", "most"] (defScope s_steps_on) := ⟨rfl, rfl, rfl, nd_steps_on, rfl, by decide +kernel, by decide +kernel⟩
def b_steps_on : SM := (bCons (bSet 4 (sDict2 fzD [5, 6] (iT (sVar 1)) (gNm 5) cYes (iR2 (aCons (sVar 2) (aCons (s2 opAdd (sVar 3) (sCon (.int 1))) aNil))) [6] (gNm 6) cYes (s2 opMod (s2 opAdd (sVar 5) (sVar 6)) (sApp kLen (aCons (sVar 0) aNil))) (sCon (.bl true)))) (bRet (sApp kTuple (aCons (sApp kSorted (aCons (sVar 4) aNil)) aNil))))
def m_steps_on : Fn := fnM 4 7 b_steps_on
theorem ok_steps_on {P : Program} {w : World} {K : PySem.W.Frag} {mg : Str → Option Value} {base : Heap} (c : C w K mg base) : ∃ fd, FunD K d_steps_on.name d_steps_on.qual d_steps_on.params d_steps_on.body d_steps_on.scope (d_steps_on.dvs K) (d_steps_on.kws K) (He.ga K "steps_on") fd ∧ L2.Binds K fd ["ring", "places", "least", "most"] [] ∧ FD P w ⟨K, mg, ⟨tL K, none, none⟩⟩ base 1 (He.ga K "steps_on") fd ["ring", "places", "least", "most"] m_steps_on := by
  obtain ⟨fd, F⟩ := c.def_ 24
  refine ⟨fd, F, F.bindsN fun _ _ _ _ _ _ us hl => match us, hl with | [_, _, _, _], _ => rfl, fd_of (k := 0) F sc_steps_on (by decide) fun A outer s H E hr hG => ?_⟩
  have tk : Takes (cxOf (CX P w) P w K mg base N_steps_on "steps_on" (defScope s_steps_on) (He.ga K "steps_on") fd.code A outer s H E) (fun c d _ H => E c d H) := takes_of rfl rfl rfl rfl
  have po : PassesOwn (model P w) (cxOf (CX P w) P w K mg base N_steps_on "steps_on" (defScope s_steps_on) (He.ga K "steps_on") fd.code A outer s H E).A (cxOf (CX P w) P w K mg base N_steps_on "steps_on" (defScope s_steps_on) (He.ga K "steps_on") fd.code A outer s H E).env (cxOf (CX P w) P w K mg base N_steps_on "steps_on" (defScope s_steps_on) (He.ga K "steps_on") fd.code A outer s H E).xe := passes_of rfl
  exact (sb_cons (ss_setDict2 (i := 4) (own := [("place", 5), ("step", 6)]) (vs1 := [6]) (b := (gNm 5)) (g := (gName 5)) (b1 := (gNm 6)) (g1 := (gName 6)) rfl nd_steps_on rfl rfl rfl (si_tup (se_var (i := 1) rfl (vis_of rfl))) (blkOk_by (N := N_steps_on) (sc := defScope s_steps_on) (by decide +kernel)) (by decide) gname_of (gname_same (by decide)) gname_of (gname_same (by decide)) (fun s H C cl fp => (pg_name (i := 5) nd_steps_on rfl (loc_of rfl))) (fun s H C cl fp => sts_nil) (fun s H C cl fp => (si_rng2 rfl (c.free 56) (sa_cons (se_var (i := 2) rfl (vis_of rfl)) (sa_cons (se_op op_addS sv_add (se_var (i := 3) rfl (vis_of rfl)) se_int) sa_nil)))) (fun s H C cl fp => (pg_name (i := 6) nd_steps_on rfl (loc_of rfl))) (fun s H C cl fp => sts_nil) (fun s H C cl fp => (se_op op_mod sv_mod (se_op op_addS sv_add (se_var (i := 5) rfl (vis_of rfl)) (se_var (i := 6) rfl (vis_of rfl))) (se_callB cr_lenA sc_len rfl (c.free 52) bt_len (sa_cons (se_var (i := 0) rfl (vis_of rfl)) sa_nil)))) (fun s H C cl fp => se_bl)) (sb_one (ss_ret (se_callTy cr_tupOf sc_tuple rfl (c.free 60) bt_tuple (sa_cons (se_callB (cr_sortA rfl) sc_sorted rfl (c.free 58) bt_sorted (sa_cons (se_var (i := 4) rfl (vis_of rfl)) sa_nil)) sa_nil)))))
abbrev N_places_behind : List Str := ["follower", "deed", "places"]
theorem nd_places_behind : (N_places_behind).Nodup := by decide +kernel
theorem sc_places_behind : FnScope N_places_behind ["follower", "deed"] (defScope s_places_behind) := ⟨rfl, rfl, rfl, nd_places_behind, rfl, by decide +kernel, by decide +kernel⟩
def b_places_behind : SM := (bCons (bSet 2 (sFd "Follower" "places" (sVar 0))) (bCons (bIf (sAnd (s2 opNe (s2 ixD (sVar 1) (sCon (.int 0))) (sCon (.str "still"))) (s2 opNe (sFd "Follower" "deeds" (sVar 0)) (sTup aNil))) (bSet 2 (sCl m_steps_on [] (aCons (sFd "Follower" "ring" (sVar 0)) (aCons (sVar 2) (aCons (sFd "Follower" "least" (sVar 0)) (aCons (sFd "Follower" "most" (sVar 0)) aNil)))))) bNil) (bCons (bIf (s2 opEq (s2 ixD (sVar 1) (sCon (.int 0))) (sCon (.str "miss"))) (bRet (sVar 2)) bNil) (bRet (sCl m_fitting [] (aCons (sFd "Follower" "ring" (sVar 0)) (aCons (sVar 2) (aCons (s2 ixD (sVar 1) (sCon (.int 1))) (aCons (sFd "Follower" "misread" (sVar 0)) aNil)))))))))
def m_places_behind : Fn := fnM 2 3 b_places_behind
theorem ok_places_behind {P : Program} {w : World} {K : PySem.W.Frag} {mg : Str → Option Value} {base : Heap} (c : C w K mg base) : ∃ fd, FunD K d_places_behind.name d_places_behind.qual d_places_behind.params d_places_behind.body d_places_behind.scope (d_places_behind.dvs K) (d_places_behind.kws K) (He.ga K "places_behind") fd ∧ L2.Binds K fd ["follower", "deed"] [] ∧ FD P w ⟨K, mg, ⟨tL K, none, none⟩⟩ base 3 (He.ga K "places_behind") fd ["follower", "deed"] m_places_behind := by
  obtain ⟨fd, F⟩ := c.def_ 26
  obtain ⟨fd_steps_on, F_steps_on, B_steps_on, G_steps_on⟩ := ok_steps_on (P := P) c
  obtain ⟨fd_fitting, F_fitting, B_fitting, G_fitting⟩ := ok_fitting (P := P) c
  refine ⟨fd, F, F.bindsN fun _ _ _ _ _ _ us hl => match us, hl with | [_, _], _ => rfl, fd_of (k := 2) F sc_places_behind (by decide) fun A outer s H E hr hG => ?_⟩
  have tk : Takes (cxOf (CX P w) P w K mg base N_places_behind "places_behind" (defScope s_places_behind) (He.ga K "places_behind") fd.code A outer s H E) (fun c d _ H => E c d H) := takes_of rfl rfl rfl rfl
  have po : PassesOwn (model P w) (cxOf (CX P w) P w K mg base N_places_behind "places_behind" (defScope s_places_behind) (He.ga K "places_behind") fd.code A outer s H E).A (cxOf (CX P w) P w K mg base N_places_behind "places_behind" (defScope s_places_behind) (He.ga K "places_behind") fd.code A outer s H E).env (cxOf (CX P w) P w K mg base N_places_behind "places_behind" (defScope s_places_behind) (He.ga K "places_behind") fd.code A outer s H E).xe := passes_of rfl
  exact (sb_cons (ss_set (i := 2) nd_places_behind rfl (loc_of rfl) (se_fld (se_var (i := 0) rfl (vis_of rfl)) (c.glo 72) (c.cls 73) (c.noat 80))) (sb_cons (ss_if (SW.st (sw_and (st_cmp (op_neD hr.units) sv_ne (se_ix (room_u1 hr) (se_var (i := 1) rfl (vis_of rfl)) se_int) se_str rfl) (sw_one_and (st_cmp (op_neD hr.units) sv_ne (se_fld (se_var (i := 0) rfl (vis_of rfl)) (c.glo 72) (c.cls 73) (c.noat 75)) (se_tup sa_nil) rfl)))) (sb_one (ss_set (i := 2) nd_places_behind rfl (loc_of rfl) (se_call (G_steps_on.any rfl) (hr.mono (by decide)) hG rfl (c.glo 24) F_steps_on.kp bare_nil B_steps_on .nil tk (sa_cons (se_fld (se_var (i := 0) rfl (vis_of rfl)) (c.glo 72) (c.cls 73) (c.noat 81)) (sa_cons (se_var (i := 2) rfl (vis_of rfl)) (sa_cons (se_fld (se_var (i := 0) rfl (vis_of rfl)) (c.glo 72) (c.cls 73) (c.noat 76)) (sa_cons (se_fld (se_var (i := 0) rfl (vis_of rfl)) (c.glo 72) (c.cls 73) (c.noat 78)) sa_nil))))))) sb_nil) (sb_cons (ss_if (st_cmp (op_eqD hr.units) sv_eq (se_ix (room_u1 hr) (se_var (i := 1) rfl (vis_of rfl)) se_int) se_str rfl) (sb_one (ss_ret (se_var (i := 2) rfl (vis_of rfl)))) sb_nil) (sb_one (ss_ret (se_call (G_fitting.any rfl) (hr.mono (by decide)) hG rfl (c.glo 25) F_fitting.kp bare_nil B_fitting .nil tk (sa_cons (se_fld (se_var (i := 0) rfl (vis_of rfl)) (c.glo 72) (c.cls 73) (c.noat 81)) (sa_cons (se_var (i := 2) rfl (vis_of rfl)) (sa_cons (se_ix (room_u1 hr) (se_var (i := 1) rfl (vis_of rfl)) se_int) (sa_cons (se_fld (se_var (i := 0) rfl (vis_of rfl)) (c.glo 72) (c.cls 73) (c.noat 77)) sa_nil))))))))))
abbrev N_reason_against : List Str := ["follower", "deed"]
theorem nd_reason_against : (N_reason_against).Nodup := by decide +kernel
theorem sc_reason_against : FnScope N_reason_against ["follower", "deed"] (defScope s_reason_against) := ⟨rfl, rfl, rfl, nd_reason_against, rfl, by decide +kernel, by decide +kernel⟩
def b_reason_against : SM := (bCons (bIf (sAnd (s2 opEq (s2 ixD (sVar 1) (sCon (.int 0))) (sCon (.str "still"))) (s2 opEq (sFd "Follower" "deeds" (sVar 0)) (sTup aNil))) (bRet (sCon (.str "first"))) bNil) (bRet (sIte (s2 opEq (sCl m_places_behind [] (aCons (sVar 0) (aCons (sVar 1) aNil))) (sTup aNil)) (sCon (.str "never")) (sCon .non))))
def m_reason_against : Fn := fnM 2 2 b_reason_against
theorem ok_reason_against {P : Program} {w : World} {K : PySem.W.Frag} {mg : Str → Option Value} {base : Heap} (c : C w K mg base) : ∃ fd, FunD K d_reason_against.name d_reason_against.qual d_reason_against.params d_reason_against.body d_reason_against.scope (d_reason_against.dvs K) (d_reason_against.kws K) (He.ga K "reason_against") fd ∧ L2.Binds K fd ["follower", "deed"] [] ∧ FD P w ⟨K, mg, ⟨tL K, none, none⟩⟩ base 4 (He.ga K "reason_against") fd ["follower", "deed"] m_reason_against := by
  obtain ⟨fd, F⟩ := c.def_ 27
  obtain ⟨fd_places_behind, F_places_behind, B_places_behind, G_places_behind⟩ := ok_places_behind (P := P) c
  refine ⟨fd, F, F.bindsN fun _ _ _ _ _ _ us hl => match us, hl with | [_, _], _ => rfl, fd_of (k := 3) F sc_reason_against (by decide) fun A outer s H E hr hG => ?_⟩
  have tk : Takes (cxOf (CX P w) P w K mg base N_reason_against "reason_against" (defScope s_reason_against) (He.ga K "reason_against") fd.code A outer s H E) (fun c d _ H => E c d H) := takes_of rfl rfl rfl rfl
  have po : PassesOwn (model P w) (cxOf (CX P w) P w K mg base N_reason_against "reason_against" (defScope s_reason_against) (He.ga K "reason_against") fd.code A outer s H E).A (cxOf (CX P w) P w K mg base N_reason_against "reason_against" (defScope s_reason_against) (He.ga K "reason_against") fd.code A outer s H E).env (cxOf (CX P w) P w K mg base N_reason_against "reason_against" (defScope s_reason_against) (He.ga K "reason_against") fd.code A outer s H E).xe := passes_of rfl
  exact (sb_cons (ss_if (SW.st (sw_and (st_cmp (op_eqD hr.units) sv_eq (se_ix (room_u1 hr) (se_var (i := 1) rfl (vis_of rfl)) se_int) se_str rfl) (sw_one_and (st_cmp (op_eqD hr.units) sv_eq (se_fld (se_var (i := 0) rfl (vis_of rfl)) (c.glo 72) (c.cls 73) (c.noat 75)) (se_tup sa_nil) rfl)))) (sb_one (ss_ret (se_gs rfl (c.str 63)))) sb_nil) (sb_one (ss_ret (se_ite (st_cmp (op_eqD hr.units) sv_eq (se_call (G_places_behind.any rfl) (hr.mono (by decide)) hG rfl (c.glo 26) F_places_behind.kp bare_nil B_places_behind .nil tk (sa_cons (se_var (i := 0) rfl (vis_of rfl)) (sa_cons (se_var (i := 1) rfl (vis_of rfl)) sa_nil))) (se_tup sa_nil) rfl) (se_gs rfl (c.str 69)) se_non))))
abbrev N_check_barred : List Str := ["follower", "deed", "reason"]
theorem nd_check_barred : (N_check_barred).Nodup := by decide +kernel
theorem sc_check_barred : FnScope N_check_barred ["follower", "deed"] (defScope s_check_barred) := ⟨rfl, rfl, rfl, nd_check_barred, rfl, by decide +kernel, by decide +kernel⟩
def b_check_barred : SM := (bCons (bSet 2 (sCl m_reason_against [] (aCons (sVar 0) (aCons (sVar 1) aNil)))) (bIf (s2 opNotN (sVar 2) (sCon .non)) (bRaise "Barred" "reason" (sVar 2)) bNil))
def m_check_barred : Fn := fnM 2 3 b_check_barred
theorem ok_check_barred {P : Program} {w : World} {K : PySem.W.Frag} {mg : Str → Option Value} {base : Heap} (c : C w K mg base) : ∃ fd, FunD K d_check_barred.name d_check_barred.qual d_check_barred.params d_check_barred.body d_check_barred.scope (d_check_barred.dvs K) (d_check_barred.kws K) (He.ga K "check_barred") fd ∧ L2.Binds K fd ["follower", "deed"] [] ∧ FD P w ⟨K, mg, ⟨tL K, none, none⟩⟩ base 5 (He.ga K "check_barred") fd ["follower", "deed"] m_check_barred := by
  obtain ⟨fd, F⟩ := c.def_ 28
  obtain ⟨fd_reason_against, F_reason_against, B_reason_against, G_reason_against⟩ := ok_reason_against (P := P) c
  refine ⟨fd, F, F.bindsN fun _ _ _ _ _ _ us hl => match us, hl with | [_, _], _ => rfl, fd_of (k := 4) F sc_check_barred (by decide) fun A outer s H E hr hG => ?_⟩
  have tk : Takes (cxOf (CX P w) P w K mg base N_check_barred "check_barred" (defScope s_check_barred) (He.ga K "check_barred") fd.code A outer s H E) (fun c d _ H => E c d H) := takes_of rfl rfl rfl rfl
  have po : PassesOwn (model P w) (cxOf (CX P w) P w K mg base N_check_barred "check_barred" (defScope s_check_barred) (He.ga K "check_barred") fd.code A outer s H E).A (cxOf (CX P w) P w K mg base N_check_barred "check_barred" (defScope s_check_barred) (He.ga K "check_barred") fd.code A outer s H E).env (cxOf (CX P w) P w K mg base N_check_barred "check_barred" (defScope s_check_barred) (He.ga K "check_barred") fd.code A outer s H E).xe := passes_of rfl
  exact (sb_cons (ss_set (i := 2) nd_check_barred rfl (loc_of rfl) (se_call (G_reason_against.any rfl) (hr.mono (by decide)) hG rfl (c.glo 27) F_reason_against.kp bare_nil B_reason_against .nil tk (sa_cons (se_var (i := 0) rfl (vis_of rfl)) (sa_cons (se_var (i := 1) rfl (vis_of rfl)) sa_nil)))) (sb_one (ss_if (st_cmp op_notN sv_notN (se_var (i := 2) rfl (vis_of rfl)) se_non rfl) (sb_one (ss_raise rfl (err_Barred c) hr tk (se_var (i := 2) rfl (vis_of rfl)) rfl)) sb_nil)))
abbrev N_Follower_do : List Str := ["self", "deed", "later"]
theorem nd_Follower_do : (N_Follower_do).Nodup := by decide +kernel
theorem sc_Follower_do : FnScope N_Follower_do ["self", "deed"] (defScope s_Follower_do) := ⟨rfl, rfl, rfl, nd_Follower_do, rfl, by decide +kernel, by decide +kernel⟩
def b_Follower_do : SM := (bCons (bExpr (sCl m_check_deed [] (aCons (sFd "Follower" "sorts" (sVar 0)) (aCons (sFd "Follower" "wide" (sVar 0)) (aCons (sVar 1) aNil))))) (bCons (bExpr (sCl m_check_barred [] (aCons (sVar 0) (aCons (sVar 1) aNil)))) (bCons (bSet 2 (sCl m_places_behind [] (aCons (sVar 0) (aCons (sVar 1) aNil)))) (bCons (bExpr (sApp1 (sFd "Follower" "past" (sVar 0)) (sFd "Follower" "places" (sVar 0)))) (bCons (bFd "Follower" "deeds" (sVar 0) (s2 opAdd (sFd "Follower" "deeds" (sVar 0)) (sTup (aCons (sVar 1) aNil)))) (bFd "Follower" "places" (sVar 0) (sVar 2)))))))
def m_Follower_do : Fn := fnM 2 3 b_Follower_do
theorem ok_Follower_do {P : Program} {w : World} {K : PySem.W.Frag} {mg : Str → Option Value} {base : Heap} (c : C w K mg base) : ∃ fd, FunD K d_Follower_do.name d_Follower_do.qual d_Follower_do.params d_Follower_do.body d_Follower_do.scope (d_Follower_do.dvs K) (d_Follower_do.kws K) (He.ma K (He.ga K "Follower") "do") fd ∧ L2.Binds K fd ["self", "deed"] [] ∧ FD P w ⟨K, mg, ⟨tL K, none, none⟩⟩ base 9 (He.ma K (He.ga K "Follower") "do") fd ["self", "deed"] m_Follower_do := by
  obtain ⟨fd, F⟩ := c.def_ 49
  obtain ⟨fd_check_deed, F_check_deed, B_check_deed, G_check_deed⟩ := ok_check_deed (P := P) c
  obtain ⟨fd_check_barred, F_check_barred, B_check_barred, G_check_barred⟩ := ok_check_barred (P := P) c
  obtain ⟨fd_places_behind, F_places_behind, B_places_behind, G_places_behind⟩ := ok_places_behind (P := P) c
  refine ⟨fd, F, F.bindsN fun _ _ _ _ _ _ us hl => match us, hl with | [_, _], _ => rfl, fd_of (k := 8) F sc_Follower_do (by decide) fun A outer s H E hr hG => ?_⟩
  have tk : Takes (cxOf (CX P w) P w K mg base N_Follower_do "Follower.do" (defScope s_Follower_do) (He.ma K (He.ga K "Follower") "do") fd.code A outer s H E) (fun c d _ H => E c d H) := takes_of rfl rfl rfl rfl
  have po : PassesOwn (model P w) (cxOf (CX P w) P w K mg base N_Follower_do "Follower.do" (defScope s_Follower_do) (He.ma K (He.ga K "Follower") "do") fd.code A outer s H E).A (cxOf (CX P w) P w K mg base N_Follower_do "Follower.do" (defScope s_Follower_do) (He.ma K (He.ga K "Follower") "do") fd.code A outer s H E).env (cxOf (CX P w) P w K mg base N_Follower_do "Follower.do" (defScope s_Follower_do) (He.ma K (He.ga K "Follower") "do") fd.code A outer s H E).xe := passes_of rfl
  exact (sb_cons (ss_expr (se_call (G_check_deed.any rfl) (hr.mono (by decide)) hG rfl (c.glo 23) F_check_deed.kp bare_nil B_check_deed .nil tk (sa_cons (se_fld (se_var (i := 0) rfl (vis_of rfl)) (c.glo 72) (c.cls 73) (c.noat 82)) (sa_cons (se_fld (se_var (i := 0) rfl (vis_of rfl)) (c.glo 72) (c.cls 73) (c.noat 83)) (sa_cons (se_var (i := 1) rfl (vis_of rfl)) sa_nil))))) (sb_cons (ss_expr (se_call (G_check_barred.any rfl) (hr.mono (by decide)) hG rfl (c.glo 28) F_check_barred.kp bare_nil B_check_barred .nil tk (sa_cons (se_var (i := 0) rfl (vis_of rfl)) (sa_cons (se_var (i := 1) rfl (vis_of rfl)) sa_nil)))) (sb_cons (ss_set (i := 2) nd_Follower_do rfl (loc_of rfl) (se_call (G_places_behind.any rfl) (hr.mono (by decide)) hG rfl (c.glo 26) F_places_behind.kp bare_nil B_places_behind .nil tk (sa_cons (se_var (i := 0) rfl (vis_of rfl)) (sa_cons (se_var (i := 1) rfl (vis_of rfl)) sa_nil)))) (sb_cons (ss_expr (se_append (se_fld (se_var (i := 0) rfl (vis_of rfl)) (c.glo 72) (c.cls 73) (c.noat 79)) (se_fld (se_var (i := 0) rfl (vis_of rfl)) (c.glo 72) (c.cls 73) (c.noat 80)))) (sb_cons (ss_fld (se_var (i := 0) rfl (vis_of rfl)) (se_op op_addS sv_add (se_fld (se_var (i := 0) rfl (vis_of rfl)) (c.glo 72) (c.cls 73) (c.noat 75)) (se_tup (sa_cons (se_var (i := 1) rfl (vis_of rfl)) sa_nil))) (c.glo 72) (c.cls 73) (c.noat 75)) (sb_one (ss_fld (se_var (i := 0) rfl (vis_of rfl)) (se_var (i := 2) rfl (vis_of rfl)) (c.glo 72) (c.cls 73) (c.noat 80))))))))
abbrev N__law_barred : List Str := ["follower", "deed", "e"]
theorem nd__law_barred : (N__law_barred).Nodup := by decide +kernel
theorem sc__law_barred : FnScope N__law_barred ["follower", "deed"] (defScope s__law_barred) := ⟨rfl, rfl, rfl, nd__law_barred, rfl, by decide +kernel, by decide +kernel⟩
def b__law_barred : SM := (bCons (bTry (bExpr (sMth "Follower" "do" m_Follower_do [] (sVar 0) (aCons (sVar 1) aNil))) (⟨ansE [("Barred", true), ("InvalidDeed", false), ("InvalidNumber", false), ("InvalidRing", false)], (some 2), fun e => (bRet (sErr e 2 "Barred" "reason"))⟩ :: [])) (bRet (sCon (.str ""))))
def m__law_barred : Fn := fnM 2 3 b__law_barred
theorem ok__law_barred {P : Program} {w : World} {K : PySem.W.Frag} {mg : Str → Option Value} {base : Heap} (c : C w K mg base) : ∃ fd, FunD K d__law_barred.name d__law_barred.qual d__law_barred.params d__law_barred.body d__law_barred.scope (d__law_barred.dvs K) (d__law_barred.kws K) (He.ga K "_law_barred") fd ∧ L2.Binds K fd ["follower", "deed"] [] ∧ FD P w ⟨K, mg, ⟨tL K, none, none⟩⟩ base 10 (He.ga K "_law_barred") fd ["follower", "deed"] m__law_barred := by
  obtain ⟨fd, F⟩ := c.def_ 36
  obtain ⟨fd_Follower_do, F_Follower_do, B_Follower_do, G_Follower_do⟩ := ok_Follower_do (P := P) c
  refine ⟨fd, F, F.bindsN fun _ _ _ _ _ _ us hl => match us, hl with | [_, _], _ => rfl, fd_of (k := 9) F sc__law_barred (by decide) fun A outer s H E hr hG => ?_⟩
  have tk : Takes (cxOf (CX P w) P w K mg base N__law_barred "_law_barred" (defScope s__law_barred) (He.ga K "_law_barred") fd.code A outer s H E) (fun c d _ H => E c d H) := takes_of rfl rfl rfl rfl
  have po : PassesOwn (model P w) (cxOf (CX P w) P w K mg base N__law_barred "_law_barred" (defScope s__law_barred) (He.ga K "_law_barred") fd.code A outer s H E).A (cxOf (CX P w) P w K mg base N__law_barred "_law_barred" (defScope s__law_barred) (He.ga K "_law_barred") fd.code A outer s H E).env (cxOf (CX P w) P w K mg base N__law_barred "_law_barred" (defScope s__law_barred) (He.ga K "_law_barred") fd.code A outer s H E).xe := passes_of rfl
  exact (sb_cons (ss_try rfl rfl nd__law_barred tk (fun W pn xe tk2 po2 => (sb_one (ss_expr (se_meth (se_var (i := 0) rfl (vis_of rfl)) (c.glo 72) (c.cls 73) (c.meth 84) (G_Follower_do.any rfl) (hr.mono (by decide)) hG bare_nil B_Follower_do .nil tk2 (sa_cons (se_var (i := 1) rfl (vis_of rfl)) sa_nil))))) (SHds.cons ⟨_, (.ref (He.ga K "Barred")), _, _, _, _, _, rfl, ⟨rfl, rfl, .inl (c.glo 71)⟩, (.inr ⟨"e", 2, rfl, rfl, rfl, rfl⟩), (ansE_ok (l := [("Barred", true), ("InvalidDeed", false), ("InvalidNumber", false), ("InvalidRing", false)]) (by
    exact fun p hp => by
      simp only [List.mem_cons, List.not_mem_nil, or_false] at hp
      rcases hp with rfl | rfl | rfl | rfl
      · exact (c.glo 71)
      · exact (c.glo 86)
      · exact (c.glo 87)
      · exact (c.glo 88)) (exm_Barred c)), fun a oe cls d pn B e hz hf hx => (sb_one (ss_ret (se_err (i := 2) (err_Barred c) hz hf hx rfl (vis_of rfl))))⟩ SHds.nil)) (sb_one (ss_ret se_str)))
abbrev N__law_told : List Str := ["follower"]
theorem nd__law_told : (N__law_told).Nodup := by decide +kernel
theorem sc__law_told : FnScope N__law_told ["follower"] (defScope s__law_told) := ⟨rfl, rfl, rfl, nd__law_told, rfl, by decide +kernel, by decide +kernel⟩
def b__law_told : SM := (bRet (sLst (aCons (sFd "Follower" "places" (sVar 0)) (aCons (sMth "Follower" "is_told" m_Follower_is_told [] (sVar 0) aNil) aNil))))
def m__law_told : Fn := fnM 1 1 b__law_told
theorem ok__law_told {P : Program} {w : World} {K : PySem.W.Frag} {mg : Str → Option Value} {base : Heap} (c : C w K mg base) : ∃ fd, FunD K d__law_told.name d__law_told.qual d__law_told.params d__law_told.body d__law_told.scope (d__law_told.dvs K) (d__law_told.kws K) (He.ga K "_law_told") fd ∧ L2.Binds K fd ["follower"] [] ∧ FD P w ⟨K, mg, ⟨tL K, none, none⟩⟩ base 2 (He.ga K "_law_told") fd ["follower"] m__law_told := by
  obtain ⟨fd, F⟩ := c.def_ 40
  obtain ⟨fd_Follower_is_told, F_Follower_is_told, B_Follower_is_told, G_Follower_is_told⟩ := ok_Follower_is_told (P := P) c
  refine ⟨fd, F, F.bindsN fun _ _ _ _ _ _ us hl => match us, hl with | [_], _ => rfl, fd_of (k := 1) F sc__law_told (by decide) fun A outer s H E hr hG => ?_⟩
  have tk : Takes (cxOf (CX P w) P w K mg base N__law_told "_law_told" (defScope s__law_told) (He.ga K "_law_told") fd.code A outer s H E) (fun c d _ H => E c d H) := takes_of rfl rfl rfl rfl
  have po : PassesOwn (model P w) (cxOf (CX P w) P w K mg base N__law_told "_law_told" (defScope s__law_told) (He.ga K "_law_told") fd.code A outer s H E).A (cxOf (CX P w) P w K mg base N__law_told "_law_told" (defScope s__law_told) (He.ga K "_law_told") fd.code A outer s H E).env (cxOf (CX P w) P w K mg base N__law_told "_law_told" (defScope s__law_told) (He.ga K "_law_told") fd.code A outer s H E).xe := passes_of rfl
  exact (sb_one (ss_ret (se_lst (sa_cons (se_fld (se_var (i := 0) rfl (vis_of rfl)) (c.glo 72) (c.cls 73) (c.noat 80)) (sa_cons (se_meth0 (se_var (i := 0) rfl (vis_of rfl)) (c.glo 72) (c.cls 73) (c.meth 85) (G_Follower_is_told.any rfl) (hr.mono (by decide)) hG bare_nil B_Follower_is_told .nil tk) sa_nil)))))
abbrev N__law_right : List Str := ["pool", "parts", "sorts", "ring", "wide", "least", "most", "misread", "follower", "twin", "told", "plain", "other", "turn", "deed", "number", "odd", "value", "index"]
theorem nd__law_right : (N__law_right).Nodup := by decide +kernel
theorem sc__law_right : FnScope N__law_right ["pool"] (defScope s__law_right) := ⟨rfl, rfl, rfl, nd__law_right, rfl, by decide +kernel, by decide +kernel⟩
def b__law_right : SM := (bCons (bSet 1 (sCl m__law_begun [] (aCons (sVar 0) aNil))) (bCons (bAsg (sVar 1) (gTp 6 (gsCons (gNm 2) (gsCons (gNm 3) (gsCons (gNm 4) (gsCons (gNm 5) (gsCons (gNm 6) (gsCons (gNm 7) gsNil)))))))) (bCons (bSet 8 (sCl m__law_made [] (aCons (sVar 1) aNil))) (bCons (bSet 9 (sMkK "Follower" m_Follower___init__ 6 [5, 4, 3, 2, 1, 0] (aCons (sVar 7) (aCons (sVar 6) (aCons (sVar 5) (aCons (sVar 4) (aCons (sVar 3) (aCons (sVar 2) aNil)))))))) (bCons (bSet 10 (sLst (aCons (sFd "Follower" "sorts" (sVar 8)) (aCons (sFd "Follower" "ring" (sVar 8)) (aCons (sFd "Follower" "wide" (sVar 8)) (aCons (sFd "Follower" "least" (sVar 8)) (aCons (sFd "Follower" "most" (sVar 8)) (aCons (sFd "Follower" "misread" (sVar 8)) aNil)))))))) (bCons (bIf (s2 opNe (sApp kRepr (aCons (s2 opAdd (sVar 10) (sLst (aCons (sFd "Follower" "deeds" (sVar 8)) aNil))) aNil)) (sApp kRepr (aCons (s2 opAdd (sApp kList (aCons (sVar 1) aNil)) (sLst (aCons (sTup aNil) aNil))) aNil))) (bRet (sCon (.bl false))) bNil) (bCons (bIf (s2 opNe (sApp kRepr (aCons (sFd "Follower" "places" (sVar 8)) aNil)) (sApp kRepr (aCons (s1 tupRg1D (sApp kLen (aCons (sVar 3) aNil))) aNil))) (bRet (sCon (.bl false))) bNil) (bCons (bSet 11 (sMk "Follower" m_Follower___init__ [D.int 0, D.int 1, D.int 0] (aCons (sVar 2) (aCons (sVar 3) (aCons (sVar 4) aNil))))) (bCons (bIf (sOr (s2 opNe (sApp kRepr (aCons (sLst (aCons (sFd "Follower" "least" (sVar 11)) (aCons (sFd "Follower" "most" (sVar 11)) (aCons (sFd "Follower" "misread" (sVar 11)) aNil)))) aNil)) (sApp kRepr (aCons (sLst (aCons (sCon (.int 0)) (aCons (sCon (.int 1)) (aCons (sCon (.int 0)) aNil)))) aNil))) (s2 opNe (sMth "Follower" "is_told" m_Follower_is_told [] (sVar 8) aNil) (s2 opEq (sApp kLen (aCons (sVar 3) aNil)) (sCon (.int 1))))) (bRet (sCon (.bl false))) bNil) (bCons (bIf (sOr (sNot (s2 (eqOwn false "Follower" m_Follower___eq__) (sVar 8) (sVar 9))) (sOr (s2 (eqOwn true "Follower" m_Follower___eq__) (sVar 8) (sVar 9)) (sOr (s2 (eqOwnP "Follower" m_Follower___eq__) (sVar 8) (sVar 1)) (s2 (eqOwnP "Follower" m_Follower___eq__) (sVar 8) (sCon .non))))) (bRet (sCon (.bl false))) bNil) (bCons (bSet 12 (sCl m__law_begun [] (aCons (sVar 0) aNil))) (bCons (bIf (s2 opNe (s2 (eqOwn false "Follower" m_Follower___eq__) (sCl m__law_made [] (aCons (sVar 12) aNil)) (sVar 8)) (s2 opEq (sApp kRepr (aCons (sVar 12) aNil)) (sApp kRepr (aCons (sVar 1) aNil)))) (bRet (sCon (.bl false))) bNil) (bCons (bFor (iR1 (aCons (sCon (.int 6)) aNil)) (gNm 13) (bCons (bSet 14 (sCl m__law_deed [] (aCons (sVar 0) (aCons (sVar 1) (aCons (sTup (aCons (sFd "Follower" "places" (sVar 8)) (aCons (sApp kLen (aCons (sFd "Follower" "deeds" (sVar 8)) aNil)) aNil))) aNil))))) (bIf (s2 opEq (sCl m__law_barred [] (aCons (sVar 8) (aCons (sVar 14) aNil))) (sCon (.str ""))) (bCons (bIf (sOr (s2 (eqOwn false "Follower" m_Follower___eq__) (sVar 8) (sVar 9)) (sNot (s2 (eqOwn true "Follower" m_Follower___eq__) (sVar 8) (sVar 9)))) (bRet (sCon (.bl false))) bNil) (bCons (bExpr (sMth "Follower" "do" m_Follower_do [] (sVar 9) (aCons (sVar 14) aNil))) (bIf (sOr (sNot (s2 (eqOwn false "Follower" m_Follower___eq__) (sVar 8) (sVar 9))) (s2 opNe (sCl m__law_told [] (aCons (sVar 8) aNil)) (sCl m__law_told [] (aCons (sVar 9) aNil)))) (bRet (sCon (.bl false))) bNil))) bNil))) (bCons (bFor (iL (sLst (aCons (sCon (.int 1)) (aCons (sCon (.int 5)) (aCons (sCon .non) (aCons (sCon (.str "2")) (aCons (sCon (.bl true)) (aCons (s1 negD (sCon (.int 1))) aNil)))))))) (gNm 15) (bIf (s2 opNe (sHO (fnH 0 2 h__law_refused) 0 [0, 1, 2, 3, 4, 5, 6, 7, 8, 9, 10, 11, 12, 13, 14, 16, 17, 18] (sMk "Follower" m_Follower___init__ [D.int 0, D.int 1, D.int 0] (aCons (sVar 15) (aCons (sCon .non) (aCons (sCon .non) aNil)))) aNil) (sLst (aCons (sCon (.str "number")) (aCons (sApp kRepr (aCons (sVar 15) aNil)) (aCons (sCon (.bl true)) aNil))))) (bRet (sCon (.bl false))) bNil)) (bCons (bSet 16 (sLst (aCons (sTup (aCons (sCon .non) (aCons (sCon .non) aNil))) (aCons (sTup (aCons (sTup aNil) (aCons (sCon .non) aNil))) (aCons (sTup (aCons (sApp kList (aCons (sVar 3) aNil)) (aCons (sCon .non) aNil))) (aCons (sTup (aCons (s2 opAdd (sVar 3) (sTup (aCons (sVar 2) aNil))) (aCons (sApp kLen (aCons (sVar 3) aNil)) aNil))) (aCons (sTup (aCons (s2 opAdd (sTup (aCons (sCon (.bl true)) aNil)) (sVar 3)) (aCons (sCon (.int 0)) aNil))) aNil))))))) (bCons (bFor (iL (sVar 16)) (gTp 2 (gsCons (gNm 17) (gsCons (gNm 18) gsNil))) (bIf (s2 opNe (sHO (fnH 0 2 h__law_refused) 0 [0, 1, 3, 4, 5, 6, 7, 8, 9, 10, 11, 12, 13, 14, 15, 16, 18] (sMk "Follower" m_Follower___init__ [D.int 0, D.int 1, D.int 0] (aCons (sVar 2) (aCons (sVar 17) (aCons (sCon .non) aNil)))) aNil) (sLst (aCons (sCon (.str "ring")) (aCons (sApp kRepr (aCons (sVar 18) aNil)) (aCons (sCon (.bl true)) aNil))))) (bRet (sCon (.bl false))) bNil)) (bCons (bFor (iL (sLst (aCons (sCon (.int 0)) (aCons (sCon (.int 7)) (aCons (sCon .non) (aCons (sCon (.str "1")) (aCons (sCon (.bl true)) aNil))))))) (gNm 15) (bIf (s2 opNe (sHO (fnH 0 2 h__law_refused) 0 [0, 1, 4, 5, 6, 7, 8, 9, 10, 11, 12, 13, 14, 16, 17, 18] (sMk "Follower" m_Follower___init__ [D.int 1, D.int 0] (aCons (sVar 2) (aCons (sVar 3) (aCons (sVar 15) (aCons (sCon .non) aNil))))) aNil) (sLst (aCons (sCon (.str "number")) (aCons (sApp kRepr (aCons (sVar 15) aNil)) (aCons (sCon (.bl true)) aNil))))) (bRet (sCon (.bl false))) bNil)) (bCons (bIf (s2 opNe (sHO (fnH 0 2 h__law_refused) 0 [0, 1, 5, 6, 7, 8, 9, 10, 11, 12, 13, 14, 15, 16, 17, 18] (sMk "Follower" m_Follower___init__ [] (aCons (sVar 2) (aCons (sVar 3) (aCons (sVar 4) (aCons (sCon (.int 6)) (aCons (sCon (.int 6)) (aCons (sCon (.int 0)) aNil))))))) aNil) (sLst (aCons (sCon (.str "number")) (aCons (sCon (.str "6")) (aCons (sCon (.bl true)) aNil))))) (bRet (sCon (.bl false))) bNil) (bRet (s2 opEq (sHO (fnH 0 2 h__law_refused) 0 [0, 1, 5, 6, 7, 8, 9, 10, 11, 12, 13, 14, 15, 16, 17, 18] (sMk "Follower" m_Follower___init__ [] (aCons (sVar 2) (aCons (sVar 3) (aCons (sVar 4) (aCons (sCon (.int 3)) (aCons (sCon (.int 2)) (aCons (sCon (.int 0)) aNil))))))) aNil) (sLst (aCons (sCon (.str "number")) (aCons (sCon (.str "2")) (aCons (sCon (.bl true)) aNil))))))))))))))))))))))))
def m__law_right : Fn := fnM 1 19 b__law_right
theorem ok__law_right {P : Program} {w : World} {K : PySem.W.Frag} {mg : Str → Option Value} {base : Heap} (c : C w K mg base) : ∃ fd, FunD K d__law_right.name d__law_right.qual d__law_right.params d__law_right.body d__law_right.scope (d__law_right.dvs K) (d__law_right.kws K) (He.ga K "_law_right") fd ∧ L2.Binds K fd ["pool"] [] ∧ FD P w ⟨K, mg, ⟨tL K, none, none⟩⟩ base 15 (He.ga K "_law_right") fd ["pool"] m__law_right := by
  obtain ⟨fd, F⟩ := c.def_ 42
  obtain ⟨fd__law_begun, F__law_begun, B__law_begun, G__law_begun⟩ := ok__law_begun (P := P) c
  obtain ⟨fd__law_made, F__law_made, B__law_made, G__law_made⟩ := ok__law_made (P := P) c
  obtain ⟨fd_Follower_is_told, F_Follower_is_told, B_Follower_is_told, G_Follower_is_told⟩ := ok_Follower_is_told (P := P) c
  obtain ⟨fd_Follower___eq__, F_Follower___eq__, B_Follower___eq__, G_Follower___eq__⟩ := ok_Follower___eq__ (P := P) c
  obtain ⟨fd__law_deed, F__law_deed, B__law_deed, G__law_deed⟩ := ok__law_deed (P := P) c
  obtain ⟨fd__law_barred, F__law_barred, B__law_barred, G__law_barred⟩ := ok__law_barred (P := P) c
  obtain ⟨fd_Follower_do, F_Follower_do, B_Follower_do, G_Follower_do⟩ := ok_Follower_do (P := P) c
  obtain ⟨fd__law_told, F__law_told, B__law_told, G__law_told⟩ := ok__law_told (P := P) c
  obtain ⟨fd_Follower___init__, F_Follower___init__, B_Follower___init__, G_Follower___init__⟩ := ok_Follower___init__ (P := P) c
  obtain ⟨fd__law_refused, F__law_refused, B__law_refused, G__law_refused⟩ := ho__law_refused (P := P) c
  refine ⟨fd, F, F.bindsN fun _ _ _ _ _ _ us hl => match us, hl with | [_], _ => rfl, fd_of (k := 14) F sc__law_right (by decide) fun A outer s H E hr hG => ?_⟩
  have tk : Takes (cxOf (CX P w) P w K mg base N__law_right "_law_right" (defScope s__law_right) (He.ga K "_law_right") fd.code A outer s H E) (fun c d _ H => E c d H) := takes_of rfl rfl rfl rfl
  have po : PassesOwn (model P w) (cxOf (CX P w) P w K mg base N__law_right "_law_right" (defScope s__law_right) (He.ga K "_law_right") fd.code A outer s H E).A (cxOf (CX P w) P w K mg base N__law_right "_law_right" (defScope s__law_right) (He.ga K "_law_right") fd.code A outer s H E).env (cxOf (CX P w) P w K mg base N__law_right "_law_right" (defScope s__law_right) (He.ga K "_law_right") fd.code A outer s H E).xe := passes_of rfl
  exact (sb_cons (ss_set (i := 1) nd__law_right rfl (loc_of rfl) (se_call (G__law_begun.any rfl) (hr.mono (by decide)) hG rfl (c.glo 37) F__law_begun.kp bare_nil B__law_begun .nil tk (sa_cons (se_var (i := 0) rfl (vis_of rfl)) sa_nil))) (sb_cons (ss_asg (se_var (i := 1) rfl (vis_of rfl)) (sg_tup rfl (sgs_cons (sg_name (i := 2) nd__law_right rfl (loc_of rfl)) (sgs_cons (sg_name (i := 3) nd__law_right rfl (loc_of rfl)) (sgs_cons (sg_name (i := 4) nd__law_right rfl (loc_of rfl)) (sgs_cons (sg_name (i := 5) nd__law_right rfl (loc_of rfl)) (sgs_cons (sg_name (i := 6) nd__law_right rfl (loc_of rfl)) (sgs_cons (sg_name (i := 7) nd__law_right rfl (loc_of rfl)) sgs_nil)))))))) (sb_cons (ss_set (i := 8) nd__law_right rfl (loc_of rfl) (se_call (G__law_made.any rfl) (hr.mono (by decide)) hG rfl (c.glo 38) F__law_made.kp bare_nil B__law_made .nil tk (sa_cons (se_var (i := 1) rfl (vis_of rfl)) sa_nil))) (sb_cons (ss_set (i := 9) nd__law_right rfl (loc_of rfl) (se_makeK (ks := ["misread", "most", "least", "wide", "ring", "sorts"]) (pm := [5, 4, 3, 2, 1, 0]) (c.mkr 74) (G_Follower___init__.any rfl) (hr.mono (by decide)) hG rfl (c.glo 72) (FunD.kbp F_Follower___init__ [5, 4, 3, 2, 1, 0] (List.cons_ne_nil _ _) fun _ _ _ _ _ _ _ us its ws h1 h2 h3 => match us, h1, its, h2, ws, h3 with | [_], _, [_, _, _], _, [_, _, _, _, _, _], _ => ⟨_, rfl, rfl⟩) tk (sk_cons (se_var (i := 7) rfl (vis_of rfl)) (sk_cons (se_var (i := 6) rfl (vis_of rfl)) (sk_cons (se_var (i := 5) rfl (vis_of rfl)) (sk_cons (se_var (i := 4) rfl (vis_of rfl)) (sk_cons (se_var (i := 3) rfl (vis_of rfl)) (sk_cons (se_var (i := 2) rfl (vis_of rfl)) sk_nil)))))))) (sb_cons (ss_set (i := 10) nd__law_right rfl (loc_of rfl) (se_lst (sa_cons (se_fld (se_var (i := 8) rfl (vis_of rfl)) (c.glo 72) (c.cls 73) (c.noat 82)) (sa_cons (se_fld (se_var (i := 8) rfl (vis_of rfl)) (c.glo 72) (c.cls 73) (c.noat 81)) (sa_cons (se_fld (se_var (i := 8) rfl (vis_of rfl)) (c.glo 72) (c.cls 73) (c.noat 83)) (sa_cons (se_fld (se_var (i := 8) rfl (vis_of rfl)) (c.glo 72) (c.cls 73) (c.noat 76)) (sa_cons (se_fld (se_var (i := 8) rfl (vis_of rfl)) (c.glo 72) (c.cls 73) (c.noat 78)) (sa_cons (se_fld (se_var (i := 8) rfl (vis_of rfl)) (c.glo 72) (c.cls 73) (c.noat 77)) sa_nil)))))))) (sb_cons (ss_if (st_cmp (op_neD hr.units) sv_ne (se_callB (cr_repr hG (room_u hr)) sc_repr rfl (c.free 57) bt_repr (sa_cons (se_op op_addS sv_add (se_var (i := 10) rfl (vis_of rfl)) (se_lst (sa_cons (se_fld (se_var (i := 8) rfl (vis_of rfl)) (c.glo 72) (c.cls 73) (c.noat 75)) sa_nil))) sa_nil)) (se_callB (cr_repr hG (room_u hr)) sc_repr rfl (c.free 57) bt_repr (sa_cons (se_op op_addS sv_add (se_callTy (cr_listOf rfl) sc_list rfl (c.free 53) bt_list (sa_cons (se_var (i := 1) rfl (vis_of rfl)) sa_nil)) (se_lst (sa_cons (se_tup sa_nil) sa_nil))) sa_nil)) rfl) (sb_one (ss_ret se_bl)) sb_nil) (sb_cons (ss_if (st_cmp (op_neD hr.units) sv_ne (se_callB (cr_repr hG (room_u hr)) sc_repr rfl (c.free 57) bt_repr (sa_cons (se_fld (se_var (i := 8) rfl (vis_of rfl)) (c.glo 72) (c.cls 73) (c.noat 80)) sa_nil)) (se_callB (cr_repr hG (room_u hr)) sc_repr rfl (c.free 57) bt_repr (sa_cons (se_tupRg1 rfl rfl (c.free 60) rfl (c.free 56) (se_callB cr_lenA sc_len rfl (c.free 52) bt_len (sa_cons (se_var (i := 3) rfl (vis_of rfl)) sa_nil))) sa_nil)) rfl) (sb_one (ss_ret se_bl)) sb_nil) (sb_cons (ss_set (i := 11) nd__law_right rfl (loc_of rfl) (se_makeD (c.mkr 74) (G_Follower___init__.any rfl) (hr.mono (by decide)) hG rfl (c.glo 72) (bare_int (bare_int (bare_int bare_nil))) (B_Follower___init__ 0 (by decide)) tk (sa_cons (se_var (i := 2) rfl (vis_of rfl)) (sa_cons (se_var (i := 3) rfl (vis_of rfl)) (sa_cons (se_var (i := 4) rfl (vis_of rfl)) sa_nil))))) (sb_cons (ss_if (SW.st (sw_or (st_cmp (op_neD hr.units) sv_ne (se_callB (cr_repr hG (room_u hr)) sc_repr rfl (c.free 57) bt_repr (sa_cons (se_lst (sa_cons (se_fld (se_var (i := 11) rfl (vis_of rfl)) (c.glo 72) (c.cls 73) (c.noat 76)) (sa_cons (se_fld (se_var (i := 11) rfl (vis_of rfl)) (c.glo 72) (c.cls 73) (c.noat 78)) (sa_cons (se_fld (se_var (i := 11) rfl (vis_of rfl)) (c.glo 72) (c.cls 73) (c.noat 77)) sa_nil)))) sa_nil)) (se_callB (cr_repr hG (room_u hr)) sc_repr rfl (c.free 57) bt_repr (sa_cons (se_lst (sa_cons se_int (sa_cons se_int (sa_cons se_int sa_nil)))) sa_nil)) rfl) (sw_one_or (st_cmp (op_neD hr.units) sv_ne (se_meth0 (se_var (i := 8) rfl (vis_of rfl)) (c.glo 72) (c.cls 73) (c.meth 85) (G_Follower_is_told.any rfl) (hr.mono (by decide)) hG bare_nil B_Follower_is_told .nil tk) (se_cmp (op_eqD hr.units) sv_eq (se_callB cr_lenA sc_len rfl (c.free 52) bt_len (sa_cons (se_var (i := 3) rfl (vis_of rfl)) sa_nil)) se_int rfl) rfl)))) (sb_one (ss_ret se_bl)) sb_nil) (sb_cons (ss_if (SW.st (sw_or (st_not (st_cmp (op_ownEqB ((G_Follower___eq__.any rfl).fg) (hr.mono (by decide)) hG B_Follower___eq__ (eqo_Follower c)) (sv_own (c.glo 72)) (se_var (i := 8) rfl (vis_of rfl)) (se_var (i := 9) rfl (vis_of rfl)) rfl)) (sw_or (st_cmp (op_ownNeB ((G_Follower___eq__.any rfl).fg) (hr.mono (by decide)) hG B_Follower___eq__ (eqo_Follower c)) (sv_own (c.glo 72)) (se_var (i := 8) rfl (vis_of rfl)) (se_var (i := 9) rfl (vis_of rfl)) rfl) (sw_or (st_cmp (op_ownEqPB ((G_Follower___eq__.any rfl).fg) (hr.mono (by decide)) hG B_Follower___eq__ (eqo_Follower c)) (sv_ownP (c.glo 72) (eqp_Follower c)) (se_var (i := 8) rfl (vis_of rfl)) (se_var (i := 1) rfl (vis_of rfl)) rfl) (sw_one_or (st_cmp (op_ownEqPB ((G_Follower___eq__.any rfl).fg) (hr.mono (by decide)) hG B_Follower___eq__ (eqo_Follower c)) (sv_ownP (c.glo 72) (eqp_Follower c)) (se_var (i := 8) rfl (vis_of rfl)) se_non rfl)))))) (sb_one (ss_ret se_bl)) sb_nil) (sb_cons (ss_set (i := 12) nd__law_right rfl (loc_of rfl) (se_call (G__law_begun.any rfl) (hr.mono (by decide)) hG rfl (c.glo 37) F__law_begun.kp bare_nil B__law_begun .nil tk (sa_cons (se_var (i := 0) rfl (vis_of rfl)) sa_nil))) (sb_cons (ss_if (st_cmp (op_neD hr.units) sv_ne (se_cmp (op_ownEqB ((G_Follower___eq__.any rfl).fg) (hr.mono (by decide)) hG B_Follower___eq__ (eqo_Follower c)) (sv_own (c.glo 72)) (se_call (G__law_made.any rfl) (hr.mono (by decide)) hG rfl (c.glo 38) F__law_made.kp bare_nil B__law_made .nil tk (sa_cons (se_var (i := 12) rfl (vis_of rfl)) sa_nil)) (se_var (i := 8) rfl (vis_of rfl)) rfl) (se_cmp (op_eqD hr.units) sv_eq (se_callB (cr_repr hG (room_u hr)) sc_repr rfl (c.free 57) bt_repr (sa_cons (se_var (i := 12) rfl (vis_of rfl)) sa_nil)) (se_callB (cr_repr hG (room_u hr)) sc_repr rfl (c.free 57) bt_repr (sa_cons (se_var (i := 1) rfl (vis_of rfl)) sa_nil)) rfl) rfl) (sb_one (ss_ret se_bl)) sb_nil) (sb_cons (ss_for po rfl (si_rng1 rfl (c.free 56) (sa_cons se_int sa_nil)) (sg_name (i := 13) nd__law_right rfl (loc_of rfl)) (sb_cons (ss_set (i := 14) nd__law_right rfl (loc_of rfl) (se_call (G__law_deed.any rfl) (hr.mono (by decide)) hG rfl (c.glo 39) F__law_deed.kp bare_nil B__law_deed .nil tk (sa_cons (se_var (i := 0) rfl (vis_of rfl)) (sa_cons (se_var (i := 1) rfl (vis_of rfl)) (sa_cons (se_tup (sa_cons (se_fld (se_var (i := 8) rfl (vis_of rfl)) (c.glo 72) (c.cls 73) (c.noat 80)) (sa_cons (se_callB cr_lenA sc_len rfl (c.free 52) bt_len (sa_cons (se_fld (se_var (i := 8) rfl (vis_of rfl)) (c.glo 72) (c.cls 73) (c.noat 75)) sa_nil)) sa_nil))) sa_nil))))) (sb_one (ss_if (st_cmp (op_eqD hr.units) sv_eq (se_call (G__law_barred.any rfl) (hr.mono (by decide)) hG rfl (c.glo 36) F__law_barred.kp bare_nil B__law_barred .nil tk (sa_cons (se_var (i := 8) rfl (vis_of rfl)) (sa_cons (se_var (i := 14) rfl (vis_of rfl)) sa_nil))) se_str rfl) (sb_cons (ss_if (SW.st (sw_or (st_cmp (op_ownEqB ((G_Follower___eq__.any rfl).fg) (hr.mono (by decide)) hG B_Follower___eq__ (eqo_Follower c)) (sv_own (c.glo 72)) (se_var (i := 8) rfl (vis_of rfl)) (se_var (i := 9) rfl (vis_of rfl)) rfl) (sw_one_or (st_not (st_cmp (op_ownNeB ((G_Follower___eq__.any rfl).fg) (hr.mono (by decide)) hG B_Follower___eq__ (eqo_Follower c)) (sv_own (c.glo 72)) (se_var (i := 8) rfl (vis_of rfl)) (se_var (i := 9) rfl (vis_of rfl)) rfl))))) (sb_one (ss_ret se_bl)) sb_nil) (sb_cons (ss_expr (se_methK (ks := ["deed"]) (se_var (i := 9) rfl (vis_of rfl)) (c.glo 72) (c.cls 73) (c.meth 84) (G_Follower_do.any rfl) (hr.mono (by decide)) hG (FunD.kb1 F_Follower_do fun _ _ _ _ _ _ _ ws hl => match ws, hl with | [_], _ => rfl) rfl tk (sk_cons (se_var (i := 14) rfl (vis_of rfl)) sk_nil))) (sb_one (ss_if (SW.st (sw_or (st_not (st_cmp (op_ownEqB ((G_Follower___eq__.any rfl).fg) (hr.mono (by decide)) hG B_Follower___eq__ (eqo_Follower c)) (sv_own (c.glo 72)) (se_var (i := 8) rfl (vis_of rfl)) (se_var (i := 9) rfl (vis_of rfl)) rfl)) (sw_one_or (st_cmp (op_neD hr.units) sv_ne (se_call (G__law_told.any rfl) (hr.mono (by decide)) hG rfl (c.glo 40) F__law_told.kp bare_nil B__law_told .nil tk (sa_cons (se_var (i := 8) rfl (vis_of rfl)) sa_nil)) (se_call (G__law_told.any rfl) (hr.mono (by decide)) hG rfl (c.glo 40) F__law_told.kp bare_nil B__law_told .nil tk (sa_cons (se_var (i := 9) rfl (vis_of rfl)) sa_nil)) rfl)))) (sb_one (ss_ret se_bl)) sb_nil)))) sb_nil)))) (sb_cons (ss_for po rfl (si_lst (se_lst (sa_cons se_int (sa_cons se_int (sa_cons se_non (sa_cons se_str (sa_cons se_bl (sa_cons (se_neg se_int) sa_nil)))))))) (sg_name (i := 15) nd__law_right rfl (loc_of rfl)) (sb_one (ss_if (st_cmp (op_neD hr.units) sv_ne (se_ho0 (T := ⟨tL K, none, none⟩) (x := "_law_refused") (fd := fd__law_refused) (Ng := N__law_refused) (a := "call") (mb := h__law_refused) (ps := []) (vs := [0, 1, 2, 3, 4, 5, 6, 7, 8, 9, 10, 11, 12, 13, 14, 16, 17, 18]) (fe := (sMk "Follower" m_Follower___init__ [D.int 0, D.int 1, D.int 0] (aCons (sVar 15) (aCons (sCon .non) (aCons (sCon .non) aNil))))) (k := 12) (c := (He.cT K ("_law_right", none)).1) (P := (He.cT K ("_law_right", none)).2) ⟨hr.mono (by decide), hG, tk, rfl, (c.glo 41), F__law_refused.kp, by decide, F__law_refused, sc__law_refused, B__law_refused, rfl, vis_of rfl, HOBody.up (k := 0) G__law_refused (by decide), c.tb _ (tm__law_right K), code__law_right c F, tl__law_right K, tu__law_right c, lamP_by (N := N__law_right) (sc := defScope s__law_right) (by decide +kernel), rfl, fun q cl pm cv ctv us hl => match us, hl with | [], _ => rfl, fun A outer s H E f c' hr hG => (se_makeD (c.mkr 74) (G_Follower___init__.any rfl) (hr.mono (by decide)) hG rfl (c.glo 72) (bare_int (bare_int (bare_int bare_nil))) (B_Follower___init__ 0 (by decide)) lam_takes (sa_cons (se_var (i := 15) rfl (vis_of rfl)) (sa_cons se_non (sa_cons se_non sa_nil)))), by decide, by decide⟩) (se_lst (sa_cons se_str (sa_cons (se_callB (cr_repr hG (room_u hr)) sc_repr rfl (c.free 57) bt_repr (sa_cons (se_var (i := 15) rfl (vis_of rfl)) sa_nil)) (sa_cons se_bl sa_nil)))) rfl) (sb_one (ss_ret se_bl)) sb_nil))) (sb_cons (ss_set (i := 16) nd__law_right rfl (loc_of rfl) (se_lst (sa_cons (se_tup (sa_cons se_non (sa_cons se_non sa_nil))) (sa_cons (se_tup (sa_cons (se_tup sa_nil) (sa_cons se_non sa_nil))) (sa_cons (se_tup (sa_cons (se_callTy (cr_listOf rfl) sc_list rfl (c.free 53) bt_list (sa_cons (se_var (i := 3) rfl (vis_of rfl)) sa_nil)) (sa_cons se_non sa_nil))) (sa_cons (se_tup (sa_cons (se_op op_addS sv_add (se_var (i := 3) rfl (vis_of rfl)) (se_tup (sa_cons (se_var (i := 2) rfl (vis_of rfl)) sa_nil))) (sa_cons (se_callB cr_lenA sc_len rfl (c.free 52) bt_len (sa_cons (se_var (i := 3) rfl (vis_of rfl)) sa_nil)) sa_nil))) (sa_cons (se_tup (sa_cons (se_op op_addS sv_add (se_tup (sa_cons se_bl sa_nil)) (se_var (i := 3) rfl (vis_of rfl))) (sa_cons se_int sa_nil))) sa_nil))))))) (sb_cons (ss_for po rfl (si_lst (se_var (i := 16) rfl (vis_of rfl))) (sg_tup rfl (sgs_cons (sg_name (i := 17) nd__law_right rfl (loc_of rfl)) (sgs_cons (sg_name (i := 18) nd__law_right rfl (loc_of rfl)) sgs_nil))) (sb_one (ss_if (st_cmp (op_neD hr.units) sv_ne (se_ho0 (T := ⟨tL K, none, none⟩) (x := "_law_refused") (fd := fd__law_refused) (Ng := N__law_refused) (a := "call") (mb := h__law_refused) (ps := []) (vs := [0, 1, 3, 4, 5, 6, 7, 8, 9, 10, 11, 12, 13, 14, 15, 16, 18]) (fe := (sMk "Follower" m_Follower___init__ [D.int 0, D.int 1, D.int 0] (aCons (sVar 2) (aCons (sVar 17) (aCons (sCon .non) aNil))))) (k := 12) (c := (He.cT K ("_law_right", none)).1) (P := (He.cT K ("_law_right", none)).2) ⟨hr.mono (by decide), hG, tk, rfl, (c.glo 41), F__law_refused.kp, by decide, F__law_refused, sc__law_refused, B__law_refused, rfl, vis_of rfl, HOBody.up (k := 0) G__law_refused (by decide), c.tb _ (tm__law_right K), code__law_right c F, tl__law_right K, tu__law_right c, lamP_by (N := N__law_right) (sc := defScope s__law_right) (by decide +kernel), rfl, fun q cl pm cv ctv us hl => match us, hl with | [], _ => rfl, fun A outer s H E f c' hr hG => (se_makeD (c.mkr 74) (G_Follower___init__.any rfl) (hr.mono (by decide)) hG rfl (c.glo 72) (bare_int (bare_int (bare_int bare_nil))) (B_Follower___init__ 0 (by decide)) lam_takes (sa_cons (se_var (i := 2) rfl (vis_of rfl)) (sa_cons (se_var (i := 17) rfl (vis_of rfl)) (sa_cons se_non sa_nil)))), by decide, by decide⟩) (se_lst (sa_cons se_str (sa_cons (se_callB (cr_repr hG (room_u hr)) sc_repr rfl (c.free 57) bt_repr (sa_cons (se_var (i := 18) rfl (vis_of rfl)) sa_nil)) (sa_cons se_bl sa_nil)))) rfl) (sb_one (ss_ret se_bl)) sb_nil))) (sb_cons (ss_for po rfl (si_lst (se_lst (sa_cons se_int (sa_cons se_int (sa_cons se_non (sa_cons se_str (sa_cons se_bl sa_nil))))))) (sg_name (i := 15) nd__law_right rfl (loc_of rfl)) (sb_one (ss_if (st_cmp (op_neD hr.units) sv_ne (se_ho0 (T := ⟨tL K, none, none⟩) (x := "_law_refused") (fd := fd__law_refused) (Ng := N__law_refused) (a := "call") (mb := h__law_refused) (ps := []) (vs := [0, 1, 4, 5, 6, 7, 8, 9, 10, 11, 12, 13, 14, 16, 17, 18]) (fe := (sMk "Follower" m_Follower___init__ [D.int 1, D.int 0] (aCons (sVar 2) (aCons (sVar 3) (aCons (sVar 15) (aCons (sCon .non) aNil)))))) (k := 12) (c := (He.cT K ("_law_right", none)).1) (P := (He.cT K ("_law_right", none)).2) ⟨hr.mono (by decide), hG, tk, rfl, (c.glo 41), F__law_refused.kp, by decide, F__law_refused, sc__law_refused, B__law_refused, rfl, vis_of rfl, HOBody.up (k := 0) G__law_refused (by decide), c.tb _ (tm__law_right K), code__law_right c F, tl__law_right K, tu__law_right c, lamP_by (N := N__law_right) (sc := defScope s__law_right) (by decide +kernel), rfl, fun q cl pm cv ctv us hl => match us, hl with | [], _ => rfl, fun A outer s H E f c' hr hG => (se_makeD (c.mkr 74) (G_Follower___init__.any rfl) (hr.mono (by decide)) hG rfl (c.glo 72) (bare_int (bare_int bare_nil)) (B_Follower___init__ 1 (by decide)) lam_takes (sa_cons (se_var (i := 2) rfl (vis_of rfl)) (sa_cons (se_var (i := 3) rfl (vis_of rfl)) (sa_cons (se_var (i := 15) rfl (vis_of rfl)) (sa_cons se_non sa_nil))))), by decide, by decide⟩) (se_lst (sa_cons se_str (sa_cons (se_callB (cr_repr hG (room_u hr)) sc_repr rfl (c.free 57) bt_repr (sa_cons (se_var (i := 15) rfl (vis_of rfl)) sa_nil)) (sa_cons se_bl sa_nil)))) rfl) (sb_one (ss_ret se_bl)) sb_nil))) (sb_cons (ss_if (st_cmp (op_neD hr.units) sv_ne (se_ho0 (T := ⟨tL K, none, none⟩) (x := "_law_refused") (fd := fd__law_refused) (Ng := N__law_refused) (a := "call") (mb := h__law_refused) (ps := []) (vs := [0, 1, 5, 6, 7, 8, 9, 10, 11, 12, 13, 14, 15, 16, 17, 18]) (fe := (sMk "Follower" m_Follower___init__ [] (aCons (sVar 2) (aCons (sVar 3) (aCons (sVar 4) (aCons (sCon (.int 6)) (aCons (sCon (.int 6)) (aCons (sCon (.int 0)) aNil)))))))) (k := 12) (c := (He.cT K ("_law_right", none)).1) (P := (He.cT K ("_law_right", none)).2) ⟨hr.mono (by decide), hG, tk, rfl, (c.glo 41), F__law_refused.kp, by decide, F__law_refused, sc__law_refused, B__law_refused, rfl, vis_of rfl, HOBody.up (k := 0) G__law_refused (by decide), c.tb _ (tm__law_right K), code__law_right c F, tl__law_right K, tu__law_right c, lamP_by (N := N__law_right) (sc := defScope s__law_right) (by decide +kernel), rfl, fun q cl pm cv ctv us hl => match us, hl with | [], _ => rfl, fun A outer s H E f c' hr hG => (se_make (c.mkr 74) (G_Follower___init__.any rfl) (hr.mono (by decide)) hG rfl (c.glo 72) bare_nil (Bm_Follower___init__ c B_Follower___init__) .nil lam_takes (sa_cons (se_var (i := 2) rfl (vis_of rfl)) (sa_cons (se_var (i := 3) rfl (vis_of rfl)) (sa_cons (se_var (i := 4) rfl (vis_of rfl)) (sa_cons se_int (sa_cons se_int (sa_cons se_int sa_nil))))))), by decide, by decide⟩) (se_lst (sa_cons se_str (sa_cons se_str (sa_cons se_bl sa_nil)))) rfl) (sb_one (ss_ret se_bl)) sb_nil) (sb_one (ss_ret (se_cmp (op_eqD hr.units) sv_eq (se_ho0 (T := ⟨tL K, none, none⟩) (x := "_law_refused") (fd := fd__law_refused) (Ng := N__law_refused) (a := "call") (mb := h__law_refused) (ps := []) (vs := [0, 1, 5, 6, 7, 8, 9, 10, 11, 12, 13, 14, 15, 16, 17, 18]) (fe := (sMk "Follower" m_Follower___init__ [] (aCons (sVar 2) (aCons (sVar 3) (aCons (sVar 4) (aCons (sCon (.int 3)) (aCons (sCon (.int 2)) (aCons (sCon (.int 0)) aNil)))))))) (k := 12) (c := (He.cT K ("_law_right", none)).1) (P := (He.cT K ("_law_right", none)).2) ⟨hr.mono (by decide), hG, tk, rfl, (c.glo 41), F__law_refused.kp, by decide, F__law_refused, sc__law_refused, B__law_refused, rfl, vis_of rfl, HOBody.up (k := 0) G__law_refused (by decide), c.tb _ (tm__law_right K), code__law_right c F, tl__law_right K, tu__law_right c, lamP_by (N := N__law_right) (sc := defScope s__law_right) (by decide +kernel), rfl, fun q cl pm cv ctv us hl => match us, hl with | [], _ => rfl, fun A outer s H E f c' hr hG => (se_make (c.mkr 74) (G_Follower___init__.any rfl) (hr.mono (by decide)) hG rfl (c.glo 72) bare_nil (Bm_Follower___init__ c B_Follower___init__) .nil lam_takes (sa_cons (se_var (i := 2) rfl (vis_of rfl)) (sa_cons (se_var (i := 3) rfl (vis_of rfl)) (sa_cons (se_var (i := 4) rfl (vis_of rfl)) (sa_cons se_int (sa_cons se_int (sa_cons se_int sa_nil))))))), by decide, by decide⟩) (se_lst (sa_cons se_str (sa_cons se_str (sa_cons se_bl sa_nil)))) rfl)))))))))))))))))))))
abbrev N__law_pool : List Str := ["script", "turn", "own", "stirred", "cell"]
theorem nd__law_pool : (N__law_pool).Nodup := by decide +kernel
theorem sc__law_pool : FnScope N__law_pool ["script", "turn"] (defScope s__law_pool) := ⟨rfl, rfl, rfl, nd__law_pool, rfl, by decide +kernel, by decide +kernel⟩
def b__law_pool : SM := (bCons (bPar [2, 3] (aCons (sIte (s2 opLt (sVar 1) (sApp kLen (aCons (sVar 0) aNil))) (sApp kInt (aCons (s2 ixD (sVar 0) (sVar 1)) aNil)) (s2 opAdd (s2 opMul (sCon (.int 70001)) (sVar 1)) (sCon (.int 89)))) (aCons (s2 opAdd (sCon (.int 60013)) (s2 opMul (sCon (.int 5003)) (sVar 1))) aNil))) (bCons (bFor (iL (sSl (sVar 0) oNone (oSome (sCon (.int 6))))) (gNm 4) (bSet 3 (s2 opMod (sApp kInt (aCons (s2 opAdd (s2 opAdd (s2 opMul (sVar 3) (sCon (.int 48271))) (s2 opMod (sApp kInt (aCons (sVar 4) aNil)) (sCon (.int 2147482937)))) (sCon (.int 43))) aNil)) (sCon (.int 2147482937))))) (bRet (sLstM (aCons (s2 opMod (sApp kInt (aCons (s2 opAdd (sVar 3) (s2 opMul (sVar 2) (sCon (.int 1033)))) aNil)) (sCon (.int 2147482937))) (aCons (sIte (sOr (s2 opLt (sVar 2) (sCon (.int 0))) (s2 opGe (sVar 2) (s2 opPow (sCon (.int 10)) (sCon (.int 18))))) (sApp kAbs (aCons (sVar 2) aNil)) (sCon (.int 0))) (aCons (sCon (.int 0)) aNil)))))))
def m__law_pool : Fn := fnM 2 5 b__law_pool
theorem ok__law_pool {P : Program} {w : World} {K : PySem.W.Frag} {mg : Str → Option Value} {base : Heap} (c : C w K mg base) : ∃ fd, FunD K d__law_pool.name d__law_pool.qual d__law_pool.params d__law_pool.body d__law_pool.scope (d__law_pool.dvs K) (d__law_pool.kws K) (He.ga K "_law_pool") fd ∧ L2.Binds K fd ["script", "turn"] [] ∧ FD P w ⟨K, mg, ⟨tL K, none, none⟩⟩ base 1 (He.ga K "_law_pool") fd ["script", "turn"] m__law_pool := by
  obtain ⟨fd, F⟩ := c.def_ 31
  refine ⟨fd, F, F.bindsN fun _ _ _ _ _ _ us hl => match us, hl with | [_, _], _ => rfl, fd_of (k := 0) F sc__law_pool (by decide) fun A outer s H E hr hG => ?_⟩
  have tk : Takes (cxOf (CX P w) P w K mg base N__law_pool "_law_pool" (defScope s__law_pool) (He.ga K "_law_pool") fd.code A outer s H E) (fun c d _ H => E c d H) := takes_of rfl rfl rfl rfl
  have po : PassesOwn (model P w) (cxOf (CX P w) P w K mg base N__law_pool "_law_pool" (defScope s__law_pool) (He.ga K "_law_pool") fd.code A outer s H E).A (cxOf (CX P w) P w K mg base N__law_pool "_law_pool" (defScope s__law_pool) (He.ga K "_law_pool") fd.code A outer s H E).env (cxOf (CX P w) P w K mg base N__law_pool "_law_pool" (defScope s__law_pool) (He.ga K "_law_pool") fd.code A outer s H E).xe := passes_of rfl
  exact (sb_cons (ss_par (i := 2) (j := 3) rfl nd__law_pool rfl rfl (by decide) rfl rfl (sa_cons (se_ite (st_cmp op_lt sv_lt (se_var (i := 1) rfl (vis_of rfl)) (se_callB cr_lenA sc_len rfl (c.free 52) bt_len (sa_cons (se_var (i := 0) rfl (vis_of rfl)) sa_nil)) rfl) (se_callTy cr_intA sc_int rfl (c.free 50) bt_int (sa_cons (se_ix (room_u1 hr) (se_var (i := 0) rfl (vis_of rfl)) (se_var (i := 1) rfl (vis_of rfl))) sa_nil)) (se_op op_addS sv_add (se_op op_mulS sv_mul se_int (se_var (i := 1) rfl (vis_of rfl))) se_int)) (sa_cons (se_op op_addS sv_add se_int (se_op op_mulS sv_mul se_int (se_var (i := 1) rfl (vis_of rfl)))) sa_nil)) rfl) (sb_cons (ss_for po rfl (si_lst (se_slice (se_var (i := 0) rfl (vis_of rfl)) so_none (so_some se_int))) (sg_name (i := 4) nd__law_pool rfl (loc_of rfl)) (sb_one (ss_set (i := 3) nd__law_pool rfl (loc_of rfl) (se_op op_mod sv_mod (se_callTy cr_intA sc_int rfl (c.free 50) bt_int (sa_cons (se_op op_addS sv_add (se_op op_addS sv_add (se_op op_mulS sv_mul (se_var (i := 3) rfl (vis_of rfl)) se_int) (se_op op_mod sv_mod (se_callTy cr_intA sc_int rfl (c.free 50) bt_int (sa_cons (se_var (i := 4) rfl (vis_of rfl)) sa_nil)) se_int)) se_int) sa_nil)) se_int)))) (sb_one (ss_ret (se_lstM (sa_cons (se_op op_mod sv_mod (se_callTy cr_intA sc_int rfl (c.free 50) bt_int (sa_cons (se_op op_addS sv_add (se_var (i := 3) rfl (vis_of rfl)) (se_op op_mulS sv_mul (se_var (i := 2) rfl (vis_of rfl)) se_int)) sa_nil)) se_int) (sa_cons (se_ite (SW.st (sw_or (st_cmp op_lt sv_lt (se_var (i := 2) rfl (vis_of rfl)) se_int rfl) (sw_one_or (st_cmp op_ge sv_ge (se_var (i := 2) rfl (vis_of rfl)) (se_op op_pow sv_pow se_int se_int) rfl)))) (se_callB call_abs sc_abs rfl (c.free 45) bt_abs (sa_cons (se_var (i := 2) rfl (vis_of rfl)) sa_nil)) se_int) (sa_cons se_int sa_nil))))))))
abbrev N_law : List Str := ["script", "turn"]
theorem nd_law : (N_law).Nodup := by decide +kernel
theorem sc_law : FnScope N_law ["script"] (defScope s_law) := ⟨rfl, rfl, rfl, nd_law, rfl, by decide +kernel, by decide +kernel⟩
def b_law : SM := (bRet (sApp kAll (aCons (sComp [1] (iR1 (aCons (sApp kMax2 (aCons (sCon (.int 2)) (aCons (sApp kMin2 (aCons (sApp kLen (aCons (sVar 0) aNil)) (aCons (sCon (.int 3)) aNil))) aNil))) aNil)) (gNm 1) cYes (sCl m__law_right [] (aCons (sCl m__law_pool [] (aCons (sVar 0) (aCons (sVar 1) aNil))) aNil))) aNil)))
def m_law : Fn := fnM 1 2 b_law
theorem ok_law {P : Program} {w : World} {K : PySem.W.Frag} {mg : Str → Option Value} {base : Heap} (c : C w K mg base) : ∃ fd, FunD K d_law.name d_law.qual d_law.params d_law.body d_law.scope (d_law.dvs K) (d_law.kws K) (He.ga K "law") fd ∧ L2.Binds K fd ["script"] [] ∧ FD P w ⟨K, mg, ⟨tL K, none, none⟩⟩ base 16 (He.ga K "law") fd ["script"] m_law := by
  obtain ⟨fd, F⟩ := c.def_ 43
  obtain ⟨fd__law_right, F__law_right, B__law_right, G__law_right⟩ := ok__law_right (P := P) c
  obtain ⟨fd__law_pool, F__law_pool, B__law_pool, G__law_pool⟩ := ok__law_pool (P := P) c
  refine ⟨fd, F, F.bindsN fun _ _ _ _ _ _ us hl => match us, hl with | [_], _ => rfl, fd_of (k := 15) F sc_law (by decide) fun A outer s H E hr hG => ?_⟩
  have tk : Takes (cxOf (CX P w) P w K mg base N_law "law" (defScope s_law) (He.ga K "law") fd.code A outer s H E) (fun c d _ H => E c d H) := takes_of rfl rfl rfl rfl
  have po : PassesOwn (model P w) (cxOf (CX P w) P w K mg base N_law "law" (defScope s_law) (He.ga K "law") fd.code A outer s H E).A (cxOf (CX P w) P w K mg base N_law "law" (defScope s_law) (He.ga K "law") fd.code A outer s H E).env (cxOf (CX P w) P w K mg base N_law "law" (defScope s_law) (He.ga K "law") fd.code A outer s H E).xe := passes_of rfl
  exact (sb_one (ss_ret (se_callB (cr_all rfl) sc_all rfl (c.free 46) bt_all (sa_cons (se_comp (own := [("turn", 1)]) (b := (gNm 1)) (g := (gName 1)) rfl nd_law (si_rng1 rfl (c.free 56) (sa_cons (se_callB (call_max2 rfl) sc_max2 rfl (c.free 54) bt_max (sa_cons se_int (sa_cons (se_callB (call_min2 rfl) sc_min2 rfl (c.free 55) bt_min (sa_cons (se_callB cr_lenA sc_len rfl (c.free 52) bt_len (sa_cons (se_var (i := 0) rfl (vis_of rfl)) sa_nil)) (sa_cons se_int sa_nil))) sa_nil))) sa_nil)) (blkOk_by (N := N_law) (sc := defScope s_law) (by decide +kernel)) gname_of (gname_same (by decide)) (fun s H C cl fp => (pg_name (i := 1) nd_law rfl (loc_of rfl))) (fun s H C cl fp => sts_nil) (fun s H C cl fp => (se_call (G__law_right.any rfl) (hr.mono (by decide)) hG rfl (c.glo 42) F__law_right.kp bare_nil B__law_right .nil tkF (sa_cons (se_call (G__law_pool.any rfl) (hr.mono (by decide)) hG rfl (c.glo 31) F__law_pool.kp bare_nil B__law_pool .nil tkF (sa_cons (se_var (i := 0) rfl (vis_of rfl)) (sa_cons (se_var (i := 1) rfl (vis_of rfl)) sa_nil))) sa_nil)))) sa_nil))))
end
end k78
namespace k78
open PySem Sv
open L2 (atI ixN)
local macro_rules | `(tactic| simp! [$xs,*]) => `(tactic| try simp only [List.map_cons, List.map_nil, List.length_cons, List.length_nil, Nat.zero_add, Nat.reduceAdd, Nat.reduceSub, List.replicate, List.cons_append, List.nil_append, List.append_nil, List.set_cons_zero, List.set_cons_succ, List.zip_cons_cons, List.zip_nil_right, List.foldl_cons, List.foldl_nil, wipeE,
  es_cons, es_nil, es_ret, es_expr, es_if, es_set, es_par, es_asg, es_fd, es_forE, es_raise, es_retN, es_break, es_cont, es_bad, es_pass, es_try, ev_call, ev_cons, ev_nil, ev_con, ev_var, look0, lookS, ev_s1, ev_s2, ev_app, ev_and, ev_or, ev_not, ev_ite, ev_chain, ev_tup, ev_lst, ev_lstM, ev_comp, ev_compM, ev_dict, ev_dict2, ev_cYes, ev_cOne, ev_r1, ev_r2, ev_it, ev_il, ev_iK, ev_iS, ev_sl, ev_oNone, ev_oSome, ev_en, ev_z, ev_fdg, ev_mth, ev_mk, ev_dict0, ev_star, es_append, ev_ho,
  eg_tp, eg_gcons, eg_nm, eg_gnil, eg_sb, onB_bl, ev_addI, ev_subI, ev_modI, ev_divI, ev_ltI, ev_leI, ev_gtI, ev_geI, ev_int, ev_len_t, ev_len_l, ev_len_f, ev_tuple_t, ev_tuple_l, ev_list_t, ev_list_l, ev_isN, ev_notN, ev_sorted_l, ev_max, ev_min, ev_abs, ev_inK, ev_ixK, ev_slT, ev_slL, isNon, isi_int_non, isi_int_bl, isi_int_int, isi_int_str, isi_int_tup, isi_int_lst, isi_int_frl, isi_int_dct, isi_bool_non, isi_bool_bl, isi_bool_int, isi_bool_str, isi_bool_tup, isi_bool_lst, isi_bool_frl, isi_bool_dct, isi_str_non, isi_str_bl, isi_str_int, isi_str_str, isi_str_tup, isi_str_lst, isi_str_frl, isi_str_dct, isi_tuple_non, isi_tuple_bl, isi_tuple_int, isi_tuple_str, isi_tuple_tup, isi_tuple_lst, isi_tuple_frl, isi_tuple_dct, isi_list_non, isi_list_bl, isi_list_int, isi_list_str, isi_list_tup, isi_list_lst, isi_list_frl, isi_list_dct, isi_dict_non, isi_dict_bl, isi_dict_int, isi_dict_str, isi_dict_tup, isi_dict_lst, isi_dict_frl, isi_dict_dct,
  List.cons.injEq, D.int.injEq, D.tup.injEq, D.lst.injEq, D.str.injEq, D.bl.injEq, D.ref.injEq, exists_eq_left', exists_eq, false_and, and_false, exists_false, or_false, false_or, exists_const, and_self, and_assoc, exists_and_left, Nat.zero_le, Nat.reduceLeDiff,
  ne_eq, reduceCtorEq, not_false_eq_true, true_and, and_true, decide_eq_true_eq, Bool.false_eq_true, if_false, if_true, Bool.not_true, Bool.not_false, List.length_map, $xs,*])
def PoolV (l : Ob) : Prop := ∃ a b c : Int, l = .lst [.int a, .int b, .int c] ∧ 0 ≤ a ∧ 0 ≤ b
def Pool (st : Store) (n : Nat) : Prop := ∃ l, st[n]? = some l ∧ PoolV l
theorem Pool.set {st : Store} {n : Nat} {l : Ob} (h : Pool st n) (hl : PoolV l) : Pool (st.set n l) n := by
  obtain ⟨l0, h0, _⟩ := h
  exact ⟨l, by rw [List.getElem?_set_self (List.getElem?_eq_some_iff.mp h0).1], hl⟩
theorem small64_of {i : Int} (h1 : -18446744073709551616 < i) (h2 : i < 18446744073709551616) : small64 i = true := by
  unfold small64
  rw [decide_eq_true h1, decide_eq_true h2]
  rfl
section
variable {P : D → Store → Prop} {X : Ex → Store → Prop} {st : Store}
theorem sp_draw {n : Nat} {many : Int} (h : Pool st n) (h1 : 0 < many) (h2 : many < 1073741824) (k : ∀ (r : Int) (l : Ob), 0 ≤ r → r < many → PoolV l → P (.int r) (st.set n l)) : Ev (m__law_draw [.ref n, .int many] st) P X := by
  obtain ⟨l, h0, a, b, c, rfl, ha, hb⟩ := h
  have hn := (List.getElem?_eq_some_iff.mp h0).1
  have e1 : ∀ l : Ob, (st.set n l)[n]? = some l := fun l => List.getElem?_set_self hn
  unfold m__law_draw
  refine (ev_fn (ds := [_, _]) rfl).mpr ?_
  unfold b__law_draw
  have lk : ∀ (x y z : D), atI [x, y, z] 0 = some x ∧ atI [x, y, z] 1 = some y ∧ atI [x, y, z] 2 = some z := fun x y z => ⟨rfl, rfl, rfl⟩
  have ij : ∀ x y z : D, ixN [x, y, z].length 0 = some 0 ∧ ixN [x, y, z].length 1 = some 1 ∧ ixN [x, y, z].length 2 = some 2 := fun _ _ _ => ⟨rfl, rfl, rfl⟩
  simp only [List.map_cons, List.map_nil, List.length_cons, List.length_nil, Nat.zero_add, Nat.reduceAdd, Nat.reduceSub, List.replicate, List.cons_append, List.nil_append]
  rw [es_cons, es_if, ev_s2, ev_s2, ev_var, look0]
  simp only [ev_con, ev_ixR h0, (lk _ _ _).2.1, ne_eq, reduceCtorEq, not_false_eq_true, true_and, Option.some.injEq, exists_eq_left', ev_gtI, onB_bl, decide_eq_true_eq]
  by_cases hb0 : 0 < b
  · rw [if_pos hb0, es_cons, es_asg, ev_app, ev_cons, ev_s2, ev_var, look0]
    simp only [ev_con, ev_ixR h0, (lk _ _ _).2.1, ne_eq, reduceCtorEq, not_false_eq_true, true_and, Option.some.injEq, exists_eq_left', ev_cons, ev_var, lookS, look0, ev_nil, ev_divmod, h1, h2, eg_tp, List.length_cons, List.length_nil, eg_gcons, eg_sb, eg_nm, eg_gnil, List.set]
    rw [ep_putL h0 (ij _ _ _).2.1]
    simp only [List.set, es_ret, ev_var, lookS, look0, ne_eq, reduceCtorEq, not_false_eq_true, true_and]
    exact k _ _ (Int.emod_nonneg _ (by omega)) (Int.emod_lt_of_pos _ h1) ⟨a, b / many, c, rfl, ha, Int.ediv_nonneg hb (by omega)⟩
  · rw [if_neg hb0]
    simp only [es_nil, es_cons, es_asg, ev_s2, ev_var, look0, ev_con, ev_ixR h0, (lk _ _ _).2.2, ne_eq, reduceCtorEq, not_false_eq_true, true_and, Option.some.injEq, exists_eq_left', ev_addI, eg_sb]
    rw [ep_putL h0 (ij _ _ _).2.2]
    simp only [List.set, es_set, ev_app, ev_cons, ev_nil, ev_s2, ev_var, look0, lookS, ev_con, ev_ixR (e1 _), (lk _ _ _).1, (lk _ _ _).2.2, ne_eq, reduceCtorEq, not_false_eq_true, true_and, Option.some.injEq, exists_eq_left', ev_int, ev_modI, ev_addI, ev_mulI]
    have m1 := Int.emod_nonneg a (show (20011 : Int) ≠ 0 by omega)
    have m2 := Int.emod_lt_of_pos a (show (0 : Int) < 20011 by omega)
    refine ⟨by omega, by rw [small64_of (i := a % 20011 + 30011) (by omega) (by omega), Bool.or_true], by rw [small64_of (i := 70001) (by omega) (by omega), Bool.true_or], by omega, ?_⟩
    rw [ep_putL (e1 _) (ij _ _ _).1]
    simp only [List.set_set, List.set, es_ret, ev_s2, ev_app, ev_cons, ev_nil, ev_var, look0, lookS, ev_con, ev_ixR (e1 _), (lk _ _ _).1, ne_eq, reduceCtorEq, not_false_eq_true, true_and, Option.some.injEq, exists_eq_left', ev_divI, ev_int, ev_modI]
    refine ⟨⟨by omega, by omega⟩, h1, k _ _ (Int.emod_nonneg _ (by omega)) (Int.emod_lt_of_pos _ h1) ⟨_, b, c + 1, rfl, Int.emod_nonneg _ (by omega), hb⟩⟩
theorem atI_in {α : Type} {xs : List α} {i : Int} (h0 : 0 ≤ i) (h1 : i < xs.length) : ∃ d, atI xs i = some d ∧ d ∈ xs ∧ xs[i.toNat]? = some d := by
  have e : ixN xs.length i = some i.toNat := by
    unfold ixN
    rw [if_pos h0, if_pos h1]
  have hl : i.toNat < xs.length := by omega
  refine ⟨xs[i.toNat], ?_, List.getElem_mem hl, List.getElem?_eq_getElem hl⟩
  unfold atI
  rw [e]
  exact List.getElem?_eq_getElem hl
theorem sp_pick_l {n : Nat} {as : List D} (h : Pool st n) (h1 : 0 < as.length) (h2 : as.length < 1073741824) (k : ∀ (d : D) (l : Ob), d ∈ as → PoolV l → P d (st.set n l)) : Ev (m__law_pick [.ref n, .lst as] st) P X := by
  refine (ev_fn (ds := [_, _]) rfl).mpr ?_
  unfold b__law_pick
  simp only [List.map_cons, List.map_nil, List.length_cons, List.length_nil, Nat.zero_add, Nat.reduceAdd, Nat.reduceSub, List.replicate, List.cons_append, List.nil_append, es_ret, ev_s2, ev_var, lookS, look0, ev_call, ev_cons, ev_nil, ev_app, ev_len_l, ne_eq, reduceCtorEq, not_false_eq_true, true_and, List.append_nil]
  refine sp_draw h (by omega) (by omega) fun r l hr hr2 hl => ?_
  obtain ⟨d, e, hd, _⟩ := atI_in hr hr2
  exact ev_ixL.mpr ⟨d, e, k d l hd hl⟩
theorem sp_pick_t {n : Nat} {as : List D} (h : Pool st n) (h1 : 0 < as.length) (h2 : as.length < 1073741824) (k : ∀ (d : D) (l : Ob), d ∈ as → PoolV l → P d (st.set n l)) : Ev (m__law_pick [.ref n, .tup as] st) P X := by
  refine (ev_fn (ds := [_, _]) rfl).mpr ?_
  unfold b__law_pick
  simp only [List.map_cons, List.map_nil, List.length_cons, List.length_nil, Nat.zero_add, Nat.reduceAdd, Nat.reduceSub, List.replicate, List.cons_append, List.nil_append, es_ret, ev_s2, ev_var, lookS, look0, ev_call, ev_cons, ev_nil, ev_app, ev_len_t, ne_eq, reduceCtorEq, not_false_eq_true, true_and, List.append_nil]
  refine sp_draw h (by omega) (by omega) fun r l hr hr2 hl => ?_
  obtain ⟨d, e, hd, _⟩ := atI_in hr hr2
  exact ev_ixT.mpr ⟨d, e, k d l hd hl⟩
theorem rangeD_len (a : Int) (n : Nat) : (rangeD a n).length = n := by simp [rangeD]
/-- marks of so many sorts -/
def Marks (sorts : Int) (ms : List Int) : Prop := ∀ m ∈ ms, 0 ≤ m ∧ m < sorts
theorem rangeD_ints (a : Int) (n : Nat) : ∀ d ∈ rangeD a n, ∃ i : Int, d = .int i ∧ a ≤ i ∧ i < a + n := by
  intro d hd
  unfold rangeD at hd
  obtain ⟨i, hi, rfl⟩ := List.mem_map.mp hd
  exact ⟨_, rfl, by have := List.mem_range.mp hi; omega, by have := List.mem_range.mp hi; omega⟩
/-- the ring: marks, one at least, most at most -/
theorem sp_ring {n : Nat} {sorts most : Int} (h : Pool st n) (h1 : 0 < sorts) (h2 : sorts < 1073741824) (h3 : 0 < most) (h4 : most ≤ 1000) (k : ∀ (ms : List Int) (l : Ob), Marks sorts ms → 1 ≤ ms.length → (ms.length : Int) ≤ most → PoolV l → P (.tup (ms.map D.int)) (st.set n l)) : Ev (m__law_ring [.ref n, .int sorts, .int most] st) P X := by
  refine (ev_fn (ds := [_, _, _]) rfl).mpr ?_
  unfold b__law_ring
  simp only [List.map_cons, List.map_nil, List.length_cons, List.length_nil, Nat.zero_add, Nat.reduceAdd, Nat.reduceSub, List.replicate, List.cons_append, List.nil_append, es_cons, es_set, ev_tup, ev_nil, Nat.zero_le, true_and, List.set, es_forE, ev_r1, ev_cons, ev_s2, ev_con, ev_call, ev_var, lookS, look0, ne_eq, reduceCtorEq, not_false_eq_true, List.append_nil]
  refine sp_draw h h3 (by omega) fun r l hr hr2 hl => ?_
  rw [ev_addI]
  refine ⟨1 + r, rfl, r62_of (by omega) (by omega), ?_⟩
  refine es_loop (fun done env st' => ∃ (ms : List Int) (l : Ob) (o : Option D), env = [some (.ref n), some (.int sorts), some (.int most), some (.tup (ms.map D.int)), o] ∧ st' = st.set n l ∧ PoolV l ∧ Marks sorts ms ∧ ms.length = done.length) ⟨[], l, none, rfl, rfl, hl, fun m hm => by simp at hm, rfl⟩ ?_ ?_
  · rintro done d rest env st' e ⟨ms, l, o, rfl, rfl, hl, hm, hn⟩
    simp only [eg_nm, List.set, es_set, ev_s2, ev_tup, ev_cons, ev_nil, ev_call, ev_var, lookS, look0, ne_eq, reduceCtorEq, not_false_eq_true, true_and, List.append_nil]
    refine sp_draw (h.set hl) h1 h2 fun r l2 hr hr2 hl2 => ?_
    have len : ms.length + 1 ≤ 1001 := by
      have e1 := congrArg List.length e
      rw [rangeD_len, List.length_append, List.length_cons] at e1
      omega
    refine ⟨Nat.le_of_ble_eq_true rfl, ev_addT.mpr ⟨by rw [List.length_map]; simp only [List.length_cons, List.length_nil]; omega, ?_⟩⟩
    refine ⟨ms ++ [r], l2, some d, by rw [List.map_append]; rfl, List.set_set .., hl2, fun m hm2 => ?_, by rw [List.length_append, List.length_append, hn]; rfl⟩
    rcases List.mem_append.mp hm2 with z | z
    · exact hm m z
    · rw [List.mem_singleton.mp z]
      exact ⟨hr, hr2⟩
  · rintro env st' ⟨ms, l, o, rfl, rfl, hl, hm, hn⟩
    rw [rangeD_len] at hn
    simp only [es_ret, ev_ite, ev_and, ev_s2, ev_con, ev_app, ev_cons, ev_nil, ev_call, ev_var, lookS, look0, ne_eq, reduceCtorEq, not_false_eq_true, true_and, List.append_nil, ev_len_t, ev_mulI, ev_leI, onB_bl, decide_eq_true_eq, List.length_map, ev_mulT, ev_eq, flat_int, eqD_int, Bool.false_eq_true, if_false]
    refine ⟨by rw [small64_of (i := 2) (by omega) (by omega), Bool.true_or], ?_⟩
    by_cases hb : 2 * (ms.length : Int) ≤ most
    · rw [if_pos hb]
      refine sp_draw (h.set hl) (by omega) (by omega) fun r2 l2 hr3 hr4 hl2 => ?_
      rw [List.set_set]
      simp only [flat_int, eqD_int, decide_eq_true_eq, and_self, true_and]
      by_cases h0 : r2 = 0
      · rw [if_pos h0]
        refine ⟨?_, ?_⟩
        · rw [Bool.and_eq_true, Bool.and_eq_true, Bool.and_eq_true]
          refine ⟨⟨⟨?_, by decide⟩, by decide⟩, decide_eq_true (by omega)⟩
          cases ms with
          | nil => simp only [List.length_nil] at hn; omega
          | cons m ms => rfl
        · have e2 : (List.replicate (Int.toNat 2) (ms.map D.int)).flatten = (ms ++ ms).map D.int := by
            show [ms.map D.int, ms.map D.int].flatten = _
            simp
          rw [e2]
          refine k _ _ (fun m hm2 => ?_) (by rw [List.length_append]; omega) (by rw [List.length_append]; omega) hl2
          rcases List.mem_append.mp hm2 with z | z
          · exact hm m z
          · exact hm m z
      · rw [if_neg h0]
        exact k ms _ hm (by omega) (by omega) hl2
    · rw [if_neg hb]
      exact k ms _ hm (by omega) (by omega) hl
/-- what a follower is made of -/
structure Parts (sorts : Int) (ring : List Int) (wide least most misread : Int) : Prop where
  s1 : 2 ≤ sorts
  s2 : sorts ≤ 3
  m : Marks sorts ring
  r1 : 1 ≤ ring.length
  r2 : ring.length ≤ 9
  w1 : 1 ≤ wide
  w2 : wide ≤ 3
  l1 : 0 ≤ least
  l2 : least ≤ 1
  o1 : least ≤ most
  o2 : most ≤ least + 1
  i1 : 0 ≤ misread
  i2 : misread ≤ 1
def partsD (sorts : Int) (ring : List Int) (wide least most misread : Int) : D := .tup [.int sorts, .tup (ring.map D.int), .int wide, .int least, .int most, .int misread]
theorem sp_begun {n : Nat} (h : Pool st n) (k : ∀ (sorts : Int) (ring : List Int) (wide least most misread : Int) (l : Ob), Parts sorts ring wide least most misread → PoolV l → P (partsD sorts ring wide least most misread) (st.set n l)) : Ev (m__law_begun [.ref n] st) P X := by
  refine (ev_fn (ds := [_]) rfl).mpr ?_
  unfold b__law_begun
  simp only [List.map_cons, List.map_nil, List.length_cons, List.length_nil, Nat.zero_add, Nat.reduceAdd, Nat.reduceSub, List.replicate, List.cons_append, List.nil_append, es_cons, es_par, ev_cons, ev_nil, ev_s2, ev_con, ev_call, ev_var, lookS, look0, ne_eq, reduceCtorEq, not_false_eq_true, true_and, List.append_nil]
  refine sp_draw h (by omega) (by omega) fun a l1 ha1 ha2 hl1 => ?_
  rw [ev_addI]
  refine sp_draw (h.set hl1) (by omega) (by omega) fun b l2 hb1 hb2 hl2 => ?_
  simp only [List.set_set, List.zip_cons_cons, List.zip_nil_right, List.foldl_cons, List.foldl_nil, List.set, ev_cons, ev_call, ev_con, ev_var, lookS, look0, ne_eq, reduceCtorEq, not_false_eq_true, true_and, ev_nil, List.append_nil, ev_s2]
  refine sp_ring (h.set hl2) (by omega) (by omega) (by omega) (by omega) fun ms l3 hm hm1 hm2 hl3 => ?_
  rw [List.set_set]
  refine sp_draw (h.set hl3) (by omega) (by omega) fun c l4 hc1 hc2 hl4 => ?_
  simp only [List.set_set, ev_addI, List.zip_cons_cons, List.zip_nil_right, List.foldl_cons, List.foldl_nil, List.set, es_ret, ev_tup, ev_cons, ev_call, ev_con, ev_var, lookS, look0, ne_eq, reduceCtorEq, not_false_eq_true, true_and, ev_nil, List.append_nil, ev_s2, ev_lst]
  refine sp_draw (h.set hl4) (by omega) (by omega) fun d l5 hd1 hd2 hl5 => ?_
  rw [ev_addI, List.set_set]
  refine ⟨Nat.le_of_ble_eq_true rfl, sp_pick_l (h.set hl5) (by simp) (by simp) fun e l6 he hl6 => ?_⟩
  rw [List.set_set]
  refine ⟨Nat.le_of_ble_eq_true rfl, ?_⟩
  have he' : e = .int 0 ∨ e = .int 1 := by simpa using he
  rcases he' with rfl | rfl
  · exact k (2 + a) ms (1 + c) b (b + d) 0 l6 ⟨by omega, by omega, hm, hm1, by omega, by omega, by omega, by omega, by omega, by omega, by omega, by omega, by omega⟩ hl6
  · exact k (2 + a) ms (1 + c) b (b + d) 1 l6 ⟨by omega, by omega, hm, hm1, by omega, by omega, by omega, by omega, by omega, by omega, by omega, by omega, by omega⟩ hl6
theorem sp_pool {ns : List Int} {t : Int} (h1 : 0 ≤ t) (h2 : t ≤ 2) (k : ∀ l : Ob, PoolV l → P (.ref st.length) (st ++ [l])) : Ev (m__law_pool [.frl (ns.map D.int), .int t] st) P X := by
  refine (ev_fn (ds := [_, _]) rfl).mpr ?_
  unfold b__law_pool
  simp only [List.map_cons, List.map_nil, List.length_cons, List.length_nil, Nat.zero_add, Nat.reduceAdd, Nat.reduceSub, List.replicate, List.cons_append, List.nil_append, es_cons, es_par, ev_cons, ev_nil, ev_s2, ev_con, ev_ite, ev_app, ev_var, lookS, look0, ne_eq, reduceCtorEq, not_false_eq_true, true_and, List.append_nil, ev_len_f, ev_ltI, onB_bl, decide_eq_true_eq, List.length_map]
  have main : ∀ own : Int, Es (bCons (bFor (iL (sSl (sVar 0) oNone (oSome (sCon (.int 6))))) (gNm 4) (bSet 3 (s2 opMod (sApp kInt (aCons (s2 opAdd (s2 opAdd (s2 opMul (sVar 3) (sCon (.int 48271))) (s2 opMod (sApp kInt (aCons (sVar 4) aNil)) (sCon (.int 2147482937)))) (sCon (.int 43))) aNil)) (sCon (.int 2147482937))))) (bRet (sLstM (aCons (s2 opMod (sApp kInt (aCons (s2 opAdd (sVar 3) (s2 opMul (sVar 2) (sCon (.int 1033)))) aNil)) (sCon (.int 2147482937))) (aCons (sIte (sOr (s2 opLt (sVar 2) (sCon (.int 0))) (s2 opGe (sVar 2) (s2 opPow (sCon (.int 10)) (sCon (.int 18))))) (sApp kAbs (aCons (sVar 2) aNil)) (sCon (.int 0))) (aCons (sCon (.int 0)) aNil))))) [some (.frl (ns.map D.int)), some (.int t), some (.int own), some (.int (60013 + 5003 * t)), none] st) (fun _ st => P .non st) P (fun e _ st => X e st) (fun _ _ => False) (fun _ _ => False) := by
    intro own
    simp only [es_cons, es_forE, ev_il, ev_sl, ev_oNone, ev_oSome, ev_con, ev_var, look0, ne_eq, reduceCtorEq, not_false_eq_true, true_and, ev_slF]
    refine ⟨6, rfl, .inl ⟨_, rfl, ?_⟩⟩
    refine es_loop (fun done env st' => ∃ (z : Int) (o : Option D), env = [some (.frl (ns.map D.int)), some (.int t), some (.int own), some (.int z), o] ∧ st' = st) ⟨_, none, rfl, rfl⟩ ?_ ?_
    · rintro done d rest env st' e ⟨z, o, rfl, rfl⟩
      obtain ⟨i, rfl⟩ := cut_ints d (by rw [e]; simp)
      simp only [eg_nm, List.set, es_set, ev_s2, ev_app, ev_cons, ev_nil, ev_con, ev_var, lookS, look0, ne_eq, reduceCtorEq, not_false_eq_true, true_and, ev_mulI, ev_int, ev_modI, ev_addI]
      refine ⟨by rw [small64_of (i := 48271) (by omega) (by omega), Bool.or_true], by omega, by omega, _, _, rfl, trivial⟩
    · rintro env st' ⟨z, o, rfl, rfl⟩
      simp only [es_ret, ev_lstM, ev_cons, ev_nil, ev_s2, ev_app, ev_con, ev_ite, ev_or, ev_var, lookS, look0, ne_eq, reduceCtorEq, not_false_eq_true, true_and, ev_mulI, ev_int, ev_modI, ev_addI, ev_ltI, onB_bl, decide_eq_true_eq, ev_abs]
      have hz := Int.emod_nonneg (z + own * 1033) (show (2147482937 : Int) ≠ 0 by omega)
      refine ⟨by rw [small64_of (i := 1033) (by omega) (by omega), Bool.or_true], by omega, ?_⟩
      by_cases ho : own < 0
      · rw [if_pos ho, if_pos trivial]
        exact ⟨Nat.le_of_ble_eq_true rfl, k _ ⟨_, _, _, rfl, hz, by rw [if_pos ho]; omega⟩⟩
      · rw [if_neg ho]
        refine ev_powI.mpr ⟨by decide, ?_⟩
        rw [ev_geI, onB_bl]
        split
        · exact ⟨Nat.le_of_ble_eq_true rfl, k _ ⟨_, _, _, rfl, hz, by first | omega | (rw [if_neg ho]; omega)⟩⟩
        · exact ⟨Nat.le_of_ble_eq_true rfl, k _ ⟨_, _, _, rfl, hz, by omega⟩⟩
  have s1 : (small64 5003 || small64 t) = true := by rw [small64_of (i := 5003) (by omega) (by omega), Bool.true_or]
  have s2 : (small64 70001 || small64 t) = true := by rw [small64_of (i := 70001) (by omega) (by omega), Bool.true_or]
  split
  · rename_i ht
    obtain ⟨d, e, hd, _⟩ := atI_in (xs := ns.map D.int) h1 (by rw [List.length_map]; exact ht)
    obtain ⟨own, _, rfl⟩ := List.mem_map.mp hd
    refine ev_ixF.mpr ⟨_, e, ?_⟩
    rw [ev_int, ev_mulI]
    refine ⟨s1, ?_⟩
    have z := main own
    rw [es_cons] at z
    rw [ev_addI]
    exact z
  · rw [ev_mulI]
    refine ⟨s2, ?_⟩
    rw [ev_addI, ev_mulI]
    refine ⟨s1, ?_⟩
    have z := main (70001 * t + 89)
    rw [es_cons] at z
    rw [ev_addI]
    exact z
theorem q_is_whole {v : Int} : m_is_whole [.int v] st = .ok (.bl true) st := rfl
theorem q_is_between {v a b : Int} : m_is_between [.int v, .int a, .int b] st = .ok (.bl (decide (a ≤ v) && decide (v ≤ b))) st := by
  show outF (sOut (bnd (m_is_whole [.int v]) _ st) _ _) = _
  rw [bnd_ok q_is_whole]
  by_cases h : a ≤ v
  · simp [sChain, bnd, sVar, opLe, Sv.ret, sOut, outF, h]
  · simp [sChain, bnd, sVar, opLe, Sv.ret, sOut, outF, h]
theorem ev_eqn {α : Type} {o : Out α} {a : α} {st2 : Store} {Q : α → Store → Prop} (h : o = .ok a st2) : Ev o Q X ↔ Q a st2 := ev_eqn' h
theorem v_between {v a b : Int} : Ev (m_is_between [.int v, .int a, .int b] st) P X ↔ P (.bl (decide (a ≤ v) && decide (v ≤ b))) st := ev_eqn q_is_between
theorem v_sorts {v : Int} : Ev (m_is_sorts [.int v] st) P X ↔ P (.bl (decide (2 ≤ v) && decide (v ≤ 4))) st := by
  refine (ev_fn (ds := [_]) rfl).trans ?_
  unfold b_is_sorts
  simp only [List.map_cons, List.map_nil, List.length_cons, List.length_nil, Nat.zero_add, Nat.reduceAdd, Nat.reduceSub, List.replicate, List.cons_append, List.nil_append, es_ret, ev_call, ev_cons, ev_nil, ev_con, ev_var, look0, lookS, ne_eq, reduceCtorEq, not_false_eq_true, true_and, List.append_nil, v_between]
theorem v_wide {v : Int} : Ev (m_is_wide [.int v] st) P X ↔ P (.bl (decide (1 ≤ v) && decide (v ≤ 6))) st := by
  refine (ev_fn (ds := [_]) rfl).trans ?_
  unfold b_is_wide
  simp only [List.map_cons, List.map_nil, List.length_cons, List.length_nil, Nat.zero_add, Nat.reduceAdd, Nat.reduceSub, List.replicate, List.cons_append, List.nil_append, es_ret, ev_call, ev_cons, ev_nil, ev_con, ev_var, look0, lookS, ne_eq, reduceCtorEq, not_false_eq_true, true_and, List.append_nil, v_between]
theorem v_misread {v : Int} : Ev (m_is_misread [.int v] st) P X ↔ P (.bl (decide (0 ≤ v) && decide (v ≤ 3))) st := by
  refine (ev_fn (ds := [_]) rfl).trans ?_
  unfold b_is_misread
  simp only [List.map_cons, List.map_nil, List.length_cons, List.length_nil, Nat.zero_add, Nat.reduceAdd, Nat.reduceSub, List.replicate, List.cons_append, List.nil_append, es_ret, ev_call, ev_cons, ev_nil, ev_con, ev_var, look0, lookS, ne_eq, reduceCtorEq, not_false_eq_true, true_and, List.append_nil, v_between]
theorem q_mark {s v : Int} : m_is_mark [.int s, .int v] st = .ok (.bl (decide (0 ≤ v) && decide (v ≤ s - 1))) st := by
  have h : Ev (m_is_mark [.int s, .int v] st) (fun a s2 => Out.ok a s2 = Out.ok (.bl (decide (0 ≤ v) && decide (v ≤ s - 1))) st) (fun _ _ => False) := by
    refine (ev_fn (ds := [_, _]) rfl).mpr ?_
    unfold b_is_mark
    simp only [List.map_cons, List.map_nil, List.length_cons, List.length_nil, Nat.zero_add, Nat.reduceAdd, Nat.reduceSub, List.replicate, List.cons_append, List.nil_append, es_ret, ev_call, ev_cons, ev_nil, ev_con, ev_var, look0, lookS, ne_eq, reduceCtorEq, not_false_eq_true, true_and, List.append_nil, v_between, ev_s2, ev_subI]
  obtain ⟨a, s2, e, h⟩ := h.get
  rw [e, h]
theorem mem_enum : ∀ (ds : List D) (k : Nat), ∀ d ∈ enumD k ds, ∃ (i : Nat) (x : D), d = .tup [.int i, x] ∧ x ∈ ds
  | [], _, d, h => by simp [enumD] at h
  | a :: ds, k, d, h => by
    rcases List.mem_cons.mp (show d ∈ D.tup [.int (k : Nat), a] :: enumD (k + 1) ds from h) with e | e
    · exact ⟨k, a, e, List.mem_cons_self⟩
    · obtain ⟨i, x, h1, h2⟩ := mem_enum ds (k + 1) d e
      exact ⟨i, x, h1, List.mem_cons_of_mem _ h2⟩
theorem v_wrong {sorts : Int} {ms : List Int} (hm : Marks sorts ms) (k : P .non st) : Ev (m_wrong_mark [.int sorts, .tup (ms.map D.int)] st) P X := by
  refine (ev_fn (ds := [_, _]) rfl).mpr ?_
  unfold b_wrong_mark
  simp! []
  refine (ev_fnH (ds := [_]) rfl).mpr ?_
  unfold h_first_wrong
  simp! []
  refine es_loop (fun done env st' => ∃ o1 o2, env = [some (.tup (ms.map D.int)), some .fnv, o1, o2] ∧ st' = st) ⟨none, none, rfl, rfl⟩ ?_ ?_
  · rintro done d rest env st' e ⟨o1, o2, rfl, rfl⟩
    obtain ⟨i, x, rfl, hx⟩ := mem_enum _ 0 d (by rw [e]; simp)
    obtain ⟨m, hmm, rfl⟩ := List.mem_map.mp hx
    simp! []
    refine ev_cv.mpr ⟨rfl, ?_⟩
    simp! []
    refine (ev_lam (as := [_, _]) rfl).mpr ?_
    simp! [strip, unF, ev_eqn' q_mark]
    rw [decide_eq_true (hm m hmm).1, decide_eq_true (show m ≤ sorts - 1 by have := (hm m hmm).2; omega)]
    exact trivial
  · rintro env st' ⟨o1, o2, rfl, rfl⟩
    exact k
theorem v_check_sorts {v : Int} (h1 : 2 ≤ v) (h2 : v ≤ 4) (k : P .non st) : Ev (m_check_sorts [.int v] st) P X := by
  refine (ev_fn (ds := [_]) rfl).mpr ?_
  unfold b_check_sorts
  simp only [List.map_cons, List.map_nil, List.length_cons, List.length_nil, Nat.zero_add, Nat.reduceAdd, Nat.reduceSub, List.replicate, List.cons_append, List.nil_append, es_cons, es_nil, es_ret, es_expr, es_if, es_set, ev_call, ev_cons, ev_nil, ev_con, ev_var, look0, lookS, ne_eq, reduceCtorEq, not_false_eq_true, true_and, List.append_nil, ev_not, onB_bl, v_sorts]
  rw [decide_eq_true h1, decide_eq_true h2]
  exact k
theorem v_check_wide {v : Int} (h1 : 1 ≤ v) (h2 : v ≤ 6) (k : P .non st) : Ev (m_check_wide [.int v] st) P X := by
  refine (ev_fn (ds := [_]) rfl).mpr ?_
  unfold b_check_wide
  simp only [List.map_cons, List.map_nil, List.length_cons, List.length_nil, Nat.zero_add, Nat.reduceAdd, Nat.reduceSub, List.replicate, List.cons_append, List.nil_append, es_cons, es_nil, es_ret, es_expr, es_if, es_set, ev_call, ev_cons, ev_nil, ev_con, ev_var, look0, lookS, ne_eq, reduceCtorEq, not_false_eq_true, true_and, List.append_nil, ev_not, onB_bl, v_wide]
  rw [decide_eq_true h1, decide_eq_true h2]
  exact k
theorem v_check_misread {v : Int} (h1 : 0 ≤ v) (h2 : v ≤ 3) (k : P .non st) : Ev (m_check_misread [.int v] st) P X := by
  refine (ev_fn (ds := [_]) rfl).mpr ?_
  unfold b_check_misread
  simp only [List.map_cons, List.map_nil, List.length_cons, List.length_nil, Nat.zero_add, Nat.reduceAdd, Nat.reduceSub, List.replicate, List.cons_append, List.nil_append, es_cons, es_nil, es_ret, es_expr, es_if, es_set, ev_call, ev_cons, ev_nil, ev_con, ev_var, look0, lookS, ne_eq, reduceCtorEq, not_false_eq_true, true_and, List.append_nil, ev_not, onB_bl, v_misread]
  rw [decide_eq_true h1, decide_eq_true h2]
  exact k
theorem v_check_steps {a b : Int} (h1 : 0 ≤ a) (h2 : a ≤ b) (h3 : b ≤ 5) (k : P .non st) : Ev (m_check_steps [.int a, .int b] st) P X := by
  refine (ev_fn (ds := [_, _]) rfl).mpr ?_
  unfold b_check_steps
  simp only [List.map_cons, List.map_nil, List.length_cons, List.length_nil, Nat.zero_add, Nat.reduceAdd, Nat.reduceSub, List.replicate, List.cons_append, List.nil_append, es_cons, es_nil, es_ret, es_expr, es_if, es_set, ev_call, ev_cons, ev_nil, ev_con, ev_var, look0, lookS, ne_eq, reduceCtorEq, not_false_eq_true, true_and, List.append_nil, ev_not, onB_bl, v_between]
  rw [decide_eq_true h1, decide_eq_true (show a ≤ 5 by omega), decide_eq_true h2, decide_eq_true h3]
  exact k
theorem v_row {ds : List D} {a b : Int} : Ev (m_is_row [.tup ds, .int a, .int b] st) P X ↔ P (.bl (decide (a ≤ ds.length) && decide ((ds.length : Int) ≤ b))) st := by
  refine (ev_fn (ds := [_, _, _]) rfl).trans ?_
  unfold b_is_row
  have e1 : ∀ s2 : Store, isiD (ansB "tuple") (.tup ds) s2 = .ok (.bl true) s2 := fun _ => rfl
  rw [es_ret, ev_and, ev_s1]
  simp only [if_true, ev_eqn (e1 _), List.map_cons, List.map_nil, List.length_cons, List.length_nil, Nat.zero_add, Nat.reduceAdd, Nat.reduceSub, List.replicate, List.cons_append, List.nil_append, es_cons, es_nil, es_ret, es_expr, es_if, es_set, ev_call, ev_cons, ev_nil, ev_con, ev_var, look0, lookS, ne_eq, reduceCtorEq, not_false_eq_true, true_and, List.append_nil, ev_not, onB_bl, ev_chain, ev_app, ev_len_t, ev_leI]
  by_cases h : a ≤ ds.length
  · simp [h]
  · simp [h]
theorem v_check_ring {sorts : Int} {ms : List Int} (hm : Marks sorts ms) (h1 : 1 ≤ ms.length) (h2 : ms.length ≤ 32) (k : P .non st) : Ev (m_check_ring [.int sorts, .tup (ms.map D.int)] st) P X := by
  refine (ev_fn (ds := [_, _]) rfl).mpr ?_
  unfold b_check_ring
  simp only [List.map_cons, List.map_nil, List.length_cons, List.length_nil, Nat.zero_add, Nat.reduceAdd, Nat.reduceSub, List.replicate, List.cons_append, List.nil_append, es_cons, es_nil, es_ret, es_expr, es_if, es_set, ev_call, ev_cons, ev_nil, ev_con, ev_var, look0, lookS, ne_eq, reduceCtorEq, not_false_eq_true, true_and, List.append_nil, ev_not, onB_bl]
  refine (ev_fn (ds := [_, _, _, _]) rfl).mpr ?_
  unfold b_check_marks
  have e : (decide ((1 : Int) ≤ ((ms.map D.int).length : Nat)) && decide ((((ms.map D.int).length : Nat) : Int) ≤ 32)) = true := by
    rw [List.length_map, decide_eq_true (by omega), decide_eq_true (by omega)]
    rfl
  simp only [List.map_cons, List.map_nil, List.length_cons, List.length_nil, Nat.zero_add, Nat.reduceAdd, Nat.reduceSub, List.replicate, List.cons_append, List.nil_append, es_cons, es_nil, es_ret, es_expr, es_if, es_set, ev_call, ev_cons, ev_nil, ev_con, ev_var, look0, lookS, ne_eq, reduceCtorEq, not_false_eq_true, true_and, List.append_nil, ev_not, onB_bl, ev_ite, v_row, e, if_true]
  refine v_wrong hm ?_
  simp only [List.map_cons, List.map_nil, List.length_cons, List.length_nil, Nat.zero_add, Nat.reduceAdd, Nat.reduceSub, List.replicate, List.cons_append, List.nil_append, es_cons, es_nil, es_ret, es_expr, es_if, es_set, ev_call, ev_cons, ev_nil, ev_con, ev_var, look0, lookS, ne_eq, reduceCtorEq, not_false_eq_true, true_and, List.append_nil, ev_not, onB_bl, List.set, ev_or, v_row, e, if_true, Bool.not_true, Bool.false_eq_true, if_false, ev_s2, ev_notN]
  exact k
theorem v_check_read {sorts wide : Int} {ms : List Int} (hm : Marks sorts ms) (h1 : 1 ≤ ms.length) (h2 : ms.length ≤ 32) (s1 : 2 ≤ sorts) (s2 : sorts ≤ 4) (w1 : 1 ≤ wide) (w2 : wide ≤ 6) (k : P .non st) : Ev (m_check_read [.int sorts, .tup (ms.map D.int), .int wide] st) P X := by
  refine (ev_fn (ds := [_, _, _]) rfl).mpr ?_
  unfold b_check_read
  simp only [List.map_cons, List.map_nil, List.length_cons, List.length_nil, Nat.zero_add, Nat.reduceAdd, Nat.reduceSub, List.replicate, List.cons_append, List.nil_append, es_cons, es_nil, es_ret, es_expr, es_if, es_set, ev_call, ev_cons, ev_nil, ev_con, ev_var, look0, lookS, ne_eq, reduceCtorEq, not_false_eq_true, true_and, List.append_nil, ev_not, onB_bl]
  refine (ev_fn (ds := [_, _]) rfl).mpr ?_
  unfold b_check_sorted_ring
  simp only [List.map_cons, List.map_nil, List.length_cons, List.length_nil, Nat.zero_add, Nat.reduceAdd, Nat.reduceSub, List.replicate, List.cons_append, List.nil_append, es_cons, es_nil, es_ret, es_expr, es_if, es_set, ev_call, ev_cons, ev_nil, ev_con, ev_var, look0, lookS, ne_eq, reduceCtorEq, not_false_eq_true, true_and, List.append_nil, ev_not, onB_bl]
  refine v_check_sorts s1 s2 ?_
  refine v_check_ring hm h1 h2 ?_
  exact v_check_wide w1 w2 k
/-- a follower's fields -/
def flw (sorts : Int) (ring : List Int) (wide least most misread : Int) (places deeds past : D) : Ob :=
  .ins "Follower" [("sorts", .int sorts), ("ring", .tup (ring.map D.int)), ("wide", .int wide), ("least", .int least), ("most", .int most), ("misread", .int misread), ("places", places), ("deeds", deeds), ("past", past)]
end
end k78
namespace k78
open PySem Sv
open L2 (atI ixN)
local macro_rules | `(tactic| simp! [$xs,*]) => `(tactic| try simp only [List.map_cons, List.map_nil, List.length_cons, List.length_nil, Nat.zero_add, Nat.reduceAdd, Nat.reduceSub, List.replicate, List.cons_append, List.nil_append, List.append_nil, List.set_cons_zero, List.set_cons_succ, List.zip_cons_cons, List.zip_nil_right, List.foldl_cons, List.foldl_nil, wipeE,
  es_cons, es_nil, es_ret, es_expr, es_if, es_set, es_par, es_asg, es_fd, es_forE, es_raise, es_retN, es_break, es_cont, es_bad, es_pass, es_try, ev_call, ev_cons, ev_nil, ev_con, ev_var, look0, lookS, ev_s1, ev_s2, ev_app, ev_and, ev_or, ev_not, ev_ite, ev_chain, ev_tup, ev_lst, ev_lstM, ev_comp, ev_compM, ev_dict, ev_dict2, ev_cYes, ev_cOne, ev_r1, ev_r2, ev_it, ev_il, ev_iK, ev_iS, ev_sl, ev_oNone, ev_oSome, ev_en, ev_z, ev_fdg, ev_mth, ev_mk, ev_dict0, ev_star, es_append, ev_ho,
  eg_tp, eg_gcons, eg_nm, eg_gnil, eg_sb, onB_bl, ev_addI, ev_subI, ev_modI, ev_divI, ev_ltI, ev_leI, ev_gtI, ev_geI, ev_int, ev_len_t, ev_len_l, ev_len_f, ev_tuple_t, ev_tuple_l, ev_list_t, ev_list_l, ev_isN, ev_notN, ev_sorted_l, ev_max, ev_min, ev_abs, ev_inK, ev_ixK, ev_slT, ev_slL, isNon, isi_int_non, isi_int_bl, isi_int_int, isi_int_str, isi_int_tup, isi_int_lst, isi_int_frl, isi_int_dct, isi_bool_non, isi_bool_bl, isi_bool_int, isi_bool_str, isi_bool_tup, isi_bool_lst, isi_bool_frl, isi_bool_dct, isi_str_non, isi_str_bl, isi_str_int, isi_str_str, isi_str_tup, isi_str_lst, isi_str_frl, isi_str_dct, isi_tuple_non, isi_tuple_bl, isi_tuple_int, isi_tuple_str, isi_tuple_tup, isi_tuple_lst, isi_tuple_frl, isi_tuple_dct, isi_list_non, isi_list_bl, isi_list_int, isi_list_str, isi_list_tup, isi_list_lst, isi_list_frl, isi_list_dct, isi_dict_non, isi_dict_bl, isi_dict_int, isi_dict_str, isi_dict_tup, isi_dict_lst, isi_dict_frl, isi_dict_dct,
  List.cons.injEq, D.int.injEq, D.tup.injEq, D.lst.injEq, D.str.injEq, D.bl.injEq, D.ref.injEq, exists_eq_left', exists_eq, false_and, and_false, exists_false, or_false, false_or, exists_const, and_self, and_assoc, exists_and_left, Nat.zero_le, Nat.reduceLeDiff,
  ne_eq, reduceCtorEq, not_false_eq_true, true_and, and_true, decide_eq_true_eq, Bool.false_eq_true, if_false, if_true, Bool.not_true, Bool.not_false, List.length_map, $xs,*])
section
variable {P : D → Store → Prop} {X : Ex → Store → Prop} {st : Store} {env : Sv.Env}
section
variable {n : Nat} {sorts wide least most misread : Int} {ring : List Int} {places deeds past : D} {Q : D → Prop}
theorem g_sorts (h : st[n]? = some (flw sorts ring wide least most misread places deeds past)) : FdG "Follower" "sorts" (.ref n) st Q ↔ Q (.int sorts) := fdg_at h rfl Q
theorem g_ring (h : st[n]? = some (flw sorts ring wide least most misread places deeds past)) : FdG "Follower" "ring" (.ref n) st Q ↔ Q (.tup (ring.map D.int)) := fdg_at h rfl Q
theorem g_wide (h : st[n]? = some (flw sorts ring wide least most misread places deeds past)) : FdG "Follower" "wide" (.ref n) st Q ↔ Q (.int wide) := fdg_at h rfl Q
theorem g_least (h : st[n]? = some (flw sorts ring wide least most misread places deeds past)) : FdG "Follower" "least" (.ref n) st Q ↔ Q (.int least) := fdg_at h rfl Q
theorem g_most (h : st[n]? = some (flw sorts ring wide least most misread places deeds past)) : FdG "Follower" "most" (.ref n) st Q ↔ Q (.int most) := fdg_at h rfl Q
theorem g_misread (h : st[n]? = some (flw sorts ring wide least most misread places deeds past)) : FdG "Follower" "misread" (.ref n) st Q ↔ Q (.int misread) := fdg_at h rfl Q
theorem g_places (h : st[n]? = some (flw sorts ring wide least most misread places deeds past)) : FdG "Follower" "places" (.ref n) st Q ↔ Q places := fdg_at h rfl Q
theorem g_deeds (h : st[n]? = some (flw sorts ring wide least most misread places deeds past)) : FdG "Follower" "deeds" (.ref n) st Q ↔ Q deeds := fdg_at h rfl Q
theorem g_past (h : st[n]? = some (flw sorts ring wide least most misread places deeds past)) : FdG "Follower" "past" (.ref n) st Q ↔ Q past := fdg_at h rfl Q
end
theorem v_init {n : Nat} {sorts wide least most misread : Int} {ring : List Int} (q : Parts sorts ring wide least most misread) (h : st[n]? = some (.ins "Follower" []))
    (k : P .non ((st ++ [Ob.lst []]).set n (flw sorts ring wide least most misread (.tup (rgD 0 ring.length)) (.tup []) (.ref st.length)))) : Ev (m_Follower___init__ [.ref n, .int sorts, .tup (ring.map D.int), .int wide, .int least, .int most, .int misread] st) P X := by
  have hn := (List.getElem?_eq_some_iff.mp h).1
  have get : ∀ o : Ob, (st.set n o)[n]? = some o := fun o => List.getElem?_set_self hn
  refine (ev_fn (ds := [_, _, _, _, _, _, _]) rfl).mpr ?_
  unfold b_Follower___init__
  simp! []
  refine v_check_read q.m q.r1 (by have := q.r2; omega) q.s1 (by have := q.s2; omega) q.w1 (by have := q.w2; omega) ?_
  refine v_check_steps q.l1 q.o1 (by have := q.l2; have := q.o2; omega) ?_
  refine v_check_misread q.i1 (by have := q.i2; omega) ?_
  refine fd_at h (Nat.le_of_ble_eq_true rfl) ?_
  refine fd_at (get _) (Nat.le_of_ble_eq_true rfl) ?_
  refine fd_at (by rw [List.set_set]; exact get _) (Nat.le_of_ble_eq_true rfl) ?_
  refine fd_at (by rw [List.set_set, List.set_set]; exact get _) (Nat.le_of_ble_eq_true rfl) ?_
  refine fd_at (by simp only [List.set_set]; exact get _) (Nat.le_of_ble_eq_true rfl) ?_
  refine fd_at (by simp only [List.set_set]; exact get _) (Nat.le_of_ble_eq_true rfl) ?_
  refine ev_tupRg.mpr ⟨⟨by omega, by have := q.r2; omega⟩, ?_⟩
  refine fd_at (by simp only [List.set_set]; exact get _) (Nat.le_of_ble_eq_true rfl) ?_
  refine fd_at (by simp only [List.set_set]; exact get _) (Nat.le_of_ble_eq_true rfl) ?_
  refine fd_at (by rw [List.getElem?_append_left (by simpa using hn)]; simp only [List.set_set]; exact get _) (Nat.le_of_ble_eq_true rfl) ?_
  simp only [List.length_set, List.set_set]
  rw [List.set_append_left _ _ (by simpa using hn)] at *
  simp only [List.set_set]
  exact k
end
end k78
namespace k78
open PySem Sv
open L2 (atI ixN)
local macro_rules | `(tactic| simp! [$xs,*]) => `(tactic| try simp only [List.map_cons, List.map_nil, List.length_cons, List.length_nil, Nat.zero_add, Nat.reduceAdd, Nat.reduceSub, List.replicate, List.cons_append, List.nil_append, List.append_nil, List.set_cons_zero, List.set_cons_succ, List.zip_cons_cons, List.zip_nil_right, List.foldl_cons, List.foldl_nil, wipeE,
  es_cons, es_nil, es_ret, es_expr, es_if, es_set, es_par, es_asg, es_fd, es_forE, es_raise, es_retN, es_break, es_cont, es_bad, es_pass, es_try, ev_call, ev_cons, ev_nil, ev_con, ev_var, look0, lookS, ev_s1, ev_s2, ev_app, ev_and, ev_or, ev_not, ev_ite, ev_chain, ev_tup, ev_lst, ev_lstM, ev_comp, ev_compM, ev_dict, ev_dict2, ev_cYes, ev_cOne, ev_r1, ev_r2, ev_it, ev_il, ev_iK, ev_iS, ev_sl, ev_oNone, ev_oSome, ev_en, ev_z, ev_fdg, ev_mth, ev_mk, ev_dict0, ev_star, es_append, ev_ho,
  eg_tp, eg_gcons, eg_nm, eg_gnil, eg_sb, onB_bl, ev_addI, ev_subI, ev_modI, ev_divI, ev_ltI, ev_leI, ev_gtI, ev_geI, ev_int, ev_len_t, ev_len_l, ev_len_f, ev_tuple_t, ev_tuple_l, ev_list_t, ev_list_l, ev_isN, ev_notN, ev_sorted_l, ev_max, ev_min, ev_abs, ev_inK, ev_ixK, ev_slT, ev_slL, isNon, isi_int_non, isi_int_bl, isi_int_int, isi_int_str, isi_int_tup, isi_int_lst, isi_int_frl, isi_int_dct, isi_bool_non, isi_bool_bl, isi_bool_int, isi_bool_str, isi_bool_tup, isi_bool_lst, isi_bool_frl, isi_bool_dct, isi_str_non, isi_str_bl, isi_str_int, isi_str_str, isi_str_tup, isi_str_lst, isi_str_frl, isi_str_dct, isi_tuple_non, isi_tuple_bl, isi_tuple_int, isi_tuple_str, isi_tuple_tup, isi_tuple_lst, isi_tuple_frl, isi_tuple_dct, isi_list_non, isi_list_bl, isi_list_int, isi_list_str, isi_list_tup, isi_list_lst, isi_list_frl, isi_list_dct, isi_dict_non, isi_dict_bl, isi_dict_int, isi_dict_str, isi_dict_tup, isi_dict_lst, isi_dict_frl, isi_dict_dct,
  List.cons.injEq, D.int.injEq, D.tup.injEq, D.lst.injEq, D.str.injEq, D.bl.injEq, D.ref.injEq, exists_eq_left', exists_eq, false_and, and_false, exists_false, or_false, false_or, exists_const, and_self, and_assoc, exists_and_left, Nat.zero_le, Nat.reduceLeDiff,
  ne_eq, reduceCtorEq, not_false_eq_true, true_and, and_true, decide_eq_true_eq, Bool.false_eq_true, if_false, if_true, Bool.not_true, Bool.not_false, List.length_map, $xs,*])
/-! ### windows, how far apart -/
def winI (ring : List Int) (at_ : Int) (w : Nat) : List Int := (List.range w).map fun k : Nat => ring.getD ((at_ + (k : Int)) % (ring.length : Int)).toNat 0
def apI (a b : List Int) : Nat := ((a.zip b).filter fun p => decide (p.1 ≠ p.2)).length
theorem winI_len {ring : List Int} {at_ : Int} {w : Nat} : (winI ring at_ w).length = w := by simp [winI]
theorem getD_mem {ring : List Int} {i : Nat} (h : i < ring.length) : ring.getD i 0 ∈ ring := by
  rw [List.getD_eq_getElem?_getD, List.getElem?_eq_getElem h]
  exact List.getElem_mem h
theorem win_ix {ring : List Int} (h : 1 ≤ ring.length) (i : Int) : (i % (ring.length : Int)).toNat < ring.length := by
  have h1 := Int.emod_nonneg i (show (ring.length : Int) ≠ 0 by omega)
  have h2 := Int.emod_lt_of_pos i (show (0 : Int) < ring.length by omega)
  omega
theorem winI_marks {sorts : Int} {ring : List Int} {at_ : Int} {w : Nat} (hm : Marks sorts ring) (h : 1 ≤ ring.length) : Marks sorts (winI ring at_ w) := by
  intro m hmm
  obtain ⟨k, _, rfl⟩ := List.mem_map.mp hmm
  exact hm _ (getD_mem (win_ix h _))
theorem at_mod {ring : List Int} (h : 1 ≤ ring.length) (i : Int) : atI (ring.map D.int) (i % (ring.length : Int)) = some (.int (ring.getD (i % (ring.length : Int)).toNat 0)) := by
  have h1 := Int.emod_nonneg i (show (ring.length : Int) ≠ 0 by omega)
  have h2 := Int.emod_lt_of_pos i (show (0 : Int) < ring.length by omega)
  obtain ⟨d, e, _, e2⟩ := atI_in (xs := ring.map D.int) h1 (by rw [List.length_map]; exact h2)
  rw [e, ← e2, List.getElem?_map, List.getD_eq_getElem?_getD, List.getElem?_eq_getElem (win_ix h i)]
  rfl
section
variable {P : D → Store → Prop} {X : Ex → Store → Prop} {st : Store} {env : Sv.Env}
theorem q__law_window {ring : List Int} {at_ wide : Int} (h : 1 ≤ ring.length) (h1 : 0 ≤ wide) (h2 : wide ≤ 1000) : m__law_window [.tup (ring.map D.int), .int at_, .int wide] st = .ok (.tup ((winI ring at_ wide.toNat).map D.int)) st := by
  refine eq_of_ev ?_
  refine (ev_fn (ds := [_, _, _]) rfl).mpr ?_
  unfold b__law_window
  simp! []
  refine ⟨r62_of (by omega) (by omega), ?_⟩
  unfold rangeD
  rw [ev_eqn' (compA1 (List.range wide.toNat) _ (fun k : Nat => D.int (ring.getD ((at_ + (k : Int)) % (ring.length : Int)).toNat 0)) (fun k : Nat => [some (.tup (ring.map D.int)), some (.int at_), some (.int wide), some (.int (0 + (k : Int)))]) fun k hk => ⟨rfl, eq_of_ev ?_⟩)]
  · refine ⟨by simp only [List.length_map, List.length_range]; omega, ?_⟩
    simp! [winI, List.map_map]
    rfl
  · simp! [ev_ixT, Int.zero_add]
    exact ⟨by omega, _, at_mod h _, rfl⟩
theorem q_window_at {ring : List Int} {at_ wide : Int} (h : 1 ≤ ring.length) (h1 : 0 ≤ wide) (h2 : wide ≤ 1000) : m_window_at [.tup (ring.map D.int), .int at_, .int wide] st = .ok (.tup ((winI ring at_ wide.toNat).map D.int)) st := by
  refine eq_of_ev ?_
  refine (ev_fn (ds := [_, _, _]) rfl).mpr ?_
  unfold b_window_at
  simp! []
  refine ⟨r62_of (by omega) (by omega), ?_⟩
  unfold rangeD
  rw [ev_eqn' (compA1 (List.range wide.toNat) _ (fun k : Nat => D.int (ring.getD ((at_ + (k : Int)) % (ring.length : Int)).toNat 0)) (fun k : Nat => [some (.tup (ring.map D.int)), some (.int at_), some (.int wide), some (.int (0 + (k : Int)))]) fun k hk => ⟨rfl, eq_of_ev ?_⟩)]
  · refine ⟨by simp only [List.length_map, List.length_range]; omega, ?_⟩
    simp! [winI, List.map_map]
    rfl
  · simp! [ev_ixT, Int.zero_add]
    exact ⟨by omega, _, at_mod h _, rfl⟩
theorem zip_as_range : ∀ (a b : List Int), a.length = b.length → ((List.range a.length).filter fun k => decide (a.getD k 0 ≠ b.getD k 0)).length = apI a b := by
  intro a b e
  have key : ∀ (a b : List Int), a.length = b.length → a.zip b = (List.range a.length).map fun k => (a.getD k 0, b.getD k 0) := by
    intro a b e
    refine List.ext_getElem? fun i => ?_
    rw [List.getElem?_map]
    by_cases hi : i < a.length
    · rw [List.getElem?_range hi, List.getElem?_zip_eq_some (z := (a[i], b[i]'(by omega))).mpr ⟨List.getElem?_eq_getElem hi, List.getElem?_eq_getElem (by omega)⟩]
      simp [List.getElem?_eq_getElem hi, List.getElem?_eq_getElem (show i < b.length by omega)]
    · have h1 : (a.zip b)[i]? = none := by
        rw [List.getElem?_eq_none]
        rw [List.length_zip]; omega
      have h2 : (List.range a.length)[i]? = none := by
        rw [List.getElem?_eq_none]
        rw [List.length_range]; omega
      rw [h1, h2]; rfl
  unfold apI
  rw [key a b e, List.filter_map, List.length_map]
  rfl
theorem q_apart_of {a b : List Int} (hl : a.length ≤ 1000) : m_apart_of [.tup (a.map D.int), .tup (b.map D.int)] st = .ok (.int (apI a b : Nat)) st := by
  refine eq_of_ev ?_
  refine (ev_fn (ds := [_, _]) rfl).mpr ?_
  unfold b_apart_of
  simp! []
  have ez : zipD (a.map D.int) (b.map D.int) = (a.zip b).map fun p => D.tup [.int p.1, .int p.2] := by
    unfold zipD
    rw [List.zipWith_map, ← List.map_uncurry_zip_eq_zipWith]
    rfl
  rw [ez]
  rw [ev_eqn' (compA (a.zip b) _ (fun _ => D.int 1) (fun p => decide (p.1 ≠ p.2)) (fun p => [some (.tup (a.map D.int)), some (.tup (b.map D.int)), some (.int p.1), some (.int p.2)]) fun p hp => ⟨rfl, eq_of_ev ?_, fun _ => rfl⟩)]
  · have := List.length_filter_le (fun p : Int × Int => decide (p.1 ≠ p.2)) (a.zip b)
    rw [List.length_zip] at this
    refine ⟨by rw [List.length_map]; omega, ?_⟩
    simp! []
    rfl
  · simp! []
    rw [ev_ne]
    simp! [flat_int, eqD_int]
    simp
end
end k78
namespace k78
open PySem Sv
open L2 (atI ixN)
local macro_rules | `(tactic| simp! [$xs,*]) => `(tactic| try simp only [List.map_cons, List.map_nil, List.length_cons, List.length_nil, Nat.zero_add, Nat.reduceAdd, Nat.reduceSub, List.replicate, List.cons_append, List.nil_append, List.append_nil, List.set_cons_zero, List.set_cons_succ, List.zip_cons_cons, List.zip_nil_right, List.foldl_cons, List.foldl_nil, wipeE,
  es_cons, es_nil, es_ret, es_expr, es_if, es_set, es_par, es_asg, es_fd, es_forE, es_raise, es_retN, es_break, es_cont, es_bad, es_pass, es_try, ev_call, ev_cons, ev_nil, ev_con, ev_var, look0, lookS, ev_s1, ev_s2, ev_app, ev_and, ev_or, ev_not, ev_ite, ev_chain, ev_tup, ev_lst, ev_lstM, ev_comp, ev_compM, ev_dict, ev_dict2, ev_cYes, ev_cOne, ev_r1, ev_r2, ev_it, ev_il, ev_iK, ev_iS, ev_sl, ev_oNone, ev_oSome, ev_en, ev_z, ev_fdg, ev_mth, ev_mk, ev_dict0, ev_star, es_append, ev_ho,
  eg_tp, eg_gcons, eg_nm, eg_gnil, eg_sb, onB_bl, ev_addI, ev_subI, ev_modI, ev_divI, ev_ltI, ev_leI, ev_gtI, ev_geI, ev_int, ev_len_t, ev_len_l, ev_len_f, ev_tuple_t, ev_tuple_l, ev_list_t, ev_list_l, ev_isN, ev_notN, ev_sorted_l, ev_max, ev_min, ev_abs, ev_inK, ev_ixK, ev_slT, ev_slL, isNon, isi_int_non, isi_int_bl, isi_int_int, isi_int_str, isi_int_tup, isi_int_lst, isi_int_frl, isi_int_dct, isi_bool_non, isi_bool_bl, isi_bool_int, isi_bool_str, isi_bool_tup, isi_bool_lst, isi_bool_frl, isi_bool_dct, isi_str_non, isi_str_bl, isi_str_int, isi_str_str, isi_str_tup, isi_str_lst, isi_str_frl, isi_str_dct, isi_tuple_non, isi_tuple_bl, isi_tuple_int, isi_tuple_str, isi_tuple_tup, isi_tuple_lst, isi_tuple_frl, isi_tuple_dct, isi_list_non, isi_list_bl, isi_list_int, isi_list_str, isi_list_tup, isi_list_lst, isi_list_frl, isi_list_dct, isi_dict_non, isi_dict_bl, isi_dict_int, isi_dict_str, isi_dict_tup, isi_dict_lst, isi_dict_frl, isi_dict_dct,
  List.cons.injEq, D.int.injEq, D.tup.injEq, D.lst.injEq, D.str.injEq, D.bl.injEq, D.ref.injEq, exists_eq_left', exists_eq, false_and, and_false, exists_false, or_false, false_or, exists_const, and_self, and_assoc, exists_and_left, Nat.zero_le, Nat.reduceLeDiff,
  ne_eq, reduceCtorEq, not_false_eq_true, true_and, and_true, decide_eq_true_eq, Bool.false_eq_true, if_false, if_true, Bool.not_true, Bool.not_false, List.length_map, $xs,*])
/-! ### deeds, where they lead -/
inductive Dd where
  | miss
  | look (ms : List Int)
  | still (ms : List Int)
def Dd.d : Dd → D
  | .miss => .tup [.str "miss"]
  | .look ms => .tup [.str "look", .tup (ms.map D.int)]
  | .still ms => .tup [.str "still", .tup (ms.map D.int)]
/-- a deed by itself -/
def Dd.Ok (sorts wide : Int) : Dd → Prop
  | .miss => True
  | .look ms => Marks sorts ms ∧ (ms.length : Int) = wide
  | .still ms => Marks sorts ms ∧ (ms.length : Int) = wide
def stepsI (least most : Int) : List Int := (List.range (most + 1 - least).toNat).map fun s : Nat => least + (s : Int)
def goalsI (n : Nat) (least most : Int) (ps : List Int) : List Int := ps.flatMap fun p => (stepsI least most).map fun s => (p + s) % (n : Int)
def onI (n : Nat) (least most : Int) (ps : List Int) : List Int := sortI (uniq (goalsI n least most ps))
def fitI (ring : List Int) (wide misread : Int) (ms ps : List Int) : List Int := ps.filter fun p => decide ((apI (winI ring p wide.toNat) ms : Int) ≤ misread)
def movedI (ring : List Int) (wide least most misread : Int) (ps : List Int) (first : Bool) : Dd → List Int
  | .miss => if first then ps else onI ring.length least most ps
  | .look ms => fitI ring wide misread ms (if first then ps else onI ring.length least most ps)
  | .still ms => fitI ring wide misread ms ps
def whyI (ring : List Int) (wide least most misread : Int) (ps : List Int) (first : Bool) (d : Dd) : Str := match d, first with
  | .still _, true => "first"
  | d, first => if movedI ring wide least most misread ps first d = [] then ("never" : Str) else ("" : Str)
/-- places of a ring -/
structure Pl (n : Nat) (ps : List Int) : Prop where
  i : ∀ p ∈ ps, 0 ≤ p ∧ p < n
  d : ps.Nodup
theorem Pl.len {n : Nat} {ps : List Int} (h : Pl n ps) : ps.length ≤ n := nodup_len n h.d h.i
theorem goals_in {n : Nat} {least most : Int} {ps : List Int} (h : 1 ≤ n) : ∀ p ∈ goalsI n least most ps, 0 ≤ p ∧ p < n := by
  intro p hp
  obtain ⟨q, _, hq⟩ := List.mem_flatMap.mp hp
  obtain ⟨s, _, rfl⟩ := List.mem_map.mp hq
  exact ⟨Int.emod_nonneg _ (by omega), Int.emod_lt_of_pos _ (by omega)⟩
theorem onI_pl {n : Nat} {least most : Int} {ps : List Int} (h : 1 ≤ n) : Pl n (onI n least most ps) :=
  ⟨fun p hp => goals_in h p (uniq_mem.mp (sortI_mem.mp hp)), sortI_nodup uniq_nodup⟩
theorem uniq_pl {n : Nat} {least most : Int} {ps : List Int} (h : 1 ≤ n) : Pl n (uniq (goalsI n least most ps)) :=
  ⟨fun p hp => goals_in h p (uniq_mem.mp hp), uniq_nodup⟩
theorem fitI_pl {n : Nat} {ring : List Int} {wide misread : Int} {ms ps : List Int} (h : Pl n ps) : Pl n (fitI ring wide misread ms ps) :=
  ⟨fun p hp => h.i p (List.mem_filter.mp hp).1, h.d.filter _⟩
theorem movedI_pl {ring : List Int} {wide least most misread : Int} {ps : List Int} {first : Bool} (hr : 1 ≤ ring.length) (h : Pl ring.length ps) (d : Dd) : Pl ring.length (movedI ring wide least most misread ps first d) := by
  have h2 : Pl ring.length (if first then ps else onI ring.length least most ps) := by
    split
    · exact h
    · exact onI_pl hr
  cases d with
  | miss => exact h2
  | look ms => exact fitI_pl h2
  | still ms => exact fitI_pl h
theorem rgD_pl {n : Nat} : ∃ ps, Pl n ps ∧ rgD 0 n = ps.map D.int ∧ ps.length = n := by
  refine ⟨(List.range n).map fun i : Nat => (i : Int), ⟨?_, ?_⟩, ?_, by simp⟩
  · intro p hp
    obtain ⟨i, hi, rfl⟩ := List.mem_map.mp hp
    have := List.mem_range.mp hi
    omega
  · refine List.Pairwise.map _ (fun a b h => ?_) List.nodup_range
    intro e
    exact h (by omega)
  · unfold rgD
    rw [List.map_map]
    simp
section
variable {P : D → Store → Prop} {X : Ex → Store → Prop} {st : Store} {env : Sv.Env}
theorem steps_as {least most : Int} : rangeD least (most + 1 - least).toNat = (stepsI least most).map D.int := by
  unfold rangeD stepsI
  rw [List.map_map]
  rfl
theorem goals_len {n : Nat} {least most : Int} {ps : List Int} : (goalsI n least most ps).length = ps.length * (stepsI least most).length := by
  unfold goalsI
  induction ps with
  | nil => simp
  | cons p ps ih => rw [List.flatMap_cons, List.length_append, ih, List.length_map, List.length_cons, Nat.succ_mul]; omega
theorem q_steps_on {ring ps : List Int} {least most : Int} (hr : 1 ≤ ring.length) (hr2 : ring.length ≤ 32) (hp : Pl ring.length ps) (h1 : 0 ≤ least) (h3 : least ≤ most) (h2 : most ≤ 100) : m_steps_on [.tup (ring.map D.int), .tup (ps.map D.int), .int least, .int most] st = .ok (.tup ((onI ring.length least most ps).map D.int)) st := by
  refine eq_of_ev ?_
  refine (ev_fn (ds := [_, _, _, _]) rfl).mpr ?_
  unfold b_steps_on
  simp! []
  have hs : (stepsI least most).length ≤ 101 := by simp only [stepsI, List.length_map, List.length_range]; omega
  have hl := hp.len
  have hm : ps.length * (stepsI least most).length ≤ 32 * 101 := Nat.mul_le_mul (by omega) hs
  have e := dictA2 (st := st) (env := [some (.tup (ring.map D.int)), some (.tup (ps.map D.int)), some (.int least), some (.int most), none, none, none]) (b := gNm 5) (fi1 := iR2 (aCons (sVar 2) (aCons (s2 opAdd (sVar 3) (sCon (.int 1))) aNil))) (vs1 := [6]) (b1 := gNm 6)
    (fk := s2 opMod (s2 opAdd (sVar 5) (sVar 6)) (sApp kLen (aCons (sVar 0) aNil))) (fe := sCon (.bl true)) (.bl true) (fun _ => stepsI least most) D.int (fun p s => (p + s) % (ring.length : Int))
    (fun p => [some (.tup (ring.map D.int)), some (.tup (ps.map D.int)), some (.int least), some (.int most), none, some (.int p), none])
    (fun p s => [some (.tup (ring.map D.int)), some (.tup (ps.map D.int)), some (.int least), some (.int most), none, some (.int p), some (.int s)]) ps D.int [] (by
      have := goals_len (n := 1) (least := least) (most := most) (ps := ps)
      have e2 : (ps.flatMap fun _ => stepsI least most).length = ps.length * (stepsI least most).length := by
        clear this hm hl hp
        induction ps with
        | nil => simp
        | cons p ps ih => rw [List.flatMap_cons, List.length_append, ih, List.length_cons, Nat.succ_mul]; omega
      rw [e2]
      simp only [List.length_nil]
      omega) (fun p _ => ⟨rfl, eq_of_ev (by
        simp! []
        exact ⟨r62_of (by omega) (by omega), r62_of (by omega) (by omega), steps_as⟩), fun s _ => ⟨rfl, eq_of_ev (by
        simp! []
        omega), rfl⟩⟩)
  refine (ev_eqn' e).mpr ?_
  have hu : Pl ring.length (uniq (goalsI ring.length least most ps)) := uniq_pl hr
  have := hu.len
  rw [ev_sorted_d]
  simp! []
  refine ⟨by show (uniq (goalsI ring.length least most ps)).length < 64; omega, rfl⟩
theorem q_fitting {ring ps ms : List Int} {misread : Int} (hr : 1 ≤ ring.length) (hp : ps.length ≤ 1000) (hm : ms.length ≤ 100) : m_fitting [.tup (ring.map D.int), .tup (ps.map D.int), .tup (ms.map D.int), .int misread] st = .ok (.tup ((fitI ring ms.length misread ms ps).map D.int)) st := by
  refine eq_of_ev ?_
  refine (ev_fn (ds := [_, _, _, _]) rfl).mpr ?_
  unfold b_fitting
  simp! []
  rw [ev_eqn' (compA ps D.int D.int (fun p => decide ((apI (winI ring p (ms.length : Int).toNat) ms : Int) ≤ misread)) (fun p => [some (.tup (ring.map D.int)), some (.tup (ps.map D.int)), some (.tup (ms.map D.int)), some (.int misread), some (.int ms.length), some (.int p)]) fun p _ => ⟨rfl, eq_of_ev ?_, fun _ => rfl⟩)]
  · have := List.length_filter_le (fun p => decide ((apI (winI ring p (ms.length : Int).toNat) ms : Int) ≤ misread)) ps
    simp! []
    exact ⟨by omega, rfl⟩
  · simp! [ev_eqn' (q_window_at hr (show (0 : Int) ≤ ms.length by omega) (show (ms.length : Int) ≤ 1000 by omega)), ev_eqn' (q_apart_of (show (winI ring p (ms.length : Int).toNat).length ≤ 1000 by rw [winI_len]; omega))]
end
end k78
namespace k78
open PySem Sv
open L2 (atI ixN)
local macro_rules | `(tactic| simp! [$xs,*]) => `(tactic| try simp only [List.map_cons, List.map_nil, List.length_cons, List.length_nil, Nat.zero_add, Nat.reduceAdd, Nat.reduceSub, List.replicate, List.cons_append, List.nil_append, List.append_nil, List.set_cons_zero, List.set_cons_succ, List.zip_cons_cons, List.zip_nil_right, List.foldl_cons, List.foldl_nil, wipeE,
  es_cons, es_nil, es_ret, es_expr, es_if, es_set, es_par, es_asg, es_fd, es_forE, es_raise, es_retN, es_break, es_cont, es_bad, es_pass, es_try, ev_call, ev_cons, ev_nil, ev_con, ev_var, look0, lookS, ev_s1, ev_s2, ev_app, ev_and, ev_or, ev_not, ev_ite, ev_chain, ev_tup, ev_lst, ev_lstM, ev_comp, ev_compM, ev_dict, ev_dict2, ev_cYes, ev_cOne, ev_r1, ev_r2, ev_it, ev_il, ev_iK, ev_iS, ev_sl, ev_oNone, ev_oSome, ev_en, ev_z, ev_fdg, ev_mth, ev_mk, ev_dict0, ev_star, es_append, ev_ho,
  eg_tp, eg_gcons, eg_nm, eg_gnil, eg_sb, onB_bl, ev_addI, ev_subI, ev_modI, ev_divI, ev_ltI, ev_leI, ev_gtI, ev_geI, ev_int, ev_len_t, ev_len_l, ev_len_f, ev_tuple_t, ev_tuple_l, ev_list_t, ev_list_l, ev_isN, ev_notN, ev_sorted_l, ev_max, ev_min, ev_abs, ev_inK, ev_ixK, ev_slT, ev_slL, isNon, isi_int_non, isi_int_bl, isi_int_int, isi_int_str, isi_int_tup, isi_int_lst, isi_int_frl, isi_int_dct, isi_bool_non, isi_bool_bl, isi_bool_int, isi_bool_str, isi_bool_tup, isi_bool_lst, isi_bool_frl, isi_bool_dct, isi_str_non, isi_str_bl, isi_str_int, isi_str_str, isi_str_tup, isi_str_lst, isi_str_frl, isi_str_dct, isi_tuple_non, isi_tuple_bl, isi_tuple_int, isi_tuple_str, isi_tuple_tup, isi_tuple_lst, isi_tuple_frl, isi_tuple_dct, isi_list_non, isi_list_bl, isi_list_int, isi_list_str, isi_list_tup, isi_list_lst, isi_list_frl, isi_list_dct, isi_dict_non, isi_dict_bl, isi_dict_int, isi_dict_str, isi_dict_tup, isi_dict_lst, isi_dict_frl, isi_dict_dct,
  List.cons.injEq, D.int.injEq, D.tup.injEq, D.lst.injEq, D.str.injEq, D.bl.injEq, D.ref.injEq, exists_eq_left', exists_eq, false_and, and_false, exists_false, or_false, false_or, exists_const, and_self, and_assoc, exists_and_left, Nat.zero_le, Nat.reduceLeDiff,
  ne_eq, reduceCtorEq, not_false_eq_true, true_and, and_true, decide_eq_true_eq, Bool.false_eq_true, if_false, if_true, Bool.not_true, Bool.not_false, List.length_map, $xs,*])
theorem get_last (st : Store) (o : Ob) : (st ++ [o])[st.length]? = some o := by simp
theorem set_last (st : Store) (o o' : Ob) : (st ++ [o]).set st.length o' = st ++ [o'] := by
  rw [List.set_append_right _ _ (Nat.le_refl _)]
  simp
theorem at0_1 {x : D} : atI [x] 0 = some x := rfl
theorem at0_2 {x y : D} : atI [x, y] 0 = some x := rfl
theorem at1_2 {x y : D} : atI [x, y] 1 = some y := rfl
theorem at_6 {a b c d e f : D} : atI [a, b, c, d, e, f] 0 = some a ∧ atI [a, b, c, d, e, f] 1 = some b ∧ atI [a, b, c, d, e, f] 2 = some c ∧ atI [a, b, c, d, e, f] 3 = some d ∧ atI [a, b, c, d, e, f] 4 = some e ∧ atI [a, b, c, d, e, f] 5 = some f := ⟨rfl, rfl, rfl, rfl, rfl, rfl⟩
theorem flat_tints {l : List Int} : flat deepest (.tup (l.map D.int)) = true := flats_ints l
theorem flat_tnil : flat deepest (.tup []) = true := rfl
theorem st_look_still : ((("look" : Str) = "still")) = False := eq_false (by decide +kernel)
theorem st_miss_still : ((("miss" : Str) = "still")) = False := eq_false (by decide +kernel)
theorem st_look_miss : ((("look" : Str) = "miss")) = False := eq_false (by decide +kernel)
theorem st_still_miss : ((("still" : Str) = "miss")) = False := eq_false (by decide +kernel)
theorem isEmpty_map {α β : Type} {l : List α} {f : α → β} : (l.map f).isEmpty = l.isEmpty := by cases l <;> rfl
theorem Dd.flat_ {d : Dd} : flat 2 d.d = true := by
  cases d with
  | miss => show flat 2 (.tup [.str "miss"]) = true; simp [flat_tup, flats, flat_str, strOk_of]
  | look ms =>
    show flat 2 (.tup [.str "look", .tup (ms.map D.int)]) = true
    rw [flat_tup]
    show (flat 1 (.str "look") && (flat 1 (.tup (ms.map D.int)) && true)) = true
    rw [flat_str, strOk_of, flat_tup, flats_ints]
    rfl
  | still ms =>
    show flat 2 (.tup [.str "still", .tup (ms.map D.int)]) = true
    rw [flat_tup]
    show (flat 1 (.str "still") && (flat 1 (.tup (ms.map D.int)) && true)) = true
    rw [flat_str, strOk_of, flat_tup, flats_ints]
    rfl
theorem flat_deeds {ds : List Dd} : flat deepest (.tup (ds.map Dd.d)) = true := flats_all.mpr fun d hd => by
  obtain ⟨x, _, rfl⟩ := List.mem_map.mp hd
  exact flat_up (by decide) Dd.flat_
section
variable {P : D → Store → Prop} {X : Ex → Store → Prop} {st : Store} {env : Sv.Env}
theorem uniq_snoc (l : List Int) (x : Int) : uniq (l ++ [x]) = insI (uniq l) x := by
  unfold uniq
  rw [List.foldl_append]
  rfl
def stateD (ps : List Int) (n : Nat) : D := .tup [.tup (ps.map D.int), .int n]
theorem goals_snoc {n : Nat} {least most : Int} {ps : List Int} {p : Int} : goalsI n least most (ps ++ [p]) = goalsI n least most ps ++ (stepsI least most).map fun s => (p + s) % (n : Int) := by
  unfold goalsI
  rw [List.flatMap_append]
  simp
theorem moved_loop {sorts wide least most misread : Int} {ring ps : List Int} {e0 e1 e2 e9 : Option D} {N B C : Sv.Env → Store → Prop} {R : D → Store → Prop} {Y : Ex → Sv.Env → Store → Prop} (q : Parts sorts ring wide least most misread)
    (k : ∀ o11 o12, N [e0, e1, e2, some (.int sorts), some (.tup (ring.map D.int)), some (.int wide), some (.int least), some (.int most), some (.int misread), e9, some (.ref st.length), o11, o12] (st ++ [.dct (setK (uniq (goalsI ring.length least most ps))) (setV (.bl true) (uniq (goalsI ring.length least most ps)))])) :
    Es (forL (gNm 11) (bFor (iR2 (aCons (sVar 6) (aCons (s2 opAdd (sVar 7) (sCon (D.int 1))) aNil))) (gNm 12) (bAsg (sCon (D.bl true)) (gSb (sVar 10) (s2 opMod (sApp kInt (aCons (s2 opAdd (sVar 11) (sVar 12)) aNil)) (sApp kLen (aCons (sVar 4) aNil)))))) (ps.map D.int)
      [e0, e1, e2, some (.int sorts), some (.tup (ring.map D.int)), some (.int wide), some (.int least), some (.int most), some (.int misread), e9, some (.ref st.length), none, none] (st ++ [.dct [] []])) N R Y B C := by
  have hr := q.r1
  have hr2 := q.r2
  refine es_loopA ps D.int (fun done env st' => ∃ o11 o12, env = [e0, e1, e2, some (.int sorts), some (.tup (ring.map D.int)), some (.int wide), some (.int least), some (.int most), some (.int misread), e9, some (.ref st.length), o11, o12] ∧ st' = st ++ [.dct (setK (uniq (goalsI ring.length least most done))) (setV (.bl true) (uniq (goalsI ring.length least most done)))]) ⟨none, none, rfl, rfl⟩ ?_ ?_
  · rintro done p rest env st' e ⟨o11, o12, rfl, rfl⟩
    have l1 := q.l1
    have l2 := q.l2
    have l3 := q.o1
    have l4 := q.o2
    simp! []
    refine ⟨r62_of (by omega) (by omega), r62_of (by omega) (by omega), ?_⟩
    rw [steps_as]
    refine es_loopA (stepsI least most) D.int (fun done2 env st' => ∃ o12, env = [e0, e1, e2, some (.int sorts), some (.tup (ring.map D.int)), some (.int wide), some (.int least), some (.int most), some (.int misread), e9, some (.ref st.length), some (.int p), o12] ∧ st' = st ++ [.dct (setK (uniq (goalsI ring.length least most done ++ done2.map fun s => (p + s) % (ring.length : Int)))) (setV (.bl true) (uniq (goalsI ring.length least most done ++ done2.map fun s => (p + s) % (ring.length : Int))))]) ⟨o12, rfl, by simp⟩ ?_ ?_
    · rintro done2 s rest2 env st' e2 ⟨o12, rfl, rfl⟩
      simp! []
      refine ⟨by omega, ?_⟩
      have hu : Pl ring.length (uniq (goalsI ring.length least most done ++ done2.map fun s => (p + s) % (ring.length : Int))) := ⟨fun x hx => by
        rcases List.mem_append.mp (uniq_mem.mp hx) with h | h
        · exact goals_in hr x h
        · obtain ⟨s, _, rfl⟩ := List.mem_map.mp h
          exact ⟨Int.emod_nonneg _ (by omega), Int.emod_lt_of_pos _ (by omega)⟩, uniq_nodup⟩
      have hl := hu.len
      rw [ep_putD (get_last _ _) (by omega), set_last]
      rw [List.map_append, ← List.append_assoc]
      rw [List.map_singleton, uniq_snoc]
    · rintro env st' ⟨o12, rfl, rfl⟩
      exact ⟨_, _, rfl, by rw [goals_snoc]⟩
  · rintro env st' ⟨o11, o12, rfl, rfl⟩
    exact k o11 o12
end
end k78
namespace k78
open PySem Sv
open L2 (atI ixN)
local macro_rules | `(tactic| simp! [$xs,*]) => `(tactic| try simp only [List.map_cons, List.map_nil, List.length_cons, List.length_nil, Nat.zero_add, Nat.reduceAdd, Nat.reduceSub, List.replicate, List.cons_append, List.nil_append, List.append_nil, List.set_cons_zero, List.set_cons_succ, List.zip_cons_cons, List.zip_nil_right, List.foldl_cons, List.foldl_nil, wipeE,
  es_cons, es_nil, es_ret, es_expr, es_if, es_set, es_par, es_asg, es_fd, es_forE, es_raise, es_retN, es_break, es_cont, es_bad, es_pass, es_try, ev_call, ev_cons, ev_nil, ev_con, ev_var, look0, lookS, ev_s1, ev_s2, ev_app, ev_and, ev_or, ev_not, ev_ite, ev_chain, ev_tup, ev_lst, ev_lstM, ev_comp, ev_compM, ev_dict, ev_dict2, ev_cYes, ev_cOne, ev_r1, ev_r2, ev_it, ev_il, ev_iK, ev_iS, ev_sl, ev_oNone, ev_oSome, ev_en, ev_z, ev_fdg, ev_mth, ev_mk, ev_dict0, ev_star, es_append, ev_ho,
  eg_tp, eg_gcons, eg_nm, eg_gnil, eg_sb, onB_bl, ev_addI, ev_subI, ev_modI, ev_divI, ev_ltI, ev_leI, ev_gtI, ev_geI, ev_int, ev_len_t, ev_len_l, ev_len_f, ev_tuple_t, ev_tuple_l, ev_list_t, ev_list_l, ev_isN, ev_notN, ev_sorted_l, ev_max, ev_min, ev_abs, ev_inK, ev_ixK, ev_slT, ev_slL, isNon, isi_int_non, isi_int_bl, isi_int_int, isi_int_str, isi_int_tup, isi_int_lst, isi_int_frl, isi_int_dct, isi_bool_non, isi_bool_bl, isi_bool_int, isi_bool_str, isi_bool_tup, isi_bool_lst, isi_bool_frl, isi_bool_dct, isi_str_non, isi_str_bl, isi_str_int, isi_str_str, isi_str_tup, isi_str_lst, isi_str_frl, isi_str_dct, isi_tuple_non, isi_tuple_bl, isi_tuple_int, isi_tuple_str, isi_tuple_tup, isi_tuple_lst, isi_tuple_frl, isi_tuple_dct, isi_list_non, isi_list_bl, isi_list_int, isi_list_str, isi_list_tup, isi_list_lst, isi_list_frl, isi_list_dct, isi_dict_non, isi_dict_bl, isi_dict_int, isi_dict_str, isi_dict_tup, isi_dict_lst, isi_dict_frl, isi_dict_dct,
  List.cons.injEq, D.int.injEq, D.tup.injEq, D.lst.injEq, D.str.injEq, D.bl.injEq, D.ref.injEq, exists_eq_left', exists_eq, false_and, and_false, exists_false, or_false, false_or, exists_const, and_self, and_assoc, exists_and_left, Nat.zero_le, Nat.reduceLeDiff,
  ne_eq, reduceCtorEq, not_false_eq_true, true_and, and_true, decide_eq_true_eq, Bool.false_eq_true, if_false, if_true, Bool.not_true, Bool.not_false, List.length_map, $xs,*])
local macro_rules | `(tactic| dsimp! [$xs,*]) => `(tactic| simp! [ev_ixT, at0_1, at0_2, at1_2, Option.some.injEq, ev_eq, ev_ne, flat_str, strOk_of, flat_int, flat_tints, flat_tnil, eqD_str, eqD_int, eqD_tnil, st_look_still, st_miss_still, st_look_miss, st_still_miss, decide_false, decide_true, isEmpty_map, List.isEmpty_iff, $xs,*])
theorem st_still : ((("still" : Str) = "still")) = True := eq_true rfl
section
variable {P : D → Store → Prop} {X : Ex → Store → Prop} {st : Store} {env : Sv.Env}
theorem whyI_def {ring : List Int} {wide least most misread : Int} {ps : List Int} {first : Bool} {d : Dd} (h : ¬ ((∃ ms, d = .still ms) ∧ first = true)) : whyI ring wide least most misread ps first d = if movedI ring wide least most misread ps first d = [] then ("never" : Str) else ("" : Str) := by
  cases d with
  | miss => cases first <;> rfl
  | look ms => cases first <;> rfl
  | still ms =>
    cases first with
    | false => rfl
    | true => exact absurd ⟨⟨ms, rfl⟩, rfl⟩ h
/-! ### the follower -/
abbrev Flw (st : Store) (n : Nat) (sorts : Int) (ring : List Int) (wide least most misread : Int) (ps : List Int) (ds : List Dd) (past : D) : Prop := st[n]? = some (flw sorts ring wide least most misread (.tup (ps.map D.int)) (.tup (ds.map Dd.d)) past)
section
variable {n : Nat} {sorts wide least most misread : Int} {ring ps : List Int} {ds : List Dd} {past : D} {d : Dd}
theorem q_places_behind (q : Parts sorts ring wide least most misread) (hp : Pl ring.length ps) (hd : d.Ok sorts wide) (h : Flw st n sorts ring wide least most misread ps ds past) : m_places_behind [.ref n, d.d] st = .ok (.tup ((movedI ring wide least most misread ps (decide (ds.length = 0)) d).map D.int)) st := by
  have hr := q.r1
  have hr2 := q.r2
  have l1 := q.l1
  have l2 := q.l2
  have l4 := q.o2
  have hl := hp.len
  have w1 := q.w1
  have w2 := q.w2
  refine eq_of_ev ?_
  refine (ev_fn (ds := [_, _]) rfl).mpr ?_
  unfold b_places_behind
  have hon : Pl ring.length (onI ring.length least most ps) := onI_pl hr
  have hol := hon.len
  have fit : ∀ qs ms, (ms.length : Int) = wide → qs.length ≤ 9 → m_fitting [.tup (ring.map D.int), .tup (qs.map D.int), .tup (ms.map D.int), .int misread] st = .ok (.tup ((fitI ring wide misread ms qs).map D.int)) st := fun qs ms e hq => by
    rw [← e]
    exact q_fitting hr (by omega) (by omega)
  have stp := q_steps_on (st := st) hr (by omega) hp l1 q.o1 (show most ≤ 100 by omega)
  cases ds with
  | nil =>
    cases d with
    | miss =>
      unfold Dd.d
      dsimp! [g_places h, g_deeds h, List.isEmpty_nil]
      rfl
    | look ms =>
      unfold Dd.d
      dsimp! [g_places h, g_deeds h, g_ring h, g_misread h, List.isEmpty_nil, ev_eqn' (fit ps ms hd.2 (by omega))]
      rfl
    | still ms =>
      unfold Dd.d
      dsimp! [g_places h, g_deeds h, g_ring h, g_misread h, List.isEmpty_nil, st_still, ev_eqn' (fit ps ms hd.2 (by omega))]
      rfl
  | cons d0 ds =>
    have fd := flat_deeds (ds := d0 :: ds)
    rw [List.map_cons] at fd
    cases d with
    | miss =>
      unfold Dd.d
      dsimp! [g_places h, g_deeds h, g_ring h, g_least h, g_most h, List.isEmpty_cons, fd, ev_eqn' stp]
      rfl
    | look ms =>
      unfold Dd.d
      dsimp! [g_places h, g_deeds h, g_ring h, g_least h, g_most h, g_misread h, List.isEmpty_cons, fd, ev_eqn' stp, ev_eqn' (fit (onI ring.length least most ps) ms hd.2 (by omega))]
      rfl
    | still ms =>
      unfold Dd.d
      dsimp! [g_places h, g_deeds h, g_ring h, g_misread h, List.isEmpty_cons, fd, st_still, ev_eqn' (fit ps ms hd.2 (by omega))]
      rfl
end
end
end k78
namespace k78
open PySem Sv
open L2 (atI ixN)
local macro_rules | `(tactic| simp! [$xs,*]) => `(tactic| try simp only [List.map_cons, List.map_nil, List.length_cons, List.length_nil, Nat.zero_add, Nat.reduceAdd, Nat.reduceSub, List.replicate, List.cons_append, List.nil_append, List.append_nil, List.set_cons_zero, List.set_cons_succ, List.zip_cons_cons, List.zip_nil_right, List.foldl_cons, List.foldl_nil, wipeE,
  es_cons, es_nil, es_ret, es_expr, es_if, es_set, es_par, es_asg, es_fd, es_forE, es_raise, es_retN, es_break, es_cont, es_bad, es_pass, es_try, ev_call, ev_cons, ev_nil, ev_con, ev_var, look0, lookS, ev_s1, ev_s2, ev_app, ev_and, ev_or, ev_not, ev_ite, ev_chain, ev_tup, ev_lst, ev_lstM, ev_comp, ev_compM, ev_dict, ev_dict2, ev_cYes, ev_cOne, ev_r1, ev_r2, ev_it, ev_il, ev_iK, ev_iS, ev_sl, ev_oNone, ev_oSome, ev_en, ev_z, ev_fdg, ev_mth, ev_mk, ev_dict0, ev_star, es_append, ev_ho,
  eg_tp, eg_gcons, eg_nm, eg_gnil, eg_sb, onB_bl, ev_addI, ev_subI, ev_modI, ev_divI, ev_ltI, ev_leI, ev_gtI, ev_geI, ev_int, ev_len_t, ev_len_l, ev_len_f, ev_tuple_t, ev_tuple_l, ev_list_t, ev_list_l, ev_isN, ev_notN, ev_sorted_l, ev_max, ev_min, ev_abs, ev_inK, ev_ixK, ev_slT, ev_slL, isNon, isi_int_non, isi_int_bl, isi_int_int, isi_int_str, isi_int_tup, isi_int_lst, isi_int_frl, isi_int_dct, isi_bool_non, isi_bool_bl, isi_bool_int, isi_bool_str, isi_bool_tup, isi_bool_lst, isi_bool_frl, isi_bool_dct, isi_str_non, isi_str_bl, isi_str_int, isi_str_str, isi_str_tup, isi_str_lst, isi_str_frl, isi_str_dct, isi_tuple_non, isi_tuple_bl, isi_tuple_int, isi_tuple_str, isi_tuple_tup, isi_tuple_lst, isi_tuple_frl, isi_tuple_dct, isi_list_non, isi_list_bl, isi_list_int, isi_list_str, isi_list_tup, isi_list_lst, isi_list_frl, isi_list_dct, isi_dict_non, isi_dict_bl, isi_dict_int, isi_dict_str, isi_dict_tup, isi_dict_lst, isi_dict_frl, isi_dict_dct,
  List.cons.injEq, D.int.injEq, D.tup.injEq, D.lst.injEq, D.str.injEq, D.bl.injEq, D.ref.injEq, exists_eq_left', exists_eq, false_and, and_false, exists_false, or_false, false_or, exists_const, and_self, and_assoc, exists_and_left, Nat.zero_le, Nat.reduceLeDiff,
  ne_eq, reduceCtorEq, not_false_eq_true, true_and, and_true, decide_eq_true_eq, Bool.false_eq_true, if_false, if_true, Bool.not_true, Bool.not_false, List.length_map, $xs,*])
local macro_rules | `(tactic| dsimp! [$xs,*]) => `(tactic| simp! [ev_ixT, at0_1, at0_2, at1_2, Option.some.injEq, ev_eq, ev_ne, flat_str, strOk_of, flat_int, flat_tints, flat_tnil, eqD_str, eqD_int, eqD_tnil, st_look_still, st_miss_still, st_look_miss, st_still_miss, decide_false, decide_true, isEmpty_map, List.isEmpty_iff, $xs,*])
theorem Dd.nf {d : Dd} : d.d ≠ .fnv := by cases d <;> exact D.noConfusion
section
variable {P : D → Store → Prop} {X : Ex → Store → Prop} {st : Store} {env : Sv.Env}
variable {n : Nat} {sorts wide least most misread : Int} {ring ps : List Int} {ds : List Dd} {past : D} {d : Dd}
/-- the reason, None for none -/
def whyD (ring : List Int) (wide least most misread : Int) (ps : List Int) (first : Bool) (d : Dd) : D := if whyI ring wide least most misread ps first d = "" then .non else .str (whyI ring wide least most misread ps first d)
theorem never_ne : ((("never" : Str) = "")) = False := eq_false (by decide +kernel)
theorem first_ne : ((("first" : Str) = "")) = False := eq_false (by decide +kernel)
theorem q_reason (q : Parts sorts ring wide least most misread) (hp : Pl ring.length ps) (hd : d.Ok sorts wide) (h : Flw st n sorts ring wide least most misread ps ds past) : m_reason_against [.ref n, d.d] st = .ok (whyD ring wide least most misread ps (decide (ds.length = 0)) d) st := by
  have pb := q_places_behind q hp hd h
  have fd := flat_deeds (ds := ds)
  refine eq_of_ev ?_
  refine (ev_fn (ds := [_, _]) rfl).mpr ?_
  unfold b_reason_against
  have fin : ¬ ((∃ ms, d = .still ms) ∧ decide (ds.length = 0) = true) → if movedI ring wide least most misread ps (decide (ds.length = 0)) d = [] then D.str "never" = whyD ring wide least most misread ps (decide (ds.length = 0)) d else .non = whyD ring wide least most misread ps (decide (ds.length = 0)) d := by
    intro hf
    unfold whyD
    rw [whyI_def hf]
    split
    · simp only [never_ne, if_false]
    · simp only [if_true]
  cases d with
  | miss =>
    unfold Dd.d at *
    dsimp! [ev_eqn' pb]
    exact fin fun z => by obtain ⟨⟨_, z⟩, _⟩ := z; cases z
  | look ms =>
    unfold Dd.d at *
    dsimp! [ev_eqn' pb]
    exact fin fun z => by obtain ⟨⟨_, z⟩, _⟩ := z; cases z
  | still ms =>
    cases ds with
    | nil =>
      unfold Dd.d at *
      dsimp! [g_deeds h, st_still, List.isEmpty_nil]
      unfold whyD whyI
      simp only [List.length_nil, decide_true, first_ne, if_false]
    | cons d0 ds =>
      unfold Dd.d at pb ⊢
      rw [List.map_cons] at fd
      dsimp! [ev_eqn' pb, g_deeds h, st_still, fd, List.isEmpty_cons]
      exact fin fun z => by simp at z
theorem v_barred (q : Parts sorts ring wide least most misread) (hp : Pl ring.length ps) (hd : d.Ok sorts wide) (h : Flw st n sorts ring wide least most misread ps ds past)
    (k : if whyI ring wide least most misread ps (decide (ds.length = 0)) d = "" then P .non st else X ⟨"Barred", some ("reason", .str (whyI ring wide least most misread ps (decide (ds.length = 0)) d))⟩ st) : Ev (m_check_barred [.ref n, d.d] st) P X := by
  refine (ev_fn (ds := [_, _]) rfl).mpr ?_
  unfold b_check_barred
  dsimp! [ev_eqn' (q_reason q hp hd h), Dd.nf]
  unfold whyD
  by_cases hw : whyI ring wide least most misread ps (decide (ds.length = 0)) d = ""
  · rw [if_pos hw] at k
    simp only [hw, if_true]
    dsimp! []
    exact k
  · rw [if_neg hw] at k
    simp only [hw, if_false]
    dsimp! []
    exact k
theorem q_is_string {x : Str} : m_is_string [.str x] st = .ok (.bl true) st := rfl
theorem size_look : kv_SIZES.lookup ("look" : Str) = some (.int 2) := by kernel_rfl
theorem size_still : kv_SIZES.lookup ("still" : Str) = some (.int 2) := by kernel_rfl
theorem size_miss : kv_SIZES.lookup ("miss" : Str) = some (.int 1) := by kernel_rfl
theorem v_window {ms : List Int} (hm : Marks sorts ms) (hl : (ms.length : Int) = wide) (k : P (.bl true) st) : Ev (m_is_window [.int sorts, .int wide, .tup (ms.map D.int)] st) P X := by
  refine (ev_fn (ds := [_, _, _]) rfl).mpr ?_
  unfold b_is_window
  have q : m_is_tuple_of [.tup (ms.map D.int), .int wide] st = .ok (.bl true) st := by
    refine eq_of_ev ?_
    refine (ev_fn (ds := [_, _]) rfl).mpr ?_
    unfold b_is_tuple_of
    dsimp! [hl]
  dsimp! [ev_eqn' q]
  refine v_wrong hm ?_
  dsimp! []
  exact k
theorem v_check_deed (hd : d.Ok sorts wide) (k : P .non st) : Ev (m_check_deed [.int sorts, .int wide, d.d] st) P X := by
  refine (ev_fn (ds := [_, _, _]) rfl).mpr ?_
  unfold b_check_deed
  have q : m_has_form [d.d] st = .ok (.bl true) st := by
    refine eq_of_ev ?_
    refine (ev_fn (ds := [_]) rfl).mpr ?_
    unfold b_has_form
    cases d with
    | miss =>
      unfold Dd.d
      dsimp! [ev_eqn' q_is_string, size_miss, Option.isSome_some]
      simp
    | look ms =>
      unfold Dd.d
      dsimp! [ev_eqn' q_is_string, size_look, Option.isSome_some]
      simp
    | still ms =>
      unfold Dd.d
      dsimp! [ev_eqn' q_is_string, size_still, Option.isSome_some]
      simp
  cases d with
  | miss =>
    unfold Dd.d at *
    dsimp! [ev_eqn' q]
    exact k
  | look ms =>
    unfold Dd.d at *
    dsimp! [ev_eqn' q]
    refine v_window hd.1 hd.2 ?_
    dsimp! []
    exact k
  | still ms =>
    unfold Dd.d at *
    dsimp! [ev_eqn' q]
    refine v_window hd.1 hd.2 ?_
    dsimp! []
    exact k
end
end k78
namespace k78
open PySem Sv
open L2 (atI ixN)
local macro_rules | `(tactic| simp! [$xs,*]) => `(tactic| try simp only [List.map_cons, List.map_nil, List.length_cons, List.length_nil, Nat.zero_add, Nat.reduceAdd, Nat.reduceSub, List.replicate, List.cons_append, List.nil_append, List.append_nil, List.set_cons_zero, List.set_cons_succ, List.zip_cons_cons, List.zip_nil_right, List.foldl_cons, List.foldl_nil, wipeE,
  es_cons, es_nil, es_ret, es_expr, es_if, es_set, es_par, es_asg, es_fd, es_forE, es_raise, es_retN, es_break, es_cont, es_bad, es_pass, es_try, ev_call, ev_cons, ev_nil, ev_con, ev_var, look0, lookS, ev_s1, ev_s2, ev_app, ev_and, ev_or, ev_not, ev_ite, ev_chain, ev_tup, ev_lst, ev_lstM, ev_comp, ev_compM, ev_dict, ev_dict2, ev_cYes, ev_cOne, ev_r1, ev_r2, ev_it, ev_il, ev_iK, ev_iS, ev_sl, ev_oNone, ev_oSome, ev_en, ev_z, ev_fdg, ev_mth, ev_mk, ev_dict0, ev_star, es_append, ev_ho,
  eg_tp, eg_gcons, eg_nm, eg_gnil, eg_sb, onB_bl, ev_addI, ev_subI, ev_modI, ev_divI, ev_ltI, ev_leI, ev_gtI, ev_geI, ev_int, ev_len_t, ev_len_l, ev_len_f, ev_tuple_t, ev_tuple_l, ev_list_t, ev_list_l, ev_isN, ev_notN, ev_sorted_l, ev_max, ev_min, ev_abs, ev_inK, ev_ixK, ev_slT, ev_slL, isNon, isi_int_non, isi_int_bl, isi_int_int, isi_int_str, isi_int_tup, isi_int_lst, isi_int_frl, isi_int_dct, isi_bool_non, isi_bool_bl, isi_bool_int, isi_bool_str, isi_bool_tup, isi_bool_lst, isi_bool_frl, isi_bool_dct, isi_str_non, isi_str_bl, isi_str_int, isi_str_str, isi_str_tup, isi_str_lst, isi_str_frl, isi_str_dct, isi_tuple_non, isi_tuple_bl, isi_tuple_int, isi_tuple_str, isi_tuple_tup, isi_tuple_lst, isi_tuple_frl, isi_tuple_dct, isi_list_non, isi_list_bl, isi_list_int, isi_list_str, isi_list_tup, isi_list_lst, isi_list_frl, isi_list_dct, isi_dict_non, isi_dict_bl, isi_dict_int, isi_dict_str, isi_dict_tup, isi_dict_lst, isi_dict_frl, isi_dict_dct,
  List.cons.injEq, D.int.injEq, D.tup.injEq, D.lst.injEq, D.str.injEq, D.bl.injEq, D.ref.injEq, exists_eq_left', exists_eq, false_and, and_false, exists_false, or_false, false_or, exists_const, and_self, and_assoc, exists_and_left, Nat.zero_le, Nat.reduceLeDiff,
  ne_eq, reduceCtorEq, not_false_eq_true, true_and, and_true, decide_eq_true_eq, Bool.false_eq_true, if_false, if_true, Bool.not_true, Bool.not_false, List.length_map, $xs,*])
local macro_rules | `(tactic| dsimp! [$xs,*]) => `(tactic| simp! [ev_ixT, at0_1, at0_2, at1_2, Option.some.injEq, ev_eq, ev_ne, flat_str, strOk_of, flat_int, flat_tints, flat_tnil, eqD_str, eqD_int, eqD_tnil, st_look_still, st_miss_still, st_look_miss, st_still_miss, decide_false, decide_true, isEmpty_map, List.isEmpty_iff, $xs,*])
section
variable {P : D → Store → Prop} {X : Ex → Store → Prop} {st : Store} {env : Sv.Env}
variable {n p : Nat} {sorts wide least most misread : Int} {ring ps : List Int} {ds : List Dd} {past : List D} {d : Dd}
abbrev doneSt (st : Store) (n p : Nat) (sorts : Int) (ring : List Int) (wide least most misread : Int) (ps : List Int) (ds : List Dd) (past : List D) (d : Dd) : Store :=
  (st.set p (.lst (past ++ [.tup (ps.map D.int)]))).set n (flw sorts ring wide least most misread (.tup ((movedI ring wide least most misread ps (decide (ds.length = 0)) d).map D.int)) (.tup ((ds ++ [d]).map Dd.d)) (.ref p))
theorem v_do (q : Parts sorts ring wide least most misread) (hp : Pl ring.length ps) (hd : d.Ok sorts wide) (h : Flw st n sorts ring wide least most misread ps ds (.ref p)) (hpa : st[p]? = some (.lst past)) (hn : p ≠ n) (hl : past.length < 1000) (hl2 : ds.length < 1000)
    (k0 : whyI ring wide least most misread ps (decide (ds.length = 0)) d = "" → P .non (doneSt st n p sorts ring wide least most misread ps ds past d))
    (k1 : whyI ring wide least most misread ps (decide (ds.length = 0)) d ≠ "" → X ⟨"Barred", some ("reason", .str (whyI ring wide least most misread ps (decide (ds.length = 0)) d))⟩ st) : Ev (m_Follower_do [.ref n, d.d] st) P X := by
  refine (ev_fn (ds := [_, _]) rfl).mpr ?_
  unfold b_Follower_do
  have h1 : Flw (st.set p (.lst (past ++ [.tup (ps.map D.int)]))) n sorts ring wide least most misread ps ds (.ref p) := by
    show (st.set p _)[n]? = _
    rw [List.getElem?_set_ne hn]
    exact h
  have hnl := (List.getElem?_eq_some_iff.mp h1).1
  dsimp! [g_sorts h, g_wide h, Dd.nf]
  refine v_check_deed hd ?_
  refine v_barred q hp hd h ?_
  by_cases hw : whyI ring wide least most misread ps (decide (ds.length = 0)) d = ""
  · rw [if_pos hw]
    dsimp! [ev_eqn' (q_places_behind q hp hd h), g_past h, g_places h, ev_isLst hpa, ev_appD hpa (show past.length < 16777216 by omega)]
    rw [g_deeds h1, ev_addT]
    refine ⟨by simp only [List.length_map, List.length_cons, List.length_nil]; omega, ?_⟩
    refine fd_at h1 (Nat.le_of_ble_eq_true rfl) ?_
    refine fd_at (List.getElem?_set_self hnl) (Nat.le_of_ble_eq_true rfl) ?_
    have k := k0 hw
    rw [List.set_set]
    unfold doneSt at k
    rw [List.map_append] at k
    exact k
  · rw [if_neg hw]
    exact k1 hw
theorem w_barred (q : Parts sorts ring wide least most misread) (hp : Pl ring.length ps) (hd : d.Ok sorts wide) (h : Flw st n sorts ring wide least most misread ps ds (.ref p)) (hpa : st[p]? = some (.lst past)) (hn : p ≠ n) (hl : past.length < 1000) (hl2 : ds.length < 1000)
    (k0 : whyI ring wide least most misread ps (decide (ds.length = 0)) d = "" → P (.str "") (doneSt st n p sorts ring wide least most misread ps ds past d))
    (k1 : whyI ring wide least most misread ps (decide (ds.length = 0)) d ≠ "" → P (.str (whyI ring wide least most misread ps (decide (ds.length = 0)) d)) st) : Ev (m__law_barred [.ref n, d.d] st) P X := by
  refine (ev_fn (ds := [_, _]) rfl).mpr ?_
  unfold b__law_barred
  dsimp! [Dd.nf]
  rw [mtg_at h (by rfl)]
  refine v_do q hp hd h hpa hn hl hl2 k0 fun hw => ?_
  refine es_hit (by kernel_rfl) ?_
  rw [es_ret, ev_err rfl rfl]
  exact k1 hw
theorem w_told (h : Flw st n sorts ring wide least most misread ps ds (.ref p)) (k : P (.bl (decide (ps.length = 1))) st) : Ev (m_Follower_is_told [.ref n] st) P X := by
  refine (ev_fn (ds := [_]) rfl).mpr ?_
  unfold b_Follower_is_told
  dsimp! [g_places h]
  rw [show decide ((ps.length : Int) = 1) = decide (ps.length = 1) by rw [decide_eq_decide]; omega]
  exact k
end
end k78
namespace k78
open PySem Sv
open L2 (atI ixN)
local macro_rules | `(tactic| simp! [$xs,*]) => `(tactic| try simp only [List.map_cons, List.map_nil, List.length_cons, List.length_nil, Nat.zero_add, Nat.reduceAdd, Nat.reduceSub, List.replicate, List.cons_append, List.nil_append, List.append_nil, List.set_cons_zero, List.set_cons_succ, List.zip_cons_cons, List.zip_nil_right, List.foldl_cons, List.foldl_nil, wipeE,
  es_cons, es_nil, es_ret, es_expr, es_if, es_set, es_par, es_asg, es_fd, es_forE, es_raise, es_retN, es_break, es_cont, es_bad, es_pass, es_try, ev_call, ev_cons, ev_nil, ev_con, ev_var, look0, lookS, ev_s1, ev_s2, ev_app, ev_and, ev_or, ev_not, ev_ite, ev_chain, ev_tup, ev_lst, ev_lstM, ev_comp, ev_compM, ev_dict, ev_dict2, ev_cYes, ev_cOne, ev_r1, ev_r2, ev_it, ev_il, ev_iK, ev_iS, ev_sl, ev_oNone, ev_oSome, ev_en, ev_z, ev_fdg, ev_mth, ev_mk, ev_dict0, ev_star, es_append, ev_ho,
  eg_tp, eg_gcons, eg_nm, eg_gnil, eg_sb, onB_bl, ev_addI, ev_subI, ev_modI, ev_divI, ev_ltI, ev_leI, ev_gtI, ev_geI, ev_int, ev_len_t, ev_len_l, ev_len_f, ev_tuple_t, ev_tuple_l, ev_list_t, ev_list_l, ev_isN, ev_notN, ev_sorted_l, ev_max, ev_min, ev_abs, ev_inK, ev_ixK, ev_slT, ev_slL, isNon, isi_int_non, isi_int_bl, isi_int_int, isi_int_str, isi_int_tup, isi_int_lst, isi_int_frl, isi_int_dct, isi_bool_non, isi_bool_bl, isi_bool_int, isi_bool_str, isi_bool_tup, isi_bool_lst, isi_bool_frl, isi_bool_dct, isi_str_non, isi_str_bl, isi_str_int, isi_str_str, isi_str_tup, isi_str_lst, isi_str_frl, isi_str_dct, isi_tuple_non, isi_tuple_bl, isi_tuple_int, isi_tuple_str, isi_tuple_tup, isi_tuple_lst, isi_tuple_frl, isi_tuple_dct, isi_list_non, isi_list_bl, isi_list_int, isi_list_str, isi_list_tup, isi_list_lst, isi_list_frl, isi_list_dct, isi_dict_non, isi_dict_bl, isi_dict_int, isi_dict_str, isi_dict_tup, isi_dict_lst, isi_dict_frl, isi_dict_dct,
  List.cons.injEq, D.int.injEq, D.tup.injEq, D.lst.injEq, D.str.injEq, D.bl.injEq, D.ref.injEq, exists_eq_left', exists_eq, false_and, and_false, exists_false, or_false, false_or, exists_const, and_self, and_assoc, exists_and_left, Nat.zero_le, Nat.reduceLeDiff,
  ne_eq, reduceCtorEq, not_false_eq_true, true_and, and_true, decide_eq_true_eq, Bool.false_eq_true, if_false, if_true, Bool.not_true, Bool.not_false, List.length_map, $xs,*])
local macro_rules | `(tactic| dsimp! [$xs,*]) => `(tactic| simp! [ev_ixT, at0_1, at0_2, at1_2, Option.some.injEq, ev_eq, ev_ne, flat_str, strOk_of, flat_int, flat_tints, flat_tnil, eqD_str, eqD_int, eqD_tnil, st_look_still, st_miss_still, st_look_miss, st_still_miss, decide_false, decide_true, isEmpty_map, List.isEmpty_iff, $xs,*])
section
variable {P : D → Store → Prop} {X : Ex → Store → Prop} {st : Store} {env : Sv.Env}
variable {n : Nat} {sorts wide least most misread : Int} {ring ps : List Int} {c : Nat}
theorem w_deed (q : Parts sorts ring wide least most misread) (hp : Pl ring.length ps) (h : Pool st n)
    (k : ∀ (d : Dd) (l : Ob), d.Ok sorts wide → PoolV l → P d.d (st.set n l)) : Ev (m__law_deed [.ref n, partsD sorts ring wide least most misread, stateD ps c] st) P X := by
  have hr := q.r1
  have hr2 := q.r2
  have w1 := q.w1
  have w2 := q.w2
  have so1 := q.s1
  have so2 := q.s2
  have hl := hp.len
  refine (ev_fn (ds := [_, _, _]) rfl).mpr ?_
  unfold b__law_deed
  unfold partsD stateD
  simp! []
  refine sp_draw h (by omega) (by omega) fun way l hw1 hw2 hl1 => ?_
  dsimp! []
  by_cases hw : way = 0
  · rw [if_pos hw]
    exact k .miss l trivial hl1
  rw [if_neg hw]
  -- behind the window
  have fin : ∀ (ms : List Int) (l : Ob) (w : Int), Marks sorts ms → (ms.length : Int) = wide → PoolV l → if w = 1 then P (.tup [.str "still", .tup (ms.map D.int)]) (st.set n l) else P (.tup [.str "look", .tup (ms.map D.int)]) (st.set n l) := by
    intro ms l w hm hlen hl
    split
    · exact k (.still ms) l ⟨hm, hlen⟩ hl
    · exact k (.look ms) l ⟨hm, hlen⟩ hl
  by_cases hc : ps ≠ [] ∧ way < 6
  · have hps : ps.isEmpty = false := by cases ps with
      | nil => exact absurd rfl hc.1
      | cons _ _ => rfl
    dsimp! [hps, hc.2]
    refine sp_pick_t (h.set hl1) (by rw [List.length_map]; have := List.length_pos_iff.mpr hc.1; omega) (by rw [List.length_map]; omega) fun x l2 hx hl2 => ?_
    obtain ⟨p, _, rfl⟩ := List.mem_map.mp hx
    rw [List.set_set]
    by_cases hw3 : way = 1
    · dsimp! [hw3, ev_eqn' (q__law_window hr (show (0 : Int) ≤ wide by omega) (show wide ≤ 1000 by omega))]
      exact k (.still _) l2 ⟨winI_marks q.m hr, by rw [winI_len]; omega⟩ hl2
    · dsimp! [hw3]
      refine sp_pick_l (h.set hl2) (by simp) (by simp) fun x l3 hx hl3 => ?_
      rw [List.set_set]
      have hx' : x = .int least ∨ x = .int most := by simpa using hx
      rcases hx' with rfl | rfl
      · dsimp! [hw3, ev_eqn' (q__law_window hr (show (0 : Int) ≤ wide by omega) (show wide ≤ 1000 by omega))]
        exact k (.look _) l3 ⟨winI_marks q.m hr, by rw [winI_len]; omega⟩ hl3
      · dsimp! [hw3, ev_eqn' (q__law_window hr (show (0 : Int) ≤ wide by omega) (show wide ≤ 1000 by omega))]
        exact k (.look _) l3 ⟨winI_marks q.m hr, by rw [winI_len]; omega⟩ hl3
  · have loop : ∀ (N : Sv.Env → Store → Prop), (∀ (ms : List Int) (l : Ob) (o : Option D), Marks sorts ms → (ms.length : Int) = wide → PoolV l → N [some (.ref n), some (partsD sorts ring wide least most misread), some (stateD ps c), some (.int sorts), some (.tup (ring.map D.int)), some (.int wide), some (.int least), some (.int most), some (.int misread), some (.int way), some (.tup (ms.map D.int)), none, o] (st.set n l)) →
        Es (forL (gNm 12) (bSet 10 (s2 opAdd (sVar 10) (sTup (aCons (sCl m__law_draw [] (aCons (sVar 0) (aCons (sVar 3) aNil))) aNil)))) (rangeD 0 wide.toNat) [some (.ref n), some (partsD sorts ring wide least most misread), some (stateD ps c), some (.int sorts), some (.tup (ring.map D.int)), some (.int wide), some (.int least), some (.int most), some (.int misread), some (.int way), some (.tup []), none, none] (st.set n l)) N P (fun e _ st => X e st) (fun _ _ => False) (fun _ _ => False) := by
      intro N hN
      refine es_loop (fun done env st' => ∃ (ms : List Int) (l : Ob) (o : Option D), env = [some (.ref n), some (partsD sorts ring wide least most misread), some (stateD ps c), some (.int sorts), some (.tup (ring.map D.int)), some (.int wide), some (.int least), some (.int most), some (.int misread), some (.int way), some (.tup (ms.map D.int)), none, o] ∧ st' = st.set n l ∧ PoolV l ∧ Marks sorts ms ∧ ms.length = done.length) ⟨[], l, none, rfl, rfl, hl1, fun m hm => by simp at hm, rfl⟩ ?_ ?_
      · rintro done d rest env st' e ⟨ms, l, o, rfl, rfl, hl, hm, hlen⟩
        simp only [eg_nm, es_set, ev_s2, ev_var, lookS, look0, ev_tup, ev_cons, ev_nil, ev_call, List.append_nil, List.set_cons_succ, List.set_cons_zero]
        refine ⟨D.noConfusion, D.noConfusion, D.noConfusion, sp_draw (h.set hl) (by omega) (by omega) fun r l2 hr1 hr2 hl2 => ?_⟩
        have len : ms.length ≤ 1000 := by
          have e1 := congrArg List.length e
          rw [rangeD_len, List.length_append, List.length_cons] at e1
          omega
        refine ⟨Nat.le_of_ble_eq_true rfl, ev_addT.mpr ⟨by rw [List.length_map]; simp only [List.length_cons, List.length_nil]; omega, ?_⟩⟩
        refine ⟨ms ++ [r], l2, some d, by rw [List.map_append]; rfl, List.set_set .., hl2, fun m hm2 => ?_, by rw [List.length_append, List.length_append, hlen]; rfl⟩
        rcases List.mem_append.mp hm2 with z | z
        · exact hm m z
        · rw [List.mem_singleton.mp z]
          exact ⟨hr1, hr2⟩
      · rintro env st' ⟨ms, l, o, rfl, rfl, hl, hm, hlen⟩
        rw [rangeD_len] at hlen
        exact hN ms l o hm (by omega) hl
    have go : ps.isEmpty = true ∨ (ps.isEmpty = false ∧ ¬ way < 6) := by
      cases ps with
      | nil => exact .inl rfl
      | cons p ps => exact .inr ⟨rfl, fun z => hc ⟨List.cons_ne_nil _ _, z⟩⟩
    rcases go with go | ⟨go, go2⟩
    · dsimp! [go]
      refine ⟨r62_of (by omega) (by omega), loop _ fun ms l o hm hlen hl => ?_⟩
      dsimp! []
      exact fin ms l way hm hlen hl
    · dsimp! [go, go2]
      refine ⟨r62_of (by omega) (by omega), loop _ fun ms l o hm hlen hl => ?_⟩
      dsimp! []
      exact fin ms l way hm hlen hl
end
end k78
namespace k78
open PySem Sv
open L2 (atI ixN)
local macro_rules | `(tactic| simp! [$xs,*]) => `(tactic| try simp only [List.map_cons, List.map_nil, List.length_cons, List.length_nil, Nat.zero_add, Nat.reduceAdd, Nat.reduceSub, List.replicate, List.cons_append, List.nil_append, List.append_nil, List.set_cons_zero, List.set_cons_succ, List.zip_cons_cons, List.zip_nil_right, List.foldl_cons, List.foldl_nil, wipeE,
  es_cons, es_nil, es_ret, es_expr, es_if, es_set, es_par, es_asg, es_fd, es_forE, es_raise, es_retN, es_break, es_cont, es_bad, es_pass, es_try, ev_call, ev_cons, ev_nil, ev_con, ev_var, look0, lookS, ev_s1, ev_s2, ev_app, ev_and, ev_or, ev_not, ev_ite, ev_chain, ev_tup, ev_lst, ev_lstM, ev_comp, ev_compM, ev_dict, ev_dict2, ev_cYes, ev_cOne, ev_r1, ev_r2, ev_it, ev_il, ev_iK, ev_iS, ev_sl, ev_oNone, ev_oSome, ev_en, ev_z, ev_fdg, ev_mth, ev_mk, ev_dict0, ev_star, es_append, ev_ho,
  eg_tp, eg_gcons, eg_nm, eg_gnil, eg_sb, onB_bl, ev_addI, ev_subI, ev_modI, ev_divI, ev_ltI, ev_leI, ev_gtI, ev_geI, ev_int, ev_len_t, ev_len_l, ev_len_f, ev_tuple_t, ev_tuple_l, ev_list_t, ev_list_l, ev_isN, ev_notN, ev_sorted_l, ev_max, ev_min, ev_abs, ev_inK, ev_ixK, ev_slT, ev_slL, isNon, isi_int_non, isi_int_bl, isi_int_int, isi_int_str, isi_int_tup, isi_int_lst, isi_int_frl, isi_int_dct, isi_bool_non, isi_bool_bl, isi_bool_int, isi_bool_str, isi_bool_tup, isi_bool_lst, isi_bool_frl, isi_bool_dct, isi_str_non, isi_str_bl, isi_str_int, isi_str_str, isi_str_tup, isi_str_lst, isi_str_frl, isi_str_dct, isi_tuple_non, isi_tuple_bl, isi_tuple_int, isi_tuple_str, isi_tuple_tup, isi_tuple_lst, isi_tuple_frl, isi_tuple_dct, isi_list_non, isi_list_bl, isi_list_int, isi_list_str, isi_list_tup, isi_list_lst, isi_list_frl, isi_list_dct, isi_dict_non, isi_dict_bl, isi_dict_int, isi_dict_str, isi_dict_tup, isi_dict_lst, isi_dict_frl, isi_dict_dct,
  List.cons.injEq, D.int.injEq, D.tup.injEq, D.lst.injEq, D.str.injEq, D.bl.injEq, D.ref.injEq, exists_eq_left', exists_eq, false_and, and_false, exists_false, or_false, false_or, exists_const, and_self, and_assoc, exists_and_left, Nat.zero_le, Nat.reduceLeDiff,
  ne_eq, reduceCtorEq, not_false_eq_true, true_and, and_true, decide_eq_true_eq, Bool.false_eq_true, if_false, if_true, Bool.not_true, Bool.not_false, List.length_map, $xs,*])
local macro_rules | `(tactic| dsimp! [$xs,*]) => `(tactic| simp! [ev_ixT, at0_1, at0_2, at1_2, Option.some.injEq, ev_eq, ev_ne, flat_str, strOk_of, flat_int, flat_tints, flat_tnil, eqD_str, eqD_int, eqD_tnil, st_look_still, st_miss_still, st_look_miss, st_still_miss, decide_false, decide_true, isEmpty_map, List.isEmpty_iff, $xs,*])
section
variable {P : D → Store → Prop} {X : Ex → Store → Prop} {st : Store} {env : Sv.Env}
variable {n : Nat} {sorts wide least most misread : Int} {ring ps : List Int} {ds : List Dd} {c : Nat}
theorem w_made (q : Parts sorts ring wide least most misread) (k : P (.ref st.length) (st ++ [flw sorts ring wide least most misread (.tup (rgD 0 ring.length)) (.tup []) (.ref (st.length + 1)), .lst []])) : Ev (m__law_made [partsD sorts ring wide least most misread] st) P X := by
  refine (ev_fn (ds := [_]) rfl).mpr ?_
  unfold b__law_made partsD
  dsimp! [at_6]
  refine v_init q (get_last _ _) ⟨rfl, ?_⟩
  rw [List.length_append]
  have e : ((st ++ [Ob.ins "Follower" []]) ++ [Ob.lst []]).set st.length (flw sorts ring wide least most misread (.tup (rgD 0 ring.length)) (.tup []) (.ref (st.length + [Ob.ins "Follower" []].length))) = st ++ [flw sorts ring wide least most misread (.tup (rgD 0 ring.length)) (.tup []) (.ref (st.length + 1)), .lst []] := by
    rw [List.append_assoc, List.set_append_right _ _ (Nat.le_refl _)]
    simp
  rw [e]
  exact k
/-! ### what repr shows -/
theorem nice_marks {l : List Int} (h : ∀ m ∈ l, 0 ≤ m ∧ m < 1024) {w k : Nat} (hk : l.length ≤ k) (hw : k * 11 ≤ w) {j : Nat} : Nice (j + 1) w (.tup (l.map D.int)) := by
  refine nice_tup (n := j) (w := 10) (k := k) (fun d hd => ?_) (by rw [List.length_map]; exact hk) hw
  obtain ⟨m, hm, rfl⟩ := List.mem_map.mp hd
  have := h m hm
  exact nice_int (by omega) (Nat.le_refl _)
theorem Pl.nice {m : Nat} (h : Pl m ps) (hm : m ≤ 9) {j : Nat} : Nice (j + 1) 99 (.tup (ps.map D.int)) := nice_marks (k := 9) (fun p hp => by have := h.i p hp; omega) (by have := h.len; omega) (by omega)
theorem Dd.nice {d : Dd} (h : d.Ok sorts wide) (hs : sorts ≤ 100) (hw : wide ≤ 9) : Nice 2 200 d.d := by
  have key : ∀ (x : Str) (ms : List Int), (PyData.strOk x && PyData.strOk (reprText x)) = true → x.cps.size ≤ 99 → Marks sorts ms → (ms.length : Int) = wide → Nice 2 200 (.tup [.str x, .tup (ms.map D.int)]) := by
    intro x ms h1 h2 hm hl
    refine nice_tup (n := 1) (w := 99) (k := 2) (fun d hd => ?_) (Nat.le_refl _) (by omega)
    rcases List.mem_cons.mp hd with rfl | hd
    · exact nice_str h1 h2
    · rw [List.mem_singleton.mp hd]
      exact nice_marks (k := 9) (fun m hmm => by have := hm m hmm; omega) (by omega) (by omega)
  cases d with
  | miss => exact nice_tup (n := 1) (w := 99) (k := 1) (fun d hd => by rw [List.mem_singleton.mp hd]; exact nice_str (by decide +kernel) (by decide +kernel)) (Nat.le_refl _) (by omega)
  | look ms => exact key _ ms (by decide +kernel) (by decide +kernel) h.1 h.2
  | still ms => exact key _ ms (by decide +kernel) (by decide +kernel) h.1 h.2
theorem nice_deeds (h : ∀ d ∈ ds, d.Ok sorts wide) (hs : sorts ≤ 100) (hw : wide ≤ 9) (hl : ds.length ≤ 100) : Nice 3 20100 (.tup (ds.map Dd.d)) := by
  refine nice_tup (n := 2) (w := 200) (k := 100) (fun d hd => ?_) (by rw [List.length_map]; exact hl) (by omega)
  obtain ⟨x, hx, rfl⟩ := List.mem_map.mp hd
  exact Dd.nice (h x hx) hs hw
theorem nice3 {a b d : D} {w : Nat} {j : Nat} (ha : Nice j w a) (hb : Nice j w b) (hd : Nice j w d) : Nice (j + 1) (3 * (w + 1)) (.lst [a, b, d]) := by
  refine nice_lst (n := j) (w := w) (k := 3) (fun x hx => ?_) (Nat.le_refl _) (Nat.le_refl _)
  simp only [List.mem_cons, List.not_mem_nil, or_false] at hx
  rcases hx with rfl | rfl | rfl
  · exact ha
  · exact hb
  · exact hd
theorem strOk_why {first : Bool} {d : Dd} : PyData.strOk (whyI ring wide least most misread ps first d) = true := by
  by_cases h : (∃ ms, d = .still ms) ∧ first = true
  · obtain ⟨⟨ms, rfl⟩, rfl⟩ := h
    exact strOk_of _
  · rw [whyI_def h]
    split <;> exact strOk_of _
theorem why_some {first : Bool} {d : Dd} (h : whyI ring wide least most misread ps first d = "") : movedI ring wide least most misread ps first d ≠ [] := by
  by_cases hf : (∃ ms, d = .still ms) ∧ first = true
  · obtain ⟨⟨ms, rfl⟩, rfl⟩ := hf
    have : (("first" : Str) = "") := h
    rw [first_ne] at this
    exact this.elim
  · rw [whyI_def hf] at h
    intro z
    rw [if_pos z, never_ne] at h
    exact h.elim
/-- how things stand -/
structure Led (st : Store) (n f p : Nat) (sorts : Int) (ring : List Int) (wide least most misread : Int) (ps : List Int) (ds : List Dd) (past : List D) : Prop where
  pool : Pool st n
  fl : Flw st f sorts ring wide least most misread ps ds (.ref p)
  pa : st[p]? = some (.lst past)
  nf : n ≠ f
  np : n ≠ p
  pf : p ≠ f
  pl : Pl ring.length ps
  ne : ps ≠ []
  ok : ∀ d ∈ ds, d.Ok sorts wide
theorem Led.set {f p : Nat} {past : List D} {l : Ob} (h : Led st n f p sorts ring wide least most misread ps ds past) (hl : PoolV l) : Led (st.set n l) n f p sorts ring wide least most misread ps ds past :=
  ⟨h.pool.set hl, by show (st.set n l)[f]? = _; rw [List.getElem?_set_ne h.nf]; exact h.fl, by rw [List.getElem?_set_ne h.np]; exact h.pa, h.nf, h.np, h.pf, h.pl, h.ne, h.ok⟩
theorem app_get {i : Nat} {o : Ob} {g : List Ob} (h : st[i]? = some o) : (st ++ g)[i]? = some o := by
  rw [List.getElem?_append_left (List.getElem?_eq_some_iff.mp h).1]
  exact h
theorem Led.app {f p : Nat} {past : List D} {g : List Ob} (h : Led st n f p sorts ring wide least most misread ps ds past) : Led (st ++ g) n f p sorts ring wide least most misread ps ds past := by
  obtain ⟨l, h1, h2⟩ := h.pool
  exact ⟨⟨l, app_get h1, h2⟩, app_get h.fl, app_get h.pa, h.nf, h.np, h.pf, h.pl, h.ne, h.ok⟩
theorem Led.done {f p : Nat} {past : List D} {d : Dd} (q : Parts sorts ring wide least most misread) (h : Led st n f p sorts ring wide least most misread ps ds past) (hd : d.Ok sorts wide) (hw : whyI ring wide least most misread ps (decide (ds.length = 0)) d = "") :
    Led (doneSt st f p sorts ring wide least most misread ps ds past d) n f p sorts ring wide least most misread (movedI ring wide least most misread ps (decide (ds.length = 0)) d) (ds ++ [d]) (past ++ [.tup (ps.map D.int)]) := by
  obtain ⟨l, h1, h2⟩ := h.pool
  have hf : f < st.length := (List.getElem?_eq_some_iff.mp h.fl).1
  have hp : p < st.length := (List.getElem?_eq_some_iff.mp h.pa).1
  refine ⟨⟨l, ?_, h2⟩, ?_, ?_, h.nf, h.np, h.pf, movedI_pl q.r1 h.pl d, why_some hw, fun x hx => ?_⟩
  · rw [List.getElem?_set_ne h.nf.symm, List.getElem?_set_ne h.np.symm]
    exact h1
  · exact List.getElem?_set_self (by rw [List.length_set]; exact hf)
  · rw [List.getElem?_set_ne h.pf.symm]
    exact List.getElem?_set_self hp
  · rcases List.mem_append.mp hx with z | z
    · exact h.ok x z
    · rw [List.mem_singleton.mp z]
      exact hd
end
end k78
namespace k78
open PySem Sv
open L2 (atI ixN)
local macro_rules | `(tactic| simp! [$xs,*]) => `(tactic| try simp only [List.map_cons, List.map_nil, List.length_cons, List.length_nil, Nat.zero_add, Nat.reduceAdd, Nat.reduceSub, List.replicate, List.cons_append, List.nil_append, List.append_nil, List.set_cons_zero, List.set_cons_succ, List.zip_cons_cons, List.zip_nil_right, List.foldl_cons, List.foldl_nil, wipeE,
  es_cons, es_nil, es_ret, es_expr, es_if, es_set, es_par, es_asg, es_fd, es_forE, es_raise, es_retN, es_break, es_cont, es_bad, es_pass, es_try, ev_call, ev_cons, ev_nil, ev_con, ev_var, look0, lookS, ev_s1, ev_s2, ev_app, ev_and, ev_or, ev_not, ev_ite, ev_chain, ev_tup, ev_lst, ev_lstM, ev_comp, ev_compM, ev_dict, ev_dict2, ev_cYes, ev_cOne, ev_r1, ev_r2, ev_it, ev_il, ev_iK, ev_iS, ev_sl, ev_oNone, ev_oSome, ev_en, ev_z, ev_fdg, ev_mth, ev_mk, ev_dict0, ev_star, es_append, ev_ho,
  eg_tp, eg_gcons, eg_nm, eg_gnil, eg_sb, onB_bl, ev_addI, ev_subI, ev_modI, ev_divI, ev_ltI, ev_leI, ev_gtI, ev_geI, ev_int, ev_len_t, ev_len_l, ev_len_f, ev_tuple_t, ev_tuple_l, ev_list_t, ev_list_l, ev_isN, ev_notN, ev_sorted_l, ev_max, ev_min, ev_abs, ev_inK, ev_ixK, ev_slT, ev_slL, isNon, isi_int_non, isi_int_bl, isi_int_int, isi_int_str, isi_int_tup, isi_int_lst, isi_int_frl, isi_int_dct, isi_bool_non, isi_bool_bl, isi_bool_int, isi_bool_str, isi_bool_tup, isi_bool_lst, isi_bool_frl, isi_bool_dct, isi_str_non, isi_str_bl, isi_str_int, isi_str_str, isi_str_tup, isi_str_lst, isi_str_frl, isi_str_dct, isi_tuple_non, isi_tuple_bl, isi_tuple_int, isi_tuple_str, isi_tuple_tup, isi_tuple_lst, isi_tuple_frl, isi_tuple_dct, isi_list_non, isi_list_bl, isi_list_int, isi_list_str, isi_list_tup, isi_list_lst, isi_list_frl, isi_list_dct, isi_dict_non, isi_dict_bl, isi_dict_int, isi_dict_str, isi_dict_tup, isi_dict_lst, isi_dict_frl, isi_dict_dct,
  List.cons.injEq, D.int.injEq, D.tup.injEq, D.lst.injEq, D.str.injEq, D.bl.injEq, D.ref.injEq, exists_eq_left', exists_eq, false_and, and_false, exists_false, or_false, false_or, exists_const, and_self, and_assoc, exists_and_left, Nat.zero_le, Nat.reduceLeDiff,
  ne_eq, reduceCtorEq, not_false_eq_true, true_and, and_true, decide_eq_true_eq, Bool.false_eq_true, if_false, if_true, Bool.not_true, Bool.not_false, List.length_map, $xs,*])
local macro_rules | `(tactic| dsimp! [$xs,*]) => `(tactic| simp! [ev_ixT, at0_1, at0_2, at1_2, Option.some.injEq, ev_eq, ev_ne, flat_str, strOk_of, flat_int, flat_tints, flat_tnil, eqD_str, eqD_int, eqD_tnil, st_look_still, st_miss_still, st_look_miss, st_still_miss, decide_false, decide_true, isEmpty_map, List.isEmpty_iff, $xs,*])
/-! ### what is shown alike is alike -/
def dg (s : Str) : List Nat := s.cps.toList.filter fun c => decide (48 ≤ c) && decide (c ≤ 57)
theorem dg_app (a b : Str) : dg (a ++ b) = dg a ++ dg b := by
  unfold dg
  rw [PyProof.Rows.cps_toList_append, List.filter_append]
theorem dg_join {sep : Str} (h : dg sep = []) : ∀ ts : List Str, dg (Str.join sep ts) = ts.flatMap dg
  | [] => by simp [Str.join]; rfl
  | [x] => by simp [Str.join]
  | x :: y :: r => by
    have ih := dg_join h (y :: r)
    show dg (x ++ sep ++ Str.join sep (y :: r)) = _
    rw [dg_app, dg_app, h, ih, List.append_nil]
    rfl
theorem dg_tuple (ts : List Str) : dg (tupleText ts) = ts.flatMap dg := by
  unfold tupleText
  rw [dg_app, dg_app, dg_join (by kernel_rfl)]
  have e : dg ((if ts.length == 1 then ",)" else ")" : String) : Str) = [] := by
    split
    · kernel_rfl
    · kernel_rfl
  rw [e, List.append_nil]
  have e2 : dg ("(" : Str) = [] := by kernel_rfl
  rw [e2, List.nil_append]
theorem dg_int {i : Int} (h0 : 0 ≤ i) (h1 : i ≤ 9) : dg (shownD (.int i)) = [48 + i.toNat] := by
  have : i = 0 ∨ i = 1 ∨ i = 2 ∨ i = 3 ∨ i = 4 ∨ i = 5 ∨ i = 6 ∨ i = 7 ∨ i = 8 ∨ i = 9 := by omega
  rcases this with rfl | rfl | rfl | rfl | rfl | rfl | rfl | rfl | rfl | rfl <;> kernel_rfl
theorem dg_ints : ∀ {l : List Int}, (∀ i ∈ l, 0 ≤ i ∧ i ≤ 9) → ((l.map D.int).map shownD).flatMap dg = l.map fun i => 48 + i.toNat
  | [], _ => rfl
  | i :: l, h => by
    have h1 := h i (by simp)
    rw [List.map_cons, List.map_cons, List.flatMap_cons, List.map_cons, dg_int h1.1 h1.2, dg_ints fun j hj => h j (by simp [hj])]
    rfl
theorem shown_tup (ds : List D) : shownD (.tup ds) = tupleText (ds.map shownD) := by
  have : ∀ ds : List D, PyData.shownAll (toPs ds) = ds.map shownD := by
    intro ds
    induction ds with
    | nil => rfl
    | cons d ds ih => show _ :: _ = _; rw [ih]; rfl
  show tupleText (PyData.shownAll (toPs ds)) = _
  rw [this]
section
variable {so wi le mo mi so' wi' le' mo' mi' : Int} {rg rg' : List Int}
theorem dg_parts (q : Parts so rg wi le mo mi) : dg (shownD (partsD so rg wi le mo mi)) = (48 + so.toNat) :: (rg.map fun i => 48 + i.toNat) ++ [48 + wi.toNat, 48 + le.toNat, 48 + mo.toNat, 48 + mi.toNat] := by
  have := q.s1; have := q.s2; have := q.w1; have := q.w2
  have hm : ∀ i ∈ rg, 0 ≤ i ∧ i ≤ 9 := fun i hi => by have := q.m i hi; omega
  have := q.l1; have := q.l2; have := q.o1; have := q.o2; have := q.i1; have := q.i2
  unfold partsD
  rw [shown_tup, dg_tuple]
  show dg (shownD (.int so)) ++ (dg (shownD (.tup (rg.map D.int))) ++ (dg (shownD (.int wi)) ++ (dg (shownD (.int le)) ++ (dg (shownD (.int mo)) ++ (dg (shownD (.int mi)) ++ []))))) = _
  rw [dg_int (by omega) (by omega), dg_int (by omega) (by omega), dg_int (by omega) (by omega), dg_int (by omega) (by omega), dg_int (by omega) (by omega), shown_tup, dg_tuple, dg_ints hm]
  simp
theorem parts_inj (q : Parts so rg wi le mo mi) (q' : Parts so' rg' wi' le' mo' mi') (h : shownD (partsD so rg wi le mo mi) = shownD (partsD so' rg' wi' le' mo' mi')) : so = so' ∧ rg = rg' ∧ wi = wi' ∧ le = le' ∧ mo = mo' ∧ mi = mi' := by
  have e := congrArg dg h
  rw [dg_parts q, dg_parts q', List.cons_append, List.cons_append, List.cons.injEq] at e
  obtain ⟨e1, e2⟩ := e
  have hl : rg.length = rg'.length := by
    have := congrArg List.length e2
    simp only [List.length_append, List.length_map, List.length_cons, List.length_nil] at this
    omega
  obtain ⟨e3, e4⟩ := List.append_inj e2 (by rw [List.length_map, List.length_map, hl])
  simp only [List.cons.injEq, and_true] at e4
  obtain ⟨e5, e6, e7, e8⟩ := e4
  have := q.s1; have := q.w1; have := q.l1; have := q.o1; have := q.i1
  have := q'.s1; have := q'.w1; have := q'.l1; have := q'.o1; have := q'.i1
  refine ⟨by omega, ?_, by omega, by omega, by omega, by omega⟩
  refine List.ext_getElem hl fun i h1 h2 => ?_
  have := congrArg (fun l => l[i]?) e3
  simp only [List.getElem?_map, List.getElem?_eq_getElem h1, List.getElem?_eq_getElem h2, Option.map_some, Option.some.injEq] at this
  have := q.m _ (List.getElem_mem h1)
  have := q'.m _ (List.getElem_mem h2)
  omega
theorem eqD_int {a b : Int} : eqD (.int a) (.int b) = decide (a = b) := by
  simp [eqD, toP, PyData.eqv]
  rfl
theorem eqD_ints : ∀ {as bs : List Int}, eqD (.tup (as.map D.int)) (.tup (bs.map D.int)) = true → as = bs
  | [], [], _ => rfl
  | [], b :: bs, h => by simp [eqD, toP, toPs, PyData.eqv, PyData.eqvAll] at h
  | a :: as, [], h => by simp [eqD, toP, toPs, PyData.eqv, PyData.eqvAll] at h
  | a :: as, b :: bs, h => by
    have h' : a = b ∧ eqD (.tup (as.map D.int)) (.tup (bs.map D.int)) = true := by
      simpa [eqD, toP, toPs, PyData.eqv, PyData.eqvAll] using h
    rw [h'.1, eqD_ints h'.2]
theorem parts_eq (q : Parts so rg wi le mo mi) (q' : Parts so' rg' wi' le' mo' mi') : eqD (partsD so rg wi le mo mi) (partsD so' rg' wi' le' mo' mi') = decide (shownD (partsD so rg wi le mo mi) = shownD (partsD so' rg' wi' le' mo' mi')) := by
  rw [Bool.eq_iff_iff, decide_eq_true_iff]
  constructor
  · intro h
    have h' : so = so' ∧ eqD (.tup (rg.map D.int)) (.tup (rg'.map D.int)) = true ∧ wi = wi' ∧ le = le' ∧ mo = mo' ∧ mi = mi' := by
      simpa [partsD, eqD, toP, toPs, PyData.eqv, PyData.eqvAll] using h
    obtain ⟨rfl, h2, rfl, rfl, rfl, rfl⟩ := h'
    rw [eqD_ints h2]
  · intro h
    obtain ⟨rfl, rfl, rfl, rfl, rfl, rfl⟩ := parts_inj q q' h
    refine eqD_refl (flat_up (n := 2) (by decide) ?_)
    unfold partsD
    rw [flat_tup]
    show (flat 1 (.int so) && (flat 1 (.tup (rg.map D.int)) && (flat 1 (.int wi) && (flat 1 (.int le) && (flat 1 (.int mo) && (flat 1 (.int mi) && true)))))) = true
    rw [flat_int, flat_int, flat_int, flat_int, flat_int, flat_tup, flats_ints]
    rfl
end
end k78
namespace k78
open PySem Sv
open L2 (atI ixN)
local macro_rules | `(tactic| simp! [$xs,*]) => `(tactic| try simp only [List.map_cons, List.map_nil, List.length_cons, List.length_nil, Nat.zero_add, Nat.reduceAdd, Nat.reduceSub, List.replicate, List.cons_append, List.nil_append, List.append_nil, List.set_cons_zero, List.set_cons_succ, List.zip_cons_cons, List.zip_nil_right, List.foldl_cons, List.foldl_nil, wipeE,
  es_cons, es_nil, es_ret, es_expr, es_if, es_set, es_par, es_asg, es_fd, es_forE, es_raise, es_retN, es_break, es_cont, es_bad, es_pass, es_try, ev_call, ev_cons, ev_nil, ev_con, ev_var, look0, lookS, ev_s1, ev_s2, ev_app, ev_and, ev_or, ev_not, ev_ite, ev_chain, ev_tup, ev_lst, ev_lstM, ev_comp, ev_compM, ev_dict, ev_dict2, ev_cYes, ev_cOne, ev_r1, ev_r2, ev_it, ev_il, ev_iK, ev_iS, ev_sl, ev_oNone, ev_oSome, ev_en, ev_z, ev_fdg, ev_mth, ev_mk, ev_dict0, ev_star, es_append, ev_ho,
  eg_tp, eg_gcons, eg_nm, eg_gnil, eg_sb, onB_bl, ev_addI, ev_subI, ev_modI, ev_divI, ev_ltI, ev_leI, ev_gtI, ev_geI, ev_int, ev_len_t, ev_len_l, ev_len_f, ev_tuple_t, ev_tuple_l, ev_list_t, ev_list_l, ev_isN, ev_notN, ev_sorted_l, ev_max, ev_min, ev_abs, ev_inK, ev_ixK, ev_slT, ev_slL, isNon, isi_int_non, isi_int_bl, isi_int_int, isi_int_str, isi_int_tup, isi_int_lst, isi_int_frl, isi_int_dct, isi_bool_non, isi_bool_bl, isi_bool_int, isi_bool_str, isi_bool_tup, isi_bool_lst, isi_bool_frl, isi_bool_dct, isi_str_non, isi_str_bl, isi_str_int, isi_str_str, isi_str_tup, isi_str_lst, isi_str_frl, isi_str_dct, isi_tuple_non, isi_tuple_bl, isi_tuple_int, isi_tuple_str, isi_tuple_tup, isi_tuple_lst, isi_tuple_frl, isi_tuple_dct, isi_list_non, isi_list_bl, isi_list_int, isi_list_str, isi_list_tup, isi_list_lst, isi_list_frl, isi_list_dct, isi_dict_non, isi_dict_bl, isi_dict_int, isi_dict_str, isi_dict_tup, isi_dict_lst, isi_dict_frl, isi_dict_dct,
  List.cons.injEq, D.int.injEq, D.tup.injEq, D.lst.injEq, D.str.injEq, D.bl.injEq, D.ref.injEq, exists_eq_left', exists_eq, false_and, and_false, exists_false, or_false, false_or, exists_const, and_self, and_assoc, exists_and_left, Nat.zero_le, Nat.reduceLeDiff,
  ne_eq, reduceCtorEq, not_false_eq_true, true_and, and_true, decide_eq_true_eq, Bool.false_eq_true, if_false, if_true, Bool.not_true, Bool.not_false, List.length_map, $xs,*])
local macro_rules | `(tactic| dsimp! [$xs,*]) => `(tactic| simp! [ev_ixT, at0_1, at0_2, at1_2, Option.some.injEq, ev_eq, ev_ne, flat_str, strOk_of, flat_int, flat_tints, flat_tnil, eqD_str, eqD_int, eqD_tnil, st_look_still, st_miss_still, st_look_miss, st_still_miss, decide_false, decide_true, isEmpty_map, List.isEmpty_iff, $xs,*])
abbrev numX (x : D) : Ex := ⟨"InvalidNumber", some ("given", x)⟩
abbrev ringX (x : D) : Ex := ⟨"InvalidRing", some ("index", x)⟩
section
variable {P : D → Store → Prop} {X : Ex → Store → Prop} {st : Store} {env : Sv.Env}
variable {n : Nat} {so wi le mo mi : Int} {rg : List Int}
/-! ### what is refused -/
/-- no whole number between -/
def noNum (a b : Int) (x : D) : Prop := x = .non ∨ (∃ s, x = .str s) ∨ (∃ t, x = .bl t) ∨ ∃ i, x = .int i ∧ (i < a ∨ b < i)
theorem noNum.nf {a b : Int} {x : D} (h : noNum a b x) : (x = .fnv) = False := by
  rcases h with rfl | ⟨s, rfl⟩ | ⟨t, rfl⟩ | ⟨i, rfl, h⟩ <;> simp
theorem q_no {a b : Int} {x : D} (h : noNum a b x) : m_is_between [x, .int a, .int b] st = .ok (.bl false) st := by
  rcases h with rfl | ⟨s, rfl⟩ | ⟨t, rfl⟩ | ⟨i, rfl, h⟩
  · rfl
  · rfl
  · rfl
  · rw [q_is_between]
    have : (decide (a ≤ i) && decide (i ≤ b)) = false := by
      rw [Bool.and_eq_false_iff, decide_eq_false_iff_not, decide_eq_false_iff_not]
      omega
    rw [this]
theorem x_sorts {x : D} (h : noNum 2 4 x) (k : X (numX x) st) : Ev (m_check_sorts [x] st) P X := by
  refine (ev_fn (ds := [_]) rfl).mpr ?_
  unfold b_check_sorts
  dsimp! [h.nf]
  refine (ev_fn (ds := [_]) rfl).mpr ?_
  unfold b_is_sorts
  dsimp! [h.nf, ev_eqn' (q_no h)]
  exact k
theorem x_wide {x : D} (h : noNum 1 6 x) (k : X (numX x) st) : Ev (m_check_wide [x] st) P X := by
  refine (ev_fn (ds := [_]) rfl).mpr ?_
  unfold b_check_wide
  dsimp! [h.nf]
  refine (ev_fn (ds := [_]) rfl).mpr ?_
  unfold b_is_wide
  dsimp! [h.nf, ev_eqn' (q_no h)]
  exact k
/-- no row of marks; what is told -/
inductive noRow (so : Int) : D → D → Prop
  | non : noRow so .non .non
  | lst (ds : List D) : noRow so (.lst ds) .non
  | nil : noRow so (.tup []) .non
  | at_ (ms : List Int) (v : D) (r : List D) : Marks so ms → ms.length + 1 + r.length ≤ 32 → noNum 0 (so - 1) v → noRow so (.tup (ms.map D.int ++ v :: r)) (.int ms.length)
theorem noRow.nf {v t : D} (h : noRow so v t) : (v = .fnv) = False := by cases h <;> simp
theorem q_noMark {v : D} (h : noNum 0 (so - 1) v) : m_is_mark [.int so, v] st = .ok (.bl false) st := by
  refine eq_of_ev ?_
  refine (ev_fn (ds := [_, _]) rfl).mpr ?_
  unfold b_is_mark
  simp! [h.nf, ev_eqn' (q_no h)]
theorem enum_at : ∀ (as : List D) (k : Nat) (v : D) (r : List D), enumD k (as ++ v :: r) = enumD k as ++ .tup [.int ((k + as.length : Nat) : Int), v] :: enumD (k + as.length + 1) r
  | [], k, v, r => rfl
  | a :: as, k, v, r => by
    show D.tup [.int (k : Nat), a] :: enumD (k + 1) (as ++ v :: r) = D.tup [.int (k : Nat), a] :: enumD (k + 1) as ++ _
    rw [enum_at as (k + 1) v r, List.length_cons, show k + 1 + as.length = k + (as.length + 1) by omega]
    rfl
theorem enumD_len : ∀ (ds : List D) (k : Nat), (enumD k ds).length = ds.length
  | [], _ => rfl
  | a :: ds, k => by
    show (_ :: enumD (k + 1) ds).length = _
    rw [List.length_cons, enumD_len ds (k + 1), List.length_cons]
theorem unF_noNum {a b : Int} {x : D} (h : noNum a b x) : unF x = some x := by
  rcases h with rfl | ⟨s, rfl⟩ | ⟨t, rfl⟩ | ⟨i, rfl, h⟩ <;> rfl
theorem v_wrong_at {ms : List Int} {v : D} {r : List D} (hm : Marks so ms) (h : noNum 0 (so - 1) v) (k : P (.int ms.length) st) : Ev (m_wrong_mark [.int so, .tup (ms.map D.int ++ v :: r)] st) P X := by
  refine (ev_fn (ds := [_, _]) rfl).mpr ?_
  unfold b_wrong_mark
  simp! []
  refine (ev_fnH (ds := [_]) rfl).mpr ?_
  unfold h_first_wrong
  simp! []
  have ee : enumD 0 (ms.map D.int ++ v :: r) = enumD 0 (ms.map D.int) ++ .tup [.int (ms.length : Int), v] :: enumD (ms.length + 1) r := by
    rw [enum_at, List.length_map]
    simp
  rw [ee]
  refine es_loop (fun done env st' => ∃ o1 o2, env = [some (.tup (ms.map D.int ++ v :: r)), some .fnv, o1, o2] ∧ st' = st ∧ done.length ≤ ms.length) ⟨none, none, rfl, rfl, Nat.zero_le _⟩ ?_ ?_
  · rintro done d rest env st' e ⟨o1, o2, rfl, rfl, hl⟩
    have len : (enumD 0 (ms.map D.int)).length = ms.length := by rw [enumD_len, List.length_map]
    by_cases hd : done.length < ms.length
    · have hm1 : d ∈ enumD 0 (ms.map D.int) := by
        have h1 : (enumD 0 (ms.map D.int) ++ D.tup [.int (ms.length : Int), v] :: enumD (ms.length + 1) r)[done.length]? = some d := by rw [e]; simp
        rw [List.getElem?_append_left (by omega)] at h1
        exact List.mem_of_getElem? h1
      obtain ⟨i, x, rfl, hx⟩ := mem_enum _ 0 d hm1
      obtain ⟨m, hmm, rfl⟩ := List.mem_map.mp hx
      simp! []
      refine ev_cv.mpr ⟨rfl, ?_⟩
      simp! []
      refine (ev_lam (as := [_, _]) rfl).mpr ?_
      simp! [strip, unF, ev_eqn' q_mark]
      rw [decide_eq_true (hm m hmm).1, decide_eq_true (show m ≤ so - 1 by have := (hm m hmm).2; omega)]
      rw [List.length_append]
      exact hd
    · have hde : d = .tup [.int (ms.length : Int), v] := by
        have h1 : (enumD 0 (ms.map D.int) ++ D.tup [.int (ms.length : Int), v] :: enumD (ms.length + 1) r)[done.length]? = some d := by rw [e]; simp
        rw [show done.length = (enumD 0 (ms.map D.int)).length by omega] at h1
        simpa using h1.symm
      subst hde
      simp! [h.nf]
      refine ev_cv.mpr ⟨rfl, ?_⟩
      simp! [h.nf]
      refine (ev_lam (as := [_, _]) rfl).mpr ?_
      simp! [strip, unF, unF_noNum h, h.nf, ev_eqn' (q_noMark h)]
      exact k
  · rintro env st' ⟨o1, o2, rfl, rfl, hl⟩
    exfalso
    rw [List.length_append, enumD_len, List.length_map, List.length_cons] at hl
    omega
theorem x_ring {v t : D} (h : noRow so v t) (k : X (ringX t) st) : Ev (m_check_ring [.int so, v] st) P X := by
  refine (ev_fn (ds := [_, _]) rfl).mpr ?_
  unfold b_check_ring
  dsimp! [h.nf]
  refine (ev_fn (ds := [_, _, _, _]) rfl).mpr ?_
  unfold b_check_marks
  have e1 : ∀ st, isiD (ansB "tuple") (.lst []) st = .ok (.bl false) st := fun _ => rfl
  have row : ∀ {x : D} (P : D → Store → Prop) (X : Ex → Store → Prop), (x = .non ∨ ∃ ds, x = .lst ds) → P (.bl false) st → Ev (m_is_row [x, .int 1, .int 32] st) P X := by
    rintro x P X (rfl | ⟨ds, rfl⟩) k
    · refine (ev_fn (ds := [_, _, _]) rfl).mpr ?_
      unfold b_is_row
      simp! []
      exact k
    · refine (ev_fn (ds := [_, _, _]) rfl).mpr ?_
      unfold b_is_row
      simp! []
      exact k
  cases h with
  | non =>
    dsimp! []
    refine row _ _ (.inl rfl) ?_
    dsimp! []
    refine row _ _ (.inl rfl) ?_
    dsimp! []
    exact k
  | lst ds =>
    dsimp! []
    refine row _ _ (.inr ⟨_, rfl⟩) ?_
    dsimp! []
    refine row _ _ (.inr ⟨_, rfl⟩) ?_
    dsimp! []
    exact k
  | nil =>
    dsimp! [v_row]
    exact k
  | at_ ms v r hm hl hv =>
    have e : (decide ((1 : Int) ≤ ((ms.map D.int ++ v :: r).length : Nat)) && decide ((((ms.map D.int ++ v :: r).length : Nat) : Int) ≤ 32)) = true := by
      rw [List.length_append, List.length_map, List.length_cons, decide_eq_true (by omega), decide_eq_true (by omega)]
      rfl
    dsimp! [v_row, e]
    refine v_wrong_at hm hv ?_
    dsimp! [v_row, e]
    exact k
end
end k78
namespace k78
open PySem Sv
open L2 (atI ixN)
local macro_rules | `(tactic| simp! [$xs,*]) => `(tactic| try simp only [List.map_cons, List.map_nil, List.length_cons, List.length_nil, Nat.zero_add, Nat.reduceAdd, Nat.reduceSub, List.replicate, List.cons_append, List.nil_append, List.append_nil, List.set_cons_zero, List.set_cons_succ, List.zip_cons_cons, List.zip_nil_right, List.foldl_cons, List.foldl_nil, wipeE,
  es_cons, es_nil, es_ret, es_expr, es_if, es_set, es_par, es_asg, es_fd, es_forE, es_raise, es_retN, es_break, es_cont, es_bad, es_pass, es_try, ev_call, ev_cons, ev_nil, ev_con, ev_var, look0, lookS, ev_s1, ev_s2, ev_app, ev_and, ev_or, ev_not, ev_ite, ev_chain, ev_tup, ev_lst, ev_lstM, ev_comp, ev_compM, ev_dict, ev_dict2, ev_cYes, ev_cOne, ev_r1, ev_r2, ev_it, ev_il, ev_iK, ev_iS, ev_sl, ev_oNone, ev_oSome, ev_en, ev_z, ev_fdg, ev_mth, ev_mk, ev_dict0, ev_star, es_append, ev_ho,
  eg_tp, eg_gcons, eg_nm, eg_gnil, eg_sb, onB_bl, ev_addI, ev_subI, ev_modI, ev_divI, ev_ltI, ev_leI, ev_gtI, ev_geI, ev_int, ev_len_t, ev_len_l, ev_len_f, ev_tuple_t, ev_tuple_l, ev_list_t, ev_list_l, ev_isN, ev_notN, ev_sorted_l, ev_max, ev_min, ev_abs, ev_inK, ev_ixK, ev_slT, ev_slL, isNon, isi_int_non, isi_int_bl, isi_int_int, isi_int_str, isi_int_tup, isi_int_lst, isi_int_frl, isi_int_dct, isi_bool_non, isi_bool_bl, isi_bool_int, isi_bool_str, isi_bool_tup, isi_bool_lst, isi_bool_frl, isi_bool_dct, isi_str_non, isi_str_bl, isi_str_int, isi_str_str, isi_str_tup, isi_str_lst, isi_str_frl, isi_str_dct, isi_tuple_non, isi_tuple_bl, isi_tuple_int, isi_tuple_str, isi_tuple_tup, isi_tuple_lst, isi_tuple_frl, isi_tuple_dct, isi_list_non, isi_list_bl, isi_list_int, isi_list_str, isi_list_tup, isi_list_lst, isi_list_frl, isi_list_dct, isi_dict_non, isi_dict_bl, isi_dict_int, isi_dict_str, isi_dict_tup, isi_dict_lst, isi_dict_frl, isi_dict_dct,
  List.cons.injEq, D.int.injEq, D.tup.injEq, D.lst.injEq, D.str.injEq, D.bl.injEq, D.ref.injEq, exists_eq_left', exists_eq, false_and, and_false, exists_false, or_false, false_or, exists_const, and_self, and_assoc, exists_and_left, Nat.zero_le, Nat.reduceLeDiff,
  ne_eq, reduceCtorEq, not_false_eq_true, true_and, and_true, decide_eq_true_eq, Bool.false_eq_true, if_false, if_true, Bool.not_true, Bool.not_false, List.length_map, $xs,*])
local macro_rules | `(tactic| dsimp! [$xs,*]) => `(tactic| simp! [ev_ixT, at0_1, at0_2, at1_2, Option.some.injEq, ev_eq, ev_ne, flat_str, strOk_of, flat_int, flat_tints, flat_tnil, eqD_str, eqD_int, eqD_tnil, st_look_still, st_miss_still, st_look_miss, st_still_miss, decide_false, decide_true, isEmpty_map, List.isEmpty_iff, $xs,*])
section
variable {P : D → Store → Prop} {X : Ex → Store → Prop} {st st' : Store} {env : Sv.Env}
variable {n : Nat} {so wi le mo mi : Int} {rg : List Int}
theorem i_sorts {x a b c d e : D} (h : noNum 2 4 x) (ha : a ≠ .fnv) (hb : b ≠ .fnv) (k : X (numX x) st) : Ev (m_Follower___init__ [.ref n, x, a, b, c, d, e] st) P X := by
  refine (ev_fn (ds := [_, _, _, _, _, _, _]) rfl).mpr ?_
  unfold b_Follower___init__
  simp! [h.nf, ha, hb]
  refine (ev_fn (ds := [_, _, _]) rfl).mpr ?_
  unfold b_check_read
  simp! [h.nf, ha, hb]
  refine (ev_fn (ds := [_, _]) rfl).mpr ?_
  unfold b_check_sorted_ring
  simp! [h.nf, ha, hb]
  exact x_sorts h k
theorem i_ring {v t b c d e : D} (s1 : 2 ≤ so) (s2 : so ≤ 4) (h : noRow so v t) (hb : b ≠ .fnv) (k : X (ringX t) st) : Ev (m_Follower___init__ [.ref n, .int so, v, b, c, d, e] st) P X := by
  refine (ev_fn (ds := [_, _, _, _, _, _, _]) rfl).mpr ?_
  unfold b_Follower___init__
  simp! [h.nf, hb]
  refine (ev_fn (ds := [_, _, _]) rfl).mpr ?_
  unfold b_check_read
  simp! [h.nf, hb]
  refine (ev_fn (ds := [_, _]) rfl).mpr ?_
  unfold b_check_sorted_ring
  simp! [h.nf, hb]
  refine v_check_sorts s1 s2 ?_
  exact x_ring h k
theorem i_wide {x c d e : D} (s1 : 2 ≤ so) (s2 : so ≤ 4) (hm : Marks so rg) (h1 : 1 ≤ rg.length) (h2 : rg.length ≤ 32) (h : noNum 1 6 x) (k : X (numX x) st) : Ev (m_Follower___init__ [.ref n, .int so, .tup (rg.map D.int), x, c, d, e] st) P X := by
  refine (ev_fn (ds := [_, _, _, _, _, _, _]) rfl).mpr ?_
  unfold b_Follower___init__
  simp! [h.nf]
  refine (ev_fn (ds := [_, _, _]) rfl).mpr ?_
  unfold b_check_read
  simp! [h.nf]
  refine (ev_fn (ds := [_, _]) rfl).mpr ?_
  unfold b_check_sorted_ring
  simp! [h.nf]
  refine v_check_sorts s1 s2 ?_
  refine v_check_ring hm h1 h2 ?_
  exact x_wide h k
theorem i_least {l m : Int} {e : D} (q : Parts so rg wi le mo mi) (hl : l < 0 ∨ 5 < l) (k : X (numX (.int l)) st) : Ev (m_Follower___init__ [.ref n, .int so, .tup (rg.map D.int), .int wi, .int l, .int m, e] st) P X := by
  refine (ev_fn (ds := [_, _, _, _, _, _, _]) rfl).mpr ?_
  unfold b_Follower___init__
  simp! []
  refine v_check_read q.m q.r1 (by have := q.r2; omega) q.s1 (by have := q.s2; omega) q.w1 (by have := q.w2; omega) ?_
  refine (ev_fn (ds := [_, _]) rfl).mpr ?_
  unfold b_check_steps
  simp! [ev_eqn' (q_no (a := 0) (b := 5) (x := .int l) (.inr (.inr (.inr ⟨l, rfl, hl⟩))))]
  exact k
theorem i_most {l m : Int} {e : D} (q : Parts so rg wi le mo mi) (h0 : 0 ≤ l) (h5 : l ≤ 5) (hl : m < l ∨ 5 < m) (k : X (numX (.int m)) st) : Ev (m_Follower___init__ [.ref n, .int so, .tup (rg.map D.int), .int wi, .int l, .int m, e] st) P X := by
  refine (ev_fn (ds := [_, _, _, _, _, _, _]) rfl).mpr ?_
  unfold b_Follower___init__
  simp! []
  refine v_check_read q.m q.r1 (by have := q.r2; omega) q.s1 (by have := q.s2; omega) q.w1 (by have := q.w2; omega) ?_
  refine (ev_fn (ds := [_, _]) rfl).mpr ?_
  unfold b_check_steps
  simp! [v_between, h0, h5]
  have e1 : (decide (l ≤ m) && decide (m ≤ 5)) = false := by
    rw [Bool.and_eq_false_iff, decide_eq_false_iff_not, decide_eq_false_iff_not]
    omega
  simp only [e1, decide_true, Bool.and_self, Bool.not_true, Bool.not_false, Bool.false_eq_true, if_true, if_false]
  exact k
/-- who is refused tells what it was -/
theorem w_refN {vs : List Nat} {fe : Sv.Env → M D} {x : D} (hx : Nice 1 9999 x) (h : ∀ {P : D → Store → Prop} {X : Ex → Store → Prop}, X (numX x) st' → Ev (fe (strip (wipeE env vs) ++ [].map some) st) P X) (k : P (.lst [.str "number", .str (shownD x), .bl true]) st') :
    Ev (sHO (fnH 0 2 h__law_refused) 0 vs fe aNil env st) P X := by
  rw [ev_ho]
  simp! []
  refine (ev_fnH (ds := []) rfl).mpr ?_
  unfold h__law_refused
  simp! []
  refine ev_cv.mpr ⟨rfl, ?_⟩
  simp! []
  refine (ev_lam (as := []) rfl).mpr (h ?_)
  refine es_hit (by kernel_rfl) ?_
  rw [es_ret]
  simp! []
  rw [ev_err rfl rfl, ev_repr hx (by decide) (by decide), ev_isE (b := true) rfl (by kernel_rfl)]
  exact k
theorem w_refR {vs : List Nat} {fe : Sv.Env → M D} {x : D} (hx : Nice 1 9999 x) (h : ∀ {P : D → Store → Prop} {X : Ex → Store → Prop}, X (ringX x) st' → Ev (fe (strip (wipeE env vs) ++ [].map some) st) P X) (k : P (.lst [.str "ring", .str (shownD x), .bl true]) st') :
    Ev (sHO (fnH 0 2 h__law_refused) 0 vs fe aNil env st) P X := by
  rw [ev_ho]
  simp! []
  refine (ev_fnH (ds := []) rfl).mpr ?_
  unfold h__law_refused
  simp! []
  refine ev_cv.mpr ⟨rfl, ?_⟩
  simp! []
  refine (ev_lam (as := []) rfl).mpr (h ?_)
  refine es_miss (by kernel_rfl) ?_
  refine es_hit (by kernel_rfl) ?_
  rw [es_ret]
  simp! []
  rw [ev_err rfl rfl, ev_repr hx (by decide) (by decide), ev_isE (b := true) rfl (by kernel_rfl)]
  exact k
end
end k78
namespace k78
open PySem Sv
open L2 (atI ixN)
local macro_rules | `(tactic| simp! [$xs,*]) => `(tactic| try simp only [List.map_cons, List.map_nil, List.length_cons, List.length_nil, Nat.zero_add, Nat.reduceAdd, Nat.reduceSub, List.replicate, List.cons_append, List.nil_append, List.append_nil, List.set_cons_zero, List.set_cons_succ, List.zip_cons_cons, List.zip_nil_right, List.foldl_cons, List.foldl_nil, wipeE,
  es_cons, es_nil, es_ret, es_expr, es_if, es_set, es_par, es_asg, es_fd, es_forE, es_raise, es_retN, es_break, es_cont, es_bad, es_pass, es_try, ev_call, ev_cons, ev_nil, ev_con, ev_var, look0, lookS, ev_s1, ev_s2, ev_app, ev_and, ev_or, ev_not, ev_ite, ev_chain, ev_tup, ev_lst, ev_lstM, ev_comp, ev_compM, ev_dict, ev_dict2, ev_cYes, ev_cOne, ev_r1, ev_r2, ev_it, ev_il, ev_iK, ev_iS, ev_sl, ev_oNone, ev_oSome, ev_en, ev_z, ev_fdg, ev_mth, ev_mk, ev_dict0, ev_star, es_append, ev_ho,
  eg_tp, eg_gcons, eg_nm, eg_gnil, eg_sb, onB_bl, ev_addI, ev_subI, ev_modI, ev_divI, ev_ltI, ev_leI, ev_gtI, ev_geI, ev_int, ev_len_t, ev_len_l, ev_len_f, ev_tuple_t, ev_tuple_l, ev_list_t, ev_list_l, ev_isN, ev_notN, ev_sorted_l, ev_max, ev_min, ev_abs, ev_inK, ev_ixK, ev_slT, ev_slL, isNon, isi_int_non, isi_int_bl, isi_int_int, isi_int_str, isi_int_tup, isi_int_lst, isi_int_frl, isi_int_dct, isi_bool_non, isi_bool_bl, isi_bool_int, isi_bool_str, isi_bool_tup, isi_bool_lst, isi_bool_frl, isi_bool_dct, isi_str_non, isi_str_bl, isi_str_int, isi_str_str, isi_str_tup, isi_str_lst, isi_str_frl, isi_str_dct, isi_tuple_non, isi_tuple_bl, isi_tuple_int, isi_tuple_str, isi_tuple_tup, isi_tuple_lst, isi_tuple_frl, isi_tuple_dct, isi_list_non, isi_list_bl, isi_list_int, isi_list_str, isi_list_tup, isi_list_lst, isi_list_frl, isi_list_dct, isi_dict_non, isi_dict_bl, isi_dict_int, isi_dict_str, isi_dict_tup, isi_dict_lst, isi_dict_frl, isi_dict_dct,
  List.cons.injEq, D.int.injEq, D.tup.injEq, D.lst.injEq, D.str.injEq, D.bl.injEq, D.ref.injEq, exists_eq_left', exists_eq, false_and, and_false, exists_false, or_false, false_or, exists_const, and_self, and_assoc, exists_and_left, Nat.zero_le, Nat.reduceLeDiff,
  ne_eq, reduceCtorEq, not_false_eq_true, true_and, and_true, decide_eq_true_eq, Bool.false_eq_true, if_false, if_true, Bool.not_true, Bool.not_false, List.length_map, $xs,*])
local macro_rules | `(tactic| dsimp! [$xs,*]) => `(tactic| simp! [ev_ixT, at0_1, at0_2, at1_2, Option.some.injEq, ev_eq, ev_ne, flat_str, strOk_of, flat_int, flat_tints, flat_tnil, eqD_str, eqD_int, eqD_tnil, st_look_still, st_miss_still, st_look_miss, st_still_miss, decide_false, decide_true, isEmpty_map, List.isEmpty_iff, $xs,*])
theorem partsD_nf {sorts wide least most misread : Int} {ring : List Int} : partsD sorts ring wide least most misread ≠ .fnv := by unfold partsD; exact D.noConfusion
theorem stateD_nf {ps : List Int} {c : Nat} : stateD ps c ≠ .fnv := by unfold stateD; exact D.noConfusion
theorem partsD_eqf {sorts wide least most misread : Int} {ring : List Int} : (partsD sorts ring wide least most misread = .fnv) = False := eq_false partsD_nf
theorem stateD_eqf {ps : List Int} {c : Nat} : (stateD ps c = .fnv) = False := eq_false stateD_nf
theorem Dd_eqf {d : Dd} : (d.d = .fnv) = False := eq_false Dd.nf
theorem seq_tup {ds : List D} {s : Store} : seqOf (.tup ds) s = some ds := rfl
theorem isi_own {P : D → Store → Prop} {X : Ex → Store → Prop} {st : Store} {b : Nat} {c : Str} {fs : List (Str × D)} (h : st[b]? = some (.ins c fs)) : Ev (isiD (ansO c) (.ref b) st) P X ↔ P (.bl true) st := by
  refine ev_eqn' ?_
  unfold isiD tyOf
  dsimp only
  rw [h]
  dsimp only
  unfold ansO
  dsimp only
  rw [if_pos rfl]
theorem flat_parts {sorts wide least most misread : Int} {ring : List Int} : flat 2 (partsD sorts ring wide least most misread) = true := by
  unfold partsD
  rw [flat_tup]
  show (flat 1 (.int sorts) && (flat 1 (.tup (ring.map D.int)) && (flat 1 (.int wide) && (flat 1 (.int least) && (flat 1 (.int most) && (flat 1 (.int misread) && true)))))) = true
  rw [flat_int, flat_int, flat_int, flat_int, flat_int, flat_tup, flats_ints]
  rfl
section
variable {P : D → Store → Prop} {X : Ex → Store → Prop} {st : Store} {env : Sv.Env}
variable {n m p f : Nat} {sorts wide least most misread : Int} {ring ps p0 : List Int} {ds rs : List Dd} {past : D} {d : Dd}
def toldD (sorts : Int) (ring : List Int) (wide least most misread : Int) (ds : List Dd) : D := .tup [partsD sorts ring wide least most misread, .tup (ds.map Dd.d)]
theorem flat_told : flat deepest (toldD sorts ring wide least most misread ds) = true := by
  unfold toldD
  show flats 19 [_, _] = true
  refine flats_all.mpr fun x hx => ?_
  simp only [List.mem_cons, List.not_mem_nil, or_false] at hx
  rcases hx with rfl | rfl
  · exact flat_up (by decide) flat_parts
  · exact flats_all.mpr fun d hd => by
      obtain ⟨x, _, rfl⟩ := List.mem_map.mp hd
      exact flat_up (by decide) Dd.flat_
theorem q_told_of (h : Flw st n sorts ring wide least most misread ps ds past) : m_told_of [.ref n] st = .ok (toldD sorts ring wide least most misread ds) st := by
  refine eq_of_ev ?_
  refine (ev_fn (ds := [_]) rfl).mpr ?_
  unfold b_told_of
  have q : m_parts_of [.ref n] st = .ok (partsD sorts ring wide least most misread) st := by
    refine eq_of_ev ?_
    refine (ev_fn (ds := [_]) rfl).mpr ?_
    unfold b_parts_of partsD
    dsimp! [g_sorts h, g_ring h, g_wide h, g_least h, g_most h, g_misread h, seq_tup]
  dsimp! [ev_eqn' q, g_deeds h]
  rfl
theorem w_eq {sorts' wide' least' most' misread' : Int} {ring' ps' : List Int} {ds' : List Dd} {past' : D} (h : Flw st n sorts ring wide least most misread ps ds past) (h' : Flw st m sorts' ring' wide' least' most' misread' ps' ds' past')
    (k : P (.bl (eqD (toldD sorts ring wide least most misread ds) (toldD sorts' ring' wide' least' most' misread' ds'))) st) : Ev (m_Follower___eq__ [.ref n, .ref m] st) P X := by
  refine (ev_fn (ds := [_, _]) rfl).mpr ?_
  unfold b_Follower___eq__
  dsimp! [isi_own h', ev_eqn' (q_told_of h), ev_eqn' (q_told_of h'), flat_told]
  exact k
theorem w_told2 (h : Flw st n sorts ring wide least most misread ps ds past) (k : P (.lst [.tup (ps.map D.int), .bl (decide (ps.length = 1))]) st) : Ev (m__law_told [.ref n] st) P X := by
  refine (ev_fn (ds := [_]) rfl).mpr ?_
  unfold b__law_told
  dsimp! []
  rw [g_places h, mtg_at h (by rfl)]
  refine (ev_fn (ds := [_]) rfl).mpr ?_
  unfold b_Follower_is_told
  dsimp! [g_places h]
  rw [show decide ((ps.length : Int) = 1) = decide (ps.length = 1) by rw [decide_eq_decide]; omega]
  exact k
end
theorem eqD_two {a b c d : D} : eqD (.tup [a, b]) (.tup [c, d]) = (eqD a c && eqD b d) := by
  simp [eqD, toP, toPs, PyData.eqv, PyData.eqvAll]
theorem eqD_len : ∀ {as bs : List D}, eqD (.tup as) (.tup bs) = true → as.length = bs.length
  | [], [], _ => rfl
  | [], b :: bs, h => by simp [eqD, toP, toPs, PyData.eqv, PyData.eqvAll] at h
  | a :: as, [], h => by simp [eqD, toP, toPs, PyData.eqv, PyData.eqvAll] at h
  | a :: as, b :: bs, h => by
    have h' : eqD a b = true ∧ eqD (.tup as) (.tup bs) = true := by
      simpa [eqD, toP, toPs, PyData.eqv, PyData.eqvAll] using h
    rw [List.length_cons, List.length_cons, eqD_len h'.2]
end k78
namespace k78
open PySem Sv
open L2 (atI ixN)
local macro_rules | `(tactic| simp! [$xs,*]) => `(tactic| try simp only [List.map_cons, List.map_nil, List.length_cons, List.length_nil, Nat.zero_add, Nat.reduceAdd, Nat.reduceSub, List.replicate, List.cons_append, List.nil_append, List.append_nil, List.set_cons_zero, List.set_cons_succ, List.zip_cons_cons, List.zip_nil_right, List.foldl_cons, List.foldl_nil, wipeE,
  es_cons, es_nil, es_ret, es_expr, es_if, es_set, es_par, es_asg, es_fd, es_forE, es_raise, es_retN, es_break, es_cont, es_bad, es_pass, es_try, ev_call, ev_cons, ev_nil, ev_con, ev_var, look0, lookS, ev_s1, ev_s2, ev_app, ev_and, ev_or, ev_not, ev_ite, ev_chain, ev_tup, ev_lst, ev_lstM, ev_comp, ev_compM, ev_dict, ev_dict2, ev_cYes, ev_cOne, ev_r1, ev_r2, ev_it, ev_il, ev_iK, ev_iS, ev_sl, ev_oNone, ev_oSome, ev_en, ev_z, ev_fdg, ev_mth, ev_mk, ev_dict0, ev_star, es_append, ev_ho,
  eg_tp, eg_gcons, eg_nm, eg_gnil, eg_sb, onB_bl, ev_addI, ev_subI, ev_modI, ev_divI, ev_ltI, ev_leI, ev_gtI, ev_geI, ev_int, ev_len_t, ev_len_l, ev_len_f, ev_tuple_t, ev_tuple_l, ev_list_t, ev_list_l, ev_isN, ev_notN, ev_sorted_l, ev_max, ev_min, ev_abs, ev_inK, ev_ixK, ev_slT, ev_slL, isNon, isi_int_non, isi_int_bl, isi_int_int, isi_int_str, isi_int_tup, isi_int_lst, isi_int_frl, isi_int_dct, isi_bool_non, isi_bool_bl, isi_bool_int, isi_bool_str, isi_bool_tup, isi_bool_lst, isi_bool_frl, isi_bool_dct, isi_str_non, isi_str_bl, isi_str_int, isi_str_str, isi_str_tup, isi_str_lst, isi_str_frl, isi_str_dct, isi_tuple_non, isi_tuple_bl, isi_tuple_int, isi_tuple_str, isi_tuple_tup, isi_tuple_lst, isi_tuple_frl, isi_tuple_dct, isi_list_non, isi_list_bl, isi_list_int, isi_list_str, isi_list_tup, isi_list_lst, isi_list_frl, isi_list_dct, isi_dict_non, isi_dict_bl, isi_dict_int, isi_dict_str, isi_dict_tup, isi_dict_lst, isi_dict_frl, isi_dict_dct,
  List.cons.injEq, D.int.injEq, D.tup.injEq, D.lst.injEq, D.str.injEq, D.bl.injEq, D.ref.injEq, exists_eq_left', exists_eq, false_and, and_false, exists_false, or_false, false_or, exists_const, and_self, and_assoc, exists_and_left, Nat.zero_le, Nat.reduceLeDiff,
  ne_eq, reduceCtorEq, not_false_eq_true, true_and, and_true, decide_eq_true_eq, Bool.false_eq_true, if_false, if_true, Bool.not_true, Bool.not_false, List.length_map, $xs,*])
local macro_rules | `(tactic| dsimp! [$xs,*]) => `(tactic| simp! [ev_ixT, at0_1, at0_2, at1_2, Option.some.injEq, ev_eq, ev_ne, flat_str, strOk_of, flat_int, flat_tints, flat_tnil, eqD_str, eqD_int, eqD_tnil, st_look_still, st_miss_still, st_look_miss, st_still_miss, decide_false, decide_true, isEmpty_map, List.isEmpty_iff, $xs,*])
theorem es_seq {a b : SM} {env : Sv.Env} {st : Store} {N B C : Sv.Env → Store → Prop} {R : D → Store → Prop} {X : Ex → Sv.Env → Store → Prop} (M : Sv.Env → Store → Prop) (h : Es (a env st) M R X B C) (k : ∀ env st, M env st → Es (b env st) N R X B C) : Es (bCons a b env st) N R X B C :=
  es_cons.mpr (h.imp k (fun _ _ h => h) (fun _ _ _ h => h) (fun _ _ h => h) (fun _ _ h => h))
/-- two followers alike -/
structure Duo (st : Store) (n L : Nat) (so : Int) (rg : List Int) (wi le mo mi : Int) (ps : List Int) (ds : List Dd) (past : List D) : Prop where
  pool : Pool st n
  hn : n < L
  f1 : Flw st L so rg wi le mo mi ps ds (.ref (L + 1))
  p1 : st[L + 1]? = some (.lst past)
  f2 : Flw st (L + 2) so rg wi le mo mi ps ds (.ref (L + 3))
  p2 : st[L + 3]? = some (.lst past)
  pl : Pl rg.length ps
  ok : ∀ d ∈ ds, d.Ok so wi
section
variable {P : D → Store → Prop} {X : Ex → Store → Prop} {st st' : Store} {env : Sv.Env}
variable {n L : Nat} {so wi le mo mi : Int} {rg ps : List Int} {ds : List Dd} {past : List D} {d : Dd}
theorem Duo.set {l : Ob} (h : Duo st n L so rg wi le mo mi ps ds past) (hl : PoolV l) : Duo (st.set n l) n L so rg wi le mo mi ps ds past := by
  have hn := h.hn
  exact ⟨h.pool.set hl, hn, (List.getElem?_set_ne (by omega)).trans h.f1, (List.getElem?_set_ne (by omega)).trans h.p1, (List.getElem?_set_ne (by omega)).trans h.f2, (List.getElem?_set_ne (by omega)).trans h.p2, h.pl, h.ok⟩
theorem Duo.app {g : List Ob} (h : Duo st n L so rg wi le mo mi ps ds past) : Duo (st ++ g) n L so rg wi le mo mi ps ds past := by
  obtain ⟨l, h1, h2⟩ := h.pool
  exact ⟨⟨l, app_get h1, h2⟩, h.hn, app_get h.f1, app_get h.p1, app_get h.f2, app_get h.p2, h.pl, h.ok⟩
theorem w_eqP {b : D} (hb : b = .non ∨ ∃ ds, b = .tup ds) (k : P (.bl false) st) : Ev (m_Follower___eq__ [.ref n, b] st) P X := by
  refine (ev_fn (ds := [_, _]) rfl).mpr ?_
  unfold b_Follower___eq__
  have e1 : ∀ {ds : List D} {st : Store}, isiD (ansO "Follower") (.tup ds) st = .ok (.bl false) st := fun {_ _} => rfl
  have e2 : ∀ {st : Store}, isiD (ansO "Follower") .non st = .ok (.bl false) st := fun {_} => rfl
  rcases hb with rfl | ⟨ds, rfl⟩
  · dsimp! [ev_eqn' e2]
    exact k
  · dsimp! [ev_eqn' e1]
    exact k
abbrev S (so : Int) (rg : List Int) (wi le mo mi : Int) (n : Nat) (r : Sv.Env) : Sv.Env :=
  some (.ref n) :: some (partsD so rg wi le mo mi) :: some (.int so) :: some (.tup (rg.map D.int)) :: some (.int wi) :: some (.int le) :: some (.int mo) :: some (.int mi) :: r
/-- a turn -/
theorem w_turn {N B C : Sv.Env → Store → Prop} {e10 e11 e12 e13 e15 e16 e17 e18 : Option D} (q : Parts so rg wi le mo mi) (h : Duo st n L so rg wi le mo mi ps ds past) (hd : d.Ok so wi) (hl : ds.length ≤ 50) (hl2 : past.length ≤ 50)
    (k : ∀ st' ps' ds' past', Duo st' n L so rg wi le mo mi ps' ds' past' → ds'.length ≤ ds.length + 1 → past'.length ≤ past.length + 1 → N (S so rg wi le mo mi n [some (.ref L), some (.ref (L + 2)), e10, e11, e12, e13, some d.d, e15, e16, e17, e18]) st') :
    Es (bIf (s2 opEq (sCl m__law_barred [] (aCons (sVar 8) (aCons (sVar 14) aNil))) (sCon (.str ""))) (bCons (bIf (sOr (s2 (eqOwn false "Follower" m_Follower___eq__) (sVar 8) (sVar 9)) (sNot (s2 (eqOwn true "Follower" m_Follower___eq__) (sVar 8) (sVar 9)))) (bRet (sCon (.bl false))) bNil) (bCons (bExpr (sMth "Follower" "do" m_Follower_do [] (sVar 9) (aCons (sVar 14) aNil))) (bIf (sOr (sNot (s2 (eqOwn false "Follower" m_Follower___eq__) (sVar 8) (sVar 9))) (s2 opNe (sCl m__law_told [] (aCons (sVar 8) aNil)) (sCl m__law_told [] (aCons (sVar 9) aNil)))) (bRet (sCon (.bl false))) bNil))) bNil
      (S so rg wi le mo mi n [some (.ref L), some (.ref (L + 2)), e10, e11, e12, e13, some d.d, e15, e16, e17, e18]) st) N P (fun e _ st => X e st) B C := by
  have hn := h.hn
  dsimp! [Dd.nf]
  refine w_barred q h.pl hd h.f1 h.p1 (by omega) (by omega) (by omega) (fun hw => ?_) fun hw => ?_
  · have lf := (List.getElem?_eq_some_iff.mp h.f1).1
    have lp := (List.getElem?_eq_some_iff.mp h.p1).1
    obtain ⟨s1, hs1⟩ : ∃ s1, s1 = doneSt st L (L + 1) so rg wi le mo mi ps ds past d := ⟨_, rfl⟩
    have g1 : Flw s1 L so rg wi le mo mi (movedI rg wi le mo mi ps (decide (ds.length = 0)) d) (ds ++ [d]) (.ref (L + 1)) := by
      rw [hs1]
      exact List.getElem?_set_self (by rw [List.length_set]; exact lf)
    have g2 : s1[L + 1]? = some (.lst (past ++ [.tup (ps.map D.int)])) := by
      rw [hs1, List.getElem?_set_ne (by omega)]
      exact List.getElem?_set_self lp
    have g3 : Flw s1 (L + 2) so rg wi le mo mi ps ds (.ref (L + 3)) := by
      show s1[L + 2]? = _
      rw [hs1, List.getElem?_set_ne (by omega), List.getElem?_set_ne (by omega)]
      exact h.f2
    have g4 : s1[L + 3]? = some (.lst past) := by
      rw [hs1, List.getElem?_set_ne (by omega), List.getElem?_set_ne (by omega)]
      exact h.p2
    have g5 : Pool s1 n := by
      obtain ⟨l, h1, h2⟩ := h.pool
      refine ⟨l, ?_, h2⟩
      rw [hs1, List.getElem?_set_ne (by omega), List.getElem?_set_ne (by omega)]
      exact h1
    rw [← hs1]
    have ne : eqD (toldD so rg wi le mo mi (ds ++ [d])) (toldD so rg wi le mo mi ds) = false := by
      unfold toldD
      rw [eqD_two, Bool.and_eq_false_iff]
      refine .inr ?_
      cases e : eqD (.tup ((ds ++ [d]).map Dd.d)) (.tup (ds.map Dd.d)) with
      | false => rfl
      | true =>
        have := eqD_len e
        simp at this
    dsimp! []
    rw [ev_own g1 g3]
    refine w_eq g1 g3 ?_
    rw [ne]
    dsimp! []
    rw [ev_own g1 g3]
    refine w_eq g1 g3 ?_
    rw [ne]
    dsimp! [Dd.nf]
    rw [mtg_at g3 (by rfl)]
    refine v_do q h.pl hd g3 g4 (by omega) (by omega) (by omega) (fun _ => ?_) fun hw2 => absurd hw hw2
    have lf2 := (List.getElem?_eq_some_iff.mp g3).1
    have lp2 := (List.getElem?_eq_some_iff.mp g4).1
    have D2 : Duo (doneSt s1 (L + 2) (L + 3) so rg wi le mo mi ps ds past d) n L so rg wi le mo mi (movedI rg wi le mo mi ps (decide (ds.length = 0)) d) (ds ++ [d]) (past ++ [.tup (ps.map D.int)]) := by
      obtain ⟨l, h1, h2⟩ := g5
      refine ⟨⟨l, ?_, h2⟩, hn, ?_, ?_, ?_, ?_, movedI_pl q.r1 h.pl d, fun x hx => ?_⟩
      · rw [List.getElem?_set_ne (by omega), List.getElem?_set_ne (by omega)]
        exact h1
      · exact (List.getElem?_set_ne (by omega)).trans ((List.getElem?_set_ne (by omega)).trans g1)
      · exact (List.getElem?_set_ne (by omega)).trans ((List.getElem?_set_ne (by omega)).trans g2)
      · exact List.getElem?_set_self (by rw [List.length_set]; exact lf2)
      · exact (List.getElem?_set_ne (by omega)).trans (List.getElem?_set_self lp2)
      · rcases List.mem_append.mp hx with z | z
        · exact h.ok x z
        · rw [List.mem_singleton.mp z]
          exact hd
    have fl2 : ∀ (ps : List Int) (b : Bool), flat deepest (.lst [.tup (ps.map D.int), .bl b]) = true := fun ps b => by
      show flats 19 [_, _] = true
      refine flats_all.mpr fun x hx => ?_
      simp only [List.mem_cons, List.not_mem_nil, or_false] at hx
      rcases hx with rfl | rfl
      · exact flats_ints _
      · exact flat_bl
    dsimp! []
    rw [ev_own D2.f1 D2.f2]
    refine w_eq D2.f1 D2.f2 ?_
    rw [eqD_refl flat_told]
    dsimp! []
    refine w_told2 D2.f1 ?_
    refine w_told2 D2.f2 ?_
    dsimp! [fl2, eqD_refl (fl2 _ _)]
    exact k _ _ _ _ D2 (by simp) (by simp)
  · dsimp! [strOk_why, hw]
    exact k st ps ds past h (by omega) (by omega)
end
end k78
namespace k78
open PySem Sv
open L2 (atI ixN)
local macro_rules | `(tactic| simp! [$xs,*]) => `(tactic| try simp only [List.map_cons, List.map_nil, List.length_cons, List.length_nil, Nat.zero_add, Nat.reduceAdd, Nat.reduceSub, List.replicate, List.cons_append, List.nil_append, List.append_nil, List.set_cons_zero, List.set_cons_succ, List.zip_cons_cons, List.zip_nil_right, List.foldl_cons, List.foldl_nil, wipeE,
  es_cons, es_nil, es_ret, es_expr, es_if, es_set, es_par, es_asg, es_fd, es_forE, es_raise, es_retN, es_break, es_cont, es_bad, es_pass, es_try, ev_call, ev_cons, ev_nil, ev_con, ev_var, look0, lookS, ev_s1, ev_s2, ev_app, ev_and, ev_or, ev_not, ev_ite, ev_chain, ev_tup, ev_lst, ev_lstM, ev_comp, ev_compM, ev_dict, ev_dict2, ev_cYes, ev_cOne, ev_r1, ev_r2, ev_it, ev_il, ev_iK, ev_iS, ev_sl, ev_oNone, ev_oSome, ev_en, ev_z, ev_fdg, ev_mth, ev_mk, ev_dict0, ev_star, es_append, ev_ho,
  eg_tp, eg_gcons, eg_nm, eg_gnil, eg_sb, onB_bl, ev_addI, ev_subI, ev_modI, ev_divI, ev_ltI, ev_leI, ev_gtI, ev_geI, ev_int, ev_len_t, ev_len_l, ev_len_f, ev_tuple_t, ev_tuple_l, ev_list_t, ev_list_l, ev_isN, ev_notN, ev_sorted_l, ev_max, ev_min, ev_abs, ev_inK, ev_ixK, ev_slT, ev_slL, isNon, isi_int_non, isi_int_bl, isi_int_int, isi_int_str, isi_int_tup, isi_int_lst, isi_int_frl, isi_int_dct, isi_bool_non, isi_bool_bl, isi_bool_int, isi_bool_str, isi_bool_tup, isi_bool_lst, isi_bool_frl, isi_bool_dct, isi_str_non, isi_str_bl, isi_str_int, isi_str_str, isi_str_tup, isi_str_lst, isi_str_frl, isi_str_dct, isi_tuple_non, isi_tuple_bl, isi_tuple_int, isi_tuple_str, isi_tuple_tup, isi_tuple_lst, isi_tuple_frl, isi_tuple_dct, isi_list_non, isi_list_bl, isi_list_int, isi_list_str, isi_list_tup, isi_list_lst, isi_list_frl, isi_list_dct, isi_dict_non, isi_dict_bl, isi_dict_int, isi_dict_str, isi_dict_tup, isi_dict_lst, isi_dict_frl, isi_dict_dct,
  List.cons.injEq, D.int.injEq, D.tup.injEq, D.lst.injEq, D.str.injEq, D.bl.injEq, D.ref.injEq, exists_eq_left', exists_eq, false_and, and_false, exists_false, or_false, false_or, exists_const, and_self, and_assoc, exists_and_left, Nat.zero_le, Nat.reduceLeDiff,
  ne_eq, reduceCtorEq, not_false_eq_true, true_and, and_true, decide_eq_true_eq, Bool.false_eq_true, if_false, if_true, Bool.not_true, Bool.not_false, List.length_map, $xs,*])
local macro_rules | `(tactic| dsimp! [$xs,*]) => `(tactic| simp! [ev_ixT, at0_1, at0_2, at1_2, Option.some.injEq, ev_eq, ev_ne, flat_str, strOk_of, flat_int, flat_tints, flat_tnil, eqD_str, eqD_int, eqD_tnil, st_look_still, st_miss_still, st_look_miss, st_still_miss, decide_false, decide_true, isEmpty_map, List.isEmpty_iff, $xs,*])
section
variable {P : D → Store → Prop} {X : Ex → Store → Prop} {st st' : Store} {env : Sv.Env}
variable {n L : Nat} {so wi le mo mi : Int} {rg ps : List Int} {ds : List Dd} {past : List D} {d : Dd}
theorem unF_none : Sv.unF none = none := rfl
theorem unF_int {i : Int} : Sv.unF (some (.int i)) = some (.int i) := rfl
theorem unF_tup {l : List D} : Sv.unF (some (.tup l)) = some (.tup l) := rfl
theorem flat_told3 {a : Str} {x : D} {n w : Nat} (ha : PyData.strOk a = true) (hx : Nice n w x) : flat deepest (.lst [.str a, .str (shownD x), .bl true]) = true := by
  show flats 19 [_, _, _] = true
  refine flats_all.mpr fun y hy => ?_
  simp only [List.mem_cons, List.not_mem_nil, or_false] at hy
  rcases hy with rfl | rfl | rfl
  · rw [flat_str]; exact ha
  · rw [flat_str]; exact hx.strOk
  · exact flat_bl
theorem w_num1 {N B C : Sv.Env → Store → Prop} {e8 e9 e10 e11 e12 e13 e14 e16 e17 e18 : Option D} {x : D} (hx : noNum 2 4 x) (nx : Nice 1 9999 x) (k : ∀ st', N (S so rg wi le mo mi n [e8, e9, e10, e11, e12, e13, e14, some x, e16, e17, e18]) st') :
    Es (bIf (s2 opNe (sHO (fnH 0 2 h__law_refused) 0 [0, 1, 2, 3, 4, 5, 6, 7, 8, 9, 10, 11, 12, 13, 14, 16, 17, 18] (sMk "Follower" m_Follower___init__ [D.int 0, D.int 1, D.int 0] (aCons (sVar 15) (aCons (sCon .non) (aCons (sCon .non) aNil)))) aNil) (sLst (aCons (sCon (.str "number")) (aCons (sApp kRepr (aCons (sVar 15) aNil)) (aCons (sCon (.bl true)) aNil))))) (bRet (sCon (.bl false))) bNil
      (S so rg wi le mo mi n [e8, e9, e10, e11, e12, e13, e14, some x, e16, e17, e18]) st) N P (fun e _ st => X e st) B C := by
  rw [es_if, ev_s2]
  refine w_refN (st' := st ++ [.ins "Follower" []]) nx (fun {P X} hX => ?_) ?_
  · simp! [strip, unF_none, unF_int, unF_tup, unF_noNum hx, hx.nf]
    exact i_sorts (a := .non) (b := .non) hx (by simp) (by simp) hX
  · simp! [hx.nf]
    rw [ev_repr nx (by decide) (by decide)]
    have fl := flat_told3 (a := "number") (strOk_of _) nx
    dsimp! [fl, eqD_refl fl]
    exact k _
theorem w_num3 {N B C : Sv.Env → Store → Prop} {e8 e9 e10 e11 e12 e13 e14 e16 e17 e18 : Option D} {x : D} (q : Parts so rg wi le mo mi) (hx : noNum 1 6 x) (nx : Nice 1 9999 x) (k : ∀ st', N (S so rg wi le mo mi n [e8, e9, e10, e11, e12, e13, e14, some x, e16, e17, e18]) st') :
    Es (bIf (s2 opNe (sHO (fnH 0 2 h__law_refused) 0 [0, 1, 4, 5, 6, 7, 8, 9, 10, 11, 12, 13, 14, 16, 17, 18] (sMk "Follower" m_Follower___init__ [D.int 1, D.int 0] (aCons (sVar 2) (aCons (sVar 3) (aCons (sVar 15) (aCons (sCon .non) aNil))))) aNil) (sLst (aCons (sCon (.str "number")) (aCons (sApp kRepr (aCons (sVar 15) aNil)) (aCons (sCon (.bl true)) aNil))))) (bRet (sCon (.bl false))) bNil
      (S so rg wi le mo mi n [e8, e9, e10, e11, e12, e13, e14, some x, e16, e17, e18]) st) N P (fun e _ st => X e st) B C := by
  rw [es_if, ev_s2]
  refine w_refN (st' := st ++ [.ins "Follower" []]) nx (fun {P X} hX => ?_) ?_
  · simp! [strip, unF_none, unF_int, unF_tup, unF_noNum hx, hx.nf]
    exact i_wide q.s1 (by have := q.s2; omega) q.m q.r1 (by have := q.r2; omega) hx hX
  · simp! [hx.nf]
    rw [ev_repr nx (by decide) (by decide)]
    have fl := flat_told3 (a := "number") (strOk_of _) nx
    dsimp! [fl, eqD_refl fl]
    exact k _
theorem noRow.unF {v t : D} (h : noRow so v t) : Sv.unF (some v) = some v := by cases h <;> rfl
theorem noRow.nft {v t : D} (h : noRow so v t) : (t = .fnv) = False := by cases h <;> simp
theorem w_odd {N B C : Sv.Env → Store → Prop} {e8 e9 e10 e11 e12 e13 e14 e15 e16 : Option D} {v t : D} (q : Parts so rg wi le mo mi) (hx : noRow so v t) (nx : Nice 1 9999 t) (k : ∀ st', N (S so rg wi le mo mi n [e8, e9, e10, e11, e12, e13, e14, e15, e16, some v, some t]) st') :
    Es (bIf (s2 opNe (sHO (fnH 0 2 h__law_refused) 0 [0, 1, 3, 4, 5, 6, 7, 8, 9, 10, 11, 12, 13, 14, 15, 16, 18] (sMk "Follower" m_Follower___init__ [D.int 0, D.int 1, D.int 0] (aCons (sVar 2) (aCons (sVar 17) (aCons (sCon .non) aNil)))) aNil) (sLst (aCons (sCon (.str "ring")) (aCons (sApp kRepr (aCons (sVar 18) aNil)) (aCons (sCon (.bl true)) aNil))))) (bRet (sCon (.bl false))) bNil
      (S so rg wi le mo mi n [e8, e9, e10, e11, e12, e13, e14, e15, e16, some v, some t]) st) N P (fun e _ st => X e st) B C := by
  rw [es_if, ev_s2]
  refine w_refR (st' := st ++ [.ins "Follower" []]) nx (fun {P X} hX => ?_) ?_
  · simp! [strip, unF_none, unF_int, unF_tup, hx.unF, hx.nf]
    exact i_ring (b := .non) q.s1 (by have := q.s2; omega) hx (by simp) hX
  · simp! [hx.nft]
    rw [ev_repr nx (by decide) (by decide)]
    have fl := flat_told3 (a := "ring") (strOk_of _) nx
    dsimp! [fl, eqD_refl fl]
    exact k _
theorem shown6 : shownD (.int 6) = "6" := by kernel_rfl
theorem shown2 : shownD (.int 2) = "2" := by kernel_rfl
theorem w_steps {N B C : Sv.Env → Store → Prop} {e8 e9 e10 e11 e12 e13 e14 e15 e16 e17 e18 : Option D} (q : Parts so rg wi le mo mi) (k : ∀ st', P (.bl true) st') :
    Es (bCons (bIf (s2 opNe (sHO (fnH 0 2 h__law_refused) 0 [0, 1, 5, 6, 7, 8, 9, 10, 11, 12, 13, 14, 15, 16, 17, 18] (sMk "Follower" m_Follower___init__ [] (aCons (sVar 2) (aCons (sVar 3) (aCons (sVar 4) (aCons (sCon (.int 6)) (aCons (sCon (.int 6)) (aCons (sCon (.int 0)) aNil))))))) aNil) (sLst (aCons (sCon (.str "number")) (aCons (sCon (.str "6")) (aCons (sCon (.bl true)) aNil))))) (bRet (sCon (.bl false))) bNil) (bRet (s2 opEq (sHO (fnH 0 2 h__law_refused) 0 [0, 1, 5, 6, 7, 8, 9, 10, 11, 12, 13, 14, 15, 16, 17, 18] (sMk "Follower" m_Follower___init__ [] (aCons (sVar 2) (aCons (sVar 3) (aCons (sVar 4) (aCons (sCon (.int 3)) (aCons (sCon (.int 2)) (aCons (sCon (.int 0)) aNil))))))) aNil) (sLst (aCons (sCon (.str "number")) (aCons (sCon (.str "2")) (aCons (sCon (.bl true)) aNil))))))
      (S so rg wi le mo mi n [e8, e9, e10, e11, e12, e13, e14, e15, e16, e17, e18]) st) N P (fun e _ st => X e st) B C := by
  have n6 : Nice 1 9999 (.int 6) := nice_int (by omega) (by decide)
  have n2 : Nice 1 9999 (.int 2) := nice_int (by omega) (by decide)
  refine es_seq (M := fun env _ => env = S so rg wi le mo mi n [e8, e9, e10, e11, e12, e13, e14, e15, e16, e17, e18]) ?_ ?_
  · rw [es_if, ev_s2]
    refine w_refN (st' := st ++ [.ins "Follower" []]) n6 (fun {P X} hX => ?_) ?_
    · simp! [strip, unF_none, unF_int, unF_tup]
      exact i_least q (by decide) hX
    · have fl := flat_told3 (a := "number") (strOk_of _) n6
      rw [shown6] at fl ⊢
      dsimp! [fl, eqD_refl fl]
  · rintro env st rfl
    rw [es_ret, ev_s2]
    refine w_refN (st' := st ++ [.ins "Follower" []]) n2 (fun {P X} hX => ?_) ?_
    · simp! [strip, unF_none, unF_int, unF_tup]
      exact i_most q (by decide) (by decide) (by decide) hX
    · have fl := flat_told3 (a := "number") (strOk_of _) n2
      rw [shown2] at fl ⊢
      dsimp! [fl, eqD_refl fl]
      exact k _
end
end k78
namespace k78
open PySem Sv
open L2 (atI ixN)
local macro_rules | `(tactic| simp! [$xs,*]) => `(tactic| try simp only [List.map_cons, List.map_nil, List.length_cons, List.length_nil, Nat.zero_add, Nat.reduceAdd, Nat.reduceSub, List.replicate, List.cons_append, List.nil_append, List.append_nil, List.set_cons_zero, List.set_cons_succ, List.zip_cons_cons, List.zip_nil_right, List.foldl_cons, List.foldl_nil, wipeE,
  es_cons, es_nil, es_ret, es_expr, es_if, es_set, es_par, es_asg, es_fd, es_forE, es_raise, es_retN, es_break, es_cont, es_bad, es_pass, es_try, ev_call, ev_cons, ev_nil, ev_con, ev_var, look0, lookS, ev_s1, ev_s2, ev_app, ev_and, ev_or, ev_not, ev_ite, ev_chain, ev_tup, ev_lst, ev_lstM, ev_comp, ev_compM, ev_dict, ev_dict2, ev_cYes, ev_cOne, ev_r1, ev_r2, ev_it, ev_il, ev_iK, ev_iS, ev_sl, ev_oNone, ev_oSome, ev_en, ev_z, ev_fdg, ev_mth, ev_mk, ev_dict0, ev_star, es_append, ev_ho,
  eg_tp, eg_gcons, eg_nm, eg_gnil, eg_sb, onB_bl, ev_addI, ev_subI, ev_modI, ev_divI, ev_ltI, ev_leI, ev_gtI, ev_geI, ev_int, ev_len_t, ev_len_l, ev_len_f, ev_tuple_t, ev_tuple_l, ev_list_t, ev_list_l, ev_isN, ev_notN, ev_sorted_l, ev_max, ev_min, ev_abs, ev_inK, ev_ixK, ev_slT, ev_slL, isNon, isi_int_non, isi_int_bl, isi_int_int, isi_int_str, isi_int_tup, isi_int_lst, isi_int_frl, isi_int_dct, isi_bool_non, isi_bool_bl, isi_bool_int, isi_bool_str, isi_bool_tup, isi_bool_lst, isi_bool_frl, isi_bool_dct, isi_str_non, isi_str_bl, isi_str_int, isi_str_str, isi_str_tup, isi_str_lst, isi_str_frl, isi_str_dct, isi_tuple_non, isi_tuple_bl, isi_tuple_int, isi_tuple_str, isi_tuple_tup, isi_tuple_lst, isi_tuple_frl, isi_tuple_dct, isi_list_non, isi_list_bl, isi_list_int, isi_list_str, isi_list_tup, isi_list_lst, isi_list_frl, isi_list_dct, isi_dict_non, isi_dict_bl, isi_dict_int, isi_dict_str, isi_dict_tup, isi_dict_lst, isi_dict_frl, isi_dict_dct,
  List.cons.injEq, D.int.injEq, D.tup.injEq, D.lst.injEq, D.str.injEq, D.bl.injEq, D.ref.injEq, exists_eq_left', exists_eq, false_and, and_false, exists_false, or_false, false_or, exists_const, and_self, and_assoc, exists_and_left, Nat.zero_le, Nat.reduceLeDiff,
  ne_eq, reduceCtorEq, not_false_eq_true, true_and, and_true, decide_eq_true_eq, Bool.false_eq_true, if_false, if_true, Bool.not_true, Bool.not_false, List.length_map, $xs,*])
local macro_rules | `(tactic| dsimp! [$xs,*]) => `(tactic| simp! [ev_ixT, at0_1, at0_2, at1_2, Option.some.injEq, ev_eq, ev_ne, flat_str, strOk_of, flat_int, flat_tints, flat_tnil, eqD_str, eqD_int, eqD_tnil, st_look_still, st_miss_still, st_look_miss, st_still_miss, decide_false, decide_true, isEmpty_map, List.isEmpty_iff, $xs,*])
section
variable {P : D → Store → Prop} {X : Ex → Store → Prop} {st st' : Store} {env : Sv.Env}
variable {n L : Nat} {so wi le mo mi : Int} {rg ps : List Int} {ds : List Dd} {past : List D} {d : Dd}
theorem nice_six (q : Parts so rg wi le mo mi) : Nice 2 999 (partsD so rg wi le mo mi) := by
  have := q.s1; have := q.s2; have := q.w1; have := q.w2; have := q.l1; have := q.l2; have := q.o1; have := q.o2; have := q.i1; have := q.i2; have := q.r2
  refine nice_tup (n := 1) (w := 150) (k := 6) (fun x hx => ?_) (Nat.le_refl _) (by omega)
  simp only [List.mem_cons, List.not_mem_nil, or_false] at hx
  rcases hx with rfl | rfl | rfl | rfl | rfl | rfl
  · exact nice_int (by omega) (by omega)
  · exact nice_marks (k := 9) (fun m hm => by have := q.m m hm; omega) (by omega) (by omega)
  · exact nice_int (by omega) (by omega)
  · exact nice_int (by omega) (by omega)
  · exact nice_int (by omega) (by omega)
  · exact nice_int (by omega) (by omega)
theorem nice_seven (q : Parts so rg wi le mo mi) : Nice 2 9999 (.lst [.int so, .tup (rg.map D.int), .int wi, .int le, .int mo, .int mi, .tup []]) := by
  have := q.s1; have := q.s2; have := q.w1; have := q.w2; have := q.l1; have := q.l2; have := q.o1; have := q.o2; have := q.i1; have := q.i2; have := q.r2
  refine nice_lst (n := 1) (w := 150) (k := 7) (fun x hx => ?_) (Nat.le_refl _) (by omega)
  simp only [List.mem_cons, List.not_mem_nil, or_false] at hx
  rcases hx with rfl | rfl | rfl | rfl | rfl | rfl | rfl
  · exact nice_int (by omega) (by omega)
  · exact nice_marks (k := 9) (fun m hm => by have := q.m m hm; omega) (by omega) (by omega)
  · exact nice_int (by omega) (by omega)
  · exact nice_int (by omega) (by omega)
  · exact nice_int (by omega) (by omega)
  · exact nice_int (by omega) (by omega)
  · exact nice_tup (n := 0) (w := 0) (k := 0) (fun x hx => by simp at hx) (Nat.le_refl _) (by omega)
theorem nice_010 : Nice 2 9999 (.lst [.int 0, .int 1, .int 0]) := by
  refine nice_lst (n := 1) (w := 10) (k := 3) (fun x hx => ?_) (Nat.le_refl _) (by omega)
  simp only [List.mem_cons, List.not_mem_nil, or_false] at hx
  rcases hx with rfl | rfl | rfl <;> exact nice_int (by omega) (by omega)
theorem flats_deeds : ∀ {ds : List Dd}, flats 2 (ds.map Dd.d) = true := fun {ds} => flats_all.mpr fun d hd => by
  obtain ⟨x, _, rfl⟩ := List.mem_map.mp hd
  exact Dd.flat_
theorem eqD_strs {a b : Str} : eqD (.str a) (.str b) = decide (a = b) := by
  simp [eqD, toP, PyData.eqv]
  rfl
theorem made_eq {b : Store} {F : Ob} : ((b ++ [Ob.ins "Follower" []]) ++ [Ob.lst []]).set b.length F = b ++ [F, .lst []] := by
  rw [List.append_assoc, List.set_append_right _ _ (Nat.le_refl _)]
  simp
theorem w_right (h : Pool st n) (k : ∀ st', P (.bl true) st') : Ev (m__law_right [.ref n] st) P X := by
  refine (ev_fn (ds := [_]) rfl).mpr ?_
  unfold b__law_right
  have hn : n < st.length := by obtain ⟨_, h, _⟩ := h; exact (List.getElem?_eq_some_iff.mp h).1
  -- the parts
  obtain ⟨M1, hM1⟩ : ∃ M : Sv.Env → Store → Prop, M = fun env s => ∃ so rg wi le mo mi l, env = [some (.ref n), some (partsD so rg wi le mo mi), none, none, none, none, none, none, none, none, none, none, none, none, none, none, none, none, none] ∧ s = st.set n l ∧ Parts so rg wi le mo mi ∧ PoolV l := ⟨_, rfl⟩
  refine es_seq (M := M1) ?_ ?_
  · simp! []
    refine sp_begun h fun so rg wi le mo mi l q hl => ?_
    rw [hM1]
    exact ⟨so, rg, wi, le, mo, mi, l, rfl, rfl, q, hl⟩
  rintro env s hm
  rw [hM1] at hm
  obtain ⟨so, rg, wi, le, mo, mi, l, rfl, rfl, q, hl⟩ := hm
  obtain ⟨p0, hp0, e0, el0⟩ := rgD_pl (n := rg.length)
  have hr := q.r1
  have hr2 := q.r2
  obtain ⟨L, hL⟩ : ∃ L, L = st.length := ⟨_, rfl⟩
  obtain ⟨M2, hM2⟩ : ∃ M : Sv.Env → Store → Prop, M = fun env s => env = S so rg wi le mo mi n [none, none, none, none, none, none, none, none, none, none, none] ∧ s = st.set n l := ⟨_, rfl⟩
  refine es_seq (M := M2) ?_ ?_
  · unfold partsD
    simp! []
    rw [hM2]
    exact ⟨rfl, rfl⟩
  rintro env s hm
  rw [hM2] at hm
  obtain ⟨rfl, rfl⟩ := hm
  -- the follower, the twin
  obtain ⟨M3, hM3⟩ : ∃ M : Sv.Env → Store → Prop, M = fun env s => env = S so rg wi le mo mi n [some (.ref L), none, none, none, none, none, none, none, none, none, none] ∧ s = st.set n l ++ [flw so rg wi le mo mi (.tup (p0.map D.int)) (.tup []) (.ref (L + 1)), .lst []] := ⟨_, rfl⟩
  refine es_seq (M := M3) ?_ ?_
  · simp! [partsD_eqf]
    refine w_made q ?_
    simp! []
    rw [hM3, hL, e0, List.length_set]
    exact ⟨rfl, rfl⟩
  rintro env s hm
  rw [hM3] at hm
  obtain ⟨rfl, rfl⟩ := hm
  obtain ⟨M4, hM4⟩ : ∃ M : Sv.Env → Store → Prop, M = fun env s => env = S so rg wi le mo mi n [some (.ref L), some (.ref (L + 2)), none, none, none, none, none, none, none, none, none] ∧ Duo s n L so rg wi le mo mi p0 [] [] := ⟨_, rfl⟩
  refine es_seq (M := M4) ?_ ?_
  · simp! [ev_mkK, partsD_eqf]
    refine v_init q (get_last _ _) ⟨rfl, ?_⟩
    have ln : (st.set n l ++ [flw so rg wi le mo mi (.tup (p0.map D.int)) (.tup []) (.ref (L + 1)), Ob.lst []]).length = L + 2 := by simp [hL]
    rw [made_eq, List.length_append (bs := [Ob.ins "Follower" []]), ln, hM4, e0]
    refine ⟨rfl, ⟨⟨l, app_get (app_get (List.getElem?_set_self hn)), hl⟩, by omega, ?_, ?_, ?_, ?_, hp0, by simp⟩⟩
    · refine app_get ?_
      rw [List.getElem?_append_right (by simp [hL]), List.length_set, hL]
      simp
    · refine app_get ?_
      rw [List.getElem?_append_right (by simp [hL]), List.length_set, hL]
      simp
    · show (_ ++ _)[L + 2]? = _
      rw [List.getElem?_append_right (by omega), ln]
      simp
    · rw [List.getElem?_append_right (by omega), ln]
      simp
  rintro env s hm
  rw [hM4] at hm
  obtain ⟨rfl, hd⟩ := hm
  -- what it tells
  obtain ⟨M5, hM5⟩ : ∃ M : Sv.Env → Store → Prop, M = fun env s => env = S so rg wi le mo mi n [some (.ref L), some (.ref (L + 2)), some (.lst [.int so, .tup (rg.map D.int), .int wi, .int le, .int mo, .int mi]), none, none, none, none, none, none, none, none] ∧ Duo s n L so rg wi le mo mi p0 [] [] := ⟨_, rfl⟩
  refine es_seq (M := M5) ?_ ?_
  · simp! [g_sorts hd.f1, g_ring hd.f1, g_wide hd.f1, g_least hd.f1, g_most hd.f1, g_misread hd.f1]
    rw [hM5]
    exact ⟨rfl, hd⟩
  rintro env s hm
  rw [hM5] at hm
  obtain ⟨rfl, hd⟩ := hm
  have n7 := nice_seven q
  have fl7 : flat deepest (.str (shownD (.lst [.int so, .tup (rg.map D.int), .int wi, .int le, .int mo, .int mi, .tup []]))) = true := by rw [flat_str]; exact n7.strOk
  refine es_seq (M := M5) ?_ ?_
  · unfold S partsD
    simp! [g_deeds hd.f1]
    rw [ev_addL rfl rfl]
    simp! []
    rw [ev_repr n7 (by decide) (by decide)]
    simp! []
    rw [ev_addL rfl rfl]
    simp! []
    rw [ev_repr n7 (by decide) (by decide)]
    dsimp! [n7.strOk]
    rw [hM5]
    exact ⟨rfl, hd⟩
  rintro env s hm
  rw [hM5] at hm
  obtain ⟨rfl, hd⟩ := hm
  have np := hp0.nice hr2 (j := 2)
  refine es_seq (M := M5) ?_ ?_
  · simp! [g_places hd.f1]
    rw [ev_repr np (by decide) (by decide)]
    simp! [ev_tupRg]
    refine ⟨by omega, by omega, ?_⟩
    rw [e0, ev_repr np (by decide) (by decide)]
    dsimp! [np.strOk]
    rw [hM5]
    exact ⟨rfl, hd⟩
  rintro env s hm
  rw [hM5] at hm
  obtain ⟨rfl, hd⟩ := hm
  -- a plain one
  have q0 : Parts so rg wi 0 1 0 := ⟨q.s1, q.s2, q.m, q.r1, q.r2, q.w1, q.w2, by decide, by decide, by decide, by decide, by decide, by decide⟩
  obtain ⟨M6, hM6⟩ : ∃ M : Sv.Env → Store → Prop, M = fun env s => ∃ F, env = S so rg wi le mo mi n [some (.ref L), some (.ref (L + 2)), some (.lst [.int so, .tup (rg.map D.int), .int wi, .int le, .int mo, .int mi]), some (.ref F), none, none, none, none, none, none, none] ∧ Duo s n L so rg wi le mo mi p0 [] [] ∧ Flw s F so rg wi 0 1 0 p0 [] (.ref (F + 1)) := ⟨_, rfl⟩
  refine es_seq (M := M6) ?_ ?_
  · simp! []
    refine v_init q0 (get_last _ _) ⟨rfl, ?_⟩
    rw [made_eq, List.length_append (bs := [Ob.ins "Follower" []]), hM6, e0]
    refine ⟨_, rfl, hd.app, ?_⟩
    show (_ ++ _)[s.length]? = _
    rw [List.getElem?_append_right (Nat.le_refl _)]
    simp
  rintro env s hm
  rw [hM6] at hm
  obtain ⟨F, rfl, hd, hF⟩ := hm
  obtain ⟨M7, hM7⟩ : ∃ M : Sv.Env → Store → Prop, M = fun env s => ∃ o11 o12, env = S so rg wi le mo mi n [some (.ref L), some (.ref (L + 2)), some (.lst [.int so, .tup (rg.map D.int), .int wi, .int le, .int mo, .int mi]), o11, o12, none, none, none, none, none, none] ∧ Duo s n L so rg wi le mo mi p0 [] [] := ⟨_, rfl⟩
  refine es_seq (M := M7) ?_ ?_
  · simp! [g_least hF, g_most hF, g_misread hF]
    rw [ev_repr nice_010 (by decide) (by decide)]
    simp! []
    rw [ev_repr nice_010 (by decide) (by decide)]
    dsimp! [nice_010.strOk]
    rw [mtg_at hd.f1 (by rfl)]
    refine w_told hd.f1 ?_
    dsimp! [flat_bl, eqD_bl]
    have e : decide (p0.length = 1) = decide ((rg.length : Int) = 1) := by rw [decide_eq_decide, el0]; omega
    refine ⟨flat_bl, flat_bl, ?_⟩
    rw [e, eqD_refl flat_bl]
    rw [hM7]
    exact ⟨_, _, rfl, hd⟩
  rintro env s hm
  rw [hM7] at hm
  obtain ⟨o11, o12, rfl, hd⟩ := hm
  -- alike
  refine es_seq (M := M7) ?_ ?_
  · simp! []
    rw [ev_own hd.f1 hd.f2]
    refine w_eq hd.f1 hd.f2 ?_
    rw [eqD_refl flat_told]
    simp! []
    rw [ev_own hd.f1 hd.f2]
    refine w_eq hd.f1 hd.f2 ?_
    rw [eqD_refl flat_told]
    simp! [partsD_eqf]
    rw [ev_ownP hd.f1]
    refine ⟨rfl, w_eqP (.inr ⟨_, rfl⟩) ?_⟩
    simp! []
    rw [ev_ownP hd.f1]
    refine ⟨rfl, w_eqP (.inl rfl) ?_⟩
    simp! []
    rw [hM7]
    exact ⟨_, _, rfl, hd⟩
  rintro env s hm
  rw [hM7] at hm
  obtain ⟨o11, o12, rfl, hd⟩ := hm
  -- another
  obtain ⟨M8, hM8⟩ : ∃ M : Sv.Env → Store → Prop, M = fun env s => ∃ so' rg' wi' le' mo' mi', env = S so rg wi le mo mi n [some (.ref L), some (.ref (L + 2)), some (.lst [.int so, .tup (rg.map D.int), .int wi, .int le, .int mo, .int mi]), o11, some (partsD so' rg' wi' le' mo' mi'), none, none, none, none, none, none] ∧ Duo s n L so rg wi le mo mi p0 [] [] ∧ Parts so' rg' wi' le' mo' mi' := ⟨_, rfl⟩
  refine es_seq (M := M8) ?_ ?_
  · simp! []
    refine sp_begun hd.pool fun so' rg' wi' le' mo' mi' l q' hl => ?_
    rw [hM8]
    exact ⟨so', rg', wi', le', mo', mi', rfl, hd.set hl, q'⟩
  rintro env s hm
  rw [hM8] at hm
  obtain ⟨so', rg', wi', le', mo', mi', rfl, hd, q'⟩ := hm
  refine es_seq (M := M7) ?_ ?_
  · obtain ⟨ps', _, eps', _⟩ := rgD_pl (n := rg'.length)
    simp! [partsD_eqf]
    refine w_made q' ?_
    simp! []
    have g1 : Flw (s ++ [flw so' rg' wi' le' mo' mi' (.tup (rgD 0 rg'.length)) (.tup []) (.ref (s.length + 1)), .lst []]) s.length so' rg' wi' le' mo' mi' ps' [] (.ref (s.length + 1)) := by
      show (_ ++ _)[s.length]? = _
      rw [List.getElem?_append_right (Nat.le_refl _), eps']
      simp
    rw [ev_own g1 hd.app.f1]
    refine w_eq g1 hd.app.f1 ?_
    have et : eqD (toldD so' rg' wi' le' mo' mi' []) (toldD so rg wi le mo mi []) = decide (shownD (partsD so' rg' wi' le' mo' mi') = shownD (partsD so rg wi le mo mi)) := by
      unfold toldD
      rw [eqD_two, eqD_refl (d := .tup (([] : List Dd).map Dd.d)) (flats_up (n := 2) (m := 19) (by decide) flats_deeds), Bool.and_true, parts_eq q' q]
    rw [et]
    simp! [partsD_eqf]
    rw [ev_repr (nice_six q') (by decide) (by decide)]
    simp! [partsD_eqf]
    rw [ev_repr (nice_six q) (by decide) (by decide)]
    simp! []
    rw [ev_eq, ev_ne]
    refine ⟨⟨by rw [flat_str]; exact (nice_six q').strOk, by rw [flat_str]; exact (nice_six q).strOk⟩, ⟨flat_bl, flat_bl⟩, ?_⟩
    rw [eqD_strs, Bool.false_xor, eqD_refl flat_bl]
    simp! []
    rw [hM7]
    exact ⟨_, _, rfl, hd.app⟩
  rintro env s hm
  rw [hM7] at hm
  obtain ⟨o11, o12, rfl, hd⟩ := hm
  -- the turns
  obtain ⟨M9, hM9⟩ : ∃ M : Sv.Env → Store → Prop, M = fun env s => ∃ o8 o9 o10 o13 o14, env = S so rg wi le mo mi n [o8, o9, o10, o11, o12, o13, o14, none, none, none, none] := ⟨_, rfl⟩
  refine es_seq (M := M9) ?_ ?_
  · rw [es_forE]
    simp! []
    refine ⟨r62_of (by omega) (by omega), ?_⟩
    refine es_loopA (List.range 6) (fun i : Nat => D.int (0 + (i : Int))) (fun done env s => ∃ ps ds past o13 o14, env = S so rg wi le mo mi n [some (.ref L), some (.ref (L + 2)), some (.lst [.int so, .tup (rg.map D.int), .int wi, .int le, .int mo, .int mi]), o11, o12, o13, o14, none, none, none, none] ∧ Duo s n L so rg wi le mo mi ps ds past ∧ ds.length ≤ done.length ∧ past.length ≤ done.length) ?_ ?_ ?_
    · exact ⟨_, _, _, none, none, rfl, hd, Nat.le_refl _, Nat.le_refl _⟩
    · rintro done t rest env s e ⟨ps, ds, past, o13, o14, rfl, hd, h1, h2⟩
      have len : done.length < 6 := by
        have e1 := congrArg List.length e
        rw [List.length_range, List.length_append, List.length_cons] at e1
        omega
      rw [eg_nm]
      simp only [List.set_cons_zero, List.set_cons_succ]
      obtain ⟨Ma, hMa⟩ : ∃ M : Sv.Env → Store → Prop, M = fun env s => ∃ d : Dd, env = S so rg wi le mo mi n [some (.ref L), some (.ref (L + 2)), some (.lst [.int so, .tup (rg.map D.int), .int wi, .int le, .int mo, .int mi]), o11, o12, some (.int (0 + (t : Int))), some d.d, none, none, none, none] ∧ Duo s n L so rg wi le mo mi ps ds past ∧ d.Ok so wi := ⟨_, rfl⟩
      refine es_seq (M := Ma) ?_ ?_
      · simp! [partsD_eqf, g_places hd.f1, g_deeds hd.f1]
        refine w_deed (c := ds.length) q hd.pl hd.pool fun d l2 hd1 hl2 => ?_
        simp! []
        rw [hMa]
        exact ⟨d, rfl, hd.set hl2, hd1⟩
      rintro env s hm
      rw [hMa] at hm
      obtain ⟨d, rfl, hd, hd1⟩ := hm
      exact w_turn q hd hd1 (by omega) (by omega) fun st' ps' ds' past' hd' hl1 hl2 => ⟨ps', ds', past', _, _, rfl, hd', by rw [List.length_append]; show _ ≤ done.length + 1; omega, by rw [List.length_append]; show _ ≤ done.length + 1; omega⟩
    · rintro env s ⟨ps, ds, past, o13, o14, rfl, hd, h1, h2⟩
      rw [hM9]
      exact ⟨_, _, _, _, _, rfl⟩
  rintro env s hm
  rw [hM9] at hm
  obtain ⟨o8, o9, o10, o13, o14, rfl⟩ := hm
  -- numbers of sorts
  obtain ⟨Mb, hMb⟩ : ∃ M : Sv.Env → Store → Prop, M = fun env s => ∃ o15, env = S so rg wi le mo mi n [o8, o9, o10, o11, o12, o13, o14, o15, none, none, none] := ⟨_, rfl⟩
  refine es_seq (M := Mb) ?_ ?_
  · rw [es_forE]
    simp! [ev_neg]
    refine es_loop (fun done env s => ∃ o15, env = S so rg wi le mo mi n [o8, o9, o10, o11, o12, o13, o14, o15, none, none, none]) ⟨_, rfl⟩ ?_ ?_
    · rintro done x rest env s e ⟨o15, rfl⟩
      have hx : x ∈ [D.int 1, .int 5, .non, .str "2", .bl true, .int (-1)] := by rw [e]; simp
      have hb : noNum 2 4 x ∧ Nice 1 9999 x := by
        simp only [List.mem_cons, List.not_mem_nil, or_false] at hx
        rcases hx with rfl | rfl | rfl | rfl | rfl | rfl
        · exact ⟨.inr (.inr (.inr ⟨_, rfl, by decide⟩)), nice_int (by decide) (by decide)⟩
        · exact ⟨.inr (.inr (.inr ⟨_, rfl, by decide⟩)), nice_int (by decide) (by decide)⟩
        · exact ⟨.inl rfl, nice_non⟩
        · exact ⟨.inr (.inl ⟨_, rfl⟩), nice_str (by decide +kernel) (by decide +kernel)⟩
        · exact ⟨.inr (.inr (.inl ⟨_, rfl⟩)), nice_bl⟩
        · exact ⟨.inr (.inr (.inr ⟨_, rfl, by decide⟩)), nice_int (by decide) (by decide)⟩
      rw [eg_nm]
      simp only [List.set_cons_zero, List.set_cons_succ]
      exact w_num1 hb.1 hb.2 fun st' => ⟨_, rfl⟩
    · rintro env s ⟨o15, rfl⟩
      rw [hMb]
      exact ⟨_, rfl⟩
  rintro env s hm
  rw [hMb] at hm
  obtain ⟨o15, rfl⟩ := hm
  -- odd rings
  have hs1 := q.s1
  have hs2 := q.s2
  obtain ⟨Mc, hMc⟩ : ∃ M : Sv.Env → Store → Prop, M = fun env s => env = S so rg wi le mo mi n [o8, o9, o10, o11, o12, o13, o14, o15, some (.lst [.tup [.non, .non], .tup [.tup [], .non], .tup [.lst (rg.map D.int), .non], .tup [.tup (rg.map D.int ++ [.int so]), .int rg.length], .tup [.tup (.bl true :: rg.map D.int), .int 0]]), none, none] := ⟨_, rfl⟩
  refine es_seq (M := Mc) ?_ ?_
  · simp! []
    rw [ev_addT]
    refine ⟨by simp only [List.length_map, List.length_cons, List.length_nil]; omega, ?_⟩
    simp! []
    rw [ev_addT]
    refine ⟨by simp only [List.length_map, List.length_cons, List.length_nil]; omega, ?_⟩
    simp! []
    rw [hMc]
  rintro env s hm
  rw [hMc] at hm
  subst hm
  obtain ⟨Md, hMd⟩ : ∃ M : Sv.Env → Store → Prop, M = fun env s => ∃ o16 o17 o18, env = S so rg wi le mo mi n [o8, o9, o10, o11, o12, o13, o14, o15, o16, o17, o18] := ⟨_, rfl⟩
  refine es_seq (M := Md) ?_ ?_
  · rw [es_forE]
    simp! []
    refine es_loop (fun done env s => ∃ o16 o17 o18, env = S so rg wi le mo mi n [o8, o9, o10, o11, o12, o13, o14, o15, o16, o17, o18]) ⟨_, _, _, rfl⟩ ?_ ?_
    · rintro done x rest env s e ⟨o16, o17, o18, rfl⟩
      have hx : x ∈ [D.tup [.non, .non], .tup [.tup [], .non], .tup [.lst (rg.map D.int), .non], .tup [.tup (rg.map D.int ++ [.int so]), .int rg.length], .tup [.tup (.bl true :: rg.map D.int), .int 0]] := by rw [e]; simp
      have hb : ∃ v t, x = .tup [v, t] ∧ noRow so v t ∧ Nice 1 9999 t := by
        simp only [List.mem_cons, List.not_mem_nil, or_false] at hx
        rcases hx with rfl | rfl | rfl | rfl | rfl
        · exact ⟨_, _, rfl, .non, nice_non⟩
        · exact ⟨_, _, rfl, .nil, nice_non⟩
        · exact ⟨_, _, rfl, .lst _, nice_non⟩
        · exact ⟨_, _, rfl, .at_ rg (.int so) [] q.m (by simp only [List.length_nil]; omega) (.inr (.inr (.inr ⟨_, rfl, by omega⟩))), nice_int (by omega) (by decide)⟩
        · exact ⟨_, _, rfl, .at_ [] (.bl true) (rg.map D.int) (fun m hm => by simp at hm) (by rw [List.length_map, List.length_nil]; omega) (.inr (.inr (.inl ⟨_, rfl⟩))), nice_int (by decide) (by decide)⟩
      obtain ⟨v, t, rfl, h1, h2⟩ := hb
      simp only [eg_tp, eg_gcons, eg_nm, eg_gnil, List.set_cons_zero, List.set_cons_succ, D.tup.injEq, exists_eq_left', List.length_cons, List.length_nil, Nat.zero_add, Nat.reduceAdd, List.cons.injEq, and_assoc, exists_and_left, exists_eq, and_true, true_and]
      exact w_odd q h1 h2 fun st' => ⟨_, _, _, rfl⟩
    · rintro env s ⟨o16, o17, o18, rfl⟩
      rw [hMd]
      exact ⟨_, _, _, rfl⟩
  rintro env s hm
  rw [hMd] at hm
  obtain ⟨o16, o17, o18, rfl⟩ := hm
  -- windows' widths
  obtain ⟨Me, hMe⟩ : ∃ M : Sv.Env → Store → Prop, M = fun env s => ∃ o15, env = S so rg wi le mo mi n [o8, o9, o10, o11, o12, o13, o14, o15, o16, o17, o18] := ⟨_, rfl⟩
  refine es_seq (M := Me) ?_ ?_
  · rw [es_forE]
    simp! []
    refine es_loop (fun done env s => ∃ o15, env = S so rg wi le mo mi n [o8, o9, o10, o11, o12, o13, o14, o15, o16, o17, o18]) ⟨_, rfl⟩ ?_ ?_
    · rintro done x rest env s e ⟨o15, rfl⟩
      have hx : x ∈ [D.int 0, .int 7, .non, .str "1", .bl true] := by rw [e]; simp
      have hb : noNum 1 6 x ∧ Nice 1 9999 x := by
        simp only [List.mem_cons, List.not_mem_nil, or_false] at hx
        rcases hx with rfl | rfl | rfl | rfl | rfl
        · exact ⟨.inr (.inr (.inr ⟨_, rfl, by decide⟩)), nice_int (by decide) (by decide)⟩
        · exact ⟨.inr (.inr (.inr ⟨_, rfl, by decide⟩)), nice_int (by decide) (by decide)⟩
        · exact ⟨.inl rfl, nice_non⟩
        · exact ⟨.inr (.inl ⟨_, rfl⟩), nice_str (by decide +kernel) (by decide +kernel)⟩
        · exact ⟨.inr (.inr (.inl ⟨_, rfl⟩)), nice_bl⟩
      rw [eg_nm]
      simp only [List.set_cons_zero, List.set_cons_succ]
      exact w_num3 q hb.1 hb.2 fun st' => ⟨_, rfl⟩
    · rintro env s ⟨o15, rfl⟩
      rw [hMe]
      exact ⟨_, rfl⟩
  rintro env s hm
  rw [hMe] at hm
  obtain ⟨o15, rfl⟩ := hm
  exact w_steps q k
end
end k78
namespace k78
open PySem Sv
open L2 (atI ixN)
local macro_rules | `(tactic| simp! [$xs,*]) => `(tactic| try simp only [List.map_cons, List.map_nil, List.length_cons, List.length_nil, Nat.zero_add, Nat.reduceAdd, Nat.reduceSub, List.replicate, List.cons_append, List.nil_append, List.append_nil, List.set_cons_zero, List.set_cons_succ, List.zip_cons_cons, List.zip_nil_right, List.foldl_cons, List.foldl_nil, wipeE,
  es_cons, es_nil, es_ret, es_expr, es_if, es_set, es_par, es_asg, es_fd, es_forE, es_raise, es_retN, es_break, es_cont, es_bad, es_pass, es_try, ev_call, ev_cons, ev_nil, ev_con, ev_var, look0, lookS, ev_s1, ev_s2, ev_app, ev_and, ev_or, ev_not, ev_ite, ev_chain, ev_tup, ev_lst, ev_lstM, ev_comp, ev_compM, ev_dict, ev_dict2, ev_cYes, ev_cOne, ev_r1, ev_r2, ev_it, ev_il, ev_iK, ev_iS, ev_sl, ev_oNone, ev_oSome, ev_en, ev_z, ev_fdg, ev_mth, ev_mk, ev_dict0, ev_star, es_append, ev_ho,
  eg_tp, eg_gcons, eg_nm, eg_gnil, eg_sb, onB_bl, ev_addI, ev_subI, ev_modI, ev_divI, ev_ltI, ev_leI, ev_gtI, ev_geI, ev_int, ev_len_t, ev_len_l, ev_len_f, ev_tuple_t, ev_tuple_l, ev_list_t, ev_list_l, ev_isN, ev_notN, ev_sorted_l, ev_max, ev_min, ev_abs, ev_inK, ev_ixK, ev_slT, ev_slL, isNon, isi_int_non, isi_int_bl, isi_int_int, isi_int_str, isi_int_tup, isi_int_lst, isi_int_frl, isi_int_dct, isi_bool_non, isi_bool_bl, isi_bool_int, isi_bool_str, isi_bool_tup, isi_bool_lst, isi_bool_frl, isi_bool_dct, isi_str_non, isi_str_bl, isi_str_int, isi_str_str, isi_str_tup, isi_str_lst, isi_str_frl, isi_str_dct, isi_tuple_non, isi_tuple_bl, isi_tuple_int, isi_tuple_str, isi_tuple_tup, isi_tuple_lst, isi_tuple_frl, isi_tuple_dct, isi_list_non, isi_list_bl, isi_list_int, isi_list_str, isi_list_tup, isi_list_lst, isi_list_frl, isi_list_dct, isi_dict_non, isi_dict_bl, isi_dict_int, isi_dict_str, isi_dict_tup, isi_dict_lst, isi_dict_frl, isi_dict_dct,
  List.cons.injEq, D.int.injEq, D.tup.injEq, D.lst.injEq, D.str.injEq, D.bl.injEq, D.ref.injEq, exists_eq_left', exists_eq, false_and, and_false, exists_false, or_false, false_or, exists_const, and_self, and_assoc, exists_and_left, Nat.zero_le, Nat.reduceLeDiff,
  ne_eq, reduceCtorEq, not_false_eq_true, true_and, and_true, decide_eq_true_eq, Bool.false_eq_true, if_false, if_true, Bool.not_true, Bool.not_false, List.length_map, $xs,*])
local macro_rules | `(tactic| dsimp! [$xs,*]) => `(tactic| simp! [ev_ixT, at0_1, at0_2, at1_2, Option.some.injEq, ev_eq, ev_ne, flat_str, strOk_of, flat_int, flat_tints, flat_tnil, eqD_str, eqD_int, eqD_tnil, st_look_still, st_miss_still, st_look_miss, st_still_miss, decide_false, decide_true, isEmpty_map, List.isEmpty_iff, $xs,*])
section
theorem law_true {ns : List Int} (hns : ns.length ≤ 63) : ∃ st, m_law [.frl (ns.map D.int)] [] = .ok (.bl true) st := by
  have h : Ev (m_law [.frl (ns.map D.int)] []) (fun d _ => d = .bl true) (fun _ _ => False) := by
    refine (ev_fn (ds := [_]) rfl).mpr ?_
    unfold b_law
    simp! [ev_max, ev_min]
    refine ⟨by split <;> split <;> exact r62_of (by omega) (by omega), ?_⟩
    refine ev_compA (List.range _) _ (fun done ys st => ys = done.map fun _ => D.bl true) rfl ?_ ?_
    · rintro done ys t rest st e rfl
      have ht : (t : Int) ≤ 2 := by
        have : t ∈ List.range (if 2 < (if 3 < (ns.length : Int) then 3 else (ns.length : Int)) then (if 3 < (ns.length : Int) then 3 else (ns.length : Int)) else 2).toNat := by
          rw [e]; simp
        have := List.mem_range.mp this
        split at this <;> split at this <;> omega
      simp! []
      refine sp_pool (by omega) (by omega) fun l hl => ?_
      refine w_right ⟨l, get_last _ _, hl⟩ fun st' => ?_
      rw [List.map_append]
      rfl
    · rintro ys st rfl
      refine ⟨by rw [List.length_map, List.length_range]; split <;> split <;> omega, ?_⟩
      have := (ev_all (P := fun d _ => d = .bl true) (X := fun _ _ => False) (st := st) (bs := (List.range (if 2 < (if 3 < (ns.length : Int) then 3 else (ns.length : Int)) then (if 3 < (ns.length : Int) then 3 else (ns.length : Int)) else 2).toNat).map fun _ => true)).mpr (by
        rw [List.all_map]
        congr 1
        rw [List.all_eq_true]
        intro x _
        rfl)
      rw [List.map_map] at this
      exact this
  obtain ⟨a, s, e, rfl⟩ := h.get
  exact ⟨s, e⟩
end
end k78
namespace k78
open PySem PySem.W PyProof.Rows L2 LamX
theorem funD_inj {K : PySem.W.Frag} {x qual : PySem.Str} {params : Arguments} {body : List Stmt} {scope : Scope} {dvs : List V} {kws : List (PySem.Str × V)} {f : Addr} {fd fd2 : FuncData} (F : FunD K x qual params body scope dvs kws f fd) (F2 : FunD K x qual params body scope dvs kws f fd2) : fd2 = fd := by
  obtain ⟨_, _, _, _, _, _, _, _, _, _, _, lk, _⟩ := F.ex
  obtain ⟨_, _, _, _, _, _, _, _, _, _, _, lk2, _⟩ := F2.ex
  rw [lk] at lk2
  cases lk2
  rfl
theorem hF_ (w : World) (mg : PySem.Str → Option Value) (fa' : Addr) (h : Heap) (Y : hk.says w h) (G : h.Ns mainGlobals mg) (hmg : mg "law" = some (.ref fa')) :
    ∃ (K : PySem.W.Frag) (fd : FuncData) (cs : List (Addr × Addr)) (tabs : List (Addr × PySem.Str)), K.In h ∧ (∀ p ∈ cs, h.get? p.2 = some { cls := .none, data := .fields #[] }) ∧ (∀ p ∈ cs, K.lookup p.2 = none) ∧ (∀ p ∈ cs, PySem.W.CodeHd h p.1 p.2) ∧ (∀ (s : Shared) (u : Value), BindsTo s fd ⟨[u], []⟩ [("script", u)]) ∧
        (∀ p ∈ tabs, p.1 ∈ cs.map (·.2)) ∧ ∀ base : Heap, K.In base → base.Ns mainGlobals mg → (∀ p ∈ cs, TabB base mg p.1 p.2) → Sv.FD PySem.Challenge.rw_telltracks_k78_followers_made.prog w ⟨K, mg, ⟨tabs, none, none⟩⟩ base 16 fa' fd ["script"] m_law := by
  obtain ⟨K, KX, Y⟩ := Y
  have mk : ∀ base : Heap, K.In base → base.Ns mainGlobals mg → (∀ p ∈ tf.map (He.cT K), TabB base mg p.1 p.2) → C w K mg base := fun base _ _ tb => ⟨⟨h, KX, G, Y⟩, fun p hp => tb _ (List.mem_map.mpr ⟨p, hp, rfl⟩)⟩
  have e0 : fa' = He.ga K "law" := by
    have z := He.glo_ok KX G (Y.t.d.fact 43 (f := .glo "law") rfl)
    rw [hmg] at z
    cases z
    rfl
  subst e0
  obtain ⟨fd, F⟩ := Y.t.d.def_ 43 (d := d_law) rfl
  refine ⟨K, fd, tf.map (He.cT K), tL K, KX, ?_, ?_, ?_, ?_, ?_, ?_⟩
  · intro p hp
    obtain ⟨q, hq, rfl⟩ := List.mem_map.mp hp
    exact Y.empty q hq
  · intro p hp
    obtain ⟨q, hq, rfl⟩ := List.mem_map.mp hp
    exact Y.out q hq
  · intro p hp
    obtain ⟨q, hq, rfl⟩ := List.mem_map.mp hp
    exact codeHd_of_K KX (Y.hd q hq)
  · intro s v
    exact FunD.bindsA (ps := ["script"]) F (fun _ _ _ _ _ _ us hl => match us, hl with | [_], _ => rfl) s [v] rfl
  · intro p hp
    rw [List.map_map]
    unfold tL at hp
    simp only [List.mem_cons, List.not_mem_nil, or_false] at hp
    refine List.mem_map.mpr ?_
    rcases hp with rfl | rfl
    · exact ⟨(("wrong_mark", none) : He.Defn), by unfold tf; simp only [List.mem_cons, true_or, or_true], rfl⟩
    · exact ⟨(("_law_right", none) : He.Defn), by unfold tf; simp only [List.mem_cons, true_or, or_true], rfl⟩
  · intro base hB hN tb
    obtain ⟨fd2, F2, _, G2⟩ := ok_law (P := PySem.Challenge.rw_telltracks_k78_followers_made.prog) (mk base hB hN tb)
    rw [← funD_inj F F2]
    exact G2
end k78
open PySem PySem.W PySem.Calls PyProof.Rows
theorem PySem.Challenge.cw_telltracks_k78_followers_made_holds : PySem.Challenge.rw_telltracks_k78_followers_made.Holds := by
  w_on; o_law
  refine HandSHeadRun.head_any (r := OpenLaw.row PySem.Challenge.rw_telltracks_k78_followers_made) (q := view (OpenLaw.row PySem.Challenge.rw_telltracks_k78_followers_made).prog [65]) (H := k78.hk) (ob := k78.ob) (M := 15000) (loose := k78.loose) (d := HandSHeadRun.topDef (OpenLaw.row PySem.Challenge.rw_telltracks_k78_followers_made).prog 65) (kwd := []) k78.ob_eq
    (by kernel_rfl) (fun s => by kernel_rfl) k78.run (by kernel_rfl) (by kernel_rfl) (by kernel_rfl) (by rfl) (by first | assumption | decide +kernel) (by decide +kernel) ⟨rfl, rfl, rfl, rfl, rfl, by decide +kernel⟩ ?hw ?hc
  case hw => w_witness2
  case hc =>
    have e : (HandSHeadRun.topDef (OpenLaw.row PySem.Challenge.rw_telltracks_k78_followers_made).prog 65).name = ("law" : PySem.Str) := by kernel_rfl
    refine Sv.law_holds (l := PySem.Challenge.rw_telltracks_k78_followers_made) (n := 63) (k := 16) (x := "script") (g := k78.m_law) rfl (by decide) (by kernel_rfl) ⟨rfl, by decide, by decide⟩ (fun w mg fa h Y G hmg => k78.hF_ w mg fa h Y G (by rw [← e]; exact hmg)) ?_
    intro ns hns _
    exact k78.law_true hns
