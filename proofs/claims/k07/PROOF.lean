import PyProof.Rows.All
import HandS.ForMost
import HandS.WordsExc
import HandS.TupAny
import HandS.Deep
import HandS.WideBits
import HandS.Wide
import HandS.SortInts
import HandS.EndTab
import HandS.AnyAll
import HandS.GenOver
import PyProof.ConsumeS
import HandS.SortKw
import HandS.Conv
import HandS.IsInst
import PySem.Challenge.RW_heapsbybits_k07_bases_of_rows
import HandS.Codes
section
set_option Elab.async false
set_option linter.all false
set_option maxRecDepth 100000
set_option maxHeartbeats 1000000
namespace D
open PySem PySem.Spec PyProof.Rows L2

/-! ### pure values -/
inductive PV where
  | non | bl (b : Bool) | int (i : Int) | str (x : Str)
  | lst (xs : List PV) | tup (xs : List PV)
  | obj (c : Str) (fs : List (Str × PV))
  | dct (kvs : List (PV × PV))
  | scr (ns : List Int)
  deriving Inhabited

/-- an exception: its class, its fields -/
structure XV where
  cls : Str
  fs : List (Str × PV)

inductive Res (α : Type) where
  | ok (a : α) | err (x : XV) | bad

def Res.bnd {α β : Type} (r : Res α) (f : α → Res β) : Res β := match r with
  | .ok a => f a
  | .err x => .err x
  | .bad => .bad
instance : Monad Res where
  pure := Res.ok
  bind := Res.bnd

def wpR {α : Type} (r : Res α) (Q : α → Prop) (E : XV → Prop) : Prop := match r with
  | .ok a => Q a
  | .err x => E x
  | .bad => False
theorem wpR_bnd {α β : Type} {r : Res α} {f : α → Res β} {Q : β → Prop} {E : XV → Prop} : wpR (r.bnd f) Q E ↔ wpR r (fun a => wpR (f a) Q E) E := by
  cases r <;> exact Iff.rfl
theorem wpR_mono {α : Type} {r : Res α} {Q Q' : α → Prop} {E E' : XV → Prop} (h : wpR r Q E) (hQ : ∀ a, Q a → Q' a) (hE : ∀ x, E x → E' x) : wpR r Q' E' := by
  cases r with
  | ok a => exact hQ a h
  | err x => exact hE x h
  | bad => exact h

/-! ### what a value stands for -/
section
variable (g : Str → Option Value) (K : PySem.W.Frag)
mutual
inductive Rep (F : Hp) : V → PV → Prop
  | non : Rep F .non .non
  | bl (b : Bool) : Rep F (.bl b) (.bl b)
  | int (i : Int) : Rep F (.int i) (.int i)
  | str (x : Str) : Rep F (.str x) (.str x)
  | lst {a : Addr} {vs : List V} {xs : List PV} : F a = some (.lst vs) → Reps F vs xs → Rep F (.ref a) (.lst xs)
  | scr {a : Addr} {ns : List Int} : SqL K F a (ns.map V.int) → Rep F (.ref a) (.scr ns)
  | tup {a : Addr} {vs : List V} {xs : List PV} : SqT K F a vs → Reps F vs xs → Rep F (.ref a) (.tup xs)
  | obj {a C dx : Addr} {c : Str} {vs : List (Str × V)} {fs : List (Str × PV)} : g c = some (.ref C) → F a = some (.ins C dx vs) → RepF F vs fs → Rep F (.ref a) (.obj c fs)
  | dct {a : Addr} {o : HO} {kvs : List (PV × PV)} : F a = some o → RepD F o kvs → Rep F (.ref a) (.dct kvs)
inductive Reps (F : Hp) : List V → List PV → Prop
  | nil : Reps F [] []
  | cons {v : V} {vs : List V} {x : PV} {xs : List PV} : Rep F v x → Reps F vs xs → Reps F (v :: vs) (x :: xs)
inductive RepF (F : Hp) : List (Str × V) → List (Str × PV) → Prop
  | nil : RepF F [] []
  | cons {k : Str} {v : V} {vs : List (Str × V)} {x : PV} {xs : List (Str × PV)} : Rep F v x → RepF F vs xs → RepF F ((k, v) :: vs) ((k, x) :: xs)
inductive RepD (F : Hp) : HO → List (PV × PV) → Prop
  | nilK : RepD F (.dK []) []
  | nilT : RepD F (.dT []) []
  | intK {i : Int} {v : V} {vs : List (Key × V)} {x : PV} {xs : List (PV × PV)} : Rep F v x → RepD F (.dK vs) xs → RepD F (.dK ((.inl i, v) :: vs)) ((.int i, x) :: xs)
  | strK {i : Str} {v : V} {vs : List (Key × V)} {x : PV} {xs : List (PV × PV)} : Rep F v x → RepD F (.dK vs) xs → RepD F (.dK ((.inr i, v) :: vs)) ((.str i, x) :: xs)
  | tupT {ks : List Key} {v : V} {vs : List (List Key × V)} {x : PV} {xs : List (PV × PV)} : Rep F v x → RepD F (.dT vs) xs →
      RepD F (.dT ((ks, v) :: vs)) ((.tup (ks.map fun k => match k with | .inl i => .int i | .inr s => .str s), x) :: xs)
end
end

section
variable {g : Str → Option Value} {K : PySem.W.Frag} {F F' : Hp}
theorem Same.seqT (e : Same F F') {a : Addr} {xs : List V} (h : SqT K F a xs) : SqT K F' a xs := by
  rcases h with (h | ⟨o, h⟩) | h
  · exact .inl (.inl (e _ _ h))
  · exact .inl (.inr ⟨o, e _ _ h⟩)
  · exact .inr h
mutual
theorem Rep.mono (e : Same F F') : ∀ {v : V} {x : PV}, Rep g K F v x → Rep g K F' v x
  | _, _, .non => .non
  | _, _, .bl b => .bl b
  | _, _, .int i => .int i
  | _, _, .str i => .str i
  | _, _, .lst h r => .lst (e _ _ h) (Reps.mono e r)
  | _, _, .scr h => .scr (e.seq h)
  | _, _, .tup h r => .tup (Same.seqT e h) (Reps.mono e r)
  | _, _, .obj h1 h2 r => .obj h1 (e _ _ h2) (RepF.mono e r)
  | _, _, .dct h r => .dct (e _ _ h) (RepD.mono e r)
theorem Reps.mono (e : Same F F') : ∀ {vs : List V} {xs : List PV}, Reps g K F vs xs → Reps g K F' vs xs
  | _, _, .nil => .nil
  | _, _, .cons h r => .cons (Rep.mono e h) (Reps.mono e r)
theorem RepF.mono (e : Same F F') : ∀ {vs : List (Str × V)} {xs : List (Str × PV)}, RepF g K F vs xs → RepF g K F' vs xs
  | _, _, .nil => .nil
  | _, _, .cons h r => .cons (Rep.mono e h) (RepF.mono e r)
theorem RepD.mono (e : Same F F') : ∀ {o : HO} {xs : List (PV × PV)}, RepD g K F o xs → RepD g K F' o xs
  | _, _, .nilK => .nilK
  | _, _, .nilT => .nilT
  | _, _, .intK h r => .intK (Rep.mono e h) (RepD.mono e r)
  | _, _, .strK h r => .strK (Rep.mono e h) (RepD.mono e r)
  | _, _, .tupT h r => .tupT (Rep.mono e h) (RepD.mono e r)
end
theorem Reps.length : ∀ {vs : List V} {xs : List PV}, Reps g K F vs xs → vs.length = xs.length
  | _, _, .nil => rfl
  | _, _, .cons _ r => congrArg (· + 1) r.length
theorem Reps.get : ∀ {vs : List V} {xs : List PV} {i : Nat} {x : PV}, Reps g K F vs xs → xs[i]? = some x → ∃ v, vs[i]? = some v ∧ Rep g K F v x
  | _, _, _, _, .nil, e => by simp at e
  | _, _, 0, _, .cons r _, e => by simp at e; subst e; exact ⟨_, rfl, r⟩
  | _, _, i + 1, x, .cons _ t, e => by
    obtain ⟨u, h1, h2⟩ := Reps.get (i := i) (x := x) t (by simpa using e)
    exact ⟨u, by simpa using h1, h2⟩
theorem Reps.get' : ∀ {vs : List V} {xs : List PV} {i : Nat} {v : V}, Reps g K F vs xs → vs[i]? = some v → ∃ x, xs[i]? = some x ∧ Rep g K F v x
  | _, _, _, _, .nil, e => by simp at e
  | _, _, 0, _, .cons r _, e => by simp at e; subst e; exact ⟨_, rfl, r⟩
  | _, _, i + 1, v, .cons _ t, e => by
    obtain ⟨u, h1, h2⟩ := Reps.get' (i := i) (v := v) t (by simpa using e)
    exact ⟨u, by simpa using h1, h2⟩
theorem Reps.append : ∀ {vs us : List V} {xs ys : List PV}, Reps g K F vs xs → Reps g K F us ys → Reps g K F (vs ++ us) (xs ++ ys)
  | _, _, _, _, .nil, s => s
  | _, _, _, _, .cons r t, s => .cons r (Reps.append t s)
theorem Reps.take : ∀ {vs : List V} {xs : List PV} (n : Nat), Reps g K F vs xs → Reps g K F (vs.take n) (xs.take n)
  | _, _, 0, _ => .nil
  | _, _, _ + 1, .nil => .nil
  | _, _, n + 1, .cons r t => .cons r (Reps.take n t)
theorem Reps.drop : ∀ {vs : List V} {xs : List PV} (n : Nat), Reps g K F vs xs → Reps g K F (vs.drop n) (xs.drop n)
  | _, _, 0, r => r
  | _, _, _ + 1, .nil => .nil
  | _, _, n + 1, .cons _ t => Reps.drop n t
theorem Reps.reverse {vs : List V} {xs : List PV} (h : Reps g K F vs xs) : Reps g K F vs.reverse xs.reverse := by
  induction vs generalizing xs with
  | nil => cases h; exact .nil
  | cons v vs ih =>
    cases h with
    | cons r t =>
      rw [List.reverse_cons, List.reverse_cons]
      exact (ih t).append (.cons r .nil)
theorem Reps.set {v : V} {x : PV} (h : Rep g K F v x) : ∀ {vs : List V} {xs : List PV} (i : Nat), Reps g K F vs xs → Reps g K F (vs.set i v) (xs.set i x)
  | _, _, _, .nil => .nil
  | _, _, 0, .cons _ t => .cons h t
  | _, _, i + 1, .cons q t => .cons q (Reps.set h i t)
theorem Reps.dropLast {vs : List V} {xs : List PV} (h : Reps g K F vs xs) : Reps g K F vs.dropLast xs.dropLast := by
  rw [List.dropLast_eq_take, List.dropLast_eq_take, h.length]
  exact h.take _
end

/-! ### tables of code objects -/
def TabG (H : Hp) (P : Addr) : Prop := ∃ ps : Array Value, H P = some (.tbl ps) ∧ TriplesOk ps.toList
def Tabs (T : Addr → Prop) (H : Hp) : Prop := ∀ a, T a → TabG H a
def SameT (T : Addr → Prop) (H H' : Hp) : Prop := ∀ a o, ¬ T a → H a = some o → H' a = some o
theorem SameT.refl {T : Addr → Prop} (H : Hp) : SameT T H H := fun _ _ _ h => h
theorem SameT.trans {T : Addr → Prop} {H H1 H2 : Hp} (a : SameT T H H1) (b : SameT T H1 H2) : SameT T H H2 := fun c o n h => b c o n (a c o n h)

/-- from (H, F) to (H', F'): what stood stands; F: what is never changed any more -/
structure Ext (T : Addr → Prop) (H F H' F' : Hp) : Prop where
  tabs : Tabs T H'
  h : SameT T H H'
  f : Same F F'
  fh : Same F' H'
  ft : ∀ a, T a → F' a = none
  new : ∀ a, H a ≠ none → F a = none → F' a = none
structure Wf (T : Addr → Prop) (H F : Hp) : Prop where
  tabs : Tabs T H
  fh : Same F H
  ft : ∀ a, T a → F a = none
section
variable {T : Addr → Prop} {H F H1 F1 H2 F2 : Hp}
theorem Ext.refl (w : Wf T H F) : Ext T H F H F := ⟨w.tabs, SameT.refl _, Same.refl _, w.fh, w.ft, fun _ _ h => h⟩
theorem Ext.wf (e : Ext T H F H1 F1) : Wf T H1 F1 := ⟨e.tabs, e.fh, e.ft⟩
theorem tab_ne {a : Addr} (t : Tabs T H) (h : T a) : H a ≠ none := by
  obtain ⟨ps, e, _⟩ := t a h
  rw [e]; simp
theorem Ext.ne (e : Ext T H F H1 F1) {a : Addr} (h : H a ≠ none) : H1 a ≠ none := by
  by_cases t : T a
  · exact tab_ne e.tabs t
  · cases q : H a with
    | none => exact absurd q h
    | some o => rw [e.h a o t q]; simp
theorem Ext.trans (a : Ext T H F H1 F1) (b : Ext T H1 F1 H2 F2) : Ext T H F H2 F2 :=
  ⟨b.tabs, a.h.trans b.h, a.f.trans b.f, b.fh, b.ft, fun c h n => b.new c (a.ne h) (a.new c h n)⟩
/-- a new object, frozen at once -/
theorem Ext.alloc (w : Wf T H F) {p : Addr} {o : HO} (h : H p = none) : Ext T H F (upd H p o) (upd F p o) := by
  have np : ¬ T p := fun t => tab_ne w.tabs t h
  have fp : F p = none := by
    cases q : F p with
    | none => rfl
    | some u => rw [w.fh p u q] at h; cases h
  refine ⟨fun a t => ?_, fun a u _ e => ?_, fun a u e => ?_, fun a u e => ?_, fun a t => ?_, fun a h1 h2 => ?_⟩
  · have : a ≠ p := fun z => np (by rw [← z]; exact t)
    obtain ⟨ps, e, r⟩ := w.tabs a t
    exact ⟨ps, by rw [upd_ne this]; exact e, r⟩
  · rw [upd_ne (fun z => by rw [z, h] at e; cases e)]; exact e
  · rw [upd_ne (fun z => by rw [z, fp] at e; cases e)]; exact e
  · by_cases hp : a = p
    · subst hp; rw [upd_same] at e ⊢; exact e
    · rw [upd_ne hp] at e ⊢; exact w.fh a u e
  · rw [upd_ne (fun z => np (by rw [← z]; exact t))]; exact w.ft a t
  · rw [upd_ne (fun z => h1 (by rw [z]; exact h))]; exact h2
/-- a new object that is not frozen yet -/
theorem Ext.laid (w : Wf T H F) {p : Addr} {o : HO} (h : H p = none) : Ext T H F (upd H p o) F := by
  have np : ¬ T p := fun t => tab_ne w.tabs t h
  refine ⟨fun a t => ?_, fun a u _ e => ?_, Same.refl _, fun a u e => ?_, w.ft, fun a h1 h2 => h2⟩
  · have : a ≠ p := fun z => np (by rw [← z]; exact t)
    obtain ⟨ps, e, r⟩ := w.tabs a t
    exact ⟨ps, by rw [upd_ne this]; exact e, r⟩
  · rw [upd_ne (fun z => by rw [z, h] at e; cases e)]; exact e
  · have := w.fh a u e
    rw [upd_ne (fun z => by rw [z, h] at this; cases this)]; exact this
end

/-! ### the locals of a def -/
abbrev PEnv := List (Option PV)
/-- the content of an object that is owned -/
inductive RepO (g : Str → Option Value) (K : PySem.W.Frag) (F : Hp) : HO → PV → Prop
  | lst {vs : List V} {xs : List PV} : Reps g K F vs xs → RepO g K F (.lst vs) (.lst xs)
  | obj {C dx : Addr} {c : Str} {vs : List (Str × V)} {fs : List (Str × PV)} : g c = some (.ref C) → RepF g K F vs fs → RepO g K F (.ins C dx vs) (.obj c fs)
  | dct {o : HO} {kvs : List (PV × PV)} : RepD g K F o kvs → RepO g K F o (.dct kvs)
section
variable {g : Str → Option Value} {K : PySem.W.Frag} {T : Addr → Prop}
theorem RepO.mono {F F' : Hp} (e : Same F F') {o : HO} {x : PV} (h : RepO g K F o x) : RepO g K F' o x := by
  cases h with
  | lst r => exact .lst (r.mono e)
  | obj h r => exact .obj h (r.mono e)
  | dct r => exact .dct (r.mono e)
theorem RepO.rep {F : Hp} {o : HO} {x : PV} {a : Addr} (h : RepO g K F o x) (e : F a = some o) : Rep g K F (.ref a) x := by
  cases h with
  | lst r => exact .lst e r
  | obj h r => exact .obj h e r
  | dct r => exact .dct e r
end
structure Sta (g : Str → Option Value) (K : PySem.W.Frag) (T : Addr → Prop) (H0 F0 : Hp) (ow : List Bool) (env : PEnv) (σ : L2.St) (H F : Hp) : Prop where
  ext : Ext T H0 F0 H F
  len : σ.length = env.length
  slot : ∀ (i : Nat) (x : PV), env[i]? = some (some x) → ow[i]? ≠ some true → ∃ v, σ[i]? = some (some v) ∧ Rep g K F v x
  own : ∀ (i : Nat) (x : PV), env[i]? = some (some x) → ow[i]? = some true → ∃ a o, σ[i]? = some (some (.ref a)) ∧ H a = some o ∧ RepO g K F o x ∧ H0 a = none ∧ F a = none ∧ ¬ T a
  dist : ∀ (i j : Nat) (x y : PV) (a : Addr), ow[i]? = some true → ow[j]? = some true → env[i]? = some (some x) → env[j]? = some (some y) → σ[i]? = some (some (.ref a)) → σ[j]? = some (some (.ref a)) → i = j

section
variable {g : Str → Option Value} {K : PySem.W.Frag} {T : Addr → Prop} {H0 F0 H F H1 F1 : Hp} {ow : List Bool} {env : PEnv} {σ : L2.St}
theorem Sta.wf (l : Sta g K T H0 F0 ow env σ H F) : Wf T H F := l.ext.wf
/-- the heap has grown by an expression -/
theorem Sta.grow (l : Sta g K T H0 F0 ow env σ H F) (e : Ext T H F H1 F1) : Sta g K T H0 F0 ow env σ H1 F1 := by
  refine ⟨l.ext.trans e, l.len, fun i x h n => ?_, fun i x h n => ?_, l.dist⟩
  · obtain ⟨v, h1, h2⟩ := l.slot i x h n
    exact ⟨v, h1, h2.mono e.f⟩
  · obtain ⟨a, o, h1, h2, h3, h4, h5, h6⟩ := l.own i x h n
    exact ⟨a, o, h1, e.h a o h6 h2, h3.mono e.f, h4, e.new a (by rw [h2]; simp) h5, h6⟩
/-- a name's value, frozen -/
theorem Sta.get (l : Sta g K T H0 F0 ow env σ H F) {i : Nat} {x : PV} (h : env[i]? = some (some x)) (n : ow[i]? ≠ some true) : ∃ v, σ[i]? = some (some v) ∧ Rep g K F v x := l.slot i x h n
/-- a name's value as it is now -/
theorem Sta.read (l : Sta g K T H0 F0 ow env σ H F) {i : Nat} {x : PV} (h : env[i]? = some (some x)) : ∃ v, σ[i]? = some (some v) ∧ Rep g K H v x := by
  by_cases n : ow[i]? = some true
  · obtain ⟨a, o, h1, h2, h3, _⟩ := l.own i x h n
    exact ⟨_, h1, (h3.mono l.ext.fh).rep h2⟩
  · obtain ⟨v, h1, h2⟩ := l.slot i x h n
    exact ⟨v, h1, h2.mono l.ext.fh⟩
end
end D
end

section
set_option Elab.async false
set_option linter.all false
set_option maxRecDepth 100000
set_option maxHeartbeats 1000000
namespace D
open PySem PySem.Spec PyProof.Rows L2

section
variable (g : Str → Option Value) (K : PySem.W.Frag) (T : Addr → Prop)
/-- a value to be read now: frozen, or an owned object -/
def RepT (H F : Hp) (v : V) (x : PV) : Prop := Rep g K F v x ∨ ∃ a o, v = .ref a ∧ H a = some o ∧ RepO g K F o x ∧ ¬ T a
/-- what an expression gives: frozen, or (fr) an object that is new and nobody's -/
def Rt (fr : Bool) (H H' F' : Hp) (v : V) (x : PV) : Prop := match fr with
  | false => Rep g K F' v x
  | true => ∃ a o, v = .ref a ∧ H' a = some o ∧ RepO g K F' o x ∧ H a = none ∧ F' a = none
def RepX (F : Hp) (cls : Value) (dd : Option Addr) (x : XV) : Prop :=
  ∃ C, cls = .ref C ∧ g x.cls = some (.ref C) ∧ ((x.fs = [] ∧ dd = none) ∨ ∃ d vs, dd = some d ∧ F d = some (.xd vs) ∧ RepF g K F vs x.fs)
/-- an expression -/
def tE (fr : Bool) (W : WX) (ow : List Bool) (d : PEnv → Res PV) : TE := fun σ H Q => ∃ H0 F0 env F, Sta g K T H0 F0 ow env σ H F ∧
  wpR (d env) (fun r => ∀ v H' F', Ext T H F H' F' → Rt g K fr H H' F' v r → Q v H') (fun x => ∀ cls dd H' F', Ext T H F H' F' → RepX g K F' cls dd x → W cls dd σ H')
/-- .. that is only read -/
def tR (W : WX) (ow : List Bool) (d : PEnv → Res PV) : TE := fun σ H Q => ∃ H0 F0 env F, Sta g K T H0 F0 ow env σ H F ∧
  wpR (d env) (fun r => ∀ v H' F', Ext T H F H' F' → RepT g K T H' F' v r → Q v H') (fun x => ∀ cls dd H' F', Ext T H F H' F' → RepX g K F' cls dd x → W cls dd σ H')
/-- a test -/
def tT (W : WX) (ow : List Bool) (d : PEnv → Res Bool) : TT := fun σ H Q => ∃ H0 F0 env F, Sta g K T H0 F0 ow env σ H F ∧
  wpR (d env) (fun b => ∀ H' F', Ext T H F H' F' → Q b H') (fun x => ∀ cls dd H' F', Ext T H F H' F' → RepX g K F' cls dd x → W cls dd σ H')
/-- arguments -/
def tA (W : WX) (ow : List Bool) (d : PEnv → Res (List PV)) : TA := fun σ H Q => ∃ H0 F0 env F, Sta g K T H0 F0 ow env σ H F ∧
  wpR (d env) (fun rs => ∀ vs H' F', Ext T H F H' F' → Reps g K F' vs rs → Q vs H') (fun x => ∀ cls dd H' F', Ext T H F H' F' → RepX g K F' cls dd x → W cls dd σ H')
end

theorem _root_.L2.PE.imp {X : Cx} {e : Expr} {t t' : TE} (h : PE X e t) (i : ∀ σ H Q, t' σ H Q → t σ H Q) : PE X e t' := ⟨fun pins s σ H Q I w => h.run pins s σ H Q I (i _ _ _ w)⟩
theorem _root_.L2.PT.imp {X : Cx} {e : Expr} {t t' : TT} (h : PT X e t) (i : ∀ σ H Q, t' σ H Q → t σ H Q) : PT X e t' := ⟨fun pins s σ H Q I w => h.run pins s σ H Q I (i _ _ _ w)⟩
theorem _root_.L2.PW.imp {X : Cx} {e : Expr} {t t' : TT} (h : PW X e t) (i : ∀ σ H Q, t' σ H Q → t σ H Q) : PW X e t' := ⟨fun wh pins s σ H Q I w => h.run wh pins s σ H Q I (i _ _ _ w)⟩
theorem _root_.L2.PA.imp {X : Cx} {e : List Expr} {t t' : TA} (h : PA X e t) (i : ∀ σ H Q, t' σ H Q → t σ H Q) : PA X e t' := ⟨fun p pins s σ H Q I w => h.run p pins s σ H Q I (i _ _ _ w)⟩

abbrev DX (X : Cx) (T : Addr → Prop) (fr : Bool) (W : WX) (ow : List Bool) (e : Expr) (d : PEnv → Res PV) : Prop := PE X e (tE X.mg X.K T fr W ow d)
abbrev DE (X : Cx) (T : Addr → Prop) (W : WX) (ow : List Bool) (e : Expr) (d : PEnv → Res PV) : Prop := PE X e (tE X.mg X.K T false W ow d)
abbrev DF (X : Cx) (T : Addr → Prop) (W : WX) (ow : List Bool) (e : Expr) (d : PEnv → Res PV) : Prop := PE X e (tE X.mg X.K T true W ow d)
abbrev DR (X : Cx) (T : Addr → Prop) (W : WX) (ow : List Bool) (e : Expr) (d : PEnv → Res PV) : Prop := PE X e (tR X.mg X.K T W ow d)
abbrev DT (X : Cx) (T : Addr → Prop) (W : WX) (ow : List Bool) (e : Expr) (d : PEnv → Res Bool) : Prop := PT X e (tT X.mg X.K T W ow d)
abbrev DW (X : Cx) (T : Addr → Prop) (W : WX) (ow : List Bool) (e : Expr) (d : PEnv → Res Bool) : Prop := PW X e (tT X.mg X.K T W ow d)
abbrev DA (X : Cx) (T : Addr → Prop) (W : WX) (ow : List Bool) (es : List Expr) (d : PEnv → Res (List PV)) : Prop := PA X es (tA X.mg X.K T W ow d)

section
variable {g : Str → Option Value} {K : PySem.W.Frag} {T : Addr → Prop} {H0 F0 H F H1 F1 : Hp} {ow : List Bool} {env : PEnv} {σ : L2.St} {v : V} {x : PV}
theorem noT (t : Tabs T H) {a : Addr} {o : HO} (e : H a = some o) (h : ∀ ps, o ≠ .tbl ps) : ¬ T a := fun z => by
  obtain ⟨ps, e', _⟩ := t a z
  rw [e] at e'
  exact h ps (Option.some.inj e')
theorem RepO.notTbl {o : HO} (h : RepO g K F o x) : ∀ ps, o ≠ .tbl ps := by
  cases h with
  | lst r => intro ps e; cases e
  | obj _ r => intro ps e; cases e
  | dct r => cases r <;> intro ps e <;> cases e
theorem RepT.ext (h : RepT g K T H F v x) (e : Ext T H F H1 F1) : RepT g K T H1 F1 v x := by
  rcases h with h | ⟨a, o, h1, h2, h3, h4⟩
  · exact .inl (h.mono e.f)
  · exact .inr ⟨a, o, h1, e.h a o h4 h2, h3.mono e.f, h4⟩
theorem RepT.live (h : RepT g K T H F v x) (w : Wf T H F) : Rep g K H v x := by
  rcases h with h | ⟨a, o, rfl, h2, h3, h4⟩
  · exact h.mono w.fh
  · exact (h3.mono w.fh).rep h2
/-- a new object is frozen -/
theorem Ext.freeze (e : Ext T H F H1 F1) {a : Addr} {o : HO} (h1 : H1 a = some o) (hb : ∀ ps, o ≠ .tbl ps) (h0 : H a = none) (hf : F1 a = none) : Ext T H F H1 (upd F1 a o) := by
  have nt : ¬ T a := noT e.tabs h1 hb
  refine ⟨e.tabs, e.h, fun b u q => ?_, fun b u q => ?_, fun b t => ?_, fun b n1 n2 => ?_⟩
  · rw [upd_ne (fun z => by rw [z] at q; rw [e.f _ _ q] at hf; cases hf)]; exact e.f b u q
  · by_cases hb : b = a
    · subst hb; rw [upd_same] at q; cases q; exact h1
    · rw [upd_ne hb] at q; exact e.fh b u q
  · rw [upd_ne (fun z => nt (by rw [← z]; exact t))]; exact e.ft b t
  · rw [upd_ne (fun z => n1 (by rw [z]; exact h0))]; exact e.new b n1 n2
theorem Same.upd_new {F1 : Hp} {a : Addr} {o : HO} (hf : F1 a = none) : Same F1 (upd F1 a o) := fun b u q => by
  rw [upd_ne (fun z => by rw [z, hf] at q; cases q)]; exact q
theorem Rt.frozen {fr : Bool} (h : Rt g K fr H H1 F1 v x) (e : Ext T H F H1 F1) : ∃ F2, Ext T H F H1 F2 ∧ Same F1 F2 ∧ Rep g K F2 v x := by
  cases fr with
  | false => exact ⟨F1, e, Same.refl _, h⟩
  | true =>
    obtain ⟨a, o, rfl, h1, h2, h3, h4⟩ := h
    exact ⟨upd F1 a o, e.freeze h1 h2.notTbl h3 h4, Same.upd_new h4, (h2.mono (Same.upd_new h4)).rep upd_same⟩
theorem Rt.toT {fr : Bool} (h : Rt g K fr H H1 F1 v x) (e : Ext T H F H1 F1) : RepT g K T H1 F1 v x := by
  cases fr with
  | false => exact .inl h
  | true =>
    obtain ⟨a, o, rfl, h1, h2, h3, h4⟩ := h
    exact .inr ⟨a, o, rfl, h1, h2, noT e.tabs h1 h2.notTbl⟩
end

section
variable {X : Cx} {T : Addr → Prop} {W : WX} {ow : List Bool} {fr : Bool} {a b c e : Expr} {es rest : List Expr} {da db dc d : PEnv → Res PV} {pos : Pos}
theorem DX.de (h : DX X T fr W ow e d) : DE X T W ow e d := h.imp fun σ H Q ⟨H0, F0, env, F, l, w⟩ => ⟨H0, F0, env, F, l, wpR_mono w (fun r q v H' F' x rt => by
  obtain ⟨F2, x2, _, r2⟩ := rt.frozen x
  exact q v H' F2 x2 r2) fun _ z => z⟩
theorem DX.dr (h : DX X T fr W ow e d) : DR X T W ow e d := (DX.de h).imp fun σ H Q ⟨H0, F0, env, F, l, w⟩ => ⟨H0, F0, env, F, l, wpR_mono w (fun r q v H' F' x rt => q v H' F' x (.inl rt)) fun _ z => z⟩

/-! ### names, constants -/
def xVar (i : Nat) : PEnv → Res PV := fun env => match env[i]? with
  | some (some x) => .ok x
  | _ => .bad
def xC (x : PV) : PEnv → Res PV := fun _ => .ok x
theorem wpR_var {i : Nat} {env : PEnv} {Q : PV → Prop} {E : XV → Prop} (h : wpR (xVar i env) Q E) : ∃ x, env[i]? = some (some x) ∧ Q x := by
  unfold xVar at h
  split at h
  · exact ⟨_, by assumption, h⟩
  · exact h.elim
theorem de_var {i : Nat} {x : Str} (h : PE X (.Name x pos) (tVar i)) (ho : (ow[i]? == some true) = false) : DE X T W ow (.Name x pos) (xVar i) := h.imp fun σ H Q ⟨H0, F0, env, F, l, w⟩ => by
  obtain ⟨x, e, q⟩ := wpR_var w
  obtain ⟨v, h1, h2⟩ := l.slot i x e (by simpa using ho)
  exact ⟨v, h1, q v H F (.refl l.wf) h2⟩
theorem dr_var {i : Nat} {x : Str} (h : PE X (.Name x pos) (tVar i)) : DR X T W ow (.Name x pos) (xVar i) := h.imp fun σ H Q ⟨H0, F0, env, F, l, w⟩ => by
  obtain ⟨x, e, q⟩ := wpR_var w
  by_cases n : ow[i]? = some true
  · obtain ⟨a, o, h1, h2, h3, _, _, h6⟩ := l.own i x e n
    exact ⟨_, h1, q _ H F (.refl l.wf) (.inr ⟨a, o, rfl, h2, h3, h6⟩)⟩
  · obtain ⟨v, h1, h2⟩ := l.slot i x e n
    exact ⟨v, h1, q v H F (.refl l.wf) (.inl h2)⟩
theorem de_int {i : Int} {j} : DE X T W ow (.Constant (.int i) j pos) (xC (.int i)) := pe_int.imp fun σ H Q ⟨H0, F0, env, F, l, w⟩ => w _ H F (.refl l.wf) (.int i)
theorem de_bl {i : Bool} {j} : DE X T W ow (.Constant (.bool i) j pos) (xC (.bl i)) := pe_bl.imp fun σ H Q ⟨H0, F0, env, F, l, w⟩ => w _ H F (.refl l.wf) (.bl i)
theorem de_str {i : Str} {j} : DE X T W ow (.Constant (.str i) j pos) (xC (.str i)) := pe_str.imp fun σ H Q ⟨H0, F0, env, F, l, w⟩ => w _ H F (.refl l.wf) (.str i)
theorem de_non {j} : DE X T W ow (.Constant .none j pos) (xC .non) := pe_non.imp fun σ H Q ⟨H0, F0, env, F, l, w⟩ => w _ H F (.refl l.wf) .non
/-- a module's constant -/
theorem de_glob {x : Str} {v : V} {u : Value} {p : PV} (hg : Gl X x) (hm : X.mg x = some u) (r : RelV v u) (hp : ∀ F, Rep X.mg X.K F v p) (hd : (x == ("__debug__" : Str)) = false := by decide) : DE X T W ow (.Name x pos) (xC p) :=
  (pe_glob hg hm r hd).imp fun σ H Q ⟨H0, F0, env, F, l, w⟩ => w _ H F (.refl l.wf) (hp F)

/-! ### two values -/
def ofO {α : Type} (o : Option α) : Res α := match o with
  | some a => .ok a
  | none => .bad
abbrev F2 := PV → PV → Option PV
def xOp (f : F2) (da db : PEnv → Res PV) : PEnv → Res PV := fun env => (da env).bnd fun p => (db env).bnd fun q => ofO (f p q)
/-- a rule by values does what f says -/
def OpS (g : Str → Option Value) (K : PySem.W.Frag) (T : Addr → Prop) (fr : Bool) (r : R2) (f : F2) : Prop := ∀ (H F : Hp) (x y : V) (p q z : PV) (Q : VK), Wf T H F → RepT g K T H F x p → RepT g K T H F y q →
  f p q = some z → (∀ v H' F', Ext T H F H' F' → Rt g K fr H H' F' v z → Q v H') → r x y H Q
/-- results -/
theorem Rt.back {g : Str → Option Value} {K : PySem.W.Frag} {H F H1 F1 H2 F2 : Hp} {v : V} {x : PV} (e : Ext T H F H1 F1) (h : Rt g K fr H1 H2 F2 v x) : Rt g K fr H H2 F2 v x := by
  cases fr with
  | false => exact h
  | true =>
    obtain ⟨a, o, rfl, h1, h2, h3, h4⟩ := h
    refine ⟨a, o, rfl, h1, h2, ?_, h4⟩
    cases q : H a with
    | none => rfl
    | some u => exact absurd h3 (e.ne (by rw [q]; simp))
theorem wpR_ofO {α : Type} {o : Option α} {Q : α → Prop} {E : XV → Prop} (h : wpR (ofO o) Q E) : ∃ a, o = some a ∧ Q a := by
  cases o with
  | some a => exact ⟨a, rfl, h⟩
  | none => exact h.elim
theorem two {f : F2} {r : R2} (hf : OpS X.mg X.K T fr r f) {σ : L2.St} {H : Hp} {Q : VK} (w : tE X.mg X.K T fr W ow (xOp f da db) σ H Q) : tOp r (tR X.mg X.K T W ow da) (tR X.mg X.K T W ow db) σ H Q := by
  obtain ⟨H0, F0, env, F, l, w⟩ := w
  refine ⟨H0, F0, env, F, l, wpR_mono (wpR_bnd.mp w) (fun p w1 x H1 F1 e1 r1 => ?_) fun _ z => z⟩
  refine ⟨H0, F0, env, F1, l.grow e1, wpR_mono (wpR_bnd.mp w1) (fun q w2 y H2 F2 e2 r2 => ?_) fun _ z cls dd H' F' e => z cls dd H' F' (e1.trans e)⟩
  obtain ⟨z, hz, w3⟩ := wpR_ofO w2
  exact hf H2 F2 x y p q z Q e2.wf (r1.ext e2) r2 hz fun v H' F' e3 rt => w3 v H' F' ((e1.trans e2).trans e3) (rt.back (e1.trans e2))
theorem dx_op {op : Operator} {f : F2} {r : R2} (ho : OpR X (binaryOp op) r) (hf : OpS X.mg X.K T fr r f) (ha : DR X T W ow a da) (hb : DR X T W ow b db) : DX X T fr W ow (.BinOp a op b pos) (xOp f da db) :=
  (pe_op ho ha hb).imp fun _ _ _ w => two hf w
theorem de_cmp {op : CmpOp} {f : F2} {r : R2} (ho : OpR X (compareOp op) r) (hf : OpS X.mg X.K T fr r f) (ha : DR X T W ow a da) (hb : DR X T W ow b db) (hm : behindInMarks op b = false) : DX X T fr W ow (.Compare a [op] [b] pos) (xOp f da db) :=
  (pe_cmpR ho ha hb hm).imp fun _ _ _ w => two hf w
theorem dx_ix {f : F2} {r : R2} (hr : IxR X r) (hf : OpS X.mg X.K T fr r f) (ha : DR X T W ow a da) (hb : DR X T W ow b db) (hs : PlainIx b) : DX X T fr W ow (.Subscript a b pos) (xOp f da db) :=
  (pe_ix hr ha hb hs).imp fun _ _ _ w => two hf w
def xUn (f : PV → Option PV) (da : PEnv → Res PV) : PEnv → Res PV := fun env => (da env).bnd fun p => ofO (f p)
def UnS (g : Str → Option Value) (K : PySem.W.Frag) (T : Addr → Prop) (fr : Bool) (r : V → Hp → VK → Prop) (f : PV → Option PV) : Prop := ∀ (H F : Hp) (x : V) (p z : PV) (Q : VK), Wf T H F → RepT g K T H F x p →
  f p = some z → (∀ v H' F', Ext T H F H' F' → Rt g K fr H H' F' v z → Q v H') → r x H Q
theorem dx_un {op : UnaryOp} {f : PV → Option PV} {r : V → Hp → VK → Prop} (ho : UnR X (unaryOp op) r) (hf : UnS X.mg X.K T fr r f) (ha : DR X T W ow a da) : DX X T fr W ow (.UnaryOp op a pos) (xUn f da) :=
  (pe_un ho ha).imp fun σ H Q ⟨H0, F0, env, F, l, w⟩ => by
    refine ⟨H0, F0, env, F, l, wpR_mono (wpR_bnd.mp w) (fun p w1 x H1 F1 e1 r1 => ?_) fun _ z => z⟩
    obtain ⟨z, hz, w3⟩ := wpR_ofO w1
    exact hf H1 F1 x p z Q e1.wf r1 hz fun v H' F' e3 rt => w3 v H' F' (e1.trans e3) (rt.back e1)

/-! ### tests -/
def tr1 (f : F2) : PV → PV → Option Bool := fun p q => match f p q with
  | some (.bl b) => some b
  | _ => none
def bOp (f : F2) (da db : PEnv → Res PV) : PEnv → Res Bool := fun env => (da env).bnd fun p => (db env).bnd fun q => ofO (tr1 f p q)
theorem bOp_eq {f : F2} {env : PEnv} {Q : Bool → Prop} {E : XV → Prop} (w : wpR (bOp f da db env) Q E) : wpR (xOp f da db env) (fun z => ∃ b, z = .bl b ∧ Q b) E := by
  refine wpR_bnd.mpr (wpR_mono (wpR_bnd.mp w) (fun p w1 => wpR_bnd.mpr (wpR_mono (wpR_bnd.mp w1) (fun q w2 => ?_) fun _ z => z)) fun _ z => z)
  obtain ⟨b, hb, w3⟩ := wpR_ofO w2
  unfold tr1 at hb
  split at hb
  · rename_i e
    rw [e]
    cases hb
    exact ⟨_, rfl, w3⟩
  · cases hb
theorem dt_cmp {op : CmpOp} {f : F2} {r : R2} (ho : OpR X (compareOp op) r) (hf : OpS X.mg X.K T false r f) (ha : DR X T W ow a da) (hb : DR X T W ow b db) (hm : behindInMarks op b = false) : DT X T W ow (.Compare a [op] [b] pos) (bOp f da db) :=
  (pt_cmpR ho ha hb hm).imp fun σ H Q ⟨H0, F0, env, F, l, w⟩ => by
    refine two (ow := ow) (W := W) hf ⟨H0, F0, env, F, l, wpR_mono (bOp_eq w) (fun z ⟨b, e, q⟩ v H' F' x rt => ?_) fun _ z => z⟩
    subst e
    cases rt
    exact ⟨b, rfl, q H' F' x⟩
/-- an expression with a bool as a test -/
def bVal (d : PEnv → Res PV) : PEnv → Res Bool := fun env => (d env).bnd fun p => match p with
  | .bl b => .ok b
  | _ => .bad
theorem dt_val (h : DE X T W ow e d) (he : ∀ whole, isTrue e X.env whole = (do let v ← whole; standAt e.pos; holding [v] (truthy v)) := by intro _; rfl) : DT X T W ow e (bVal d) :=
  (pt_val h he).imp fun σ H Q ⟨H0, F0, env, F, l, w⟩ => by
    refine ⟨H0, F0, env, F, l, wpR_mono (wpR_bnd.mp w) (fun p w1 v H' F' x rt => ?_) fun _ z => z⟩
    cases p with
    | bl b => cases rt; exact ⟨b, rfl, w1 H' F' x⟩
    | _ => exact w1.elim
def pyTruth : PV → Option Bool
  | .non => some false
  | .bl b => some b
  | .int i => some (i != 0)
  | .str s => if s.length ≤ sizeLine then some (s.length != 0) else none
  | .lst xs => some (!xs.isEmpty)
  | .tup xs => some (!xs.isEmpty)
  | .dct kvs => some (!kvs.isEmpty)
  | .obj _ _ => none
  | .scr _ => none
def bTru (d : PEnv → Res PV) : PEnv → Res Bool := fun env => (d env).bnd fun p => ofO (pyTruth p)
end
end D
end

section
set_option Elab.async false
set_option linter.all false
set_option maxRecDepth 100000
set_option maxHeartbeats 1000000
namespace D
open PySem PySem.Spec PyProof.Rows L2

section
variable {g : Str → Option Value} {K : PySem.W.Frag} {T : Addr → Prop} {H0 F0 H F H1 F1 : Hp} {v : V} {x : PV}
theorem RepT.tru (h : RepT g K T H F v x) (w : Wf T H F) {b : Bool} (e : pyTruth x = some b) : (∀ kvs, x ≠ .dct kvs) → TruV K v H b := by
  intro nd
  cases h.live w with
  | non => exact (Option.some.inj e).symm
  | bl c => exact (Option.some.inj e).symm
  | int c => exact (Option.some.inj e).symm
  | str c =>
    have e2 : (if c.length ≤ sizeLine then some (c.length != 0) else none) = some b := e
    by_cases hc : c.length ≤ sizeLine
    · rw [if_pos hc] at e2
      refine ⟨hc, ?_⟩
      rw [← Option.some.inj e2]
      by_cases q : c.length = 0
      · simp [q]
      · have : (c.length : Int) ≠ 0 := by omega
        show (c.length != 0) = ((c.length : Int) != 0)
        rw [bne, bne, beq_eq_false_iff_ne.mpr q, beq_eq_false_iff_ne.mpr this]
    · rw [if_neg hc] at e2; cases e2
  | lst hs r =>
    refine .inl ⟨_, .of hs, ?_⟩
    have q := Option.some.inj e
    rw [← q]
    cases r <;> rfl
  | tup hs r =>
    refine .inr (.inl ⟨_, hs, ?_⟩)
    have q := Option.some.inj e
    rw [← q]
    cases r <;> rfl
  | scr _ => cases e
  | obj _ _ _ => cases e
  | dct _ _ => exact absurd rfl (nd _)
end

section
variable {X : Cx} {T : Addr → Prop} {W : WX} {ow : List Bool} {fr : Bool} {a b c e o : Expr} {es rest : List Expr} {da db dc d : PEnv → Res PV} {ta tb tc : PEnv → Res Bool} {ds : PEnv → Res (List PV)} {pos : Pos}

/-- truth of anything but dicts -/
def pyTru0 : PV → Option Bool
  | .dct _ => none
  | x => pyTruth x
def bTru0 (d : PEnv → Res PV) : PEnv → Res Bool := fun env => (d env).bnd fun p => ofO (pyTru0 p)
theorem dt_truth (h : DR X T W ow e d) (he : ∀ whole, isTrue e X.env whole = (do let v ← whole; standAt e.pos; holding [v] (truthy v))) : DT X T W ow e (bTru0 d) :=
  (pt_truth h he).imp fun σ H Q ⟨H0, F0, env, F, l, w⟩ => by
    refine ⟨H0, F0, env, F, l, wpR_mono (wpR_bnd.mp w) (fun p w1 v H' F' x rt => ?_) fun _ z => z⟩
    obtain ⟨b, hb, q⟩ := wpR_ofO w1
    refine ⟨b, ?_, q H' F' x⟩
    cases p with
    | dct kvs => cases hb
    | _ => exact rt.tru x.wf hb fun _ z => by cases z

/-! ### and, or, not -/
def bAnd (da db : PEnv → Res Bool) : PEnv → Res Bool := fun env => (da env).bnd fun p => if p = true then db env else .ok false
def bOr (da db : PEnv → Res Bool) : PEnv → Res Bool := fun env => (da env).bnd fun p => if p = true then .ok true else db env
def bNot (da : PEnv → Res Bool) : PEnv → Res Bool := fun env => (da env).bnd fun p => .ok (!p)
theorem dw_and1 (h : DT X T W ow a ta) : DW X T W ow (.BoolOp .And [a] pos) ta := pw_and1 h
theorem dw_or1 (h : DT X T W ow a ta) : DW X T W ow (.BoolOp .Or [a] pos) ta := pw_or1 h
theorem dw_and (h : DT X T W ow a ta) (h2 : DW X T W ow (.BoolOp .And (b :: rest) pos) tb) : DW X T W ow (.BoolOp .And (a :: b :: rest) pos) (bAnd ta tb) :=
  (pw_and h h2).imp fun σ H Q ⟨H0, F0, env, F, l, w⟩ => by
    refine ⟨H0, F0, env, F, l, wpR_mono (wpR_bnd.mp w) (fun p w1 H' F' x => ?_) fun _ z => z⟩
    cases p with
    | true => exact ⟨H0, F0, env, F', l.grow x, wpR_mono w1 (fun q z H2 F2 x2 => z H2 F2 (x.trans x2)) fun _ z cls dd H2 F2 x2 => z cls dd H2 F2 (x.trans x2)⟩
    | false => exact w1 H' F' x
theorem dw_or (h : DT X T W ow a ta) (h2 : DW X T W ow (.BoolOp .Or (b :: rest) pos) tb) : DW X T W ow (.BoolOp .Or (a :: b :: rest) pos) (bOr ta tb) :=
  (pw_or h h2).imp fun σ H Q ⟨H0, F0, env, F, l, w⟩ => by
    refine ⟨H0, F0, env, F, l, wpR_mono (wpR_bnd.mp w) (fun p w1 H' F' x => ?_) fun _ z => z⟩
    cases p with
    | false => exact ⟨H0, F0, env, F', l.grow x, wpR_mono w1 (fun q z H2 F2 x2 => z H2 F2 (x.trans x2)) fun _ z cls dd H2 F2 x2 => z cls dd H2 F2 (x.trans x2)⟩
    | true => exact w1 H' F' x
theorem DW.dt (h : DW X T W ow a ta) : DT X T W ow a ta := h.pt
theorem dt_not (h : DT X T W ow a ta) : DT X T W ow (.UnaryOp .Not a pos) (bNot ta) :=
  (pt_not h).imp fun σ H Q ⟨H0, F0, env, F, l, w⟩ => ⟨H0, F0, env, F, l, wpR_mono (wpR_bnd.mp w) (fun p w1 => w1) fun _ z => z⟩
/-- .. as values -/
def xAnd (da db : PEnv → Res PV) : PEnv → Res PV := fun env => (da env).bnd fun p => match p with
  | .bl true => db env
  | .bl false => .ok (.bl false)
  | _ => .bad
def xOr (da db : PEnv → Res PV) : PEnv → Res PV := fun env => (da env).bnd fun p => match p with
  | .bl true => .ok (.bl true)
  | .bl false => db env
  | _ => .bad
def xNot (da : PEnv → Res PV) : PEnv → Res PV := fun env => (da env).bnd fun p => match p with
  | .bl b => .ok (.bl (!b))
  | _ => .bad
theorem de_one {op} (h : DE X T W ow a da) : DE X T W ow (.BoolOp op [a] pos) da := pe_one h
theorem de_and (h : DE X T W ow a da) (h2 : DE X T W ow (.BoolOp .And (b :: rest) pos) db) : DE X T W ow (.BoolOp .And (a :: b :: rest) pos) (xAnd da db) :=
  (pe_and h h2).imp fun σ H Q ⟨H0, F0, env, F, l, w⟩ => by
    refine ⟨H0, F0, env, F, l, wpR_mono (wpR_bnd.mp w) (fun p w1 v H' F' x rt => ?_) fun _ z => z⟩
    cases p with
    | bl k =>
      cases rt
      refine ⟨k, rfl, ?_⟩
      cases k with
      | true => exact ⟨H0, F0, env, F', l.grow x, wpR_mono w1 (fun q z v H2 F2 x2 => z v H2 F2 (x.trans x2)) fun _ z cls dd H2 F2 x2 => z cls dd H2 F2 (x.trans x2)⟩
      | false => exact w1 _ H' F' x (.bl false)
    | _ => exact w1.elim
theorem de_or (h : DE X T W ow a da) (h2 : DE X T W ow (.BoolOp .Or (b :: rest) pos) db) : DE X T W ow (.BoolOp .Or (a :: b :: rest) pos) (xOr da db) :=
  (pe_or h h2).imp fun σ H Q ⟨H0, F0, env, F, l, w⟩ => by
    refine ⟨H0, F0, env, F, l, wpR_mono (wpR_bnd.mp w) (fun p w1 v H' F' x rt => ?_) fun _ z => z⟩
    cases p with
    | bl k =>
      cases rt
      refine ⟨k, rfl, ?_⟩
      cases k with
      | false => exact ⟨H0, F0, env, F', l.grow x, wpR_mono w1 (fun q z v H2 F2 x2 => z v H2 F2 (x.trans x2)) fun _ z cls dd H2 F2 x2 => z cls dd H2 F2 (x.trans x2)⟩
      | true => exact w1 _ H' F' x (.bl true)
    | _ => exact w1.elim
theorem de_not (h : DE X T W ow a da) : DE X T W ow (.UnaryOp .Not a pos) (xNot da) :=
  (pe_not h).imp fun σ H Q ⟨H0, F0, env, F, l, w⟩ => by
    refine ⟨H0, F0, env, F, l, wpR_mono (wpR_bnd.mp w) (fun p w1 v H' F' x rt => ?_) fun _ z => z⟩
    cases p with
    | bl k => cases rt; exact ⟨k, rfl, w1 _ H' F' x (.bl _)⟩
    | _ => exact w1.elim
def xIf (t : PEnv → Res Bool) (da db : PEnv → Res PV) : PEnv → Res PV := fun env => (t env).bnd fun k => if k = true then da env else db env
theorem dx_if (h : DT X T W ow c ta) (h1 : DX X T fr W ow a da) (h2 : DX X T fr W ow b db) : DX X T fr W ow (.IfExp c a b pos) (xIf ta da db) :=
  (pe_ifExp h h1 h2).imp fun σ H Q ⟨H0, F0, env, F, l, w⟩ => by
    refine ⟨H0, F0, env, F, l, wpR_mono (wpR_bnd.mp w) (fun k w1 H' F' x => ?_) fun _ z => z⟩
    cases k with
    | true => exact ⟨H0, F0, env, F', l.grow x, wpR_mono w1 (fun q z v H2 F2 x2 rt => z v H2 F2 (x.trans x2) (rt.back x)) fun _ z cls dd H2 F2 x2 => z cls dd H2 F2 (x.trans x2)⟩
    | false => exact ⟨H0, F0, env, F', l.grow x, wpR_mono w1 (fun q z v H2 F2 x2 rt => z v H2 F2 (x.trans x2) (rt.back x)) fun _ z cls dd H2 F2 x2 => z cls dd H2 F2 (x.trans x2)⟩

/-! ### argument lists -/
def aNil : PEnv → Res (List PV) := fun _ => .ok []
def aCons (d : PEnv → Res PV) (ds : PEnv → Res (List PV)) : PEnv → Res (List PV) := fun env => (d env).bnd fun p => (ds env).bnd fun ps => .ok (p :: ps)
theorem da_nil : DA X T W ow [] aNil := pa_nil.imp fun σ H Q ⟨H0, F0, env, F, l, w⟩ => w [] H F (.refl l.wf) .nil
theorem da_cons (h : DE X T W ow e d) (h2 : DA X T W ow es ds) (hs : starEach (e :: es) X.env = (false, eval e X.env) :: starEach es X.env := by rfl) : DA X T W ow (e :: es) (aCons d ds) :=
  (pa_cons h h2 hs).imp fun σ H Q ⟨H0, F0, env, F, l, w⟩ => by
    refine ⟨H0, F0, env, F, l, wpR_mono (wpR_bnd.mp w) (fun p w1 v H' F' x rt => ?_) fun _ z => z⟩
    refine ⟨H0, F0, env, F', l.grow x, wpR_mono (wpR_bnd.mp w1) (fun ps w2 vs H2 F2 x2 rs => ?_) fun _ z cls dd H2 F2 x2 => z cls dd H2 F2 (x.trans x2)⟩
    exact w2 (v :: vs) H2 F2 (x.trans x2) (.cons (rt.mono x2.f) rs)
/-- arguments that are only read -/
inductive RepTs (g : Str → Option Value) (K : PySem.W.Frag) (T : Addr → Prop) (H F : Hp) : List V → List PV → Prop
  | nil : RepTs g K T H F [] []
  | cons {v : V} {x : PV} {vs : List V} {xs : List PV} : RepT g K T H F v x → RepTs g K T H F vs xs → RepTs g K T H F (v :: vs) (x :: xs)
def tAR (g : Str → Option Value) (K : PySem.W.Frag) (T : Addr → Prop) (W : WX) (ow : List Bool) (d : PEnv → Res (List PV)) : TA := fun σ H Q => ∃ H0 F0 env F, Sta g K T H0 F0 ow env σ H F ∧
  wpR (d env) (fun rs => ∀ vs H' F', Ext T H F H' F' → RepTs g K T H' F' vs rs → Q vs H') (fun x => ∀ cls dd H' F', Ext T H F H' F' → RepX g K F' cls dd x → W cls dd σ H')
abbrev DAR (X : Cx) (T : Addr → Prop) (W : WX) (ow : List Bool) (es : List Expr) (d : PEnv → Res (List PV)) : Prop := PA X es (tAR X.mg X.K T W ow d)
theorem dar_nil : DAR X T W ow [] aNil := pa_nil.imp fun σ H Q ⟨H0, F0, env, F, l, w⟩ => w [] H F (.refl l.wf) .nil
theorem dar_cons (h : DR X T W ow e d) (h2 : DAR X T W ow es ds) (hs : starEach (e :: es) X.env = (false, eval e X.env) :: starEach es X.env := by rfl) : DAR X T W ow (e :: es) (aCons d ds) :=
  (pa_cons h h2 hs).imp fun σ H Q ⟨H0, F0, env, F, l, w⟩ => by
    refine ⟨H0, F0, env, F, l, wpR_mono (wpR_bnd.mp w) (fun p w1 v H' F' x rt => ?_) fun _ z => z⟩
    refine ⟨H0, F0, env, F', l.grow x, wpR_mono (wpR_bnd.mp w1) (fun ps w2 vs H2 F2 x2 rs => ?_) fun _ z cls dd H2 F2 x2 => z cls dd H2 F2 (x.trans x2)⟩
    exact w2 (v :: vs) H2 F2 (x.trans x2) (.cons (rt.ext x2) rs)

/-! ### displays -/
def xTup (ds : PEnv → Res (List PV)) : PEnv → Res PV := fun env => (ds env).bnd fun ps => if ps.length ≤ sizeLine then .ok (.tup ps) else .bad
def xLst (ds : PEnv → Res (List PV)) : PEnv → Res PV := fun env => (ds env).bnd fun ps => if ps.length ≤ sizeLine then .ok (.lst ps) else .bad
theorem wpR_if {α : Type} {c : Prop} [Decidable c] {a : α} {Q : α → Prop} {E : XV → Prop} (h : wpR (if c then .ok a else .bad) Q E) : c ∧ Q a := by
  by_cases hc : c
  · rw [if_pos hc] at h; exact ⟨hc, h⟩
  · rw [if_neg hc] at h; exact h.elim
theorem de_tup {x1} (h : DA X T W ow es ds) : DE X T W ow (.Tuple es x1 pos) (xTup ds) :=
  (pe_tup h).imp fun σ H Q ⟨H0, F0, env, F, l, w⟩ => by
    refine ⟨H0, F0, env, F, l, wpR_mono (wpR_bnd.mp w) (fun ps w1 vs H' F' x rs => ?_) fun _ z => z⟩
    obtain ⟨hl, q⟩ := wpR_if w1
    refine ⟨by rw [rs.length]; exact hl, fun p np => ?_⟩
    have x2 : Ext T H' F' (upd H' p (.tup vs)) (upd F' p (.tup vs)) := Ext.alloc x.wf np
    exact q _ _ _ (x.trans x2) (.tup (.of upd_same) (rs.mono x2.f))
theorem df_lst (h : DA X T W ow es ds) : DF X T W ow (.List es pos) (xLst ds) :=
  (pe_lst h).imp fun σ H Q ⟨H0, F0, env, F, l, w⟩ => by
    refine ⟨H0, F0, env, F, l, wpR_mono (wpR_bnd.mp w) (fun ps w1 vs H' F' x rs => ?_) fun _ z => z⟩
    obtain ⟨hl, q⟩ := wpR_if w1
    refine ⟨by rw [rs.length]; exact hl, fun p np => ?_⟩
    have x2 : Ext T H' F' (upd H' p (.lst vs)) F' := Ext.laid x.wf np
    refine q _ _ _ (x.trans x2) ⟨p, _, rfl, upd_same, .lst rs, ?_, ?_⟩
    · cases qq : H p with
      | none => rfl
      | some u => exact absurd np (x.ne (by rw [qq]; simp))
    · cases qq : F' p with
      | none => rfl
      | some u => rw [x.fh p u qq] at np; cases np

/-! ### calls of built-ins -/
def xCall (f : List PV → Option PV) (ds : PEnv → Res (List PV)) : PEnv → Res PV := fun env => (ds env).bnd fun ps => ofO (f ps)
def CallS (g : Str → Option Value) (K : PySem.W.Frag) (T : Addr → Prop) (fr : Bool) (r : List V → Hp → VK → Prop) (f : List PV → Option PV) : Prop := ∀ (H F : Hp) (xs : List V) (ps : List PV) (z : PV) (Q : VK), Wf T H F → RepTs g K T H F xs ps →
  f ps = some z → (∀ v H' F', Ext T H F H' F' → Rt g K fr H H' F' v z → Q v H') → r xs H Q
theorem called {f : List PV → Option PV} {r : List V → Hp → VK → Prop} (hf : CallS X.mg X.K T fr r f) {σ : L2.St} {H : Hp} {Q : VK} (w : tE X.mg X.K T fr W ow (xCall f ds) σ H Q) : tCB r (tAR X.mg X.K T W ow ds) σ H Q := by
  obtain ⟨H0, F0, env, F, l, w⟩ := w
  refine ⟨H0, F0, env, F, l, wpR_mono (wpR_bnd.mp w) (fun ps w1 vs H1 F1 e1 rs => ?_) fun _ z => z⟩
  obtain ⟨z, hz, w2⟩ := wpR_ofO w1
  exact hf H1 F1 vs ps z Q e1.wf rs hz fun v H' F' e3 rt => w2 v H' F' (e1.trans e3) (rt.back e1)
theorem dx_callB {id : String} {x : Str} {p : Pos} {f : List PV → Option PV} {r : List V → Hp → VK → Prop} (hc : CallR X (.builtin id) r) (hf : CallS X.mg X.K T fr r f) (hg : Gl X x) (hm : X.mg x = none) (hv : bootBuiltins x = some (.builtin id)) (ha : DAR X T W ow (e :: es) ds) (hn : x ≠ "__name__" := by decide) (hdb : (x == ("__debug__" : Str)) = false := by decide)
    (he : starEach (e :: es) X.env = (false, eval e X.env) :: starEach es X.env := by rfl) (hpl : (backTo pos (starEach es X.env)).any (·.1) = false := by rfl) : DX X T fr W ow (.Call (.Name x p) (e :: es) [] pos) (xCall f ds) :=
  (pe_callB hc hg hm hv ha hn hdb he hpl).imp fun _ _ _ w => called hf w
theorem dx_callTy {id : String} {x : Str} {p : Pos} {f : List PV → Option PV} {r : List V → Hp → VK → Prop} (hc : CallR X (.type id) r) (hf : CallS X.mg X.K T fr r f) (hg : Gl X x) (hm : X.mg x = none) (hv : bootBuiltins x = some (.type id)) (ha : DAR X T W ow (e :: es) ds) (hn : x ≠ "__name__" := by decide) (hdb : (x == ("__debug__" : Str)) = false := by decide)
    (he : starEach (e :: es) X.env = (false, eval e X.env) :: starEach es X.env := by rfl) (hpl : (backTo pos (starEach es X.env)).any (·.1) = false := by rfl) : DX X T fr W ow (.Call (.Name x p) (e :: es) [] pos) (xCall f ds) :=
  (pe_callTy hc hg hm hv ha hn hdb he hpl).imp fun _ _ _ w => called hf w

/-! ### methods of built-in types -/
def xMeth (f : PV → List PV → Option PV) (d : PEnv → Res PV) (ds : PEnv → Res (List PV)) : PEnv → Res PV := fun env => (d env).bnd fun p => (ds env).bnd fun ps => ofO (f p ps)
def MethS (g : Str → Option Value) (K : PySem.W.Frag) (T : Addr → Prop) (fr : Bool) (ty : String) (r : V → List V → Hp → VK → Prop) (f : PV → List PV → Option PV) : Prop := ∀ (H F : Hp) (x : V) (xs : List V) (p : PV) (ps : List PV) (z : PV) (Q : VK), Wf T H F → RepT g K T H F x p → RepTs g K T H F xs ps →
  f p ps = some z → (∀ v H' F', Ext T H F H' F' → Rt g K fr H H' F' v z → Q v H') → r x xs H Q
/-- the receiver's type (asked before the arguments) -/
def tyP : String → PV → Bool
  | "str", .str _ => true
  | "int", .int _ => true
  | "list", .lst _ => true
  | _, _ => false
theorem tyP_ok {g : Str → Option Value} {K : PySem.W.Frag} {H : Hp} {v : V} {x : PV} {ty : String} (h : Rep g K H v x) (t : tyP ty x = true) : tyV K ty v H := by
  unfold tyP at t
  split at t
  · cases h; exact rfl
  · cases h; exact rfl
  · cases h with
    | lst hs _ => exact .inl ⟨rfl, _, .of hs⟩
  · cases t
def xTy (ty : String) (d : PEnv → Res PV) : PEnv → Res PV := fun env => (d env).bnd fun p => if tyP ty p = true then .ok p else .bad
theorem dx_bm0 {ty id : String} {name : Str} {apos cpos : Pos} {f : PV → List PV → Option PV} {r : V → List V → Hp → VK → Prop} (pa : PlainAttrs ty) (slot : Slot ty name id) (hty : typeOf (.builtin id) = pure (.type "method_descriptor")) (hm : MtR X id r) (hf : MethS X.mg X.K T fr ty r f) (ho : DR X T W ow o d)
    (hbase : attributeBase o name X.env (eval o X.env) = eval o X.env := by rfl) (hline : (apos.endLine == cpos.line) = true := by rfl) : DX X T fr W ow (.Call (.Attribute o name apos) [] [] cpos) (xMeth f (xTy ty d) aNil) :=
  (pe_bm0 pa slot hty hm ho hbase hline).imp fun σ H Q ⟨H0, F0, env, F, l, w⟩ => by
    refine ⟨H0, F0, env, F, l, wpR_mono (wpR_bnd.mp (wpR_bnd.mp w)) (fun p w1 v H1 F1 e1 r1 => ?_) fun _ z => z⟩
    obtain ⟨t, w2⟩ := wpR_if w1
    refine ⟨tyP_ok (r1.live e1.wf) t, ?_⟩
    obtain ⟨z, hz, w3⟩ := wpR_ofO w2
    exact hf H1 F1 v [] p [] z Q e1.wf r1 .nil hz fun v H' F' e3 rt => w3 v H' F' (e1.trans e3) (rt.back e1)
theorem dx_bm {ty id : String} {name : Str} {apos cpos : Pos} {f : PV → List PV → Option PV} {r : V → List V → Hp → VK → Prop} (pa : PlainAttrs ty) (slot : Slot ty name id) (hty : typeOf (.builtin id) = pure (.type "method_descriptor")) (hm : MtR X id r) (hf : MethS X.mg X.K T fr ty r f) (ho : DR X T W ow o d) (ha : DAR X T W ow (e :: es) ds)
    (hbase : attributeBase o name X.env (eval o X.env) = eval o X.env := by rfl)
    (hfew : ((backTo cpos (starEach (e :: es) X.env)).all (fun x => !x.1) && (backToKw cpos (keywordEach [] X.env)).all (fun x => x.1.isSome)
      && decide ((e :: es).length + ([] : List Keyword).length + (if ([] : List Keyword).isEmpty then 0 else 1) < 30)) = true := by rfl)
    (hline : (apos.endLine == cpos.line) = true := by rfl) (hs : starEach (e :: es) X.env = (false, eval e X.env) :: starEach es X.env := by rfl) (hplain : (backTo cpos (starEach es X.env)).any (·.1) = false := by rfl) :
    DX X T fr W ow (.Call (.Attribute o name apos) (e :: es) [] cpos) (xMeth f (xTy ty d) ds) :=
  (pe_bm pa slot hty hm ho ha hbase hfew hline hs hplain).imp fun σ H Q ⟨H0, F0, env, F, l, w⟩ => by
    refine ⟨H0, F0, env, F, l, wpR_mono (wpR_bnd.mp (wpR_bnd.mp w)) (fun p w1 v H1 F1 e1 r1 => ?_) fun _ z => z⟩
    obtain ⟨t, w1⟩ := wpR_if w1
    refine ⟨tyP_ok (r1.live e1.wf) t, ?_⟩
    refine ⟨H0, F0, env, F1, l.grow e1, wpR_mono (wpR_bnd.mp w1) (fun ps w2 vs H2 F2 e2 rs => ?_) fun _ z cls dd H' F' e => z cls dd H' F' (e1.trans e)⟩
    obtain ⟨z, hz, w3⟩ := wpR_ofO w2
    exact hf H2 F2 v vs p ps z Q e2.wf (r1.ext e2) rs hz fun v H' F' e3 rt => w3 v H' F' ((e1.trans e2).trans e3) (rt.back (e1.trans e2))

/-! ### slices -/
def tO (g : Str → Option Value) (K : PySem.W.Frag) (T : Addr → Prop) (W : WX) (ow : List Bool) (d : PEnv → Res (Option Int)) : TO := fun σ H Q => ∃ H0 F0 env F, Sta g K T H0 F0 ow env σ H F ∧
  wpR (d env) (fun i => ∀ H' F', Ext T H F H' F' → Q i H') (fun x => ∀ cls dd H' F', Ext T H F H' F' → RepX g K F' cls dd x → W cls dd σ H')
abbrev DO (X : Cx) (T : Addr → Prop) (W : WX) (ow : List Bool) (e : Option Expr) (d : PEnv → Res (Option Int)) : Prop := PO X e (tO X.mg X.K T W ow d)
def oNone : PEnv → Res (Option Int) := fun _ => .ok none
def oSome (d : PEnv → Res PV) : PEnv → Res (Option Int) := fun env => (d env).bnd fun p => match p with
  | .int i => .ok (some i)
  | _ => .bad
theorem _root_.L2.PO.imp {X : Cx} {e : Option Expr} {t t' : TO} (h : PO X e t) (i : ∀ σ H Q, t' σ H Q → t σ H Q) : PO X e t' := ⟨fun pins s σ H Q I w => h.run pins s σ H Q I (i _ _ _ w)⟩
theorem do_none : DO X T W ow none oNone := po_none.imp fun σ H Q ⟨H0, F0, env, F, l, w⟩ => w H F (.refl l.wf)
theorem do_some (h : DE X T W ow e d) : DO X T W ow (some e) (oSome d) := (po_some h).imp fun σ H Q ⟨H0, F0, env, F, l, w⟩ => by
  refine ⟨H0, F0, env, F, l, wpR_mono (wpR_bnd.mp w) (fun p w1 v H1 F1 e1 r1 => ?_) fun _ z => z⟩
  cases p with
  | int i => cases r1; exact ⟨i, rfl, w1 H1 F1 e1⟩
  | _ => exact w1.elim
def xSl (f : PV → Option Int → Option Int → Option PV) (d : PEnv → Res PV) (lo hi : PEnv → Res (Option Int)) : PEnv → Res PV := fun env => (d env).bnd fun p => (lo env).bnd fun i => (hi env).bnd fun j => ofO (f p i j)
def SlS (g : Str → Option Value) (K : PySem.W.Frag) (T : Addr → Prop) (fr : Bool) (r : V → Option Int → Option Int → Hp → VK → Prop) (f : PV → Option Int → Option Int → Option PV) : Prop := ∀ (H F : Hp) (x : V) (lo hi : Option Int) (p z : PV) (Q : VK), Wf T H F → RepT g K T H F x p →
  f p lo hi = some z → (∀ v H' F', Ext T H F H' F' → Rt g K fr H H' F' v z → Q v H') → r x lo hi H Q
theorem dx_slice {lo hi : Option Expr} {p2 : Pos} {dl dh : PEnv → Res (Option Int)} {f : PV → Option Int → Option Int → Option PV} {r : V → Option Int → Option Int → Hp → VK → Prop} (hr : SlR X r) (hf : SlS X.mg X.K T fr r f) (he : DR X T W ow e d) (hl : DO X T W ow lo dl) (hu : DO X T W ow hi dh) :
    DX X T fr W ow (.Subscript e (.Slice lo hi none p2) pos) (xSl f d dl dh) :=
  (pe_slice hr he hl hu).imp fun σ H Q ⟨H0, F0, env, F, l, w⟩ => by
    refine ⟨H0, F0, env, F, l, wpR_mono (wpR_bnd.mp w) (fun p w1 v H1 F1 e1 r1 => ?_) fun _ z => z⟩
    refine ⟨H0, F0, env, F1, l.grow e1, wpR_mono (wpR_bnd.mp w1) (fun i w2 H2 F2 e2 => ?_) fun _ z cls dd H' F' e => z cls dd H' F' (e1.trans e)⟩
    have e12 := e1.trans e2
    refine ⟨H0, F0, env, F2, l.grow e12, wpR_mono (wpR_bnd.mp w2) (fun j w3 H3 F3 e3 => ?_) fun _ z cls dd H' F' e => z cls dd H' F' (e12.trans e)⟩
    obtain ⟨z, hz, w4⟩ := wpR_ofO w3
    have e13 := e12.trans e3
    exact hf H3 F3 v i j p z Q e3.wf ((r1.ext e2).ext e3) hz fun v H' F' e4 rt => w4 v H' F' (e13.trans e4) (rt.back e13)

/-! ### fields of instances -/
def pyFld (f : Str) : PV → Option PV
  | .obj _ fs => fs.lookup f
  | _ => none
def xFld (f : Str) (d : PEnv → Res PV) : PEnv → Res PV := fun env => (d env).bnd fun p => ofO (pyFld f p)
/-- the field's owner's class is C, whatever object of this class stands there -/
def clsP (c : Str) : PV → Bool
  | .obj c' _ => c' == c
  | _ => false
def xCls (c : Str) (d : PEnv → Res PV) : PEnv → Res PV := fun env => (d env).bnd fun p => if clsP c p = true then .ok p else .bad
theorem RepF.look {g : Str → Option Value} {K : PySem.W.Frag} {F : Hp} {f : Str} {z : PV} : ∀ {vs : List (Str × V)} {fs : List (Str × PV)}, RepF g K F vs fs → fs.lookup f = some z → ∃ v, vs.lookup f = some v ∧ Rep g K F v z
  | _, _, .nil, h => by cases h
  | _, _, .cons (k := k) r t, h => by
    rw [List.lookup_cons] at h ⊢
    cases hb : f == k with
    | true => rw [hb] at h; cases h; exact ⟨_, rfl, r⟩
    | false => rw [hb] at h; exact RepF.look t h
theorem RepT.obj {g : Str → Option Value} {K : PySem.W.Frag} {H F : Hp} {v : V} {c : Str} {fs : List (Str × PV)} (w : Wf T H F) (h : RepT g K T H F v (.obj c fs)) : ∃ a C dx vs, v = .ref a ∧ g c = some (.ref C) ∧ H a = some (.ins C dx vs) ∧ RepF g K F vs fs := by
  rcases h with h | ⟨a, o, rfl, h2, h3, h4⟩
  · cases h with
    | obj h1 h2 h3 => exact ⟨_, _, _, _, rfl, h1, w.fh _ _ h2, h3⟩
  · cases h3 with
    | obj h1 r => exact ⟨_, _, _, _, rfl, h1, h2, r⟩
theorem de_fld {f c : Str} {C : Addr} (ho : DR X T W ow o d) (hC : X.mg c = some (.ref C)) (hc : Cls X.K C) (hn : NoAttr X.K C f) (hb : attributeBase o f X.env (eval o X.env) = eval o X.env := by rfl) : DE X T W ow (.Attribute o f pos) (xFld f (xCls c d)) :=
  (pe_fld ho hb).imp fun σ H Q ⟨H0, F0, env, F, l, w⟩ => by
    refine ⟨H0, F0, env, F, l, wpR_mono (wpR_bnd.mp (wpR_bnd.mp w)) (fun p w1 v H1 F1 e1 r1 => ?_) fun _ z => z⟩
    obtain ⟨t, w1⟩ := wpR_if w1
    obtain ⟨z, hz, w2⟩ := wpR_ofO w1
    cases p with
    | obj c' fs =>
      have ec : c' = c := by simpa [clsP] using t
      subst ec
      obtain ⟨a, C', dx, vs, rfl, h1, h2, h3⟩ := r1.obj e1.wf
      rw [hC] at h1; cases h1
      obtain ⟨u, hu, ru⟩ := h3.look hz
      exact ⟨a, C, dx, vs, u, rfl, h2, hc, hn, hu, w2 u H1 F1 e1 ru⟩
    | _ => cases hz
end
end D
end

section
set_option Elab.async false
set_option linter.all false
set_option maxRecDepth 100000
set_option maxHeartbeats 1000000
namespace D
open PySem PySem.Spec PyProof.Rows L2

/-- what a statement comes to -/
inductive SR where
  | nx (env : PEnv) | rt (v : PV) | bk (env : PEnv) | ct (env : PEnv) | er (x : XV) (env : PEnv) | bad

def le (ow' ow : List Bool) : Prop := ∀ i : Nat, ow'[i]? = some true → ow[i]? = some true
def leB (ow' ow : List Bool) : Bool := (List.range ow'.length).all fun i => !(ow'[i]? == some true) || (ow[i]? == some true)
theorem le_of {ow' ow : List Bool} (h : leB ow' ow = true) : le ow' ow := fun i hi => by
  unfold leB at h
  rw [List.all_eq_true] at h
  have hl : i < ow'.length := (List.getElem?_eq_some_iff.mp hi).1
  have := h i (List.mem_range.mpr hl)
  rw [hi] at this
  simpa using this
theorem le_refl (ow : List Bool) : le ow ow := fun _ h => h

section
variable {g : Str → Option Value} {K : PySem.W.Frag} {T : Addr → Prop} {H0 F0 H F H1 F1 : Hp} {ow ow' : List Bool} {env : PEnv} {σ : L2.St} {v : V} {x : PV} {i : Nat}
open Classical in
/-- slots are frozen -/
theorem Sta.weak (l : Sta g K T H0 F0 ow env σ H F) (h : le ow' ow) : ∃ F', Same F F' ∧ Sta g K T H0 F0 ow' env σ H F' := by
  let fz : Addr → Prop := fun a => ∃ (i : Nat) (x : PV), env[i]? = some (some x) ∧ ow[i]? = some true ∧ ow'[i]? ≠ some true ∧ σ[i]? = some (some (V.ref a))
  let F' : Hp := fun a => if fz a then H a else F a
  have fzH : ∀ a, fz a → ∃ o, H a = some o ∧ H0 a = none ∧ F a = none ∧ ¬ T a := fun a ⟨i, x, h1, h2, h3, h4⟩ => by
    obtain ⟨b, o, e1, e2, e3, e4, e5, e6⟩ := l.own i x h1 h2
    rw [h4] at e1; cases e1
    exact ⟨o, e2, e4, e5, e6⟩
  have sF : Same F F' := fun a o e => by
    show (if fz a then H a else F a) = some o
    by_cases q : fz a
    · rw [if_pos q]; exact l.ext.fh a o e
    · rw [if_neg q]; exact e
  refine ⟨F', sF, ⟨l.ext.tabs, l.ext.h, l.ext.f.trans sF, fun a o e => ?_, fun a t => ?_, fun a h1 h2 => ?_⟩, l.len, fun i x e n => ?_, fun i x e n => ?_, fun i j x y a h1 h2 => l.dist i j x y a (h i h1) (h j h2)⟩
  · have e : (if fz a then H a else F a) = some o := e
    by_cases q : fz a
    · rw [if_pos q] at e; exact e
    · rw [if_neg q] at e; exact l.ext.fh a o e
  · show (if fz a then H a else F a) = none
    rw [if_neg (fun q => by obtain ⟨o, _, _, _, nt⟩ := fzH a q; exact nt t)]
    exact l.ext.ft a t
  · show (if fz a then H a else F a) = none
    rw [if_neg (fun q => by obtain ⟨o, _, z, _⟩ := fzH a q; exact h1 z)]
    exact l.ext.new a h1 h2
  · by_cases q : ow[i]? = some true
    · obtain ⟨a, o, e1, e2, e3, e4, e5, e6⟩ := l.own i x e q
      refine ⟨_, e1, (e3.mono sF).rep ?_⟩
      show (if fz a then H a else F a) = some o
      rw [if_pos ⟨i, x, e, q, n, e1⟩]; exact e2
    · obtain ⟨v, e1, e2⟩ := l.slot i x e q
      exact ⟨v, e1, e2.mono sF⟩
  · obtain ⟨a, o, e1, e2, e3, e4, e5, e6⟩ := l.own i x e (h i n)
    refine ⟨a, o, e1, e2, e3.mono sF, e4, ?_, e6⟩
    show (if fz a then H a else F a) = none
    rw [if_neg]
    · exact e5
    · rintro ⟨j, y, f1, f2, f3, f4⟩
      have := l.dist i j x y a (h i n) f2 e f1 e1 f4
      subst this
      exact f3 n
/-- a slot takes a frozen value -/
theorem Sta.setE (l : Sta g K T H0 F0 ow env σ H F) (r : Rep g K F v x) : Sta g K T H0 F0 (ow.set i false) (env.set i (some x)) (σ.set i (some v)) H F := by
  refine ⟨l.ext, by rw [List.length_set, List.length_set]; exact l.len, fun j y e n => ?_, fun j y e n => ?_, fun j k y z a h1 h2 e1 e2 s1 s2 => ?_⟩
  · by_cases hj : i = j
    · subst hj
      have hi : i < env.length := by
        have := (List.getElem?_eq_some_iff.mp e).1
        rwa [List.length_set] at this
      rw [List.getElem?_set_self hi] at e
      cases e
      exact ⟨v, List.getElem?_set_self (by rw [l.len]; exact hi), r⟩
    · rw [List.getElem?_set_ne hj] at e n ⊢
      exact l.slot j y e n
  · by_cases hj : i = j
    · subst hj
      by_cases hi : i < ow.length
      · rw [List.getElem?_set_self hi] at n; cases n
      · rw [List.getElem?_eq_none (by rw [List.length_set]; omega)] at n; cases n
    · rw [List.getElem?_set_ne hj] at e n ⊢
      exact l.own j y e n
  · have ne : ∀ j, (ow.set i false)[j]? = some true → i ≠ j := fun j n hj => by
      subst hj
      by_cases hi : i < ow.length
      · rw [List.getElem?_set_self hi] at n; cases n
      · rw [List.getElem?_eq_none (by rw [List.length_set]; omega)] at n; cases n
    have n1 := ne j h1
    have n2 := ne k h2
    rw [List.getElem?_set_ne n1] at h1 e1 s1
    rw [List.getElem?_set_ne n2] at h2 e2 s2
    exact l.dist j k y z a h1 h2 e1 e2 s1 s2
/-- a slot takes a new object -/
theorem Sta.setF {o : HO} {a : Addr} (l : Sta g K T H0 F0 ow env σ H F) (e : Ext T H F H1 F1) (h1 : H1 a = some o) (r : RepO g K F1 o x) (h0 : H a = none) (hf : F1 a = none) (hil : i < ow.length) :
    Sta g K T H0 F0 (ow.set i true) (env.set i (some x)) (σ.set i (some (.ref a))) H1 F1 := by
  have l1 := l.grow e
  have nt : ¬ T a := noT e.tabs h1 r.notTbl
  have h00 : H0 a = none := by
    cases q : H0 a with
    | none => rfl
    | some u => rw [l.ext.h a u nt q] at h0; cases h0
  have nown : ∀ (j : Nat) y, env[j]? = some (some y) → ow[j]? = some true → σ[j]? ≠ some (some (V.ref a)) := fun j y e1 e2 e3 => by
    obtain ⟨b, u, f1, f2, _⟩ := l.own j y e1 e2
    rw [e3] at f1; cases f1
    rw [f2] at h0; cases h0
  refine ⟨l1.ext, by rw [List.length_set, List.length_set]; exact l.len, fun j y e n => ?_, fun j y e n => ?_, fun j k y z b q1 q2 e1 e2 s1 s2 => ?_⟩
  · by_cases hj : i = j
    · subst hj
      have hi : i < env.length := by
        have := (List.getElem?_eq_some_iff.mp e).1
        rwa [List.length_set] at this
      rw [List.getElem?_set_self hi] at e
      cases e
      rw [List.getElem?_set_self hil] at n
      exact absurd rfl n
    · rw [List.getElem?_set_ne hj] at e n ⊢
      exact l1.slot j y e n
  · by_cases hj : i = j
    · subst hj
      have hi : i < env.length := by
        have := (List.getElem?_eq_some_iff.mp e).1
        rwa [List.length_set] at this
      rw [List.getElem?_set_self hi] at e
      cases e
      exact ⟨a, o, List.getElem?_set_self (by rw [l.len]; exact hi), h1, r, h00, hf, nt⟩
    · rw [List.getElem?_set_ne hj] at e n ⊢
      exact l1.own j y e n
  · by_cases hj : i = j
    · by_cases hk : i = k
      · exact hj.symm.trans hk
      · subst hj
        rw [List.getElem?_set_ne hk] at q2 e2 s2
        have hi : i < σ.length := by
          have := (List.getElem?_eq_some_iff.mp s1).1
          rwa [List.length_set] at this
        rw [List.getElem?_set_self hi] at s1
        cases s1
        exact absurd s2 (nown k z e2 q2)
    · rw [List.getElem?_set_ne hj] at q1 e1 s1
      by_cases hk : i = k
      · subst hk
        have hi : i < σ.length := by
          have := (List.getElem?_eq_some_iff.mp s2).1
          rwa [List.length_set] at this
        rw [List.getElem?_set_self hi] at s2
        cases s2
        exact absurd s1 (nown j y e1 q1)
      · rw [List.getElem?_set_ne hk] at q2 e2 s2
        exact l.dist j k y z b q1 q2 e1 e2 s1 s2
end

/-! ### statements -/
def tS (g : Str → Option Value) (K : PySem.W.Frag) (T : Addr → Prop) (W : WX) (fr : Bool) (oe ol ow : List Bool) (d : PEnv → SR) (ow' : List Bool) : TS := fun D σ H => ∃ H0 F0 env F, Sta g K T H0 F0 ow env σ H F ∧
  match d env with
  | .nx e => ∀ σ' H' F', Sta g K T H0 F0 ow' e σ' H' F' → D.nx σ' H'
  | .rt v => ∀ u H' F', Ext T H0 F0 H' F' → Rt g K fr H0 H' F' u v → D.rt u H'
  | .bk e => ∀ σ' H' F', Sta g K T H0 F0 ol e σ' H' F' → D.bk σ' H'
  | .ct e => ∀ σ' H' F', Sta g K T H0 F0 ol e σ' H' F' → D.ct σ' H'
  | .er x e => ∀ cls dd σ' H' F', Sta g K T H0 F0 oe e σ' H' F' → RepX g K F' cls dd x → W cls dd σ' H'
  | .bad => False
theorem _root_.L2.PS.imp {X : Cx} {e : Stmt} {t t' : TS} (h : PS X e t) (i : ∀ D σ H, t' D σ H → t D σ H) : PS X e t' := ⟨fun pins s σ H Q I w => h.run pins s σ H Q I (i _ _ _ w)⟩
theorem _root_.L2.PSs.imp {X : Cx} {e : List Stmt} {t t' : TS} (h : PSs X e t) (i : ∀ D σ H, t' D σ H → t D σ H) : PSs X e t' := ⟨fun pins s σ H Q I w => h.run pins s σ H Q I (i _ _ _ w)⟩
abbrev DS (X : Cx) (T : Addr → Prop) (W : WX) (fr : Bool) (oe ol ow : List Bool) (s : Stmt) (d : PEnv → SR) (ow' : List Bool) : Prop := PS X s (tS X.mg X.K T W fr oe ol ow d ow')
abbrev DSs (X : Cx) (T : Addr → Prop) (W : WX) (fr : Bool) (oe ol ow : List Bool) (s : List Stmt) (d : PEnv → SR) (ow' : List Bool) : Prop := PSs X s (tS X.mg X.K T W fr oe ol ow d ow')

/-- a value, then what is done with it -/
def sWith (d : PEnv → Res PV) (k : PV → PEnv → SR) : PEnv → SR := fun env => match d env with
  | .ok p => k p env
  | .err x => .er x env
  | .bad => .bad
def sWithB (d : PEnv → Res Bool) (k : Bool → PEnv → SR) : PEnv → SR := fun env => match d env with
  | .ok p => k p env
  | .err x => .er x env
  | .bad => .bad
section
variable {X : Cx} {T : Addr → Prop} {W : WX} {oe ol ow ow' ow1 ow2 : List Bool} {fr : Bool} {e a b c : Expr} {st : Stmt} {rest s1 s2 : List Stmt} {d da db dc : PEnv → Res PV} {t : PEnv → Res Bool} {k k1 k2 : PEnv → SR} {pos : Pos}

/-- what is wanted of the end of a statement -/
def want (g : Str → Option Value) (K : PySem.W.Frag) (T : Addr → Prop) (W : WX) (fr : Bool) (oe ol ow' : List Bool) (H0 F0 : Hp) (D : Ends) : SR → Prop
  | .nx e => ∀ σ' H' F', Sta g K T H0 F0 ow' e σ' H' F' → D.nx σ' H'
  | .rt v => ∀ u H' F', Ext T H0 F0 H' F' → Rt g K fr H0 H' F' u v → D.rt u H'
  | .bk e => ∀ σ' H' F', Sta g K T H0 F0 ol e σ' H' F' → D.bk σ' H'
  | .ct e => ∀ σ' H' F', Sta g K T H0 F0 ol e σ' H' F' → D.ct σ' H'
  | .er x e => ∀ cls dd σ' H' F', Sta g K T H0 F0 oe e σ' H' F' → RepX g K F' cls dd x → W cls dd σ' H'
  | .bad => False
theorem tS_iff {g : Str → Option Value} {K : PySem.W.Frag} {D : Ends} {σ : L2.St} {H : Hp} {d : PEnv → SR} : tS g K T W fr oe ol ow d ow' D σ H ↔ ∃ H0 F0 env F, Sta g K T H0 F0 ow env σ H F ∧ want g K T W fr oe ol ow' H0 F0 D (d env) := by
  unfold tS
  constructor
  · rintro ⟨H0, F0, env, F, l, w⟩
    refine ⟨H0, F0, env, F, l, ?_⟩
    cases h : d env <;> rw [h] at w <;> exact w
  · rintro ⟨H0, F0, env, F, l, w⟩
    refine ⟨H0, F0, env, F, l, ?_⟩
    cases h : d env <;> rw [h] at w <;> exact w
/-- an exception of an expression is one of the statement -/
theorem err_up {g : Str → Option Value} {K : PySem.W.Frag} {D : Ends} {H0 F0 H F : Hp} {env : PEnv} {σ : L2.St} {x : XV} (l : Sta g K T H0 F0 ow env σ H F) (ho : le oe ow) (w : want g K T W fr oe ol ow' H0 F0 D (.er x env)) :
    ∀ cls dd H' F', Ext T H F H' F' → RepX g K F' cls dd x → W cls dd σ H' := fun cls dd H' F' e r => by
  obtain ⟨F2, sF, l2⟩ := (l.grow e).weak ho
  refine w cls dd σ H' F2 l2 ?_
  obtain ⟨C, e1, e2, e3⟩ := r
  refine ⟨C, e1, e2, ?_⟩
  rcases e3 with e3 | ⟨dd', vs, e3, e4, e5⟩
  · exact .inl e3
  · exact .inr ⟨dd', vs, e3, sF _ _ e4, e5.mono sF⟩

theorem dss_nil : DSs X T W fr oe ol ow [] .nx ow := pss_nil.imp fun D σ H w => by
  obtain ⟨H0, F0, env, F, l, w⟩ := tS_iff.mp w
  exact w σ H F l
def sSeq (k1 k2 : PEnv → SR) : PEnv → SR := fun env => match k1 env with
  | .nx e => k2 e
  | r => r
theorem seq_ok {g : Str → Option Value} {K : PySem.W.Frag} {D : Ends} {σ : L2.St} {H : Hp} (w : tS g K T W fr oe ol ow (sSeq k1 k2) ow2 D σ H) : tSeq (tS g K T W fr oe ol ow k1 ow1) (tS g K T W fr oe ol ow1 k2 ow2) D σ H := by
  obtain ⟨H0, F0, env, F, l, w⟩ := tS_iff.mp w
  refine tS_iff.mpr ⟨H0, F0, env, F, l, ?_⟩
  unfold sSeq at w
  cases h : k1 env with
  | nx e =>
    rw [h] at w
    intro σ' H' F' l'
    exact tS_iff.mpr ⟨H0, F0, e, F', l', w⟩
  | rt v => rw [h] at w; exact w
  | bk e => rw [h] at w; exact w
  | ct e => rw [h] at w; exact w
  | er x e => rw [h] at w; exact w
  | bad => rw [h] at w; exact w
theorem dss_cons (h1 : DS X T W fr oe ol ow st k1 ow1) (h2 : DSs X T W fr oe ol ow1 rest k2 ow2) : DSs X T W fr oe ol ow (st :: rest) (sSeq k1 k2) ow2 := (pss_cons h1 h2).imp fun D σ H w => seq_ok w
theorem dss_one (h1 : DS X T W fr oe ol ow st k1 ow1) : DSs X T W fr oe ol ow [st] k1 ow1 := pss_one h1
/-- slots are frozen behind -/
theorem want.weak {g : Str → Option Value} {K : PySem.W.Frag} {D : Ends} {H0 F0 : Hp} {r : SR} (h : le ow2 ow1) (w : want g K T W fr oe ol ow2 H0 F0 D r) : want g K T W fr oe ol ow1 H0 F0 D r := by
  cases r with
  | nx e =>
    intro σ' H' F' l
    obtain ⟨F2, _, l2⟩ := l.weak h
    exact w σ' H' F2 l2
  | _ => exact w
theorem dss_weak (h1 : DSs X T W fr oe ol ow rest k ow1) (h : leB ow2 ow1 = true) : DSs X T W fr oe ol ow rest k ow2 := h1.imp fun D σ H w => by
  obtain ⟨H0, F0, env, F, l, w⟩ := tS_iff.mp w
  exact tS_iff.mpr ⟨H0, F0, env, F, l, w.weak (le_of h)⟩
/-- slots are frozen ahead -/
theorem ds_pre (h1 : DS X T W fr oe ol ow1 st k ow') (h : leB ow1 ow = true) : DS X T W fr oe ol ow st k ow' := h1.imp fun D σ H w => by
  obtain ⟨H0, F0, env, F, l, w⟩ := tS_iff.mp w
  obtain ⟨F2, _, l2⟩ := l.weak (le_of h)
  exact tS_iff.mpr ⟨H0, F0, env, F2, l2, w⟩

theorem ds_pass : DS X T W fr oe ol ow (.Pass pos) .nx ow := ps_pass.imp fun D σ H w => by
  obtain ⟨H0, F0, env, F, l, w⟩ := tS_iff.mp w
  exact w σ H F l
theorem ds_break (h : leB ol ow = true) : DS X T W fr oe ol ow (.Break pos) .bk ow' := ps_break.imp fun D σ H w => by
  obtain ⟨H0, F0, env, F, l, w⟩ := tS_iff.mp w
  obtain ⟨F2, _, l2⟩ := l.weak (le_of h)
  exact w σ H F2 l2
theorem ds_continue (h : leB ol ow = true) : DS X T W fr oe ol ow (.Continue pos) .ct ow' := ps_continue.imp fun D σ H w => by
  obtain ⟨H0, F0, env, F, l, w⟩ := tS_iff.mp w
  obtain ⟨F2, _, l2⟩ := l.weak (le_of h)
  exact w σ H F2 l2
/-- a value is thrown away -/
def sDrop (d : PEnv → Res PV) : PEnv → SR := sWith d fun _ => .nx
theorem ds_expr (he : DX X T false W ow e d) (ho : leB oe ow = true) (hs : swapsWith e none pos.line X.env = pure false := by rfl) : DS X T W fr oe ol ow (.Expr e pos) (sDrop d) ow := (ps_expr he hs).imp fun D σ H w => by
  obtain ⟨H0, F0, env, F, l, w⟩ := tS_iff.mp w
  refine ⟨H0, F0, env, F, l, ?_⟩
  unfold sDrop sWith at w
  cases h : d env with
  | ok p => rw [h] at w; exact fun v H' F' x _ => w σ H' F' (l.grow x)
  | err x => rw [h] at w; exact err_up l (le_of ho) w
  | bad => rw [h] at w; exact w
/-- return -/
def sRet (d : PEnv → Res PV) : PEnv → SR := sWith d fun v _ => .rt v
theorem ds_ret (he : DX X T fr W ow e d) (ho : leB oe ow = true) : DS X T W fr oe ol ow (.Return (some e) pos) (sRet d) ow' := (ps_ret he).imp fun D σ H w => by
  obtain ⟨H0, F0, env, F, l, w⟩ := tS_iff.mp w
  refine ⟨H0, F0, env, F, l, ?_⟩
  unfold sRet sWith at w
  cases h : d env with
  | ok p =>
    rw [h] at w
    exact fun v H' F' x rt => w v H' F' (l.ext.trans x) (rt.back l.ext)
  | err x => rw [h] at w; exact err_up l (le_of ho) w
  | bad => rw [h] at w; exact w
/-- return of an owned name -/
theorem ds_retOwn {i : Nat} {x : Str} {p : Pos} (h : PE X (.Name x p) (tVar i)) (hi : (ow[i]? == some true) = true) : DS X T W true oe ol ow (.Return (some (.Name x p)) pos) (sRet (xVar i)) ow' := (ps_ret h).imp fun D σ H w => by
  obtain ⟨H0, F0, env, F, l, w⟩ := tS_iff.mp w
  unfold sRet sWith xVar at w
  cases q : env[i]? with
  | none => simp only [q] at w; exact w.elim
  | some o =>
    cases o with
    | none => simp only [q] at w; exact w.elim
    | some z =>
      simp only [q] at w
      obtain ⟨a, o, e1, e2, e3, e4, e5, e6⟩ := l.own i z q (by simpa using hi)
      exact ⟨_, e1, w _ H F l.ext ⟨a, o, rfl, e2, e3, e4, e5⟩⟩
theorem ds_retN : DS X T W false oe ol ow (.Return none pos) (fun _ => .rt .non) ow' := ps_retN.imp fun D σ H w => by
  obtain ⟨H0, F0, env, F, l, w⟩ := tS_iff.mp w
  exact w .non H F l.ext .non
/-- if -/
def sIf (t : PEnv → Res Bool) (k1 k2 : PEnv → SR) : PEnv → SR := sWithB t fun b => if b = true then k1 else k2
theorem ds_if (hc : DT X T W ow c t) (h1 : DSs X T W fr oe ol ow s1 k1 ow') (h2 : DSs X T W fr oe ol ow s2 k2 ow') (ho : leB oe ow = true) : DS X T W fr oe ol ow (.If c s1 s2 pos) (sIf t k1 k2) ow' := (ps_if hc h1 h2).imp fun D σ H w => by
  obtain ⟨H0, F0, env, F, l, w⟩ := tS_iff.mp w
  refine ⟨H0, F0, env, F, l, ?_⟩
  unfold sIf sWithB at w
  cases h : t env with
  | ok p =>
    rw [h] at w
    intro H' F' x
    cases p with
    | true => exact tS_iff.mpr ⟨H0, F0, env, F', l.grow x, w⟩
    | false => exact tS_iff.mpr ⟨H0, F0, env, F', l.grow x, w⟩
  | err x => rw [h] at w; exact err_up l (le_of ho) w
  | bad => rw [h] at w; exact w
/-- name = value -/
def sSet (i : Nat) (d : PEnv → Res PV) : PEnv → SR := sWith d fun v env => .nx (env.set i (some v))
theorem setE_ok {i : Nat} {D : Ends} {σ : L2.St} {H : Hp} (ho : leB oe ow = true) (w : tS X.mg X.K T W fr oe ol ow (sSet i d) (ow.set i false) D σ H) : tAsg (tE X.mg X.K T false W ow d) (gName i) D σ H := by
  obtain ⟨H0, F0, env, F, l, w⟩ := tS_iff.mp w
  refine ⟨H0, F0, env, F, l, ?_⟩
  unfold sSet sWith at w
  cases h : d env with
  | ok p => rw [h] at w; exact fun v H' F' x rt => w _ H' F' ((l.grow x).setE rt)
  | err x => rw [h] at w; exact err_up l (le_of ho) w
  | bad => rw [h] at w; exact w
theorem setF_ok {i : Nat} {D : Ends} {σ : L2.St} {H : Hp} (hi : i < ow.length) (ho : leB oe ow = true) (w : tS X.mg X.K T W fr oe ol ow (sSet i d) (ow.set i true) D σ H) : tAsg (tE X.mg X.K T true W ow d) (gName i) D σ H := by
  obtain ⟨H0, F0, env, F, l, w⟩ := tS_iff.mp w
  refine ⟨H0, F0, env, F, l, ?_⟩
  unfold sSet sWith at w
  cases h : d env with
  | ok p =>
    rw [h] at w
    rintro v H' F' x ⟨a, o, rfl, h1, h2, h3, h4⟩
    exact w _ H' F' (l.setF x h1 h2 h3 h4 hi)
  | err x => rw [h] at w; exact err_up l (le_of ho) w
  | bad => rw [h] at w; exact w
theorem ds_set {i : Nat} {x : Str} {pos' : Pos} (hN : X.N.Nodup) (hi : X.N[i]? = some x) (hx : Loc X.env.scope x) (he : DX X T false W ow e d) (ho : leB oe ow = true := by rfl) (hs : swapsWith e (some (.Name x pos')) pos.line X.env = pure false := by rfl)
    (hf : X.fn x = true ∨ X.env.scope.names.lookup x = some .local := by first | exact .inl rfl | exact .inr rfl | assumption) : DS X T W fr oe ol ow (.Assign [.Name x pos'] e pos) (sSet i d) (ow.set i false) := (ps_set hN hi hx he hs hf).imp fun _ _ _ w => setE_ok ho w
theorem ds_setF {i : Nat} {x : Str} {pos' : Pos} (hN : X.N.Nodup) (hi : X.N[i]? = some x) (hx : Loc X.env.scope x) (he : DX X T true W ow e d) (hl : i < ow.length := by decide) (ho : leB oe ow = true := by rfl) (hs : swapsWith e (some (.Name x pos')) pos.line X.env = pure false := by rfl)
    (hf : X.fn x = true ∨ X.env.scope.names.lookup x = some .local := by first | exact .inl rfl | exact .inr rfl | assumption) : DS X T W fr oe ol ow (.Assign [.Name x pos'] e pos) (sSet i d) (ow.set i true) := (ps_set hN hi hx he hs hf).imp fun _ _ _ w => setF_ok hl ho w
end
end D
end

section
set_option Elab.async false
set_option linter.all false
set_option maxRecDepth 100000
set_option maxHeartbeats 1000000
namespace D
open PySem PySem.Spec PyProof.Rows L2

/-! ### while -/
def whileF (t : PEnv → Res Bool) (k : PEnv → SR) : Nat → PEnv → SR
  | 0, _ => .bad
  | n + 1, env => match t env with
    | .ok true => match k env with
      | .nx e => whileF t k n e
      | .ct e => whileF t k n e
      | .bk e => .nx e
      | r => r
    | .ok false => .nx env
    | .err x => .er x env
    | .bad => .bad
theorem whileF_mono {t : PEnv → Res Bool} {k : PEnv → SR} : ∀ (n m : Nat) (env : PEnv), n ≤ m → whileF t k n env ≠ .bad → whileF t k m env = whileF t k n env
  | 0, _, _, _, h => absurd rfl h
  | n + 1, 0, _, hl, _ => absurd hl (by omega)
  | n + 1, m + 1, env, hl, h => by
    unfold whileF at h ⊢
    cases ht : t env with
    | ok b =>
      cases b with
      | true =>
        rw [ht] at h
        simp only at h ⊢
        cases hk : k env with
        | nx e => rw [hk] at h; exact whileF_mono n m e (by omega) h
        | ct e => rw [hk] at h; exact whileF_mono n m e (by omega) h
        | _ => rfl
      | false => rfl
    | err x => rfl
    | bad => rfl
open Classical in
noncomputable def sWhile (t : PEnv → Res Bool) (k : PEnv → SR) : PEnv → SR := fun env => if h : ∃ n, whileF t k n env ≠ .bad then whileF t k h.choose env else .bad
theorem sWhile_of {t : PEnv → Res Bool} {k : PEnv → SR} {env : PEnv} (n : Nat) (h : whileF t k n env ≠ .bad) : sWhile t k env = whileF t k n env := by
  have hx : ∃ n, whileF t k n env ≠ .bad := ⟨n, h⟩
  unfold sWhile
  rw [dif_pos hx]
  have h2 := hx.choose_spec
  rcases Nat.le_total n hx.choose with q | q
  · exact whileF_mono n _ env q h
  · exact (whileF_mono _ n env q h2).symm
theorem sWhile_get {t : PEnv → Res Bool} {k : PEnv → SR} {env : PEnv} (h : sWhile t k env ≠ .bad) : ∃ n, sWhile t k env = whileF t k n env := by
  unfold sWhile at h ⊢
  split at h
  · rename_i hx; exact ⟨_, by rw [dif_pos hx]⟩
  · exact absurd rfl h
/-- one turn -/
theorem sWhile_eq (t : PEnv → Res Bool) (k : PEnv → SR) (env : PEnv) : sWhile t k env = match t env with
    | .ok true => match k env with
      | .nx e => sWhile t k e
      | .ct e => sWhile t k e
      | .bk e => .nx e
      | r => r
    | .ok false => .nx env
    | .err x => .er x env
    | .bad => .bad := by
  have key : ∀ n, whileF t k (n + 1) env = match t env with
    | .ok true => match k env with
      | .nx e => whileF t k n e
      | .ct e => whileF t k n e
      | .bk e => .nx e
      | r => r
    | .ok false => .nx env
    | .err x => .er x env
    | .bad => .bad := fun n => rfl
  have fromN : ∀ (e : PEnv), (∀ n, whileF t k (n + 1) env = whileF t k n e) → sWhile t k env = sWhile t k e := fun e he => by
    by_cases h : ∃ n, whileF t k n e ≠ .bad
    · obtain ⟨n, hn⟩ := h
      rw [sWhile_of n hn, sWhile_of (n + 1) (by rw [he]; exact hn), he]
    · have h2 : ¬ ∃ n, whileF t k n env ≠ .bad := fun ⟨n, hn⟩ => by
        cases n with
        | zero => exact hn rfl
        | succ n => exact h ⟨n, by rw [← he]; exact hn⟩
      unfold sWhile
      rw [dif_neg h, dif_neg h2]
  have fromC : ∀ (r : SR), (∀ n, whileF t k (n + 1) env = r) → sWhile t k env = r := fun r hr => by
    by_cases h : r = .bad
    · subst h
      unfold sWhile
      rw [dif_neg]
      rintro ⟨n, hn⟩
      cases n with
      | zero => exact hn rfl
      | succ n => exact hn (hr n)
    · rw [sWhile_of 1 (by rw [hr]; exact h), hr]
  cases ht : t env with
  | ok b =>
    cases b with
    | true =>
      cases hk : k env with
      | nx e => exact fromN e fun n => by rw [key, ht, hk]
      | ct e => exact fromN e fun n => by rw [key, ht, hk]
      | bk e => exact fromC _ fun n => by rw [key, ht, hk]
      | rt v => exact fromC _ fun n => by rw [key, ht, hk]
      | er x e => exact fromC _ fun n => by rw [key, ht, hk]
      | bad => exact fromC _ fun n => by rw [key, ht, hk]
    | false => exact fromC _ fun n => by rw [key, ht]
  | err x => exact fromC _ fun n => by rw [key, ht]
  | bad => exact fromC _ fun n => by rw [key, ht]

section
variable {X : Cx} {T : Addr → Prop} {W : WX} {oe ol ow ow' ow1 ow2 : List Bool} {fr : Bool} {e a b c : Expr} {st : Stmt} {rest s1 s2 : List Stmt} {d da db dc : PEnv → Res PV} {t : PEnv → Res Bool} {k k1 k2 : PEnv → SR} {pos : Pos}
theorem ds_while (hp : PassesOwn (model X.prog X.w) X.A X.env X.xe) (hc : DT X T W ow c t) (hb : DSs X T W fr oe ow ow s1 k ow) (ho : leB oe ow = true := by rfl) : DS X T W fr oe ol ow (.While c s1 [] pos) (sWhile t k) ow :=
  (ps_while hp hc hb).imp fun D σ H w => by
    obtain ⟨H0, F0, env, F, l, w⟩ := tS_iff.mp w
    refine ⟨fun m σ H => ∃ env F, Sta X.mg X.K T H0 F0 ow env σ H F ∧ want X.mg X.K T W fr oe ol ow H0 F0 D (whileF t k m env), ?_, ?_⟩
    · have nb : sWhile t k env ≠ .bad := fun q => by rw [q] at w; exact w
      obtain ⟨n, hn⟩ := sWhile_get nb
      rw [hn] at w
      exact ⟨n, env, F, l, w⟩
    · rintro m σ H ⟨env, F, l, w⟩
      cases m with
      | zero => exact w.elim
      | succ n =>
        unfold whileF at w
        refine ⟨H0, F0, env, F, l, ?_⟩
        cases ht : t env with
        | ok b =>
          rw [ht] at w
          intro H1 F1 x
          cases b with
          | true =>
            rw [if_pos rfl]
            refine ⟨fun σ' H' => ∃ env F, Sta X.mg X.K T H0 F0 ow env σ' H' F ∧ want X.mg X.K T W fr oe ol ow H0 F0 D (whileF t k n env), fun σ' H' z => ⟨n, by omega, z⟩, ?_⟩
            refine tS_iff.mpr ⟨H0, F0, env, F1, l.grow x, ?_⟩
            simp only at w
            cases hk : k env with
            | nx e => rw [hk] at w; exact fun σ' H' F' l' => ⟨e, F', l', w⟩
            | ct e => rw [hk] at w; exact fun σ' H' F' l' => ⟨e, F', l', w⟩
            | bk e => rw [hk] at w; exact fun σ' H' F' l' => w σ' H' F' l'
            | rt v => rw [hk] at w; exact w
            | er x e => rw [hk] at w; exact w
            | bad => rw [hk] at w; exact w
          | false =>
            rw [if_neg Bool.false_ne_true]
            exact w σ H1 F1 (l.grow x)
        | err x => rw [ht] at w; exact err_up l (le_of ho) w
        | bad => rw [ht] at w; exact w

/-! ### what is walked -/
structure ItOk (g : Str → Option Value) (K : PySem.W.Frag) (T : Addr → Prop) (J : It) (xs : List PV) (G Gf : Hp) : Prop where
  stop : ∀ H, SameT T G H → J.stop xs.length H
  go : ∀ (i : Nat) H, i < xs.length → SameT T G H → J.go i H
  yld : ∀ (i : Nat) H F y v H', xs[i]? = some y → SameT T G H → Same Gf F → Wf T H F → J.yld i H v H' → ∃ F', Ext T H F H' F' ∧ Rep g K F' v y
def tI (g : Str → Option Value) (K : PySem.W.Frag) (T : Addr → Prop) (st : Bool) (W : WX) (ow : List Bool) (d : PEnv → Res (List PV)) : TI := fun σ H R => ∃ H0 F0 env F, Sta g K T H0 F0 ow env σ H F ∧
  wpR (d env) (fun xs => xs.length ≤ sizeLine ∧ ∀ J H' F', Ext T H F H' F' → ItOk g K T J xs (if st = true then F' else H') F' → R J H') (fun x => ∀ cls dd H' F', Ext T H F H' F' → RepX g K F' cls dd x → W cls dd σ H')
/-- a source of a for statement (its items stand still, whatever the body does); of a comprehension -/
abbrev DI (X : Cx) (T : Addr → Prop) (st : Bool) (W : WX) (ow : List Bool) (tg e : Expr) (d : PEnv → Res (List PV)) : Prop := PI X tg e (tI X.mg X.K T st W ow d)
theorem _root_.L2.PI.imp {X : Cx} {tg e : Expr} {t t' : TI} (h : PI X tg e t) (i : ∀ σ H R, t' σ H R → t σ H R) : PI X tg e t' := ⟨fun pins s σ H Q I w => h.run pins s σ H Q I (i _ _ _ w)⟩
theorem _root_.L2.PG.imp {X : Cx} {e : Expr} {t t' : TG} (h : PG X e t) (i : ∀ v σ H Q, t' v σ H Q → t v σ H Q) : PG X e t' := ⟨fun pins s σ H v u Q I r w => h.run pins s σ H v u Q I r (i _ _ _ _ w)⟩
theorem _root_.L2.PGs.imp {X : Cx} {e : List Expr} {t t' : TGs} (h : PGs X e t) (i : ∀ v σ H Q, t' v σ H Q → t v σ H Q) : PGs X e t' := ⟨fun pins s σ H v u Q I r w => h.run pins s σ H v u Q I r (i _ _ _ _ w)⟩

/-! ### targets -/
theorem wipe_get {σ : L2.St} {i : Nat} : ∀ {vs : List Nat}, i ∉ vs → (wipe σ vs)[i]? = σ[i]?
  | [], _ => rfl
  | v :: vs, h => by
    unfold wipe
    simp only [List.mem_cons, not_or] at h
    rw [List.getElem?_set_ne (fun e => h.1 e.symm)]
    exact wipe_get h.2
theorem set_wipe {σ : L2.St} {vs : List Nat} {i : Nat} {v : V} (h : i ∈ vs) : L2.wipe (σ.set i (some v)) vs = L2.wipe σ vs := by
  have key : ∀ (ws : List Nat) (τ : L2.St) (j : Nat), (L2.wipe τ ws)[j]? = if j ∈ ws then (if j < τ.length then some none else none) else τ[j]? := by
    intro ws
    induction ws with
    | nil => intro τ j; simp [L2.wipe]
    | cons w ws ih =>
      intro τ j
      show ((L2.wipe τ ws).set w none)[j]? = _
      by_cases hw : w = j
      · subst hw
        by_cases hl : w < τ.length
        · rw [List.getElem?_set_self (by rw [wipe_length]; exact hl)]; simp [hl]
        · rw [List.getElem?_eq_none (by rw [List.length_set, wipe_length]; omega)]; simp [hl]
      · rw [List.getElem?_set_ne hw, ih]
        by_cases hj : j ∈ ws
        · simp [hj]
        · have : ¬ (j = w) := fun e => hw e.symm
          simp [hj, this]
  apply List.ext_getElem?
  intro j
  rw [key, key]
  by_cases hj : j ∈ vs
  · simp [hj, List.length_set, wipe_length]
  · rw [if_neg hj, if_neg hj, List.getElem?_set_ne (fun e => hj (by rw [← e]; exact h))]
/-- σ' is σ but for the slots vs -/
def But (vs : List Nat) (σ σ' : L2.St) : Prop := ∀ ws : List Nat, (∀ i ∈ vs, i ∈ ws) → L2.wipe σ' ws = L2.wipe σ ws
abbrev Bd := PV → PEnv → Option PEnv
abbrev Bds := List PV → PEnv → Option PEnv
def tG (g : Str → Option Value) (K : PySem.W.Frag) (T : Addr → Prop) (ow : List Bool) (f : Bd) (ow' : List Bool) (vs : List Nat) : TG := fun v σ H Q => ∃ H0 F0 env F x e, Sta g K T H0 F0 ow env σ H F ∧ Rep g K F v x ∧ f x env = some e ∧ ∀ σ', Sta g K T H0 F0 ow' e σ' H F → But vs σ σ' → Q σ' H
def tGs (g : Str → Option Value) (K : PySem.W.Frag) (T : Addr → Prop) (ow : List Bool) (f : Bds) (ow' : List Bool) (vs : List Nat) : TGs := fun us σ H Q => ∃ H0 F0 env F xs e, Sta g K T H0 F0 ow env σ H F ∧ Reps g K F us xs ∧ f xs env = some e ∧ ∀ σ', Sta g K T H0 F0 ow' e σ' H F → But vs σ σ' → Q σ' H
abbrev DG (X : Cx) (T : Addr → Prop) (ow : List Bool) (tg : Expr) (f : Bd) (ow' : List Bool) (vs : List Nat) : Prop := PG X tg (tG X.mg X.K T ow f ow' vs)
abbrev DGs (X : Cx) (T : Addr → Prop) (ow : List Bool) (tg : List Expr) (f : Bds) (ow' : List Bool) (vs : List Nat) : Prop := PGs X tg (tGs X.mg X.K T ow f ow' vs)
def bName (i : Nat) : Bd := fun x env => some (env.set i (some x))
theorem dg_name {i : Nat} {x : Str} (hN : X.N.Nodup) (hi : X.N[i]? = some x) (hx : Loc X.env.scope x) (hf : X.fn x = true ∨ X.env.scope.names.lookup x = some .local := by first | exact .inl rfl | exact .inr rfl | assumption) : DG X T ow (.Name x pos) (bName i) (ow.set i false) [i] :=
  (pg_name hN hi hx hf).imp fun v σ H Q ⟨H0, F0, env, F, x, e, l, r, h, w⟩ => by
    cases h
    exact w _ (l.setE r) fun ws hw => set_wipe (hw i (by simp))
def bNil : Bds := fun xs env => match xs with
  | [] => some env
  | _ => none
def bCons (f : Bd) (h : Bds) : Bds := fun xs env => match xs with
  | x :: r => (f x env).bind fun e => h r e
  | [] => none
def bTup (n : Nat) (h : Bds) : Bd := fun x env => match x with
  | .tup xs => if xs.length = n then h xs env else none
  | _ => none
theorem dgs_nil : DGs X T ow [] bNil ow [] := pgs_nil.imp fun vs σ H Q ⟨H0, F0, env, F, xs, e, l, r, h, w⟩ => by
  cases r with
  | nil => cases h; exact ⟨rfl, w σ l fun _ _ => rfl⟩
  | cons _ _ => cases h
theorem dgs_cons {f : Bd} {h : Bds} {es : List Expr} {vs us : List Nat} (h1 : DG X T ow e f ow1 vs) (h2 : DGs X T ow1 es h ow2 us) (hs : (assignEach (e :: es) X.env).map (·.2) = assign e X.env :: (assignEach es X.env).map (·.2) := by rfl) : DGs X T ow (e :: es) (bCons f h) ow2 (vs ++ us) :=
  (pgs_cons h1 h2 hs).imp fun us σ H Q ⟨H0, F0, env, F, xs, e, l, r, hh, w⟩ => by
    cases r with
    | nil => cases hh
    | cons r rr =>
      obtain ⟨e1, q1, q2⟩ := Option.bind_eq_some_iff.mp hh
      exact ⟨_, _, rfl, H0, F0, env, F, _, e1, l, r, q1, fun σ' l' b1 => ⟨H0, F0, e1, F, _, e, l', rr, q2, fun σ2 l2 b2 => w σ2 l2 fun ws hw =>
        (b2 ws fun i hi => hw i (List.mem_append_right _ hi)).trans (b1 ws fun i hi => hw i (List.mem_append_left _ hi))⟩⟩
theorem dg_tup {h : Bds} {es : List Expr} {kk n : Nat} {vs : List Nat} (hc : X.calm = true) (h1 : DGs X T ow es h ow1 vs) (hn : (assignEach es X.env).length = n := by rfl) (hst : (assignEach es X.env).findIdx? (·.1) = none := by rfl) : DG X T ow (.Tuple es kk pos) (bTup n h) ow1 vs :=
  (pg_tup hc h1 hn hst).imp fun v σ H Q ⟨H0, F0, env, F, x, e, l, r, hh, w⟩ => by
    cases r with
    | @tup a vs xs hs rr =>
      have hh : (if xs.length = n then h xs env else none) = some e := hh
      by_cases q : xs.length = n
      · rw [if_pos q] at hh
        exact ⟨_, _, rfl, Same.seqT l.ext.fh hs, rr.length.trans q, H0, F0, env, F, _, e, l, rr, hh, w⟩
      · rw [if_neg q] at hh; cases hh
    | _ => cases hh

/-! ### for -/
def forL (f : Bd) (k : PEnv → SR) : List PV → PEnv → SR
  | [], env => .nx env
  | x :: xs, env => match f x env with
    | some e => match k e with
      | .nx e' => forL f k xs e'
      | .ct e' => forL f k xs e'
      | .bk e' => .nx e'
      | r => r
    | none => .bad
def sFor (d : PEnv → Res (List PV)) (f : Bd) (k : PEnv → SR) : PEnv → SR := fun env => match d env with
  | .ok xs => if xs.length ≤ sizeLine then forL f k xs env else .bad
  | .err x => .er x env
  | .bad => .bad
theorem Sta.rebase {g : Str → Option Value} {K : PySem.W.Frag} {H0 F0 H1 F1 H F : Hp} {env : PEnv} {σ : L2.St} (b : Ext T H0 F0 H1 F1) (l : Sta g K T H0 F0 ow env σ H F) (s : Same F1 F) : Sta g K T H0 F1 ow env σ H F := by
  refine ⟨⟨l.ext.tabs, l.ext.h, s, l.ext.fh, l.ext.ft, fun a h1 h2 => l.ext.new a h1 ?_⟩, l.len, l.slot, l.own, l.dist⟩
  cases q : F0 a with
  | none => rfl
  | some u => rw [b.f a u q] at h2; cases h2
theorem Ext.unbase {H0 F0 H1 F1 H F : Hp} (b : Ext T H0 F0 H1 F1) (e : Ext T H0 F1 H F) : Ext T H0 F0 H F := ⟨e.tabs, e.h, b.f.trans e.f, e.fh, e.ft, fun a h1 h2 => e.new a h1 (b.new a h1 h2)⟩
theorem Sta.unbase {g : Str → Option Value} {K : PySem.W.Frag} {H0 F0 H1 F1 H F : Hp} {env : PEnv} {σ : L2.St} (b : Ext T H0 F0 H1 F1) (l : Sta g K T H0 F1 ow env σ H F) : Sta g K T H0 F0 ow env σ H F := ⟨b.unbase l.ext, l.len, l.slot, l.own, l.dist⟩
theorem want.rebase {g : Str → Option Value} {K : PySem.W.Frag} {H0 F0 H1 F1 : Hp} {D : Ends} {r : SR} (b : Ext T H0 F0 H1 F1) (w : want g K T W fr oe ol ow H0 F0 D r) : want g K T W fr oe ol ow H0 F1 D r := by
  cases r with
  | nx e => exact fun σ' H' F' l => w σ' H' F' (l.unbase b)
  | rt v => exact fun u H' F' l rt => w u H' F' (b.unbase l) rt
  | bk e => exact fun σ' H' F' l => w σ' H' F' (l.unbase b)
  | ct e => exact fun σ' H' F' l => w σ' H' F' (l.unbase b)
  | er x e => exact fun cls dd σ' H' F' l => w cls dd σ' H' F' (l.unbase b)
  | bad => exact w
theorem Same.toT {F H : Hp} (s : Same F H) : SameT T F H := fun a o _ e => s a o e
theorem ds_for {tg iter : Expr} {di : PEnv → Res (List PV)} {f : Bd} (hp : PassesOwn (model X.prog X.w) X.A X.env X.xe) (hc : X.calm = true) (hi : DI X T true W ow tg iter di) {vs : List Nat} (hg : DG X T ow tg f ow vs) (hb : DSs X T W fr oe ow ow s1 k ow) (ho : leB oe ow = true := by rfl)
    (hs : ∀ x, foldedSetIterable iter X.env x = pure x := by intro _; rfl) : DS X T W fr oe ol ow (.For tg iter s1 [] pos) (sFor di f k) ow :=
  (ps_for hp hc hi hg hb hs).imp fun D σ H w => by
    obtain ⟨H0, F0, env, F, l, w⟩ := tS_iff.mp w
    refine ⟨H0, F0, env, F, l, ?_⟩
    unfold sFor at w
    cases hd : di env with
    | ok xs =>
      rw [hd] at w
      simp only at w
      by_cases hz : xs.length ≤ sizeLine
      · rw [if_pos hz] at w
        refine ⟨hz, fun J H1 F1 x it => ?_⟩
        rw [if_pos rfl] at it
        have b : Ext T H0 F0 H1 F1 := l.ext.trans x
        refine ⟨fun i m σ H => m = xs.length - i ∧ i ≤ xs.length ∧ ∃ env F, Sta X.mg X.K T H0 F1 ow env σ H F ∧ want X.mg X.K T W fr oe ol ow H0 F1 D (forL f k (xs.drop i) env),
          ⟨_, rfl, Nat.zero_le _, env, F1, (l.grow x).rebase b (Same.refl _), w.rebase b⟩, ?_⟩
        rintro i m σ H ⟨rfl, hi', env, F, l, w⟩
        have hG : SameT T F1 H := Same.toT (l.ext.f.trans l.ext.fh)
        by_cases hlt : i < xs.length
        · refine .inr ⟨it.go i H hlt hG, fun σ' H' => ∃ env F, Sta X.mg X.K T H0 F1 ow env σ' H' F ∧ want X.mg X.K T W fr oe ol ow H0 F1 D (forL f k (xs.drop (i + 1)) env), fun σ' H' z => ⟨_, by omega, rfl, hlt, z⟩, fun v H2 y => ?_⟩
          have hy : xs[i]? = some xs[i] := List.getElem?_eq_getElem hlt
          obtain ⟨F2, x2, r2⟩ := it.yld i H F xs[i] v H2 hy hG l.ext.f l.wf y
          rw [List.drop_eq_getElem_cons hlt] at w
          unfold forL at w
          cases hf : f xs[i] env with
          | none => rw [hf] at w; exact w.elim
          | some e =>
            rw [hf] at w
            simp only at w
            refine ⟨H0, F1, env, F2, _, e, l.grow x2, r2, hf, fun σ3 l3 _ => ?_⟩
            refine tS_iff.mpr ⟨H0, F1, e, F2, l3, ?_⟩
            cases hk : k e with
            | nx e => rw [hk] at w; exact fun σ' H' F' l' => ⟨e, F', l', w⟩
            | ct e => rw [hk] at w; exact fun σ' H' F' l' => ⟨e, F', l', w⟩
            | bk e => rw [hk] at w; exact fun σ' H' F' l' => w σ' H' F' l'
            | rt v => rw [hk] at w; exact w
            | er x e => rw [hk] at w; exact w
            | bad => rw [hk] at w; exact w
        · have ei : i = xs.length := by omega
          subst ei
          rw [List.drop_length] at w
          exact .inl ⟨it.stop H hG, w σ H F l⟩
      · rw [if_neg hz] at w; exact w.elim
    | err x => rw [hd] at w; exact err_up l (le_of ho) w
    | bad => rw [hd] at w; exact w
end
end D
end

section
set_option Elab.async false
set_option linter.all false
set_option maxRecDepth 100000
set_option maxHeartbeats 1000000
namespace D
open PySem PySem.Spec PyProof.Rows L2

/-! ### sources -/
section
variable {g : Str → Option Value} {K : PySem.W.Frag} {T : Addr → Prop} {H F G Gf : Hp} {a : Addr} {vs : List V} {xs : List PV}
theorem SqL.keepT (t : Tabs T G) (h : SqL K G a vs) (s : SameT T G H) : SqL K H a vs := by
  rcases h with (h | ⟨o, h⟩) | h
  · exact .inl (.inl (s _ _ (noT t h (fun _ z => by cases z)) h))
  · exact .inl (.inr ⟨o, s _ _ (noT t h (fun _ z => by cases z)) h⟩)
  · exact .inr h
theorem SqT.keepT (t : Tabs T G) (h : SqT K G a vs) (s : SameT T G H) : SqT K H a vs := by
  rcases h with (h | ⟨o, h⟩) | h
  · exact .inl (.inl (s _ _ (noT t h (fun _ z => by cases z)) h))
  · exact .inl (.inr ⟨o, s _ _ (noT t h (fun _ z => by cases z)) h⟩)
  · exact .inr h
/-- (G need not hold the tables) -/
theorem SqL.keepF (h : SqL K G a vs) (ft : ∀ a, T a → G a = none) (s : SameT T G H) : SqL K H a vs := by
  have nt : ∀ o, G a = some o → ¬ T a := fun o e t => by rw [ft a t] at e; cases e
  rcases h with (h | ⟨o, h⟩) | h
  · exact .inl (.inl (s _ _ (nt _ h) h))
  · exact .inl (.inr ⟨o, s _ _ (nt _ h) h⟩)
  · exact .inr h
theorem SqT.keepF (h : SqT K G a vs) (ft : ∀ a, T a → G a = none) (s : SameT T G H) : SqT K H a vs := by
  have nt : ∀ o, G a = some o → ¬ T a := fun o e t => by rw [ft a t] at e; cases e
  rcases h with (h | ⟨o, h⟩) | h
  · exact .inl (.inl (s _ _ (nt _ h) h))
  · exact .inl (.inr ⟨o, s _ _ (nt _ h) h⟩)
  · exact .inr h
theorem it_list (keep : ∀ H, SameT T G H → SqL K H a vs) (r : Reps g K Gf vs xs) : ItOk g K T (Itl K a) xs G Gf where
  stop := fun H s => ⟨vs, keep H s, by rw [r.length]; exact Nat.le_refl _⟩
  go := fun i H hi s => by
    have : i < vs.length := by rw [r.length]; exact hi
    exact ⟨vs, vs[i], keep H s, List.getElem?_eq_getElem this⟩
  yld := fun i H F y v H' hy s sf w yl => by
    obtain ⟨rfl, h⟩ := yl
    obtain ⟨u, hu, ru⟩ := r.get hy
    have := h vs (keep _ s)
    rw [hu] at this; cases this
    exact ⟨F, .refl w, ru.mono sf⟩
theorem it_tup (keep : ∀ H, SameT T G H → SqT K H a vs) (r : Reps g K Gf vs xs) : ItOk g K T (Itt K a) xs G Gf where
  stop := fun H s => ⟨vs, keep H s, by rw [r.length]; exact Nat.le_refl _⟩
  go := fun i H hi s => by
    have : i < vs.length := by rw [r.length]; exact hi
    exact ⟨vs, vs[i], keep H s, List.getElem?_eq_getElem this⟩
  yld := fun i H F y v H' hy s sf w yl => by
    obtain ⟨rfl, h⟩ := yl
    obtain ⟨u, hu, ru⟩ := r.get hy
    have := h vs (keep _ s)
    rw [hu] at this; cases this
    exact ⟨F, .refl w, ru.mono sf⟩
def rangeL (lo : Int) (n : Nat) : List PV := (List.range n).map fun (i : Nat) => .int (lo + (i : Int))
theorem it_range (lo : Int) (n : Nat) : ItOk g K T (Itr lo n) (rangeL lo n) G Gf where
  stop := fun H s => by show (Itr lo n).stop _ H; simp [rangeL, Itr]
  go := fun i H hi s => by show i < n; simpa [rangeL] using hi
  yld := fun i H F y v H' hy s sf w yl => by
    obtain ⟨e, rfl⟩ := yl
    subst e
    have hi : i < n := by
      have := (List.getElem?_eq_some_iff.mp hy).1
      simpa [rangeL] using this
    have : y = .int (lo + (i : Int)) := by
      simp [rangeL, hi] at hy
      exact hy.symm
    subst this
    exact ⟨F, .refl w, .int _⟩
end
section
variable {X : Cx} {T : Addr → Prop} {W : WX} {oe ol ow ow' ow1 ow2 : List Bool} {fr st : Bool} {tg e a b c : Expr} {rest s1 s2 : List Stmt} {d da db dc : PEnv → Res PV} {t : PEnv → Res Bool} {ds : PEnv → Res (List PV)} {pos : Pos}
def pyItems : PV → Option (List PV)
  | .lst xs => if xs.length ≤ sizeLine then some xs else none
  | .tup xs => if xs.length ≤ sizeLine then some xs else none
  | .scr xs => if xs.length ≤ sizeLine then some (xs.map .int) else none
  | _ => none
def pyItemsT : PV → Option (List PV)
  | .tup xs => if xs.length ≤ sizeLine then some xs else none
  | _ => none
def iOf (f : PV → Option (List PV)) (d : PEnv → Res PV) : PEnv → Res (List PV) := fun env => (d env).bnd fun p => ofO (f p)
theorem some_if {α : Type} {c : Prop} [Decidable c] {a b : α} (h : (if c then some a else none) = some b) : c ∧ a = b := by
  by_cases hc : c
  · rw [if_pos hc] at h; exact ⟨hc, Option.some.inj h⟩
  · rw [if_neg hc] at h; cases h
/-- a list or a tuple -/
def iSeq (K : PySem.W.Frag) (tl : TE) : TI := fun σ H R => tl σ H fun x H1 => ∃ a, x = .ref a ∧ (((∃ xs, SqL K H1 a xs) ∧ R (Itl K a) H1) ∨ ((∃ xs, SqT K H1 a xs) ∧ R (Itt K a) H1))
theorem pi_seq {X : Cx} {tg l : Expr} {tl : TE} (hl : PE X l tl) : PI X tg l (iSeq X.K tl) := by
  refine ⟨fun pins s σ H R I h => ?_⟩
  refine thn (hl.run pins s σ H _ I h) fun v s1 ⟨x, H1, I1, r1, q1⟩ => ?_
  obtain ⟨a, e, q1⟩ := q1
  subst e
  cases r1
  rcases q1 with ⟨⟨xs, hq⟩, q⟩ | ⟨⟨xs, hq⟩, q⟩
  · obtain ⟨its, rv, p, hz⟩ := I1.list hq
    refine wpAny_pyIter_list p.isList ?_
    refine ⟨s1.heap.objs.size, [s1.heap.objs.size], _, _, H1, rfl, I1.kept (t' := s1.toks) fun b o e => Heap.get?_push_of_some _ e, turn_list a _, ⟨_, Heap.get?_push_size _ rfl, rfl, rfl⟩, fun b hb => ?_, q⟩
    have e : b = s1.heap.objs.size := by simpa using hb
    subst e
    exact I1.fpOk (Nat.le_refl _) (I1.hok.fresh (Nat.le_refl _))
  · obtain ⟨its, rv, p, hz⟩ := I1.tuple hq
    refine wpAny_pyIter_tuple (show s1.heap.IsTuple a its.toArray from p) ?_
    refine ⟨s1.heap.objs.size, [s1.heap.objs.size], _, _, H1, rfl, I1.kept (t' := s1.toks) fun b o e => Heap.get?_push_of_some _ e, turn_tuple a _, ⟨_, Heap.get?_push_size _ rfl, rfl, rfl⟩, fun b hb => ?_, q⟩
    have e : b = s1.heap.objs.size := by simpa using hb
    subst e
    exact I1.fpOk (Nat.le_refl _) (I1.hok.fresh (Nat.le_refl _))
theorem reps_ints {g : Str → Option Value} {K : PySem.W.Frag} {F : Hp} : ∀ ns : List Int, Reps g K F (ns.map V.int) (ns.map PV.int)
  | [] => .nil
  | n :: ns => .cons (.int n) (reps_ints ns)
/-- a list that is frozen, for a for statement -/
theorem di_list (h : DE X T W ow e d) : DI X T true W ow tg e (iOf pyItems d) := (pi_seq h).imp fun σ H R ⟨H0, F0, env, F, l, w⟩ => by
  refine ⟨H0, F0, env, F, l, wpR_mono (wpR_bnd.mp w) (fun p w1 v H1 F1 e1 r1 => ?_) fun _ z => z⟩
  obtain ⟨xs, hx, w2⟩ := wpR_ofO w1
  cases r1 with
  | @lst a vs ys hs rs =>
    obtain ⟨hz, rfl⟩ := some_if hx
    exact ⟨_, rfl, .inl ⟨⟨vs, e1.fh.seq (.of hs)⟩, w2.2 _ H1 F1 e1 (it_list (fun H s => SqL.keepF (.of hs) e1.ft s) rs)⟩⟩
  | @tup a vs ys hs rs =>
    obtain ⟨hz, rfl⟩ := some_if hx
    exact ⟨_, rfl, .inr ⟨⟨vs, Same.seqT e1.fh hs⟩, w2.2 _ H1 F1 e1 (it_tup (fun H s => SqT.keepF hs e1.ft s) rs)⟩⟩
  | @scr a ns hs =>
    obtain ⟨hz, rfl⟩ := some_if hx
    exact ⟨_, rfl, .inl ⟨⟨_, e1.fh.seq hs⟩, w2.2 _ H1 F1 e1 (it_list (fun H s => SqL.keepF hs e1.ft s) (reps_ints ns))⟩⟩
  | _ => cases hx
/-- a list that stands as it is, for a comprehension -/
theorem di_listR (h : DR X T W ow e d) : DI X T false W ow tg e (iOf pyItems d) := (pi_seq h).imp fun σ H R ⟨H0, F0, env, F, l, w⟩ => by
  refine ⟨H0, F0, env, F, l, wpR_mono (wpR_bnd.mp w) (fun p w1 v H1 F1 e1 r1 => ?_) fun _ z => z⟩
  obtain ⟨xs, hx, w2⟩ := wpR_ofO w1
  rcases r1 with r1 | ⟨a, o, rfl, h1, h2, h3⟩
  · cases r1 with
    | @lst a vs ys hs rs =>
      obtain ⟨hz, rfl⟩ := some_if hx
      refine ⟨_, rfl, .inl ⟨⟨vs, e1.fh.seq (.of hs)⟩, w2.2 _ H1 F1 e1 ?_⟩⟩
      exact it_list (fun H s => SqL.keepT e1.tabs (e1.fh.seq (.of hs)) s) rs
    | @tup a vs ys hs rs =>
      obtain ⟨hz, rfl⟩ := some_if hx
      exact ⟨_, rfl, .inr ⟨⟨vs, Same.seqT e1.fh hs⟩, w2.2 _ H1 F1 e1 (it_tup (fun H s => SqT.keepT e1.tabs (Same.seqT e1.fh hs) s) rs)⟩⟩
    | @scr a ns hs =>
      obtain ⟨hz, rfl⟩ := some_if hx
      exact ⟨_, rfl, .inl ⟨⟨_, e1.fh.seq hs⟩, w2.2 _ H1 F1 e1 (it_list (fun H s => SqL.keepT e1.tabs (e1.fh.seq hs) s) (reps_ints ns))⟩⟩
    | _ => cases hx
  · cases h2 with
    | @lst vs ys rs =>
      obtain ⟨hz, rfl⟩ := some_if hx
      refine ⟨_, rfl, .inl ⟨⟨vs, .of h1⟩, w2.2 _ H1 F1 e1 ?_⟩⟩
      exact it_list (fun H s => SqL.keepT e1.tabs (.of h1) s) rs
    | _ => cases hx
theorem di_tup (h : DE X T W ow e d) : DI X T st W ow tg e (iOf pyItemsT d) := (pi_tup h).imp fun σ H R ⟨H0, F0, env, F, l, w⟩ => by
  refine ⟨H0, F0, env, F, l, wpR_mono (wpR_bnd.mp w) (fun p w1 v H1 F1 e1 r1 => ?_) fun _ z => z⟩
  obtain ⟨xs, hx, w2⟩ := wpR_ofO w1
  cases r1 with
  | @tup a vs ys hs rs =>
    obtain ⟨hz, rfl⟩ := some_if hx
    refine ⟨_, rfl, ⟨vs, Same.seqT e1.fh hs⟩, w2.2 _ H1 F1 e1 ?_⟩
    cases st with
    | true => exact it_tup (fun H s => SqT.keepF hs e1.ft s) rs
    | false => exact it_tup (fun H s => SqT.keepT e1.tabs (Same.seqT e1.fh hs) s) rs
  | _ => cases hx
def pyRange1 : List PV → Option (List PV)
  | [.int j] => if -(2 ^ 62) ≤ j ∧ j < 2 ^ 62 then some (rangeL 0 j.toNat) else none
  | _ => none
def pyRange2 : List PV → Option (List PV)
  | [.int i, .int j] => if -(2 ^ 62) ≤ i ∧ i < 2 ^ 62 ∧ -(2 ^ 62) ≤ j ∧ j < 2 ^ 62 then some (rangeL i (j - i).toNat) else none
  | _ => none
def iWith (f : List PV → Option (List PV)) (ds : PEnv → Res (List PV)) : PEnv → Res (List PV) := fun env => (ds env).bnd fun ps => ofO (f ps)
theorem di_range1 {p : Pos} (hg : Gl X "range") (hm : X.mg "range" = none) (ha : DA X T W ow [a] ds) (hs : starEach [a] X.env = [(false, eval a X.env)] := by rfl) : DI X T st W ow tg (.Call (.Name "range" p) [a] [] pos) (iWith pyRange1 ds) :=
  (pi_range1 hg hm ha hs).imp fun σ H R ⟨H0, F0, env, F, l, w⟩ => by
    refine ⟨H0, F0, env, F, l, wpR_mono (wpR_bnd.mp w) (fun ps w1 vs H1 F1 e1 rs => ?_) fun _ z => z⟩
    obtain ⟨xs, hx, w2⟩ := wpR_ofO w1
    unfold pyRange1 at hx
    split at hx
    · obtain ⟨hz, rfl⟩ := some_if hx
      cases rs with
      | cons r t =>
        cases t
        cases r
        exact ⟨_, rfl, hz.1, hz.2, w2.2 _ H1 F1 e1 (it_range _ _)⟩
    · cases hx
theorem di_range2 {p : Pos} (hg : Gl X "range") (hm : X.mg "range" = none) (ha : DA X T W ow [a, b] ds) (hs : starEach [a, b] X.env = [(false, eval a X.env), (false, eval b X.env)] := by rfl) (hs2 : starEach [b] X.env = [(false, eval b X.env)] := by rfl) : DI X T st W ow tg (.Call (.Name "range" p) [a, b] [] pos) (iWith pyRange2 ds) :=
  (pi_range2 hg hm ha hs hs2).imp fun σ H R ⟨H0, F0, env, F, l, w⟩ => by
    refine ⟨H0, F0, env, F, l, wpR_mono (wpR_bnd.mp w) (fun ps w1 vs H1 F1 e1 rs => ?_) fun _ z => z⟩
    obtain ⟨xs, hx, w2⟩ := wpR_ofO w1
    unfold pyRange2 at hx
    split at hx
    · obtain ⟨hz, rfl⟩ := some_if hx
      cases rs with
      | cons r t =>
        cases r
        cases t with
        | cons r t =>
          cases r
          cases t
          exact ⟨_, _, rfl, hz, w2.2 _ H1 F1 e1 (it_range _ _)⟩
    · cases hx

/-! ### list comprehensions -/
/-- what must not raise -/
def Res.bnz {α β : Type} (r : Res α) (f : α → Res β) : Res β := match r with
  | .ok a => f a
  | _ => .bad
theorem wpR_bnz {α β : Type} {r : Res α} {f : α → Res β} {Q : β → Prop} {E : XV → Prop} (h : wpR (r.bnz f) Q E) : ∃ a, r = .ok a ∧ wpR (f a) Q E := by
  cases r with
  | ok a => exact ⟨a, rfl, h⟩
  | err x => exact h.elim
  | bad => exact h.elim
abbrev W0 : WX := fun _ _ _ _ => False
def compL (f : Bd) (t : PEnv → Res Bool) (d : PEnv → Res PV) (env : PEnv) : List PV → Res (List PV)
  | [] => .ok []
  | x :: xs => match f x env with
    | some e => (t e).bnz fun b => if b = true then (d e).bnz fun y => (compL f t d env xs).bnz fun ys => .ok (y :: ys) else compL f t d env xs
    | none => .bad
def wipeE (env : PEnv) : List Nat → PEnv
  | [] => env
  | v :: vs => (wipeE env vs).set v none
def xLc (di : PEnv → Res (List PV)) (f : Bd) (t : PEnv → Res Bool) (d : PEnv → Res PV) (vs : List Nat) : PEnv → Res PV := fun env => (di env).bnd fun xs =>
  if xs.length ≤ sizeLine then (compL f t d (wipeE env vs) xs).bnz fun ys => .ok (.lst ys) else .bad
theorem wipeE_len (env : PEnv) : ∀ vs, (wipeE env vs).length = env.length
  | [] => rfl
  | v :: vs => by unfold wipeE; rw [List.length_set, wipeE_len env vs]
theorem wipeE_get {env : PEnv} {i : Nat} : ∀ {vs : List Nat} {x : PV}, (wipeE env vs)[i]? = some (some x) → env[i]? = some (some x) ∧ i ∉ vs
  | [], _, h => ⟨h, by simp⟩
  | v :: vs, x, h => by
    unfold wipeE at h
    by_cases hv : v = i
    · subst hv
      by_cases hl : v < (wipeE env vs).length
      · rw [List.getElem?_set_self hl] at h; cases h
      · rw [List.getElem?_eq_none (by rw [List.length_set]; omega)] at h; cases h
    · rw [List.getElem?_set_ne hv] at h
      obtain ⟨h1, h2⟩ := wipeE_get h
      exact ⟨h1, by simp only [List.mem_cons, not_or]; exact ⟨fun e => hv e.symm, h2⟩⟩
theorem Sta.wipe {g : Str → Option Value} {K : PySem.W.Frag} {H0 F0 H F : Hp} {env : PEnv} {σ : L2.St} (l : Sta g K T H0 F0 ow env σ H F) (vs : List Nat) : Sta g K T H0 F0 ow (wipeE env vs) (L2.wipe σ vs) H F := by
  refine ⟨l.ext, by rw [wipe_length, wipeE_len]; exact l.len, fun i x e n => ?_, fun i x e n => ?_, fun i j x y a h1 h2 e1 e2 s1 s2 => ?_⟩
  · obtain ⟨e1, e2⟩ := wipeE_get e
    rw [wipe_get e2]
    exact l.slot i x e1 n
  · obtain ⟨e1, e2⟩ := wipeE_get e
    rw [wipe_get e2]
    exact l.own i x e1 n
  · obtain ⟨f1, f2⟩ := wipeE_get e1
    obtain ⟨g1, g2⟩ := wipeE_get e2
    rw [wipe_get f2] at s1
    rw [wipe_get g2] at s2
    exact l.dist i j x y a h1 h2 f1 g1 s1 s2
def tTs (g : Str → Option Value) (K : PySem.W.Frag) (T : Addr → Prop) (ow : List Bool) (d : PEnv → Res Bool) : TT := tT g K T W0 ow d
abbrev DTs (X : Cx) (T : Addr → Prop) (ow : List Bool) (es : List Expr) (d : PEnv → Res Bool) : Prop := PTs X es (tT X.mg X.K T W0 ow d)
def bYes : PEnv → Res Bool := fun _ => .ok true
theorem _root_.L2.PTs.imp {X : Cx} {es : List Expr} {t t' : TT} (h : PTs X es t) (i : ∀ σ H Q, t' σ H Q → t σ H Q) : PTs X es t' := ⟨fun pins s σ H Q I w => h.run pins s σ H Q I (i _ _ _ w)⟩
theorem dts_nil : DTs X T ow [] bYes := pts_nil.imp fun σ H Q ⟨H0, F0, env, F, l, w⟩ => w H F (.refl l.wf)
theorem dts_one (h : DT X T W0 ow c t) : DTs X T ow [c] t := pts_one h
theorem wipe_twice {σ : L2.St} {vs : List Nat} : L2.wipe (L2.wipe σ vs) vs = L2.wipe σ vs := by
  have key : ∀ (ws : List Nat) (τ : L2.St) (j : Nat), (L2.wipe τ ws)[j]? = if j ∈ ws then (if j < τ.length then some none else none) else τ[j]? := by
    intro ws
    induction ws with
    | nil => intro τ j; simp [L2.wipe]
    | cons w ws ih =>
      intro τ j
      show ((L2.wipe τ ws).set w none)[j]? = _
      by_cases hw : w = j
      · subst hw
        by_cases hl : w < τ.length
        · rw [List.getElem?_set_self (by rw [wipe_length]; exact hl)]; simp [hl]
        · rw [List.getElem?_eq_none (by rw [List.length_set, wipe_length]; omega)]; simp [hl]
      · rw [List.getElem?_set_ne hw, ih]
        by_cases hj : j ∈ ws
        · simp [hj]
        · have : ¬ (j = w) := fun e => hw e.symm
          simp [hj, this]
  apply List.ext_getElem?
  intro j
  rw [key, key, wipe_length]
  by_cases hj : j ∈ vs
  · simp [hj]
  · rw [if_neg hj, if_neg hj]
/-- the reading of a comprehension -/
theorem lc_ok {di : PEnv → Res (List PV)} {f : Bd} {vs us : List Nat} {t : PEnv → Res Bool} {d : PEnv → Res PV} {σ : L2.St} {H : Hp} {Q : VK} {g : Str → Option Value} {K : PySem.W.Frag}
    (hv : ∀ i ∈ us, i ∈ vs) (w : tE g K T true W ow (xLc di f t d vs) σ H Q) : tLc (tI g K T false W ow di) (tG g K T ow f ow us) (tT g K T W0 ow t) (tE g K T false W0 ow d) vs σ H Q := by
  obtain ⟨H0, F0, env, F, l, w⟩ := w
  refine ⟨H0, F0, env, F, l, wpR_mono (wpR_bnd.mp w) (fun xs w1 => ?_) fun _ z => z⟩
  by_cases hz : xs.length ≤ sizeLine
  · rw [if_pos hz] at w1
    obtain ⟨ys, hys, w2⟩ := wpR_bnz w1
    refine ⟨hz, fun J H1 F1 x it D hD => ?_⟩
    rw [if_neg Bool.false_ne_true] at it
    have l1 := (l.grow x).wipe vs
    refine ⟨fun i m H2 => m = xs.length - i ∧ i ≤ xs.length ∧ ∃ F2 acc pre post, Ext T H1 F1 H2 F2 ∧ H2 D = some (.lst acc) ∧ F2 D = none ∧ Reps g K F2 acc pre ∧ pre.length ≤ i ∧ compL f t d (wipeE env vs) (xs.drop i) = .ok post ∧ pre ++ post = ys,
      ⟨_, rfl, Nat.zero_le _, F1, [], [], ys, Ext.laid x.wf hD, upd_same, ?_, .nil, Nat.le_refl _, hys, rfl⟩, ?_⟩
    · cases q : F1 D with
      | none => rfl
      | some u => rw [x.fh D u q] at hD; cases hD
    rintro i m H2 ⟨rfl, hi, F2, acc, pre, post, x2, h2, f2, r2, hl, hc, hp⟩
    have D1 : H D = none := by
      cases q : H D with
      | none => rfl
      | some u => exact absurd hD (x.ne (by rw [q]; simp))
    by_cases hlt : i < xs.length
    · rw [List.drop_eq_getElem_cons hlt] at hc
      unfold compL at hc
      have hy : xs[i]? = some xs[i] := List.getElem?_eq_getElem hlt
      cases hf : f xs[i] (wipeE env vs) with
      | none => rw [hf] at hc; cases hc
      | some e =>
        rw [hf] at hc
        simp only at hc
        refine .inr ⟨it.go i H2 hlt x2.h, fun H3 => ∃ F3 acc pre post, Ext T H1 F1 H3 F3 ∧ H3 D = some (.lst acc) ∧ F3 D = none ∧ Reps g K F3 acc pre ∧ pre.length ≤ i + 1 ∧ compL f t d (wipeE env vs) (xs.drop (i + 1)) = .ok post ∧ pre ++ post = ys, fun H3 z => ⟨_, by omega, rfl, hlt, z⟩, fun v H3 yl => ?_⟩
        obtain ⟨F3, x3, r3⟩ := it.yld i H2 F2 xs[i] v H3 hy x2.h x2.f x2.wf yl
        have x13 := x2.trans x3
        refine ⟨H0, F0, _, F3, _, e, l1.grow x13, r3, hf, fun σ2 l2 b2 => ⟨?_, ?_⟩⟩
        · rw [b2 vs hv]
          exact wipe_twice
        · cases ht : t e with
          | err _ => rw [ht] at hc; cases hc
          | bad => rw [ht] at hc; cases hc
          | ok b =>
            rw [ht] at hc
            simp only [Res.bnz] at hc
            refine ⟨H0, F0, e, F3, l2, ?_⟩
            rw [ht]
            intro H4 F4 x4
            have x14 := x13.trans x4
            have stay : ∀ {F' : Hp} {H' : Hp}, Ext T H2 F2 H' F' → H' D = some (.lst acc) ∧ F' D = none ∧ Reps g K F' acc pre := fun {F' H'} xx =>
              ⟨xx.h D _ (noT x2.tabs h2 (fun _ z => by cases z)) h2, xx.new D (by rw [h2]; simp) f2, r2.mono xx.f⟩
            cases b with
            | false =>
              rw [if_neg Bool.false_ne_true] at hc ⊢
              obtain ⟨s1, s2, s3⟩ := stay (x3.trans x4)
              exact ⟨F4, acc, pre, post, x14, s1, s2, s3, by omega, hc, hp⟩
            | true =>
              rw [if_pos rfl] at hc ⊢
              cases hd : d e with
              | err _ => rw [hd] at hc; cases hc
              | bad => rw [hd] at hc; cases hc
              | ok y =>
                rw [hd] at hc
                simp only [Res.bnz] at hc
                refine ⟨H0, F0, e, F4, l2.grow x4, ?_⟩
                rw [hd]
                intro u H5 F5 x5 r5
                obtain ⟨s1, s2, s3⟩ := stay ((x3.trans x4).trans x5)
                cases hr : compL f t d (wipeE env vs) (xs.drop (i + 1)) with
                | err _ => rw [hr] at hc; cases hc
                | bad => rw [hr] at hc; cases hc
                | ok rest =>
                  rw [hr] at hc
                  cases hc
                  have x15 := x14.trans x5
                  have nD : H1 D = none := hD
                  have x6 : Ext T H1 F1 (upd H5 D (.lst (acc ++ [u]))) F5 := by
                    have nt : ¬ T D := noT x2.tabs h2 (fun _ z => by cases z)
                    refine ⟨fun a ta => ?_, fun a o na ha => ?_, x15.f, fun a o ha => ?_, x15.ft, x15.new⟩
                    · obtain ⟨ps, e1, e2⟩ := x15.tabs a ta
                      exact ⟨ps, by rw [upd_ne (fun z => nt (by rw [← z]; exact ta))]; exact e1, e2⟩
                    · rw [upd_ne (fun z => by rw [z, nD] at ha; cases ha)]; exact x15.h a o na ha
                    · rw [upd_ne (fun z => by rw [z, s2] at ha; cases ha)]; exact x15.fh a o ha
                  refine ⟨acc, s1, ?_, F5, acc ++ [u], pre ++ [y], rest, x6, upd_same, s2, s3.append (.cons r5 .nil), by rw [List.length_append]; simpa using hl, rfl, by rw [List.append_assoc]; exact hp⟩
                  have := r2.length
                  omega
    · have ei : i = xs.length := by omega
      subst ei
      rw [List.drop_length] at hc
      cases hc
      rw [List.append_nil] at hp
      subst hp
      refine .inl ⟨it.stop H2 x2.h, w2 _ H2 F2 (x.trans x2) ⟨D, _, rfl, h2, .lst r2, D1, f2⟩⟩
  · rw [if_neg hz] at w1; exact w1.elim
end
end D
end

section
set_option Elab.async false
set_option linter.all false
set_option maxRecDepth 100000
set_option maxHeartbeats 1000000
namespace D
open PySem PySem.Spec PyProof.Rows L2

section
variable {X : Cx} {T : Addr → Prop} {W : WX} {oe ol ow ow' ow1 ow2 : List Bool} {fr st : Bool} {tg e a b c : Expr} {es : List Expr} {rest s1 s2 : List Stmt} {d da db dc : PEnv → Res PV} {t : PEnv → Res Bool} {ds : PEnv → Res (List PV)} {di : PEnv → Res (List PV)} {pos : Pos} {f : Bd}

/-! ### list comprehensions: the rules -/
theorem df_lc {elt tg iter : Expr} {ifs : List Expr} {scope : Scope} {own : List (Str × Nat)} {us : List Nat} (hc : X.calm = true) (hN : X.N.Nodup) (hi : DI X T false W ow tg iter di) (ok : BlkOk X.N X.env.scope scope own)
    (hg : ∀ (s : Shared) (H : Hp) (C : Addr) (cl : List (Str × Addr)) (fp : List Addr), DG (X.blk s H scope (compEnvC scope cl C X.env) fp) T ow tg f ow us) (ht : ∀ (s : Shared) (H : Hp) (C : Addr) (cl : List (Str × Addr)) (fp : List Addr), DTs (X.blk s H scope (compEnvC scope cl C X.env) fp) T ow ifs t)
    (he : ∀ (s : Shared) (H : Hp) (C : Addr) (cl : List (Str × Addr)) (fp : List Addr), DE (X.blk s H scope (compEnvC scope cl C X.env) fp) T W0 ow elt d) (hv : ∀ i ∈ us, i ∈ own.map (·.2)) (hs : ∀ x, foldedSetIterable iter X.env x = pure x := by intro _; rfl) :
    DF X T W ow (.ListComp elt [⟨tg, iter, ifs, 0⟩] scope pos) (xLc di f t d (own.map (·.2))) :=
  (pe_lc hc hN hi ok hg ht he hs).imp fun _ _ _ w => lc_ok hv w
theorem ds_setLc {i : Nat} {y : Str} {py : Pos} {elt tg iter : Expr} {ifs : List Expr} {scope : Scope} {own : List (Str × Nat)} {us : List Nat} {spos : Pos} (hc : X.calm = true) (hN : X.N.Nodup) (hy : X.N[i]? = some y) (hyl : X.env.scope.names.lookup y = some .local)
    (hsw : swapsWith (.ListComp elt [⟨tg, iter, ifs, 0⟩] scope pos) (some (.Name y py)) spos.line X.env = pure true) (hi : DI X T false W ow tg iter di) (ok : BlkOk X.N X.env.scope scope own)
    (hg : ∀ (s : Shared) (H : Hp) (C : Addr) (cl : List (Str × Addr)) (fp : List Addr), DG (X.blk s H scope (compEnvC scope cl C X.env) fp) T ow tg f ow us) (ht : ∀ (s : Shared) (H : Hp) (C : Addr) (cl : List (Str × Addr)) (fp : List Addr), DTs (X.blk s H scope (compEnvC scope cl C X.env) fp) T ow ifs t)
    (he : ∀ (s : Shared) (H : Hp) (C : Addr) (cl : List (Str × Addr)) (fp : List Addr), DE (X.blk s H scope (compEnvC scope cl C X.env) fp) T W0 ow elt d) (hv : ∀ i ∈ us, i ∈ own.map (·.2)) (hl : i < ow.length := by decide) (ho : leB oe ow = true := by rfl) (hs : ∀ x, foldedSetIterable iter X.env x = pure x := by intro _; rfl) :
    DS X T W fr oe ol ow (.Assign [.Name y py] (.ListComp elt [⟨tg, iter, ifs, 0⟩] scope pos) spos) (sSet i (xLc di f t d (own.map (·.2)))) (ow.set i true) :=
  (ps_setLc hc hN hy hyl hsw hi ok hg ht he hs).imp fun D σ H w => by
    have := setF_ok (d := xLc di f t d (own.map (·.2))) hl ho w
    exact lc_ok hv this

/-! ### changing an owned object -/
theorem Sta.put {g : Str → Option Value} {K : PySem.W.Frag} {H0 F0 H F : Hp} {env : PEnv} {σ : L2.St} {i : Nat} {x y : PV} {a : Addr} {o : HO} (l : Sta g K T H0 F0 ow env σ H F) (he : env[i]? = some (some x)) (hw : ow[i]? = some true) (hs : σ[i]? = some (some (.ref a))) (r : RepO g K F o y) :
    Sta g K T H0 F0 ow (env.set i (some y)) σ (upd H a o) F := by
  obtain ⟨b, u, e1, e2, e3, e4, e5, e6⟩ := l.own i x he hw
  rw [hs] at e1; cases e1
  have hi : i < env.length := (List.getElem?_eq_some_iff.mp he).1
  refine ⟨⟨fun b t => ?_, fun b v nt q => ?_, l.ext.f, fun b v q => ?_, l.ext.ft, l.ext.new⟩, by rw [List.length_set]; exact l.len, fun j z q n => ?_, fun j z q n => ?_, fun j k z z' b h1 h2 q1 q2 s1 s2 => ?_⟩
  · obtain ⟨ps, f1, f2⟩ := l.ext.tabs b t
    exact ⟨ps, by rw [upd_ne (fun z => e6 (by rw [← z]; exact t))]; exact f1, f2⟩
  · rw [upd_ne (fun z => by rw [z, e4] at q; cases q)]; exact l.ext.h b v nt q
  · rw [upd_ne (fun z => by rw [z, e5] at q; cases q)]; exact l.ext.fh b v q
  · have hj : i ≠ j := fun z => n (by rw [← z]; exact hw)
    rw [List.getElem?_set_ne hj] at q
    exact l.slot j z q n
  · by_cases hj : i = j
    · subst hj
      rw [List.getElem?_set_self hi] at q
      cases q
      exact ⟨a, o, hs, upd_same, r, e4, e5, e6⟩
    · rw [List.getElem?_set_ne hj] at q
      obtain ⟨b, u', f1, f2, f3, f4, f5, f6⟩ := l.own j z q n
      have nb : b ≠ a := fun z' => hj (l.dist i j x z a hw n he q hs (by rw [f1, z']))
      exact ⟨b, u', f1, by rw [upd_ne nb]; exact f2, f3, f4, f5, f6⟩
  · have old : ∀ (j : Nat) z, (env.set i (some y))[j]? = some (some z) → ∃ z', env[j]? = some (some z') := fun j z q => by
      by_cases hj : i = j
      · subst hj; exact ⟨x, he⟩
      · rw [List.getElem?_set_ne hj] at q; exact ⟨z, q⟩
    obtain ⟨w1, p1⟩ := old j z q1
    obtain ⟨w2, p2⟩ := old k z' q2
    exact l.dist j k w1 w2 b h1 h2 p1 p2 s1 s2
/-- name.append(value) -/
def sApp (i : Nat) (d : PEnv → Res PV) : PEnv → SR := fun env => match env[i]? with
  | some (some (.lst xs)) => sWith d (fun v env => if xs.length < sizeLine then .nx (env.set i (some (.lst (xs ++ [v])))) else .bad) env
  | _ => .bad
theorem ds_app {i : Nat} {o : Expr} {apos cpos : Pos} (ho : PE X o (tVar i)) (hi : (ow[i]? == some true) = true) (ha : DA X T W ow [e] (aCons d aNil))
    (hbase : attributeBase o "append" X.env (eval o X.env) = eval o X.env := by rfl)
    (hfew : ((backTo cpos (starEach [e] X.env)).all (fun x => !x.1) && (backToKw cpos (keywordEach [] X.env)).all (fun x => x.1.isSome)
      && decide ([e].length + ([] : List Keyword).length + (if ([] : List Keyword).isEmpty then 0 else 1) < 30)) = true := by rfl)
    (hline : (apos.endLine == cpos.line) = true := by rfl) (hs : starEach [e] X.env = (false, eval e X.env) :: starEach [] X.env := by rfl) (hplain : (backTo cpos (starEach [] X.env)).any (·.1) = false := by rfl)
    (hoe : leB oe ow = true := by rfl) (hsw : swapsWith (.Call (.Attribute o "append" apos) [e] [] cpos) none pos.line X.env = pure false := by rfl) :
    DS X T W fr oe ol ow (.Expr (.Call (.Attribute o "append" apos) [e] [] cpos) pos) (sApp i d) ow :=
  (ps_expr (pe_bm PySem.F.plainAttrs_list PySem.F.slot_list_append PySem.F.type_list_append mt_append ho ha hbase hfew hline hs hplain) hsw).imp fun D σ H w => by
    obtain ⟨H0, F0, env, F, l, w⟩ := tS_iff.mp w
    unfold sApp at w
    split at w
    · rename_i xs hx
      obtain ⟨a, o, e1, e2, e3, e4, e5, e6⟩ := l.own i _ hx (by simpa using hi)
      cases e3 with
      | @lst vs _ rs =>
        refine ⟨.ref a, e1, .inl ⟨rfl, vs, .of e2⟩, H0, F0, env, F, l, ?_⟩
        show wpR ((d env).bnd _) _ _
        unfold sWith at w
        cases hd : d env with
        | bad => rw [hd] at w; exact w.elim
        | err x => rw [hd] at w; exact err_up l (le_of hoe) w
        | ok v =>
          rw [hd] at w
          simp only at w
          by_cases hz : xs.length < sizeLine
          · rw [if_pos hz] at w
            rintro us H' F' x (_ | ⟨r, t⟩)
            cases t
            refine ⟨a, vs, _, rfl, rfl, x.h a _ e6 e2, by rw [rs.length]; exact hz, ?_⟩
            exact w σ _ F' ((l.grow x).put hx (by simpa using hi) e1 (.lst ((rs.mono x.f).append (.cons r .nil))))
          · rw [if_neg hz] at w; exact w.elim
    · exact w.elim
/-- a place that is never come to -/
theorem ds_never {st : Stmt} : DS X T W fr oe ol ow st (fun _ => .bad) ow' := ps_never.imp fun D σ H w => by
  obtain ⟨H0, F0, env, F, l, w⟩ := tS_iff.mp w
  exact w
theorem dss_never {sts : List Stmt} : DSs X T W fr oe ol ow sts (fun _ => .bad) ow' := pss_never.imp fun D σ H w => by
  obtain ⟨H0, F0, env, F, l, w⟩ := tS_iff.mp w
  exact w
end

/-! ### defs -/
def mkEnv (n : Nat) (ps : List PV) : PEnv := ps.map some ++ List.replicate (n - ps.length) none
/-- what a def gives: n names, k parameters -/
def runB (fr : Bool) (n k : Nat) (s : PEnv → SR) : List PV → Res PV := fun ps => if ps.length = k then
    match s (mkEnv n ps) with
    | .rt v => .ok v
    | .nx _ => if fr = true then .bad else .ok .non
    | .er x _ => .err x
    | _ => .bad
  else .bad
def spD (g : Str → Option Value) (K : PySem.W.Frag) (T : Addr → Prop) (fr : Bool) (d : List PV → Res PV) : Sp := fun vs H Q E => ∃ ps F, Wf T H F ∧ Reps g K F vs ps ∧
  wpR (d ps) (fun r => ∀ v H' F', Ext T H F H' F' → Rt g K fr H H' F' v r → Q v H') (fun x => ∀ cls dd H' F', Ext T H F H' F' → RepX g K F' cls dd x → E cls dd H')
theorem sta_start {g : Str → Option Value} {K : PySem.W.Frag} {T : Addr → Prop} {H F : Hp} {vs : List V} {ps : List PV} {N : List Str} (w : Wf T H F) (r : Reps g K F vs ps) : Sta g K T H F (List.replicate N.length false) (mkEnv N.length ps) (L2.start N vs) H F := by
  have nf : ∀ i : Nat, (List.replicate N.length false)[i]? ≠ some true := fun i h => by
    rw [List.getElem?_replicate] at h
    split at h <;> cases h
  refine ⟨.refl w, by unfold L2.start mkEnv; rw [List.length_append, List.length_append, List.length_map, List.length_map, List.length_replicate, List.length_replicate, r.length], fun i x e n => ?_, fun i x e n => absurd n (nf i), fun i j x y a h _ => absurd h (nf i)⟩
  unfold mkEnv at e
  have hi : i < ps.length := by
    by_cases hi : i < ps.length
    · exact hi
    · rw [List.getElem?_append_right (by simpa using hi), List.getElem?_replicate] at e
      split at e <;> cases e
  rw [List.getElem?_append_left (by simpa using hi), List.getElem?_map] at e
  have hx : ps[i]? = some x := by
    cases q : ps[i]? with
    | none => rw [q] at e; cases e
    | some z => rw [q] at e; cases e; rfl
  obtain ⟨v, hv, rv⟩ := r.get hx
  refine ⟨v, ?_, rv⟩
  unfold L2.start
  rw [List.getElem?_append_left (by rw [List.length_map, r.length]; exact hi), List.getElem?_map, hv]
  rfl
section
variable {P : Program} {w : World} {K : PySem.W.Frag} {mg : Str → Option Value} {base : Heap} {T : Addr → Prop}
/-- THE RULE for a def -/
theorem fn_ok {x qual : Str} {st : Stmt} {f : Addr} {fd : FuncData} {N ps : List Str} {k : Nat} {fr : Bool} {s : PEnv → SR} {ow' : List Bool} (F : Fun K x qual st f fd) (S : FnScope N ps (defScope st))
    (hbody : ∀ (cdv : Value) (A : Around) (outer : List PySem.Env) (s0 : Shared) (H : Hp) (E : XK), Room k (A.deeper (envOfC qual (defScope st) s0.heap.objs.size f cdv)) →
      DSs (cxOf (L2.CX P w) P w K mg base N qual (defScope st) f cdv A outer s0 H E) T (fun cls d _ H' => E cls d H') fr [] [] (List.replicate N.length false) (defBody st) s ow') :
    FnOk P w K mg base (L2.CX P w) (k + 1) f fd ps (spD mg K T fr (runB fr N.length ps.length s)) := by
  have hlen : ∀ vs H Q E, spD mg K T fr (runB fr N.length ps.length s) vs H Q E → vs.length = ps.length := fun vs H Q E ⟨qs, F, wf, r, w⟩ => by
    unfold runB at w
    by_cases h : qs.length = ps.length
    · rw [r.length]; exact h
    · rw [if_neg h] at w; exact w.elim
  refine F.okX S hlen (fun cdv A outer s0 H vs Q E hr h => ?_)
  refine ⟨_, hbody cdv A outer s0 H E hr, ?_⟩
  obtain ⟨qs, F, wf, r, w⟩ := h
  unfold runB at w
  by_cases hl : qs.length = ps.length
  · rw [if_pos hl] at w
    refine tS_iff.mpr ⟨H, F, mkEnv N.length qs, F, sta_start wf r, ?_⟩
    cases hs : s (mkEnv N.length qs) with
    | rt v => rw [hs] at w; exact fun u H' F' x rt => w u H' F' x rt
    | nx e =>
      rw [hs] at w
      cases fr with
      | true => exact w.elim
      | false => exact fun σ' H' F' l => w .non H' F' l.ext .non
    | er x e => rw [hs] at w; exact fun cls dd σ' H' F' l rx => w cls dd H' F' l.ext rx
    | bk e => rw [hs] at w; exact w.elim
    | ct e => rw [hs] at w; exact w.elim
    | bad => rw [hs] at w; exact w.elim
  · rw [if_neg hl] at w; exact w.elim
end

section
variable {X : Cx} {T : Addr → Prop} {W : WX} {ow : List Bool} {fr fr' : Bool} {e : Expr} {es : List Expr} {ds : PEnv → Res (List PV)} {pos p : Pos}
/-- f(e, ..) -/
def xUse (df : List PV → Res PV) (ds : PEnv → Res (List PV)) : PEnv → Res PV := fun env => (ds env).bnd df
theorem dx_use {k : Nat} {f : Addr} {fd : FuncData} {ps : List Str} {x : Str} {df : List PV → Res PV} (F : FnOk X.prog X.w X.K X.mg X.base (L2.CX X.prog X.w) k f fd ps (spD X.mg X.K T fr df)) (hr : Room k X.A) (hg : Gl X x) (hm : X.mg x = some (.ref f)) (hk : PySem.W.keepIn X.K (.ref f) = true) (hb : Binds X.K fd ps []) (tk : Takes X W)
    (ha : DA X T W ow (e :: es) ds) (hdb : (x == ("__debug__" : Str)) = false := by decide) (he : starEach (e :: es) X.env = (false, eval e X.env) :: starEach es X.env := by rfl) (hpl : (backTo pos (starEach es X.env)).any (·.1) = false := by rfl) :
    DX X T fr W ow (.Call (.Name x p) (e :: es) [] pos) (xUse df ds) :=
  (pe_callS F hr hg hm hk hb (fun σ => passAt tk σ) ha hdb he hpl).imp fun σ H Q ⟨H0, F0, env, F, l, w⟩ => by
    refine ⟨H0, F0, env, F, l, wpR_mono (wpR_bnd.mp w) (fun ps w1 vs H1 F1 e1 rs => ?_) fun _ z => z⟩
    exact ⟨ps, F1, e1.wf, rs, wpR_mono w1 (fun r q v H' F' x rt => q v H' F' (e1.trans x) (rt.back e1)) fun x q cls dd H' F' xx rx => q cls dd H' F' (e1.trans xx) rx⟩
end
end D
end

section
set_option Elab.async false
set_option linter.all false
set_option maxRecDepth 100000
set_option maxHeartbeats 1000000
namespace D
open PySem PySem.Spec PyProof.Rows L2

section
variable {g : Str → Option Value} {K : PySem.W.Frag} {T : Addr → Prop} {H F : Hp} {v : V} {x : PV}
/-! ### scalars -/
theorem RepT.int {i : Int} (h : RepT g K T H F v (.int i)) : v = .int i := by
  rcases h with h | ⟨a, o, rfl, h2, h3, h4⟩
  · cases h; rfl
  · cases h3
theorem RepT.bl {i : Bool} (h : RepT g K T H F v (.bl i)) : v = .bl i := by
  rcases h with h | ⟨a, o, rfl, h2, h3, h4⟩
  · cases h; rfl
  · cases h3
theorem RepT.str {i : Str} (h : RepT g K T H F v (.str i)) : v = .str i := by
  rcases h with h | ⟨a, o, rfl, h2, h3, h4⟩
  · cases h; rfl
  · cases h3
theorem RepT.non (h : RepT g K T H F v .non) : v = .non := by
  rcases h with h | ⟨a, o, rfl, h2, h3, h4⟩
  · cases h; rfl
  · cases h3
def isNonP : PV → Bool
  | .non => true
  | _ => false
theorem RepT.non_iff (h : RepT g K T H F v x) : decide (v = .non) = isNonP x := by
  rcases h with h | ⟨a, o, rfl, h2, h3, h4⟩
  · cases h <;> rfl
  · cases h3 <;> rfl
theorem RepT.lstH {xs : List PV} (w : Wf T H F) (h : RepT g K T H F v (.lst xs)) : ∃ a vs, v = .ref a ∧ H a = some (.lst vs) ∧ Reps g K F vs xs := by
  rcases h with h | ⟨a, o, rfl, h2, h3, h4⟩
  · cases h with
    | lst hs r => exact ⟨_, _, rfl, w.fh _ _ hs, r⟩
  · cases h3 with
    | lst r => exact ⟨_, _, rfl, h2, r⟩
theorem RepT.lst {xs : List PV} (w : Wf T H F) (h : RepT g K T H F v (.lst xs)) : ∃ a vs, v = .ref a ∧ SqL K H a vs ∧ Reps g K F vs xs := by
  obtain ⟨a, vs, e, h1, h2⟩ := h.lstH w
  exact ⟨a, vs, e, .of h1, h2⟩
theorem RepT.scr {ns : List Int} (w : Wf T H F) (h : RepT g K T H F v (.scr ns)) : ∃ a, v = .ref a ∧ SqL K H a (ns.map V.int) := by
  rcases h with h | ⟨a, o, rfl, h2, h3, h4⟩
  · cases h with
    | scr hs => exact ⟨_, rfl, w.fh.seq hs⟩
  · cases h3
theorem RepT.tup {xs : List PV} (w : Wf T H F) (h : RepT g K T H F v (.tup xs)) : ∃ a vs, v = .ref a ∧ SqT K H a vs ∧ Reps g K F vs xs := by
  rcases h with h | ⟨a, o, rfl, h2, h3, h4⟩
  · cases h with
    | tup hs r => exact ⟨_, _, rfl, Same.seqT w.fh hs, r⟩
  · cases h3

/-- ints -/
def fI (f : Int → Int → Option PV) : F2
  | .int i, .int j => f i j
  | _, _ => none
def fI0 (f : Int → Int → PV) : F2 := fI fun i j => some (f i j)
/-- a value without an object -/
def scalarP : PV → Bool
  | .non => true | .bl _ => true | .int _ => true | .str _ => true | _ => false
def sV : PV → V
  | .non => .non | .bl b => .bl b | .int i => .int i | .str s => .str s | _ => .non
theorem rep_sV {F : Hp} : ∀ {x : PV}, scalarP x = true → Rep g K F (sV x) x
  | .non, _ => .non
  | .bl b, _ => .bl b
  | .int b, _ => .int b
  | .str b, _ => .str b
theorem ops_I {f : Int → Int → V} {p : Int → Int → PV} {C : Int → Int → Prop} {c : Int → Int → Option PV} (hp : ∀ i j, f i j = sV (p i j) ∧ scalarP (p i j) = true) (hc : ∀ i j z, c i j = some z → C i j ∧ z = p i j) : OpS g K T false (rI C f) (fI c) := by
  intro H F x y p' q' z Q w rx ry hz hq
  unfold fI at hz
  split at hz
  · obtain ⟨h1, rfl⟩ := hc _ _ _ hz
    rw [rx.int, ry.int]
    refine ⟨_, _, rfl, rfl, h1, ?_⟩
    obtain ⟨e1, e2⟩ := hp ‹Int› ‹Int›
    rename_i i j
    obtain ⟨e1, e2⟩ := hp i j
    rw [e1]
    exact hq _ H F (.refl w) (rep_sV e2)
  · cases hz
theorem ops_I0 {f : Int → Int → V} {p : Int → Int → PV} (hp : ∀ i j, f i j = sV (p i j) ∧ scalarP (p i j) = true) : OpS g K T false (rI0 f) (fI0 p) := by
  intro H F x y p' q' z Q w rx ry hz hq
  unfold fI0 fI at hz
  split at hz
  · cases hz
    rw [rx.int, ry.int]
    rename_i i j
    refine ⟨i, j, rfl, rfl, ?_⟩
    obtain ⟨e1, e2⟩ := hp i j
    rw [e1]
    exact hq _ H F (.refl w) (rep_sV e2)
  · cases hz
def pySub : F2 := fI0 fun i j => .int (i - j)
theorem o_sub : OpS g K T false (rI0 fun i j => .int (i - j)) pySub := ops_I0 fun _ _ => ⟨rfl, rfl⟩
def pyLt : F2 := fI0 fun i j => .bl (decide (i < j))
def pyLe : F2 := fI0 fun i j => .bl (decide (i ≤ j))
def pyGt : F2 := fI0 fun i j => .bl (decide (j < i))
def pyGe : F2 := fI0 fun i j => .bl (decide (j ≤ i))
theorem o_lt : OpS g K T false (rI0 fun i j => .bl (decide (i < j))) pyLt := ops_I0 fun _ _ => ⟨rfl, rfl⟩
theorem o_le : OpS g K T false (rI0 fun i j => .bl (decide (i ≤ j))) pyLe := ops_I0 fun _ _ => ⟨rfl, rfl⟩
theorem o_gt : OpS g K T false (rI0 fun i j => .bl (decide (j < i))) pyGt := ops_I0 fun _ _ => ⟨rfl, rfl⟩
theorem o_ge : OpS g K T false (rI0 fun i j => .bl (decide (j ≤ i))) pyGe := ops_I0 fun _ _ => ⟨rfl, rfl⟩
def pyBand : F2 := fI0 fun i j => .int (Builtin.bitAnd i j)
def pyBor : F2 := fI0 fun i j => .int (Builtin.bitOr i j)
def pyBxor : F2 := fI0 fun i j => .int (Builtin.bitXor i j)
theorem o_band : OpS g K T false (rI0 fun i j => .int (Builtin.bitAnd i j)) pyBand := ops_I0 fun _ _ => ⟨rfl, rfl⟩
theorem o_bor : OpS g K T false (rI0 fun i j => .int (Builtin.bitOr i j)) pyBor := ops_I0 fun _ _ => ⟨rfl, rfl⟩
theorem o_bxor : OpS g K T false (rI0 fun i j => .int (Builtin.bitXor i j)) pyBxor := ops_I0 fun _ _ => ⟨rfl, rfl⟩
def small64 (i : Int) : Bool := decide (-(2 ^ 64) < i ∧ i < 2 ^ 64)
def pyMulI : F2 := fI fun i j => if small64 i = true ∨ small64 j = true then some (.int (i * j)) else none
theorem o_mul : OpS g K T false (rI CMul fun i j => .int (i * j)) pyMulI := ops_I (fun _ _ => ⟨rfl, rfl⟩) fun i j z h => by
  obtain ⟨hc, rfl⟩ := some_if h
  exact ⟨hc.imp (fun q => of_decide_eq_true q) fun q => of_decide_eq_true q, rfl⟩
def pyMod : F2 := fI fun i j => if 0 < j then some (.int (i % j)) else none
theorem o_mod : OpS g K T false (rI (fun _ j => 0 < j) fun i j => .int (i % j)) pyMod := ops_I (fun _ _ => ⟨rfl, rfl⟩) fun i j z h => by
  obtain ⟨hc, rfl⟩ := some_if h
  exact ⟨hc, rfl⟩
def pyFdiv : F2 := fI fun i j => if 0 < j ∧ j < 1073741824 then some (.int (i / j)) else none
theorem o_fdiv : OpS g K T false (rI CDiv fun i j => .int (i / j)) pyFdiv := ops_I (fun _ _ => ⟨rfl, rfl⟩) fun i j z h => by
  obtain ⟨hc, rfl⟩ := some_if h
  exact ⟨hc, rfl⟩
def pyPow : F2 := fI fun i j => if 0 ≤ j ∧ j ≤ 1000000 ∧ i.natAbs < 2 ^ 64 then some (.int (i ^ j.toNat)) else none
theorem o_pow : OpS g K T false (rI CPow fun i j => .int (i ^ j.toNat)) pyPow := ops_I (fun _ _ => ⟨rfl, rfl⟩) fun i j z h => by
  obtain ⟨hc, rfl⟩ := some_if h
  exact ⟨hc, rfl⟩
def pyShl : F2 := fI fun i j => if 0 ≤ j ∧ j ≤ 1000000 ∧ i.natAbs < 2 ^ 64 then some (.int (i * 2 ^ j.toNat)) else none
theorem o_shl : OpS g K T false (rI CPow fun i j => .int (i * 2 ^ j.toNat)) pyShl := ops_I (fun _ _ => ⟨rfl, rfl⟩) fun i j z h => by
  obtain ⟨hc, rfl⟩ := some_if h
  exact ⟨hc, rfl⟩
def pyShr : F2 := fI fun i j => if 0 ≤ j then some (.int (i / 2 ^ j.toNat)) else none
theorem o_shr : OpS g K T false (rI (fun _ j => 0 ≤ j) fun i j => .int (i / 2 ^ j.toNat)) pyShr := ops_I (fun _ _ => ⟨rfl, rfl⟩) fun i j z h => by
  obtain ⟨hc, rfl⟩ := some_if h
  exact ⟨hc, rfl⟩
/-- + of ints, of texts -/
def pyAdd : F2
  | .int i, .int j => some (.int (i + j))
  | .str a, .str b => if a.length + b.length ≤ sizeLine then some (.str (a ++ b)) else none
  | _, _ => none
def rAddIS : R2 := fun x y H Q => rI0 (fun i j => .int (i + j)) x y H Q ∨ (∃ i j, x = .str i ∧ y = .str j ∧ i.length + j.length ≤ sizeLine ∧ Q (.str (i ++ j)) H)
theorem op_addIS {X : Cx} : OpR X (binaryOp .Add) rAddIS := op_add.or op_add_str
theorem o_add : OpS g K T false rAddIS pyAdd := by
  intro H F x y p q z Q w rx ry hz hq
  unfold pyAdd at hz
  split at hz
  · cases hz
    rw [rx.int, ry.int]
    exact .inl ⟨_, _, rfl, rfl, hq _ H F (.refl w) (.int _)⟩
  · obtain ⟨hc, rfl⟩ := some_if hz
    rw [rx.str, ry.str]
    exact .inr ⟨_, _, rfl, rfl, hc, hq _ H F (.refl w) (.str _)⟩
  · cases hz
/-- lists -/
def pyCat : F2
  | .lst a, .lst b => if a.length + b.length ≤ sizeLine then some (.lst (a ++ b)) else none
  | _, _ => none
theorem fresh_lst {vs : List V} {ys : List PV} (w : Wf T H F) (r : Reps g K F vs ys) {p : Addr} (np : H p = none) : Ext T H F (upd H p (.lst vs)) F ∧ Rt g K true H (upd H p (.lst vs)) F (.ref p) (.lst ys) := by
  refine ⟨Ext.laid w np, p, _, rfl, upd_same, .lst r, np, ?_⟩
  cases q : F p with
  | none => rfl
  | some u => rw [w.fh p u q] at np; cases np
theorem o_cat : OpS g K T true rCat pyCat := by
  intro H F x y p q z Q w rx ry hz hq
  unfold pyCat at hz
  split at hz
  · obtain ⟨hc, rfl⟩ := some_if hz
    obtain ⟨a, vs, rfl, h1, r1⟩ := rx.lstH w
    obtain ⟨b, us, rfl, h2, r2⟩ := ry.lstH w
    refine ⟨a, b, vs, us, rfl, rfl, h1, h2, by rw [r1.length, r2.length]; exact hc, fun p np => ?_⟩
    obtain ⟨e, r⟩ := fresh_lst w (r1.append r2) np
    exact hq _ _ _ e r
  · cases hz
/-- a tuple -/
def pyNeg : PV → Option PV
  | .int i => some (.int (-i))
  | _ => none
theorem u_neg : UnS g K T false (rU fun i => .int (-i)) pyNeg := by
  intro H F x p z Q w rx hz hq
  unfold pyNeg at hz
  split at hz
  · cases hz
    rw [rx.int]
    exact ⟨_, rfl, hq _ H F (.refl w) (.int _)⟩
  · cases hz
def pyInv : PV → Option PV
  | .int i => some (.int (Builtin.bitNot i))
  | _ => none
theorem u_inv : UnS g K T false (rU fun i => .int (Builtin.bitNot i)) pyInv := by
  intro H F x p z Q w rx hz hq
  unfold pyInv at hz
  split at hz
  · cases hz
    rw [rx.int]
    exact ⟨_, rfl, hq _ H F (.refl w) (.int _)⟩
  · cases hz

/-! ### is None -/
def pyIsN : F2 := fun x y => match y with
  | .non => some (.bl (isNonP x))
  | _ => none
theorem o_isN : OpS g K T false (fun x y H Q => y = .non ∧ Q (.bl (decide (x = .non))) H) pyIsN := by
  intro H F x y p q z Q w rx ry hz hq
  unfold pyIsN at hz
  split at hz
  · cases hz
    refine ⟨ry.non, ?_⟩
    rw [rx.non_iff]
    exact hq _ H F (.refl w) (.bl _)
  · cases hz
def pyNotN : F2 := fun x y => match y with
  | .non => some (.bl (!isNonP x))
  | _ => none
theorem o_notN : OpS g K T false (fun x y H Q => y = .non ∧ Q (.bl (!decide (x = .non))) H) pyNotN := by
  intro H F x y p q z Q w rx ry hz hq
  unfold pyNotN at hz
  split at hz
  · cases hz
    refine ⟨ry.non, ?_⟩
    rw [rx.non_iff]
    exact hq _ H F (.refl w) (.bl _)
  · cases hz

/-! ### == of data -/
mutual
def toD : PV → Option PyData
  | .non => some .none
  | .bl b => some (.bool b)
  | .int i => some (.int i)
  | .str s => some (.str s)
  | .lst xs => (toDs xs).map .list
  | .tup xs => (toDs xs).map .tuple
  | .obj _ _ => none
  | .dct _ => none
  | .scr _ => none
def toDs : List PV → Option (List PyData)
  | [] => some []
  | x :: xs => (toD x).bind fun d => (toDs xs).map fun ds => d :: ds
end
mutual
theorem rep_D (w : Same F H) : ∀ (x : PV) {v : V} {d : PyData}, Rep g K F v x → toD x = some d → Dp K H v d
  | .non, _, _, .non, e => by cases e; exact .non
  | .bl b, _, _, .bl _, e => by cases e; exact .bl b
  | .int b, _, _, .int _, e => by cases e; exact .int b
  | .str b, _, _, .str _, e => by cases e; exact .str b
  | .lst xs, _, _, .lst h r, e => by
    unfold toD at e
    obtain ⟨ds, e1, e2⟩ := Option.map_eq_some_iff.mp e
    subst e2
    exact .lst (.of (w _ _ h)) (reps_D w xs r e1)
  | .tup xs, _, _, .tup h r, e => by
    unfold toD at e
    obtain ⟨ds, e1, e2⟩ := Option.map_eq_some_iff.mp e
    subst e2
    exact .tup (Same.seqT w h) (reps_D w xs r e1)
  | .obj _ _, _, _, _, e => by cases e
  | .dct _, _, _, _, e => by cases e
  | .scr _, _, _, _, e => by cases e
theorem reps_D (w : Same F H) : ∀ (xs : List PV) {vs : List V} {ds : List PyData}, Reps g K F vs xs → toDs xs = some ds → DpAll K H vs ds
  | [], _, _, .nil, e => by cases e; exact .nil
  | x :: xs, _, _, .cons r t, e => by
    unfold toDs at e
    obtain ⟨d, e1, e2⟩ := Option.bind_eq_some_iff.mp e
    obtain ⟨ds, e3, e4⟩ := Option.map_eq_some_iff.mp e2
    subst e4
    exact .cons (rep_D w x r e1) (reps_D w xs t e3)
end
theorem RepT.D (w : Wf T H F) {d : PyData} (h : RepT g K T H F v x) (e : toD x = some d) : Dp K H v d := by
  rcases h with h | ⟨a, o, rfl, h2, h3, h4⟩
  · exact rep_D w.fh x h e
  · cases h3 with
    | lst r =>
      unfold toD at e
      obtain ⟨ds, e1, e2⟩ := Option.map_eq_some_iff.mp e
      subst e2
      exact .lst (.of h2) (reps_D w.fh _ r e1)
    | obj _ _ => cases e
    | dct _ => cases e
def pyEq : F2 := fun x y => (toD x).bind fun d => (toD y).bind fun e => if SeqAt.shaped d = true ∧ SeqAt.shaped e = true then some (.bl (PyData.eqv d e)) else none
def pyNe : F2 := fun x y => (toD x).bind fun d => (toD y).bind fun e => if SeqAt.shaped d = true ∧ SeqAt.shaped e = true then some (.bl (!PyData.eqv d e)) else none
theorem o_eq : OpS g K T false (rEqD K) pyEq := by
  intro H F x y p q z Q w rx ry hz hq
  unfold pyEq at hz
  obtain ⟨d, e1, hz⟩ := Option.bind_eq_some_iff.mp hz
  obtain ⟨e, e2, hz⟩ := Option.bind_eq_some_iff.mp hz
  obtain ⟨hc, rfl⟩ := some_if hz
  exact ⟨d, e, rx.D w e1, ry.D w e2, hc.1, hc.2, hq _ H F (.refl w) (.bl _)⟩
theorem o_ne : OpS g K T false (rNeD K) pyNe := by
  intro H F x y p q z Q w rx ry hz hq
  unfold pyNe at hz
  obtain ⟨d, e1, hz⟩ := Option.bind_eq_some_iff.mp hz
  obtain ⟨e, e2, hz⟩ := Option.bind_eq_some_iff.mp hz
  obtain ⟨hc, rfl⟩ := some_if hz
  exact ⟨d, e, rx.D w e1, ry.D w e2, hc.1, hc.2, hq _ H F (.refl w) (.bl _)⟩
end
end D
end

section
set_option Elab.async false
set_option linter.all false
set_option maxRecDepth 100000
set_option maxHeartbeats 1000000
namespace D
open PySem PySem.Spec PyProof.Rows L2

section
variable {g : Str → Option Value} {K : PySem.W.Frag} {T : Addr → Prop} {H F : Hp} {v : V} {x : PV}
/-! ### len -/
def pyLen : List PV → Option PV
  | [.str s] => if s.length ≤ sizeLine then some (.int s.length) else none
  | [.lst xs] => some (.int xs.length)
  | [.tup xs] => some (.int xs.length)
  | [.scr xs] => some (.int xs.length)
  | _ => none
theorem c_len : CallS g K T false (fun xs H Q => ∃ x n, xs = [x] ∧ LenV K x H n ∧ Q (.int n) H) pyLen := by
  intro H F xs ps z Q w rs hz hq
  unfold pyLen at hz
  split at hz
  · obtain ⟨hc, rfl⟩ := some_if hz
    rcases rs with _ | ⟨r, _ | _⟩
    rw [r.str]
    exact ⟨_, _, rfl, ⟨hc, rfl⟩, hq _ H F (.refl w) (.int _)⟩
  · cases hz
    rcases rs with _ | ⟨r, _ | _⟩
    obtain ⟨a, vs, rfl, hs, rr⟩ := r.lst w
    exact ⟨_, _, rfl, .inl ⟨vs, hs, rr.length.symm⟩, hq _ H F (.refl w) (.int _)⟩
  · cases hz
    rcases rs with _ | ⟨r, _ | _⟩
    obtain ⟨a, vs, rfl, hs, rr⟩ := r.tup w
    exact ⟨_, _, rfl, .inr ⟨vs, hs, rr.length.symm⟩, hq _ H F (.refl w) (.int _)⟩
  · cases hz
    rcases rs with _ | ⟨r, _ | _⟩
    obtain ⟨a, rfl, hs⟩ := r.scr w
    exact ⟨_, _, rfl, .inl ⟨_, hs, (List.length_map ..).symm⟩, hq _ H F (.refl w) (.int _)⟩
  · cases hz
/-! ### subscripts -/
theorem atI_rep {F : Hp} {vs : List V} {xs : List PV} {i : Int} {z : PV} (r : Reps g K F vs xs) (h : atI xs i = some z) : ∃ v, atI vs i = some v ∧ Rep g K F v z := by
  unfold atI at h ⊢
  rw [r.length]
  cases e : ixN xs.length i with
  | none => rw [e] at h; cases h
  | some j =>
    rw [e] at h
    exact r.get h
def pyIx : F2
  | .lst xs, .int i => atI xs i
  | .tup xs, .int i => atI xs i
  | .scr ns, .int i => (atI ns i).map .int
  | .str s, .int i => if s.length ≤ sizeLine then (atI s.cps.toList i).map fun c => .str ⟨#[c]⟩ else none
  | _, _ => none
theorem o_ix : OpS g K T false (rIx K) pyIx := by
  intro H F x y p q z Q w rx ry hz hq
  unfold pyIx at hz
  split at hz
  · obtain ⟨a, vs, rfl, hs, rr⟩ := rx.lst w
    obtain ⟨u, hu, ru⟩ := atI_rep rr hz
    rw [ry.int]
    exact .inl ⟨a, vs, _, u, rfl, rfl, hs, hu, hq u H F (.refl w) ru⟩
  · obtain ⟨a, vs, rfl, hs, rr⟩ := rx.tup w
    obtain ⟨u, hu, ru⟩ := atI_rep rr hz
    rw [ry.int]
    exact .inr (.inl ⟨a, vs, _, u, rfl, rfl, hs, hu, hq u H F (.refl w) ru⟩)
  · obtain ⟨n, hn, rfl⟩ := Option.map_eq_some_iff.mp hz
    obtain ⟨a, rfl, hs⟩ := rx.scr w
    rw [ry.int]
    refine .inl ⟨a, _, _, .int n, rfl, rfl, hs, ?_, hq _ H F (.refl w) (.int n)⟩
    unfold atI at hn ⊢
    rw [List.length_map]
    cases e : ixN (List.length _) _ with
    | none => rw [e] at hn; cases hn
    | some j => rw [e] at hn; simp only [Option.bind_some] at hn ⊢; rw [List.getElem?_map, hn]; rfl
  · rename_i s i
    by_cases hc : s.length ≤ sizeLine
    · rw [if_pos hc] at hz
      obtain ⟨c, hc2, rfl⟩ := Option.map_eq_some_iff.mp hz
      rw [rx.str, ry.int]
      exact .inr (.inr ⟨s, i, c, rfl, rfl, hc, hc2, hq _ H F (.refl w) (.str _)⟩)
    · rw [if_neg hc] at hz; cases hz
  · cases hz
/-! ### slices -/
def cutP (xs : List PV) (lo hi : Option Int) : List PV := (xs.drop (HT.sIx xs.length 0 lo)).take (HT.sIx xs.length xs.length hi - HT.sIx xs.length 0 lo)
theorem cut_rep {F : Hp} {vs : List V} {xs : List PV} {lo hi : Option Int} (r : Reps g K F vs xs) : Reps g K F (cutV vs lo hi) (cutP xs lo hi) := by
  unfold cutV cutP
  rw [r.length]
  exact (r.drop _).take _
def pySl : PV → Option Int → Option Int → Option PV
  | .str s, lo, hi => if s.length ≤ sizeLine then some (.str (cutS s lo hi)) else none
  | .tup xs, lo, hi => some (.tup (cutP xs lo hi))
  | _, _, _ => none
theorem s_sl : SlS g K T false (fun x lo hi H Q => rSlS x lo hi H Q ∨ rSlA K x lo hi H Q) pySl := by
  intro H F x lo hi p z Q w rx hz hq
  unfold pySl at hz
  split at hz
  · obtain ⟨hc, rfl⟩ := some_if hz
    rw [rx.str]
    exact .inl ⟨_, rfl, hc, hq _ H F (.refl w) (.str _)⟩
  · cases hz
    rename_i xs
    refine .inr ?_
    rcases rx with rx | ⟨a, o, rfl, h2, h3, h4⟩
    · cases rx with
      | @tup a vs _ hs rr =>
        refine ⟨a, vs, rfl, Same.seqT w.fh hs, fun ⟨e1, e2⟩ => ?_, fun ne p np => ?_⟩
        · refine hq _ H F (.refl w) (.tup hs ?_)
          have : cutP xs lo hi = xs := by
            unfold cutP
            rw [← rr.length, e1, e2, List.drop_zero, Nat.sub_zero, rr.length, List.take_length]
          rw [this]; exact rr
        · have x2 := Ext.alloc w (o := .tup (cutV vs lo hi)) np
          exact hq _ _ _ x2 (.tup (.of upd_same) ((cut_rep rr).mono x2.f))
    · cases h3
  · cases hz
def pySlL : PV → Option Int → Option Int → Option PV
  | .lst xs, lo, hi => some (.lst (cutP xs lo hi))
  | _, _, _ => none
theorem s_slL : SlS g K T true (rSlL K) pySlL := by
  intro H F x lo hi p z Q w rx hz hq
  unfold pySlL at hz
  split at hz
  · cases hz
    obtain ⟨a, vs, rfl, hs, rr⟩ := rx.lst w
    refine ⟨a, vs, rfl, hs, fun p np => ?_⟩
    obtain ⟨e, r⟩ := fresh_lst w (cut_rep (lo := lo) (hi := hi) rr) np
    exact hq _ _ _ e r
  · cases hz
/-! ### conversions -/
def pyInt : List PV → Option PV
  | [.int i] => some (.int i)
  | [.bl b] => some (.int (if b then 1 else 0))
  | [.str s] => if s.length ≤ 640 then (PySem.intText? s).map .int else none
  | _ => none
def rIntAll : List V → Hp → VK → Prop := fun xs H Q => ((∃ i, xs = [.int i] ∧ Q (.int i) H) ∨ ∃ k, xs = [.bl k] ∧ Q (.int (if k then 1 else 0)) H) ∨ ∃ a n, xs = [.str a] ∧ PySem.intText? a = some n ∧ a.length ≤ 640 ∧ Q (.int n) H
theorem call_intAll {X : Cx} : CallR X (.type "int") rIntAll := call_int1.or call_int_str
theorem c_int : CallS g K T false rIntAll pyInt := by
  intro H F xs ps z Q w rs hz hq
  unfold pyInt at hz
  split at hz
  · cases hz
    rcases rs with _ | ⟨r, _ | _⟩
    rw [r.int]
    exact .inl (.inl ⟨_, rfl, hq _ H F (.refl w) (.int _)⟩)
  · cases hz
    rcases rs with _ | ⟨r, _ | _⟩
    rw [r.bl]
    exact .inl (.inr ⟨_, rfl, hq _ H F (.refl w) (.int _)⟩)
  · rename_i s
    rcases rs with _ | ⟨r, _ | _⟩
    by_cases hc : s.length ≤ 640
    · rw [if_pos hc] at hz
      obtain ⟨n, hn, rfl⟩ := Option.map_eq_some_iff.mp hz
      rw [r.str]
      exact .inr ⟨_, n, rfl, hn, hc, hq _ H F (.refl w) (.int _)⟩
    · rw [if_neg hc] at hz; cases hz
  · cases hz
def pyStr : List PV → Option PV
  | [.int i] => if i.natAbs.log2 < 1920 then some (.str (toString i)) else none
  | _ => none
theorem c_str : CallS g K T false (fun xs H Q => ∃ i, xs = [.int i] ∧ i.natAbs.log2 < 1920 ∧ Q (.str (toString i)) H) pyStr := by
  intro H F xs ps z Q w rs hz hq
  unfold pyStr at hz
  split at hz
  · obtain ⟨hc, rfl⟩ := some_if hz
    rcases rs with _ | ⟨r, _ | _⟩
    rw [r.int]
    exact ⟨_, rfl, hc, hq _ H F (.refl w) (.str _)⟩
  · cases hz
def pyTuple : List PV → Option PV
  | [.lst xs] => some (.tup xs)
  | [.tup xs] => some (.tup xs)
  | _ => none
theorem c_tuple : CallS g K T false (fun xs H Q => ∃ p ys, xs = [.ref p] ∧ ((SqL K H p ys ∧ ∀ l, H l = none → Q (.ref l) (upd H l (.tup ys))) ∨ (SqT K H p ys ∧ Q (.ref p) H))) pyTuple := by
  intro H F xs ps z Q w rs hz hq
  unfold pyTuple at hz
  split at hz
  · cases hz
    rcases rs with _ | ⟨r, _ | _⟩
    obtain ⟨a, vs, rfl, hs, rr⟩ := r.lst w
    refine ⟨a, vs, rfl, .inl ⟨hs, fun l nl => ?_⟩⟩
    have x2 := Ext.alloc w (o := .tup vs) nl
    exact hq _ _ _ x2 (.tup (.of upd_same) (rr.mono x2.f))
  · cases hz
    rcases rs with _ | ⟨r, _ | _⟩
    rcases r with r | ⟨a, o, rfl, h2, h3, h4⟩
    · cases r with
      | @tup a vs _ hs rr => exact ⟨a, vs, rfl, .inr ⟨Same.seqT w.fh hs, hq _ H F (.refl w) (.tup hs rr)⟩⟩
    · cases h3
  · cases hz
def pyList : List PV → Option PV
  | [.lst xs] => some (.lst xs)
  | [.tup xs] => some (.lst xs)
  | _ => none
theorem c_list : CallS g K T true (fun xs H Q => ∃ p ys, xs = [.ref p] ∧ (SqL K H p ys ∨ SqT K H p ys) ∧ ∀ l, H l = none → Q (.ref l) (upd H l (.lst ys))) pyList := by
  intro H F xs ps z Q w rs hz hq
  unfold pyList at hz
  split at hz
  · cases hz
    rcases rs with _ | ⟨r, _ | _⟩
    obtain ⟨a, vs, rfl, hs, rr⟩ := r.lst w
    refine ⟨a, vs, rfl, .inl hs, fun l nl => ?_⟩
    obtain ⟨e, r⟩ := fresh_lst w rr nl
    exact hq _ _ _ e r
  · cases hz
    rcases rs with _ | ⟨r, _ | _⟩
    obtain ⟨a, vs, rfl, hs, rr⟩ := r.tup w
    refine ⟨a, vs, rfl, .inr hs, fun l nl => ?_⟩
    obtain ⟨e, r⟩ := fresh_lst w rr nl
    exact hq _ _ _ e r
  · cases hz
/-! ### join -/
def strsOf : List PV → Option (List Str)
  | [] => some []
  | .str s :: r => (strsOf r).map (s :: ·)
  | _ => none
theorem strs_rep {F : Hp} : ∀ {vs : List V} {xs : List PV} {ys : List Str}, Reps g K F vs xs → strsOf xs = some ys → vs = ys.map V.str
  | _, _, _, .nil, e => by cases e; rfl
  | _, _, _, .cons (x := x) r t, e => by
    cases x with
    | str s =>
      obtain ⟨ys, e1, rfl⟩ := Option.map_eq_some_iff.mp (show (strsOf _).map (s :: ·) = some _ from e)
      cases r
      rw [strs_rep t e1]; rfl
    | _ => cases e
def pyJoin : PV → List PV → Option PV
  | .str a, [.lst xs] => (strsOf xs).bind fun ys => if (ys.map (·.length)).sum + ys.length * a.length ≤ 16777216 then some (.str (Txt.join a ys)) else none
  | .str a, [.tup xs] => (strsOf xs).bind fun ys => if (ys.map (·.length)).sum + ys.length * a.length ≤ 16777216 then some (.str (Txt.join a ys)) else none
  | _, _ => none
theorem m_join : MethS g K T false "str" (fun x xs H Q => ∃ a p, ∃ ys : List Str, x = .str a ∧ xs = [.ref p] ∧ (SqL K H p (ys.map V.str) ∨ SqT K H p (ys.map V.str)) ∧
    (ys.map (·.length)).sum + ys.length * a.length ≤ 16777216 ∧ Q (.str (Txt.join a ys)) H) pyJoin := by
  intro H F x xs p ps z Q w rx rs hz hq
  unfold pyJoin at hz
  split at hz
  · obtain ⟨ys, h1, h2⟩ := Option.bind_eq_some_iff.mp hz
    obtain ⟨hc, rfl⟩ := some_if h2
    rcases rs with _ | ⟨r, _ | _⟩
    obtain ⟨a, vs, rfl, hs, rr⟩ := r.lst w
    rw [rx.str]
    rw [strs_rep rr h1] at hs
    exact ⟨_, a, ys, rfl, rfl, .inl hs, hc, hq _ H F (.refl w) (.str _)⟩
  · obtain ⟨ys, h1, h2⟩ := Option.bind_eq_some_iff.mp hz
    obtain ⟨hc, rfl⟩ := some_if h2
    rcases rs with _ | ⟨r, _ | _⟩
    obtain ⟨a, vs, rfl, hs, rr⟩ := r.tup w
    rw [rx.str]
    rw [strs_rep rr h1] at hs
    exact ⟨_, a, ys, rfl, rfl, .inr hs, hc, hq _ H F (.refl w) (.str _)⟩
  · cases hz
/-! ### in -/
def pyInSign : F2
  | .str a, .str z => if a.cps.size = 1 then some (.bl (decide (a.cps.getD 0 0 ∈ z.cps.toList))) else none
  | _, _ => none
theorem o_inSign : OpS g K T false (fun x y H Q => ∃ (c : Nat) (z : Str), x = .str ⟨#[c]⟩ ∧ y = .str z ∧ Q (.bl (decide (c ∈ z.cps.toList))) H) pyInSign := by
  intro H F x y p q z Q w rx ry hz hq
  unfold pyInSign at hz
  split at hz
  · obtain ⟨hc, rfl⟩ := some_if hz
    rename_i a s
    rw [rx.str, ry.str]
    refine ⟨a.cps.getD 0 0, s, ?_, rfl, hq _ H F (.refl w) (.bl _)⟩
    congr 1
    obtain ⟨⟨l⟩⟩ := a
    match l, hc with
    | [c], _ => rfl
  · cases hz
end
end D
end

section
set_option Elab.async false
set_option linter.all false
set_option maxRecDepth 100000
set_option maxHeartbeats 1000000
namespace D
open PySem PySem.Spec PyProof.Rows L2

/-! ### expressions that change owned objects (the box of a law) -/
abbrev Mx (α : Type) := PEnv → Option (α × PEnv)
section
variable (g : Str → Option Value) (K : PySem.W.Frag) (T : Addr → Prop)
def tM (ow : List Bool) (d : Mx PV) : TE := fun σ H Q => ∃ H0 F0 env F r env', Sta g K T H0 F0 ow env σ H F ∧ d env = some (r, env') ∧
  ∀ v H' F', Sta g K T H0 F0 ow env' σ H' F' → Same F F' → Rep g K F' v r → Q v H'
def tMT (ow : List Bool) (d : Mx Bool) : TT := fun σ H Q => ∃ H0 F0 env F r env', Sta g K T H0 F0 ow env σ H F ∧ d env = some (r, env') ∧
  ∀ H' F', Sta g K T H0 F0 ow env' σ H' F' → Same F F' → Q r H'
def tMA (ow : List Bool) (d : Mx (List PV)) : TA := fun σ H Q => ∃ H0 F0 env F r env', Sta g K T H0 F0 ow env σ H F ∧ d env = some (r, env') ∧
  ∀ vs H' F', Sta g K T H0 F0 ow env' σ H' F' → Same F F' → Reps g K F' vs r → Q vs H'
end
abbrev DM (X : Cx) (T : Addr → Prop) (ow : List Bool) (e : Expr) (d : Mx PV) : Prop := PE X e (tM X.mg X.K T ow d)
abbrev DMA (X : Cx) (T : Addr → Prop) (ow : List Bool) (e : List Expr) (d : Mx (List PV)) : Prop := PA X e (tMA X.mg X.K T ow d)
abbrev DMT (X : Cx) (T : Addr → Prop) (ow : List Bool) (e : Expr) (d : Mx Bool) : Prop := PT X e (tMT X.mg X.K T ow d)

section
variable {X : Cx} {T : Addr → Prop} {W : WX} {oe ol ow ow' ow1 ow2 : List Bool} {fr st : Bool} {tg e a b c : Expr} {es : List Expr} {rest s1 s2 : List Stmt} {d : PEnv → Res PV} {dm da db : Mx PV} {dms : Mx (List PV)} {pos : Pos}
def mOf (d : PEnv → Res PV) : Mx PV := fun env => match d env with
  | .ok p => some (p, env)
  | _ => none
theorem dm_of (h : DX X T fr W0 ow e d) : DM X T ow e (mOf d) := (DX.de h).imp fun σ H Q ⟨H0, F0, env, F, r, env', l, hd, q⟩ => by
  unfold mOf at hd
  cases h : d env with
  | ok p =>
    rw [h] at hd
    cases hd
    refine ⟨H0, F0, env, F, l, ?_⟩
    rw [h]
    exact fun v H' F' x rt => q v H' F' (l.grow x) x.f rt
  | err _ => rw [h] at hd; cases hd
  | bad => rw [h] at hd; cases hd
/-- W is only asked where something is raised -/
theorem DX.quiet {W' : WX} (h : ∀ W, DX X T fr W ow e d) : DX X T fr W' ow e d := h W'
def mNil : Mx (List PV) := fun env => some ([], env)
def mCons (d : Mx PV) (ds : Mx (List PV)) : Mx (List PV) := fun env => (d env).bind fun p => (ds p.2).bind fun q => some (p.1 :: q.1, q.2)
theorem dma_nil : DMA X T ow [] mNil := pa_nil.imp fun σ H Q ⟨H0, F0, env, F, r, env', l, hd, q⟩ => by
  cases hd
  exact q [] H F l (Same.refl _) .nil
theorem dma_cons (h : DM X T ow e dm) (h2 : DMA X T ow es dms) (hs : starEach (e :: es) X.env = (false, eval e X.env) :: starEach es X.env := by rfl) : DMA X T ow (e :: es) (mCons dm dms) :=
  (pa_cons h h2 hs).imp fun σ H Q ⟨H0, F0, env, F, r, env', l, hd, q⟩ => by
    obtain ⟨⟨p, e1⟩, h1, hd⟩ := Option.bind_eq_some_iff.mp hd
    obtain ⟨⟨ps, e2⟩, h2, hd⟩ := Option.bind_eq_some_iff.mp hd
    cases hd
    refine ⟨H0, F0, env, F, p, e1, l, h1, fun v H1 F1 l1 s1 r1 => ?_⟩
    exact ⟨H0, F0, e1, F1, ps, _, l1, h2, fun vs H2 F2 l2 s2 r2 => q _ H2 F2 l2 (s1.trans s2) (.cons (r1.mono s2) r2)⟩
def mLst (d : Mx (List PV)) : Mx PV := fun env => (d env).bind fun p => if p.1.length ≤ sizeLine then some (.lst p.1, p.2) else none
def mTup (d : Mx (List PV)) : Mx PV := fun env => (d env).bind fun p => if p.1.length ≤ sizeLine then some (.tup p.1, p.2) else none
theorem Wf.none {H F : Hp} (w : Wf T H F) {p : Addr} (h : H p = none) : F p = none := by
  cases q : F p with
  | none => rfl
  | some u => rw [w.fh p u q] at h; cases h
theorem dm_lst (h : DMA X T ow es dms) : DM X T ow (.List es pos) (mLst dms) := (pe_lst h).imp fun σ H Q ⟨H0, F0, env, F, r, env', l, hd, q⟩ => by
  obtain ⟨⟨ps, e1⟩, h1, hd⟩ := Option.bind_eq_some_iff.mp hd
  obtain ⟨hc, hd⟩ := some_if hd
  cases hd
  refine ⟨H0, F0, env, F, ps, _, l, h1, fun vs H1 F1 l1 s1 r1 => ⟨by rw [r1.length]; exact hc, fun p np => ?_⟩⟩
  have x := Ext.alloc l1.wf (o := .lst vs) np
  exact q _ _ _ (l1.grow x) (s1.trans x.f) (.lst upd_same (r1.mono x.f))
theorem dm_tup {k} (h : DMA X T ow es dms) : DM X T ow (.Tuple es k pos) (mTup dms) := (pe_tup h).imp fun σ H Q ⟨H0, F0, env, F, r, env', l, hd, q⟩ => by
  obtain ⟨⟨ps, e1⟩, h1, hd⟩ := Option.bind_eq_some_iff.mp hd
  obtain ⟨hc, hd⟩ := some_if hd
  cases hd
  refine ⟨H0, F0, env, F, ps, _, l, h1, fun vs H1 F1 l1 s1 r1 => ⟨by rw [r1.length]; exact hc, fun p np => ?_⟩⟩
  have x := Ext.alloc l1.wf (o := .tup vs) np
  exact q _ _ _ (l1.grow x) (s1.trans x.f) (.tup (.of upd_same) (r1.mono x.f))
def mOp (f : F2) (da db : Mx PV) : Mx PV := fun env => (da env).bind fun p => (db p.2).bind fun q => (f p.1 q.1).map fun z => (z, q.2)
theorem mtwo {f : F2} {r : R2} (hf : OpS X.mg X.K T fr r f) {σ : L2.St} {H : Hp} {Q : VK} (w : tM X.mg X.K T ow (mOp f da db) σ H Q) : tOp r (tM X.mg X.K T ow da) (tM X.mg X.K T ow db) σ H Q := by
  obtain ⟨H0, F0, env, F, rr, env', l, hd, q⟩ := w
  obtain ⟨⟨p1, e1⟩, h1, hd⟩ := Option.bind_eq_some_iff.mp hd
  obtain ⟨⟨p2, e2⟩, h2, hd⟩ := Option.bind_eq_some_iff.mp hd
  obtain ⟨z, hz, hd⟩ := Option.map_eq_some_iff.mp hd
  cases hd
  refine ⟨H0, F0, env, F, p1, e1, l, h1, fun x H1 F1 l1 s1 r1 => ⟨H0, F0, e1, F1, p2, _, l1, h2, fun y H2 F2 l2 s2 r2 => ?_⟩⟩
  refine hf H2 F2 x y p1 p2 _ Q l2.wf (.inl (r1.mono s2)) (.inl r2) hz fun v H3 F3 x3 rt => ?_
  obtain ⟨F4, x4, s4, r4⟩ := rt.frozen x3
  exact q v H3 F4 (l2.grow x4) ((s1.trans s2).trans x4.f) r4
theorem dm_op {op : Operator} {f : F2} {r : R2} (ho : OpR X (binaryOp op) r) (hf : OpS X.mg X.K T fr r f) (ha : DM X T ow a da) (hb : DM X T ow b db) : DM X T ow (.BinOp a op b pos) (mOp f da db) :=
  (pe_op ho ha hb).imp fun _ _ _ w => mtwo hf w
theorem dm_cmp {op : CmpOp} {f : F2} {r : R2} (ho : OpR X (compareOp op) r) (hf : OpS X.mg X.K T fr r f) (ha : DM X T ow a da) (hb : DM X T ow b db) (hm : behindInMarks op b = false) : DM X T ow (.Compare a [op] [b] pos) (mOp f da db) :=
  (pe_cmpR ho ha hb hm).imp fun _ _ _ w => mtwo hf w
theorem dm_ix {f : F2} {r : R2} (hr : IxR X r) (hf : OpS X.mg X.K T fr r f) (ha : DM X T ow a da) (hb : DM X T ow b db) (hs : PlainIx b) : DM X T ow (.Subscript a b pos) (mOp f da db) :=
  (pe_ix hr ha hb hs).imp fun _ _ _ w => mtwo hf w
def mBool (d : Mx PV) : Mx Bool := fun env => (d env).bind fun p => match p.1 with
  | .bl b => some (b, p.2)
  | _ => none
theorem dmt_cmp {op : CmpOp} {f : F2} {r : R2} (ho : OpR X (compareOp op) r) (hf : OpS X.mg X.K T false r f) (ha : DM X T ow a da) (hb : DM X T ow b db) (hm : behindInMarks op b = false) : DMT X T ow (.Compare a [op] [b] pos) (mBool (mOp f da db)) :=
  (pt_cmpR ho ha hb hm).imp fun σ H Q ⟨H0, F0, env, F, rr, env', l, hd, q⟩ => by
    obtain ⟨⟨z, e1⟩, h1, hd⟩ := Option.bind_eq_some_iff.mp hd
    cases z with
    | bl bb =>
      cases hd
      refine mtwo (ow := ow) hf ⟨H0, F0, env, F, _, _, l, h1, fun v H' F' l' s r => ?_⟩
      cases r
      exact ⟨_, rfl, q H' F' l' s⟩
    | _ => cases hd
def mCall (f : List PV → Option PV) (ds : Mx (List PV)) : Mx PV := fun env => (ds env).bind fun p => (f p.1).map fun z => (z, p.2)
theorem Reps.Ts {g : Str → Option Value} {K : PySem.W.Frag} {H F : Hp} : ∀ {vs : List V} {xs : List PV}, Reps g K F vs xs → RepTs g K T H F vs xs
  | _, _, .nil => .nil
  | _, _, .cons r t => .cons (.inl r) (Reps.Ts t)
theorem mcalled {f : List PV → Option PV} {r : List V → Hp → VK → Prop} (hf : CallS X.mg X.K T fr r f) {σ : L2.St} {H : Hp} {Q : VK} (w : tM X.mg X.K T ow (mCall f dms) σ H Q) : tCB r (tMA X.mg X.K T ow dms) σ H Q := by
  obtain ⟨H0, F0, env, F, rr, env', l, hd, q⟩ := w
  obtain ⟨⟨ps, e1⟩, h1, hd⟩ := Option.bind_eq_some_iff.mp hd
  obtain ⟨z, hz, hd⟩ := Option.map_eq_some_iff.mp hd
  cases hd
  refine ⟨H0, F0, env, F, ps, _, l, h1, fun vs H1 F1 l1 s1 r1 => ?_⟩
  refine hf H1 F1 vs ps _ Q l1.wf r1.Ts hz fun v H3 F3 x3 rt => ?_
  obtain ⟨F4, x4, s4, r4⟩ := rt.frozen x3
  exact q v H3 F4 (l1.grow x4) (s1.trans x4.f) r4
theorem dm_callB {id : String} {x : Str} {p : Pos} {f : List PV → Option PV} {r : List V → Hp → VK → Prop} (hc : CallR X (.builtin id) r) (hf : CallS X.mg X.K T fr r f) (hg : Gl X x) (hm : X.mg x = none) (hv : bootBuiltins x = some (.builtin id)) (ha : DMA X T ow (e :: es) dms) (hn : x ≠ "__name__" := by decide) (hdb : (x == ("__debug__" : Str)) = false := by decide)
    (he : starEach (e :: es) X.env = (false, eval e X.env) :: starEach es X.env := by rfl) (hpl : (backTo pos (starEach es X.env)).any (·.1) = false := by rfl) : DM X T ow (.Call (.Name x p) (e :: es) [] pos) (mCall f dms) :=
  (pe_callB hc hg hm hv ha hn hdb he hpl).imp fun _ _ _ w => mcalled hf w
theorem dm_callTy {id : String} {x : Str} {p : Pos} {f : List PV → Option PV} {r : List V → Hp → VK → Prop} (hc : CallR X (.type id) r) (hf : CallS X.mg X.K T fr r f) (hg : Gl X x) (hm : X.mg x = none) (hv : bootBuiltins x = some (.type id)) (ha : DMA X T ow (e :: es) dms) (hn : x ≠ "__name__" := by decide) (hdb : (x == ("__debug__" : Str)) = false := by decide)
    (he : starEach (e :: es) X.env = (false, eval e X.env) :: starEach es X.env := by rfl) (hpl : (backTo pos (starEach es X.env)).any (·.1) = false := by rfl) : DM X T ow (.Call (.Name x p) (e :: es) [] pos) (mCall f dms) :=
  (pe_callTy hc hg hm hv ha hn hdb he hpl).imp fun _ _ _ w => mcalled hf w
/-- f(e, ..), a def of one's own that raises nothing -/
def mUse (df : List PV → Res PV) (ds : Mx (List PV)) : Mx PV := fun env => (ds env).bind fun p => match df p.1 with
  | .ok z => some (z, p.2)
  | _ => none
theorem dm_use {k : Nat} {f : Addr} {fd : FuncData} {ps : List Str} {x : Str} {p : Pos} {df : List PV → Res PV} (F : FnOk X.prog X.w X.K X.mg X.base (L2.CX X.prog X.w) k f fd ps (spD X.mg X.K T fr df)) (hr : Room k X.A) (hg : Gl X x) (hm : X.mg x = some (.ref f)) (hk : PySem.W.keepIn X.K (.ref f) = true) (hb : Binds X.K fd ps [])
    (ha : DMA X T ow (e :: es) dms) (hdb : (x == ("__debug__" : Str)) = false := by decide) (he : starEach (e :: es) X.env = (false, eval e X.env) :: starEach es X.env := by rfl) (hpl : (backTo pos (starEach es X.env)).any (·.1) = false := by rfl) :
    DM X T ow (.Call (.Name x p) (e :: es) [] pos) (mUse df dms) :=
  (pe_callS (E := WE W0) F hr hg hm hk hb (fun σ => fun pins H s e s' I c => passL pins σ H s e s' I c) ha hdb he hpl).imp fun σ H Q ⟨H0, F0, env, F, rr, env', l, hd, q⟩ => by
    obtain ⟨⟨ps, e1⟩, h1, hd⟩ := Option.bind_eq_some_iff.mp hd
    cases hz : df ps with
    | ok z =>
      simp only [hz] at hd
      cases hd
      refine ⟨H0, F0, env, F, ps, _, l, h1, fun vs H1 F1 l1 s1 r1 => ⟨ps, F1, l1.wf, r1, ?_⟩⟩
      rw [hz]
      intro v H3 F3 x3 rt
      obtain ⟨F4, x4, s4, r4⟩ := rt.frozen x3
      exact q v H3 F4 (l1.grow x4) (s1.trans x4.f) r4
    | err _ => simp only [hz] at hd; cases hd
    | bad => simp only [hz] at hd; cases hd

/-! ### the box -/
/-- digit = int(box[0]) % size; box[0] = box[0] // size -/
def spTake : Sp := fun vs H Q _ => ∃ a x n, vs = [.ref a, .int n] ∧ H a = some (.lst [.int x]) ∧ 0 < n ∧ n < 1073741824 ∧ Q (.int (x % n)) (upd H a (.lst [.int (x / n)]))
def pyTake : F2 := fI fun x n => if 0 < n ∧ n < 1073741824 then some (.int (x % n)) else none
theorem one_le (v : V) : [v].length ≤ sizeLine := by rw [sizeLine_eq]; show 1 ≤ 16777216; decide
/-- the box is a list just made -/
theorem de_take {k : Nat} {f : Addr} {fd : FuncData} {ps : List Str} {x : Str} {p p2 : Pos} {d1 d2 : PEnv → Res PV} (F : FnOk X.prog X.w X.K X.mg X.base (L2.CX X.prog X.w) k f fd ps spTake) (hr : Room k X.A) (hg : Gl X x) (hm : X.mg x = some (.ref f)) (hk : PySem.W.keepIn X.K (.ref f) = true) (hb : Binds X.K fd ps [])
    (h1 : DE X T W ow a d1) (h2 : DE X T W ow b d2) (hdb : (x == ("__debug__" : Str)) = false := by decide) (he : starEach [.List [a] p2, b] X.env = (false, eval (.List [a] p2) X.env) :: starEach [b] X.env := by rfl) (he1 : starEach [a] X.env = (false, eval a X.env) :: starEach [] X.env := by rfl) (he2 : starEach [b] X.env = (false, eval b X.env) :: starEach [] X.env := by rfl) (hpl : (backTo pos (starEach [b] X.env)).any (·.1) = false := by rfl) :
    DE X T W ow (.Call (.Name x p) [.List [a] p2, b] [] pos) (xOp pyTake d1 d2) :=
  (pe_callS (E := WE W0) F hr hg hm hk hb (fun σ => fun pins H s e s' I c => passL pins σ H s e s' I c) (pa_cons (pe_lst (pa_cons h1 pa_nil he1)) (pa_cons h2 pa_nil he2) he) hdb he hpl).imp fun σ H Q ⟨H0, F0, env, F, l, w⟩ => by
    refine ⟨H0, F0, env, F, l, wpR_mono (wpR_bnd.mp w) (fun p w1 v H1 F1 e1 r1 => ⟨one_le v, fun q nq => ?_⟩) fun _ z => z⟩
    have x2 : Ext T H1 F1 (upd H1 q (.lst [v])) F1 := Ext.laid e1.wf nq
    have e2 := e1.trans x2
    refine ⟨H0, F0, env, F1, l.grow e2, wpR_mono (wpR_bnd.mp w1) (fun p2 w2 u H2 F2 e3 r2 => ?_) fun _ z cls dd H' F' e => z cls dd H' F' (e2.trans e)⟩
    obtain ⟨z, hz, w3⟩ := wpR_ofO w2
    unfold pyTake fI at hz
    split at hz
    · obtain ⟨hc, rfl⟩ := some_if hz
      cases r1
      cases r2
      have nt : ¬ T q := fun t => tab_ne e1.tabs t nq
      have h2q : H2 q = some (.lst [.int _]) := e3.h q _ nt upd_same
      refine ⟨q, _, _, rfl, h2q, hc.1, hc.2, w3 _ _ F2 ?_ (.int _)⟩
      have f2q : F2 q = none := e3.new q (by rw [upd_same]; simp) (e1.wf.none nq)
      have e13 := e2.trans e3
      have nH : H q = none := by
        cases qq : H q with
        | none => rfl
        | some u => exact absurd nq (e1.ne (by rw [qq]; simp))
      refine ⟨fun b t => ?_, fun b o n h => ?_, e13.f, fun b o h => ?_, e13.ft, e13.new⟩
      · obtain ⟨ps, g1, g2⟩ := e13.tabs b t
        exact ⟨ps, by rw [upd_ne (fun z => nt (by rw [← z]; exact t))]; exact g1, g2⟩
      · rw [upd_ne (fun z => by rw [z, nH] at h; cases h)]; exact e13.h b o n h
      · rw [upd_ne (fun z => by rw [z, f2q] at h; cases h)]; exact e13.fh b o h
    · cases hz
/-- the box is a name's -/
def takeB (i : Nat) (env : PEnv) (n : PV) : Option (PV × PEnv) := match env[i]?, n with
  | some (some (.lst [.int x])), .int n => if 0 < n ∧ n < 1073741824 then some (.int (x % n), env.set i (some (.lst [.int (x / n)]))) else none
  | _, _ => none
def isLstP : Option (Option PV) → Bool
  | some (some (.lst _)) => true
  | _ => false
def mTake (i : Nat) (d : Mx PV) : Mx PV := fun env => if isLstP env[i]? = true then (d env).bind fun p => takeB i p.2 p.1 else none
theorem dm_take {k i : Nat} {f : Addr} {fd : FuncData} {ps : List Str} {x y : Str} {p p2 : Pos} (F : FnOk X.prog X.w X.K X.mg X.base (L2.CX X.prog X.w) k f fd ps spTake) (hr : Room k X.A) (hg : Gl X x) (hm : X.mg x = some (.ref f)) (hk : PySem.W.keepIn X.K (.ref f) = true) (hb : Binds X.K fd ps [])
    (h1 : PE X (.Name y p2) (tVar i)) (hi : (ow[i]? == some true) = true) (h2 : DM X T ow b dm) (hdb : (x == ("__debug__" : Str)) = false := by decide) (he : starEach [.Name y p2, b] X.env = (false, eval (.Name y p2) X.env) :: starEach [b] X.env := by rfl) (he2 : starEach [b] X.env = (false, eval b X.env) :: starEach [] X.env := by rfl) (hpl : (backTo pos (starEach [b] X.env)).any (·.1) = false := by rfl) :
    DM X T ow (.Call (.Name x p) [.Name y p2, b] [] pos) (mTake i dm) :=
  (pe_callS (E := WE W0) F hr hg hm hk hb (fun σ => fun pins H s e s' I c => passL pins σ H s e s' I c) (pa_cons h1 (pa_cons h2 pa_nil he2) he) hdb he hpl).imp fun σ H Q ⟨H0, F0, env, F, rr, env', l, hd, q⟩ => by
    unfold mTake at hd
    by_cases hil : isLstP env[i]? = true
    · rw [if_pos hil] at hd
      obtain ⟨⟨n, e1⟩, hd1, hd⟩ := Option.bind_eq_some_iff.mp hd
      unfold takeB at hd
      have hi2 : ow[i]? = some true := by simpa using hi
      split at hd
      · rename_i x m hx hn
        have hn : n = .int m := hn
        subst hn
        obtain ⟨hc, hd⟩ := some_if hd
        cases hd
        unfold isLstP at hil
        split at hil
        · rename_i ys hy
          obtain ⟨a, o, s1, s2, s3, s4, s5, s6⟩ := l.own i _ hy hi2
          refine ⟨.ref a, s1, H0, F0, env, F, _, e1, l, hd1, fun v H1 F1 l1 sF r1 => ?_⟩
          cases r1
          obtain ⟨b, o', t1, t2, t3, t4, t5, t6⟩ := l1.own i _ hx hi2
          rw [s1] at t1; cases t1
          cases t3 with
          | lst rs =>
            cases rs with
            | cons r rs =>
              cases rs
              cases r
              exact ⟨a, x, m, rfl, t2, hc.1, hc.2, q _ _ F1 (l1.put hx hi2 s1 (.lst (.cons (.int _) .nil))) sF (.int _)⟩
        · cases hil
      · cases hd
    · rw [if_neg hil] at hd; cases hd

/-! ### statements with these -/
def mWith (d : Mx PV) (k : PV → PEnv → SR) : PEnv → SR := fun env => match d env with
  | some (p, e) => k p e
  | none => .bad
def sSetM (i : Nat) (d : Mx PV) : PEnv → SR := mWith d fun v env => .nx (env.set i (some v))
theorem ds_setM {i : Nat} {x : Str} {pos' : Pos} (hN : X.N.Nodup) (hi : X.N[i]? = some x) (hx : Loc X.env.scope x) (he : DM X T ow e dm) (hs : swapsWith e (some (.Name x pos')) pos.line X.env = pure false := by rfl)
    (hf : X.fn x = true ∨ X.env.scope.names.lookup x = some .local := by first | exact .inl rfl | exact .inr rfl | assumption) : DS X T W fr oe ol ow (.Assign [.Name x pos'] e pos) (sSetM i dm) (ow.set i false) := (ps_set hN hi hx he hs hf).imp fun D σ H w => by
  obtain ⟨H0, F0, env, F, l, w⟩ := tS_iff.mp w
  unfold sSetM mWith at w
  cases h : dm env with
  | none => rw [h] at w; exact w.elim
  | some p =>
    rw [h] at w
    exact ⟨H0, F0, env, F, p.1, p.2, l, h, fun v H' F' l' s r => w _ H' F' (l'.setE r)⟩
def sRetM (d : Mx PV) : PEnv → SR := mWith d fun v _ => .rt v
theorem ds_retM (he : DM X T ow e dm) : DS X T W false oe ol ow (.Return (some e) pos) (sRetM dm) ow' := (ps_ret he).imp fun D σ H w => by
  obtain ⟨H0, F0, env, F, l, w⟩ := tS_iff.mp w
  unfold sRetM mWith at w
  cases h : dm env with
  | none => rw [h] at w; exact w.elim
  | some p =>
    rw [h] at w
    exact ⟨H0, F0, env, F, p.1, p.2, l, h, fun v H' F' l' s r => w v H' F' l'.ext r⟩
def sIfM (t : Mx Bool) (k1 k2 : PEnv → SR) : PEnv → SR := fun env => match t env with
  | some (true, e) => k1 e
  | some (false, e) => k2 e
  | none => .bad
theorem ds_ifM {t : Mx Bool} {k1 k2 : PEnv → SR} (hc : DMT X T ow c t) (h1 : DSs X T W fr oe ol ow s1 k1 ow') (h2 : DSs X T W fr oe ol ow s2 k2 ow') : DS X T W fr oe ol ow (.If c s1 s2 pos) (sIfM t k1 k2) ow' := (ps_if hc h1 h2).imp fun D σ H w => by
  obtain ⟨H0, F0, env, F, l, w⟩ := tS_iff.mp w
  unfold sIfM at w
  cases h : t env with
  | none => rw [h] at w; exact w.elim
  | some p =>
    obtain ⟨b, e⟩ := p
    rw [h] at w
    refine ⟨H0, F0, env, F, b, e, l, h, fun H' F' l' s => ?_⟩
    cases b with
    | true => exact tS_iff.mpr ⟨H0, F0, e, F', l', w⟩
    | false => exact tS_iff.mpr ⟨H0, F0, e, F', l', w⟩
def sAppM (i : Nat) (d : Mx PV) : PEnv → SR := fun env => if isLstP env[i]? = true then mWith d (fun v env => match env[i]? with
  | some (some (.lst xs)) => if xs.length < sizeLine then .nx (env.set i (some (.lst (xs ++ [v])))) else .bad
  | _ => .bad) env else .bad
theorem ds_appM {i : Nat} {o : Expr} {apos cpos : Pos} (ho : PE X o (tVar i)) (hi : (ow[i]? == some true) = true) (ha : DMA X T ow [e] (mCons dm mNil))
    (hbase : attributeBase o "append" X.env (eval o X.env) = eval o X.env := by rfl)
    (hfew : ((backTo cpos (starEach [e] X.env)).all (fun x => !x.1) && (backToKw cpos (keywordEach [] X.env)).all (fun x => x.1.isSome)
      && decide ([e].length + ([] : List Keyword).length + (if ([] : List Keyword).isEmpty then 0 else 1) < 30)) = true := by rfl)
    (hline : (apos.endLine == cpos.line) = true := by rfl) (hs : starEach [e] X.env = (false, eval e X.env) :: starEach [] X.env := by rfl) (hplain : (backTo cpos (starEach [] X.env)).any (·.1) = false := by rfl)
    (hsw : swapsWith (.Call (.Attribute o "append" apos) [e] [] cpos) none pos.line X.env = pure false := by rfl) :
    DS X T W fr oe ol ow (.Expr (.Call (.Attribute o "append" apos) [e] [] cpos) pos) (sAppM i dm) ow :=
  (ps_expr (pe_bm PySem.F.plainAttrs_list PySem.F.slot_list_append PySem.F.type_list_append mt_append ho ha hbase hfew hline hs hplain) hsw).imp fun D σ H w => by
    obtain ⟨H0, F0, env, F, l, w⟩ := tS_iff.mp w
    have hi2 : ow[i]? = some true := by simpa using hi
    unfold sAppM at w
    by_cases hil : isLstP env[i]? = true
    · rw [if_pos hil] at w
      unfold mWith at w
      cases hd : dm env with
      | none => rw [hd] at w; exact w.elim
      | some p =>
        obtain ⟨v, e1⟩ := p
        rw [hd] at w
        simp only at w
        unfold isLstP at hil
        split at hil
        · rename_i ys hy
          obtain ⟨a, o, s1, s2, s3, s4, s5, s6⟩ := l.own i _ hy hi2
          cases s3 with
          | @lst vs _ rs =>
            refine ⟨.ref a, s1, .inl ⟨rfl, vs, .of s2⟩, H0, F0, env, F, [v], e1, l, ?_, fun us H1 F1 l1 sF r1 => ?_⟩
            · show (dm env).bind _ = _
              rw [hd]; rfl
            cases r1 with
            | cons r rr =>
              cases rr
              split at w
              · rename_i xs hx
                by_cases hz : xs.length < sizeLine
                · rw [if_pos hz] at w
                  obtain ⟨b, o', t1, t2, t3, t4, t5, t6⟩ := l1.own i _ hx hi2
                  rw [s1] at t1; cases t1
                  cases t3 with
                  | @lst vs2 _ rs2 =>
                    exact ⟨a, vs2, _, rfl, rfl, t2, by rw [rs2.length]; exact hz, w σ _ F1 (l1.put hx hi2 s1 (.lst (rs2.append (.cons r .nil))))⟩
                · rw [if_neg hz] at w; exact w.elim
              · exact w.elim
        · cases hil
    · rw [if_neg hil] at w; exact w.elim
end
end D
end

section
set_option Elab.async false
set_option linter.all false
set_option maxRecDepth 100000
set_option maxHeartbeats 1000000
namespace D
open PySem PySem.Spec PyProof.Rows L2
section
variable {X : Cx} {T : Addr → Prop} {W : WX} {oe ol ow ow' ow1 ow2 : List Bool} {fr st : Bool} {tg e a b c : Expr} {es : List Expr} {rest s1 s2 : List Stmt} {d : PEnv → Res PV} {dm da db : Mx PV} {dms : Mx (List PV)} {pos : Pos}
/-- target = value -/
def sAsg (d : PEnv → Res PV) (f : Bd) : PEnv → SR := sWith d fun v env => match f v env with
  | some e => .nx e
  | none => .bad
theorem ds_asg {f : Bd} {vs : List Nat} (he : DX X T false W ow e d) (hg : DG X T ow tg f ow1 vs) (ho : leB oe ow = true := by rfl) (hs : swapsWithSole [tg] e pos.line X.env = pure false := by rfl) (hw : swappedStores [tg] e X.env = pure none := by rfl)
    (h1 : (assignEach [tg] X.env).map (·.2) = [assign tg X.env] := by rfl) : DS X T W fr oe ol ow (.Assign [tg] e pos) (sAsg d f) ow1 := (ps_asg he hg hs hw h1).imp fun D σ H w => by
  obtain ⟨H0, F0, env, F, l, w⟩ := tS_iff.mp w
  refine ⟨H0, F0, env, F, l, ?_⟩
  unfold sAsg sWith at w
  cases h : d env with
  | ok p =>
    rw [h] at w
    intro v H' F' x rt
    cases hf : f p env with
    | none => simp only [hf] at w; exact w.elim
    | some e' =>
      simp only [hf] at w
      exact ⟨H0, F0, env, F', p, e', l.grow x, rt, hf, fun σ' l' _ => w σ' H' F' l'⟩
  | err x => rw [h] at w; exact err_up l (le_of ho) w
  | bad => rw [h] at w; exact w
end
section
variable {g : Str → Option Value} {K : PySem.W.Frag} {T : Addr → Prop} {H F : Hp} {v : V} {x : PV}
def pyNotInSign : F2
  | .str a, .str z => if a.cps.size = 1 then some (.bl (!decide (a.cps.getD 0 0 ∈ z.cps.toList))) else none
  | _, _ => none
theorem o_notInSign : OpS g K T false (fun x y H Q => ∃ (c : Nat) (z : Str), x = .str ⟨#[c]⟩ ∧ y = .str z ∧ Q (.bl (!decide (c ∈ z.cps.toList))) H) pyNotInSign := by
  intro H F x y p q z Q w rx ry hz hq
  unfold pyNotInSign at hz
  split at hz
  · obtain ⟨hc, rfl⟩ := some_if hz
    rename_i a s
    rw [rx.str, ry.str]
    refine ⟨a.cps.getD 0 0, s, ?_, rfl, hq _ H F (.refl w) (.bl _)⟩
    congr 1
    obtain ⟨⟨l⟩⟩ := a
    match l, hc with
    | [c], _ => rfl
  · cases hz
def pyCatT : F2
  | .tup a, .tup b => if a.length + b.length ≤ sizeLine then some (.tup (a ++ b)) else none
  | _, _ => none
theorem RepT.tupF {xs : List PV} (w : Wf T H F) (h : RepT g K T H F v (.tup xs)) : ∃ a vs, v = .ref a ∧ SqT K F a vs ∧ Reps g K F vs xs := by
  rcases h with h | ⟨a, o, rfl, h2, h3, h4⟩
  · cases h with
    | tup hs r => exact ⟨_, _, rfl, hs, r⟩
  · cases h3
theorem o_catT : OpS g K T false (rCatA K) pyCatT := by
  intro H F x y p q z Q w rx ry hz hq
  unfold pyCatT at hz
  split at hz
  · obtain ⟨hc, rfl⟩ := some_if hz
    obtain ⟨a, vs, rfl, h1, r1⟩ := rx.tupF w
    obtain ⟨b, us, rfl, h2, r2⟩ := ry.tupF w
    refine ⟨a, b, vs, us, rfl, rfl, Same.seqT w.fh h1, Same.seqT w.fh h2, by rw [r1.length, r2.length]; exact hc, fun e => ?_, fun _ e => ?_, fun _ _ p np => ?_⟩
    · subst e
      cases r1
      exact hq _ H F (.refl w) (.tup h2 r2)
    · subst e
      cases r2
      refine hq _ H F (.refl w) (.tup h1 ?_)
      rw [List.append_nil]; exact r1
    · have x := Ext.alloc w (o := .tup (vs ++ us)) np
      exact hq _ _ _ x (.tup (.of upd_same) ((r1.append r2).mono x.f))
  · cases hz
/-- a text none or one time -/
def pyRepS : F2
  | .str a, .int n => if n = 0 ∨ n = 1 then some (.str (if n = 1 then a else Str.empty)) else none
  | _, _ => none
theorem op_repS {X : Cx} : OpR X (binaryOp .Mult) (fun x y H Q => ∃ a n, x = .str a ∧ y = .int n ∧ (n = 0 ∨ n = 1) ∧ Q (.str (if n = 1 then a else Str.empty)) H) := by
  intro pins s σ H x y v u Q I rx ry h
  obtain ⟨a, n, rfl, rfl, hn, q⟩ := h
  obtain ⟨t, rfl⟩ := rx
  obtain ⟨t', rfl⟩ := ry
  rcases hn with rfl | rfl
  · exact PySem.P.mul_str_none (by decide) (by decide) ⟨.str _, H, I.tok _, ⟨_, rfl⟩, q⟩
  · refine PySem.P.mul_str (by decide) (fun _ h => absurd h (by simp)) (fun _ h => absurd h (by simp)) ?_
    rw [if_neg (by decide), if_pos (by simp)]
    exact ⟨.str a, H, I, ⟨t, rfl⟩, q⟩
theorem o_repS : OpS g K T false (fun x y H Q => ∃ a n, x = .str a ∧ y = .int n ∧ (n = 0 ∨ n = 1) ∧ Q (.str (if n = 1 then a else Str.empty)) H) pyRepS := by
  intro H F x y p q z Q w rx ry hz hq
  unfold pyRepS at hz
  split at hz
  · obtain ⟨hc, rfl⟩ := some_if hz
    rw [rx.str, ry.int]
    exact ⟨_, _, rfl, rfl, hc, hq _ H F (.refl w) (.str _)⟩
  · cases hz
end
end D
end

section
set_option Elab.async false
set_option linter.all false
set_option maxRecDepth 100000
set_option maxHeartbeats 1000000
namespace D
open PySem PySem.Spec PyProof.Rows L2
theorem cx_none {P : Program} {w : World} {H : Hp} {s : Shared} {e : Value} {s' : Shared} (h : L2.CX P w [] H s (fun _ _ _ => False) e s') : False := by
  obtain ⟨_, _, _, _, _, _, _, _, _, _, _, _, z⟩ := h
  exact z.elim
/-- the law: its promise out of what it computes (no tables) -/
theorem law_at {l : PySem.W.OpenLaw} {w : World} {K : PySem.W.Frag} {k n : Nat} {x : Str} {mg : Str → Option Value} {fa : Addr} {h : Heap} {fd : FuncData} {d : List PV → Res PV}
    (hb : ∀ (s : Shared) (u : Value), BindsTo s fd ⟨[u], []⟩ [(x, u)])
    (main : ∀ ns : List Int, ns.length ≤ n → (∀ z ∈ ns, Builtin.Int.intBits z ≤ 1048576) → d [.scr ns] = .ok (.bl true))
    (F : ∀ base : Heap, K.In base → base.Ns mainGlobals mg → FnOk l.prog w K mg base (L2.CX l.prog w) k fa fd [x] (spD mg K (fun _ => False) false d)) :
    LamX.LawAtS l w K (L2.CX l.prog w) k n x mg fa h := by
  refine ⟨fd, [], spD mg K (fun _ => False) false d, (fun _ h => by cases h), (fun _ h => by cases h), (fun _ h => by cases h), hb, fun H a ns hl hz _ hS => ?_, fun base h1 h2 _ => F base h1 h2⟩
  refine ⟨[.scr ns], H, ⟨fun _ t => t.elim, Same.refl _, fun _ t => t.elim⟩, .cons (.scr hS) .nil, ?_⟩
  rw [main ns hl hz]
  rintro v H' F' x r
  cases r
  rfl
end D
end

section
set_option Elab.async false
set_option linter.all false
set_option maxRecDepth 100000
set_option maxHeartbeats 2000000
namespace D
open PySem PySem.Spec PyProof.Rows L2 GenW

/-! ### a generator expression's frame -/
abbrev gxc (X : Cx) (A : Around) (s : Shared) (H : Hp) (cenv : Env) (fp : List Addr) (pn : List (Addr × Obj)) : Cx :=
  { X with A := A, s_0 := s, H_0 := H, env := cenv, outer := X.stack, stack := cenv :: X.stack, ex := fp, fn := fun _ => false, pn := pn, xe := fun _ _ => False }
theorem setGen_bare {s : Shared} {g : Nat} {x : GenState} (h : AllBare s.gens) (hx : x.bare = true) : AllBare (s.setGen g x).gens := by
  intro y hy
  obtain ⟨i, hi, rfl⟩ := Array.mem_iff_getElem.mp hy
  unfold Shared.setGen at hi ⊢
  rw [Array.getElem_setIfInBounds (by simpa using hi)]
  split
  · exact hx
  · exact h _ (Array.getElem_mem _)
theorem setGen_get {s : Shared} {g : Nat} {x : GenState} (h : g < s.gens.size) : (s.setGen g x).gens[g]? = some x := setGen_self (Array.getElem?_eq_getElem h)
section
variable {X : Cx} {pins : List (Addr × Obj)} {σ : L2.St} {H : Hp} {s : Shared}
/-- the frame as it stands when the generator is woken first -/
theorem gx_start {scope : Scope} {own : List (Str × Nat)} {fp : List Addr} {pn : List (Addr × Obj)} {code : Value} {A' : Around} {s' : Shared} {m : Str → Option Value} (J : Inv X pins σ H s) (ok : BlkOk X.N X.env.scope scope own) (hN : X.N.Nodup)
    (hcell : ∀ y ∈ scope.names, y.2 ≠ .cell) (hfp : ∀ b ∈ fp, FpOk X pins H b ∧ b < s.heap.objs.size)
    (hA : A'.handled = none) (hfr : A'.frames = some (genEnv scope (cloFrom X.env.cells scope.names []) s.heap.objs.size code builtinsNs X.env :: X.stack))
    (kp : ∀ b o, s.heap.get? b = some o → s'.heap.get? b = some o) (hns : s'.heap.Ns s.heap.objs.size m) (hos : s'.os = s.os) (hb : AllBare s'.gens)
    (hpn : ∀ p ∈ pn, s'.heap.get? p.1 = some p.2 ∧ s.heap.objs.size < p.1 ∧ ∀ v, p.2.data ≠ .cell v) :
    Inv (gxc X A' s H (genEnv scope (cloFrom X.env.cells scope.names []) s.heap.objs.size code builtinsNs X.env) fp pn) [] (wipe σ (own.map (·.2))) H s' := by
  have hfree : ∀ y ∈ scope.names, y.2 = .free → ∃ c, X.env.cells.lookup y.1 = some c := fun y hy e =>
    (ok.free y hy e).elim (fun q => J.ok.has _ (.inl q)) (fun q => J.ok.has _ (.inr q))
  have nocell : ∀ {y : Str}, scope.names.lookup y ≠ some .cell := fun {y} e => hcell _ (PySem.mem_of_lookup e) rfl
  have cm : ∀ {y c}, (cloFrom X.env.cells scope.names []).lookup y = some c → X.env.cells.lookup y = some c ∧ c < s.heap.objs.size := fun {y c} e => by
    rcases cloFrom_mem (PySem.mem_of_lookup e) with hm | ⟨h1, rfl⟩
    · cases hm
    · obtain ⟨d, hd⟩ := hfree _ h1 rfl
      rw [hd]
      obtain ⟨_, z⟩ := J.cell _ _ hd
      exact ⟨rfl, z.lt⟩
  have look : ∀ {y}, scope.names.lookup y = some .free → ∃ c, (cloFrom X.env.cells scope.names []).lookup y = some c := fun {y} hl =>
    mem_lookup (cloFrom_has (cells := X.env.cells) (acc := []) (PySem.mem_of_lookup hl))
  generalize hce : genEnv scope (cloFrom X.env.cells scope.names []) s.heap.objs.size code builtinsNs X.env = cenv at hfr
  have cL : cenv.locals = s.heap.objs.size := by rw [← hce]; rfl
  have cC : cenv.cells = cloFrom X.env.cells scope.names [] := by rw [← hce]; rfl
  have cS : cenv.scope = scope := by rw [← hce]; rfl
  have cF : cenv.frame = some cenv.locals := by rw [← hce]; rfl
  have cG : cenv.globals = X.env.globals := by rw [← hce]; rfl
  have cB : cenv.builtins = builtinsNs := by rw [← hce]; rfl
  have cK : ∀ y, cenv.kindOf y = scope.names.lookup y := fun y => by unfold Env.kindOf; rw [cS]
  have okG : (gxc X A' s H cenv fp pn).Ok :=
    { mod := J.ok.mod
      kind := by show cenv.scope.kind = _; rw [cS]; exact ok.kind
      glob := by show cenv.globals = _; rw [cG]; exact J.ok.glob
      blt := cB
      above := by show s.heap.objs.size ≤ cenv.locals; rw [cL]; exact Nat.le_refl _
      inj := fun y z c e1 e2 => by
        have e1 : cenv.cells.lookup y = some c := e1
        have e2 : cenv.cells.lookup z = some c := e2
        rw [cC] at e1 e2
        exact J.ok.inj y z c (cm e1).1 (cm e2).1
      has := fun y hy => by
        show ∃ c, cenv.cells.lookup y = some c
        rw [cC]
        have hy : cenv.kindOf y = some .cell ∨ cenv.kindOf y = some .free := hy
        rw [cK] at hy
        rcases hy with q | q
        · exact absurd q nocell
        · exact look q
      cab := fun y c z _ => by cases z
      hd := fun _ => hA
      frames := hfr
      stk := .inr ⟨rfl, cF⟩
      exf := fun b hbf => by
        obtain ⟨f, flt⟩ := hfp b hbf
        refine ⟨?_, fun y c e z => ?_⟩
        · show b ≠ cenv.locals
          rw [cL]; exact Nat.ne_of_lt flt
        · have e : cenv.cells.lookup y = some c := e
          rw [cC] at e
          exact f.2.2.2.2.1 y c (cm e).1 z
      bs := J.bs
      bsz := Nat.le_trans J.ok.bsz J.sz
      noex := fun b o e hbf => by
        obtain ⟨f, flt⟩ := hfp b hbf
        rcases f.2.2.2.1 with z | z
        · exact J.ok.noex b o e z
        · exact absurd (Nat.lt_of_lt_of_le (Heap.lt_size e) (Nat.le_trans J.ok.bsz z)) (Nat.lt_irrefl _)
      exfs := fun b hbf z => by
        obtain ⟨f, flt⟩ := hfp b hbf
        rcases List.mem_cons.mp (J.stkSub b z) with z | z
        · exact f.2.1 z
        · exact f.2.2.1 z
      funs := J.stack
      frf := J.stkFree }
  refine ⟨okG, hos, hb, Un.kept kp, ⟨m, by show s'.heap.Ns cenv.locals m; rw [cL]; exact hns, fun i y v e1 e2 e3 => ?_⟩, fun y c e => ?_, ?_, fun y c e => ?_, fun p hp => ?_, J.hok.kept kp, by rw [wipe_length]; exact J.len⟩
  · obtain ⟨e2, hne⟩ := wipe_some e2
    have e3 : Vis cenv.scope y := e3
    rw [cS] at e3
    have noown : ∀ k, scope.names.lookup y = some k → k = .local ∨ k = .cell → False := fun k hk hk' => by
      rcases ok.own _ (PySem.mem_of_lookup hk) hk' with e' | e'
      · obtain ⟨p, hp, hpy⟩ := List.mem_map.mp e'
        have e4 := ok.ix p hp
        have : p.1 = y := hpy
        rw [this] at e4
        exact hne (List.mem_map.mpr ⟨p, hp, nodup_ix hN e4 e1⟩)
      · exact e' (List.mem_of_getElem? e1)
    rcases e3 with e3 | e3 | e3
    · exact (noown _ e3 (.inl rfl)).elim
    · exact (noown _ e3 (.inr rfl)).elim
    · obtain ⟨m0, _, hl⟩ := J.loc
      have outer := ok.free _ (PySem.mem_of_lookup e3) rfl
      have hvis : Vis X.env.scope y := outer.elim (fun q => .inr (.inl q)) (fun q => .inr (.inr q))
      obtain ⟨u, r, q⟩ := hl i y v e1 e2 hvis
      obtain ⟨c, hc⟩ := look e3
      refine ⟨u, r, .inr ⟨.inr (by rw [cK]; exact e3), c, by show cenv.cells.lookup y = some c; rw [cC]; exact hc, ?_⟩⟩
      rcases q with ⟨q, _⟩ | ⟨_, c', e', z⟩
      · have q : X.env.scope.names.lookup y = some .local := q
        rcases outer with w | w <;> rw [show X.env.scope.names.lookup y = _ from w] at q <;> cases q
      · rw [(cm hc).1] at e'
        cases e'
        exact z.keeps kp
  · have e : cenv.cells.lookup y = some c := e
    rw [cC] at e
    obtain ⟨w, z⟩ := J.cell y c (cm e).1
    exact ⟨w, z.keeps kp⟩
  · show H cenv.locals = none
    rw [cL]; exact J.hok.fresh (Nat.le_refl _)
  · have e : cenv.cells.lookup y = some c := e
    rw [cC] at e
    exact J.freeC y c (cm e).1
  · have hp : p ∈ pn := by
      rcases List.mem_append.mp hp with z | z
      · exact z
      · cases z
    obtain ⟨h1, h2, h3⟩ := hpn p hp
    refine ⟨h1, J.hok.fresh (Nat.le_of_lt h2), ?_, ?_, h3⟩
    · show p.1 ≠ cenv.locals
      rw [cL]; exact Nat.ne_of_gt h2
    · intro z
      rcases List.mem_cons.mp (J.stkSub _ z) with z | z
      · rw [z] at h2
        exact absurd (Nat.lt_trans h2 J.lt) (Nat.lt_irrefl _)
      · exact J.nofs (Nat.le_of_lt h2) z
end
end D
end

section
set_option Elab.async false
set_option linter.all false
set_option maxRecDepth 100000
set_option maxHeartbeats 2000000
namespace D
open PySem PySem.Spec PyProof.Rows L2 GenW

/-! ### a generator expression at work -/
/-- what is wanted of a turn: W by the turn and a measure; stop: the element that ends it; Q: what is wanted at the end -/
def GxT (J : It) (g : TG) (tt : TT) (te : TE) (σ0 : L2.St) (vs : List Nat) (stop : Bool) (Q : Bool → Hp → Prop) (W : Nat → Nat → Hp → Prop) : Prop := ∀ i m H, W i m H →
  (J.stop i H ∧ Q (!stop) H) ∨ (J.go i H ∧ ∃ Nx : Hp → Prop, (∀ H', Nx H' → ∃ m', m' < m ∧ W (i + 1) m' H') ∧ ∀ x H', J.yld i H x H' → g x σ0 H' fun σ2 H2 => wipe σ2 vs = σ0 ∧ tt σ2 H2 fun b H3 =>
    if b = true then te σ2 H3 fun y H4 => ∃ c : Bool, y = .bl c ∧ (if c = stop then Q stop H4 else Nx H4) else Nx H3)
/-- what is handed out -/
def GxY (X : Cx) (stop : Bool) (Q : Bool → Hp → Prop) : Protocol := fun _ _ v s kap =>
  ∃ c : Bool, v = .bool c ∧ ∃ pl σ' H', Inv X pl σ' H' s ∧ (if c = stop then Q stop H' else ∀ s' : Shared, s'.heap = s.heap → s'.os = s.os → AllBare s'.gens → kap (.send .none) s')
def GxR (X : Cx) (stop : Bool) (Q : Bool → Hp → Prop) : Nat → Shared → Shared → Prop := fun _ _ s => ∃ pl σ' H', Inv X pl σ' H' s ∧ Q (!stop) H'
section
variable {X : Cx} {A0 : Around} {elt tg iter : Expr} {ifs : List Expr} {scope : Scope} {pos : Pos} {it : Addr} {fp : List Addr} {tn : Nat → Heap → Prop} {J : It}
theorem same_heap {pl : List (Addr × Obj)} {σ : L2.St} {H : Hp} {s s' : Shared} (I : Inv X pl σ H s) (h : s'.heap = s.heap) (o : s'.os = s.os) (b : AllBare s'.gens) : Inv X pl σ H s' :=
  I.call' (ch := []) o (Un.kept fun a u e => by rw [h]; exact e) (by rw [h]; exact I.hok) b fun a z => by simp at z
theorem seg_gx (hA : A0.over (.compLoop (.GeneratorExp elt [⟨tg, iter, ifs, 0⟩] scope pos) 0 (.ref it) .none X.env) [] = X.A) (hco : X.env.scope.isCoroutine = false) (hc : X.calm = true) (hex : X.ex = fp)
    (T : Turn X.prog X.w X.K tg J fp it tn) {g : TG} {tt : TT} {te : TE} {vs : List Nat} {stop : Bool} {Q : Bool → Hp → Prop} {W : Nat → Nat → Hp → Prop} {σ0 : L2.St} (hσ : wipe σ0 vs = σ0)
    (pg : PG X tg g) (pt : PTs X ifs tt) (pe : PE X elt te) (hxe : ∀ x s, ¬ X.xe x s) (hpn : ∀ p ∈ X.pn, p.1 ∉ fp) (turn : GxT J g tt te σ0 vs stop Q W) :
    ∀ (m n i : Nat) (s₀ s : Shared) (H : Hp), m < n → Inv X [] σ0 H s → tn i s.heap → (∀ b ∈ fp, H b = none) → W i m H →
      Seg (model X.prog X.w) A0 (fun n s₀ r s₁ => r = .ok .next ∧ GxR X stop Q n s₀ s₁) (GxY X stop Q) n s₀ (.compLoop (.GeneratorExp elt [⟨tg, iter, ifs, 0⟩] scope pos) 0 (.ref it) .none X.env)
        ((model X.prog X.w).den (.compLoop (.GeneratorExp elt [⟨tg, iter, ifs, 0⟩] scope pos) 0 (.ref it) .none X.env)) [] s := by
  have stat : ∀ {σ' : L2.St} {H' : Hp} {s' : Shared}, Inv X [] σ' H' s' → (∀ b ∈ fp, H' b = none) → ∀ b ∈ fp, FpOk X [] H' b := fun {σ' H' s'} I' hn b hb =>
    ⟨hn b hb, (I'.ok.exf b (hex ▸ hb)).1, I'.ok.exfs b (hex ▸ hb), .inl (hex ▸ hb), fun x c e => (I'.ok.exf b (hex ▸ hb)).2 x c e, fun p hp => fun z => by
      rcases List.mem_append.mp hp with q | q
      · exact hpn p q (z ▸ hb)
      · cases q⟩
  intro m
  induction m using Nat.strongRecOn with
  | ind m ih =>
    intro n i s₀ s H hmn I st nn w
    show Seg _ A0 _ _ _ s₀ _ ((compTurn (.GeneratorExp elt [⟨tg, iter, ifs, 0⟩] scope pos) 0 (.ref it) .none X.env).onRaise (leaving X.env)) [] s
    rw [compTurn_gen, Sem.onRaise_eq_wrap]
    refine seg_bind_wrap (wpAny_standAt ?_)
    rcases turn i m H w with ⟨hs, hq⟩ | ⟨go, Nx, hNx, step⟩
    · refine seg_bind_wrap ?_
      rw [hA]
      refine wpAny_mono (T.done X rfl rfl rfl hc i [] s σ0 H (fun _ _ => False) I (stat I nn) st hs) (fun r s6 ⟨hr, I6⟩ => ?_) fun _ _ z => z.elim
      subst hr
      exact seg_end (.ok .next) ⟨rfl, [], σ0, H, I6, hq⟩
    · refine seg_bind_wrap ?_
      rw [hA]
      refine wpAny_mono (T.item X rfl rfl rfl hc i [] s σ0 H (fun _ _ => False) I (stat I nn) st go) (fun r s6 ⟨u, hr, h6⟩ => ?_) fun _ _ z => z.elim
      subst hr
      refine seg_bind_wrap ?_
      rw [hA]
      refine wpAny_mono h6 (fun _ s7 ⟨x, H7, I7, r7, y7, st7, n7⟩ => ?_) fun _ _ z => z.elim
      have I7' := I7.pinned (stat I7 n7) (T.obj _ _ st7)
      refine seg_bind_wrap ?_
      rw [hA]
      refine wpAny_mono (pg.run _ s7 _ H7 x u _ I7' r7 (step x H7 y7)) (fun _ s8 ⟨σ8, H8, I8, hw8, q8⟩ => ?_) fun _ _ z => (hxe _ _ z).elim
      refine seg_bind_wrap ?_
      rw [hA]
      refine wpAny_mono (pt.run _ s8 σ8 H8 _ I8 q8) (fun b s9 ⟨H9, I9, q9⟩ => ?_) fun _ _ z => (hxe _ _ z).elim
      -- the next turn
      have fin : ∀ {s' : Shared} {H' : Hp}, Inv X ([] ++ pinsAt fp s7.heap) σ8 H' s' → Nx H' → ∃ m', m' < m ∧ Inv X [] σ0 H' s' ∧ tn (i + 1) s'.heap ∧ (∀ b ∈ fp, H' b = none) ∧ W (i + 1) m' H' := fun {s' H'} I' nx => by
        obtain ⟨m', hm, w'⟩ := hNx H' nx
        have pin' : ∀ b ∈ fp, ∀ o, s7.heap.get? b = some o → s'.heap.get? b = some o ∧ H' b = none := fun b hb o e =>
          let z := I'.pin (b, o) (List.mem_append_right _ (List.mem_append_right _ (mem_pinsAt hb e)))
          ⟨z.1, z.2.1⟩
        have hl : σ0.length = σ8.length := by rw [← hw8, wipe_length]
        refine ⟨m', hm, (I'.unpinned (pins := [])).weak hl (fun j v e => ?_), T.keep _ _ _ st7 fun b hb o e => (pin' b hb o e).1, fun b hb => ?_, w'⟩
        · rw [← hw8] at e
          exact (wipe_some e).1
        · obtain ⟨o, e, _⟩ := T.obj _ _ st7 b hb
          exact (pin' b hb o e).2
      cases b with
      | false =>
        simp only [Bool.false_eq_true, if_false] at q9 ⊢
        obtain ⟨m', hm, I', st', n', w'⟩ := fin I9 q9
        exact seg_again rfl (ih m' hm n (i + 1) s₀ s9 H9 (by omega) I' st' n' w')
      | true =>
        simp only [if_true] at q9 ⊢
        have hy : ∀ v, yieldOut X.env v = yieldValue v := fun v => by simp only [yieldOut, hco, Bool.false_eq_true, if_false]
        simp only [hy]
        rw [Sem.bind_eq_wrap', Sem.bind_eq_wrap', Sem.wrap_wrap, Sem.wrap_wrap]
        refine seg_wrap ?_
        rw [hA]
        refine wpAny_mono (pe.run _ s9 σ8 H9 _ I9 q9) (fun z s10 ⟨yv, H10, I10, r10, c, hyv, hcc⟩ => ?_) fun _ _ z => (hxe _ _ z).elim
        subst hyv
        cases r10
        have hm0 : ∃ n', n = n' + 1 := ⟨n - 1, by omega⟩
        obtain ⟨n', rfl⟩ := hm0
        refine seg_at (seg_yield rfl rfl rfl ⟨c, rfl, _, σ8, H10, I10, ?_⟩)
        by_cases hcs : c = stop
        · rw [if_pos hcs] at hcc ⊢
          exact hcc
        · rw [if_neg hcs] at hcc ⊢
          intro s'' e1 e2 e3
          obtain ⟨m', hm, I', st', nn', w'⟩ := fin I10 hcc
          have I'' := same_heap I' e1 e2 e3
          exact seg_again rfl (ih m' hm n' (i + 1) s'' s'' H10 (by omega) I'' (by rw [e1]; exact st') nn' w')
theorem seg_gx0 (hA : A0.over (.compLoop (.GeneratorExp elt [⟨tg, iter, ifs, 0⟩] scope pos) 0 (.ref it) .none X.env) [] = X.A) (hco : X.env.scope.isCoroutine = false) (hc : X.calm = true) (hex : X.ex = fp)
    (T : Turn X.prog X.w X.K tg J fp it tn) {g : TG} {tt : TT} {te : TE} {vs : List Nat} {stop : Bool} {Q : Bool → Hp → Prop} {W : Nat → Nat → Hp → Prop} {σ0 : L2.St} (hσ : wipe σ0 vs = σ0)
    (pg : PG X tg g) (pt : PTs X ifs tt) (pe : PE X elt te) (hxe : ∀ x s, ¬ X.xe x s) (hpn : ∀ p ∈ X.pn, p.1 ∉ fp) (turn : GxT J g tt te σ0 vs stop Q W)
    (m n : Nat) (s₀ s : Shared) (H : Hp) (hmn : m < n) (I : Inv X [] σ0 H s) (st : tn 0 s.heap) (nn : ∀ b ∈ fp, H b = none) (w : W 0 m H) :
      Seg (model X.prog X.w) A0 (fun n s₀ r s₁ => r = .ok .next ∧ GxR X stop Q n s₀ s₁) (GxY X stop Q) n s₀ (.compStart (.GeneratorExp elt [⟨tg, iter, ifs, 0⟩] scope pos) 0 (.ref it) .none X.env)
        ((model X.prog X.w).den (.compStart (.GeneratorExp elt [⟨tg, iter, ifs, 0⟩] scope pos) 0 (.ref it) .none X.env)) [] s := by
  have loop := seg_gx hA hco hc hex T hσ pg pt pe hxe hpn turn m n 0 s₀ s H hmn I st nn w
  show Seg _ A0 _ _ _ s₀ _ ((compStart (.GeneratorExp elt [⟨tg, iter, ifs, 0⟩] scope pos) 0 (.ref it) .none X.env).onRaise (leaving X.env)) [] s
  unfold compStart
  rw [Sem.onRaise_eq_wrap]
  show Seg _ A0 _ _ _ s₀ _ ((ask >>= _).wrap _ _ _ _) [] s
  refine seg_bind_wrap (wpAny_askSetting ?_)
  split
  · exact seg_again rfl loop
  · first
      | exact seg_bind_wrap (wpAny_rule (seg_bind_wrap (wpAny_standAt (seg_bind_wrap (T.self _ 0 s _ _ st (seg_again rfl loop))))))
      | (refine seg_bind_wrap (wpAny_rule ?_); show Seg _ A0 _ _ _ s₀ _ ((standAt iter.pos >>= _).wrap _ _ _ _) [] s; exact seg_bind_wrap (wpAny_standAt (seg_bind_wrap (T.self _ 0 s _ _ st (seg_again rfl loop)))))
end

/-! ### any and all at work -/
/-- the generator stands ready: its object, its state -/
structure GxS (P : Program) (w : World) (A : Around) (Y : Protocol) (R : Nat → Shared → Shared → Prop) (a : Addr) (g n : Nat) (s : Shared) : Prop where
  lim : s.heap.NoLimit
  gen : s.heap.IsGen a g
  bare : AllBare s.gens
  go : ∃ gs, s.gens[g]? = some gs ∧ ∀ s'' : Shared, s''.heap = s.heap → s''.os = s.os → AllBare s''.gens → gs.Goes (model P w) A (fun n s₀ r s₁ => r = .ok .next ∧ R n s₀ s₁) Y n (.send .none) s''
section
variable {X : Cx} {a : Addr} {g : Nat} {stop : Bool} {Q : Bool → Hp → Prop} {E : Value → Shared → Prop} {Xg : Cx} {B A : Around}
/-- one step of it -/
theorem gx_next (hh : B.handled = none) (hroom : B.depth < recursionLimit) {n : Nat} {s : Shared} {Qn : Option Value → Shared → Prop}
    (hG : ∀ s' : Shared, (∃ pl σ' H', Inv Xg pl σ' H' s') → s'.heap.IsGen a g)
    (S : GxS X.prog X.w B.in1 (GxY Xg stop Q) (GxR Xg stop Q) a g n s)
    (hY : ∀ (c : Bool) (s' : Shared), (c = stop → ∃ pl σ' H', Inv Xg pl σ' H' s' ∧ Q stop H') → (c ≠ stop → ∃ m, n = m + 1 ∧ GxS X.prog X.w B.in1 (GxY Xg stop Q) (GxR Xg stop Q) a g m s') → Qn (some (.bool c)) s')
    (hR : ∀ s' : Shared, ∀ h', (∀ b o, s'.heap.get? b = some o → h'.get? b = some o) → (∃ pl σ' H', Inv Xg pl σ' H' s' ∧ Q (!stop) H') → Qn none { s' with heap := h' }) :
    wpAny (model X.prog X.w) B (pyNext (.ref a)) Qn E s := by
  obtain ⟨lim, hg, hb, gs, hgs, hgo⟩ := S
  have hlt : g < s.gens.size := (Array.getElem?_eq_some_iff.mp hgs).1
  have hb1 : AllBare (s.setGen g .running).gens := setGen_bare hb rfl
  refine wpAny_gsz (n := s.gens.size) (Nat.le_refl _) ?_
  refine wpAny_pyNext_genexpQ (n := n) (P := GxR Xg stop Q) (Y := GxY Xg stop Q) hh lim hroom hg hgs (hgo _ rfl rfl hb1) (fun v s₁ gs' hbg hv => ?_) (fun s₁ hp h' hk => ?_)
  · intro hsz
    obtain ⟨c, rfl, pl, σ', H', I, hq⟩ := hv
    rw [setGen_size] at hsz
    have hlt1 : g < s₁.gens.size := Nat.lt_of_lt_of_le hlt hsz
    have hbb : AllBare (s₁.setGen g gs').gens := setGen_bare I.bare hbg
    have I' : Inv Xg pl σ' H' (s₁.setGen g gs') := same_heap I rfl rfl hbb
    refine hY c _ (fun hc => ⟨pl, σ', H', I', by rw [if_pos hc] at hq; exact hq⟩) fun hc => ?_
    rw [if_neg hc] at hq
    cases n with
    | zero => exact (hq (s₁.setGen g gs') rfl rfl hbb).elim
    | succ m => exact ⟨m, rfl, I'.nolimit, hG _ ⟨pl, σ', H', I'⟩, hbb, gs', setGen_get hlt1, fun s'' e1 e2 e3 => hq s'' e1 e2 e3⟩
  · intro hsz
    obtain ⟨pl, σ', H', I, hq⟩ := hp
    have hbb : AllBare (s₁.setGen g .finished).gens := setGen_bare I.bare rfl
    exact hR (s₁.setGen g .finished) h' hk ⟨pl, σ', H', same_heap I rfl rfl hbb, hq⟩
theorem gx_any_loop (hh : A.handled = none) (hroom : A.depth < recursionLimit) (hG : ∀ s' : Shared, (∃ pl σ' H', Inv Xg pl σ' H' s') → s'.heap.IsGen a g) {R : Result → Shared → Prop}
    (hE : ∀ (b : Bool) (s' : Shared) h', (∀ b o, s'.heap.get? b = some o → h'.get? b = some o) → (∃ pl σ' H', Inv Xg pl σ' H' s' ∧ Q b H') → R (.ok (.ret (.bool b))) { s' with heap := h' }) :
    ∀ (n : Nat) (s : Shared), GxS X.prog X.w A.in1.in1 (GxY Xg true Q) (GxR Xg true Q) a g n s → codeAny (model X.prog X.w) A (.builtin "any.loop" ⟨[.ref a], []⟩) R s := by
  intro n
  induction n with
  | zero =>
    intro s S
    refine codeAny_builtin F.entry_any_loop ?_
    rw [Around.under_plainId F.plain_any_loop _]
    show wpAny _ A.in1 (pyNext (.ref a) >>= _) _ _ s
    refine wpAny_bind (gx_next (X := X) (B := A.in1) hh hroom hG S (fun c s' h1 h2 => ?_) fun s' h' hk hq => ?_)
    · refine wpAny_bind (wpAny_holding (wpAny_truthy_bool ?_))
      refine wpAny_bind (wpAny_letGo ?_)
      cases c with
      | false => obtain ⟨m, hm, _⟩ := h2 (by decide); omega
      | true =>
        simp only [if_true]
        refine wpAny_bind (wpAny_rule (wpAny_pure ?_))
        exact hE true s' s'.heap (fun _ _ e => e) (h1 rfl)
    · exact wpAny_bind (wpAny_rule (wpAny_pure (hE false s' h' hk hq)))
  | succ n ih =>
    intro s S
    refine codeAny_builtin F.entry_any_loop ?_
    rw [Around.under_plainId F.plain_any_loop _]
    show wpAny _ A.in1 (pyNext (.ref a) >>= _) _ _ s
    refine wpAny_bind (gx_next (X := X) (B := A.in1) hh hroom hG S (fun c s' h1 h2 => ?_) fun s' h' hk hq => ?_)
    · refine wpAny_bind (wpAny_holding (wpAny_truthy_bool ?_))
      refine wpAny_bind (wpAny_letGo ?_)
      cases c with
      | false =>
        simp only [Bool.false_eq_true, if_false]
        obtain ⟨m, hm, S'⟩ := h2 (by decide)
        obtain rfl : n = m := by omega
        exact wpAny_pure ⟨plainId_quiet F.plain_any_loop _, ih s' S'⟩
      | true =>
        simp only [if_true]
        refine wpAny_bind (wpAny_rule (wpAny_pure ?_))
        exact hE true s' s'.heap (fun _ _ e => e) (h1 rfl)
    · exact wpAny_bind (wpAny_rule (wpAny_pure (hE false s' h' hk hq)))
theorem gx_all_loop (hh : A.handled = none) (hroom : A.depth < recursionLimit) (hG : ∀ s' : Shared, (∃ pl σ' H', Inv Xg pl σ' H' s') → s'.heap.IsGen a g) {R : Result → Shared → Prop}
    (hE : ∀ (b : Bool) (s' : Shared) h', (∀ b o, s'.heap.get? b = some o → h'.get? b = some o) → (∃ pl σ' H', Inv Xg pl σ' H' s' ∧ Q b H') → R (.ok (.ret (.bool b))) { s' with heap := h' }) :
    ∀ (n : Nat) (s : Shared), GxS X.prog X.w A.in1.in1 (GxY Xg false Q) (GxR Xg false Q) a g n s → codeAny (model X.prog X.w) A (.builtin "all.loop" ⟨[.ref a], []⟩) R s := by
  intro n
  induction n with
  | zero =>
    intro s S
    refine codeAny_builtin F.entry_all_loop ?_
    rw [Around.under_plainId F.plain_all_loop _]
    show wpAny _ A.in1 (pyNext (.ref a) >>= _) _ _ s
    refine wpAny_bind (gx_next (X := X) (B := A.in1) hh hroom hG S (fun c s' h1 h2 => ?_) fun s' h' hk hq => ?_)
    · refine wpAny_bind (wpAny_holding (wpAny_truthy_bool ?_))
      refine wpAny_bind (wpAny_letGo ?_)
      cases c with
      | true => obtain ⟨m, hm, _⟩ := h2 (by decide); omega
      | false =>
        simp only [Bool.false_eq_true, if_false]
        refine wpAny_bind (wpAny_rule (wpAny_pure ?_))
        exact hE false s' s'.heap (fun _ _ e => e) (h1 rfl)
    · exact wpAny_bind (wpAny_rule (wpAny_pure (hE true s' h' hk hq)))
  | succ n ih =>
    intro s S
    refine codeAny_builtin F.entry_all_loop ?_
    rw [Around.under_plainId F.plain_all_loop _]
    show wpAny _ A.in1 (pyNext (.ref a) >>= _) _ _ s
    refine wpAny_bind (gx_next (X := X) (B := A.in1) hh hroom hG S (fun c s' h1 h2 => ?_) fun s' h' hk hq => ?_)
    · refine wpAny_bind (wpAny_holding (wpAny_truthy_bool ?_))
      refine wpAny_bind (wpAny_letGo ?_)
      cases c with
      | true =>
        simp only [if_true]
        obtain ⟨m, hm, S'⟩ := h2 (by decide)
        obtain rfl : n = m := by omega
        exact wpAny_pure ⟨plainId_quiet F.plain_all_loop _, ih s' S'⟩
      | false =>
        simp only [Bool.false_eq_true, if_false]
        refine wpAny_bind (wpAny_rule (wpAny_pure ?_))
        exact hE false s' s'.heap (fun _ _ e => e) (h1 rfl)
    · exact wpAny_bind (wpAny_rule (wpAny_pure (hE true s' h' hk hq)))
end
end D
end

section
set_option Elab.async false
set_option linter.all false
set_option maxRecDepth 100000
set_option maxHeartbeats 2000000
namespace D
open PySem PySem.Spec PyProof.Rows L2 GenW
open GxR (TabB Tabbed inv_tab sh_eta)

/-- the generator has been made: the state s5 over s4 -/
structure GxM (X : Cx) (pins : List (Addr × Obj)) (σ : L2.St) (H4 : Hp) (scope : Scope) (elt tg iter : Expr) (ifs : List Expr) (gpos : Pos) (it : Addr) (code : Value) (s4 s5 : Shared) (a g : Nat) : Prop where
  inv : Inv X pins σ H4 s4
  kp : ∀ b o, s4.heap.get? b = some o → s5.heap.get? b = some o
  ns : ∃ m, s5.heap.Ns s4.heap.objs.size m
  os : s5.os = s4.os
  bare : AllBare s5.gens
  obj : ∃ go : Obj, s5.heap.get? a = some go ∧ go.cls = .type "generator" ∧ (∃ nm qn, go.data = .fields #[.int (g : Int) 0, nm, qn]) ∧ go.slots = #[]
  lt : s4.heap.objs.size < a
  gen : s5.gens[g]? = some (.fresh (.compStart (.GeneratorExp elt [⟨tg, iter, ifs, 0⟩] scope gpos) 0 (.ref it) .none (genEnv scope (cloFrom X.env.cells scope.names []) s4.heap.objs.size code builtinsNs X.env)))
section
variable {X : Cx} {pins : List (Addr × Obj)} {σ : L2.St} {H : Hp} {s : Shared}
theorem gx_make {c P : Addr} {elt tg iter : Expr} {ifs : List Expr} {gpos : Pos} {scope : Scope} {own : List (Str × Nat)} {wi : TI} {k : Nat} {Q' : Value → Shared → Prop} {Rr : It → Hp → Prop}
    (hr : Room k X.A) (TB : TabB X.base X.mg c P) (hcode : X.env.code = .ref c) (ok : BlkOk X.N X.env.scope scope own) (hco : scope.isCoroutine = false) (hcell : ∀ y ∈ scope.names, y.2 ≠ .cell) (hdot : scope.names.lookup (".0" : Str) = some NameKind.local)
    (hi : PI X tg iter wi) (hs : ∀ v, genFold iter X.env v = pure v) (I : Inv X pins σ H s) (h : wi σ H fun J H1 => TabG H1 P ∧ ∀ H2, Tabbed P H1 H2 → Rr J H2)
    (hQ : ∀ (s4 s5 : Shared) (H4 : Hp) (it : Addr) (fp : List Addr) (tn : Nat → Heap → Prop) (J : It) (code : Value) (a g : Nat), GxM X pins σ H4 scope elt tg iter ifs gpos it code s4 s5 a g → Turn X.prog X.w X.K tg J fp it tn → tn 0 s5.heap →
      (∀ b ∈ fp, FpOk X pins H4 b ∧ b < s4.heap.objs.size) → Rr J H4 → Q' (.ref a) s5) :
    wpAny (model X.prog X.w) X.A (eval (.GeneratorExp elt [⟨tg, iter, ifs, 0⟩] scope gpos) X.env) Q' X.xe s := by
  have hfree : ∀ y ∈ scope.names, y.2 = .free → ∃ c, X.env.cells.lookup y.1 = some c := fun y hy e =>
    (ok.free y hy e).elim (fun q => I.ok.has _ (.inl q)) (fun q => I.ok.has _ (.inr q))
  refine wpAny_GeneratorExp_make hco (closure_ok hfree) hcell hdot ok.kind (by have := hr.dp; omega) ?_ hs
  refine thn (hi.run pins s σ H _ I h) fun xv s1 hx => thn hx fun itv s2 h2 => ?_
  obtain ⟨it, fp, tn, J, H1, e, I2, T, st2, f2, ⟨ps, hP, ht⟩, q⟩ := h2
  subst e
  refine ⟨I2.nolimit, ?_⟩
  have hPs : s2.heap.get? P = some { cls := .none, data := .fields ps } := I2.hok P _ hP
  have cd : PySem.W.CodeHd s2.heap c P := TB.code.keeps fun b u e => I2.bk b u e
  have sz : ∀ b ∈ fp, b < s2.heap.objs.size := fun b hb => by
    obtain ⟨o, e, _⟩ := T.obj _ _ st2 b hb
    exact Heap.lt_size e
  have cont : ∀ (code : Value) (h3 : Heap) (tk : Nat) (ps' : Array Value), Heap.ExtBut P s2.heap h3 → s2.heap.objs.size ≤ h3.objs.size → h3.get? P = some { cls := .none, data := .fields ps' } → (∃ more, ps' = ps ++ more) → TriplesOk ps'.toList →
      wpAny (model X.prog X.w) X.A (builtinsFor X.env.globals X.env.builtins) (fun bi s4 =>
        ∀ h', h'.Ns s4.heap.objs.size (fun y => if y = ".0" then some (.ref it) else none) → Heap.SameBut s4.heap.objs.size (s4.heap.push { cls := .type "frame", data := .dict #[] }) h' →
          Q' (.ref h'.objs.size) { s4 with
            gens := s4.gens.push (.fresh (.compStart (.GeneratorExp elt [⟨tg, iter, ifs, 0⟩] scope gpos) 0 (.ref it) .none (genEnv scope (cloFrom X.env.cells scope.names []) s4.heap.objs.size code bi X.env))),
            toks := s4.toks + 1 + 1 + 1,
            heap := h'.push { cls := .type "generator", data := .fields #[.int s4.gens.size 0, .str "<genexpr>" (s4.toks + 1), .str (X.env.qual ++ "<genexpr>") (s4.toks + 1 + 1)] } }) X.xe { s2 with heap := h3, toks := tk } := by
    intro code h3 tk ps' hx hsz hP3 hmore ht3
    obtain ⟨bm, ob, e1, e2, e3, e4, e5, e6, e7, e8⟩ := TB.bm
    have keep3 : ∀ b u, b ≠ P → s2.heap.get? b = some u → h3.get? b = some u := fun b u hb e => hx b u hb e
    refine wpAny_builtinsFor (m := X.mg) (by rw [I2.ok.glob]; exact (I2.mod.glob.keeps I2.bk).extBut hx TB.gP) e1 e2 (keep3 _ _ e4 (I2.bk _ _ e5)) e6 e7 e8 ?_
    obtain ⟨more, em⟩ := hmore
    intro h' hns hsb
    have I3 : Inv X pins σ (upd H1 P (.tbl (ps ++ more))) { s2 with heap := h3, toks := tk } := by
      have z := inv_tab (more := more) (h' := h3) (g' := s2.gens) (d' := s2.drawn) (t' := tk) I2 hP keep3 (by rw [← em]; exact hP3) I2.bare
      exact z
    have nP : ∀ b ∈ fp, b ≠ P := fun b hb z => by
      have := (f2 b hb).1
      rw [z, hP] at this
      cases this
    have f3 : ∀ b ∈ fp, FpOk X pins (upd H1 P (.tbl (ps ++ more))) b ∧ b < h3.objs.size := fun b hb =>
      ⟨⟨by rw [upd_ne (nP b hb)]; exact (f2 b hb).1, (f2 b hb).2⟩, Nat.lt_of_lt_of_le (sz b hb) hsz⟩
    have st3 : tn 0 h3 := T.keep _ _ _ st2 fun b hb o e => keep3 b o (nP b hb) e
    have szp : (h3.push { cls := .type "frame", data := .dict #[] }).objs.size = h3.objs.size + 1 := Heap.size_push ..
    have szh : h'.objs.size = h3.objs.size + 1 := by
      have := hsb.1
      rw [← szp]
      first | exact this | exact this.symm | omega
    have kp : ∀ b o, h3.get? b = some o → (h'.push { cls := .type "generator", data := .fields #[.int s2.gens.size 0, .str "<genexpr>" (tk + 1), .str (X.env.qual ++ "<genexpr>") (tk + 1 + 1)] }).get? b = some o := fun b o e =>
      Heap.get?_push_of_some _ (by
        have hne : b ≠ h3.objs.size := Nat.ne_of_lt (Heap.lt_size e)
        exact (hsb.2 b hne).trans (Heap.get?_push_of_some _ e))
    refine hQ { s2 with heap := h3, toks := tk } _ (upd H1 P (.tbl (ps ++ more))) it fp tn J code h'.objs.size s2.gens.size ⟨I3, kp, ⟨_, hns.keeps fun b o e => Heap.get?_push_of_some _ e⟩, rfl, AllBare.push I2.bare rfl,
      ⟨_, Heap.get?_push_size _ rfl, rfl, ⟨_, _, rfl⟩, rfl⟩, ?_, Array.getElem?_push_size ..⟩ T (T.keep _ _ _ st3 fun b _ o e => kp b o e) f3 (q _ ⟨⟨ps ++ more, upd_same, by rw [← em]; exact ht3⟩, fun b hb => upd_ne hb⟩)
    show h3.objs.size < h'.objs.size
    omega
  cases hf : codeAmong gpos ps.toList with
  | none =>
    refine wpAny_genexprCodeX hcode (cd.code hPs ht) (cd.tab hPs) hf fun c' h' tk hx hge hlt hco' _ htab' _ => ?_
    obtain ⟨o1, vs, f1, tf, fl, tg1, inF, tx, tt, op, _, _, _, _, _, _, _, _, _, htr, _⟩ := hco'
    exact cont _ h' tk _ hx (Nat.le_trans hge (Nat.le_of_lt hlt)) htab'.2 ⟨_, rfl⟩ htr
  | some cv =>
    refine wpAny_genexprCode_hit hcode (cd.code hPs ht) hf ?_
    exact cont cv s2.heap s2.toks ps (Heap.ExtBut.refl _ _) (Nat.le_refl _) hPs ⟨#[], by simp⟩ ht
end
end D
end

section
set_option Elab.async false
set_option linter.all false
set_option maxRecDepth 100000
set_option maxHeartbeats 2000000
namespace D
open PySem PySem.Spec PyProof.Rows L2 GenW
open GxR (TabB Tabbed inv_tab sh_eta)

theorem over_gx {A : Around} {elt tg iter : Expr} {ifs : List Expr} {scope : Scope} {pos : Pos} {it acc : Value} {env : Env} : A.over (.compLoop (.GeneratorExp elt [⟨tg, iter, ifs, 0⟩] scope pos) 0 it acc env) [] = A.deeper env := by
  first
    | rfl
    | (obtain ⟨hd, d, fr, gs, u⟩ := A; simp [Around.over, Around.deeper, marksOver, frameCount, unitsOf, envsOf, guardsOf, pushEnvs, pushGuards, Code.envs, Code.env?, Code.isFrame, Code.guards, Code.isGuard, Code.weight, Code.frames, Code.isCreation, Code.isCaller, Code.cUnits])
theorem Room.gx {k : Nat} {A : Around} (r : Room (k + 1) A) (env : Env) : Room k (A.in1.in1.deeper env) :=
  ⟨r.hd, by have := r.dp; show A.depth + 1 + 3 * k + 5 < _; omega, by have := r.un; show A.units + 1 + 1 + 3 + 16 * k + 200 < _; omega⟩
theorem frames_gx {A : Around} {env : Env} {l : List Env} (h : A.frames = some l) : (A.in1.in1.deeper env).frames = some (env :: l) := Around.frames_deeper (show A.in1.in1.frames = some l from h)
/-- any(..), all(..) of a generator expression -/
def tGx (P : Addr) (wi : TI) (g : TG) (tt : TT) (te : TE) (vs : List Nat) (stop : Bool) : TE := fun σ H Q => wi σ H fun J H1 => TabG H1 P ∧ ∀ H2, Tabbed P H1 H2 → ∃ W : Nat → Nat → Hp → Prop, (∃ m, W 0 m H2) ∧ GxT J g tt te (wipe σ vs) vs stop (fun b H' => Q (.bl b) H') W
section
variable {X : Cx} {pins : List (Addr × Obj)} {σ : L2.St} {H4 : Hp} {c P : Addr} {elt tg iter : Expr} {ifs : List Expr} {gpos : Pos} {scope : Scope} {own : List (Str × Nat)} {g : TG} {tt : TT} {te : TE} {k : Nat} {stop : Bool} {Q : VK}
theorem gx_ready {s4 s5 : Shared} {it : Addr} {fp : List Addr} {tn : Nat → Heap → Prop} {J : It} {code : Value} {a gn : Nat} {W : Nat → Nat → Hp → Prop} (hr : Room (k + 1) X.A) (ok : BlkOk X.N X.env.scope scope own) (hN : X.N.Nodup) (hco : scope.isCoroutine = false)
    (hcell : ∀ y ∈ scope.names, y.2 ≠ .cell) (hc : X.calm = true)
    (hg : ∀ (A : Around) (s : Shared) (H : Hp) (cl : List (Str × Addr)) (C : Addr) (code : Value) (fp : List Addr) (pn : List (Addr × Obj)), Room k A → PG (gxc X A s H (genEnv scope cl C code builtinsNs X.env) fp pn) tg g) (ht : ∀ (A : Around) (s : Shared) (H : Hp) (cl : List (Str × Addr)) (C : Addr) (code : Value) (fp : List Addr) (pn : List (Addr × Obj)), Room k A → PTs (gxc X A s H (genEnv scope cl C code builtinsNs X.env) fp pn) ifs tt)
    (hel : ∀ (A : Around) (s : Shared) (H : Hp) (cl : List (Str × Addr)) (C : Addr) (code : Value) (fp : List Addr) (pn : List (Addr × Obj)), Room k A → PE (gxc X A s H (genEnv scope cl C code builtinsNs X.env) fp pn) elt te)
    (M : GxM X pins σ H4 scope elt tg iter ifs gpos it code s4 s5 a gn) (T : Turn X.prog X.w X.K tg J fp it tn) (st : tn 0 s5.heap) (f4 : ∀ b ∈ fp, FpOk X pins H4 b ∧ b < s4.heap.objs.size)
    {m : Nat} (w0 : W 0 m H4) (turn : GxT J g tt te (wipe σ (List.map Prod.snd own)) (List.map Prod.snd own) stop (fun b H' => Q (.bl b) H') W) :
    ∃ Xg : Cx, (∀ s' : Shared, (∃ pl σ' H', Inv Xg pl σ' H' s') → s'.heap.IsGen a gn) ∧ GxS X.prog X.w X.A.in1.in1 (GxY Xg stop fun b H' => Q (.bl b) H') (GxR Xg stop fun b H' => Q (.bl b) H') a gn (m + 1) s5 ∧
      ∀ (b : Bool) (s' : Shared) h', (∀ b o, s'.heap.get? b = some o → h'.get? b = some o) → (∃ pl σ' H', Inv Xg pl σ' H' s' ∧ Q (.bl b) H') → EP X pins σ Q (.bool b) { s' with heap := h' } := by
  obtain ⟨inv, kp, ⟨mm, ns⟩, os, bare, ⟨go, hgo, hcls, ⟨nm, qn, hdat⟩, hsl⟩, lt, gen⟩ := M
  have pg := hg (X.A.in1.in1.deeper (genEnv scope (cloFrom X.env.cells scope.names []) s4.heap.objs.size code builtinsNs X.env)) s4 H4 (cloFrom X.env.cells scope.names []) s4.heap.objs.size code fp [(a, go)] (Room.gx hr _)
  have pt := ht (X.A.in1.in1.deeper (genEnv scope (cloFrom X.env.cells scope.names []) s4.heap.objs.size code builtinsNs X.env)) s4 H4 (cloFrom X.env.cells scope.names []) s4.heap.objs.size code fp [(a, go)] (Room.gx hr _)
  have pe := hel (X.A.in1.in1.deeper (genEnv scope (cloFrom X.env.cells scope.names []) s4.heap.objs.size code builtinsNs X.env)) s4 H4 (cloFrom X.env.cells scope.names []) s4.heap.objs.size code fp [(a, go)] (Room.gx hr _)
  generalize hce : genEnv scope (cloFrom X.env.cells scope.names []) s4.heap.objs.size code builtinsNs X.env = cenv at gen pg pt pe
  have cS : cenv.scope = scope := by rw [← hce]; rfl
  have start : ∀ s'' : Shared, s''.heap = s5.heap → s''.os = s5.os → AllBare s''.gens → Inv (gxc X (X.A.in1.in1.deeper cenv) s4 H4 cenv fp [(a, go)]) [] (wipe σ (List.map Prod.snd own)) H4 s'' := fun s'' e1 e2 e3 => by
    have z := gx_start (A' := X.A.in1.in1.deeper cenv) (code := code) (pn := [(a, go)]) (s' := s'') (m := mm) inv ok hN hcell f4 (show X.A.handled = none from hr.hd) (by rw [hce]; exact frames_gx inv.ok.frames)
      (fun b o e => by rw [e1]; exact kp b o e) (by rw [e1]; exact ns) (e2.trans os) e3 (fun p hp => by
        rw [List.mem_singleton.mp hp, e1]
        exact ⟨hgo, lt, fun v q => by rw [hdat] at q; cases q⟩)
    rw [hce] at z
    exact z
  have hG : ∀ s' : Shared, (∃ pl σ' H', Inv (gxc X (X.A.in1.in1.deeper cenv) s4 H4 cenv fp [(a, go)]) pl σ' H' s') → s'.heap.IsGen a gn := fun s' ⟨pl, σ', H', I'⟩ =>
    ⟨go, nm, qn, (I'.pin (a, go) (List.mem_append_left _ (List.mem_singleton.mpr rfl))).1, hcls, hdat, hsl⟩
  have I5 := start s5 rfl rfl bare
  refine ⟨gxc X (X.A.in1.in1.deeper cenv) s4 H4 cenv fp [(a, go)], hG, ⟨I5.nolimit, hG s5 ⟨_, _, _, I5⟩, bare, _, gen, fun s'' e1 e2 e3 => ⟨rfl, ?_⟩⟩, fun b s' h' hk ⟨pl, σ', H', I', q⟩ => ?_⟩
  · have hsub : wipe (wipe σ (List.map Prod.snd own)) (List.map Prod.snd own) = wipe σ (List.map Prod.snd own) := wipe_twice
    exact seg_gx0 (X := gxc X (X.A.in1.in1.deeper cenv) s4 H4 cenv fp [(a, go)]) (A0 := X.A.in1.in1) over_gx (show cenv.scope.isCoroutine = false by rw [cS]; exact hco) hc rfl T hsub pg pt pe (fun _ _ z => z)
      (fun p hp hm => by
        rw [List.mem_singleton.mp hp] at hm
        exact absurd (Nat.lt_trans lt (f4 _ hm).2) (Nat.lt_irrefl _)) turn m (m + 1) s'' s'' H4 (Nat.lt_succ_self _) (start s'' e1 e2 e3) (by rw [e1]; exact st) (fun b hb => (f4 b hb).1.1) w0
  · have J7 : Inv X pins σ H' s' := inv.call' (ch := fp) I'.os I'.base I'.hok I'.bare fun b hb => ⟨(f4 b hb).1.2.2.2.1, (f4 b hb).1.2.1, (f4 b hb).1.2.2.2.2.1, (f4 b hb).1.2.2.2.2.2⟩
    exact ⟨.bl b, H', J7.kept (t' := s'.toks) hk, rfl, q⟩
theorem pe_gx_any {p pos : Pos} {wi : TI} (hr : Room (k + 1) X.A) (hn : Gl X "any") (hm : X.mg "any" = none) (TB : TabB X.base X.mg c P) (hcode : X.env.code = .ref c) (ok : BlkOk X.N X.env.scope scope own) (hN : X.N.Nodup) (hco : scope.isCoroutine = false)
    (hcell : ∀ y ∈ scope.names, y.2 ≠ .cell) (hdot : scope.names.lookup (".0" : Str) = some NameKind.local) (hc : X.calm = true) (hi : PI X tg iter wi) (hs : ∀ v, genFold iter X.env v = pure v)
    (hg : ∀ (A : Around) (s : Shared) (H : Hp) (cl : List (Str × Addr)) (C : Addr) (code : Value) (fp : List Addr) (pn : List (Addr × Obj)), Room k A → PG (gxc X A s H (genEnv scope cl C code builtinsNs X.env) fp pn) tg g) (ht : ∀ (A : Around) (s : Shared) (H : Hp) (cl : List (Str × Addr)) (C : Addr) (code : Value) (fp : List Addr) (pn : List (Addr × Obj)), Room k A → PTs (gxc X A s H (genEnv scope cl C code builtinsNs X.env) fp pn) ifs tt)
    (hel : ∀ (A : Around) (s : Shared) (H : Hp) (cl : List (Str × Addr)) (C : Addr) (code : Value) (fp : List Addr) (pn : List (Addr × Obj)), Room k A → PE (gxc X A s H (genEnv scope cl C code builtinsNs X.env) fp pn) elt te)
    (he : starEach [.GeneratorExp elt [⟨tg, iter, ifs, 0⟩] scope gpos] X.env = (false, eval (.GeneratorExp elt [⟨tg, iter, ifs, 0⟩] scope gpos) X.env) :: starEach [] X.env := by rfl) :
    PE X (.Call (.Name "any" p) [.GeneratorExp elt [⟨tg, iter, ifs, 0⟩] scope gpos] [] pos) (tGx P wi g tt te (List.map Prod.snd own) true) := by
  refine ⟨fun pins s σ H Q I h => ?_⟩
  refine wpAny_Call_Name_kw (ld_blt I hn hm boot_any ?_)
  refine PyProof.Rows.callWith_builtin1 ?_ he (by rfl)
  rw [he]
  show wpAny _ _ (spliced ((false, eval (.GeneratorExp elt [⟨tg, iter, ifs, 0⟩] scope gpos) X.env) :: backTo pos (starEach [] X.env))) _ _ s
  refine Calls.spliced_cons (gx_make (Rr := fun J H2 => ∃ W : Nat → Nat → Hp → Prop, (∃ m, W 0 m H2) ∧ GxT J g tt te (wipe σ (List.map Prod.snd own)) (List.map Prod.snd own) true (fun b H' => Q (.bl b) H') W) hr TB hcode ok hco hcell hdot hi hs I h fun s4 s5 H4 it fp tn J code a gn M T st f4 hW => ?_)
  obtain ⟨W, ⟨m, w0⟩, turn⟩ := hW
  refine Calls.spliced_nil ?_
  obtain ⟨Xg, hG, S, hE⟩ := gx_ready hr ok hN hco hcell hc hg ht hel M T st f4 w0 turn
  refine call_function_tree F.kind_any F.plain_any F.entry_any (F.args_any1 _) ?_
  unfold Builtin.«any»
  refine wpAny_bind (m := oneArg "any" _) (wpAny_pure ?_)
  refine wpAny_bind (wpAny_pyIter_gen S.gen ?_)
  exact wpAny_pure ⟨plainId_quiet F.plain_any_loop _, gx_any_loop (X := X) (A := X.A) hr.hd hr.depth hG hE _ s5 S⟩
theorem pe_gx_all {p pos : Pos} {wi : TI} (hr : Room (k + 1) X.A) (hn : Gl X "all") (hm : X.mg "all" = none) (TB : TabB X.base X.mg c P) (hcode : X.env.code = .ref c) (ok : BlkOk X.N X.env.scope scope own) (hN : X.N.Nodup) (hco : scope.isCoroutine = false)
    (hcell : ∀ y ∈ scope.names, y.2 ≠ .cell) (hdot : scope.names.lookup (".0" : Str) = some NameKind.local) (hc : X.calm = true) (hi : PI X tg iter wi) (hs : ∀ v, genFold iter X.env v = pure v)
    (hg : ∀ (A : Around) (s : Shared) (H : Hp) (cl : List (Str × Addr)) (C : Addr) (code : Value) (fp : List Addr) (pn : List (Addr × Obj)), Room k A → PG (gxc X A s H (genEnv scope cl C code builtinsNs X.env) fp pn) tg g) (ht : ∀ (A : Around) (s : Shared) (H : Hp) (cl : List (Str × Addr)) (C : Addr) (code : Value) (fp : List Addr) (pn : List (Addr × Obj)), Room k A → PTs (gxc X A s H (genEnv scope cl C code builtinsNs X.env) fp pn) ifs tt)
    (hel : ∀ (A : Around) (s : Shared) (H : Hp) (cl : List (Str × Addr)) (C : Addr) (code : Value) (fp : List Addr) (pn : List (Addr × Obj)), Room k A → PE (gxc X A s H (genEnv scope cl C code builtinsNs X.env) fp pn) elt te)
    (he : starEach [.GeneratorExp elt [⟨tg, iter, ifs, 0⟩] scope gpos] X.env = (false, eval (.GeneratorExp elt [⟨tg, iter, ifs, 0⟩] scope gpos) X.env) :: starEach [] X.env := by rfl) :
    PE X (.Call (.Name "all" p) [.GeneratorExp elt [⟨tg, iter, ifs, 0⟩] scope gpos] [] pos) (tGx P wi g tt te (List.map Prod.snd own) false) := by
  refine ⟨fun pins s σ H Q I h => ?_⟩
  refine wpAny_Call_Name_kw (ld_blt I hn hm PyProof.Rows.boot_all ?_)
  refine PyProof.Rows.callWith_builtin1 ?_ he (by rfl)
  rw [he]
  show wpAny _ _ (spliced ((false, eval (.GeneratorExp elt [⟨tg, iter, ifs, 0⟩] scope gpos) X.env) :: backTo pos (starEach [] X.env))) _ _ s
  refine Calls.spliced_cons (gx_make (Rr := fun J H2 => ∃ W : Nat → Nat → Hp → Prop, (∃ m, W 0 m H2) ∧ GxT J g tt te (wipe σ (List.map Prod.snd own)) (List.map Prod.snd own) false (fun b H' => Q (.bl b) H') W) hr TB hcode ok hco hcell hdot hi hs I h fun s4 s5 H4 it fp tn J code a gn M T st f4 hW => ?_)
  obtain ⟨W, ⟨m, w0⟩, turn⟩ := hW
  refine Calls.spliced_nil ?_
  obtain ⟨Xg, hG, S, hE⟩ := gx_ready hr ok hN hco hcell hc hg ht hel M T st f4 w0 turn
  refine call_function_tree F.kind_all F.plain_all F.entry_all (F.args_all1 _) ?_
  unfold Builtin.«all»
  refine wpAny_bind (m := oneArg "all" _) (wpAny_pure ?_)
  refine wpAny_bind (wpAny_pyIter_gen S.gen ?_)
  exact wpAny_pure ⟨plainId_quiet F.plain_all_loop _, gx_all_loop (X := X) (A := X.A) hr.hd hr.depth hG hE _ s5 S⟩
end
end D
end

section
set_option Elab.async false
set_option linter.all false
set_option maxRecDepth 100000
set_option maxHeartbeats 2000000
namespace D
open PySem PySem.Spec PyProof.Rows L2 GenW
open GxR (TabB Tabbed)

/-! ### any, all of a generator expression -/
def anyL (stop : Bool) (f : Bd) (t : PEnv → Res Bool) (d : PEnv → Res PV) (env : PEnv) : List PV → Res PV
  | [] => .ok (.bl (!stop))
  | x :: xs => match f x env with
    | some e => (t e).bnz fun b => if b = true then (d e).bnz fun y => match y with
        | .bl c => if c = stop then .ok (.bl stop) else anyL stop f t d env xs
        | _ => .bad
      else anyL stop f t d env xs
    | none => .bad
def xAny (stop : Bool) (di : PEnv → Res (List PV)) (f : Bd) (t : PEnv → Res Bool) (d : PEnv → Res PV) (vs : List Nat) : PEnv → Res PV := fun env => (di env).bnd fun xs =>
  if xs.length ≤ sizeLine then (anyL stop f t d (wipeE env vs) xs).bnz .ok else .bad
theorem anyL_bl {stop : Bool} {f : Bd} {t : PEnv → Res Bool} {d : PEnv → Res PV} {env : PEnv} : ∀ {xs : List PV} {p : PV}, anyL stop f t d env xs = .ok p → ∃ r, p = .bl r
  | [], p, h => by cases h; exact ⟨_, rfl⟩
  | x :: xs, p, h => by
    unfold anyL at h
    cases hf : f x env with
    | none => rw [hf] at h; cases h
    | some e =>
      rw [hf] at h
      simp only at h
      cases ht : t e with
      | err _ => rw [ht] at h; cases h
      | bad => rw [ht] at h; cases h
      | ok b =>
        rw [ht] at h
        simp only [Res.bnz] at h
        cases b with
        | false => exact anyL_bl h
        | true =>
          rw [if_pos rfl] at h
          cases hd : d e with
          | err _ => rw [hd] at h; cases h
          | bad => rw [hd] at h; cases h
          | ok y =>
            rw [hd] at h
            cases y with
            | bl c =>
              simp only at h
              by_cases hc : c = stop
              · rw [if_pos hc] at h; cases h; exact ⟨_, rfl⟩
              · rw [if_neg hc] at h; exact anyL_bl h
            | _ => cases h
theorem Ext.tabbed {T : Addr → Prop} {H F H1 F1 H2 : Hp} {P : Addr} (x : Ext T H F H1 F1) (hP : T P) (b : Tabbed P H1 H2) : Ext T H F H2 F1 := by
  obtain ⟨⟨ps, e, r⟩, k⟩ := b
  have n : ∀ a, a ≠ P → H2 a = H1 a := k
  refine ⟨fun a t => ?_, fun a o nt h => ?_, x.f, fun a o h => ?_, x.ft, x.new⟩
  · by_cases q : a = P
    · rw [q]; exact ⟨ps, e, r⟩
    · obtain ⟨ps', e', r'⟩ := x.tabs a t
      exact ⟨ps', by rw [n a q]; exact e', r'⟩
  · rw [n a (fun z => nt (by rw [z]; exact hP))]; exact x.h a o nt h
  · rw [n a (fun z => by rw [z, x.ft P hP] at h; cases h)]; exact x.fh a o h
section
variable {T : Addr → Prop} {W : WX} {ow : List Bool}
theorem gx_ok {di : PEnv → Res (List PV)} {f : Bd} {vs us : List Nat} {t : PEnv → Res Bool} {d : PEnv → Res PV} {σ : L2.St} {H : Hp} {Q : VK} {g : Str → Option Value} {K : PySem.W.Frag} {P : Addr} {stop : Bool} (hP : T P)
    (hv : ∀ i ∈ us, i ∈ vs) (w : tE g K T false W ow (xAny stop di f t d vs) σ H Q) : tGx P (tI g K T false W ow di) (tG g K T ow f ow us) (tT g K T W0 ow t) (tE g K T false W0 ow d) vs stop σ H Q := by
  obtain ⟨H0, F0, env, F, l, w⟩ := w
  refine ⟨H0, F0, env, F, l, wpR_mono (wpR_bnd.mp w) (fun xs w1 => ?_) fun _ z => z⟩
  by_cases hz : xs.length ≤ sizeLine
  · rw [if_pos hz] at w1
    obtain ⟨p, hp, w2⟩ := wpR_bnz w1
    obtain ⟨r, rfl⟩ := anyL_bl hp
    refine ⟨hz, fun J H1 F1 x it => ⟨x.tabs P hP, fun H2 tb => ?_⟩⟩
    rw [if_neg Bool.false_ne_true] at it
    have x2 := x.tabbed hP tb
    have l1 := (l.grow x2).wipe vs
    have s12 : SameT T H1 H2 := fun a o nt h => by rw [tb.2 a (fun z => nt (by rw [z]; exact hP))]; exact h
    refine ⟨fun i m H3 => m = xs.length - i ∧ i ≤ xs.length ∧ ∃ F3, Ext T H2 F1 H3 F3 ∧ anyL stop f t d (wipeE env vs) (xs.drop i) = .ok (.bl r), ⟨_, rfl, Nat.zero_le _, F1, .refl x2.wf, hp⟩, ?_⟩
    rintro i m H3 ⟨rfl, hi, F3, x3, hc⟩
    by_cases hlt : i < xs.length
    · rw [List.drop_eq_getElem_cons hlt] at hc
      unfold anyL at hc
      have hy : xs[i]? = some xs[i] := List.getElem?_eq_getElem hlt
      cases hf : f xs[i] (wipeE env vs) with
      | none => rw [hf] at hc; cases hc
      | some e =>
        rw [hf] at hc
        simp only at hc
        refine .inr ⟨it.go i H3 hlt (s12.trans x3.h), fun H4 => ∃ F4, Ext T H2 F1 H4 F4 ∧ anyL stop f t d (wipeE env vs) (xs.drop (i + 1)) = .ok (.bl r), fun H4 z => ⟨_, by omega, rfl, hlt, z⟩, fun v H4 yl => ?_⟩
        obtain ⟨F4, x4, r4⟩ := it.yld i H3 F3 xs[i] v H4 hy (s12.trans x3.h) x3.f x3.wf yl
        have x24 := x3.trans x4
        refine ⟨H0, F0, _, F4, _, e, l1.grow x24, r4, hf, fun σ2 l2 b2 => ⟨?_, ?_⟩⟩
        · rw [b2 vs hv]
          exact wipe_twice
        · cases ht : t e with
          | err _ => rw [ht] at hc; cases hc
          | bad => rw [ht] at hc; cases hc
          | ok b =>
            rw [ht] at hc
            simp only [Res.bnz] at hc
            refine ⟨H0, F0, e, F4, l2, ?_⟩
            rw [ht]
            intro H5 F5 x5
            have x25 := x24.trans x5
            cases b with
            | false =>
              rw [if_neg Bool.false_ne_true] at hc ⊢
              exact ⟨F5, x25, hc⟩
            | true =>
              rw [if_pos rfl] at hc ⊢
              cases hd : d e with
              | err _ => rw [hd] at hc; cases hc
              | bad => rw [hd] at hc; cases hc
              | ok y =>
                rw [hd] at hc
                simp only at hc
                refine ⟨H0, F0, e, F5, l2.grow x5, ?_⟩
                rw [hd]
                intro u H6 F6 x6 r6
                have x26 := x25.trans x6
                cases y with
                | bl c =>
                  cases r6
                  simp only at hc
                  refine ⟨c, rfl, ?_⟩
                  by_cases hcs : c = stop
                  · rw [if_pos hcs] at hc ⊢
                    cases hc
                    exact w2 _ H6 F6 (x2.trans x26) (.bl _)
                  · rw [if_neg hcs] at hc ⊢
                    exact ⟨F6, x26, hc⟩
                | _ => cases hc
    · have ei : i = xs.length := by omega
      subst ei
      rw [List.drop_length] at hc
      cases hc
      exact .inl ⟨it.stop H3 (s12.trans x3.h), w2 _ H3 F3 (x2.trans x3) (.bl _)⟩
  · rw [if_neg hz] at w1; exact w1.elim
end
section
variable {X : Cx} {T : Addr → Prop} {W : WX} {ow : List Bool} {di : PEnv → Res (List PV)} {f : Bd} {us : List Nat} {t : PEnv → Res Bool} {d : PEnv → Res PV} {c P : Addr} {elt tg iter : Expr} {ifs : List Expr} {gpos : Pos} {scope : Scope} {own : List (Str × Nat)} {k : Nat}
theorem de_any {p pos : Pos} (hr : Room (k + 1) X.A) (hn : Gl X "any") (hm : X.mg "any" = none) (TB : TabB X.base X.mg c P) (hP : T P) (hcode : X.env.code = .ref c) (ok : BlkOk X.N X.env.scope scope own) (hN : X.N.Nodup) (hc : X.calm = true)
    (hi : DI X T false W ow tg iter di)
    (hg : ∀ (A : Around) (s : Shared) (H : Hp) (cl : List (Str × Addr)) (C : Addr) (code : Value) (fp : List Addr) (pn : List (Addr × Obj)), Room k A → DG (gxc X A s H (genEnv scope cl C code builtinsNs X.env) fp pn) T ow tg f ow us)
    (ht : ∀ (A : Around) (s : Shared) (H : Hp) (cl : List (Str × Addr)) (C : Addr) (code : Value) (fp : List Addr) (pn : List (Addr × Obj)), Room k A → DTs (gxc X A s H (genEnv scope cl C code builtinsNs X.env) fp pn) T ow ifs t)
    (hel : ∀ (A : Around) (s : Shared) (H : Hp) (cl : List (Str × Addr)) (C : Addr) (code : Value) (fp : List Addr) (pn : List (Addr × Obj)), Room k A → DE (gxc X A s H (genEnv scope cl C code builtinsNs X.env) fp pn) T W0 ow elt d)
    (hv : ∀ i ∈ us, i ∈ List.map Prod.snd own) (hco : scope.isCoroutine = false := by rfl) (hcell : ∀ y ∈ scope.names, y.2 ≠ .cell := by decide +kernel) (hdot : scope.names.lookup (".0" : Str) = some NameKind.local := by rfl) (hs : ∀ v, genFold iter X.env v = pure v := by intro _; rfl)
    (he : starEach [.GeneratorExp elt [⟨tg, iter, ifs, 0⟩] scope gpos] X.env = (false, eval (.GeneratorExp elt [⟨tg, iter, ifs, 0⟩] scope gpos) X.env) :: starEach [] X.env := by rfl) :
    DE X T W ow (.Call (.Name "any" p) [.GeneratorExp elt [⟨tg, iter, ifs, 0⟩] scope gpos] [] pos) (xAny true di f t d (List.map Prod.snd own)) :=
  (pe_gx_any hr hn hm TB hcode ok hN hco hcell hdot hc hi hs hg ht hel he).imp fun _ _ _ w => gx_ok hP hv w
theorem de_all {p pos : Pos} (hr : Room (k + 1) X.A) (hn : Gl X "all") (hm : X.mg "all" = none) (TB : TabB X.base X.mg c P) (hP : T P) (hcode : X.env.code = .ref c) (ok : BlkOk X.N X.env.scope scope own) (hN : X.N.Nodup) (hc : X.calm = true)
    (hi : DI X T false W ow tg iter di)
    (hg : ∀ (A : Around) (s : Shared) (H : Hp) (cl : List (Str × Addr)) (C : Addr) (code : Value) (fp : List Addr) (pn : List (Addr × Obj)), Room k A → DG (gxc X A s H (genEnv scope cl C code builtinsNs X.env) fp pn) T ow tg f ow us)
    (ht : ∀ (A : Around) (s : Shared) (H : Hp) (cl : List (Str × Addr)) (C : Addr) (code : Value) (fp : List Addr) (pn : List (Addr × Obj)), Room k A → DTs (gxc X A s H (genEnv scope cl C code builtinsNs X.env) fp pn) T ow ifs t)
    (hel : ∀ (A : Around) (s : Shared) (H : Hp) (cl : List (Str × Addr)) (C : Addr) (code : Value) (fp : List Addr) (pn : List (Addr × Obj)), Room k A → DE (gxc X A s H (genEnv scope cl C code builtinsNs X.env) fp pn) T W0 ow elt d)
    (hv : ∀ i ∈ us, i ∈ List.map Prod.snd own) (hco : scope.isCoroutine = false := by rfl) (hcell : ∀ y ∈ scope.names, y.2 ≠ .cell := by decide +kernel) (hdot : scope.names.lookup (".0" : Str) = some NameKind.local := by rfl) (hs : ∀ v, genFold iter X.env v = pure v := by intro _; rfl)
    (he : starEach [.GeneratorExp elt [⟨tg, iter, ifs, 0⟩] scope gpos] X.env = (false, eval (.GeneratorExp elt [⟨tg, iter, ifs, 0⟩] scope gpos) X.env) :: starEach [] X.env := by rfl) :
    DE X T W ow (.Call (.Name "all" p) [.GeneratorExp elt [⟨tg, iter, ifs, 0⟩] scope gpos] [] pos) (xAny false di f t d (List.map Prod.snd own)) :=
  (pe_gx_all hr hn hm TB hcode ok hN hco hcell hdot hc hi hs hg ht hel he).imp fun _ _ _ w => gx_ok hP hv w
end

/-! ### defs that hold a generator expression -/
section
variable {P : Program} {w : World} {K : PySem.W.Frag} {mg : Str → Option Value} {base : Heap} {T : Addr → Prop}
theorem fn_okG {x qual : Str} {st : Stmt} {f c : Addr} {fd : FuncData} {N ps : List Str} {k : Nat} {fr : Bool} {s : PEnv → SR} {ow' : List Bool} (F : Fun K x qual st f fd) (S : FnScope N ps (defScope st)) (hcode : fd.code = .ref c)
    (hbody : ∀ (A : Around) (outer : List PySem.Env) (s0 : Shared) (H : Hp) (E : XK), Room k (A.deeper (envOfC qual (defScope st) s0.heap.objs.size f (.ref c))) →
      DSs (cxOf (L2.CX P w) P w K mg base N qual (defScope st) f (.ref c) A outer s0 H E) T (fun cls d _ H' => E cls d H') fr [] [] (List.replicate N.length false) (defBody st) s ow') :
    FnOk P w K mg base (L2.CX P w) (k + 1) f fd ps (spD mg K T fr (runB fr N.length ps.length s)) := by
  have hlen : ∀ vs H Q E, spD mg K T fr (runB fr N.length ps.length s) vs H Q E → vs.length = ps.length := fun vs H Q E ⟨qs, F, wf, r, w⟩ => by
    unfold runB at w
    by_cases h : qs.length = ps.length
    · rw [r.length]; exact h
    · rw [if_neg h] at w; exact w.elim
  obtain ⟨oc, od, kV, doc, pm, an, cdv, ct, osl, e, lk, hcd⟩ := F.ex
  subst e
  obtain rfl : cdv = .ref c := hcode
  refine fn_of lk hcd S hlen fun A outer s0 H vs Q E hr h => ?_
  refine ⟨_, hbody A outer s0 H E hr, ?_⟩
  obtain ⟨qs, F, wf, r, w⟩ := h
  unfold runB at w
  by_cases hl : qs.length = ps.length
  · rw [if_pos hl] at w
    refine tS_iff.mpr ⟨H, F, mkEnv N.length qs, F, sta_start wf r, ?_⟩
    cases hs : s (mkEnv N.length qs) with
    | rt v => rw [hs] at w; exact fun u H' F' x rt => w u H' F' x rt
    | nx e =>
      rw [hs] at w
      cases fr with
      | true => exact w.elim
      | false => exact fun σ' H' F' l => w .non H' F' l.ext .non
    | er x e => rw [hs] at w; exact fun cls dd σ' H' F' l rx => w cls dd H' F' l.ext rx
    | bk e => rw [hs] at w; exact w.elim
    | ct e => rw [hs] at w; exact w.elim
    | bad => rw [hs] at w; exact w.elim
  · rw [if_neg hl] at w; exact w.elim
end

/-! ### the end, with tables -/
/-- the tables of the defs at the law's call -/
def OwnTabs (K : PySem.W.Frag) (q : Program) (mg : Str → Option Value) (h : Heap) : Prop := ∀ (nm : Str) (fa : Addr) (o : Obj) (fd : FuncData) (c P : Addr) (e : Value) (dd : Option Addr) (vs : Array Value) (sl : Array (Option Value)), ((recsOf q).any fun r => r.name == nm) = true → mg nm = some (.ref fa) →
  K.lookup fa = some o → o.data = .func fd → fd.code = .ref c → K.lookup c = some ⟨e, dd, .fields vs, sl⟩ → vs[11]? = some (.ref P) → h.get? P = some { cls := .none, data := .fields #[] } ∧ PySem.W.CodeHd h c P
theorem walk_tabs {l : PySem.W.OpenLaw} {n k : Nat} {q : Program} {loose : List Str} {XP : (Str → Option Value) → Heap → Prop} {YP : World → Heap → Prop} {d : DefRec} {K : Params → PySem.W.Frag} {CX : World → CXT} {x : Str}
    (hn : l.most = some n) (hn2 : n ≤ sizeLine) (hdf : d.params.defaults = []) (hr : Room k callerA) (hY : ∀ (w : World) (h : Heap), YP w h → (K w.params).In h)
    (F : ∀ (w : World) (mg : Str → Option Value) (fa : Addr) (h : Heap), YP w h → (K w.params).In h → h.Ns mainGlobals mg → mg d.name = some (.ref fa) → OwnTabs (K w.params) q mg h → LamX.LawAtS l w (K w.params) (CX w) k n x mg fa h)
    (hCX : ∀ (w : World) (H : Hp) (s : Shared) (e : Value) (s' : Shared), CX w [] H s (fun _ _ _ => False) e s' → False) :
    PySem.W.WalkO q loose XP YP l.row.toRowW d [] (fun f vs => PySem.call f vs) := by
  refine Att.attach_callB hn hdf fun w s₀ s₁ mg mb fa o pm cd doc a vs ns G Y ho hd hcd hmg hobj hints hlen hbits hg => ?_
  have KX := hY w _ Y
  have own : OwnTabs (K w.params) q mg s₁.heap := fun nm fa1 o1 fd1 c P e dd vs1 sl hrec hm1 k1 k2 k3 k4 k5 => by
    obtain ⟨dL, hm, hn1⟩ := List.any_eq_true.mp hrec
    obtain rfl : dL.name = nm := beq_iff_eq.mp hn1
    obtain ⟨a', o', fd', c', P', h1, h2, h3, h4, h5, h6⟩ := G.T.tab dL hm
    rw [hm1] at h1
    cases h1
    have g1 := KX _ _ k1
    rw [g1] at h2
    cases h2
    rw [k2] at h3
    cases h3
    rw [k3] at h4
    cases h4
    have hC := PySem.W.CodeHd.of h5 h6
    obtain ⟨⟨oc, vc, e1, _, e3, e4⟩, hP⟩ := h6
    have g2 := KX _ _ k4
    rw [g2] at e1
    cases e1
    cases e3
    rw [k5] at e4
    cases e4
    exact ⟨hP, hC⟩
  obtain ⟨fd, cs, sp, hT, nT, C, hb, hsp, hF⟩ := F w mg fa _ Y KX G.T.g hmg own
  exact LamX.law_callTs KX G.T.g G.T.b G.T.builtins G.T.nolimit hg hT nT C G.T.bmain hobj hints (Nat.le_trans hlen hn2) hr hF hb (fun H hH hS => hsp H a ns hlen hbits hH hS) fun H e s' => hCX w H s₁ e s'
/-- the law: its promise out of what it computes -/
theorem law_atT {l : PySem.W.OpenLaw} {w : World} {K : PySem.W.Frag} {k n : Nat} {x : Str} {mg : Str → Option Value} {fa : Addr} {h : Heap} {fd : FuncData} {d : List PV → Res PV} (cs : List (Addr × Addr))
    (hT : ∀ p ∈ cs, h.get? p.2 = some { cls := .none, data := .fields #[] }) (nT : ∀ p ∈ cs, K.lookup p.2 = none) (C : ∀ p ∈ cs, PySem.W.CodeHd h p.1 p.2)
    (hb : ∀ (s : Shared) (u : Value), BindsTo s fd ⟨[u], []⟩ [(x, u)])
    (main : ∀ ns : List Int, ns.length ≤ n → (∀ z ∈ ns, Builtin.Int.intBits z ≤ 1048576) → d [.scr ns] = .ok (.bl true))
    (F : ∀ base : Heap, K.In base → base.Ns mainGlobals mg → (∀ p ∈ cs, TabB base mg p.1 p.2) → FnOk l.prog w K mg base (L2.CX l.prog w) k fa fd [x] (spD mg K (fun a => a ∈ cs.map (·.2)) false d)) :
    LamX.LawAtS l w K (L2.CX l.prog w) k n x mg fa h := by
  refine ⟨fd, cs, spD mg K (fun a => a ∈ cs.map (·.2)) false d, hT, nT, C, hb, fun H a ns hl hz hH hS => ?_, fun base h1 h2 h3 => F base h1 h2 fun p hp => ⟨(h3 p hp).code, (h3 p hp).bm, (h3 p hp).gP⟩⟩
  have isT : ∀ b, b ∈ cs.map (·.2) → H b = some (.tbl #[]) := fun b hb => by
    obtain ⟨p, hp, e⟩ := List.mem_map.mp hb
    rw [← e]; exact hH p hp
  have S2 : SqL K (fun b => if b ∈ cs.map (·.2) then none else H b) a (ns.map V.int) := by
    have nt : ∀ {o}, H a = some o → (∀ q, o ≠ .tbl q) → a ∉ cs.map (·.2) := fun {o} e q z => by
      rw [isT a z] at e
      exact q _ (Option.some.inj e).symm
    rcases hS with (e | ⟨o, e⟩) | e
    · exact .inl (.inl (by show (if _ then _ else _) = _; rw [if_neg (nt e fun q z => by cases z)]; exact e))
    · exact .inl (.inr ⟨o, by show (if _ then _ else _) = _; rw [if_neg (nt e fun q z => by cases z)]; exact e⟩)
    · exact .inr e
  refine ⟨[.scr ns], fun b => if b ∈ cs.map (·.2) then none else H b, ⟨fun b t => ⟨#[], isT b t, by simp [TriplesOk]⟩, fun b o e => ?_, fun b t => if_pos t⟩, .cons (.scr S2) .nil, ?_⟩
  · by_cases t : b ∈ cs.map (·.2)
    · rw [show (if b ∈ cs.map (·.2) then none else H b) = none from if_pos t] at e; cases e
    · rw [show (if b ∈ cs.map (·.2) then none else H b) = H b from if_neg t] at e; exact e
  rw [main ns hl hz]
  rintro v H' F' x r
  cases r
  rfl
end D
end

section
set_option Elab.async false
set_option linter.all false
set_option maxRecDepth 100000
set_option maxHeartbeats 1000000
namespace D
open PySem PySem.Spec PyProof.Rows L2

/-! ### more operators -/
section
variable {g : Str → Option Value} {K : PySem.W.Frag} {T : Addr → Prop}
/-- what is new may be frozen at once -/
theorem OpS.frz {r : R2} {f : F2} (h : OpS g K T true r f) : OpS g K T false r f := by
  intro H F x y p q z Q w rx ry hz hq
  refine h H F x y p q z Q w rx ry hz fun v H' F' e rt => ?_
  obtain ⟨a, o, rfl, h1, h2, h3, h4⟩ := rt
  have nt : ¬ T a := fun t => tab_ne w.tabs t h3
  refine hq _ H' (upd F' a o) ⟨e.tabs, e.h, fun b u q => ?_, fun b u q => ?_, fun b t => ?_, fun b n1 n2 => ?_⟩ ?_
  · rw [upd_ne (fun z => by rw [z] at q; rw [e.f a u q] at h4; cases h4)]; exact e.f b u q
  · by_cases hb : b = a
    · rw [hb, upd_same] at q; cases q; rw [hb]; exact h1
    · rw [upd_ne hb] at q; exact e.fh b u q
  · rw [upd_ne (fun z => nt (by rw [← z]; exact t))]; exact e.ft b t
  · rw [upd_ne (fun z => n1 (by rw [z]; exact h3))]; exact e.new b n1 n2
  · exact (h2.mono (fun b u q => by rw [upd_ne (fun z => by rw [z, h4] at q; cases q)]; exact q)).rep upd_same
/-- + of whatever can be added -/
def pyAddU : F2
  | .lst a, .lst b => pyCat (.lst a) (.lst b)
  | .tup a, .tup b => pyCatT (.tup a) (.tup b)
  | x, y => pyAdd x y
def rAddU (K : PySem.W.Frag) : R2 := fun x y H Q => (rAddIS x y H Q ∨ rCat x y H Q) ∨ rCatA K x y H Q
theorem op_addU {X : Cx} : OpR X (binaryOp .Add) (rAddU X.K) := (op_addIS.or op_cat).or op_catA
theorem o_addU : OpS g K T false (rAddU K) pyAddU := by
  intro H F x y p q z Q w rx ry hz hq
  unfold pyAddU at hz
  split at hz
  · exact .inl (.inr (OpS.frz o_cat H F x y _ _ z Q w rx ry hz hq))
  · exact .inr (o_catT H F x y _ _ z Q w rx ry hz hq)
  · exact .inl (.inl (o_add H F x y _ _ z Q w rx ry hz hq))
def pyMulU : F2
  | .str a, y => pyRepS (.str a) y
  | x, y => pyMulI x y
/-! ### lists of ints -/
def intsOf : List PV → Option (List Int)
  | [] => some []
  | .int i :: r => (intsOf r).map (i :: ·)
  | _ => none
theorem intsOf_map : ∀ ns : List Int, intsOf (ns.map .int) = some ns
  | [] => rfl
  | n :: ns => by
    show (intsOf (ns.map .int)).map (n :: ·) = _
    rw [intsOf_map ns]; rfl
theorem intsOf_eq : ∀ {xs : List PV} {ns : List Int}, intsOf xs = some ns → xs = ns.map .int
  | [], _, e => by cases e; rfl
  | x :: xs, ns, e => by
    cases x with
    | int i =>
      obtain ⟨ms, e1, rfl⟩ := Option.map_eq_some_iff.mp (show (intsOf xs).map (i :: ·) = some ns from e)
      rw [intsOf_eq e1]; rfl
    | _ => cases e
theorem reps_intsV {F : Hp} : ∀ {vs : List V} {ns : List Int}, Reps g K F vs (ns.map .int) → vs = ns.map V.int
  | _, [], .nil => rfl
  | _, n :: ns, .cons (.int _) t => by rw [reps_intsV t]; rfl
theorem ints_rep {F : Hp} {vs : List V} {xs : List PV} {ns : List Int} (r : Reps g K F vs xs) (e : intsOf xs = some ns) : vs = ns.map V.int := by
  have := intsOf_eq e
  subst this
  exact reps_intsV r
/-- a list, rising -/
def sortI (ns : List Int) : List Int := ns.mergeSort fun a b => decide (a ≤ b)
theorem sortI_perm (ns : List Int) : (sortI ns).Perm ns := List.mergeSort_perm ns _
theorem sortI_sorted (ns : List Int) : (sortI ns).Pairwise (· ≤ ·) := by
  have := List.pairwise_mergeSort (le := fun a b : Int => decide (a ≤ b)) (fun a b c h1 h2 => by simp only [decide_eq_true_eq] at *; omega) (fun a b => by simp only [Bool.or_eq_true, decide_eq_true_eq]; omega) ns
  exact this.imp fun h => of_decide_eq_true h
theorem sorted_unique : ∀ {l m : List Int}, l.Perm m → l.Pairwise (· ≤ ·) → m.Pairwise (· ≤ ·) → l = m
  | [], m, p, _, _ => (List.nil_perm.mp p).symm
  | a :: l, [], p, _, _ => by cases (List.perm_nil.mp p)
  | a :: l, b :: m, p, h1, h2 => by
    have ha : ∀ x ∈ l, a ≤ x := fun x hx => (List.pairwise_cons.mp h1).1 x hx
    have hb : ∀ x ∈ m, b ≤ x := fun x hx => (List.pairwise_cons.mp h2).1 x hx
    have e1 : a ≤ b := by
      rcases List.mem_cons.mp (p.symm.subset (List.mem_cons_self ..)) with q | q
      · omega
      · exact ha b q
    have e2 : b ≤ a := by
      rcases List.mem_cons.mp (p.subset (List.mem_cons_self ..)) with q | q
      · omega
      · exact hb a q
    obtain rfl : a = b := by omega
    rw [sorted_unique (List.Perm.cons_inv p) (List.pairwise_cons.mp h1).2 (List.pairwise_cons.mp h2).2]
theorem sortI_eq {ns ms : List Int} (p : ms.Perm ns) (h : ms.Pairwise (· ≤ ·)) : ms = sortI ns := sorted_unique (p.trans (sortI_perm ns).symm) h (sortI_sorted ns)
def pySorted : List PV → Option PV
  | [.lst xs] => (intsOf xs).map fun ns => .lst ((sortI ns).map .int)
  | _ => none
theorem c_sorted : CallS g K T true (rSortedI K) pySorted := by
  intro H F xs ps z Q w rs hz hq
  unfold pySorted at hz
  split at hz
  · obtain ⟨ns, e1, rfl⟩ := Option.map_eq_some_iff.mp hz
    rcases rs with _ | ⟨r, _ | _⟩
    obtain ⟨a, vs, rfl, hs, rr⟩ := r.lst w
    obtain rfl := ints_rep rr e1
    refine ⟨a, ns, rfl, hs, fun ns' p hp hs' np => ?_⟩
    rw [sortI_eq hp hs']
    obtain ⟨e, r⟩ := fresh_lst w (reps_ints (g := g) (K := K) (F := F) (sortI ns)) np
    exact hq _ _ _ e r
  · cases hz
/-- sorted(xs, reverse=True) -/
def pySortedR : List PV → Option PV
  | [.lst xs] => (intsOf xs).map fun ns => .lst ((sortI ns).reverse.map .int)
  | _ => none
end
section
variable {X : Cx} {T : Addr → Prop} {W : WX} {ow : List Bool} {e : Expr} {ds : PEnv → Res (List PV)} {pos p kpos cp : Pos} {jj : Nat}
theorem df_sortedR (hg : Gl X "sorted") (hm : X.mg "sorted" = none) (hv : bootBuiltins "sorted" = some (.builtin "sorted")) (ha : DAR X T W ow [e] ds)
    (he : backTo pos (starEach [e] X.env) = (false, eval e X.env) :: backTo pos (starEach [] X.env) := by rfl) (hpl : (backTo pos (starEach [e] X.env)).any (·.1) = false := by rfl)
    (hall : (backToKw pos (keywordEach [⟨some (Str.ofString "reverse"), .Constant (.bool true) jj cp, kpos⟩] X.env)).all (·.1.isSome) = true := by rfl) (hnone : (backToKw pos (keywordEach [⟨some (Str.ofString "reverse"), .Constant (.bool true) jj cp, kpos⟩] X.env)).any (·.1.isNone) = false := by rfl)
    (hks : (backToKw pos (keywordEach [⟨some (Str.ofString "reverse"), .Constant (.bool true) jj cp, kpos⟩] X.env)).filterMap (·.1) = [Str.ofString "reverse"] := by rfl) :
    DF X T W ow (.Call (.Name "sorted" p) [e] [⟨some (Str.ofString "reverse"), .Constant (.bool true) jj cp, kpos⟩] pos) (xCall pySortedR ds) :=
  (pe_callBK (cr_sortedRev (b := true)) hg hm hv ha (pk_cons pe_bl pk_nil) (by decide) (by decide) he hpl hall hnone hks).imp fun σ H Q ⟨H0, F0, env, F, l, w⟩ => by
    refine ⟨H0, F0, env, F, l, wpR_mono (wpR_bnd.mp w) (fun ps w1 vs H1 F1 e1 rs => ?_) fun _ z => z⟩
    obtain ⟨z, hz, w2⟩ := wpR_ofO w1
    unfold pySortedR at hz
    split at hz
    · obtain ⟨ns, q1, rfl⟩ := Option.map_eq_some_iff.mp hz
      rcases rs with _ | ⟨r, _ | _⟩
      obtain ⟨a, vs, rfl, hs, rr⟩ := r.lst e1.wf
      obtain rfl := ints_rep rr q1
      refine ⟨a, ns, rfl, rfl, hs, fun ns' p hp hs' np => ?_⟩
      have hs2 : ns'.reverse.Pairwise (· ≤ ·) := List.pairwise_reverse.mpr hs'
      have : ns' = (sortI ns).reverse := by
        rw [← sortI_eq ((List.reverse_perm _).trans hp) hs2, List.reverse_reverse]
      rw [this]
      obtain ⟨x, r⟩ := fresh_lst e1.wf (reps_ints (g := X.mg) (K := X.K) (F := F1) (sortI ns).reverse) np
      exact w2 _ _ _ (e1.trans x) (r.back e1)
    · cases hz
end
end D
end

section
set_option Elab.async false
set_option linter.all false
set_option maxRecDepth 100000
set_option maxHeartbeats 1000000
namespace D
open PySem PySem.Spec PyProof.Rows L2

/-! ### in -/
section
variable {g : Str → Option Value} {K : PySem.W.Frag} {T : Addr → Prop}
def pyInU (neg : Bool) : F2
  | .str a, .str z => if a.cps.size = 1 then some (.bl (if neg then !decide (a.cps.getD 0 0 ∈ z.cps.toList) else decide (a.cps.getD 0 0 ∈ z.cps.toList))) else none
  | x, .lst ys => (toD x).bind fun d => (toDs ys).bind fun ds => if SeqAt.shaped d = true ∧ SeqAt.shaped (.list ds) = true then some (.bl (if neg then !(ds.any fun z => PyData.eqv z d) else ds.any fun z => PyData.eqv z d)) else none
  | x, .tup ys => if scalarP x = true ∧ ys.all scalarP = true then some (.bl (if neg then !inV (sV x) (ys.map sV) else inV (sV x) (ys.map sV))) else none
  | _, _ => none
def rInU (K : PySem.W.Frag) : R2 := fun x y H Q => ((∃ (c : Nat) (z : Str), x = .str ⟨#[c]⟩ ∧ y = .str z ∧ Q (.bl (decide (c ∈ z.cps.toList))) H) ∨ rInD K x y H Q) ∨ rIn K false x y H Q
def rNotInU (K : PySem.W.Frag) : R2 := fun x y H Q => ((∃ (c : Nat) (z : Str), x = .str ⟨#[c]⟩ ∧ y = .str z ∧ Q (.bl (!decide (c ∈ z.cps.toList))) H) ∨ rNotInD K x y H Q) ∨ rIn K true x y H Q
theorem op_inU {X : Cx} (hu : X.A.units + 65 < cLine) : OpR X (compareOp .In) (rInU X.K) := (op_in_sign.or (op_inD hu)).or op_in_seq
theorem op_notInU {X : Cx} (hu : X.A.units + 65 < cLine) : OpR X (compareOp .NotIn) (rNotInU X.K) := (op_notIn_sign.or (op_notInD hu)).or op_notIn_seq
theorem scal_flat {F : Hp} {v : V} {x : PV} (r : Rep g K F v x) (h : scalarP x = true) : v = sV x ∧ flatV v = true := by
  cases r <;> first | exact ⟨rfl, rfl⟩ | cases h
theorem scal_flats {F : Hp} : ∀ {vs : List V} {xs : List PV}, Reps g K F vs xs → xs.all scalarP = true → vs = xs.map sV ∧ vs.all flatV = true
  | _, _, .nil, _ => ⟨rfl, rfl⟩
  | _, _, .cons r t, h => by
    rw [List.all_cons, Bool.and_eq_true] at h
    obtain ⟨e1, f1⟩ := scal_flat r h.1
    obtain ⟨e2, f2⟩ := scal_flats t h.2
    exact ⟨by rw [List.map_cons, ← e1, ← e2], by rw [List.all_cons, f1, f2]; rfl⟩
theorem one_sign {a : Str} (h : a.cps.size = 1) : a = ⟨#[a.cps.getD 0 0]⟩ := by
  obtain ⟨⟨l⟩⟩ := a
  match l, h with
  | [c], _ => rfl
theorem RepT.scal {H F : Hp} {v : V} {x : PV} (rx : RepT g K T H F v x) (h : scalarP x = true) : v = sV x ∧ flatV v = true := by
  rcases rx with rx | ⟨a, o, rfl, h2, h3, h4⟩
  · exact scal_flat rx h
  · cases h3 <;> cases h
theorem o_inU : OpS g K T false (rInU K) (pyInU false) := by
  intro H F x y p q z Q w rx ry hz hq
  unfold pyInU at hz
  split at hz
  · rename_i a s
    obtain ⟨hc, rfl⟩ := some_if hz
    rw [rx.str, ry.str]
    exact .inl (.inl ⟨_, _, congrArg V.str (one_sign hc), rfl, hq _ H F (.refl w) (.bl _)⟩)
  · rename_i ys
    obtain ⟨d, e1, hz⟩ := Option.bind_eq_some_iff.mp hz
    obtain ⟨ds, e2, hz⟩ := Option.bind_eq_some_iff.mp hz
    obtain ⟨hc, rfl⟩ := some_if hz
    exact .inl (.inr ⟨d, ds, rx.D w e1, ry.D w (by show (toDs ys).map PyData.list = _; rw [e2]; rfl), hc.1, hc.2, hq _ H F (.refl w) (.bl _)⟩)
  · rename_i ys
    obtain ⟨hc, rfl⟩ := some_if hz
    obtain ⟨a, vs, rfl, hs, rr⟩ := ry.tup w
    obtain ⟨e1, f1⟩ := rx.scal hc.1
    obtain ⟨e2, f2⟩ := scal_flats rr hc.2
    rw [e1] at f1 ⊢
    rw [e2] at f2 hs
    exact .inr ⟨a, _, rfl, .inr hs, f1, f2, hq _ H F (.refl w) (.bl _)⟩
  · cases hz
theorem o_notInU : OpS g K T false (rNotInU K) (pyInU true) := by
  intro H F x y p q z Q w rx ry hz hq
  unfold pyInU at hz
  split at hz
  · rename_i a s
    obtain ⟨hc, rfl⟩ := some_if hz
    rw [rx.str, ry.str]
    exact .inl (.inl ⟨_, _, congrArg V.str (one_sign hc), rfl, hq _ H F (.refl w) (.bl _)⟩)
  · rename_i ys
    obtain ⟨d, e1, hz⟩ := Option.bind_eq_some_iff.mp hz
    obtain ⟨ds, e2, hz⟩ := Option.bind_eq_some_iff.mp hz
    obtain ⟨hc, rfl⟩ := some_if hz
    exact .inl (.inr ⟨d, ds, rx.D w e1, ry.D w (by show (toDs ys).map PyData.list = _; rw [e2]; rfl), hc.1, hc.2, hq _ H F (.refl w) (.bl _)⟩)
  · rename_i ys
    obtain ⟨hc, rfl⟩ := some_if hz
    obtain ⟨a, vs, rfl, hs, rr⟩ := ry.tup w
    obtain ⟨e1, f1⟩ := rx.scal hc.1
    obtain ⟨e2, f2⟩ := scal_flats rr hc.2
    rw [e1] at f1 ⊢
    rw [e2] at f2 hs
    exact .inr ⟨a, _, rfl, .inr hs, f1, f2, hq _ H F (.refl w) (.bl _)⟩
  · cases hz
/-! ### sum, max, min -/
def pySum : List PV → Option PV
  | [.lst xs] => (intsOf xs).map fun ns => .int ns.sum
  | _ => none
theorem c_sum : CallS g K T false (rSum K) pySum := by
  intro H F xs ps z Q w rs hz hq
  unfold pySum at hz
  split at hz
  · obtain ⟨ns, e1, rfl⟩ := Option.map_eq_some_iff.mp hz
    rcases rs with _ | ⟨r, _ | _⟩
    obtain ⟨a, vs, rfl, hs, rr⟩ := r.lst w
    obtain rfl := ints_rep rr e1
    exact ⟨a, ns, rfl, hs, hq _ H F (.refl w) (.int _)⟩
  · cases hz
/-- the greatest, the least of ints -/
def maxI : List Int → Int
  | [] => 0
  | [n] => n
  | n :: m :: r => max n (maxI (m :: r))
def minI : List Int → Int
  | [] => 0
  | [n] => n
  | n :: m :: r => min n (minI (m :: r))
theorem maxI_mem : ∀ {ns : List Int}, ns ≠ [] → maxI ns ∈ ns ∧ ∀ y ∈ ns, y ≤ maxI ns
  | [], h => absurd rfl h
  | [n], _ => ⟨List.mem_singleton.mpr rfl, fun y hy => by rw [List.mem_singleton.mp hy]; exact Int.le_refl _⟩
  | n :: m :: r, _ => by
    obtain ⟨h1, h2⟩ := maxI_mem (ns := m :: r) (List.cons_ne_nil _ _)
    show max n (maxI (m :: r)) ∈ _ ∧ ∀ y ∈ n :: m :: r, y ≤ max n (maxI (m :: r))
    refine ⟨?_, fun y hy => ?_⟩
    · rcases Int.le_total n (maxI (m :: r)) with q | q
      · rw [Int.max_eq_right q]; exact List.mem_cons_of_mem _ h1
      · rw [Int.max_eq_left q]; exact List.mem_cons_self ..
    · rcases List.mem_cons.mp hy with rfl | hy
      · omega
      · have := h2 y hy; omega
theorem minI_mem : ∀ {ns : List Int}, ns ≠ [] → minI ns ∈ ns ∧ ∀ y ∈ ns, minI ns ≤ y
  | [], h => absurd rfl h
  | [n], _ => ⟨List.mem_singleton.mpr rfl, fun y hy => by rw [List.mem_singleton.mp hy]; exact Int.le_refl _⟩
  | n :: m :: r, _ => by
    obtain ⟨h1, h2⟩ := minI_mem (ns := m :: r) (List.cons_ne_nil _ _)
    show min n (minI (m :: r)) ∈ _ ∧ ∀ y ∈ n :: m :: r, min n (minI (m :: r)) ≤ y
    refine ⟨?_, fun y hy => ?_⟩
    · rcases Int.le_total n (minI (m :: r)) with q | q
      · rw [Int.min_eq_left q]; exact List.mem_cons_self ..
      · rw [Int.min_eq_right q]; exact List.mem_cons_of_mem _ h1
    · rcases List.mem_cons.mp hy with rfl | hy
      · omega
      · have := h2 y hy; omega
def pyMax : List PV → Option PV
  | [.int i, .int j] => some (.int (if j > i then j else i))
  | [.lst xs] => (intsOf xs).bind fun ns => if 0 < ns.length then some (.int (maxI ns)) else none
  | _ => none
def pyMin : List PV → Option PV
  | [.int i, .int j] => some (.int (if j < i then j else i))
  | [.lst xs] => (intsOf xs).bind fun ns => if 0 < ns.length then some (.int (minI ns)) else none
  | _ => none
theorem c_max : CallS g K T false (fun xs H Q => (∃ i j, xs = [.int i, .int j] ∧ Q (.int (if j > i then j else i)) H) ∨ rMax K xs H Q) pyMax := by
  intro H F xs ps z Q w rs hz hq
  unfold pyMax at hz
  split at hz
  · cases hz
    rcases rs with _ | ⟨r, _ | ⟨r2, _ | _⟩⟩
    rw [r.int, r2.int]
    exact .inl ⟨_, _, rfl, hq _ H F (.refl w) (.int _)⟩
  · obtain ⟨ns, e1, hz⟩ := Option.bind_eq_some_iff.mp hz
    obtain ⟨hc, rfl⟩ := some_if hz
    rcases rs with _ | ⟨r, _ | _⟩
    obtain ⟨a, vs, rfl, hs, rr⟩ := r.lst w
    obtain rfl := ints_rep rr e1
    refine .inr ⟨a, ns, rfl, hs, hc, fun m h1 h2 => ?_⟩
    have hne : ns ≠ [] := List.length_pos_iff.mp hc
    obtain ⟨g1, g2⟩ := maxI_mem hne
    have : m = maxI ns := by have := h2 _ g1; have := g2 _ h1; omega
    rw [this]
    exact hq _ H F (.refl w) (.int _)
  · cases hz
theorem c_min : CallS g K T false (fun xs H Q => (∃ i j, xs = [.int i, .int j] ∧ Q (.int (if j < i then j else i)) H) ∨ rMin K xs H Q) pyMin := by
  intro H F xs ps z Q w rs hz hq
  unfold pyMin at hz
  split at hz
  · cases hz
    rcases rs with _ | ⟨r, _ | ⟨r2, _ | _⟩⟩
    rw [r.int, r2.int]
    exact .inl ⟨_, _, rfl, hq _ H F (.refl w) (.int _)⟩
  · obtain ⟨ns, e1, hz⟩ := Option.bind_eq_some_iff.mp hz
    obtain ⟨hc, rfl⟩ := some_if hz
    rcases rs with _ | ⟨r, _ | _⟩
    obtain ⟨a, vs, rfl, hs, rr⟩ := r.lst w
    obtain rfl := ints_rep rr e1
    refine .inr ⟨a, ns, rfl, hs, hc, fun m h1 h2 => ?_⟩
    have hne : ns ≠ [] := List.length_pos_iff.mp hc
    obtain ⟨g1, g2⟩ := minI_mem hne
    have : m = minI ns := by have := h2 _ g1; have := g2 _ h1; omega
    rw [this]
    exact hq _ H F (.refl w) (.int _)
  · cases hz
/-! ### bit_length -/
def pyBits : PV → Option PV
  | .int i => some (.int (Builtin.Int.intBits i : Nat))
  | _ => none
end
section
variable {X : Cx} {T : Addr → Prop} {W : WX} {ow : List Bool} {e o a b : Expr} {d da db : PEnv → Res PV} {pos p p2 apos : Pos}
theorem call_maxU (hc : X.calm = true) : CallR X (.builtin "max") (fun xs H Q => (∃ i j, xs = [.int i, .int j] ∧ Q (.int (if j > i then j else i)) H) ∨ rMax X.K xs H Q) := (call_max2 hc).or (cr_max hc)
theorem call_minU (hc : X.calm = true) : CallR X (.builtin "min") (fun xs H Q => (∃ i j, xs = [.int i, .int j] ∧ Q (.int (if j < i then j else i)) H) ∨ rMin X.K xs H Q) := (call_min2 hc).or (cr_min hc)
theorem de_bits (ho : DR X T W ow o d) (hbase : attributeBase o "bit_length" X.env (eval o X.env) = eval o X.env := by rfl) (hline : (apos.endLine == pos.line) = true := by rfl) : DE X T W ow (.Call (.Attribute o "bit_length" apos) [] [] pos) (xUn pyBits d) :=
  (pe_bits ho hbase hline).imp fun σ H Q ⟨H0, F0, env, F, l, w⟩ => by
    refine ⟨H0, F0, env, F, l, wpR_mono (wpR_bnd.mp w) (fun p w1 v H1 F1 e1 r1 => ?_) fun _ z => z⟩
    obtain ⟨z, hz, w2⟩ := wpR_ofO w1
    unfold pyBits at hz
    split at hz
    · cases hz
      exact ⟨_, r1.int, w2 _ H1 F1 e1 (.int _)⟩
    · cases hz
/-! ### list(range(..)) -/
def pyLRg1 : PV → Option PV
  | .int n => if 0 ≤ n ∧ n ≤ 16777216 then some (.lst (rangeL 0 n.toNat)) else none
  | _ => none
theorem rg_reps {g : Str → Option Value} {K : PySem.W.Frag} {F : Hp} {a b : Int} : Reps g K F (rgV a b) (rangeL a (b - a).toNat) := by
  unfold rgV rangeL
  generalize (List.range (b - a).toNat) = l
  induction l with
  | nil => exact .nil
  | cons x l ih => exact .cons (.int _) ih
theorem df_lrg1 (hc : X.calm = true) (hg : Gl X "list") (hm : X.mg "list" = none) (hgr : Gl X "range") (hmr : X.mg "range" = none) (ha : DE X T W ow a d)
    (na : starEach [a] X.env = (false, eval a X.env) :: starEach [] X.env := by rfl) (ne : starEach [.Call (.Name "range" p2) [a] [] apos] X.env = (false, eval (.Call (.Name "range" p2) [a] [] apos) X.env) :: starEach [] X.env := by rfl) :
    DF X T W ow (.Call (.Name "list" p) [.Call (.Name "range" p2) [a] [] apos] [] pos) (xUn pyLRg1 d) :=
  (pe_listRg hc hg hm (prg_1 hgr hmr ha na) ne).imp fun σ H Q ⟨H0, F0, env, F, l, w⟩ => by
    refine ⟨H0, F0, env, F, l, wpR_mono (wpR_bnd.mp w) (fun p w1 v H1 F1 e1 r1 => ?_) fun _ z => z⟩
    obtain ⟨z, hz, w2⟩ := wpR_ofO w1
    unfold pyLRg1 at hz
    split at hz
    · rename_i n
      obtain ⟨hn, rfl⟩ := some_if hz
      cases r1
      refine ⟨n, rfl, ?_, fun q nq => ?_⟩
      · exact RgOk.of_le (by omega) hn.2 (by omega) hn.1
      · obtain ⟨x, r⟩ := fresh_lst e1.wf (rg_reps (g := X.mg) (K := X.K) (F := F1) (a := 0) (b := n)) nq
        rw [show (n - 0).toNat = n.toNat by omega] at r
        exact w2 _ _ _ (e1.trans x) (r.back e1)
    · cases hz
end
end D
end

section
set_option Elab.async false
set_option linter.all false
set_option maxRecDepth 100000
set_option maxHeartbeats 1000000
namespace D
open PySem PySem.Spec PyProof.Rows L2

theorem _root_.L2.Room.units1 {k : Nat} {A : Around} (r : Room k A) : A.units + 65 < cLine := by have := r.un; omega
/-! ### stores to items of an owned list -/
def tGH (g : Str → Option Value) (K : PySem.W.Frag) (T : Addr → Prop) (ow : List Bool) (f : Bd) (ow' : List Bool) : TG := fun v σ H Q => ∃ H0 F0 env F x e, Sta g K T H0 F0 ow env σ H F ∧ Rep g K F v x ∧ f x env = some e ∧ ∀ σ' H' F', Sta g K T H0 F0 ow' e σ' H' F' → Same F F' → Q σ' H'
def tGsH (g : Str → Option Value) (K : PySem.W.Frag) (T : Addr → Prop) (ow : List Bool) (f : Bds) (ow' : List Bool) : TGs := fun us σ H Q => ∃ H0 F0 env F xs e, Sta g K T H0 F0 ow env σ H F ∧ Reps g K F us xs ∧ f xs env = some e ∧ ∀ σ' H' F', Sta g K T H0 F0 ow' e σ' H' F' → Same F F' → Q σ' H'
abbrev DGH (X : Cx) (T : Addr → Prop) (ow : List Bool) (tg : Expr) (f : Bd) (ow' : List Bool) : Prop := PG X tg (tGH X.mg X.K T ow f ow')
abbrev DGsH (X : Cx) (T : Addr → Prop) (ow : List Bool) (tg : List Expr) (f : Bds) (ow' : List Bool) : Prop := PGs X tg (tGsH X.mg X.K T ow f ow')
section
variable {X : Cx} {T : Addr → Prop} {W : WX} {oe ol ow ow' ow1 ow2 : List Bool} {fr st : Bool} {tg e o a b c : Expr} {es : List Expr} {rest s1 s2 : List Stmt} {d da db : PEnv → Res PV} {pos : Pos} {f : Bd} {h : Bds} {vs : List Nat}
theorem dgh_of (hg : DG X T ow tg f ow1 vs) : DGH X T ow tg f ow1 := hg.imp fun v σ H Q ⟨H0, F0, env, F, x, e, l, r, hf, w⟩ => ⟨H0, F0, env, F, x, e, l, r, hf, fun σ' l' _ => w σ' H F l' (Same.refl _)⟩
theorem dgsh_nil : DGsH X T ow [] bNil ow := pgs_nil.imp fun vs σ H Q ⟨H0, F0, env, F, xs, e, l, r, h, w⟩ => by
  cases r with
  | nil => cases h; exact ⟨rfl, w σ H F l (Same.refl _)⟩
  | cons _ _ => cases h
theorem dgsh_cons (h1 : DGH X T ow e f ow1) (h2 : DGsH X T ow1 es h ow2) (hs : (assignEach (e :: es) X.env).map (·.2) = assign e X.env :: (assignEach es X.env).map (·.2) := by rfl) : DGsH X T ow (e :: es) (bCons f h) ow2 :=
  (pgs_cons h1 h2 hs).imp fun us σ H Q ⟨H0, F0, env, F, xs, e, l, r, hh, w⟩ => by
    cases r with
    | nil => cases hh
    | cons r rr =>
      obtain ⟨e1, q1, q2⟩ := Option.bind_eq_some_iff.mp hh
      exact ⟨_, _, rfl, H0, F0, env, F, _, e1, l, r, q1, fun σ' H' F' l' s => ⟨H0, F0, e1, F', _, e, l', rr.mono s, q2, fun σ2 H2 F2 l2 s2 => w σ2 H2 F2 l2 (s.trans s2)⟩⟩
theorem dgh_tup {kk n : Nat} (hc : X.calm = true) (h1 : DGsH X T ow es h ow1) (hn : (assignEach es X.env).length = n := by rfl) (hst : (assignEach es X.env).findIdx? (·.1) = none := by rfl) : DGH X T ow (.Tuple es kk pos) (bTup n h) ow1 :=
  (pg_tup hc h1 hn hst).imp fun v σ H Q ⟨H0, F0, env, F, x, e, l, r, hh, w⟩ => by
    cases r with
    | @tup a vs xs hs rr =>
      have hh : (if xs.length = n then h xs env else none) = some e := hh
      by_cases q : xs.length = n
      · rw [if_pos q] at hh
        exact ⟨_, _, rfl, Same.seqT l.ext.fh hs, rr.length.trans q, H0, F0, env, F, _, e, l, rr, hh, w⟩
      · rw [if_neg q] at hh; cases hh
    | _ => cases hh
/-- name[index] -/
def bItem (i : Nat) (d : PEnv → Res PV) : Bd := fun v env => match env[i]?, d env with
  | some (some (.lst xs)), .ok (.int k) => (ixN xs.length k).map fun j => env.set i (some (.lst (xs.set j v)))
  | _, _ => none
theorem dgh_item {i : Nat} (ho : PE X o (tVar i)) (hi : (ow[i]? == some true) = true) (hx : DE X T W0 ow b d)
    (ha : ∀ v, assign (.Subscript o b pos) X.env v = (do
      let ov ← holding [v] (eval o X.env)
      let iv ← holding [v, ov] (eval b X.env)
      standAt pos
      holding [v, ov, iv] (setItem ov iv v)
      release [v, ov, iv] []) := by intro _; rfl) : DGH X T ow (.Subscript o b pos) (bItem i d) ow :=
  (pg_sub ho hx set_list ha).imp fun v σ H Q ⟨H0, F0, env, F, x, e, l, r, hf, w⟩ => by
    unfold bItem at hf
    split at hf
    · rename_i xs k he hd
      obtain ⟨j, hj, rfl⟩ := Option.map_eq_some_iff.mp hf
      obtain ⟨ad, u, e1, e2, e3, e4, e5, e6⟩ := l.own i _ he (by simpa using hi)
      cases e3 with
      | @lst vs _ rs =>
        refine ⟨.ref ad, e1, H0, F0, env, F, l, ?_⟩
        rw [hd]
        intro ix H1 F1 x1 r1
        cases r1
        refine ⟨ad, vs, k, j, rfl, rfl, x1.h ad _ e6 e2, by rw [rs.length]; exact hj, ?_⟩
        exact w σ _ F1 ((l.grow x1).put he (by simpa using hi) e1 (.lst (Reps.set (r.mono x1.f) j (rs.mono x1.f)))) x1.f
    · cases hf
theorem ds_asgH (he : DX X T false W ow e d) (hg : DGH X T ow tg f ow1) (ho : leB oe ow = true := by rfl) (hs : swapsWithSole [tg] e pos.line X.env = pure false := by rfl) (hw : swappedStores [tg] e X.env = pure none := by rfl)
    (h1 : (assignEach [tg] X.env).map (·.2) = [assign tg X.env] := by rfl) : DS X T W fr oe ol ow (.Assign [tg] e pos) (sAsg d f) ow1 := (ps_asg he hg hs hw h1).imp fun D σ H w => by
  obtain ⟨H0, F0, env, F, l, w⟩ := tS_iff.mp w
  refine ⟨H0, F0, env, F, l, ?_⟩
  unfold sAsg sWith at w
  cases h : d env with
  | ok p =>
    rw [h] at w
    intro v H' F' x rt
    cases hf : f p env with
    | none => simp only [hf] at w; exact w.elim
    | some e' =>
      simp only [hf] at w
      exact ⟨H0, F0, env, F', p, e', l.grow x, rt, hf, fun σ' H2 F2 l' _ => w σ' H2 F2 l'⟩
  | err x => rw [h] at w; exact err_up l (le_of ho) w
  | bad => rw [h] at w; exact w
/-- x, y = a, b of two names -/
def sPar (i j : Nat) (d1 d2 : PEnv → Res PV) : PEnv → SR := fun env => match (d1 env).bnd fun p => (d2 env).bnd fun q => .ok (PV.tup [p, q]) with
  | .ok (.tup [p, q]) => .nx ((env.set i (some p)).set j (some q))
  | .err x => .er x env
  | _ => .bad
theorem ds_par {i j : Nat} {x y : Str} {px py pt pt2 : Pos} {kt k2 : Nat} (hc : X.calm = true) (hN : X.N.Nodup) (hi : X.N[i]? = some x) (hj : X.N[j]? = some y) (hij : i ≠ j) (hx : X.env.scope.names.lookup x = some .local) (hy : X.env.scope.names.lookup y = some .local)
    (ha : DA X T W ow [a, b] (aCons da (aCons db aNil))) (ho : leB oe ow = true := by rfl)
    (hw : swappedStores [.Tuple [.Name x px, .Name y py] kt pt] (.Tuple [a, b] k2 pt2) X.env = pure (some [x, y]) := by rfl) (hs : swapsWithSole [.Tuple [.Name x px, .Name y py] kt pt] (.Tuple [a, b] k2 pt2) pos.line X.env = pure false := by rfl) :
    DS X T W fr oe ol ow (.Assign [.Tuple [.Name x px, .Name y py] kt pt] (.Tuple [a, b] k2 pt2) pos) (sPar i j da db) ((ow.set i false).set j false) := (ps_par hc hN hi hj hij hx hy ha hw hs).imp fun D σ H w => by
  obtain ⟨H0, F0, env, F, l, w⟩ := tS_iff.mp w
  refine ⟨H0, F0, env, F, l, ?_⟩
  unfold sPar at w
  show wpR ((da env).bnd fun p => ((db env).bnd fun q => (Res.ok []).bnd fun qs => Res.ok (q :: qs)).bnd fun ps => Res.ok (p :: ps)) _ _
  cases h1 : da env with
  | ok p =>
    rw [h1] at w
    cases h2 : db env with
    | ok q =>
      rw [h2] at w
      intro us H' F' x1 rs
      have rs : Reps X.mg X.K F' us [p, q] := rs
      rcases rs with _ | ⟨r1, _ | ⟨r2, _ | _⟩⟩
      exact ⟨_, _, rfl, w _ H' F' (((l.grow x1).setE r1).setE r2)⟩
    | err x => rw [h2] at w; exact err_up l (le_of ho) w
    | bad => rw [h2] at w; exact w.elim
  | err x => rw [h1] at w; exact err_up l (le_of ho) w
  | bad => rw [h1] at w; exact w.elim
/-- isinstance(x, bool) -/
def pyIsBool : PV → Option PV
  | .bl _ => some (.bl true)
  | _ => none
theorem pe_bty {x : Str} {n : String} {p : Pos} (hg : Gl X x) (hm : X.mg x = none) (hv : bootBuiltins x = some (.type n)) (hn : x ≠ "__name__" := by decide) (hd : (x == ("__debug__" : Str)) = false := by decide) : PE X (.Name x p) (tC (.ty n)) :=
  ⟨fun pins s σ H Q I h => ld_blt I hg hm hv ⟨.ty n, H, I, rfl, h⟩ hn hd⟩
theorem de_isBool {p p2 : Pos} (hg : Gl X "isinstance") (hm : X.mg "isinstance" = none) (hv : bootBuiltins "isinstance" = some (.builtin "isinstance")) (hgb : Gl X "bool") (hmb : X.mg "bool" = none) (hvb : bootBuiltins "bool" = some (.type "bool")) (ha : DR X T W ow a d)
    (he : starEach [a, .Name "bool" p2] X.env = (false, eval a X.env) :: starEach [.Name "bool" p2] X.env := by rfl) (he2 : starEach [.Name "bool" p2] X.env = (false, eval (.Name "bool" p2) X.env) :: starEach [] X.env := by rfl) (hpl : (backTo pos (starEach [.Name "bool" p2] X.env)).any (·.1) = false := by rfl) :
    DE X T W ow (.Call (.Name "isinstance" p) [a, .Name "bool" p2] [] pos) (xUn pyIsBool d) :=
  (pe_callB call_isi hg hm hv (pa_cons ha (pa_cons (pe_bty hgb hmb hvb) pa_nil he2) he) (by decide) (by decide) he hpl).imp fun σ H Q ⟨H0, F0, env, F, l, w⟩ => by
    refine ⟨H0, F0, env, F, l, wpR_mono (wpR_bnd.mp w) (fun p w1 v H1 F1 e1 r1 => ?_) fun _ z => z⟩
    obtain ⟨z, hz, w2⟩ := wpR_ofO w1
    unfold pyIsBool at hz
    split at hz
    · cases hz
      rw [r1.bl]
      exact ⟨_, _, _, _, true, rfl, .ty "bool", .base (.bl _), rfl, w2 _ H1 F1 e1 (.bl _)⟩
    · cases hz
end
end D
end

section
set_option Elab.async false
set_option linter.all false
set_option maxRecDepth 100000
set_option maxHeartbeats 4000000
namespace Q_k07
open PySem PySem.Spec PyProof.Rows L2 D

def topS (i : Nat) : Stmt := PySem.Challenge.pw_heapsbybits_k07_bases_of_rows.main.body.getD i (.Pass ⟨0, 0, 0, 0⟩)
abbrev s_sum_of : Stmt := topS 1
abbrev N_sum_of : List Str := ["rows", "found", "row"]
theorem sc_sum_of : FnScope N_sum_of ["rows"] (defScope s_sum_of) := ⟨rfl, rfl, rfl, by decide +kernel, rfl, by decide +kernel, by decide +kernel⟩
abbrev s_rest_of : Stmt := topS 2
abbrev N_rest_of : List Str := ["row", "basis", "one"]
theorem sc_rest_of : FnScope N_rest_of ["row", "basis"] (defScope s_rest_of) := ⟨rfl, rfl, rfl, by decide +kernel, rfl, by decide +kernel, by decide +kernel⟩
abbrev s_reduced : Stmt := topS 3
abbrev N_reduced : List Str := ["rows", "basis", "row", "rest", "top", "one"]
theorem sc_reduced : FnScope N_reduced ["rows"] (defScope s_reduced) := ⟨rfl, rfl, rfl, by decide +kernel, rfl, by decide +kernel, by decide +kernel⟩
abbrev s_span_of : Stmt := topS 4
abbrev N_span_of : List Str := ["basis", "found", "one", "row"]
theorem sc_span_of : FnScope N_span_of ["basis"] (defScope s_span_of) := ⟨rfl, rfl, rfl, by decide +kernel, rfl, by decide +kernel, by decide +kernel⟩
abbrev s__law_number : Stmt := topS 6
abbrev N__law_number : List Str := ["script", "k", "cell", "first", "second", "third"]
theorem sc__law_number : FnScope N__law_number ["script", "k"] (defScope s__law_number) := ⟨rfl, rfl, rfl, by decide +kernel, rfl, by decide +kernel, by decide +kernel⟩
abbrev s__law_take : Stmt := topS 7
abbrev N__law_take : List Str := ["box", "size", "digit"]
theorem sc__law_take : FnScope N__law_take ["box", "size"] (defScope s__law_take) := ⟨rfl, rfl, rfl, by decide +kernel, rfl, by decide +kernel, by decide +kernel⟩
abbrev s__law_drawn_lots : Stmt := topS 8
abbrev N__law_drawn_lots : List Str := ["number", "size", "count", "found", "k", "lot", "place"]
theorem sc__law_drawn_lots : FnScope N__law_drawn_lots ["number", "size", "count"] (defScope s__law_drawn_lots) := ⟨rfl, rfl, rfl, by decide +kernel, rfl, by decide +kernel, by decide +kernel⟩
abbrev s__law_span : Stmt := topS 9
abbrev N__law_span : List Str := ["rows", "found", "row", "one"]
theorem sc__law_span : FnScope N__law_span ["rows"] (defScope s__law_span) := ⟨rfl, rfl, rfl, by decide +kernel, rfl, by decide +kernel, by decide +kernel⟩
abbrev s__law_top : Stmt := topS 10
abbrev N__law_top : List Str := ["row", "count"]
theorem sc__law_top : FnScope N__law_top ["row"] (defScope s__law_top) := ⟨rfl, rfl, rfl, by decide +kernel, rfl, by decide +kernel, by decide +kernel⟩
abbrev s_law : Stmt := topS 11
abbrev N_law : List Str := ["script", "turn", "number", "size", "rows", "passed", "basis", "sums", "k", "j", "other", "box", "i", "row", "rest", "total", "one"]
theorem sc_law : FnScope N_law ["script"] (defScope s_law) := ⟨rfl, rfl, rfl, by decide +kernel, rfl, by decide +kernel, by decide +kernel⟩
structure Fx (K : PySem.W.Frag) (mg : Str → Option Value) where
  a_sum_of : Addr
  fd_sum_of : FuncData
  F_sum_of : Fun K "sum_of" "sum_of" s_sum_of a_sum_of fd_sum_of
  g_sum_of : mg "sum_of" = some (.ref a_sum_of)
  b_sum_of : Binds K fd_sum_of ["rows"] []
  a_rest_of : Addr
  fd_rest_of : FuncData
  F_rest_of : Fun K "rest_of" "rest_of" s_rest_of a_rest_of fd_rest_of
  g_rest_of : mg "rest_of" = some (.ref a_rest_of)
  b_rest_of : Binds K fd_rest_of ["row", "basis"] []
  a_reduced : Addr
  fd_reduced : FuncData
  F_reduced : Fun K "reduced" "reduced" s_reduced a_reduced fd_reduced
  g_reduced : mg "reduced" = some (.ref a_reduced)
  b_reduced : Binds K fd_reduced ["rows"] []
  a_span_of : Addr
  fd_span_of : FuncData
  F_span_of : Fun K "span_of" "span_of" s_span_of a_span_of fd_span_of
  g_span_of : mg "span_of" = some (.ref a_span_of)
  b_span_of : Binds K fd_span_of ["basis"] []
  a__law_number : Addr
  fd__law_number : FuncData
  F__law_number : Fun K "_law_number" "_law_number" s__law_number a__law_number fd__law_number
  g__law_number : mg "_law_number" = some (.ref a__law_number)
  b__law_number : Binds K fd__law_number ["script", "k"] []
  a__law_take : Addr
  fd__law_take : FuncData
  F__law_take : Fun K "_law_take" "_law_take" s__law_take a__law_take fd__law_take
  g__law_take : mg "_law_take" = some (.ref a__law_take)
  b__law_take : Binds K fd__law_take ["box", "size"] []
  a__law_drawn_lots : Addr
  fd__law_drawn_lots : FuncData
  F__law_drawn_lots : Fun K "_law_drawn_lots" "_law_drawn_lots" s__law_drawn_lots a__law_drawn_lots fd__law_drawn_lots
  g__law_drawn_lots : mg "_law_drawn_lots" = some (.ref a__law_drawn_lots)
  b__law_drawn_lots : Binds K fd__law_drawn_lots ["number", "size", "count"] []
  a__law_span : Addr
  fd__law_span : FuncData
  F__law_span : Fun K "_law_span" "_law_span" s__law_span a__law_span fd__law_span
  g__law_span : mg "_law_span" = some (.ref a__law_span)
  b__law_span : Binds K fd__law_span ["rows"] []
  a__law_top : Addr
  fd__law_top : FuncData
  F__law_top : Fun K "_law_top" "_law_top" s__law_top a__law_top fd__law_top
  g__law_top : mg "_law_top" = some (.ref a__law_top)
  b__law_top : Binds K fd__law_top ["row"] []
  a_law : Addr
  fd_law : FuncData
  F_law : Fun K "law" "law" s_law a_law fd_law
  g_law : mg "law" = some (.ref a_law)
  b_law : Binds K fd_law ["script"] []
  z_int : mg "int" = none
  z_len : mg "len" = none
  z_list : mg "list" = none
  z_range : mg "range" = none
  z_sorted : mg "sorted" = none
section
variable {P : Program} {w : World} {K : PySem.W.Frag} {mg : Str → Option Value} {base : Heap} {T : Addr → Prop}
/-- the box -/
theorem ok__law_take (fx : Fx K mg) : FnOk P w K mg base (L2.CX P w) 1 fx.a__law_take fx.fd__law_take ["box", "size"] spTake := by
  refine fx.F__law_take.okX sc__law_take (fun vs H Q E h => ?_) (fun cdv A outer s H vs Q E hr h => ?_)
  · obtain ⟨a, x, n, rfl, _⟩ := h
    rfl
  · obtain ⟨a, x, n, rfl, h1, h2, h3, q⟩ := h
    have nd := sc__law_take.nd
    refine ⟨_, pss_cons (ps_set (i := 2) nd rfl (.inl rfl) (pe_op op_mod (pe_callTy call_int1 rfl fx.z_int (by decide +kernel) (pa_cons (pe_ix ix_list (pv 0) pe_int (fun _ _ => rfl)) pa_nil)) (pv 1)))
      (pss_cons (ps_asg (pe_op op_fdiv (pe_ix ix_list (pv 0) pe_int (fun _ _ => rfl)) (pv 1)) (pg_sub (pv 0) pe_int set_list))
      (pss_one (ps_ret (pv 2)))), ?_⟩
    refine ⟨.ref a, rfl, a, _, 0, .int x, rfl, rfl, .of h1, rfl, .inl ⟨x, rfl, .int n, rfl, x, n, rfl, rfl, h2, ?_⟩⟩
    refine ⟨.ref a, rfl, a, _, 0, .int x, rfl, rfl, .of h1, rfl, .int n, rfl, x, n, rfl, rfl, ⟨h2, h3⟩, ?_⟩
    exact ⟨.ref a, rfl, a, _, 0, 0, rfl, rfl, h1, rfl, .int (x % n), rfl, q⟩
def k_sum_of : PEnv → SR := (sSeq (sSet 1 (xC (.int 0))) (sSeq (sFor (iOf pyItems (xVar 0)) (bName 2) (sSet 1 (xOp pyBxor (xVar 1) (xVar 2)))) (sRet (xVar 1))))
def d_sum_of : List PV → Res PV := runB false 3 1 k_sum_of
theorem ok_sum_of (fx : Fx K mg) : FnOk P w K mg base (L2.CX P w) 1 fx.a_sum_of fx.fd_sum_of ["rows"] (spD mg K T false d_sum_of) := by
  refine fn_ok (k := 0) (N := N_sum_of) (ow' := [false, false, false]) fx.F_sum_of sc_sum_of fun cdv A outer s0 H E hr => ?_
  have nd := sc_sum_of.nd
  have hc : (cxOf (L2.CX P w) P w K mg base N_sum_of "sum_of" (defScope s_sum_of) fx.a_sum_of cdv A outer s0 H E).calm = true := rfl
  have hp : PassesOwn (model P w) (A.deeper (envOfC "sum_of" (defScope s_sum_of) s0.heap.objs.size fx.a_sum_of cdv)) (envOfC "sum_of" (defScope s_sum_of) s0.heap.objs.size fx.a_sum_of cdv) (cxOf (L2.CX P w) P w K mg base N_sum_of "sum_of" (defScope s_sum_of) fx.a_sum_of cdv A outer s0 H E).xe := passes_of (K := fun e s'' => L2.CX P w outer H s0 E e s'') (X := cxOf (L2.CX P w) P w K mg base N_sum_of "sum_of" (defScope s_sum_of) fx.a_sum_of cdv A outer s0 H E) rfl
  exact (dss_cons (ds_set nd rfl (by first | exact .inl rfl | exact .inr rfl) de_int) (dss_cons (ds_for hp hc (di_list (de_var (pv 0) rfl)) (dg_name nd rfl (by first | exact .inl rfl | exact .inr rfl)) (dss_one (ds_set nd rfl (by first | exact .inl rfl | exact .inr rfl) (dx_op op_xor o_bxor (dr_var (pv 1)) (dr_var (pv 2)))))) (dss_one (ds_ret (de_var (pv 1) rfl) rfl))))
def k_rest_of : PEnv → SR := (sSeq (sFor (iOf pyItems (xVar 1)) (bName 2) (sIf (bOp pyEq (xOp pyBand (xOp pyShr (xVar 0) (xOp pySub (xUn pyBits (xVar 2)) (xC (.int 1)))) (xC (.int 1))) (xC (.int 1))) (sSet 0 (xOp pyBxor (xVar 0) (xVar 2))) .nx)) (sRet (xVar 0)))
def d_rest_of : List PV → Res PV := runB false 3 2 k_rest_of
theorem ok_rest_of (fx : Fx K mg) : FnOk P w K mg base (L2.CX P w) 1 fx.a_rest_of fx.fd_rest_of ["row", "basis"] (spD mg K T false d_rest_of) := by
  refine fn_ok (k := 0) (N := N_rest_of) (ow' := [false, false, false]) fx.F_rest_of sc_rest_of fun cdv A outer s0 H E hr => ?_
  have nd := sc_rest_of.nd
  have hc : (cxOf (L2.CX P w) P w K mg base N_rest_of "rest_of" (defScope s_rest_of) fx.a_rest_of cdv A outer s0 H E).calm = true := rfl
  have hp : PassesOwn (model P w) (A.deeper (envOfC "rest_of" (defScope s_rest_of) s0.heap.objs.size fx.a_rest_of cdv)) (envOfC "rest_of" (defScope s_rest_of) s0.heap.objs.size fx.a_rest_of cdv) (cxOf (L2.CX P w) P w K mg base N_rest_of "rest_of" (defScope s_rest_of) fx.a_rest_of cdv A outer s0 H E).xe := passes_of (K := fun e s'' => L2.CX P w outer H s0 E e s'') (X := cxOf (L2.CX P w) P w K mg base N_rest_of "rest_of" (defScope s_rest_of) fx.a_rest_of cdv A outer s0 H E) rfl
  exact (dss_cons (ds_for hp hc (di_list (de_var (pv 1) rfl)) (dg_name nd rfl (by first | exact .inl rfl | exact .inr rfl)) (dss_one (ds_if (ow' := [false, false, false]) (dt_cmp (op_eqD hr.units) o_eq (DX.dr (dx_op op_and o_band (DX.dr (dx_op op_shr o_shr (dr_var (pv 0)) (DX.dr (dx_op op_sub o_sub (DX.dr (de_bits (dr_var (pv 2)))) (DX.dr de_int))))) (DX.dr de_int))) (DX.dr de_int) (nomark _)) (dss_one (ds_set nd rfl (by first | exact .inl rfl | exact .inr rfl) (dx_op op_xor o_bxor (dr_var (pv 0)) (dr_var (pv 2))))) dss_nil rfl))) (dss_one (ds_ret (de_var (pv 0) rfl) rfl)))
def k_reduced : PEnv → SR := (sSeq (sSet 1 (xLst aNil)) (sSeq (sFor (iOf pyItems (xVar 0)) (bName 2) (sSeq (sSet 3 (xUse d_rest_of (aCons (xVar 2) (aCons (xVar 1) aNil)))) (sIf (bOp pyNe (xVar 3) (xC (.int 0))) (sSeq (sSet 4 (xOp pySub (xUn pyBits (xVar 3)) (xC (.int 1)))) (sSeq (sSet 1 (xOp pyCat (xLc (iOf pyItems (xVar 1)) (bName 5) bYes (xIf (bOp pyEq (xOp pyBand (xOp pyShr (xVar 5) (xVar 4)) (xC (.int 1))) (xC (.int 1))) (xOp pyBxor (xVar 5) (xVar 3)) (xVar 5)) [5]) (xLst (aCons (xVar 3) aNil)))) (sSet 1 (xCall pySortedR (aCons (xVar 1) aNil))))) .nx))) (sRet (xVar 1))))
def d_reduced : List PV → Res PV := runB false 6 1 k_reduced
theorem ok_reduced (fx : Fx K mg) (G_rest_of : FnOk P w K mg base (L2.CX P w) 1 fx.a_rest_of fx.fd_rest_of ["row", "basis"] (spD mg K T false d_rest_of)) : FnOk P w K mg base (L2.CX P w) 2 fx.a_reduced fx.fd_reduced ["rows"] (spD mg K T false d_reduced) := by
  refine fn_ok (k := 1) (N := N_reduced) (ow' := [false, false, false, false, false, false]) fx.F_reduced sc_reduced fun cdv A outer s0 H E hr => ?_
  have nd := sc_reduced.nd
  have hc : (cxOf (L2.CX P w) P w K mg base N_reduced "reduced" (defScope s_reduced) fx.a_reduced cdv A outer s0 H E).calm = true := rfl
  have hp : PassesOwn (model P w) (A.deeper (envOfC "reduced" (defScope s_reduced) s0.heap.objs.size fx.a_reduced cdv)) (envOfC "reduced" (defScope s_reduced) s0.heap.objs.size fx.a_reduced cdv) (cxOf (L2.CX P w) P w K mg base N_reduced "reduced" (defScope s_reduced) fx.a_reduced cdv A outer s0 H E).xe := passes_of (K := fun e s'' => L2.CX P w outer H s0 E e s'') (X := cxOf (L2.CX P w) P w K mg base N_reduced "reduced" (defScope s_reduced) fx.a_reduced cdv A outer s0 H E) rfl
  have tk : Takes (cxOf (L2.CX P w) P w K mg base N_reduced "reduced" (defScope s_reduced) fx.a_reduced cdv A outer s0 H E) (fun cls d _ H' => E cls d H') := takes_of rfl rfl rfl rfl
  exact (dss_cons (ds_setF nd rfl (by first | exact .inl rfl | exact .inr rfl) (df_lst da_nil)) (dss_cons (ds_pre (ow1 := [false, false, false, false, false, false]) (ds_for hp hc (di_list (de_var (pv 0) rfl)) (dg_name nd rfl (by first | exact .inl rfl | exact .inr rfl)) (dss_cons (ds_set nd rfl (by first | exact .inl rfl | exact .inr rfl) (dx_use (G_rest_of.mono (by decide)) hr rfl fx.g_rest_of fx.F_rest_of.kp fx.b_rest_of tk (da_cons (de_var (pv 2) rfl) (da_cons (de_var (pv 1) rfl) da_nil)))) (dss_one (ds_if (ow' := [false, false, false, false, false, false]) (dt_cmp (op_neD hr.units) o_ne (dr_var (pv 3)) (DX.dr de_int) (nomark _)) (dss_weak (dss_cons (ds_set nd rfl (by first | exact .inl rfl | exact .inr rfl) (dx_op op_sub o_sub (DX.dr (de_bits (dr_var (pv 3)))) (DX.dr de_int))) (dss_cons (ds_setF nd rfl (by first | exact .inl rfl | exact .inr rfl) (dx_op op_cat o_cat (DX.dr (df_lc hc nd (di_listR (dr_var (pv 1))) (blkOk_by (own := [("one", 5)]) (by kernel_rfl)) (fun _ _ _ _ _ => (dg_name nd rfl (by first | exact .inl rfl | exact .inr rfl))) (fun _ _ _ _ _ => dts_nil) (fun _ _ _ _ _ => (dx_if (dt_cmp (op_eqD hr.units) o_eq (DX.dr (dx_op op_and o_band (DX.dr (dx_op op_shr o_shr (dr_var (pv 5)) (dr_var (pv 4)))) (DX.dr de_int))) (DX.dr de_int) (nomark _)) (dx_op op_xor o_bxor (dr_var (pv 5)) (dr_var (pv 3))) (de_var (pv 5) rfl))) (by decide))) (DX.dr (df_lst (da_cons (de_var (pv 3) rfl) da_nil))))) (dss_one (ds_setF nd rfl (by first | exact .inl rfl | exact .inr rfl) (df_sortedR rfl fx.z_sorted (by decide +kernel) (dar_cons (dr_var (pv 1)) dar_nil)))))) rfl) dss_nil rfl)))) rfl) (dss_one (ds_ret (de_var (pv 1) rfl) rfl))))
def k_span_of : PEnv → SR := (sSeq (sSet 1 (xLst (aCons (xC (.int 0)) aNil))) (sSeq (sFor (iOf pyItems (xVar 0)) (bName 2) (sSet 1 (xOp pyCat (xVar 1) (xLc (iOf pyItems (xVar 1)) (bName 3) bYes (xOp pyBxor (xVar 3) (xVar 2)) [3])))) (sRet (xCall pySorted (aCons (xVar 1) aNil)))))
def d_span_of : List PV → Res PV := runB true 4 1 k_span_of
theorem ok_span_of (fx : Fx K mg) : FnOk P w K mg base (L2.CX P w) 1 fx.a_span_of fx.fd_span_of ["basis"] (spD mg K T true d_span_of) := by
  refine fn_ok (k := 0) (N := N_span_of) (ow' := [false, false, false, false]) fx.F_span_of sc_span_of fun cdv A outer s0 H E hr => ?_
  have nd := sc_span_of.nd
  have hc : (cxOf (L2.CX P w) P w K mg base N_span_of "span_of" (defScope s_span_of) fx.a_span_of cdv A outer s0 H E).calm = true := rfl
  have hp : PassesOwn (model P w) (A.deeper (envOfC "span_of" (defScope s_span_of) s0.heap.objs.size fx.a_span_of cdv)) (envOfC "span_of" (defScope s_span_of) s0.heap.objs.size fx.a_span_of cdv) (cxOf (L2.CX P w) P w K mg base N_span_of "span_of" (defScope s_span_of) fx.a_span_of cdv A outer s0 H E).xe := passes_of (K := fun e s'' => L2.CX P w outer H s0 E e s'') (X := cxOf (L2.CX P w) P w K mg base N_span_of "span_of" (defScope s_span_of) fx.a_span_of cdv A outer s0 H E) rfl
  exact (dss_cons (ds_set nd rfl (by first | exact .inl rfl | exact .inr rfl) (DX.de (df_lst (da_cons de_int da_nil)))) (dss_cons (ds_for hp hc (di_list (de_var (pv 0) rfl)) (dg_name nd rfl (by first | exact .inl rfl | exact .inr rfl)) (dss_one (ds_set nd rfl (by first | exact .inl rfl | exact .inr rfl) (DX.de (dx_op op_cat o_cat (dr_var (pv 1)) (DX.dr (df_lc hc nd (di_listR (dr_var (pv 1))) (blkOk_by (own := [("row", 3)]) (by kernel_rfl)) (fun _ _ _ _ _ => (dg_name nd rfl (by first | exact .inl rfl | exact .inr rfl))) (fun _ _ _ _ _ => dts_nil) (fun _ _ _ _ _ => (dx_op op_xor o_bxor (dr_var (pv 3)) (dr_var (pv 2)))) (by decide)))))))) (dss_one (ds_ret (dx_callB cr_sortedI c_sorted rfl fx.z_sorted (by decide +kernel) (dar_cons (dr_var (pv 1)) dar_nil)) rfl))))
def k__law_number : PEnv → SR := (sSeq (sSet 2 (xC (.int 0))) (sSeq (sIf (bOp pyGt (xCall pyLen (aCons (xVar 0) aNil)) (xC (.int 0))) (sSet 2 (xOp pyIx (xVar 0) (xOp pyMod (xCall pyInt (aCons (xVar 1) aNil)) (xCall pyLen (aCons (xVar 0) aNil))))) .nx) (sSeq (sIf (bOp pyLt (xVar 2) (xC (.int 0))) (sSet 2 (xOp pySub (xC (.int 1)) (xOp pyMulI (xC (.int 2)) (xVar 2)))) .nx) (sSeq (sIf (bAnd (bOp pyGe (xVar 2) (xOp pyPow (xC (.int 10)) (xC (.int 9)))) (bOp pyLt (xVar 1) (xCall pyLen (aCons (xVar 0) aNil)))) (sRet (xVar 2)) .nx) (sSeq (sSet 3 (xOp pyMod (xCall pyInt (aCons (xOp pyAddU (xOp pyMulI (xOp pyAddU (xVar 2) (xC (.int 7))) (xC (.int 48271))) (xOp pyMulI (xOp pyAddU (xVar 1) (xC (.int 3))) (xC (.int 69621)))) aNil)) (xC (.int 2147483647)))) (sSeq (sSet 4 (xOp pyMod (xCall pyInt (aCons (xOp pyAddU (xOp pyAddU (xOp pyAddU (xOp pyMulI (xVar 3) (xVar 3)) (xOp pyMulI (xC (.int 16807)) (xVar 3))) (xOp pyMulI (xOp pyAddU (xVar 2) (xC (.int 1))) (xC (.int 40692)))) (xVar 1)) aNil)) (xC (.int 2147483399)))) (sSeq (sSet 5 (xOp pyMod (xCall pyInt (aCons (xOp pyAddU (xOp pyMulI (xVar 4) (xVar 4)) (xVar 3)) aNil)) (xC (.int 2147483629)))) (sRet (xOp pyMod (xCall pyInt (aCons (xOp pyAddU (xOp pyAddU (xOp pyMulI (xVar 5) (xC (.int 2147483399))) (xOp pyMulI (xVar 4) (xC (.int 31)))) (xVar 2)) aNil)) (xC (.int 4611686014132420609)))))))))))
def d__law_number : List PV → Res PV := runB false 6 2 k__law_number
theorem ok__law_number (fx : Fx K mg) : FnOk P w K mg base (L2.CX P w) 1 fx.a__law_number fx.fd__law_number ["script", "k"] (spD mg K T false d__law_number) := by
  refine fn_ok (k := 0) (N := N__law_number) (ow' := [false, false, false, false, false, false]) fx.F__law_number sc__law_number fun cdv A outer s0 H E hr => ?_
  have nd := sc__law_number.nd
  have hc : (cxOf (L2.CX P w) P w K mg base N__law_number "_law_number" (defScope s__law_number) fx.a__law_number cdv A outer s0 H E).calm = true := rfl
  exact (dss_cons (ds_set nd rfl (by first | exact .inl rfl | exact .inr rfl) de_int) (dss_cons (ds_if (ow' := [false, false, false, false, false, false]) (dt_cmp op_gt o_gt (DX.dr (dx_callB call_len c_len rfl fx.z_len boot_len (dar_cons (dr_var (pv 0)) dar_nil))) (DX.dr de_int) (nomark _)) (dss_one (ds_set nd rfl (by first | exact .inl rfl | exact .inr rfl) (dx_ix ix_seq o_ix (dr_var (pv 0)) (DX.dr (dx_op op_mod o_mod (DX.dr (dx_callTy call_intAll c_int rfl fx.z_int (by decide +kernel) (dar_cons (dr_var (pv 1)) dar_nil))) (DX.dr (dx_callB call_len c_len rfl fx.z_len boot_len (dar_cons (dr_var (pv 0)) dar_nil))))) (fun _ _ => rfl)))) dss_nil rfl) (dss_cons (ds_if (ow' := [false, false, false, false, false, false]) (dt_cmp op_lt o_lt (dr_var (pv 2)) (DX.dr de_int) (nomark _)) (dss_one (ds_set nd rfl (by first | exact .inl rfl | exact .inr rfl) (dx_op op_sub o_sub (DX.dr de_int) (DX.dr (dx_op op_mul o_mul (DX.dr de_int) (dr_var (pv 2))))))) dss_nil rfl) (dss_cons (ds_if (ow' := [false, false, false, false, false, false]) (DW.dt (dw_and (dt_cmp op_ge o_ge (dr_var (pv 2)) (DX.dr (dx_op op_pow o_pow (DX.dr de_int) (DX.dr de_int))) (nomark _)) (dw_and1 (dt_cmp op_lt o_lt (dr_var (pv 1)) (DX.dr (dx_callB call_len c_len rfl fx.z_len boot_len (dar_cons (dr_var (pv 0)) dar_nil))) (nomark _))))) (dss_one (ds_ret (de_var (pv 2) rfl) rfl)) dss_nil rfl) (dss_cons (ds_set nd rfl (by first | exact .inl rfl | exact .inr rfl) (dx_op op_mod o_mod (DX.dr (dx_callTy call_intAll c_int rfl fx.z_int (by decide +kernel) (dar_cons (DX.dr (dx_op op_addU o_addU (DX.dr (dx_op op_mul o_mul (DX.dr (dx_op op_addU o_addU (dr_var (pv 2)) (DX.dr de_int))) (DX.dr de_int))) (DX.dr (dx_op op_mul o_mul (DX.dr (dx_op op_addU o_addU (dr_var (pv 1)) (DX.dr de_int))) (DX.dr de_int))))) dar_nil))) (DX.dr de_int))) (dss_cons (ds_set nd rfl (by first | exact .inl rfl | exact .inr rfl) (dx_op op_mod o_mod (DX.dr (dx_callTy call_intAll c_int rfl fx.z_int (by decide +kernel) (dar_cons (DX.dr (dx_op op_addU o_addU (DX.dr (dx_op op_addU o_addU (DX.dr (dx_op op_addU o_addU (DX.dr (dx_op op_mul o_mul (dr_var (pv 3)) (dr_var (pv 3)))) (DX.dr (dx_op op_mul o_mul (DX.dr de_int) (dr_var (pv 3)))))) (DX.dr (dx_op op_mul o_mul (DX.dr (dx_op op_addU o_addU (dr_var (pv 2)) (DX.dr de_int))) (DX.dr de_int))))) (dr_var (pv 1)))) dar_nil))) (DX.dr de_int))) (dss_cons (ds_set nd rfl (by first | exact .inl rfl | exact .inr rfl) (dx_op op_mod o_mod (DX.dr (dx_callTy call_intAll c_int rfl fx.z_int (by decide +kernel) (dar_cons (DX.dr (dx_op op_addU o_addU (DX.dr (dx_op op_mul o_mul (dr_var (pv 4)) (dr_var (pv 4)))) (dr_var (pv 3)))) dar_nil))) (DX.dr de_int))) (dss_one (ds_ret (dx_op op_mod o_mod (DX.dr (dx_callTy call_intAll c_int rfl fx.z_int (by decide +kernel) (dar_cons (DX.dr (dx_op op_addU o_addU (DX.dr (dx_op op_addU o_addU (DX.dr (dx_op op_mul o_mul (dr_var (pv 5)) (DX.dr de_int))) (DX.dr (dx_op op_mul o_mul (dr_var (pv 4)) (DX.dr de_int))))) (dr_var (pv 2)))) dar_nil))) (DX.dr de_int)) rfl)))))))))
def k__law_drawn_lots : PEnv → SR := (sSeq (sSet 3 (xLst aNil)) (sSeq (sFor (iWith pyRange1 (aCons (xVar 2) aNil)) (bName 4) (sSeq (sSet 5 (xC (.int 0))) (sSeq (sFor (iWith pyRange1 (aCons (xVar 1) aNil)) (bName 6) (sIf (bOp pyEq (xOp pyTake (xUse d__law_number (aCons (xLst (aCons (xVar 0) aNil)) (aCons (xOp pyAddU (xOp pyAddU (xC (.int 11)) (xOp pyMulI (xC (.int 13)) (xVar 4))) (xVar 6)) aNil))) (xC (.int 3))) (xC (.int 0))) (sSet 5 (xOp pyBor (xVar 5) (xOp pyShl (xC (.int 1)) (xVar 6)))) .nx)) (sApp 3 (xVar 5))))) (sRet (xVar 3))))
def d__law_drawn_lots : List PV → Res PV := runB true 7 3 k__law_drawn_lots
theorem ok__law_drawn_lots (fx : Fx K mg) (G__law_take : FnOk P w K mg base (L2.CX P w) 1 fx.a__law_take fx.fd__law_take ["box", "size"] spTake) (G__law_number : FnOk P w K mg base (L2.CX P w) 1 fx.a__law_number fx.fd__law_number ["script", "k"] (spD mg K T false d__law_number)) : FnOk P w K mg base (L2.CX P w) 2 fx.a__law_drawn_lots fx.fd__law_drawn_lots ["number", "size", "count"] (spD mg K T true d__law_drawn_lots) := by
  refine fn_ok (k := 1) (N := N__law_drawn_lots) (ow' := [false, false, false, true, false, false, false]) fx.F__law_drawn_lots sc__law_drawn_lots fun cdv A outer s0 H E hr => ?_
  have nd := sc__law_drawn_lots.nd
  have hc : (cxOf (L2.CX P w) P w K mg base N__law_drawn_lots "_law_drawn_lots" (defScope s__law_drawn_lots) fx.a__law_drawn_lots cdv A outer s0 H E).calm = true := rfl
  have hp : PassesOwn (model P w) (A.deeper (envOfC "_law_drawn_lots" (defScope s__law_drawn_lots) s0.heap.objs.size fx.a__law_drawn_lots cdv)) (envOfC "_law_drawn_lots" (defScope s__law_drawn_lots) s0.heap.objs.size fx.a__law_drawn_lots cdv) (cxOf (L2.CX P w) P w K mg base N__law_drawn_lots "_law_drawn_lots" (defScope s__law_drawn_lots) fx.a__law_drawn_lots cdv A outer s0 H E).xe := passes_of (K := fun e s'' => L2.CX P w outer H s0 E e s'') (X := cxOf (L2.CX P w) P w K mg base N__law_drawn_lots "_law_drawn_lots" (defScope s__law_drawn_lots) fx.a__law_drawn_lots cdv A outer s0 H E) rfl
  have tk : Takes (cxOf (L2.CX P w) P w K mg base N__law_drawn_lots "_law_drawn_lots" (defScope s__law_drawn_lots) fx.a__law_drawn_lots cdv A outer s0 H E) (fun cls d _ H' => E cls d H') := takes_of rfl rfl rfl rfl
  exact (dss_cons (ds_setF nd rfl (by first | exact .inl rfl | exact .inr rfl) (df_lst da_nil)) (dss_cons (ds_for hp hc (di_range1 rfl fx.z_range (da_cons (de_var (pv 2) rfl) da_nil)) (dg_name nd rfl (by first | exact .inl rfl | exact .inr rfl)) (dss_cons (ds_set nd rfl (by first | exact .inl rfl | exact .inr rfl) de_int) (dss_cons (ds_for hp hc (di_range1 rfl fx.z_range (da_cons (de_var (pv 1) rfl) da_nil)) (dg_name nd rfl (by first | exact .inl rfl | exact .inr rfl)) (dss_one (ds_if (ow' := [false, false, false, true, false, false, false]) (dt_cmp (op_eqD hr.units) o_eq (DX.dr (de_take (G__law_take.mono (by decide)) hr rfl fx.g__law_take fx.F__law_take.kp fx.b__law_take (dx_use (G__law_number.mono (by decide)) hr rfl fx.g__law_number fx.F__law_number.kp fx.b__law_number tk (da_cons (DX.de (df_lst (da_cons (de_var (pv 0) rfl) da_nil))) (da_cons (dx_op op_addU o_addU (DX.dr (dx_op op_addU o_addU (DX.dr de_int) (DX.dr (dx_op op_mul o_mul (DX.dr de_int) (dr_var (pv 4)))))) (dr_var (pv 6))) da_nil))) de_int)) (DX.dr de_int) (nomark _)) (dss_one (ds_set nd rfl (by first | exact .inl rfl | exact .inr rfl) (dx_op op_or o_bor (dr_var (pv 5)) (DX.dr (dx_op op_shl o_shl (DX.dr de_int) (dr_var (pv 6))))))) dss_nil rfl))) (dss_one (ds_app (pv 3) rfl (da_cons (de_var (pv 5) rfl) da_nil)))))) (dss_one (ds_retOwn (pv 3) rfl))))
def k__law_span : PEnv → SR := (sSeq (sSet 1 (xLst (aCons (xC (.int 0)) aNil))) (sSeq (sFor (iOf pyItems (xVar 0)) (bName 2) (sIf (bOp (pyInU true) (xVar 2) (xVar 1)) (sSet 1 (xOp pyCat (xVar 1) (xLc (iOf pyItems (xVar 1)) (bName 3) bYes (xOp pyBxor (xVar 3) (xVar 2)) [3]))) .nx)) (sRet (xCall pySorted (aCons (xVar 1) aNil)))))
def d__law_span : List PV → Res PV := runB true 4 1 k__law_span
theorem ok__law_span (fx : Fx K mg) : FnOk P w K mg base (L2.CX P w) 1 fx.a__law_span fx.fd__law_span ["rows"] (spD mg K T true d__law_span) := by
  refine fn_ok (k := 0) (N := N__law_span) (ow' := [false, false, false, false]) fx.F__law_span sc__law_span fun cdv A outer s0 H E hr => ?_
  have nd := sc__law_span.nd
  have hc : (cxOf (L2.CX P w) P w K mg base N__law_span "_law_span" (defScope s__law_span) fx.a__law_span cdv A outer s0 H E).calm = true := rfl
  have hp : PassesOwn (model P w) (A.deeper (envOfC "_law_span" (defScope s__law_span) s0.heap.objs.size fx.a__law_span cdv)) (envOfC "_law_span" (defScope s__law_span) s0.heap.objs.size fx.a__law_span cdv) (cxOf (L2.CX P w) P w K mg base N__law_span "_law_span" (defScope s__law_span) fx.a__law_span cdv A outer s0 H E).xe := passes_of (K := fun e s'' => L2.CX P w outer H s0 E e s'') (X := cxOf (L2.CX P w) P w K mg base N__law_span "_law_span" (defScope s__law_span) fx.a__law_span cdv A outer s0 H E) rfl
  exact (dss_cons (ds_set nd rfl (by first | exact .inl rfl | exact .inr rfl) (DX.de (df_lst (da_cons de_int da_nil)))) (dss_cons (ds_for hp hc (di_list (de_var (pv 0) rfl)) (dg_name nd rfl (by first | exact .inl rfl | exact .inr rfl)) (dss_one (ds_if (ow' := [false, false, false, false]) (dt_cmp (op_notInU hr.units1) o_notInU (dr_var (pv 2)) (dr_var (pv 1)) rfl) (dss_one (ds_set nd rfl (by first | exact .inl rfl | exact .inr rfl) (DX.de (dx_op op_cat o_cat (dr_var (pv 1)) (DX.dr (df_lc hc nd (di_listR (dr_var (pv 1))) (blkOk_by (own := [("one", 3)]) (by kernel_rfl)) (fun _ _ _ _ _ => (dg_name nd rfl (by first | exact .inl rfl | exact .inr rfl))) (fun _ _ _ _ _ => dts_nil) (fun _ _ _ _ _ => (dx_op op_xor o_bxor (dr_var (pv 3)) (dr_var (pv 2)))) (by decide))))))) dss_nil rfl))) (dss_one (ds_ret (dx_callB cr_sortedI c_sorted rfl fx.z_sorted (by decide +kernel) (dar_cons (dr_var (pv 1)) dar_nil)) rfl))))
noncomputable def k__law_top : PEnv → SR := (sSeq (sSet 1 (xC (.int 0))) (sSeq (sWhile (bOp pyGt (xVar 0) (xC (.int 1))) (sSeq (sSet 0 (xOp pyShr (xVar 0) (xC (.int 1)))) (sSet 1 (xOp pyAddU (xVar 1) (xC (.int 1)))))) (sRet (xVar 1))))
noncomputable def d__law_top : List PV → Res PV := runB false 2 1 k__law_top
theorem ok__law_top (fx : Fx K mg) : FnOk P w K mg base (L2.CX P w) 1 fx.a__law_top fx.fd__law_top ["row"] (spD mg K T false d__law_top) := by
  refine fn_ok (k := 0) (N := N__law_top) (ow' := [false, false]) fx.F__law_top sc__law_top fun cdv A outer s0 H E hr => ?_
  have nd := sc__law_top.nd
  have hc : (cxOf (L2.CX P w) P w K mg base N__law_top "_law_top" (defScope s__law_top) fx.a__law_top cdv A outer s0 H E).calm = true := rfl
  have hp : PassesOwn (model P w) (A.deeper (envOfC "_law_top" (defScope s__law_top) s0.heap.objs.size fx.a__law_top cdv)) (envOfC "_law_top" (defScope s__law_top) s0.heap.objs.size fx.a__law_top cdv) (cxOf (L2.CX P w) P w K mg base N__law_top "_law_top" (defScope s__law_top) fx.a__law_top cdv A outer s0 H E).xe := passes_of (K := fun e s'' => L2.CX P w outer H s0 E e s'') (X := cxOf (L2.CX P w) P w K mg base N__law_top "_law_top" (defScope s__law_top) fx.a__law_top cdv A outer s0 H E) rfl
  exact (dss_cons (ds_set nd rfl (by first | exact .inl rfl | exact .inr rfl) de_int) (dss_cons (ds_while hp (dt_cmp op_gt o_gt (dr_var (pv 0)) (DX.dr de_int) (nomark _)) (dss_cons (ds_set nd rfl (by first | exact .inl rfl | exact .inr rfl) (dx_op op_shr o_shr (dr_var (pv 0)) (DX.dr de_int))) (dss_one (ds_set nd rfl (by first | exact .inl rfl | exact .inr rfl) (dx_op op_addU o_addU (dr_var (pv 1)) (DX.dr de_int)))))) (dss_one (ds_ret (de_var (pv 1) rfl) rfl))))
noncomputable def k_law : PEnv → SR := (sSeq (sFor (iWith pyRange1 (aCons (xC (.int 3)) aNil)) (bName 1) (sSeq (sSet 2 (xUse d__law_number (aCons (xVar 0) (aCons (xVar 1) aNil)))) (sSeq (sSet 3 (xOp pyAddU (xC (.int 1)) (xOp pyTake (xVar 2) (xC (.int 10))))) (sSeq (sSet 4 (xUse d__law_drawn_lots (aCons (xVar 2) (aCons (xVar 3) (aCons (xOp pyTake (xUse d__law_number (aCons (xLst (aCons (xVar 2) aNil)) (aCons (xC (.int 1)) aNil))) (xC (.int 7))) aNil))))) (sSeq (sSet 4 (xOp pyCat (xOp pyCat (xVar 4) (xSl pySlL (xVar 4) oNone (oSome (xC (.int 1))))) (xLst (aCons (xC (.int 0)) aNil)))) (sSeq (sIf (bOp pyGt (xCall pyLen (aCons (xVar 4) aNil)) (xC (.int 3))) (sApp 4 (xOp pyBxor (xOp pyBxor (xOp pyIx (xVar 4) (xC (.int 0))) (xOp pyIx (xVar 4) (xC (.int 1)))) (xOp pyIx (xVar 4) (xC (.int 2))))) .nx) (sSeq (sSet 5 (xCall pyList (aCons (xVar 4) aNil))) (sSeq (sSet 6 (xUse d_reduced (aCons (xVar 5) aNil))) (sSeq (sSet 7 (xUse d__law_span (aCons (xVar 4) aNil))) (sSeq (sIf (bOr (bOp pyNe (xVar 5) (xVar 4)) (bOr (bOp pyNe (xVar 6) (xCall pySortedR (aCons (xVar 6) aNil))) (bOr (bOp (pyInU false) (xC (.int 0)) (xVar 6)) (bOp pyNe (xCall pyLen (aCons (xVar 7) aNil)) (xOp pyShl (xC (.int 1)) (xCall pyLen (aCons (xVar 6) aNil))))))) (sRet (xC (.bl false))) .nx) (sSeq (sFor (iWith pyRange1 (aCons (xCall pyLen (aCons (xVar 6) aNil)) aNil)) (bName 8) (sFor (iWith pyRange1 (aCons (xCall pyLen (aCons (xVar 6) aNil)) aNil)) (bName 9) (sIf (bAnd (bOp pyNe (xVar 9) (xVar 8)) (bOp pyNe (xOp pyBand (xOp pyIx (xVar 6) (xVar 9)) (xOp pyShl (xC (.int 1)) (xUse d__law_top (aCons (xOp pyIx (xVar 6) (xVar 8)) aNil)))) (xC (.int 0)))) (sRet (xC (.bl false))) .nx))) (sSeq (sIf (bOr (bOp pyNe (xUse d_span_of (aCons (xCall pyList (aCons (xVar 6) aNil)) aNil)) (xVar 7)) (bOp pyNe (xUse d__law_span (aCons (xVar 6) aNil)) (xVar 7))) (sRet (xC (.bl false))) .nx) (sSeq (sSet 10 (xCall pyList (aCons (xVar 4) aNil))) (sSeq (sFor (iWith pyRange1 (aCons (xC (.int 6)) aNil)) (bName 8) (sSeq (sSet 11 (xLst (aCons (xUse d__law_number (aCons (xLst (aCons (xVar 2) aNil)) (aCons (xOp pyAddU (xC (.int 200)) (xVar 8)) aNil))) aNil))) (sSeq (sSetM 12 (mTake 11 (mOf (xCall pyLen (aCons (xVar 10) aNil))))) (sSeq (sSetM 9 (mTake 11 (mOf (xCall pyLen (aCons (xVar 10) aNil))))) (sSeq (sIf (bOp pyNe (xVar 12) (xVar 9)) (sAsg (xOp pyBxor (xOp pyIx (xVar 10) (xVar 12)) (xOp pyIx (xVar 10) (xVar 9))) (bItem 10 (xVar 12))) .nx) (sSet 10 (xOp pyCat (xSl pySlL (xVar 10) (oSome (xC (.int 1))) oNone) (xSl pySlL (xVar 10) oNone (oSome (xC (.int 1))))))))))) (sSeq (sIf (bOp pyNe (xUse d_reduced (aCons (xCall pyList (aCons (xVar 10) aNil)) aNil)) (xVar 6)) (sRet (xC (.bl false))) .nx) (sSeq (sFor (iWith pyRange1 (aCons (xC (.int 20)) aNil)) (bName 8) (sSeq (sSet 13 (xOp pyTake (xUse d__law_number (aCons (xLst (aCons (xVar 2) aNil)) (aCons (xOp pyAddU (xC (.int 300)) (xVar 8)) aNil))) (xOp pyShl (xC (.int 1)) (xVar 3)))) (sSeq (sSet 14 (xUse d_rest_of (aCons (xVar 13) (aCons (xCall pyList (aCons (xVar 6) aNil)) aNil)))) (sIf (bOr (bOp pyNe (xOp pyEq (xVar 14) (xC (.int 0))) (xOp (pyInU false) (xVar 13) (xVar 7))) (bOr (bOp (pyInU true) (xOp pyBxor (xVar 14) (xVar 13)) (xVar 7)) (bOp pyGt (xCall pyLen (aCons (xLc (iOf pyItems (xVar 6)) (bName 16) (bOp pyNe (xOp pyBand (xVar 14) (xOp pyShl (xC (.int 1)) (xUse d__law_top (aCons (xVar 16) aNil)))) (xC (.int 0))) (xVar 16) [16]) aNil)) (xC (.int 0))))) (sRet (xC (.bl false))) .nx)))) (sSeq (sSet 15 (xC (.int 0))) (sSeq (sFor (iOf pyItems (xVar 4)) (bName 13) (sSet 15 (xOp pyBxor (xVar 15) (xVar 13)))) (sIf (bOr (bOp pyNe (xUse d_sum_of (aCons (xCall pyList (aCons (xVar 4) aNil)) aNil)) (xVar 15)) (bOp pyNe (xUse d_sum_of (aCons (xLst aNil) aNil)) (xC (.int 0)))) (sRet (xC (.bl false))) .nx))))))))))))))))))) (sRet (xC (.bl true))))
noncomputable def d_law : List PV → Res PV := runB false 17 1 k_law
theorem ok_law (fx : Fx K mg) (G__law_number : FnOk P w K mg base (L2.CX P w) 1 fx.a__law_number fx.fd__law_number ["script", "k"] (spD mg K T false d__law_number)) (G__law_drawn_lots : FnOk P w K mg base (L2.CX P w) 2 fx.a__law_drawn_lots fx.fd__law_drawn_lots ["number", "size", "count"] (spD mg K T true d__law_drawn_lots)) (G_reduced : FnOk P w K mg base (L2.CX P w) 2 fx.a_reduced fx.fd_reduced ["rows"] (spD mg K T false d_reduced)) (G__law_span : FnOk P w K mg base (L2.CX P w) 1 fx.a__law_span fx.fd__law_span ["rows"] (spD mg K T true d__law_span)) (G__law_take : FnOk P w K mg base (L2.CX P w) 1 fx.a__law_take fx.fd__law_take ["box", "size"] spTake) (G_rest_of : FnOk P w K mg base (L2.CX P w) 1 fx.a_rest_of fx.fd_rest_of ["row", "basis"] (spD mg K T false d_rest_of)) (G_span_of : FnOk P w K mg base (L2.CX P w) 1 fx.a_span_of fx.fd_span_of ["basis"] (spD mg K T true d_span_of)) (G_sum_of : FnOk P w K mg base (L2.CX P w) 1 fx.a_sum_of fx.fd_sum_of ["rows"] (spD mg K T false d_sum_of)) (G__law_top : FnOk P w K mg base (L2.CX P w) 1 fx.a__law_top fx.fd__law_top ["row"] (spD mg K T false d__law_top)) : FnOk P w K mg base (L2.CX P w) 3 fx.a_law fx.fd_law ["script"] (spD mg K T false d_law) := by
  refine fn_ok (k := 2) (N := N_law) (ow' := [false, false, false, false, false, false, false, false, false, false, false, false, false, false, false, false, false]) fx.F_law sc_law fun cdv A outer s0 H E hr => ?_
  have nd := sc_law.nd
  have hc : (cxOf (L2.CX P w) P w K mg base N_law "law" (defScope s_law) fx.a_law cdv A outer s0 H E).calm = true := rfl
  have hp : PassesOwn (model P w) (A.deeper (envOfC "law" (defScope s_law) s0.heap.objs.size fx.a_law cdv)) (envOfC "law" (defScope s_law) s0.heap.objs.size fx.a_law cdv) (cxOf (L2.CX P w) P w K mg base N_law "law" (defScope s_law) fx.a_law cdv A outer s0 H E).xe := passes_of (K := fun e s'' => L2.CX P w outer H s0 E e s'') (X := cxOf (L2.CX P w) P w K mg base N_law "law" (defScope s_law) fx.a_law cdv A outer s0 H E) rfl
  have tk : Takes (cxOf (L2.CX P w) P w K mg base N_law "law" (defScope s_law) fx.a_law cdv A outer s0 H E) (fun cls d _ H' => E cls d H') := takes_of rfl rfl rfl rfl
  exact (dss_cons (ds_for hp hc (di_range1 rfl fx.z_range (da_cons de_int da_nil)) (dg_name nd rfl (by first | exact .inl rfl | exact .inr rfl)) (dss_weak (dss_cons (ds_set nd rfl (by first | exact .inl rfl | exact .inr rfl) (dx_use (G__law_number.mono (by decide)) hr rfl fx.g__law_number fx.F__law_number.kp fx.b__law_number tk (da_cons (de_var (pv 0) rfl) (da_cons (de_var (pv 1) rfl) da_nil)))) (dss_cons (ds_set nd rfl (by first | exact .inl rfl | exact .inr rfl) (dx_op op_addU o_addU (DX.dr de_int) (DX.dr (de_take (G__law_take.mono (by decide)) hr rfl fx.g__law_take fx.F__law_take.kp fx.b__law_take (de_var (pv 2) rfl) de_int)))) (dss_cons (ds_setF nd rfl (by first | exact .inl rfl | exact .inr rfl) (dx_use (G__law_drawn_lots.mono (by decide)) hr rfl fx.g__law_drawn_lots fx.F__law_drawn_lots.kp fx.b__law_drawn_lots tk (da_cons (de_var (pv 2) rfl) (da_cons (de_var (pv 3) rfl) (da_cons (de_take (G__law_take.mono (by decide)) hr rfl fx.g__law_take fx.F__law_take.kp fx.b__law_take (dx_use (G__law_number.mono (by decide)) hr rfl fx.g__law_number fx.F__law_number.kp fx.b__law_number tk (da_cons (DX.de (df_lst (da_cons (de_var (pv 2) rfl) da_nil))) (da_cons de_int da_nil))) de_int) da_nil))))) (dss_cons (ds_setF nd rfl (by first | exact .inl rfl | exact .inr rfl) (dx_op op_cat o_cat (DX.dr (dx_op op_cat o_cat (dr_var (pv 4)) (DX.dr (dx_slice sl_list s_slL (dr_var (pv 4)) do_none (do_some de_int))))) (DX.dr (df_lst (da_cons de_int da_nil))))) (dss_cons (ds_if (ow' := [false, false, false, false, true, false, false, false, false, false, false, false, false, false, false, false, false]) (dt_cmp op_gt o_gt (DX.dr (dx_callB call_len c_len rfl fx.z_len boot_len (dar_cons (dr_var (pv 4)) dar_nil))) (DX.dr de_int) (nomark _)) (dss_one (ds_app (pv 4) rfl (da_cons (dx_op op_xor o_bxor (DX.dr (dx_op op_xor o_bxor (DX.dr (dx_ix ix_seq o_ix (dr_var (pv 4)) (DX.dr de_int) (fun _ _ => rfl))) (DX.dr (dx_ix ix_seq o_ix (dr_var (pv 4)) (DX.dr de_int) (fun _ _ => rfl))))) (DX.dr (dx_ix ix_seq o_ix (dr_var (pv 4)) (DX.dr de_int) (fun _ _ => rfl)))) da_nil))) dss_nil rfl) (dss_cons (ds_set nd rfl (by first | exact .inl rfl | exact .inr rfl) (DX.de (dx_callTy call_list_of c_list rfl fx.z_list (by decide +kernel) (dar_cons (dr_var (pv 4)) dar_nil)))) (dss_cons (ds_set nd rfl (by first | exact .inl rfl | exact .inr rfl) (dx_use (G_reduced.mono (by decide)) hr rfl fx.g_reduced fx.F_reduced.kp fx.b_reduced tk (da_cons (de_var (pv 5) rfl) da_nil))) (dss_cons (ds_pre (ow1 := [false, false, false, false, false, false, false, false, false, false, false, false, false, false, false, false, false]) (ds_set nd rfl (by first | exact .inl rfl | exact .inr rfl) (DX.de (dx_use (G__law_span.mono (by decide)) hr rfl fx.g__law_span fx.F__law_span.kp fx.b__law_span tk (da_cons (de_var (pv 4) rfl) da_nil)))) rfl) (dss_cons (ds_if (ow' := [false, false, false, false, false, false, false, false, false, false, false, false, false, false, false, false, false]) (DW.dt (dw_or (dt_cmp (op_neD hr.units) o_ne (dr_var (pv 5)) (dr_var (pv 4)) (nomark _)) (dw_or (dt_cmp (op_neD hr.units) o_ne (dr_var (pv 6)) (DX.dr (df_sortedR rfl fx.z_sorted (by decide +kernel) (dar_cons (dr_var (pv 6)) dar_nil))) (nomark _)) (dw_or (dt_cmp (op_inU hr.units1) o_inU (DX.dr de_int) (dr_var (pv 6)) rfl) (dw_or1 (dt_cmp (op_neD hr.units) o_ne (DX.dr (dx_callB call_len c_len rfl fx.z_len boot_len (dar_cons (dr_var (pv 7)) dar_nil))) (DX.dr (dx_op op_shl o_shl (DX.dr de_int) (DX.dr (dx_callB call_len c_len rfl fx.z_len boot_len (dar_cons (dr_var (pv 6)) dar_nil))))) (nomark _))))))) (dss_one (ds_ret de_bl rfl)) dss_nil rfl) (dss_cons (ds_for hp hc (di_range1 rfl fx.z_range (da_cons (dx_callB call_len c_len rfl fx.z_len boot_len (dar_cons (dr_var (pv 6)) dar_nil)) da_nil)) (dg_name nd rfl (by first | exact .inl rfl | exact .inr rfl)) (dss_one (ds_for hp hc (di_range1 rfl fx.z_range (da_cons (dx_callB call_len c_len rfl fx.z_len boot_len (dar_cons (dr_var (pv 6)) dar_nil)) da_nil)) (dg_name nd rfl (by first | exact .inl rfl | exact .inr rfl)) (dss_one (ds_if (ow' := [false, false, false, false, false, false, false, false, false, false, false, false, false, false, false, false, false]) (DW.dt (dw_and (dt_cmp (op_neD hr.units) o_ne (dr_var (pv 9)) (dr_var (pv 8)) (nomark _)) (dw_and1 (dt_cmp (op_neD hr.units) o_ne (DX.dr (dx_op op_and o_band (DX.dr (dx_ix ix_seq o_ix (dr_var (pv 6)) (dr_var (pv 9)) (fun _ _ => rfl))) (DX.dr (dx_op op_shl o_shl (DX.dr de_int) (DX.dr (dx_use (G__law_top.mono (by decide)) hr rfl fx.g__law_top fx.F__law_top.kp fx.b__law_top tk (da_cons (dx_ix ix_seq o_ix (dr_var (pv 6)) (dr_var (pv 8)) (fun _ _ => rfl)) da_nil))))))) (DX.dr de_int) (nomark _))))) (dss_one (ds_ret de_bl rfl)) dss_nil rfl))))) (dss_cons (ds_if (ow' := [false, false, false, false, false, false, false, false, false, false, false, false, false, false, false, false, false]) (DW.dt (dw_or (dt_cmp (op_neD hr.units) o_ne (DX.dr (dx_use (G_span_of.mono (by decide)) hr rfl fx.g_span_of fx.F_span_of.kp fx.b_span_of tk (da_cons (DX.de (dx_callTy call_list_of c_list rfl fx.z_list (by decide +kernel) (dar_cons (dr_var (pv 6)) dar_nil))) da_nil))) (dr_var (pv 7)) (nomark _)) (dw_or1 (dt_cmp (op_neD hr.units) o_ne (DX.dr (dx_use (G__law_span.mono (by decide)) hr rfl fx.g__law_span fx.F__law_span.kp fx.b__law_span tk (da_cons (de_var (pv 6) rfl) da_nil))) (dr_var (pv 7)) (nomark _))))) (dss_one (ds_ret de_bl rfl)) dss_nil rfl) (dss_cons (ds_setF nd rfl (by first | exact .inl rfl | exact .inr rfl) (dx_callTy call_list_of c_list rfl fx.z_list (by decide +kernel) (dar_cons (dr_var (pv 4)) dar_nil))) (dss_cons (ds_for hp hc (di_range1 rfl fx.z_range (da_cons de_int da_nil)) (dg_name nd rfl (by first | exact .inl rfl | exact .inr rfl)) (dss_weak (dss_cons (ds_setF nd rfl (by first | exact .inl rfl | exact .inr rfl) (df_lst (da_cons (dx_use (G__law_number.mono (by decide)) hr rfl fx.g__law_number fx.F__law_number.kp fx.b__law_number tk (da_cons (DX.de (df_lst (da_cons (de_var (pv 2) rfl) da_nil))) (da_cons (dx_op op_addU o_addU (DX.dr de_int) (dr_var (pv 8))) da_nil))) da_nil))) (dss_cons (ds_setM nd rfl (by first | exact .inl rfl | exact .inr rfl) (dm_take (G__law_take.mono (by decide)) hr rfl fx.g__law_take fx.F__law_take.kp fx.b__law_take (pv 11) rfl (dm_of (fr := false) (dx_callB call_len c_len rfl fx.z_len boot_len (dar_cons (dr_var (pv 10)) dar_nil))))) (dss_cons (ds_setM nd rfl (by first | exact .inl rfl | exact .inr rfl) (dm_take (G__law_take.mono (by decide)) hr rfl fx.g__law_take fx.F__law_take.kp fx.b__law_take (pv 11) rfl (dm_of (fr := false) (dx_callB call_len c_len rfl fx.z_len boot_len (dar_cons (dr_var (pv 10)) dar_nil))))) (dss_cons (ds_if (ow' := [false, false, false, false, false, false, false, false, false, false, true, true, false, false, false, false, false]) (dt_cmp (op_neD hr.units) o_ne (dr_var (pv 12)) (dr_var (pv 9)) (nomark _)) (dss_one (ds_asgH (dx_op op_xor o_bxor (DX.dr (dx_ix ix_seq o_ix (dr_var (pv 10)) (dr_var (pv 12)) (fun _ _ => rfl))) (DX.dr (dx_ix ix_seq o_ix (dr_var (pv 10)) (dr_var (pv 9)) (fun _ _ => rfl)))) (dgh_item (pv 10) rfl (de_var (pv 12) rfl)))) dss_nil rfl) (dss_one (ds_setF nd rfl (by first | exact .inl rfl | exact .inr rfl) (dx_op op_cat o_cat (DX.dr (dx_slice sl_list s_slL (dr_var (pv 10)) (do_some de_int) do_none)) (DX.dr (dx_slice sl_list s_slL (dr_var (pv 10)) do_none (do_some de_int)))))))))) rfl)) (dss_cons (ds_if (ow' := [false, false, false, false, false, false, false, false, false, false, true, false, false, false, false, false, false]) (dt_cmp (op_neD hr.units) o_ne (DX.dr (dx_use (G_reduced.mono (by decide)) hr rfl fx.g_reduced fx.F_reduced.kp fx.b_reduced tk (da_cons (DX.de (dx_callTy call_list_of c_list rfl fx.z_list (by decide +kernel) (dar_cons (dr_var (pv 10)) dar_nil))) da_nil))) (dr_var (pv 6)) (nomark _)) (dss_one (ds_ret de_bl rfl)) dss_nil rfl) (dss_cons (ds_for hp hc (di_range1 rfl fx.z_range (da_cons de_int da_nil)) (dg_name nd rfl (by first | exact .inl rfl | exact .inr rfl)) (dss_cons (ds_set nd rfl (by first | exact .inl rfl | exact .inr rfl) (de_take (G__law_take.mono (by decide)) hr rfl fx.g__law_take fx.F__law_take.kp fx.b__law_take (dx_use (G__law_number.mono (by decide)) hr rfl fx.g__law_number fx.F__law_number.kp fx.b__law_number tk (da_cons (DX.de (df_lst (da_cons (de_var (pv 2) rfl) da_nil))) (da_cons (dx_op op_addU o_addU (DX.dr de_int) (dr_var (pv 8))) da_nil))) (dx_op op_shl o_shl (DX.dr de_int) (dr_var (pv 3))))) (dss_cons (ds_set nd rfl (by first | exact .inl rfl | exact .inr rfl) (dx_use (G_rest_of.mono (by decide)) hr rfl fx.g_rest_of fx.F_rest_of.kp fx.b_rest_of tk (da_cons (de_var (pv 13) rfl) (da_cons (DX.de (dx_callTy call_list_of c_list rfl fx.z_list (by decide +kernel) (dar_cons (dr_var (pv 6)) dar_nil))) da_nil)))) (dss_one (ds_if (ow' := [false, false, false, false, false, false, false, false, false, false, true, false, false, false, false, false, false]) (DW.dt (dw_or (dt_cmp (op_neD hr.units) o_ne (DX.dr (de_cmp (op_eqD hr.units) o_eq (dr_var (pv 14)) (DX.dr de_int) (nomark _))) (DX.dr (de_cmp (op_inU hr.units1) o_inU (dr_var (pv 13)) (dr_var (pv 7)) rfl)) (nomark _)) (dw_or (dt_cmp (op_notInU hr.units1) o_notInU (DX.dr (dx_op op_xor o_bxor (dr_var (pv 14)) (dr_var (pv 13)))) (dr_var (pv 7)) rfl) (dw_or1 (dt_cmp op_gt o_gt (DX.dr (dx_callB call_len c_len rfl fx.z_len boot_len (dar_cons (DX.dr (df_lc hc nd (di_listR (dr_var (pv 6))) (blkOk_by (own := [("one", 16)]) (by kernel_rfl)) (fun _ _ _ _ _ => (dg_name nd rfl (by first | exact .inl rfl | exact .inr rfl))) (fun _ _ _ _ _ => (dts_one (dt_cmp (op_neD hr.units) o_ne (DX.dr (dx_op op_and o_band (dr_var (pv 14)) (DX.dr (dx_op op_shl o_shl (DX.dr de_int) (DX.dr (dx_use (G__law_top.mono (by decide)) hr rfl fx.g__law_top fx.F__law_top.kp fx.b__law_top takes0 (da_cons (de_var (pv 16) rfl) da_nil))))))) (DX.dr de_int) (nomark _)))) (fun _ _ _ _ _ => (de_var (pv 16) rfl)) (by decide))) dar_nil))) (DX.dr de_int) (nomark _)))))) (dss_one (ds_ret de_bl rfl)) dss_nil rfl))))) (dss_cons (ds_set nd rfl (by first | exact .inl rfl | exact .inr rfl) de_int) (dss_cons (ds_for hp hc (di_list (de_var (pv 4) rfl)) (dg_name nd rfl (by first | exact .inl rfl | exact .inr rfl)) (dss_one (ds_set nd rfl (by first | exact .inl rfl | exact .inr rfl) (dx_op op_xor o_bxor (dr_var (pv 15)) (dr_var (pv 13)))))) (dss_one (ds_if (ow' := [false, false, false, false, false, false, false, false, false, false, true, false, false, false, false, false, false]) (DW.dt (dw_or (dt_cmp (op_neD hr.units) o_ne (DX.dr (dx_use (G_sum_of.mono (by decide)) hr rfl fx.g_sum_of fx.F_sum_of.kp fx.b_sum_of tk (da_cons (DX.de (dx_callTy call_list_of c_list rfl fx.z_list (by decide +kernel) (dar_cons (dr_var (pv 4)) dar_nil))) da_nil))) (dr_var (pv 15)) (nomark _)) (dw_or1 (dt_cmp (op_neD hr.units) o_ne (DX.dr (dx_use (G_sum_of.mono (by decide)) hr rfl fx.g_sum_of fx.F_sum_of.kp fx.b_sum_of tk (da_cons (DX.de (df_lst da_nil)) da_nil))) (DX.dr de_int) (nomark _))))) (dss_one (ds_ret de_bl rfl)) dss_nil rfl))))))))))))))))))) rfl)) (dss_one (ds_ret de_bl rfl)))
end
theorem all_mk {w : World} {K : PySem.W.Frag} {h : Heap} {mg : Str → Option Value} {fa : Addr} (X : K.In h) (G : h.Ns mainGlobals mg) (hfa : mg "law" = some (.ref fa))
    {f0 : Addr} {od0 an0 : Option Addr} {sl0 : Array (Option Value)} {oc0 kV0 dc0 pm0 cd0 ct0 : Value}
    {f1 : Addr} {od1 an1 : Option Addr} {sl1 : Array (Option Value)} {oc1 kV1 dc1 pm1 cd1 ct1 : Value}
    {f2 : Addr} {od2 an2 : Option Addr} {sl2 : Array (Option Value)} {oc2 kV2 dc2 pm2 cd2 ct2 : Value}
    {f3 : Addr} {od3 an3 : Option Addr} {sl3 : Array (Option Value)} {oc3 kV3 dc3 pm3 cd3 ct3 : Value}
    {f4 : Addr} {od4 an4 : Option Addr} {sl4 : Array (Option Value)} {oc4 kV4 dc4 pm4 cd4 ct4 : Value}
    {f5 : Addr} {od5 an5 : Option Addr} {sl5 : Array (Option Value)} {oc5 kV5 dc5 pm5 cd5 ct5 : Value}
    {f6 : Addr} {od6 an6 : Option Addr} {sl6 : Array (Option Value)} {oc6 kV6 dc6 pm6 cd6 ct6 : Value}
    {f7 : Addr} {od7 an7 : Option Addr} {sl7 : Array (Option Value)} {oc7 kV7 dc7 pm7 cd7 ct7 : Value}
    {f8 : Addr} {od8 an8 : Option Addr} {sl8 : Array (Option Value)} {oc8 kV8 dc8 pm8 cd8 ct8 : Value}
    {f9 : Addr} {od9 an9 : Option Addr} {sl9 : Array (Option Value)} {oc9 kV9 dc9 pm9 cd9 ct9 : Value}
    (a0 : PySem.W.nsIn K mainGlobals "sum_of" = some (some (.ref f0))) (l0 : K.lookup f0 = some ⟨oc0, od0, .func (PySem.W.fnOf "sum_of" "sum_of" (defArgs s_sum_of) (defBody s_sum_of) (defScope s_sum_of) .none kV0 dc0 pm0 an0 cd0 ct0), sl0⟩) (c0 : PySem.W.codeIn K cd0 "sum_of" = true) (k0 : PySem.W.keepIn K (.ref f0) = true)
    (a1 : PySem.W.nsIn K mainGlobals "rest_of" = some (some (.ref f1))) (l1 : K.lookup f1 = some ⟨oc1, od1, .func (PySem.W.fnOf "rest_of" "rest_of" (defArgs s_rest_of) (defBody s_rest_of) (defScope s_rest_of) .none kV1 dc1 pm1 an1 cd1 ct1), sl1⟩) (c1 : PySem.W.codeIn K cd1 "rest_of" = true) (k1 : PySem.W.keepIn K (.ref f1) = true)
    (a2 : PySem.W.nsIn K mainGlobals "reduced" = some (some (.ref f2))) (l2 : K.lookup f2 = some ⟨oc2, od2, .func (PySem.W.fnOf "reduced" "reduced" (defArgs s_reduced) (defBody s_reduced) (defScope s_reduced) .none kV2 dc2 pm2 an2 cd2 ct2), sl2⟩) (c2 : PySem.W.codeIn K cd2 "reduced" = true) (k2 : PySem.W.keepIn K (.ref f2) = true)
    (a3 : PySem.W.nsIn K mainGlobals "span_of" = some (some (.ref f3))) (l3 : K.lookup f3 = some ⟨oc3, od3, .func (PySem.W.fnOf "span_of" "span_of" (defArgs s_span_of) (defBody s_span_of) (defScope s_span_of) .none kV3 dc3 pm3 an3 cd3 ct3), sl3⟩) (c3 : PySem.W.codeIn K cd3 "span_of" = true) (k3 : PySem.W.keepIn K (.ref f3) = true)
    (a4 : PySem.W.nsIn K mainGlobals "_law_number" = some (some (.ref f4))) (l4 : K.lookup f4 = some ⟨oc4, od4, .func (PySem.W.fnOf "_law_number" "_law_number" (defArgs s__law_number) (defBody s__law_number) (defScope s__law_number) .none kV4 dc4 pm4 an4 cd4 ct4), sl4⟩) (c4 : PySem.W.codeIn K cd4 "_law_number" = true) (k4 : PySem.W.keepIn K (.ref f4) = true)
    (a5 : PySem.W.nsIn K mainGlobals "_law_take" = some (some (.ref f5))) (l5 : K.lookup f5 = some ⟨oc5, od5, .func (PySem.W.fnOf "_law_take" "_law_take" (defArgs s__law_take) (defBody s__law_take) (defScope s__law_take) .none kV5 dc5 pm5 an5 cd5 ct5), sl5⟩) (c5 : PySem.W.codeIn K cd5 "_law_take" = true) (k5 : PySem.W.keepIn K (.ref f5) = true)
    (a6 : PySem.W.nsIn K mainGlobals "_law_drawn_lots" = some (some (.ref f6))) (l6 : K.lookup f6 = some ⟨oc6, od6, .func (PySem.W.fnOf "_law_drawn_lots" "_law_drawn_lots" (defArgs s__law_drawn_lots) (defBody s__law_drawn_lots) (defScope s__law_drawn_lots) .none kV6 dc6 pm6 an6 cd6 ct6), sl6⟩) (c6 : PySem.W.codeIn K cd6 "_law_drawn_lots" = true) (k6 : PySem.W.keepIn K (.ref f6) = true)
    (a7 : PySem.W.nsIn K mainGlobals "_law_span" = some (some (.ref f7))) (l7 : K.lookup f7 = some ⟨oc7, od7, .func (PySem.W.fnOf "_law_span" "_law_span" (defArgs s__law_span) (defBody s__law_span) (defScope s__law_span) .none kV7 dc7 pm7 an7 cd7 ct7), sl7⟩) (c7 : PySem.W.codeIn K cd7 "_law_span" = true) (k7 : PySem.W.keepIn K (.ref f7) = true)
    (a8 : PySem.W.nsIn K mainGlobals "_law_top" = some (some (.ref f8))) (l8 : K.lookup f8 = some ⟨oc8, od8, .func (PySem.W.fnOf "_law_top" "_law_top" (defArgs s__law_top) (defBody s__law_top) (defScope s__law_top) .none kV8 dc8 pm8 an8 cd8 ct8), sl8⟩) (c8 : PySem.W.codeIn K cd8 "_law_top" = true) (k8 : PySem.W.keepIn K (.ref f8) = true)
    (a9 : PySem.W.nsIn K mainGlobals "law" = some (some (.ref f9))) (l9 : K.lookup f9 = some ⟨oc9, od9, .func (PySem.W.fnOf "law" "law" (defArgs s_law) (defBody s_law) (defScope s_law) .none kV9 dc9 pm9 an9 cd9 ct9), sl9⟩) (c9 : PySem.W.codeIn K cd9 "law" = true) (k9 : PySem.W.keepIn K (.ref f9) = true)
    (z_int : PySem.W.nsIn K mainGlobals "int" = some none)
    (z_len : PySem.W.nsIn K mainGlobals "len" = some none)
    (z_list : PySem.W.nsIn K mainGlobals "list" = some none)
    (z_range : PySem.W.nsIn K mainGlobals "range" = some none)
    (z_sorted : PySem.W.nsIn K mainGlobals "sorted" = some none)
    (main : ∀ ns : List Int, ns.length ≤ 63 → (∀ z ∈ ns, Builtin.Int.intBits z ≤ 1048576) → d_law [.scr ns] = .ok (.bl true)) :
    LamX.LawAtS PySem.Challenge.rw_heapsbybits_k07_bases_of_rows w K (L2.CX PySem.Challenge.rw_heapsbybits_k07_bases_of_rows.prog w) 3 63 "script" mg fa h := by
  have e := hfa.symm.trans (PySem.W.mg_of X G a9)
  cases e
  have F0 := fun_mk (st := s_sum_of) l0 c0 k0
  have b0 := F0.binds (ps := ["rows"]) fun _ _ _ _ _ _ us hl => match us, hl with | [_], _ => rfl
  have F1 := fun_mk (st := s_rest_of) l1 c1 k1
  have b1 := F1.binds (ps := ["row", "basis"]) fun _ _ _ _ _ _ us hl => match us, hl with | [_, _], _ => rfl
  have F2 := fun_mk (st := s_reduced) l2 c2 k2
  have b2 := F2.binds (ps := ["rows"]) fun _ _ _ _ _ _ us hl => match us, hl with | [_], _ => rfl
  have F3 := fun_mk (st := s_span_of) l3 c3 k3
  have b3 := F3.binds (ps := ["basis"]) fun _ _ _ _ _ _ us hl => match us, hl with | [_], _ => rfl
  have F4 := fun_mk (st := s__law_number) l4 c4 k4
  have b4 := F4.binds (ps := ["script", "k"]) fun _ _ _ _ _ _ us hl => match us, hl with | [_, _], _ => rfl
  have F5 := fun_mk (st := s__law_take) l5 c5 k5
  have b5 := F5.binds (ps := ["box", "size"]) fun _ _ _ _ _ _ us hl => match us, hl with | [_, _], _ => rfl
  have F6 := fun_mk (st := s__law_drawn_lots) l6 c6 k6
  have b6 := F6.binds (ps := ["number", "size", "count"]) fun _ _ _ _ _ _ us hl => match us, hl with | [_, _, _], _ => rfl
  have F7 := fun_mk (st := s__law_span) l7 c7 k7
  have b7 := F7.binds (ps := ["rows"]) fun _ _ _ _ _ _ us hl => match us, hl with | [_], _ => rfl
  have F8 := fun_mk (st := s__law_top) l8 c8 k8
  have b8 := F8.binds (ps := ["row"]) fun _ _ _ _ _ _ us hl => match us, hl with | [_], _ => rfl
  have F9 := fun_mk (st := s_law) l9 c9 k9
  have b9 := F9.binds (ps := ["script"]) fun _ _ _ _ _ _ us hl => match us, hl with | [_], _ => rfl
  let fx : Fx K mg := ⟨f0, _, F0, PySem.W.mg_of X G a0, b0,
    f1, _, F1, PySem.W.mg_of X G a1, b1,
    f2, _, F2, PySem.W.mg_of X G a2, b2,
    f3, _, F3, PySem.W.mg_of X G a3, b3,
    f4, _, F4, PySem.W.mg_of X G a4, b4,
    f5, _, F5, PySem.W.mg_of X G a5, b5,
    f6, _, F6, PySem.W.mg_of X G a6, b6,
    f7, _, F7, PySem.W.mg_of X G a7, b7,
    f8, _, F8, PySem.W.mg_of X G a8, b8,
    fa, _, F9, PySem.W.mg_of X G a9, b9,
    PySem.W.mg_none_of X G z_int,
    PySem.W.mg_none_of X G z_len,
    PySem.W.mg_none_of X G z_list,
    PySem.W.mg_none_of X G z_range,
    PySem.W.mg_none_of X G z_sorted⟩
  refine law_at (fd := fx.fd_law) (d := d_law) (fun s v => .of_eq rfl) main fun base KB GB => ?_
  have G_sum_of := ok_sum_of (P := PySem.Challenge.rw_heapsbybits_k07_bases_of_rows.prog) (w := w) (base := base) (T := fun _ => False) fx
  have G_rest_of := ok_rest_of (P := PySem.Challenge.rw_heapsbybits_k07_bases_of_rows.prog) (w := w) (base := base) (T := fun _ => False) fx
  have G_reduced := ok_reduced (P := PySem.Challenge.rw_heapsbybits_k07_bases_of_rows.prog) (w := w) (base := base) (T := fun _ => False) fx G_rest_of
  have G_span_of := ok_span_of (P := PySem.Challenge.rw_heapsbybits_k07_bases_of_rows.prog) (w := w) (base := base) (T := fun _ => False) fx
  have G__law_number := ok__law_number (P := PySem.Challenge.rw_heapsbybits_k07_bases_of_rows.prog) (w := w) (base := base) (T := fun _ => False) fx
  have G__law_take := ok__law_take (P := PySem.Challenge.rw_heapsbybits_k07_bases_of_rows.prog) (w := w) (base := base) fx
  have G__law_drawn_lots := ok__law_drawn_lots (P := PySem.Challenge.rw_heapsbybits_k07_bases_of_rows.prog) (w := w) (base := base) (T := fun _ => False) fx G__law_take G__law_number
  have G__law_span := ok__law_span (P := PySem.Challenge.rw_heapsbybits_k07_bases_of_rows.prog) (w := w) (base := base) (T := fun _ => False) fx
  have G__law_top := ok__law_top (P := PySem.Challenge.rw_heapsbybits_k07_bases_of_rows.prog) (w := w) (base := base) (T := fun _ => False) fx
  have G_law := ok_law (P := PySem.Challenge.rw_heapsbybits_k07_bases_of_rows.prog) (w := w) (base := base) (T := fun _ => False) fx G__law_number G__law_drawn_lots G_reduced G__law_span G__law_take G_rest_of G_span_of G_sum_of G__law_top
  exact G_law
end Q_k07
end

section
set_option Elab.async false
set_option linter.all false
set_option maxRecDepth 100000
set_option maxHeartbeats 1000000
namespace D
open PySem PySem.Spec PyProof.Rows L2

/-! ### reckoning: one equation for each form -/
/-- an equation that is not to be used by unfolding -/
theorem nd {α : Sort _} {a b : α} (h : a = b) : a = b := h
def SR.th (r : SR) (k : PEnv → SR) : SR := match r with
  | .nx e => k e
  | r => r
def Res.thS (r : Res PV) (env : PEnv) (k : PV → SR) : SR := match r with
  | .ok a => k a
  | .err x => .er x env
  | .bad => .bad
def Res.thB (r : Res Bool) (env : PEnv) (k1 k2 : PEnv → SR) : SR := match r with
  | .ok a => if a = true then k1 env else k2 env
  | .err x => .er x env
  | .bad => .bad
def Res.ap2 (f : F2) (r s : Res PV) : Res PV := r.bnd fun p => s.bnd fun q => ofO (f p q)
def Res.ap2B (f : F2) (r s : Res PV) : Res Bool := r.bnd fun p => s.bnd fun q => ofO (tr1 f p q)
def Res.ap1 {α : Type} (f : PV → Option α) (r : Res PV) : Res α := r.bnd fun p => ofO (f p)
def Res.apL {α : Type} (f : List PV → Option α) (r : Res (List PV)) : Res α := r.bnd fun p => ofO (f p)
def Res.apM (f : PV → List PV → Option PV) (r : Res PV) (s : Res (List PV)) : Res PV := r.bnd fun p => s.bnd fun q => ofO (f p q)
def rcons (r : Res PV) (s : Res (List PV)) : Res (List PV) := r.bnd fun p => s.bnd fun q => .ok (p :: q)
def rand (r s : Res Bool) : Res Bool := r.bnd fun p => if p = true then s else .ok false
def ror (r s : Res Bool) : Res Bool := r.bnd fun p => if p = true then .ok true else s
def rnot (r : Res Bool) : Res Bool := r.bnd fun p => .ok (!p)
def xgd (r : Res PV) (c : PV → Bool) : Res PV := r.bnd fun p => if c p = true then .ok p else .bad
def getP : Option (Option PV) → Res PV
  | some (some x) => .ok x
  | _ => .bad
def forR (f : Bd) (k : PEnv → SR) (env : PEnv) (r : Res (List PV)) : SR := match r with
  | .ok xs => if xs.length ≤ sizeLine then forL f k xs env else .bad
  | .err x => .er x env
  | .bad => .bad
def lcR (f : Bd) (t : PEnv → Res Bool) (d : PEnv → Res PV) (vs : List Nat) (env : PEnv) (r : Res (List PV)) : Res PV := r.bnd fun xs =>
  if xs.length ≤ sizeLine then (compL f t d (wipeE env vs) xs).bnz fun ys => .ok (.lst ys) else .bad
def rlst (r : Res (List PV)) : Res PV := r.bnd fun ps => if ps.length ≤ sizeLine then .ok (.lst ps) else .bad
def rtup (r : Res (List PV)) : Res PV := r.bnd fun ps => if ps.length ≤ sizeLine then .ok (.tup ps) else .bad
def riff (r : Res Bool) (a b : Res PV) : Res PV := r.bnd fun p => if p = true then a else b
def asgR (f : Bd) (env : PEnv) (r : Res PV) : SR := r.thS env fun v => match f v env with
  | some e => .nx e
  | none => .bad
def appR (i : Nat) (env : PEnv) (o : Option (Option PV)) (r : Res PV) : SR := match o with
  | some (some (.lst xs)) => r.thS env fun v => if xs.length < sizeLine then .nx (env.set i (some (.lst (xs ++ [v])))) else .bad
  | _ => .bad
def endR (fr : Bool) : SR → Res PV
  | .rt v => .ok v
  | .nx _ => if fr = true then .bad else .ok .non
  | .er x _ => .err x
  | _ => .bad
def slR (f : PV → Option Int → Option Int → Option PV) (r : Res PV) (i j : Res (Option Int)) : Res PV := r.bnd fun p => i.bnd fun i => j.bnd fun j => ofO (f p i j)
def oR (r : Res PV) : Res (Option Int) := r.bnd fun p => match p with
  | .int i => .ok (some i)
  | _ => .bad
section
variable {env e : PEnv} {d da db : PEnv → Res PV} {t t1 t2 : PEnv → Res Bool} {ds : PEnv → Res (List PV)} {k k1 k2 : PEnv → SR} {i j : Nat} {f : F2} {x : XV} {v p q : PV} {b : Bool} {ps : List PV}
theorem e_seq : sSeq k1 k2 env = (k1 env).th k2 := nd rfl
theorem e_th1 : (SR.nx e).th k = k e := nd rfl
theorem e_th2 : (SR.rt v).th k = .rt v := nd rfl
theorem e_th3 : (SR.bk e).th k = .bk e := nd rfl
theorem e_th4 : (SR.ct e).th k = .ct e := nd rfl
theorem e_th5 : (SR.er x e).th k = .er x e := nd rfl
theorem e_nx : SR.nx env = .nx env := nd rfl
theorem e_set : sSet i d env = (d env).thS env fun v => .nx (env.set i (some v)) := nd rfl
theorem e_ret : sRet d env = (d env).thS env fun v => .rt v := nd rfl
theorem e_drop : sDrop d env = (d env).thS env fun v => .nx env := nd rfl
theorem e_thS1 {k : PV → SR} : (Res.ok v).thS env k = k v := nd rfl
theorem e_thS2 {k : PV → SR} : (Res.err x).thS env k = .er x env := nd rfl
theorem e_if : sIf t k1 k2 env = (t env).thB env k1 k2 := by
  show (match t env with | .ok p => (if p = true then k1 else k2) env | .err x => SR.er x env | .bad => .bad) = _
  cases h : t env with
  | ok p => cases p <;> rfl
  | err x => rfl
  | bad => rfl
theorem e_thBt : (Res.ok true).thB env k1 k2 = k1 env := nd rfl
theorem e_thBf : (Res.ok false).thB env k1 k2 = k2 env := nd rfl
theorem e_thBe : (Res.err x).thB env k1 k2 = .er x env := nd rfl
theorem e_op : xOp f da db env = Res.ap2 f (da env) (db env) := nd rfl
theorem e_ap2 : Res.ap2 f (.ok p) (.ok q) = ofO (f p q) := nd rfl
theorem e_bop : bOp f da db env = Res.ap2B f (da env) (db env) := nd rfl
theorem e_ap2B : Res.ap2B f (.ok p) (.ok q) = ofO (tr1 f p q) := nd rfl
theorem e_un {f : PV → Option PV} : xUn f da env = (da env).ap1 f := nd rfl
theorem e_ap1 {α : Type} {f : PV → Option α} : Res.ap1 f (.ok p) = ofO (f p) := nd rfl
theorem e_call {f : List PV → Option PV} : xCall f ds env = (ds env).apL f := nd rfl
theorem e_apL {α : Type} {f : List PV → Option α} : Res.apL f (.ok ps) = ofO (f ps) := nd rfl
theorem e_meth {f : PV → List PV → Option PV} : xMeth f d ds env = Res.apM f (d env) (ds env) := nd rfl
theorem e_apM {f : PV → List PV → Option PV} : Res.apM f (.ok p) (.ok ps) = ofO (f p ps) := nd rfl
theorem e_ty {c : String} : xTy c d env = xgd (d env) (tyP c) := nd rfl
theorem e_cls {c : Str} : xCls c d env = xgd (d env) (clsP c) := nd rfl
theorem e_gd {c : PV → Bool} (h : c p = true) : xgd (.ok p) c = .ok p := by unfold xgd; simp only [Res.bnd, h, if_true]
theorem e_fld {c : Str} : xFld c d env = (d env).ap1 (pyFld c) := nd rfl
theorem e_nil : aNil env = .ok [] := nd rfl
theorem e_cons : aCons d ds env = rcons (d env) (ds env) := nd rfl
theorem e_rcons : rcons (.ok p) (.ok ps) = .ok (p :: ps) := nd rfl
theorem e_C : xC v env = .ok v := nd rfl
theorem e_var : xVar i env = getP env[i]? := nd rfl
theorem e_getP : getP (some (some v)) = .ok v := nd rfl
theorem e_use {df : List PV → Res PV} : xUse df ds env = (ds env).bnd df := nd rfl
theorem e_bnd1 {α β : Type} {a : α} {f : α → Res β} : (Res.ok a).bnd f = f a := nd rfl
theorem e_bnd2 {α β : Type} {f : α → Res β} : (Res.err x).bnd f = .err x := nd rfl
theorem e_bnz1 {α β : Type} {a : α} {f : α → Res β} : (Res.ok a).bnz f = f a := nd rfl
theorem e_ofO {α : Type} {a : α} : ofO (some a) = .ok a := nd rfl
theorem e_and : bAnd t1 t2 env = rand (t1 env) (t2 env) := nd rfl
theorem e_or : bOr t1 t2 env = ror (t1 env) (t2 env) := nd rfl
theorem e_not : bNot t env = rnot (t env) := nd rfl
theorem e_rand1 {s : Res Bool} : rand (.ok true) s = s := nd rfl
theorem e_rand2 {s : Res Bool} : rand (.ok false) s = .ok false := nd rfl
theorem e_ror1 {s : Res Bool} : ror (.ok true) s = .ok true := nd rfl
theorem e_ror2 {s : Res Bool} : ror (.ok false) s = s := nd rfl
theorem e_rnot : rnot (.ok b) = .ok (!b) := nd rfl
theorem e_val : bVal d env = (d env).ap1 (fun p => match p with | .bl b => some b | _ => none) := by
  unfold bVal Res.ap1
  cases h : d env with
  | ok p => cases p <;> rfl
  | err x => rfl
  | bad => rfl
theorem e_tru : bTru d env = (d env).ap1 pyTruth := nd rfl
theorem e_tru0 : bTru0 d env = (d env).ap1 pyTru0 := nd rfl
theorem e_xIf : xIf t da db env = riff (t env) (da env) (db env) := nd rfl
theorem e_riff1 {r s : Res PV} : riff (.ok true) r s = r := nd rfl
theorem e_riff2 {r s : Res PV} : riff (.ok false) r s = s := nd rfl
theorem e_lst : xLst ds env = rlst (ds env) := nd rfl
theorem e_tup : xTup ds env = rtup (ds env) := nd rfl
theorem e_rlst (h : ps.length ≤ sizeLine) : rlst (.ok ps) = .ok (.lst ps) := nd (if_pos h)
theorem e_rtup (h : ps.length ≤ sizeLine) : rtup (.ok ps) = .ok (.tup ps) := nd (if_pos h)
theorem e_for {di : PEnv → Res (List PV)} {g : Bd} : sFor di g k env = forR g k env (di env) := nd rfl
theorem e_forR {g : Bd} (h : ps.length ≤ sizeLine) : forR g k env (.ok ps) = forL g k ps env := nd (if_pos h)
theorem e_lc {di : PEnv → Res (List PV)} {g : Bd} {vs : List Nat} : xLc di g t d vs env = lcR g t d vs env (di env) := nd rfl
theorem e_lcR {g : Bd} {vs : List Nat} (h : ps.length ≤ sizeLine) : lcR g t d vs env (.ok ps) = (compL g t d (wipeE env vs) ps).bnz fun ys => .ok (.lst ys) := nd (if_pos h)
theorem e_iOf {f : PV → Option (List PV)} : iOf f d env = (d env).ap1 f := nd rfl
theorem e_iWith {f : List PV → Option (List PV)} : iWith f ds env = (ds env).apL f := nd rfl
theorem e_asg {g : Bd} : sAsg d g env = asgR g env (d env) := nd rfl
theorem e_asgR {g : Bd} (h : g v env = some e) : asgR g env (.ok v) = .nx e := by unfold asgR Res.thS; simp only [h]
theorem e_app : sApp i d env = appR i env env[i]? (d env) := nd rfl
theorem e_appR {xs : List PV} (h : xs.length < sizeLine) : appR i env (some (some (.lst xs))) (.ok v) = .nx (env.set i (some (.lst (xs ++ [v])))) := nd (if_pos h)
theorem e_runB {fr : Bool} {n m : Nat} (h : ps.length = m) : runB fr n m k ps = endR fr (k (mkEnv n ps)) := by
  unfold runB; rw [if_pos h]; cases k (mkEnv n ps) <;> rfl
theorem e_end1 {fr : Bool} : endR fr (.rt v) = .ok v := nd rfl
theorem e_end2 {fr : Bool} : endR fr (.er x e) = .err x := nd rfl
theorem e_end3 : endR false (.nx e) = .ok .non := nd rfl
theorem e_sl {f : PV → Option Int → Option Int → Option PV} {lo hi : PEnv → Res (Option Int)} : xSl f d lo hi env = slR f (d env) (lo env) (hi env) := nd rfl
theorem e_slR {f : PV → Option Int → Option Int → Option PV} {a c : Option Int} : slR f (.ok p) (.ok a) (.ok c) = ofO (f p a c) := nd rfl
theorem e_oN : oNone env = .ok none := nd rfl
theorem e_oS : oSome d env = oR (d env) := nd rfl
theorem e_oR {n : Int} : oR (.ok (.int n)) = .ok (some n) := nd rfl
end
/-! expressions that take from a box -/
def optR {α : Type} (env : PEnv) : Res α → Option (α × PEnv)
  | .ok p => some (p, env)
  | _ => none
def takeG (i : Nat) (env : PEnv) (o : Option (Option PV)) (n : PV) : Option (PV × PEnv) := match o, n with
  | some (some (.lst [.int x])), .int n => if 0 < n ∧ n < 1073741824 then some (.int (x % n), env.set i (some (.lst [.int (x / n)]))) else none
  | _, _ => none
def mthen {α β : Type} (o : Option (α × PEnv)) (k : α → PEnv → Option β) : Option β := o.bind fun p => k p.1 p.2
def mnx (o : Option (PV × PEnv)) (k : PV → PEnv → SR) : SR := match o with
  | some (p, e) => k p e
  | none => .bad
def mlstR (ps : List PV) (e : PEnv) : Option (PV × PEnv) := if ps.length ≤ sizeLine then some (.lst ps, e) else none
def mtupR (ps : List PV) (e : PEnv) : Option (PV × PEnv) := if ps.length ≤ sizeLine then some (.tup ps, e) else none
def mif (o : Option (Bool × PEnv)) (k1 k2 : PEnv → SR) : SR := match o with
  | some (true, e) => k1 e
  | some (false, e) => k2 e
  | none => .bad
def mapp (i : Nat) (v : PV) (env : PEnv) (o : Option (Option PV)) : SR := match o with
  | some (some (.lst xs)) => if xs.length < sizeLine then .nx (env.set i (some (.lst (xs ++ [v])))) else .bad
  | _ => .bad
section
variable {env e : PEnv} {d da db : Mx PV} {ds : Mx (List PV)} {t : Mx Bool} {k k1 k2 : PEnv → SR} {i j : Nat} {f : F2} {x : XV} {v p q : PV} {b : Bool} {ps : List PV}
theorem m_of {d : PEnv → Res PV} : mOf d env = optR env (d env) := by unfold mOf optR; cases d env <;> rfl
theorem m_opt {α : Type} {a : α} : optR env (.ok a) = some (a, env) := nd rfl
theorem m_op : mOp f da db env = mthen (da env) fun p e => mthen (db e) fun q e => (f p q).map fun z => (z, e) := nd rfl
theorem m_then {α β : Type} {a : α} {k : α → PEnv → Option β} : mthen (some (a, e)) k = k a e := nd rfl
theorem m_nil : mNil env = some ([], env) := nd rfl
theorem m_cons : mCons d ds env = mthen (d env) fun p e => mthen (ds e) fun ps e => some (p :: ps, e) := nd rfl
theorem m_lst : mLst ds env = mthen (ds env) fun ps e => mlstR ps e := nd rfl
theorem m_lstR (h : ps.length ≤ sizeLine) : mlstR ps e = some (.lst ps, e) := nd (if_pos h)
theorem m_tup : mTup ds env = mthen (ds env) fun ps e => mtupR ps e := nd rfl
theorem m_tupR (h : ps.length ≤ sizeLine) : mtupR ps e = some (.tup ps, e) := nd (if_pos h)
theorem m_call {f : List PV → Option PV} : mCall f ds env = mthen (ds env) fun ps e => (f ps).map fun z => (z, e) := nd rfl
theorem m_use {df : List PV → Res PV} : mUse df ds env = mthen (ds env) fun ps e => optR e (df ps) := by
  unfold mUse mthen
  cases ds env with
  | none => rfl
  | some p => show (match df p.1 with | .ok z => some (z, p.2) | _ => none) = optR p.2 (df p.1); unfold optR; cases df p.1 <;> rfl
theorem m_bool : mBool d env = mthen (d env) fun p e => match p with | .bl b => some (b, e) | _ => none := nd rfl
def mgd {α : Type} (o : Option (Option PV)) (x : Option α) : Option α := if isLstP o = true then x else none
theorem m_gd {α : Type} {xs : List PV} {x : Option α} : mgd (some (some (.lst xs))) x = x := nd rfl
theorem m_take {d : Mx PV} : mTake i d env = mgd env[i]? (mthen (d env) fun p e => takeG i e e[i]? p) := nd rfl
theorem m_isL {xs : List PV} : isLstP (some (some (.lst xs))) = true := nd rfl
theorem m_takeG {x n : Int} (h1 : 0 < n) (h2 : n < 1073741824) : takeG i env (some (some (.lst [.int x]))) (.int n) = some (.int (x % n), env.set i (some (.lst [.int (x / n)]))) := by
  unfold takeG; simp only [h1, h2, and_self, if_true]
theorem m_set : sSetM i d env = mnx (d env) fun v e => .nx (e.set i (some v)) := nd rfl
theorem m_ret : sRetM d env = mnx (d env) fun v e => .rt v := nd rfl
theorem m_nx {k : PV → PEnv → SR} : mnx (some (p, e)) k = k p e := nd rfl
theorem m_if : sIfM t k1 k2 env = mif (t env) k1 k2 := nd rfl
theorem m_if1 : mif (some (true, e)) k1 k2 = k1 e := nd rfl
theorem m_if2 : mif (some (false, e)) k1 k2 = k2 e := nd rfl
def sgd (o : Option (Option PV)) (x : SR) : SR := if isLstP o = true then x else .bad
theorem m_sgd {xs : List PV} {x : SR} : sgd (some (some (.lst xs))) x = x := nd rfl
theorem m_app : sAppM i d env = sgd env[i]? (mnx (d env) fun v e => mapp i v e e[i]?) := nd rfl
theorem m_mapp {xs : List PV} (h : xs.length < sizeLine) : mapp i v env (some (some (.lst xs))) = .nx (env.set i (some (.lst (xs ++ [v])))) := nd (if_pos h)
end
/-! loops -/
theorem forL_acc {f : Bd} {k : PEnv → SR} {P : List PV → PEnv → Prop} {xs : List PV} (h : ∀ ys x zs e, xs = ys ++ x :: zs → P ys e → ∃ e1 e2, f x e = some e1 ∧ (k e1 = .nx e2 ∨ k e1 = .ct e2) ∧ P (ys ++ [x]) e2) :
    ∀ (zs ys : List PV) (e : PEnv), xs = ys ++ zs → P ys e → ∃ e', forL f k zs e = .nx e' ∧ P xs e'
  | [], ys, e, hx, p => ⟨e, rfl, by rw [hx, List.append_nil]; exact p⟩
  | z :: zs, ys, e, hx, p => by
    obtain ⟨e1, e2, h1, h2, h3⟩ := h ys z zs e hx p
    obtain ⟨e', h4, h5⟩ := forL_acc h zs (ys ++ [z]) e2 (by rw [hx, List.append_assoc]; rfl) h3
    refine ⟨e', ?_, h5⟩
    unfold forL
    rw [h1]
    rcases h2 with h2 | h2
    · simp only [h2]; exact h4
    · simp only [h2]; exact h4
theorem for_acc {f : Bd} {k : PEnv → SR} {P : List PV → PEnv → Prop} {xs : List PV} {e : PEnv} (p : P [] e) (h : ∀ ys x zs e, xs = ys ++ x :: zs → P ys e → ∃ e1 e2, f x e = some e1 ∧ (k e1 = .nx e2 ∨ k e1 = .ct e2) ∧ P (ys ++ [x]) e2) :
    ∃ e', forL f k xs e = .nx e' ∧ P xs e' := forL_acc h xs [] e rfl p
theorem for_inv {f : Bd} {k : PEnv → SR} {P : PEnv → Prop} {xs : List PV} {e : PEnv} (p : P e) (h : ∀ x e, x ∈ xs → P e → ∃ e1 e2, f x e = some e1 ∧ (k e1 = .nx e2 ∨ k e1 = .ct e2) ∧ P e2) :
    ∃ e', forL f k xs e = .nx e' ∧ P e' := for_acc (P := fun _ => P) p fun ys x zs e hx => h x e (by rw [hx]; exact List.mem_append_right _ (List.mem_cons_self ..))
theorem mem_range {lo : Int} {n : Nat} {x : PV} (h : x ∈ rangeL lo n) : ∃ i : Nat, i < n ∧ x = .int (lo + (i : Int)) := by
  unfold rangeL at h
  obtain ⟨i, h1, h2⟩ := List.mem_map.mp h
  exact ⟨i, List.mem_range.mp h1, h2.symm⟩
theorem rangeL_len {lo : Int} {n : Nat} : (rangeL lo n).length = n := by unfold rangeL; rw [List.length_map, List.length_range]
theorem i_itL {xs : List PV} (h : xs.length ≤ 16777216) : pyItems (.lst xs) = some xs := if_pos h
theorem i_itT {xs : List PV} (h : xs.length ≤ 16777216) : pyItems (.tup xs) = some xs := if_pos h
theorem i_tupL {xs : List PV} : pyTuple [.lst xs] = some (.tup xs) := nd rfl
theorem i_tupT {xs : List PV} : pyTuple [.tup xs] = some (.tup xs) := nd rfl
theorem i_rep0 {a : Str} : pyRepS (.str a) (.int 0) = some (.str Str.empty) := nd rfl
theorem i_rep1 {a : Str} : pyRepS (.str a) (.int 1) = some (.str a) := nd rfl
theorem i_range1 {j : Int} (h1 : 0 ≤ j) (h2 : j < 1000000) : pyRange1 [.int j] = some (rangeL 0 j.toNat) := by unfold pyRange1; simp only; rw [if_pos]; omega
theorem i_range2 {i j : Int} (h1 : 0 ≤ i) (h2 : i < 1000000) (h3 : 0 ≤ j) (h4 : j < 1000000) : pyRange2 [.int i, .int j] = some (rangeL i (j - i).toNat) := by unfold pyRange2; simp only; rw [if_pos]; omega
theorem i_ty {a : Str} : tyP "str" (.str a) = true := nd rfl
theorem i_take {i j : Int} (h : 0 < j) (h2 : j < 1073741824) : pyTake (.int i) (.int j) = some (.int (i % j)) := by unfold pyTake fI; simp only [h, h2, and_self, if_true]
section
variable {a b c d e f g h : PV}
theorem ll0 : ([] : List PV).length ≤ sizeLine := by show 0 ≤ 16777216; decide
theorem ll1 : ([a] : List PV).length ≤ sizeLine := by show 1 ≤ 16777216; decide
theorem ll2 : ([a, b] : List PV).length ≤ sizeLine := by show 2 ≤ 16777216; decide
theorem ll3 : ([a, b, c] : List PV).length ≤ sizeLine := by show 3 ≤ 16777216; decide
theorem ll4 : ([a, b, c, d] : List PV).length ≤ sizeLine := by show 4 ≤ 16777216; decide
theorem ll5 : ([a, b, c, d, e] : List PV).length ≤ sizeLine := by show 5 ≤ 16777216; decide
theorem ll6 : ([a, b, c, d, e, f] : List PV).length ≤ sizeLine := by show 6 ≤ 16777216; decide
theorem ll7 : ([a, b, c, d, e, f, g] : List PV).length ≤ sizeLine := by show 7 ≤ 16777216; decide
theorem ll8 : ([a, b, c, d, e, f, g, h] : List PV).length ≤ sizeLine := by show 8 ≤ 16777216; decide
end
/-! ints -/
section
variable {i j : Int}
theorem i_sub : pySub (.int i) (.int j) = some (.int (i - j)) := nd rfl
theorem i_add : pyAddU (.int i) (.int j) = some (.int (i + j)) := nd rfl
theorem i_lt : tr1 pyLt (.int i) (.int j) = some (decide (i < j)) := nd rfl
theorem i_le : tr1 pyLe (.int i) (.int j) = some (decide (i ≤ j)) := nd rfl
theorem i_gt : tr1 pyGt (.int i) (.int j) = some (decide (j < i)) := nd rfl
theorem i_ge : tr1 pyGe (.int i) (.int j) = some (decide (j ≤ i)) := nd rfl
theorem i_mulL (h : small64 i = true) : pyMulI (.int i) (.int j) = some (.int (i * j)) := by unfold pyMulI fI; simp only [h, true_or, if_true]
theorem i_mulR (h : small64 j = true) : pyMulI (.int i) (.int j) = some (.int (i * j)) := by unfold pyMulI fI; simp only [h, or_true, if_true]
theorem i_mod (h : 0 < j) : pyMod (.int i) (.int j) = some (.int (i % j)) := by unfold pyMod fI; simp only [h, if_true]
theorem i_fdiv (h : 0 < j) (h2 : j < 1073741824) : pyFdiv (.int i) (.int j) = some (.int (i / j)) := by unfold pyFdiv fI; simp only [h, h2, and_self, if_true]
theorem i_int : pyInt [.int i] = some (.int i) := nd rfl
theorem i_intB {b : Bool} : pyInt [.bl b] = some (.int (if b then 1 else 0)) := nd rfl
theorem i_eq : tr1 pyEq (.int i) (.int j) = some (decide (i = j)) := by
  show some (PyData.eqv (.int i) (.int j)) = _
  unfold PyData.eqv
  rfl
theorem i_ne : tr1 pyNe (.int i) (.int j) = some (!decide (i = j)) := by
  show some (!PyData.eqv (.int i) (.int j)) = _
  unfold PyData.eqv
  rfl
theorem i_small (h1 : 0 ≤ i) (h2 : i < 18446744073709551616) : small64 i = true := by
  unfold small64; rw [decide_eq_true_iff]; omega
end
def kNumber : PEnv → SR := (sSeq (sSet 2 (xC (.int 0))) (sSeq (sIf (bOp pyGt (xCall pyLen (aCons (xVar 0) aNil)) (xC (.int 0))) (sSet 2 (xOp pyIx (xVar 0) (xOp pyMod (xCall pyInt (aCons (xVar 1) aNil)) (xCall pyLen (aCons (xVar 0) aNil))))) .nx) (sSeq (sIf (bOp pyLt (xVar 2) (xC (.int 0))) (sSet 2 (xOp pySub (xC (.int 1)) (xOp pyMulI (xC (.int 2)) (xVar 2)))) .nx) (sSeq (sIf (bAnd (bOp pyGe (xVar 2) (xOp pyPow (xC (.int 10)) (xC (.int 9)))) (bOp pyLt (xVar 1) (xCall pyLen (aCons (xVar 0) aNil)))) (sRet (xVar 2)) .nx) (sSeq (sSet 3 (xOp pyMod (xCall pyInt (aCons (xOp pyAddU (xOp pyMulI (xOp pyAddU (xVar 2) (xC (.int 7))) (xC (.int 48271))) (xOp pyMulI (xOp pyAddU (xVar 1) (xC (.int 3))) (xC (.int 69621)))) aNil)) (xC (.int 2147483647)))) (sSeq (sSet 4 (xOp pyMod (xCall pyInt (aCons (xOp pyAddU (xOp pyAddU (xOp pyAddU (xOp pyMulI (xVar 3) (xVar 3)) (xOp pyMulI (xC (.int 16807)) (xVar 3))) (xOp pyMulI (xOp pyAddU (xVar 2) (xC (.int 1))) (xC (.int 40692)))) (xVar 1)) aNil)) (xC (.int 2147483399)))) (sSeq (sSet 5 (xOp pyMod (xCall pyInt (aCons (xOp pyAddU (xOp pyMulI (xVar 4) (xVar 4)) (xVar 3)) aNil)) (xC (.int 2147483629)))) (sRet (xOp pyMod (xCall pyInt (aCons (xOp pyAddU (xOp pyAddU (xOp pyMulI (xVar 5) (xC (.int 2147483399))) (xOp pyMulI (xVar 4) (xC (.int 31)))) (xVar 2)) aNil)) (xC (.int 4611686014132420609)))))))))))
/-- what can stand as a script: the script itself, or a list of ints -/
inductive IsScr : PV → List Int → Prop
  | scr (ns : List Int) : IsScr (.scr ns) ns
  | lst (ns : List Int) : IsScr (.lst (ns.map .int)) ns
def lawCell (ns : List Int) (k : Int) : Int :=
  let c := if 0 < ns.length then ns.getD (k % (ns.length : Int)).toNat 0 else 0
  if c < 0 then 1 - 2 * c else c
def lawNum (ns : List Int) (k : Int) : Int :=
  let c := lawCell ns k
  if 10 ^ 9 ≤ c ∧ k < ns.length then c else
    let first := ((c + 7) * 48271 + (k + 3) * 69621) % 2147483647
    let second := (first * first + 16807 * first + (c + 1) * 40692 + k) % 2147483399
    let third := (second * second + first) % 2147483629
    (third * 2147483399 + second * 31 + c) % 4611686014132420609
theorem lawCell_nn (ns : List Int) (k : Int) : 0 ≤ lawCell ns k := by
  unfold lawCell
  simp only
  split <;> omega
theorem lawNum_nn (ns : List Int) (k : Int) : 0 ≤ lawNum ns k := by
  unfold lawNum
  simp only
  split
  · exact lawCell_nn ns k
  · exact Int.emod_nonneg _ (by decide)
theorem scr_len {p : PV} {ns : List Int} (h : IsScr p ns) : pyLen [p] = some (.int ns.length) := by
  cases h with
  | scr => rfl
  | lst => show some (PV.int ((ns.map PV.int).length : Nat)) = _; rw [List.length_map]
theorem atI_mod (ns : List Int) (k : Int) (h : 0 < ns.length) : atI ns (k % (ns.length : Int)) = some (ns.getD (k % (ns.length : Int)).toNat 0) := by
  have h1 : 0 ≤ k % (ns.length : Int) := Int.emod_nonneg _ (by omega)
  have h2 : k % (ns.length : Int) < ns.length := Int.emod_lt_of_pos _ (by omega)
  obtain ⟨j, hj⟩ := Int.eq_ofNat_of_zero_le h1
  rw [hj]
  have hl : j < ns.length := by omega
  have : ns[j]? = some (ns.getD j 0) := by
    rw [List.getElem?_eq_getElem hl]; simp [hl]
  exact atI_nat this
theorem scr_ix {p : PV} {ns : List Int} (h : IsScr p ns) (k : Int) (hl : 0 < ns.length) : pyIx p (.int (k % (ns.length : Int))) = some (.int (ns.getD (k % (ns.length : Int)).toNat 0)) := by
  cases h with
  | scr => show (atI ns _).map PV.int = _; rw [atI_mod ns k hl]; rfl
  | lst =>
    show atI (ns.map PV.int) _ = _
    have := atI_mod ns k hl
    unfold atI at this ⊢
    rw [List.length_map]
    cases e : ixN ns.length (k % (ns.length : Int)) with
    | none => rw [e] at this; cases this
    | some j => rw [e] at this; simp only [Option.bind_some] at this ⊢; rw [List.getElem?_map, this]; rfl
/-- the tail, once the cell is known -/
def kNum3 : PEnv → SR := (sSeq (sIf (bAnd (bOp pyGe (xVar 2) (xOp pyPow (xC (.int 10)) (xC (.int 9)))) (bOp pyLt (xVar 1) (xCall pyLen (aCons (xVar 0) aNil)))) (sRet (xVar 2)) .nx) (sSeq (sSet 3 (xOp pyMod (xCall pyInt (aCons (xOp pyAddU (xOp pyMulI (xOp pyAddU (xVar 2) (xC (.int 7))) (xC (.int 48271))) (xOp pyMulI (xOp pyAddU (xVar 1) (xC (.int 3))) (xC (.int 69621)))) aNil)) (xC (.int 2147483647)))) (sSeq (sSet 4 (xOp pyMod (xCall pyInt (aCons (xOp pyAddU (xOp pyAddU (xOp pyAddU (xOp pyMulI (xVar 3) (xVar 3)) (xOp pyMulI (xC (.int 16807)) (xVar 3))) (xOp pyMulI (xOp pyAddU (xVar 2) (xC (.int 1))) (xC (.int 40692)))) (xVar 1)) aNil)) (xC (.int 2147483399)))) (sSeq (sSet 5 (xOp pyMod (xCall pyInt (aCons (xOp pyAddU (xOp pyMulI (xVar 4) (xVar 4)) (xVar 3)) aNil)) (xC (.int 2147483629)))) (sRet (xOp pyMod (xCall pyInt (aCons (xOp pyAddU (xOp pyAddU (xOp pyMulI (xVar 5) (xC (.int 2147483399))) (xOp pyMulI (xVar 4) (xC (.int 31)))) (xVar 2)) aNil)) (xC (.int 4611686014132420609))))))))
theorem num3_ok {p : PV} {ns : List Int} (h : IsScr p ns) (k : Int) : endR false (kNum3 [some p, some (.int k), some (.int (lawCell ns k)), none, none, none]) = .ok (.int (lawNum ns k)) := by
  have hlen := scr_len h
  unfold kNum3 lawNum
  generalize lawCell ns k = c
  have hp : pyPow (.int 10) (.int 9) = some (.int (10 ^ 9)) := rfl
  have s1 : small64 48271 = true := rfl
  have s2 : small64 69621 = true := rfl
  have s3 : small64 16807 = true := rfl
  have s4 : small64 40692 = true := rfl
  have s5 : small64 2147483399 = true := rfl
  have s6 : small64 31 = true := rfl
  have m1 : (0 : Int) < 2147483647 := by decide
  have m2 : (0 : Int) < 2147483399 := by decide
  have m3 : (0 : Int) < 2147483629 := by decide
  have m4 : (0 : Int) < 4611686014132420609 := by decide
  have f1 : small64 (((c + 7) * 48271 + (k + 3) * 69621) % 2147483647) = true := i_small (Int.emod_nonneg _ (by decide)) (by have := Int.emod_lt_of_pos ((c + 7) * 48271 + (k + 3) * 69621) m1; omega)
  have f2 : small64 (((((c + 7) * 48271 + (k + 3) * 69621) % 2147483647) * (((c + 7) * 48271 + (k + 3) * 69621) % 2147483647) + 16807 * (((c + 7) * 48271 + (k + 3) * 69621) % 2147483647) + (c + 1) * 40692 + k) % 2147483399) = true := i_small (Int.emod_nonneg _ (by decide)) (by have := Int.emod_lt_of_pos ((((c + 7) * 48271 + (k + 3) * 69621) % 2147483647) * (((c + 7) * 48271 + (k + 3) * 69621) % 2147483647) + 16807 * (((c + 7) * 48271 + (k + 3) * 69621) % 2147483647) + (c + 1) * 40692 + k) m2; omega)
  by_cases hc : (10 : Int) ^ 9 ≤ c
  · by_cases hk : k < (ns.length : Int)
    · simp only [e_seq, e_th1, e_th2, e_th3, e_th4, e_th5, e_nx, e_set, e_ret, e_drop, e_thS1, e_thS2, e_if, e_thBt, e_thBf, e_thBe, e_op, e_ap2, e_bop, e_ap2B, e_un, e_ap1, e_call, e_apL, e_meth, e_apM, e_ty, e_cls, e_gd, e_fld, e_nil, e_cons, e_rcons, e_C, e_var, e_getP, e_use, e_bnd1, e_bnd2, e_bnz1, e_ofO, e_and, e_or, e_not, e_rand1, e_rand2, e_ror1, e_ror2, e_rnot, e_val, e_tru, e_tru0, e_xIf, e_riff1, e_riff2, e_lst, e_tup, e_rlst, e_rtup, e_for, e_forR, ll0, ll1, ll2, ll3, ll4, ll5, ll6, ll7, ll8, e_lc, e_lcR, e_iOf, e_iWith, e_asg, e_app, e_appR, e_end1, e_end2, e_end3, e_sl, e_slR, e_oN, e_oS, e_oR, List.getElem?_cons_zero, List.getElem?_cons_succ, List.set_cons_zero, List.set_cons_succ, hp, i_sub, i_add, i_lt, i_le, i_gt, i_ge, i_mulL, i_mulR, i_mod, i_fdiv, i_int, i_intB, i_eq, i_ne, hlen, hc, hk, decide_true, and_self, if_true]
    · simp only [e_seq, e_th1, e_th2, e_th3, e_th4, e_th5, e_nx, e_set, e_ret, e_drop, e_thS1, e_thS2, e_if, e_thBt, e_thBf, e_thBe, e_op, e_ap2, e_bop, e_ap2B, e_un, e_ap1, e_call, e_apL, e_meth, e_apM, e_ty, e_cls, e_gd, e_fld, e_nil, e_cons, e_rcons, e_C, e_var, e_getP, e_use, e_bnd1, e_bnd2, e_bnz1, e_ofO, e_and, e_or, e_not, e_rand1, e_rand2, e_ror1, e_ror2, e_rnot, e_val, e_tru, e_tru0, e_xIf, e_riff1, e_riff2, e_lst, e_tup, e_rlst, e_rtup, e_for, e_forR, ll0, ll1, ll2, ll3, ll4, ll5, ll6, ll7, ll8, e_lc, e_lcR, e_iOf, e_iWith, e_asg, e_app, e_appR, e_end1, e_end2, e_end3, e_sl, e_slR, e_oN, e_oS, e_oR, List.getElem?_cons_zero, List.getElem?_cons_succ, List.set_cons_zero, List.set_cons_succ, hp, i_sub, i_add, i_lt, i_le, i_gt, i_ge, i_mulL, i_mulR, i_mod, i_fdiv, i_int, i_intB, i_eq, i_ne, hlen, hc, hk, decide_true, decide_false, and_false, if_false, s1, s2, s3, s4, s5, s6, m1, m2, m3, m4, f1, f2, Bool.false_eq_true]
  · simp only [e_seq, e_th1, e_th2, e_th3, e_th4, e_th5, e_nx, e_set, e_ret, e_drop, e_thS1, e_thS2, e_if, e_thBt, e_thBf, e_thBe, e_op, e_ap2, e_bop, e_ap2B, e_un, e_ap1, e_call, e_apL, e_meth, e_apM, e_ty, e_cls, e_gd, e_fld, e_nil, e_cons, e_rcons, e_C, e_var, e_getP, e_use, e_bnd1, e_bnd2, e_bnz1, e_ofO, e_and, e_or, e_not, e_rand1, e_rand2, e_ror1, e_ror2, e_rnot, e_val, e_tru, e_tru0, e_xIf, e_riff1, e_riff2, e_lst, e_tup, e_rlst, e_rtup, e_for, e_forR, ll0, ll1, ll2, ll3, ll4, ll5, ll6, ll7, ll8, e_lc, e_lcR, e_iOf, e_iWith, e_asg, e_app, e_appR, e_end1, e_end2, e_end3, e_sl, e_slR, e_oN, e_oS, e_oR, List.getElem?_cons_zero, List.getElem?_cons_succ, List.set_cons_zero, List.set_cons_succ, hp, i_sub, i_add, i_lt, i_le, i_gt, i_ge, i_mulL, i_mulR, i_mod, i_fdiv, i_int, i_intB, i_eq, i_ne, hlen, hc, decide_true, decide_false, false_and, if_false, s1, s2, s3, s4, s5, s6, m1, m2, m3, m4, f1, f2, Bool.false_eq_true]
theorem number_ok {p : PV} {ns : List Int} (h : IsScr p ns) (k : Int) : runB false 6 2 kNumber [p, .int k] = .ok (.int (lawNum ns k)) := by
  rw [e_runB (m := 2) rfl, ← num3_ok h k]
  have hlen := scr_len h
  have s7 : small64 2 = true := rfl
  have : kNumber (mkEnv 6 [p, .int k]) = kNum3 [some p, some (.int k), some (.int (lawCell ns k)), none, none, none] := by
    unfold kNumber lawCell
    show sSeq _ (sSeq _ (sSeq _ kNum3)) [some p, some (.int k), none, none, none, none] = _
    by_cases hl : 0 < ns.length
    · have hl2 : (0 : Int) < (ns.length : Int) := by omega
      have hix := scr_ix h k hl
      by_cases hc : ns.getD (k % (ns.length : Int)).toNat 0 < 0
      · simp only [e_seq, e_th1, e_th2, e_th3, e_th4, e_th5, e_nx, e_set, e_ret, e_drop, e_thS1, e_thS2, e_if, e_thBt, e_thBf, e_thBe, e_op, e_ap2, e_bop, e_ap2B, e_un, e_ap1, e_call, e_apL, e_meth, e_apM, e_ty, e_cls, e_gd, e_fld, e_nil, e_cons, e_rcons, e_C, e_var, e_getP, e_use, e_bnd1, e_bnd2, e_bnz1, e_ofO, e_and, e_or, e_not, e_rand1, e_rand2, e_ror1, e_ror2, e_rnot, e_val, e_tru, e_tru0, e_xIf, e_riff1, e_riff2, e_lst, e_tup, e_rlst, e_rtup, e_for, e_forR, ll0, ll1, ll2, ll3, ll4, ll5, ll6, ll7, ll8, e_lc, e_lcR, e_iOf, e_iWith, e_asg, e_app, e_appR, e_end1, e_end2, e_end3, e_sl, e_slR, e_oN, e_oS, e_oR, List.getElem?_cons_zero, List.getElem?_cons_succ, List.set_cons_zero, List.set_cons_succ, i_sub, i_add, i_lt, i_le, i_gt, i_ge, i_mulL, i_mulR, i_mod, i_fdiv, i_int, i_intB, i_eq, i_ne, hlen, hl, hl2, hc, hix, decide_true, if_true, s7]
      · simp only [e_seq, e_th1, e_th2, e_th3, e_th4, e_th5, e_nx, e_set, e_ret, e_drop, e_thS1, e_thS2, e_if, e_thBt, e_thBf, e_thBe, e_op, e_ap2, e_bop, e_ap2B, e_un, e_ap1, e_call, e_apL, e_meth, e_apM, e_ty, e_cls, e_gd, e_fld, e_nil, e_cons, e_rcons, e_C, e_var, e_getP, e_use, e_bnd1, e_bnd2, e_bnz1, e_ofO, e_and, e_or, e_not, e_rand1, e_rand2, e_ror1, e_ror2, e_rnot, e_val, e_tru, e_tru0, e_xIf, e_riff1, e_riff2, e_lst, e_tup, e_rlst, e_rtup, e_for, e_forR, ll0, ll1, ll2, ll3, ll4, ll5, ll6, ll7, ll8, e_lc, e_lcR, e_iOf, e_iWith, e_asg, e_app, e_appR, e_end1, e_end2, e_end3, e_sl, e_slR, e_oN, e_oS, e_oR, List.getElem?_cons_zero, List.getElem?_cons_succ, List.set_cons_zero, List.set_cons_succ, i_sub, i_add, i_lt, i_le, i_gt, i_ge, i_mulL, i_mulR, i_mod, i_fdiv, i_int, i_intB, i_eq, i_ne, hlen, hl, hl2, hc, hix, decide_true, decide_false, if_true, if_false, s7]
    · have hl2 : ¬ (0 : Int) < (ns.length : Int) := by omega
      simp only [e_seq, e_th1, e_th2, e_th3, e_th4, e_th5, e_nx, e_set, e_ret, e_drop, e_thS1, e_thS2, e_if, e_thBt, e_thBf, e_thBe, e_op, e_ap2, e_bop, e_ap2B, e_un, e_ap1, e_call, e_apL, e_meth, e_apM, e_ty, e_cls, e_gd, e_fld, e_nil, e_cons, e_rcons, e_C, e_var, e_getP, e_use, e_bnd1, e_bnd2, e_bnz1, e_ofO, e_and, e_or, e_not, e_rand1, e_rand2, e_ror1, e_ror2, e_rnot, e_val, e_tru, e_tru0, e_xIf, e_riff1, e_riff2, e_lst, e_tup, e_rlst, e_rtup, e_for, e_forR, ll0, ll1, ll2, ll3, ll4, ll5, ll6, ll7, ll8, e_lc, e_lcR, e_iOf, e_iWith, e_asg, e_app, e_appR, e_end1, e_end2, e_end3, e_sl, e_slR, e_oN, e_oS, e_oR, List.getElem?_cons_zero, List.getElem?_cons_succ, List.set_cons_zero, List.set_cons_succ, i_sub, i_add, i_lt, i_le, i_gt, i_ge, i_mulL, i_mulR, i_mod, i_fdiv, i_int, i_intB, i_eq, i_ne, hlen, hl, hl2, decide_false, if_false, show ¬ ((0 : Int) < 0) by decide]
  rw [this]
end D
end

section
set_option Elab.async false
set_option linter.all false
set_option maxRecDepth 100000
set_option maxHeartbeats 1000000
namespace D
open PySem PySem.Spec PyProof.Rows L2
open SX (S)
/-! ### texts by their signs -/
theorem szl : sizeLine = 16777216 := rfl
theorem s_len {l : List Nat} (h : l.length ≤ 16777216) : pyLen [.str (S l)] = some (.int l.length) := by
  show (if (S l).length ≤ sizeLine then some (PV.int ((S l).length : Nat)) else none) = _
  rw [SX.S_len, if_pos (by rw [szl]; exact h)]
theorem s_ix {l : List Nat} {i : Nat} {c : Nat} (h : l.length ≤ 16777216) (hi : l[i]? = some c) : pyIx (.str (S l)) (.int (i : Int)) = some (.str (S [c])) := by
  show (if (S l).length ≤ sizeLine then (atI l (i : Int)).map fun c => PV.str ⟨#[c]⟩ else none) = _
  rw [SX.S_len, if_pos (by rw [szl]; exact h), atI_nat hi]
  rfl
theorem s_in {c : Nat} {z : Str} : tr1 pyInSign (.str (S [c])) (.str z) = some (decide (c ∈ z.cps.toList)) := rfl
/-- a text that can be weighed -/
def okS (x : Str) : Prop := PyData.canLay0 (.str x) = true
theorem okS_of {l : List Nat} (h : ∀ c ∈ l, c < 0x110000) : okS (S l) := by
  unfold okS PyData.canLay0 PyData.strOk
  rw [← Array.all_toList]
  exact List.all_eq_true.mpr fun c hc => decide_eq_true (h c hc)
theorem shS {x : Str} (h : okS x) : SeqAt.shaped (.str x) = true := by
  unfold SeqAt.shaped PyData.depth
  rw [h]; rfl
theorem s_eq {a b : Str} (ha : okS a) (hb : okS b) : tr1 pyEq (.str a) (.str b) = some (decide (a = b)) := by
  unfold tr1 pyEq toD
  simp only [Option.bind_some, shS ha, shS hb, and_self, if_true]
  unfold PyData.eqv
  by_cases h : a = b
  · rw [decide_eq_true h, h, beq_self_eq_true]
  · rw [decide_eq_false h, beq_eq_false_iff_ne.mpr h]
theorem s_ne {a b : Str} (ha : okS a) (hb : okS b) : tr1 pyNe (.str a) (.str b) = some (!decide (a = b)) := by
  unfold tr1 pyNe toD
  simp only [Option.bind_some, shS ha, shS hb, and_self, if_true]
  unfold PyData.eqv
  by_cases h : a = b
  · rw [decide_eq_true h, h, beq_self_eq_true]
  · rw [decide_eq_false h, beq_eq_false_iff_ne.mpr h]
theorem x_ne {a b : Str} (ha : okS a) (hb : okS b) : pyNe (.str a) (.str b) = some (.bl (!decide (a = b))) := by
  unfold pyNe toD
  simp only [Option.bind_some, shS ha, shS hb, and_self, if_true]
  unfold PyData.eqv
  by_cases h : a = b
  · rw [decide_eq_true h, h, beq_self_eq_true]
  · rw [decide_eq_false h, beq_eq_false_iff_ne.mpr h]
theorem toDs_ints : ∀ ns : List Int, toDs (ns.map .int) = some (ns.map .int)
  | [] => rfl
  | n :: ns => by
    show (toD (.int n)).bind (fun d => (toDs (ns.map .int)).map fun ds => d :: ds) = _
    rw [toDs_ints ns]; rfl
theorem lay_ints : ∀ ns : List Int, PyData.canLayAll0 (ns.map .int) = true
  | [] => by simp only [List.map_nil, PyData.canLayAll0]
  | n :: ns => by simp only [List.map_cons, PyData.canLayAll0, PyData.canLay0, lay_ints ns, Bool.and_self]
theorem dep_ints : ∀ ns : List Int, PyData.depthAll (ns.map .int) = 0
  | [] => by simp only [List.map_nil, PyData.depthAll]
  | n :: ns => by simp only [List.map_cons, PyData.depthAll, PyData.depth, dep_ints ns]; rfl
theorem sh_ints (ns : List Int) : SeqAt.shaped (.tuple (ns.map .int)) = true := by
  unfold SeqAt.shaped PyData.canLay0 PyData.depth
  rw [lay_ints, dep_ints]; rfl
theorem eqv_ints (ns : List Int) : PyData.eqv (.tuple (ns.map .int)) (.tuple (ns.map .int)) = true := SeqAt.eqv_refl _ (by unfold PyData.canLay0; exact lay_ints ns)
theorem t_ne_self (ns : List Int) : tr1 pyNe (.tup (ns.map .int)) (.tup (ns.map .int)) = some false := by
  unfold tr1 pyNe toD
  rw [toDs_ints]
  simp only [Option.map_some, Option.bind_some, sh_ints, and_self, if_true, eqv_ints, Bool.not_true]
theorem s_eqS {a b : List Nat} : (S a = S b) = (a = b) := propext ⟨SX.S_inj, fun h => by rw [h]⟩
theorem s_cat {a b : List Nat} (h : a.length + b.length ≤ 16777216) : pyAddU (.str (S a)) (.str (S b)) = some (.str (S (a ++ b))) := by
  show (if (S a).length + (S b).length ≤ sizeLine then some (PV.str (S a ++ S b)) else none) = _
  rw [SX.S_len, SX.S_len, if_pos (by rw [szl]; exact h), SX.S_cat]
theorem s_slc {l : List Nat} {i j : Nat} (h : l.length ≤ 16777216) (hi : i ≤ l.length) (hj : j ≤ l.length) : pySl (.str (S l)) (some (i : Int)) (some (j : Int)) = some (.str (S ((l.drop i).take (j - i)))) := by
  show (if (S l).length ≤ sizeLine then some (PV.str (cutS (S l) _ _)) else none) = _
  rw [SX.S_len, if_pos (by rw [szl]; exact h)]
  unfold cutS
  rw [SX.S_len, HT.sIx_nat, HT.sIx_nat, Nat.min_eq_left hi, Nat.min_eq_left hj]
theorem log2_le {n k : Nat} (h : n < 10 ^ k) (hk : k ≤ 400) : n.log2 < 1920 := by
  rcases Nat.eq_zero_or_pos n with h0 | h0
  · subst h0; decide
  · have h1 : n < 2 ^ 1920 := Nat.lt_of_lt_of_le h (Nat.le_trans (Nat.pow_le_pow_right (by decide) hk) (by decide +kernel))
    exact (Nat.log2_lt (by omega)).mpr h1
theorem s_str {n k : Nat} (h : n < 10 ^ k) (hk : k ≤ 400) : pyStr [.int (n : Int)] = some (.str (S (TL.numL n))) := by
  show (if (n : Int).natAbs.log2 < 1920 then some (PV.str (Str.ofString (toString (n : Int)))) else none) = _
  rw [Int.natAbs_natCast, if_pos (log2_le h hk), SX.num_S]
theorem numL_len' {n k : Nat} (h : n < 10 ^ k) (hk : 0 < k) : (TL.numL n).length ≤ k := TL.numL_len hk h
theorem s_int {n : Nat} (h : (TL.numL n).length ≤ 640) : pyInt [.str (S (TL.numL n))] = some (.int n) := by
  show (if (S (TL.numL n)).length ≤ 640 then (PySem.intText? (S (TL.numL n))).map PV.int else none) = _
  rw [SX.S_len, if_pos h, ← SX.num_S, TL.int_num (by omega)]
  rfl
end D
end

section
set_option linter.all false
/-! sums without carry: spans, bases, uniqueness -/
namespace GF
theorem xc (x y : Nat) : (x ^^^ y) ^^^ y = x := by rw [Nat.xor_assoc, Nat.xor_self, Nat.xor_zero]
theorem xl (x y : Nat) : y ^^^ (y ^^^ x) = x := by rw [← Nat.xor_assoc, Nat.xor_self, Nat.zero_xor]
theorem x0 {x y : Nat} (h : x ^^^ y = 0) : x = y := by
  have : (x ^^^ y) ^^^ y = 0 ^^^ y := by rw [h]
  rwa [xc, Nat.zero_xor] at this
/-- x is a sum of some of l -/
def Sp : List Nat → Nat → Prop
  | [], x => x = 0
  | r :: rs, x => Sp rs x ∨ Sp rs (x ^^^ r)
theorem sp_zero : ∀ l, Sp l 0
  | [] => rfl
  | _ :: rs => .inl (sp_zero rs)
theorem sp_xor : ∀ {l : List Nat} {x y : Nat}, Sp l x → Sp l y → Sp l (x ^^^ y)
  | [], x, y, hx, hy => by
    have hx : x = 0 := hx
    have hy : y = 0 := hy
    show x ^^^ y = 0
    rw [hx, hy]; rfl
  | r :: rs, x, y, hx, hy => by
    rcases hx with hx | hx <;> rcases hy with hy | hy
    · exact .inl (sp_xor hx hy)
    · exact .inr (by rw [Nat.xor_assoc]; exact sp_xor hx hy)
    · refine .inr ?_
      rw [Nat.xor_assoc, Nat.xor_comm y r, ← Nat.xor_assoc]
      exact sp_xor hx hy
    · refine .inl ?_
      have := sp_xor hx hy
      rwa [Nat.xor_assoc, Nat.xor_comm y r, ← Nat.xor_assoc r r y, Nat.xor_self, Nat.zero_xor] at this
theorem sp_mem : ∀ {l : List Nat} {r : Nat}, r ∈ l → Sp l r
  | s :: rs, r, h => by
    rcases List.mem_cons.mp h with rfl | h
    · exact .inr (by rw [Nat.xor_self]; exact sp_zero rs)
    · exact .inl (sp_mem h)
theorem sp_least {l : List Nat} {P : Nat → Prop} (h0 : P 0) (hx : ∀ x y, P x → P y → P (x ^^^ y)) (hm : ∀ r ∈ l, P r) : ∀ {x : Nat}, Sp l x → P x := by
  induction l with
  | nil => intro x h; have h : x = 0 := h; rw [h]; exact h0
  | cons r rs ih =>
    intro x h
    have ih' := fun {x} => ih (fun s hs => hm s (List.mem_cons_of_mem _ hs)) (x := x)
    rcases h with h | h
    · exact ih' h
    · have := hx _ _ (ih' h) (hm r (List.mem_cons_self ..))
      rwa [xc] at this
theorem sp_sub {l m : List Nat} (h : ∀ r ∈ l, Sp m r) {x : Nat} (hx : Sp l x) : Sp m x := sp_least (P := Sp m) (sp_zero m) (fun _ _ => sp_xor) h hx
/-- the same sums -/
def Same (l m : List Nat) : Prop := ∀ x, Sp l x ↔ Sp m x
theorem same_of {l m : List Nat} (h1 : ∀ r ∈ l, Sp m r) (h2 : ∀ r ∈ m, Sp l r) : Same l m := fun _ => ⟨sp_sub h1, sp_sub h2⟩
theorem Same.refl (l : List Nat) : Same l l := fun _ => Iff.rfl
theorem Same.symm {l m : List Nat} (h : Same l m) : Same m l := fun x => (h x).symm
theorem Same.trans {l m n : List Nat} (h : Same l m) (h2 : Same m n) : Same l n := fun x => (h x).trans (h2 x)
theorem same_mem {l m : List Nat} (h : ∀ r, r ∈ l ↔ r ∈ m) : Same l m := same_of (fun r hr => sp_mem ((h r).mp hr)) (fun r hr => sp_mem ((h r).mpr hr))
theorem sp_lt {l : List Nat} {n : Nat} (h : ∀ r ∈ l, r < 2 ^ n) {x : Nat} (hx : Sp l x) : x < 2 ^ n :=
  sp_least (P := fun x => x < 2 ^ n) (Nat.two_pow_pos n) (fun _ _ => Nat.xor_lt_two_pow) h hx
theorem sp_bit {l : List Nat} {t : Nat} (h : ∀ r ∈ l, r.testBit t = false) {x : Nat} (hx : Sp l x) : x.testBit t = false :=
  sp_least (P := fun x => x.testBit t = false) (Nat.zero_testBit t) (fun x y h1 h2 => by rw [Nat.testBit_xor, h1, h2]; rfl) h hx
/-- each row's highest one stands in no other row -/
structure Pur (b : List Nat) : Prop where
  nz : ∀ r ∈ b, r ≠ 0
  nd : b.Nodup
  pure : ∀ r ∈ b, ∀ s ∈ b, r ≠ s → s.testBit r.log2 = false
theorem Pur.tail {r : Nat} {b : List Nat} (h : Pur (r :: b)) : Pur b :=
  ⟨fun s hs => h.nz s (List.mem_cons_of_mem _ hs), (List.nodup_cons.mp h.nd).2, fun s hs u hu => h.pure s (List.mem_cons_of_mem _ hs) u (List.mem_cons_of_mem _ hu)⟩
theorem Pur.perm {b c : List Nat} (h : Pur b) (p : b.Perm c) : Pur c :=
  ⟨fun s hs => h.nz s (p.symm.subset hs), p.nodup_iff.mp h.nd, fun s hs u hu => h.pure s (p.symm.subset hs) u (p.symm.subset hu)⟩
/-- a sum without any highest one is 0 -/
theorem Pur.zero : ∀ {b : List Nat}, Pur b → ∀ {y : Nat}, Sp b y → (∀ r ∈ b, y.testBit r.log2 = false) → y = 0
  | [], _, y, hy, _ => hy
  | r :: b, h, y, hy, hz => by
    rcases hy with hy | hy
    · exact Pur.zero h.tail hy fun s hs => hz s (List.mem_cons_of_mem _ hs)
    · exfalso
      have h1 : (y ^^^ r).testBit r.log2 = false := sp_bit (fun s hs => h.pure r (List.mem_cons_self ..) s (List.mem_cons_of_mem _ hs) fun e => (List.nodup_cons.mp h.nd).1 (e ▸ hs)) hy
      rw [Nat.testBit_xor, hz r (List.mem_cons_self ..), Nat.testBit_log2 (h.nz r (List.mem_cons_self ..))] at h1
      cases h1
/-! what is left of a row -/
def rest (b : List Nat) (x : Nat) : Nat := b.foldl (fun x r => if x.testBit r.log2 = true then x ^^^ r else x) x
theorem rest_cons (r : Nat) (b : List Nat) (x : Nat) : rest (r :: b) x = rest b (if x.testBit r.log2 = true then x ^^^ r else x) := rfl
theorem rest_sp : ∀ (b : List Nat) (x : Nat), Sp b (x ^^^ rest b x)
  | [], x => by show x ^^^ x = 0; exact Nat.xor_self x
  | r :: b, x => by
    rw [rest_cons]
    by_cases h : x.testBit r.log2 = true
    · rw [if_pos h]
      refine .inr ?_
      have := rest_sp b (x ^^^ r)
      rwa [Nat.xor_assoc, Nat.xor_comm r, ← Nat.xor_assoc] at this
    · rw [if_neg h]; exact .inl (rest_sp b x)
theorem rest_keep {t : Nat} : ∀ (b : List Nat) (x : Nat), (∀ r ∈ b, r.testBit t = false) → (rest b x).testBit t = x.testBit t
  | [], _, _ => rfl
  | r :: b, x, h => by
    rw [rest_cons, rest_keep b _ fun s hs => h s (List.mem_cons_of_mem _ hs)]
    by_cases q : x.testBit r.log2 = true
    · rw [if_pos q, Nat.testBit_xor, h r (List.mem_cons_self ..)]; cases x.testBit t <;> rfl
    · rw [if_neg q]
theorem rest_bits : ∀ {b : List Nat}, Pur b → ∀ (x : Nat), ∀ r ∈ b, (rest b x).testBit r.log2 = false
  | s :: b, h, x, r, hr => by
    rw [rest_cons]
    rcases List.mem_cons.mp hr with rfl | hr
    · rw [rest_keep b _ fun s hs => h.pure r (List.mem_cons_self ..) s (List.mem_cons_of_mem _ hs) fun e => (List.nodup_cons.mp h.nd).1 (e ▸ hs)]
      by_cases q : x.testBit r.log2 = true
      · rw [if_pos q, Nat.testBit_xor, q, Nat.testBit_log2 (h.nz r (List.mem_cons_self ..))]; rfl
      · rw [if_neg q]; exact Bool.eq_false_iff.mpr q
    · exact rest_bits h.tail _ r hr
theorem rest_zero {b : List Nat} (h : Pur b) (x : Nat) : rest b x = 0 ↔ Sp b x := by
  constructor
  · intro e
    have := rest_sp b x
    rwa [e, Nat.xor_zero] at this
  · intro hx
    refine h.zero ?_ (rest_bits h x)
    have := sp_xor hx (rest_sp b x)
    rwa [xl] at this
theorem rest_lt {b : List Nat} {n : Nat} (h : ∀ r ∈ b, r < 2 ^ n) {x : Nat} (hx : x < 2 ^ n) : rest b x < 2 ^ n := by
  have := Nat.xor_lt_two_pow hx (sp_lt h (rest_sp b x))
  rwa [xl] at this
/-! one row more -/
theorem log2_xor {x y : Nat} (hx : x ≠ 0) (hy : y < 2 ^ x.log2) : (x ^^^ y).log2 = x.log2 ∧ x ^^^ y ≠ 0 := by
  have hb : (x ^^^ y).testBit x.log2 = true := by rw [Nat.testBit_xor, Nat.testBit_log2 hx, Nat.testBit_lt_two_pow hy]; rfl
  have hne : x ^^^ y ≠ 0 := fun e => by rw [e, Nat.zero_testBit] at hb; cases hb
  have h1 := Nat.ge_two_pow_of_testBit hb
  have h2 : x ^^^ y < 2 ^ (x.log2 + 1) := Nat.xor_lt_two_pow Nat.lt_log2_self (Nat.lt_of_lt_of_le hy (Nat.pow_le_pow_right (by decide) (Nat.le_succ _)))
  refine ⟨?_, hne⟩
  have h3 := (Nat.log2_lt hne).mpr h2
  have h4 : ¬ (x ^^^ y).log2 < x.log2 := fun q => by
    have := (Nat.log2_lt hne).mp q
    omega
  omega
def put (e : Nat) (r : Nat) : Nat := if r.testBit e.log2 = true then r ^^^ e else r
theorem put_log {b : List Nat} {e : Nat} (he : e ≠ 0) {r : Nat} (hr : r ≠ 0) (hb : e.testBit r.log2 = false) : (put e r).log2 = r.log2 ∧ put e r ≠ 0 := by
  unfold put
  by_cases q : r.testBit e.log2 = true
  · rw [if_pos q]
    refine log2_xor hr ?_
    have h1 : e.log2 < r.log2 := by
      have h2 := Nat.ge_two_pow_of_testBit q
      have h3 : ¬ r.log2 < e.log2 := fun z => by
        have := (Nat.log2_lt hr).mp z
        omega
      have h4 : e.log2 ≠ r.log2 := fun z => by
        have := Nat.testBit_log2 he
        rw [z, hb] at this
        cases this
      omega
    exact Nat.lt_of_lt_of_le Nat.lt_log2_self (Nat.pow_le_pow_right (by decide) h1)
  · rw [if_neg q]; exact ⟨rfl, hr⟩
theorem put_top {e : Nat} (he : e ≠ 0) (r : Nat) : (put e r).testBit e.log2 = false := by
  unfold put
  by_cases q : r.testBit e.log2 = true
  · rw [if_pos q, Nat.testBit_xor, q, Nat.testBit_log2 he]; rfl
  · rw [if_neg q]; exact Bool.eq_false_iff.mpr q
theorem put_bit {e : Nat} (r : Nat) {t : Nat} (h1 : e.testBit t = false) : (put e r).testBit t = r.testBit t := by
  unfold put
  by_cases q : r.testBit e.log2 = true
  · rw [if_pos q, Nat.testBit_xor, h1]; cases r.testBit t <;> rfl
  · rw [if_neg q]
theorem pur_put {b : List Nat} (h : Pur b) {e : Nat} (he : e ≠ 0) (hb : ∀ r ∈ b, e.testBit r.log2 = false) : Pur (b.map (put e) ++ [e]) := by
  have lg : ∀ r ∈ b, (put e r).log2 = r.log2 := fun r hr => (put_log (b := b) he (h.nz r hr) (hb r hr)).1
  have inj : ∀ r ∈ b, ∀ s ∈ b, put e r = put e s → r = s := fun r hr s hs q => by
    by_cases z : r = s
    · exact z
    · exfalso
      have h1 := h.pure r hr s hs z
      have h2 := put_bit s (hb r hr)
      rw [h1, ← q, put_bit r (hb r hr), Nat.testBit_log2 (h.nz r hr)] at h2
      cases h2
  have ne : ∀ r ∈ b, put e r ≠ e := fun r hr q => by
    have := put_top he r
    rw [q, Nat.testBit_log2 he] at this
    cases this
  refine ⟨fun r hr => ?_, ?_, fun r hr s hs hrs => ?_⟩
  · rcases List.mem_append.mp hr with hr | hr
    · obtain ⟨u, hu, rfl⟩ := List.mem_map.mp hr
      exact (put_log (b := b) he (h.nz u hu) (hb u hu)).2
    · rw [List.mem_singleton.mp hr]; exact he
  · rw [List.nodup_append]
    refine ⟨?_, by simp, fun r hr s hs => ?_⟩
    · have : ∀ l : List Nat, (∀ r ∈ l, r ∈ b) → l.Nodup → (l.map (put e)).Nodup := by
        intro l
        induction l with
        | nil => intro _ _; simp
        | cons a l ih =>
          intro hl hn
          rw [List.map_cons, List.nodup_cons]
          refine ⟨fun hm => ?_, ih (fun r hr => hl r (List.mem_cons_of_mem _ hr)) (List.nodup_cons.mp hn).2⟩
          obtain ⟨u, hu, q⟩ := List.mem_map.mp hm
          have := inj u (hl u (List.mem_cons_of_mem _ hu)) a (hl a (List.mem_cons_self ..)) q
          exact (List.nodup_cons.mp hn).1 (this ▸ hu)
      exact this b (fun _ h => h) h.nd
    · obtain ⟨u, hu, rfl⟩ := List.mem_map.mp hr
      rw [List.mem_singleton.mp hs]
      exact ne u hu
  · rcases List.mem_append.mp hr with hr | hr <;> rcases List.mem_append.mp hs with hs | hs
    · obtain ⟨u, hu, rfl⟩ := List.mem_map.mp hr
      obtain ⟨v, hv, rfl⟩ := List.mem_map.mp hs
      rw [lg u hu, put_bit v (hb u hu)]
      exact h.pure u hu v hv fun q => hrs (by rw [q])
    · obtain ⟨u, hu, rfl⟩ := List.mem_map.mp hr
      rw [List.mem_singleton.mp hs, lg u hu]
      exact hb u hu
    · obtain ⟨v, hv, rfl⟩ := List.mem_map.mp hs
      rw [List.mem_singleton.mp hr]
      exact put_top he v
    · rw [List.mem_singleton.mp hr, List.mem_singleton.mp hs] at hrs
      exact absurd rfl hrs
theorem sp_put {b : List Nat} {e : Nat} : Same (b.map (put e) ++ [e]) (e :: b) := by
  refine same_of (fun r hr => ?_) fun r hr => ?_
  · rcases List.mem_append.mp hr with hr | hr
    · obtain ⟨u, hu, rfl⟩ := List.mem_map.mp hr
      unfold put
      by_cases q : u.testBit e.log2 = true
      · rw [if_pos q]; exact sp_xor (sp_mem (List.mem_cons_of_mem _ hu)) (sp_mem (List.mem_cons_self ..))
      · rw [if_neg q]; exact sp_mem (List.mem_cons_of_mem _ hu)
    · rw [List.mem_singleton.mp hr]; exact sp_mem (List.mem_cons_self ..)
  · have he : Sp (b.map (put e) ++ [e]) e := sp_mem (List.mem_append_right _ (List.mem_singleton.mpr rfl))
    rcases List.mem_cons.mp hr with rfl | hr
    · exact he
    · have hp : Sp (b.map (put e) ++ [e]) (put e r) := sp_mem (List.mem_append_left _ (List.mem_map.mpr ⟨r, hr, rfl⟩))
      by_cases q : r.testBit e.log2 = true
      · have : put e r = r ^^^ e := if_pos q
        rw [this] at hp
        have := sp_xor hp he
        rwa [xc] at this
      · have : put e r = r := if_neg q
        rwa [this] at hp
theorem same_rest (b : List Nat) (x : Nat) : Same (rest b x :: b) (x :: b) := by
  have h1 := rest_sp b x
  have up : ∀ y {z}, Sp b z → Sp (y :: b) z := fun y z h => .inl h
  refine same_of (fun r hr => ?_) fun r hr => ?_
  · rcases List.mem_cons.mp hr with rfl | hr
    · have := sp_xor (sp_mem (l := x :: b) (List.mem_cons_self ..)) (up x h1)
      rwa [xl] at this
    · exact sp_mem (List.mem_cons_of_mem _ hr)
  · rcases List.mem_cons.mp hr with rfl | hr
    · have := sp_xor (up (rest b r) h1) (sp_mem (l := rest b r :: b) (List.mem_cons_self ..))
      rwa [xc] at this
    · exact sp_mem (List.mem_cons_of_mem _ hr)
theorem same_drop {b : List Nat} : Same (0 :: b) b := fun x => ⟨fun h => by
  rcases h with h | h
  · exact h
  · rwa [Nat.xor_zero] at h, .inl⟩
/-! two bases of the same sums -/
theorem top_of {c : List Nat} (h : Pur c) : ∀ (k : Nat) {y : Nat}, (c.filter fun r => y.testBit r.log2).length = k → Sp c y → y ≠ 0 → ∃ s ∈ c, s.log2 = y.log2 := by
  intro k
  induction k with
  | zero =>
    intro y hk hy hne
    exfalso
    refine hne (h.zero hy fun r hr => ?_)
    have : r ∉ c.filter fun r => y.testBit r.log2 := by rw [List.length_eq_zero_iff.mp hk]; simp
    rw [List.mem_filter] at this
    exact Bool.eq_false_iff.mpr fun q => this ⟨hr, q⟩
  | succ k ih =>
    intro y hk hy hne
    obtain ⟨s, hs⟩ : ∃ s, s ∈ c.filter fun r => y.testBit r.log2 := List.exists_mem_of_length_pos (by omega)
    obtain ⟨hsc, hsb⟩ := List.mem_filter.mp hs
    by_cases e : s.log2 = y.log2
    · exact ⟨s, hsc, e⟩
    · have hs0 := h.nz s hsc
      have hlt : s.log2 < y.log2 := by
        have h2 := Nat.ge_two_pow_of_testBit hsb
        have h3 : ¬ y.log2 < s.log2 := fun z => by
          have := (Nat.log2_lt hne).mp z
          omega
        omega
      have hs2 : s < 2 ^ y.log2 := Nat.lt_of_lt_of_le Nat.lt_log2_self (Nat.pow_le_pow_right (by decide) hlt)
      obtain ⟨l1, l2⟩ := log2_xor hne hs2
      have cnt : ∀ l : List Nat, (∀ r ∈ l, r ∈ c) → l.Nodup → (l.filter fun r => y.testBit r.log2).length = (l.filter fun r => (y ^^^ s).testBit r.log2).length + (if s ∈ l then 1 else 0) := by
        intro l
        induction l with
        | nil => intro _ _; simp
        | cons r l ihl =>
          intro hl hn
          have ih2 := ihl (fun r hr => hl r (List.mem_cons_of_mem _ hr)) (List.nodup_cons.mp hn).2
          by_cases hrs : r = s
          · subst hrs
            have e1 : (y ^^^ r).testBit r.log2 = false := by rw [Nat.testBit_xor, hsb, Nat.testBit_log2 hs0]; rfl
            have hnm := (List.nodup_cons.mp hn).1
            rw [if_neg hnm] at ih2
            rw [List.filter_cons, List.filter_cons, if_pos hsb, if_neg (by rw [e1]; decide), List.length_cons, ih2, if_pos (List.mem_cons_self ..)]
          · have e1 : (y ^^^ s).testBit r.log2 = y.testBit r.log2 := by
              rw [Nat.testBit_xor, h.pure r (hl r (List.mem_cons_self ..)) s hsc hrs]; cases y.testBit r.log2 <;> rfl
            have e2 : (s ∈ r :: l) ↔ s ∈ l := by simp [Ne.symm hrs]
            rw [List.filter_cons, List.filter_cons, e1]
            simp only [e2]
            by_cases q : y.testBit r.log2 = true
            · rw [if_pos q, if_pos q, List.length_cons, List.length_cons, ih2]; omega
            · rw [if_neg q, if_neg q, ih2]
      have hc := cnt c (fun _ h => h) h.nd
      rw [if_pos hsc, hk] at hc
      obtain ⟨u, hu, hul⟩ := ih (y := y ^^^ s) (by omega) (sp_xor hy (sp_mem hsc)) l2
      exact ⟨u, hu, by rw [hul, l1]⟩
theorem unique_mem {b c : List Nat} (hb : Pur b) (hc : Pur c) (h : Same b c) {r : Nat} (hr : r ∈ b) : r ∈ c := by
  obtain ⟨s, hs, hl⟩ := top_of hc _ rfl ((h r).mp (sp_mem hr)) (hb.nz r hr)
  have hsb : Sp b s := (h s).mpr (sp_mem hs)
  have : r ^^^ s = 0 := by
    refine hb.zero (sp_xor (sp_mem hr) hsb) fun u hu => ?_
    rw [Nat.testBit_xor]
    by_cases hur : u = r
    · rw [hur, Nat.testBit_log2 (hb.nz r hr)]
      rw [← hl, Nat.testBit_log2 (hc.nz s hs)]; rfl
    · rw [hb.pure u hu r hr hur]
      obtain ⟨v, hv, hvl⟩ := top_of hc _ rfl ((h u).mp (sp_mem hu)) (hb.nz u hu)
      have hvs : v ≠ s := fun e => by
        have h1 := hb.pure u hu r hr hur
        rw [← hvl, e, hl, Nat.testBit_log2 (hb.nz r hr)] at h1
        cases h1
      have := hc.pure v hv s hs hvs
      rw [hvl] at this
      rw [this]; rfl
  rw [x0 this]; exact hs
theorem desc_unique : ∀ {l m : List Nat}, l.Pairwise (· > ·) → m.Pairwise (· > ·) → (∀ x, x ∈ l ↔ x ∈ m) → l = m
  | [], [], _, _, _ => rfl
  | [], b :: m, _, _, h => absurd ((h b).mpr (List.mem_cons_self ..)) (by simp)
  | a :: l, [], _, _, h => absurd ((h a).mp (List.mem_cons_self ..)) (by simp)
  | a :: l, b :: m, h1, h2, h => by
    have p1 := List.pairwise_cons.mp h1
    have p2 := List.pairwise_cons.mp h2
    have e : a = b := by
      rcases List.mem_cons.mp ((h a).mp (List.mem_cons_self ..)) with q | q
      · exact q
      · rcases List.mem_cons.mp ((h b).mpr (List.mem_cons_self ..)) with q2 | q2
        · exact q2.symm
        · have := p2.1 a q; have := p1.1 b q2; omega
    subst e
    rw [desc_unique p1.2 p2.2 fun x => ⟨fun hx => by
      rcases List.mem_cons.mp ((h x).mp (List.mem_cons_of_mem _ hx)) with q | q
      · have := p1.1 x hx; omega
      · exact q, fun hx => by
      rcases List.mem_cons.mp ((h x).mpr (List.mem_cons_of_mem _ hx)) with q | q
      · have := p2.1 x hx; omega
      · exact q⟩]
/-- a basis: pure, falling -/
structure Red (b : List Nat) : Prop where
  pur : Pur b
  desc : b.Pairwise (· > ·)
theorem Red.unique {b c : List Nat} (hb : Red b) (hc : Red c) (h : Same b c) : b = c :=
  desc_unique hb.desc hc.desc fun _ => ⟨unique_mem hb.pur hc.pur h, unique_mem hc.pur hb.pur h.symm⟩
theorem Red.nil : Red [] := ⟨⟨by simp, by simp, by simp⟩, by simp⟩
/-! lists of all sums -/
def spn (f : List Nat) (r : Nat) : List Nat := f ++ f.map (fun x => x ^^^ r)
theorem spn_mem {f p : List Nat} (h : ∀ x, x ∈ f ↔ Sp p x) (r x : Nat) : x ∈ spn f r ↔ Sp (r :: p) x := by
  unfold spn
  rw [List.mem_append, List.mem_map, h]
  refine or_congr Iff.rfl ?_
  constructor
  · rintro ⟨z, hz, rfl⟩
    rw [xc]; exact (h z).mp hz
  · intro hx
    exact ⟨x ^^^ r, (h _).mpr hx, xc x r⟩
theorem map_nodup {α β : Type} {g : α → β} : ∀ {l : List α}, (∀ a ∈ l, ∀ b ∈ l, g a = g b → a = b) → l.Nodup → (l.map g).Nodup
  | [], _, _ => by simp
  | a :: l, hi, hn => by
    rw [List.map_cons, List.nodup_cons]
    refine ⟨fun hm => ?_, map_nodup (fun x hx y hy => hi x (List.mem_cons_of_mem _ hx) y (List.mem_cons_of_mem _ hy)) (List.nodup_cons.mp hn).2⟩
    obtain ⟨u, hu, q⟩ := List.mem_map.mp hm
    have := hi u (List.mem_cons_of_mem _ hu) a (List.mem_cons_self ..) q
    exact (List.nodup_cons.mp hn).1 (this ▸ hu)
theorem spn_nodup {f p : List Nat} (h : ∀ x, x ∈ f ↔ Sp p x) {r : Nat} (hn : f.Nodup) (hr : ¬ Sp p r) : (spn f r).Nodup := by
  unfold spn
  rw [List.nodup_append]
  refine ⟨hn, map_nodup (fun a _ b _ q => ?_) hn, fun a ha b hb q => ?_⟩
  · have : (a ^^^ r) ^^^ r = (b ^^^ r) ^^^ r := by rw [q]
    rwa [xc, xc] at this
  · obtain ⟨z, hz, hz2⟩ := List.mem_map.mp hb
    refine hr ?_
    have := sp_xor ((h z).mp hz) ((h a).mp ha)
    rw [q, ← hz2] at this
    rwa [xl] at this
theorem spn_len (f : List Nat) (r : Nat) : (spn f r).length = 2 * f.length := by unfold spn; rw [List.length_append, List.length_map]; omega
theorem sp_snoc (p : List Nat) (x : Nat) : Same (p ++ [x]) (x :: p) := same_mem fun r => by simp [or_comm]
/-- a row of a basis is no sum of others -/
theorem Pur.free {b p : List Nat} (h : Pur b) {r : Nat} (hr : r ∈ b) (hp : ∀ s ∈ p, s ∈ b ∧ s ≠ r) : ¬ Sp p r := fun hs => by
  have := sp_bit (t := r.log2) (fun s hs => h.pure r hr s (hp s hs).1 (Ne.symm (hp s hs).2)) hs
  rw [Nat.testBit_log2 (h.nz r hr)] at this
  cases this
/-! a row added to another one -/
theorem same_set {l : List Nat} {i j : Nat} {x y : Nat} (hi : l[i]? = some x) (hj : l[j]? = some y) (hij : i ≠ j) : Same (l.set i (x ^^^ y)) l := by
  have hil : i < l.length := (List.getElem?_eq_some_iff.mp hi).1
  have hjm : y ∈ l := List.mem_of_getElem? hj
  have hjm2 : y ∈ l.set i (x ^^^ y) := by
    have : (l.set i (x ^^^ y))[j]? = some y := by rw [List.getElem?_set_ne hij]; exact hj
    exact List.mem_of_getElem? this
  have him : x ^^^ y ∈ l.set i (x ^^^ y) := by
    have : (l.set i (x ^^^ y))[i]? = some (x ^^^ y) := List.getElem?_set_self hil
    exact List.mem_of_getElem? this
  refine same_of (fun r hr => ?_) fun r hr => ?_
  · rcases List.mem_or_eq_of_mem_set hr with hr | rfl
    · exact sp_mem hr
    · exact sp_xor (sp_mem (List.mem_of_getElem? hi)) (sp_mem hjm)
  · obtain ⟨k, hk⟩ := List.getElem?_of_mem hr
    by_cases hik : i = k
    · subst hik
      rw [hi] at hk; cases hk
      have := sp_xor (sp_mem him) (sp_mem hjm2)
      rwa [xc] at this
    · have : (l.set i (x ^^^ y))[k]? = some r := by rw [List.getElem?_set_ne hik]; exact hk
      exact sp_mem (List.mem_of_getElem? this)
theorem same_turn (l : List Nat) : Same (l.drop 1 ++ l.take 1) l := same_mem fun r => by
  rw [List.mem_append, or_comm, ← List.mem_append, List.take_append_drop]
end GF
end

section
set_option Elab.async false
set_option linter.all false
set_option maxRecDepth 100000
set_option maxHeartbeats 1000000
namespace D
open PySem PySem.Spec PyProof.Rows L2
/-! ### naturals as values; bits -/
def nl (l : List Nat) : List PV := l.map fun n : Nat => PV.int (n : Int)
theorem nl_eq (l : List Nat) : nl l = (l.map fun n : Nat => (n : Int)).map PV.int := by unfold nl; rw [List.map_map]; rfl
theorem nl_len (l : List Nat) : (nl l).length = l.length := List.length_map ..
theorem nl_ints (l : List Nat) : intsOf (nl l) = some (l.map fun n : Nat => (n : Int)) := by rw [nl_eq, intsOf_map]
theorem nl_app (l m : List Nat) : nl l ++ nl m = nl (l ++ m) := (List.map_append ..).symm
theorem nl_inj {a b : List Nat} : nl a = nl b ↔ a = b := by
  constructor
  · intro h
    induction a generalizing b with
    | nil => cases b with
      | nil => rfl
      | cons _ _ => cases h
    | cons x a ih => cases b with
      | nil => cases h
      | cons y b =>
        have h1 := List.cons.inj h
        have h2 : (x : Int) = (y : Int) := PV.int.inj h1.1
        rw [ih h1.2, Int.ofNat_inj.mp h2]
  · intro h; rw [h]
theorem mem_nl {l : List Nat} {x : PV} : x ∈ nl l ↔ ∃ n ∈ l, x = .int (n : Int) := by
  unfold nl
  rw [List.mem_map]
  exact ⟨fun ⟨n, h1, h2⟩ => ⟨n, h1, h2.symm⟩, fun ⟨n, h1, h2⟩ => ⟨n, h1, h2.symm⟩⟩
theorem nl_split : ∀ {p b : List Nat} {n : Nat} {zs : List PV}, nl b = nl p ++ .int (n : Int) :: zs → ∃ z, zs = nl z ∧ b = p ++ n :: z
  | [], b, n, zs, h => by
    cases b with
    | nil => cases h
    | cons m b =>
      have h1 := List.cons.inj (show PV.int (m : Int) :: nl b = .int (n : Int) :: zs from h)
      have h2 : (m : Int) = (n : Int) := PV.int.inj h1.1
      exact ⟨b, h1.2.symm, by rw [Int.ofNat_inj.mp h2]; rfl⟩
  | x :: p, b, n, zs, h => by
    cases b with
    | nil => cases h
    | cons m b =>
      have h1 := List.cons.inj (show PV.int (m : Int) :: nl b = .int (x : Int) :: (nl p ++ .int (n : Int) :: zs) from h)
      have h2 : (m : Int) = (x : Int) := PV.int.inj h1.1
      obtain ⟨z, hz, hb⟩ := nl_split h1.2
      exact ⟨z, hz, by rw [Int.ofNat_inj.mp h2, hb]; rfl⟩
theorem b_xor (x y : Nat) : pyBxor (.int x) (.int y) = some (.int ((x ^^^ y : Nat) : Int)) := by
  show some (PV.int (Builtin.bitXor _ _)) = _
  rw [Bits.bitXor_pp (by omega) (by omega)]; rfl
theorem b_or (x y : Nat) : pyBor (.int x) (.int y) = some (.int ((x ||| y : Nat) : Int)) := by
  show some (PV.int (Builtin.bitOr _ _)) = _
  rw [Bits.bitOr_pp (by omega) (by omega)]; rfl
theorem b_and (x y : Nat) : pyBand (.int x) (.int y) = some (.int ((x &&& y : Nat) : Int)) := by
  show some (PV.int (Builtin.bitAnd _ _)) = _
  unfold Builtin.bitAnd
  have h1 : decide (0 ≤ (x : Int)) = true := decide_eq_true (by omega)
  have h2 : decide (0 ≤ (y : Int)) = true := decide_eq_true (by omega)
  rw [h1, h2]; rfl
theorem b_shr (x t : Nat) : pyShr (.int x) (.int t) = some (.int ((x / 2 ^ t : Nat) : Int)) := by
  unfold pyShr fI
  simp only
  rw [if_pos (by omega), Int.toNat_natCast]
  congr 2
theorem pred1 (n : Nat) : (((n + 1 : Nat)) : Int) - 1 = (n : Int) := by omega
theorem and_one (x : Nat) : x &&& 1 = x % 2 := Nat.and_one_is_mod x
/-- (x >> t) & 1 == 1 -/
theorem bit_is (x t : Nat) : ((x / 2 ^ t : Nat) &&& 1 : Nat) = if x.testBit t = true then 1 else 0 := by
  rw [and_one, Nat.testBit_eq_decide_div_mod_eq]
  by_cases h : x / 2 ^ t % 2 = 1
  · rw [decide_eq_true h, if_pos rfl]; exact h
  · rw [decide_eq_false h, if_neg (by decide)]; omega
theorem intBits_nat {n : Nat} (h : n ≠ 0) : Builtin.Int.intBits (n : Int) = n.log2 + 1 := by
  unfold Builtin.Int.intBits
  have : ((n : Int) == 0) = false := beq_eq_false_iff_ne.mpr (by omega)
  rw [this, if_neg (by decide), Int.natAbs_natCast]
theorem b_bits {n : Nat} (h : n ≠ 0) : pyBits (.int n) = some (.int ((n.log2 + 1 : Nat) : Int)) := by
  show some (PV.int _) = _
  rw [intBits_nat h]
theorem and_pow (x t : Nat) : x &&& 2 ^ t = if x.testBit t = true then 2 ^ t else 0 := by
  apply Nat.eq_of_testBit_eq
  intro i
  rw [Nat.testBit_and, Nat.testBit_two_pow]
  by_cases h : t = i
  · subst h
    by_cases q : x.testBit t = true
    · rw [if_pos q, q, Nat.testBit_two_pow_self]; simp
    · rw [if_neg q, Nat.zero_testBit, Bool.eq_false_iff.mpr q]; rfl
  · rw [decide_eq_false h, Bool.and_false]
    by_cases q : x.testBit t = true
    · rw [if_pos q, Nat.testBit_two_pow, decide_eq_false h]
    · rw [if_neg q, Nat.zero_testBit]
/-! lists of ints compared -/
theorem sh_intsL (ns : List Int) : SeqAt.shaped (.list (ns.map .int)) = true := by
  unfold SeqAt.shaped PyData.canLay0 PyData.depth
  rw [lay_ints, dep_ints]; rfl
theorem eqv_all : ∀ ns ms : List Int, PyData.eqvAll (ns.map PyData.int) (ms.map PyData.int) = decide (ns = ms)
  | [], [] => by simp [PyData.eqvAll]
  | [], _ :: _ => by simp [PyData.eqvAll]
  | _ :: _, [] => by simp [PyData.eqvAll]
  | a :: r, b :: t => by
    simp only [List.map_cons, PyData.eqvAll, PyData.eqv, eqv_all r t]
    by_cases h : a = b <;> by_cases h' : r = t <;> simp [h, h']
theorem l_eq (ns ms : List Int) : tr1 pyEq (.lst (ns.map .int)) (.lst (ms.map .int)) = some (decide (ns = ms)) := by
  unfold tr1 pyEq toD
  rw [toDs_ints, toDs_ints]
  simp only [Option.map_some, Option.bind_some, sh_intsL, and_self, if_true]
  unfold PyData.eqv
  rw [eqv_all]
theorem l_ne (ns ms : List Int) : tr1 pyNe (.lst (ns.map .int)) (.lst (ms.map .int)) = some (!decide (ns = ms)) := by
  unfold tr1 pyNe toD
  rw [toDs_ints, toDs_ints]
  simp only [Option.map_some, Option.bind_some, sh_intsL, and_self, if_true]
  unfold PyData.eqv
  rw [eqv_all]
theorem any_eqv (x : Int) (ns : List Int) : ((ns.map PyData.int).any fun z => PyData.eqv z (.int x)) = decide (x ∈ ns) := by
  induction ns with
  | nil => simp
  | cons n ns ih =>
    rw [List.map_cons, List.any_cons, ih]
    unfold PyData.eqv
    by_cases h : n = x
    · subst h; simp
    · have : (n == x) = false := beq_eq_false_iff_ne.mpr h
      rw [this, Bool.false_or]
      simp [Ne.symm h]
theorem l_in (neg : Bool) (x : Int) (ns : List Int) : pyInU neg (.int x) (.lst (ns.map .int)) = some (.bl (if neg then !decide (x ∈ ns) else decide (x ∈ ns))) := by
  unfold pyInU toD
  simp only [toDs_ints, Option.bind_some]
  have h1 : SeqAt.shaped (.int x) = true := rfl
  simp only [h1, sh_intsL, and_self, if_true, any_eqv]
theorem lt_in (neg : Bool) (x : Int) (ns : List Int) : tr1 (pyInU neg) (.int x) (.lst (ns.map .int)) = some (if neg then !decide (x ∈ ns) else decide (x ∈ ns)) := by
  unfold tr1; rw [l_in]
theorem n_eq (a b : List Nat) : tr1 pyEq (.lst (nl a)) (.lst (nl b)) = some (decide (a = b)) := by
  rw [nl_eq, nl_eq, l_eq]
  congr 1
  refine decide_eq_decide.mpr ⟨fun h => nl_inj.mp (by rw [nl_eq, nl_eq, h]), fun h => by rw [h]⟩
theorem n_ne (a b : List Nat) : tr1 pyNe (.lst (nl a)) (.lst (nl b)) = some (!decide (a = b)) := by
  rw [nl_eq, nl_eq, l_ne]
  congr 2
  refine decide_eq_decide.mpr ⟨fun h => nl_inj.mp (by rw [nl_eq, nl_eq, h]), fun h => by rw [h]⟩
theorem n_in (neg : Bool) (x : Nat) (l : List Nat) : tr1 (pyInU neg) (.int x) (.lst (nl l)) = some (if neg then !decide (x ∈ l) else decide (x ∈ l)) := by
  rw [nl_eq, lt_in]
  have : decide ((x : Int) ∈ l.map fun n : Nat => (n : Int)) = decide (x ∈ l) := decide_eq_decide.mpr ⟨fun h => by
    obtain ⟨n, h1, h2⟩ := List.mem_map.mp h
    rw [← Int.ofNat_inj.mp h2]; exact h1, fun h => List.mem_map.mpr ⟨x, h, rfl⟩⟩
  rw [this]
theorem i_cat {a b : List PV} (h : a.length + b.length ≤ 16777216) : pyCat (.lst a) (.lst b) = some (.lst (a ++ b)) := if_pos h
/-! sorted -/
theorem casts_of {l : List Nat} {ms : List Int} (p : ms.Perm (l.map fun n : Nat => (n : Int))) : ∃ c : List Nat, ms = c.map (fun n : Nat => (n : Int)) ∧ c.Perm l := by
  refine ⟨ms.map Int.toNat, ?_, ?_⟩
  · rw [List.map_map]
    have : ∀ x ∈ ms, ((fun n : Nat => (n : Int)) ∘ Int.toNat) x = x := fun x hx => by
      obtain ⟨n, _, h⟩ := List.mem_map.mp (p.subset hx)
      show ((x.toNat : Nat) : Int) = x
      omega
    rw [List.map_congr_left this, List.map_id']
  · have := p.map Int.toNat
    rw [List.map_map] at this
    have e : (l.map (Int.toNat ∘ fun n : Nat => (n : Int))) = l := by
      rw [List.map_congr_left (g := id) (fun x _ => by simp)]; simp
    rwa [e] at this
/-- naturals, rising; falling -/
theorem n_sorted (l : List Nat) : ∃ c : List Nat, pySorted [.lst (nl l)] = some (.lst (nl c)) ∧ c.Perm l ∧ c.Pairwise (· ≤ ·) := by
  obtain ⟨c, hc, hp⟩ := casts_of (sortI_perm (l.map fun n : Nat => (n : Int)))
  refine ⟨c, ?_, hp, ?_⟩
  · show (intsOf (nl l)).map _ = _
    rw [nl_ints, Option.map_some, hc, ← nl_eq]
  · have := sortI_sorted (l.map fun n : Nat => (n : Int))
    rw [hc, List.pairwise_map] at this
    exact this.imp fun h => by omega
theorem n_sortedR (l : List Nat) : ∃ c : List Nat, pySortedR [.lst (nl l)] = some (.lst (nl c)) ∧ c.Perm l ∧ c.Pairwise (· ≥ ·) := by
  obtain ⟨c, hc, hp⟩ := casts_of (sortI_perm (l.map fun n : Nat => (n : Int)))
  refine ⟨c.reverse, ?_, (List.reverse_perm _).trans hp, ?_⟩
  · show (intsOf (nl l)).map _ = _
    rw [nl_ints, Option.map_some, hc, ← List.map_reverse, ← nl_eq]
  · rw [List.pairwise_reverse]
    have := sortI_sorted (l.map fun n : Nat => (n : Int))
    rw [hc, List.pairwise_map] at this
    exact this.imp fun h => by omega
theorem rise_unique {l m : List Nat} (hl : l.Nodup) (hm : m.Nodup) (sl : l.Pairwise (· ≤ ·)) (sm : m.Pairwise (· ≤ ·)) (h : ∀ x, x ∈ l ↔ x ∈ m) : l = m := by
  have up : ∀ {l : List Nat}, l.Nodup → l.Pairwise (· ≤ ·) → l.reverse.Pairwise (· > ·) := fun {l} hn hs => by
    rw [List.pairwise_reverse]
    exact (hs.and hn).imp fun h => by have := h.1; have := h.2; omega
  have := GF.desc_unique (up hl sl) (up hm sm) fun x => by rw [List.mem_reverse, List.mem_reverse]; exact h x
  have := congrArg List.reverse this
  rwa [List.reverse_reverse, List.reverse_reverse] at this
/-- a comprehension over naturals that gives naturals -/
theorem comp_nl {f : Bd} {t : PEnv → Res Bool} {d : PEnv → Res PV} {env : PEnv} {p : Nat → Bool} {g : Nat → Nat} : ∀ (l : List Nat) (h : ∀ n ∈ l, ∃ e, f (.int (n : Int)) env = some e ∧ t e = .ok (p n) ∧ (p n = true → d e = .ok (.int (g n : Int)))),
    compL f t d env (nl l) = .ok (nl ((l.filter p).map g))
  | [], _ => rfl
  | n :: l, h => by
    obtain ⟨e, h1, h2, h3⟩ := h n (List.mem_cons_self ..)
    have ih := comp_nl l fun m hm => h m (List.mem_cons_of_mem _ hm)
    show compL f t d env (.int (n : Int) :: nl l) = _
    unfold compL
    simp only [h1, h2, e_bnz1, ih]
    by_cases hp : p n = true
    · rw [if_pos hp, h3 hp, List.filter_cons, if_pos hp]; rfl
    · rw [if_neg hp, List.filter_cons, if_neg hp]
end D
end

section
set_option Elab.async false
set_option linter.all false
set_option maxRecDepth 100000
set_option maxHeartbeats 1000000
open PySem PySem.Spec PyProof.Rows L2
namespace Q_k07
open D
def bRest : PEnv → SR := (sIf (bOp pyEq (xOp pyBand (xOp pyShr (xVar 0) (xOp pySub (xUn pyBits (xVar 2)) (xC (.int 1)))) (xC (.int 1))) (xC (.int 1))) (sSet 0 (xOp pyBxor (xVar 0) (xVar 2))) .nx)
theorem rest_loop (q : Option PV) : ∀ (b : List Nat) (x : Nat) (o : Option PV), (∀ r ∈ b, r ≠ 0) → ∃ o', forL (bName 2) bRest (nl b) [some (.int x), q, o] = .nx [some (.int (GF.rest b x : Nat)), q, o']
  | [], x, o, _ => ⟨o, rfl⟩
  | r :: b, x, o, h => by
    obtain ⟨o', ih⟩ := rest_loop q b (if x.testBit r.log2 = true then x ^^^ r else x) (some (.int r)) fun s hs => h s (List.mem_cons_of_mem _ hs)
    refine ⟨o', ?_⟩
    show forL _ _ (.int (r : Int) :: nl b) _ = _
    rw [GF.rest_cons]
    unfold forL
    have hb : bName 2 (.int (r : Int)) [some (.int (x : Int)), q, o] = some [some (.int x), q, some (.int r)] := rfl
    have hk : bRest [some (.int x), q, some (.int r)] = .nx [some (.int ((if x.testBit r.log2 = true then x ^^^ r else x : Nat) : Int)), q, some (.int r)] := by
      unfold bRest
      have h1 : (1 : Int) = ((1 : Nat) : Int) := rfl
      by_cases hx : x.testBit r.log2 = true
      · simp only [e_seq, e_th1, e_th2, e_th3, e_th4, e_th5, e_nx, e_set, e_ret, e_drop, e_thS1, e_thS2, e_if, e_thBt, e_thBf, e_thBe, e_op, e_ap2, e_bop, e_ap2B, e_un, e_ap1, e_call, e_apL, e_meth, e_apM, e_ty, e_cls, e_gd, e_fld, e_nil, e_cons, e_rcons, e_C, e_var, e_getP, e_use, e_bnd1, e_bnd2, e_bnz1, e_ofO, e_and, e_or, e_not, e_rand1, e_rand2, e_ror1, e_ror2, e_rnot, e_val, e_tru, e_tru0, e_xIf, e_riff1, e_riff2, e_lst, e_tup, e_rlst, e_rtup, e_for, e_forR, ll0, ll1, ll2, ll3, ll4, ll5, ll6, ll7, ll8, e_lc, e_lcR, e_iOf, e_iWith, e_asg, e_app, e_appR, e_end1, e_end2, e_end3, e_sl, e_slR, e_oN, e_oS, e_oR, List.getElem?_cons_zero, List.getElem?_cons_succ, List.set_cons_zero, List.set_cons_succ, b_bits (h r (List.mem_cons_self ..)), i_sub, pred1, b_shr]
        rw [h1, b_and, bit_is, if_pos hx]
        simp only [e_seq, e_th1, e_th2, e_th3, e_th4, e_th5, e_nx, e_set, e_ret, e_drop, e_thS1, e_thS2, e_if, e_thBt, e_thBf, e_thBe, e_op, e_ap2, e_bop, e_ap2B, e_un, e_ap1, e_call, e_apL, e_meth, e_apM, e_ty, e_cls, e_gd, e_fld, e_nil, e_cons, e_rcons, e_C, e_var, e_getP, e_use, e_bnd1, e_bnd2, e_bnz1, e_ofO, e_and, e_or, e_not, e_rand1, e_rand2, e_ror1, e_ror2, e_rnot, e_val, e_tru, e_tru0, e_xIf, e_riff1, e_riff2, e_lst, e_tup, e_rlst, e_rtup, e_for, e_forR, ll0, ll1, ll2, ll3, ll4, ll5, ll6, ll7, ll8, e_lc, e_lcR, e_iOf, e_iWith, e_asg, e_app, e_appR, e_end1, e_end2, e_end3, e_sl, e_slR, e_oN, e_oS, e_oR, List.getElem?_cons_zero, List.getElem?_cons_succ, List.set_cons_zero, List.set_cons_succ, i_eq, decide_true, b_xor, if_pos hx]
      · simp only [e_seq, e_th1, e_th2, e_th3, e_th4, e_th5, e_nx, e_set, e_ret, e_drop, e_thS1, e_thS2, e_if, e_thBt, e_thBf, e_thBe, e_op, e_ap2, e_bop, e_ap2B, e_un, e_ap1, e_call, e_apL, e_meth, e_apM, e_ty, e_cls, e_gd, e_fld, e_nil, e_cons, e_rcons, e_C, e_var, e_getP, e_use, e_bnd1, e_bnd2, e_bnz1, e_ofO, e_and, e_or, e_not, e_rand1, e_rand2, e_ror1, e_ror2, e_rnot, e_val, e_tru, e_tru0, e_xIf, e_riff1, e_riff2, e_lst, e_tup, e_rlst, e_rtup, e_for, e_forR, ll0, ll1, ll2, ll3, ll4, ll5, ll6, ll7, ll8, e_lc, e_lcR, e_iOf, e_iWith, e_asg, e_app, e_appR, e_end1, e_end2, e_end3, e_sl, e_slR, e_oN, e_oS, e_oR, List.getElem?_cons_zero, List.getElem?_cons_succ, List.set_cons_zero, List.set_cons_succ, b_bits (h r (List.mem_cons_self ..)), i_sub, pred1, b_shr]
        rw [h1, b_and, bit_is, if_neg hx]
        simp only [e_seq, e_th1, e_th2, e_th3, e_th4, e_th5, e_nx, e_set, e_ret, e_drop, e_thS1, e_thS2, e_if, e_thBt, e_thBf, e_thBe, e_op, e_ap2, e_bop, e_ap2B, e_un, e_ap1, e_call, e_apL, e_meth, e_apM, e_ty, e_cls, e_gd, e_fld, e_nil, e_cons, e_rcons, e_C, e_var, e_getP, e_use, e_bnd1, e_bnd2, e_bnz1, e_ofO, e_and, e_or, e_not, e_rand1, e_rand2, e_ror1, e_ror2, e_rnot, e_val, e_tru, e_tru0, e_xIf, e_riff1, e_riff2, e_lst, e_tup, e_rlst, e_rtup, e_for, e_forR, ll0, ll1, ll2, ll3, ll4, ll5, ll6, ll7, ll8, e_lc, e_lcR, e_iOf, e_iWith, e_asg, e_app, e_appR, e_end1, e_end2, e_end3, e_sl, e_slR, e_oN, e_oS, e_oR, List.getElem?_cons_zero, List.getElem?_cons_succ, List.set_cons_zero, List.set_cons_succ, i_eq, show (((0 : Nat) : Int) = ((1 : Nat) : Int)) = False by decide, decide_false, if_neg hx]
    simp only [hb, hk]
    exact ih
theorem rest_ok (b : List Nat) (x : Nat) (h : ∀ r ∈ b, r ≠ 0) (hl : b.length ≤ 16777216) : d_rest_of [.int x, .lst (nl b)] = .ok (.int (GF.rest b x : Nat)) := by
  show runB false 3 2 k_rest_of _ = _
  rw [e_runB (m := 2) rfl]
  show endR false (k_rest_of [some (.int x), some (.lst (nl b)), none]) = _
  obtain ⟨o', hf⟩ := rest_loop (some (.lst (nl b))) b x none h
  unfold bRest at hf
  have i1 := i_itL (xs := nl b) (by rw [nl_len]; exact hl)
  have z : (nl b).length ≤ sizeLine := by rw [nl_len]; exact hl
  unfold k_rest_of
  simp only [e_seq, e_th1, e_th2, e_th3, e_th4, e_th5, e_nx, e_set, e_ret, e_drop, e_thS1, e_thS2, e_if, e_thBt, e_thBf, e_thBe, e_op, e_ap2, e_bop, e_ap2B, e_un, e_ap1, e_call, e_apL, e_meth, e_apM, e_ty, e_cls, e_gd, e_fld, e_nil, e_cons, e_rcons, e_C, e_var, e_getP, e_use, e_bnd1, e_bnd2, e_bnz1, e_ofO, e_and, e_or, e_not, e_rand1, e_rand2, e_ror1, e_ror2, e_rnot, e_val, e_tru, e_tru0, e_xIf, e_riff1, e_riff2, e_lst, e_tup, e_rlst, e_rtup, e_for, e_forR, ll0, ll1, ll2, ll3, ll4, ll5, ll6, ll7, ll8, e_lc, e_lcR, e_iOf, e_iWith, e_asg, e_app, e_appR, e_end1, e_end2, e_end3, e_sl, e_slR, e_oN, e_oS, e_oR, List.getElem?_cons_zero, List.getElem?_cons_succ, List.set_cons_zero, List.set_cons_succ, i1, z, if_true, hf]
theorem nz_of {b : List Nat} (h : GF.Pur b) : ∀ r ∈ b, r ≠ 0 := h.nz
def bRed : PEnv → SR := (sSeq (sSet 3 (xUse d_rest_of (aCons (xVar 2) (aCons (xVar 1) aNil)))) (sIf (bOp pyNe (xVar 3) (xC (.int 0))) (sSeq (sSet 4 (xOp pySub (xUn pyBits (xVar 3)) (xC (.int 1)))) (sSeq (sSet 1 (xOp pyCat (xLc (iOf pyItems (xVar 1)) (bName 5) bYes (xIf (bOp pyEq (xOp pyBand (xOp pyShr (xVar 5) (xVar 4)) (xC (.int 1))) (xC (.int 1))) (xOp pyBxor (xVar 5) (xVar 3)) (xVar 5)) [5]) (xLst (aCons (xVar 3) aNil)))) (sSet 1 (xCall pySortedR (aCons (xVar 1) aNil))))) .nx))
theorem sp_snoc (p : List Nat) (x : Nat) : GF.Same (p ++ [x]) (x :: p) := GF.same_mem fun r => by simp [or_comm]
theorem red_step (q : Option PV) (b : List Nat) (x : Nat) (o3 o4 o5 : Option PV) (hb : GF.Red b) (hl : b.length ≤ 1000) : ∃ c o3' o4' o5', GF.Red c ∧ GF.Same c (x :: b) ∧ c.length ≤ b.length + 1 ∧
    bRed [q, some (.lst (nl b)), some (.int x), o3, o4, o5] = .nx [q, some (.lst (nl c)), some (.int x), o3', o4', o5'] := by
  have hr := rest_ok b x hb.pur.nz (by omega)
  have hbits := GF.rest_bits hb.pur x
  have hsame := GF.same_rest b x
  generalize he : GF.rest b x = e at hr hbits hsame
  unfold bRed
  by_cases h0 : e = 0
  · subst h0
    refine ⟨b, some (.int 0), o4, o5, hb, GF.same_drop.symm.trans hsame, by omega, ?_⟩
    simp only [e_seq, e_th1, e_th2, e_th3, e_th4, e_th5, e_nx, e_set, e_ret, e_drop, e_thS1, e_thS2, e_if, e_thBt, e_thBf, e_thBe, e_op, e_ap2, e_bop, e_ap2B, e_un, e_ap1, e_call, e_apL, e_meth, e_apM, e_ty, e_cls, e_gd, e_fld, e_nil, e_cons, e_rcons, e_C, e_var, e_getP, e_use, e_bnd1, e_bnd2, e_bnz1, e_ofO, e_and, e_or, e_not, e_rand1, e_rand2, e_ror1, e_ror2, e_rnot, e_val, e_tru, e_tru0, e_xIf, e_riff1, e_riff2, e_lst, e_tup, e_rlst, e_rtup, e_for, e_forR, ll0, ll1, ll2, ll3, ll4, ll5, ll6, ll7, ll8, e_lc, e_lcR, e_iOf, e_iWith, e_asg, e_app, e_appR, e_end1, e_end2, e_end3, e_sl, e_slR, e_oN, e_oS, e_oR, List.getElem?_cons_zero, List.getElem?_cons_succ, List.set_cons_zero, List.set_cons_succ, hr, i_ne, show ((0 : Nat) : Int) = (0 : Int) by rfl, decide_true, Bool.not_true]
  · obtain ⟨c, hc, hp, hs⟩ := n_sortedR (b.map (GF.put e) ++ [e])
    have hpur : GF.Pur c := (GF.pur_put hb.pur h0 hbits).perm hp.symm
    have hred : GF.Red c := ⟨hpur, (hs.and hpur.nd).imp fun h => by have := h.1; have := h.2; omega⟩
    have hlen : c.length = b.length + 1 := by rw [hp.length_eq, List.length_append, List.length_map]; rfl
    have hsc : GF.Same c (x :: b) := (GF.same_mem fun r => hp.mem_iff).trans (GF.sp_put.trans hsame)
    refine ⟨c, some (.int e), some (.int (e.log2 : Nat)), o5, hred, hsc, by omega, ?_⟩
    have i1 := i_itL (xs := nl b) (by rw [nl_len]; omega)
    have z : (nl b).length ≤ sizeLine := by rw [nl_len, szl]; omega
    have z1 : (1 : Nat) ≤ sizeLine := by decide
    have hne : ((e : Int) = 0) = False := eq_false (by omega)
    have h1 : (1 : Int) = ((1 : Nat) : Int) := rfl
    have hcomp : compL (bName 5) bYes (xIf (bOp pyEq (xOp pyBand (xOp pyShr (xVar 5) (xVar 4)) (xC (.int 1))) (xC (.int 1))) (xOp pyBxor (xVar 5) (xVar 3)) (xVar 5))
        [q, some (.lst (nl b)), some (.int x), some (.int e), some (.int (e.log2 : Nat)), none] (nl b) = .ok (nl (b.map (GF.put e))) := by
      rw [comp_nl (p := fun _ => true) (g := GF.put e)]
      · rw [List.filter_eq_self.mpr fun _ _ => rfl]
      · intro n _
        refine ⟨[q, some (.lst (nl b)), some (.int x), some (.int e), some (.int (e.log2 : Nat)), some (.int n)], rfl, rfl, fun _ => ?_⟩
        unfold GF.put
        by_cases hn : n.testBit e.log2 = true
        · simp only [e_seq, e_th1, e_th2, e_th3, e_th4, e_th5, e_nx, e_set, e_ret, e_drop, e_thS1, e_thS2, e_if, e_thBt, e_thBf, e_thBe, e_op, e_ap2, e_bop, e_ap2B, e_un, e_ap1, e_call, e_apL, e_meth, e_apM, e_ty, e_cls, e_gd, e_fld, e_nil, e_cons, e_rcons, e_C, e_var, e_getP, e_use, e_bnd1, e_bnd2, e_bnz1, e_ofO, e_and, e_or, e_not, e_rand1, e_rand2, e_ror1, e_ror2, e_rnot, e_val, e_tru, e_tru0, e_xIf, e_riff1, e_riff2, e_lst, e_tup, e_rlst, e_rtup, e_for, e_forR, ll0, ll1, ll2, ll3, ll4, ll5, ll6, ll7, ll8, e_lc, e_lcR, e_iOf, e_iWith, e_asg, e_app, e_appR, e_end1, e_end2, e_end3, e_sl, e_slR, e_oN, e_oS, e_oR, List.getElem?_cons_zero, List.getElem?_cons_succ, List.set_cons_zero, List.set_cons_succ, b_shr]
          rw [h1, b_and, bit_is, if_pos hn]
          simp only [e_seq, e_th1, e_th2, e_th3, e_th4, e_th5, e_nx, e_set, e_ret, e_drop, e_thS1, e_thS2, e_if, e_thBt, e_thBf, e_thBe, e_op, e_ap2, e_bop, e_ap2B, e_un, e_ap1, e_call, e_apL, e_meth, e_apM, e_ty, e_cls, e_gd, e_fld, e_nil, e_cons, e_rcons, e_C, e_var, e_getP, e_use, e_bnd1, e_bnd2, e_bnz1, e_ofO, e_and, e_or, e_not, e_rand1, e_rand2, e_ror1, e_ror2, e_rnot, e_val, e_tru, e_tru0, e_xIf, e_riff1, e_riff2, e_lst, e_tup, e_rlst, e_rtup, e_for, e_forR, ll0, ll1, ll2, ll3, ll4, ll5, ll6, ll7, ll8, e_lc, e_lcR, e_iOf, e_iWith, e_asg, e_app, e_appR, e_end1, e_end2, e_end3, e_sl, e_slR, e_oN, e_oS, e_oR, List.getElem?_cons_zero, List.getElem?_cons_succ, List.set_cons_zero, List.set_cons_succ, i_eq, decide_true, b_xor, if_pos hn]
        · simp only [e_seq, e_th1, e_th2, e_th3, e_th4, e_th5, e_nx, e_set, e_ret, e_drop, e_thS1, e_thS2, e_if, e_thBt, e_thBf, e_thBe, e_op, e_ap2, e_bop, e_ap2B, e_un, e_ap1, e_call, e_apL, e_meth, e_apM, e_ty, e_cls, e_gd, e_fld, e_nil, e_cons, e_rcons, e_C, e_var, e_getP, e_use, e_bnd1, e_bnd2, e_bnz1, e_ofO, e_and, e_or, e_not, e_rand1, e_rand2, e_ror1, e_ror2, e_rnot, e_val, e_tru, e_tru0, e_xIf, e_riff1, e_riff2, e_lst, e_tup, e_rlst, e_rtup, e_for, e_forR, ll0, ll1, ll2, ll3, ll4, ll5, ll6, ll7, ll8, e_lc, e_lcR, e_iOf, e_iWith, e_asg, e_app, e_appR, e_end1, e_end2, e_end3, e_sl, e_slR, e_oN, e_oS, e_oR, List.getElem?_cons_zero, List.getElem?_cons_succ, List.set_cons_zero, List.set_cons_succ, b_shr]
          rw [h1, b_and, bit_is, if_neg hn]
          simp only [e_seq, e_th1, e_th2, e_th3, e_th4, e_th5, e_nx, e_set, e_ret, e_drop, e_thS1, e_thS2, e_if, e_thBt, e_thBf, e_thBe, e_op, e_ap2, e_bop, e_ap2B, e_un, e_ap1, e_call, e_apL, e_meth, e_apM, e_ty, e_cls, e_gd, e_fld, e_nil, e_cons, e_rcons, e_C, e_var, e_getP, e_use, e_bnd1, e_bnd2, e_bnz1, e_ofO, e_and, e_or, e_not, e_rand1, e_rand2, e_ror1, e_ror2, e_rnot, e_val, e_tru, e_tru0, e_xIf, e_riff1, e_riff2, e_lst, e_tup, e_rlst, e_rtup, e_for, e_forR, ll0, ll1, ll2, ll3, ll4, ll5, ll6, ll7, ll8, e_lc, e_lcR, e_iOf, e_iWith, e_asg, e_app, e_appR, e_end1, e_end2, e_end3, e_sl, e_slR, e_oN, e_oS, e_oR, List.getElem?_cons_zero, List.getElem?_cons_succ, List.set_cons_zero, List.set_cons_succ, i_eq, show (((0 : Nat) : Int) = ((1 : Nat) : Int)) = False by decide, decide_false, if_neg hn]
    have hcat : pyCat (.lst (nl (b.map (GF.put e)))) (.lst [.int e]) = some (.lst (nl (b.map (GF.put e) ++ [e]))) := by
      rw [i_cat (by rw [nl_len, List.length_map]; simp only [List.length_cons, List.length_nil]; omega), ← nl_app]; rfl
    simp only [e_seq, e_th1, e_th2, e_th3, e_th4, e_th5, e_nx, e_set, e_ret, e_drop, e_thS1, e_thS2, e_if, e_thBt, e_thBf, e_thBe, e_op, e_ap2, e_bop, e_ap2B, e_un, e_ap1, e_call, e_apL, e_meth, e_apM, e_ty, e_cls, e_gd, e_fld, e_nil, e_cons, e_rcons, e_C, e_var, e_getP, e_use, e_bnd1, e_bnd2, e_bnz1, e_ofO, e_and, e_or, e_not, e_rand1, e_rand2, e_ror1, e_ror2, e_rnot, e_val, e_tru, e_tru0, e_xIf, e_riff1, e_riff2, e_lst, e_tup, e_rlst, e_rtup, e_for, e_forR, ll0, ll1, ll2, ll3, ll4, ll5, ll6, ll7, ll8, e_lc, e_lcR, e_iOf, e_iWith, e_asg, e_app, e_appR, e_end1, e_end2, e_end3, e_sl, e_slR, e_oN, e_oS, e_oR, List.getElem?_cons_zero, List.getElem?_cons_succ, List.set_cons_zero, List.set_cons_succ, hr, i_ne, hne, decide_false, Bool.not_false, b_bits h0, i_sub, pred1, i1, z, if_true, wipeE, hcomp, List.length_cons, List.length_nil, Nat.zero_add, z1, hcat, hc]
theorem reduced_ok (l : List Nat) (hl : l.length ≤ 1000) : ∃ b, d_reduced [.lst (nl l)] = .ok (.lst (nl b)) ∧ GF.Red b ∧ GF.Same b l ∧ b.length ≤ l.length := by
  show ∃ b, runB false 6 1 k_reduced _ = _ ∧ _
  obtain ⟨e', h1, b, p, hp, hb, hs, hlen, o2, o3, o4, o5, he⟩ := for_acc (f := bName 2) (k := bRed) (xs := nl l) (e := [some (.lst (nl l)), some (.lst []), none, none, none, none])
    (P := fun ys e => ∃ b p : List Nat, ys = nl p ∧ GF.Red b ∧ GF.Same b p ∧ b.length ≤ p.length ∧ ∃ o2 o3 o4 o5, e = [some (.lst (nl l)), some (.lst (nl b)), o2, o3, o4, o5])
    ⟨[], [], rfl, GF.Red.nil, GF.Same.refl _, Nat.le_refl _, none, none, none, none, rfl⟩ (fun ys x zs e hx ⟨b, p, hp, hb, hs, hlen, o2, o3, o4, o5, he⟩ => by
      obtain ⟨n, hn, rfl⟩ := mem_nl.mp (show x ∈ nl l by rw [hx]; exact List.mem_append_right _ (List.mem_cons_self ..))
      have hll := congrArg List.length hx
      rw [nl_len, List.length_append, List.length_cons, hp, nl_len] at hll
      obtain ⟨c, o3', o4', o5', hc, hsc, hcl, hk⟩ := red_step (some (.lst (nl l))) b n o3 o4 o5 hb (by omega)
      refine ⟨_, _, by rw [he]; rfl, .inl hk, c, p ++ [n], by rw [hp, ← nl_app]; rfl, hc, ?_, by rw [List.length_append]; simp only [List.length_cons, List.length_nil]; omega, _, _, _, _, rfl⟩
      refine hsc.trans (GF.Same.trans ?_ (sp_snoc p n).symm)
      exact GF.same_of (fun r hr => by
        rcases List.mem_cons.mp hr with rfl | hr
        · exact GF.sp_mem (List.mem_cons_self ..)
        · exact .inl ((hs r).mp (GF.sp_mem hr))) (fun r hr => by
        rcases List.mem_cons.mp hr with rfl | hr
        · exact GF.sp_mem (List.mem_cons_self ..)
        · exact .inl ((hs r).mpr (GF.sp_mem hr))))
  have hpl := nl_inj.mp hp
  subst hpl
  refine ⟨b, ?_, hb, hs, hlen⟩
  rw [e_runB (m := 1) rfl]
  show endR false (k_reduced [some (.lst (nl l)), none, none, none, none, none]) = _
  have i1 := i_itL (xs := nl l) (by rw [nl_len]; omega)
  have z : (nl l).length ≤ sizeLine := by rw [nl_len, szl]; omega
  have z0 : (0 : Nat) ≤ sizeLine := by decide
  subst he
  unfold bRed at h1
  unfold k_reduced
  simp only [e_seq, e_th1, e_th2, e_th3, e_th4, e_th5, e_nx, e_set, e_ret, e_drop, e_thS1, e_thS2, e_if, e_thBt, e_thBf, e_thBe, e_op, e_ap2, e_bop, e_ap2B, e_un, e_ap1, e_call, e_apL, e_meth, e_apM, e_ty, e_cls, e_gd, e_fld, e_nil, e_cons, e_rcons, e_C, e_var, e_getP, e_use, e_bnd1, e_bnd2, e_bnz1, e_ofO, e_and, e_or, e_not, e_rand1, e_rand2, e_ror1, e_ror2, e_rnot, e_val, e_tru, e_tru0, e_xIf, e_riff1, e_riff2, e_lst, e_tup, e_rlst, e_rtup, e_for, e_forR, ll0, ll1, ll2, ll3, ll4, ll5, ll6, ll7, ll8, e_lc, e_lcR, e_iOf, e_iWith, e_asg, e_app, e_appR, e_end1, e_end2, e_end3, e_sl, e_slR, e_oN, e_oS, e_oR, List.getElem?_cons_zero, List.getElem?_cons_succ, List.set_cons_zero, List.set_cons_succ, List.length_nil, z0, if_true, i1, z, h1]
/-! spans -/
theorem comp_xor (r : Nat) (f : List Nat) (o0 : Option PV) (o1 : Option PV) : compL (bName 3) bYes (xOp pyBxor (xVar 3) (xVar 2)) [o0, o1, some (.int r), none] (nl f) = .ok (nl (f.map fun x => x ^^^ r)) := by
  rw [comp_nl (p := fun _ => true) (g := fun x => x ^^^ r)]
  · rw [List.filter_eq_self.mpr fun _ _ => rfl]
  · intro n _
    refine ⟨[o0, o1, some (.int r), some (.int n)], rfl, rfl, fun _ => ?_⟩
    simp only [e_seq, e_th1, e_th2, e_th3, e_th4, e_th5, e_nx, e_set, e_ret, e_drop, e_thS1, e_thS2, e_if, e_thBt, e_thBf, e_thBe, e_op, e_ap2, e_bop, e_ap2B, e_un, e_ap1, e_call, e_apL, e_meth, e_apM, e_ty, e_cls, e_gd, e_fld, e_nil, e_cons, e_rcons, e_C, e_var, e_getP, e_use, e_bnd1, e_bnd2, e_bnz1, e_ofO, e_and, e_or, e_not, e_rand1, e_rand2, e_ror1, e_ror2, e_rnot, e_val, e_tru, e_tru0, e_xIf, e_riff1, e_riff2, e_lst, e_tup, e_rlst, e_rtup, e_for, e_forR, ll0, ll1, ll2, ll3, ll4, ll5, ll6, ll7, ll8, e_lc, e_lcR, e_iOf, e_iWith, e_asg, e_app, e_appR, e_end1, e_end2, e_end3, e_sl, e_slR, e_oN, e_oS, e_oR, List.getElem?_cons_zero, List.getElem?_cons_succ, List.set_cons_zero, List.set_cons_succ, b_xor]
theorem set_xor (f : List Nat) (r : Nat) (o0 o3 : Option PV) (hf : f.length ≤ 1000000) : sSet 1 (xOp pyCat (xVar 1) (xLc (iOf pyItems (xVar 1)) (bName 3) bYes (xOp pyBxor (xVar 3) (xVar 2)) [3])) [o0, some (.lst (nl f)), some (.int r), o3] =
    .nx [o0, some (.lst (nl (GF.spn f r))), some (.int r), o3] := by
  have i1 := i_itL (xs := nl f) (by rw [nl_len]; omega)
  have z : (nl f).length ≤ sizeLine := by rw [nl_len, szl]; omega
  have hcat : pyCat (.lst (nl f)) (.lst (nl (f.map fun x => x ^^^ r))) = some (.lst (nl (GF.spn f r))) := by
    rw [i_cat (by rw [nl_len, nl_len, List.length_map]; omega), nl_app]; rfl
  simp only [e_seq, e_th1, e_th2, e_th3, e_th4, e_th5, e_nx, e_set, e_ret, e_drop, e_thS1, e_thS2, e_if, e_thBt, e_thBf, e_thBe, e_op, e_ap2, e_bop, e_ap2B, e_un, e_ap1, e_call, e_apL, e_meth, e_apM, e_ty, e_cls, e_gd, e_fld, e_nil, e_cons, e_rcons, e_C, e_var, e_getP, e_use, e_bnd1, e_bnd2, e_bnz1, e_ofO, e_and, e_or, e_not, e_rand1, e_rand2, e_ror1, e_ror2, e_rnot, e_val, e_tru, e_tru0, e_xIf, e_riff1, e_riff2, e_lst, e_tup, e_rlst, e_rtup, e_for, e_forR, ll0, ll1, ll2, ll3, ll4, ll5, ll6, ll7, ll8, e_lc, e_lcR, e_iOf, e_iWith, e_asg, e_app, e_appR, e_end1, e_end2, e_end3, e_sl, e_slR, e_oN, e_oS, e_oR, List.getElem?_cons_zero, List.getElem?_cons_succ, List.set_cons_zero, List.set_cons_succ, i1, z, if_true, wipeE, comp_xor, hcat]
def bLSpan : PEnv → SR := (sIf (bOp (pyInU true) (xVar 2) (xVar 1)) (sSet 1 (xOp pyCat (xVar 1) (xLc (iOf pyItems (xVar 1)) (bName 3) bYes (xOp pyBxor (xVar 3) (xVar 2)) [3]))) .nx)
def bSpan : PEnv → SR := (sSet 1 (xOp pyCat (xVar 1) (xLc (iOf pyItems (xVar 1)) (bName 3) bYes (xOp pyBxor (xVar 3) (xVar 2)) [3])))
theorem lspan_ok (l : List Nat) (hl : l.length ≤ 18) : ∃ s, d__law_span [.lst (nl l)] = .ok (.lst (nl s)) ∧ s.Nodup ∧ s.Pairwise (· ≤ ·) ∧ ∀ x, x ∈ s ↔ GF.Sp l x := by
  obtain ⟨e', h1, f, p, hp, hn, hm, hlen, o2, o3, he⟩ := for_acc (f := bName 2) (k := bLSpan) (xs := nl l) (e := [some (.lst (nl l)), some (.lst [.int 0]), none, none])
    (P := fun ys e => ∃ f p : List Nat, ys = nl p ∧ f.Nodup ∧ (∀ x, x ∈ f ↔ GF.Sp p x) ∧ f.length ≤ 2 ^ p.length ∧ ∃ o2 o3, e = [some (.lst (nl l)), some (.lst (nl f)), o2, o3])
    ⟨[0], [], rfl, by simp, fun x => by rw [List.mem_singleton]; exact Iff.rfl, by decide, none, none, rfl⟩ (fun ys x zs e hx ⟨f, p, hp, hn, hm, hlen, o2, o3, he⟩ => by
      obtain ⟨n, hnl, rfl⟩ := mem_nl.mp (show x ∈ nl l by rw [hx]; exact List.mem_append_right _ (List.mem_cons_self ..))
      have hll := congrArg List.length hx
      rw [nl_len, List.length_append, List.length_cons, hp, nl_len] at hll
      have hpw : 2 ^ p.length ≤ 2 ^ 17 := Nat.pow_le_pow_right (by decide) (by omega)
      have hpw2 : 2 ^ (p ++ [n]).length = 2 * 2 ^ p.length := by rw [List.length_append, List.length_singleton, Nat.pow_succ]; omega
      by_cases hmem : n ∈ f
      · refine ⟨_, [some (.lst (nl l)), some (.lst (nl f)), some (.int n), o3], by rw [he]; rfl, .inl ?_, f, p ++ [n], by rw [hp, ← nl_app]; rfl, hn, fun x => ?_, by omega, _, _, rfl⟩
        · show bLSpan [some (.lst (nl l)), some (.lst (nl f)), some (.int n), o3] = _
          unfold bLSpan
          simp only [e_seq, e_th1, e_th2, e_th3, e_th4, e_th5, e_nx, e_set, e_ret, e_drop, e_thS1, e_thS2, e_if, e_thBt, e_thBf, e_thBe, e_op, e_ap2, e_bop, e_ap2B, e_un, e_ap1, e_call, e_apL, e_meth, e_apM, e_ty, e_cls, e_gd, e_fld, e_nil, e_cons, e_rcons, e_C, e_var, e_getP, e_use, e_bnd1, e_bnd2, e_bnz1, e_ofO, e_and, e_or, e_not, e_rand1, e_rand2, e_ror1, e_ror2, e_rnot, e_val, e_tru, e_tru0, e_xIf, e_riff1, e_riff2, e_lst, e_tup, e_rlst, e_rtup, e_for, e_forR, ll0, ll1, ll2, ll3, ll4, ll5, ll6, ll7, ll8, e_lc, e_lcR, e_iOf, e_iWith, e_asg, e_app, e_appR, e_end1, e_end2, e_end3, e_sl, e_slR, e_oN, e_oS, e_oR, List.getElem?_cons_zero, List.getElem?_cons_succ, List.set_cons_zero, List.set_cons_succ, n_in, if_true, hmem, decide_true, Bool.not_true]
        · rw [hm, (GF.sp_snoc p n x)]
          constructor
          · intro h; exact .inl h
          · rintro (h | h)
            · exact h
            · have := GF.sp_xor h ((hm n).mp hmem)
              rwa [GF.xc] at this
      · refine ⟨_, [some (.lst (nl l)), some (.lst (nl (GF.spn f n))), some (.int n), o3], by rw [he]; rfl, .inl ?_, GF.spn f n, p ++ [n], by rw [hp, ← nl_app]; rfl, GF.spn_nodup hm hn fun h => hmem ((hm n).mpr h), fun x => ?_, by rw [GF.spn_len]; omega, _, _, rfl⟩
        · show bLSpan [some (.lst (nl l)), some (.lst (nl f)), some (.int n), o3] = _
          have hs := set_xor f n (some (.lst (nl l))) o3 (by omega)
          unfold bLSpan
          rw [e_if]
          simp only [e_seq, e_th1, e_th2, e_th3, e_th4, e_th5, e_nx, e_set, e_ret, e_drop, e_thS1, e_thS2, e_if, e_thBt, e_thBf, e_thBe, e_op, e_ap2, e_bop, e_ap2B, e_un, e_ap1, e_call, e_apL, e_meth, e_apM, e_ty, e_cls, e_gd, e_fld, e_nil, e_cons, e_rcons, e_C, e_var, e_getP, e_use, e_bnd1, e_bnd2, e_bnz1, e_ofO, e_and, e_or, e_not, e_rand1, e_rand2, e_ror1, e_ror2, e_rnot, e_val, e_tru, e_tru0, e_xIf, e_riff1, e_riff2, e_lst, e_tup, e_rlst, e_rtup, e_for, e_forR, ll0, ll1, ll2, ll3, ll4, ll5, ll6, ll7, ll8, e_lc, e_lcR, e_iOf, e_iWith, e_asg, e_app, e_appR, e_end1, e_end2, e_end3, e_sl, e_slR, e_oN, e_oS, e_oR, List.getElem?_cons_zero, List.getElem?_cons_succ, List.set_cons_zero, List.set_cons_succ, n_in, if_true, hmem, decide_false, Bool.not_false] at hs ⊢
          exact hs
        · rw [GF.spn_mem hm, (GF.sp_snoc p n x)])
  have hpl := nl_inj.mp hp
  subst hpl
  have hpw : 2 ^ l.length ≤ 2 ^ 18 := Nat.pow_le_pow_right (by decide) hl
  obtain ⟨c, hc, hcp, hcs⟩ := n_sorted f
  refine ⟨c, ?_, hcp.symm.nodup hn, hcs, fun x => by rw [hcp.mem_iff]; exact hm x⟩
  show runB true 4 1 k__law_span _ = _
  rw [e_runB (m := 1) rfl]
  show endR true (k__law_span [some (.lst (nl l)), none, none, none]) = _
  have i1 := i_itL (xs := nl l) (by rw [nl_len]; omega)
  have z : (nl l).length ≤ sizeLine := by rw [nl_len, szl]; omega
  have z1 : (1 : Nat) ≤ sizeLine := by decide
  subst he
  unfold bLSpan at h1
  unfold k__law_span
  simp only [e_seq, e_th1, e_th2, e_th3, e_th4, e_th5, e_nx, e_set, e_ret, e_drop, e_thS1, e_thS2, e_if, e_thBt, e_thBf, e_thBe, e_op, e_ap2, e_bop, e_ap2B, e_un, e_ap1, e_call, e_apL, e_meth, e_apM, e_ty, e_cls, e_gd, e_fld, e_nil, e_cons, e_rcons, e_C, e_var, e_getP, e_use, e_bnd1, e_bnd2, e_bnz1, e_ofO, e_and, e_or, e_not, e_rand1, e_rand2, e_ror1, e_ror2, e_rnot, e_val, e_tru, e_tru0, e_xIf, e_riff1, e_riff2, e_lst, e_tup, e_rlst, e_rtup, e_for, e_forR, ll0, ll1, ll2, ll3, ll4, ll5, ll6, ll7, ll8, e_lc, e_lcR, e_iOf, e_iWith, e_asg, e_app, e_appR, e_end1, e_end2, e_end3, e_sl, e_slR, e_oN, e_oS, e_oR, List.getElem?_cons_zero, List.getElem?_cons_succ, List.set_cons_zero, List.set_cons_succ, List.length_cons, List.length_nil, Nat.zero_add, z1, if_true, i1, z, h1, hc]
theorem span_ok (b : List Nat) (hb : GF.Pur b) (hl : b.length ≤ 18) : ∃ s, d_span_of [.lst (nl b)] = .ok (.lst (nl s)) ∧ s.Nodup ∧ s.Pairwise (· ≤ ·) ∧ (∀ x, x ∈ s ↔ GF.Sp b x) ∧ s.length = 2 ^ b.length := by
  obtain ⟨e', h1, f, p, hp, hn, hm, hlen, o2, o3, he⟩ := for_acc (f := bName 2) (k := bSpan) (xs := nl b) (e := [some (.lst (nl b)), some (.lst [.int 0]), none, none])
    (P := fun ys e => ∃ f p : List Nat, ys = nl p ∧ f.Nodup ∧ (∀ x, x ∈ f ↔ GF.Sp p x) ∧ f.length = 2 ^ p.length ∧ ∃ o2 o3, e = [some (.lst (nl b)), some (.lst (nl f)), o2, o3])
    ⟨[0], [], rfl, by simp, fun x => by rw [List.mem_singleton]; exact Iff.rfl, by decide, none, none, rfl⟩ (fun ys x zs e hx ⟨f, p, hp, hn, hm, hlen, o2, o3, he⟩ => by
      obtain ⟨n, hnl, rfl⟩ := mem_nl.mp (show x ∈ nl b by rw [hx]; exact List.mem_append_right _ (List.mem_cons_self ..))
      have hll := congrArg List.length hx
      rw [nl_len, List.length_append, List.length_cons, hp, nl_len] at hll
      have hpw : 2 ^ p.length ≤ 2 ^ 17 := Nat.pow_le_pow_right (by decide) (by omega)
      have hpw2 : 2 ^ (p ++ [n]).length = 2 * 2 ^ p.length := by rw [List.length_append, List.length_singleton, Nat.pow_succ]; omega
      have hfree : ¬ GF.Sp p n := by
        refine hb.free hnl fun s hs => ?_
        obtain ⟨zs', hz⟩ := nl_split (p := p) (by rw [hx, hp])
        have hnd := hb.nd
        rw [hz.2] at hnd ⊢
        refine ⟨List.mem_append_left _ hs, fun e => ?_⟩
        rw [List.nodup_append] at hnd
        exact hnd.2.2 s hs n (List.mem_cons_self ..) e
      refine ⟨_, [some (.lst (nl b)), some (.lst (nl (GF.spn f n))), some (.int n), o3], by rw [he]; rfl, .inl ?_, GF.spn f n, p ++ [n], by rw [hp, ← nl_app]; rfl, GF.spn_nodup hm hn hfree, fun x => ?_, by rw [GF.spn_len]; omega, _, _, rfl⟩
      · exact set_xor f n (some (.lst (nl b))) o3 (by omega)
      · rw [GF.spn_mem hm, (GF.sp_snoc p n x)])
  have hpl := nl_inj.mp hp
  subst hpl
  obtain ⟨c, hc, hcp, hcs⟩ := n_sorted f
  refine ⟨c, ?_, hcp.symm.nodup hn, hcs, fun x => by rw [hcp.mem_iff]; exact hm x, by rw [hcp.length_eq, hlen]⟩
  show runB true 4 1 k_span_of _ = _
  rw [e_runB (m := 1) rfl]
  show endR true (k_span_of [some (.lst (nl b)), none, none, none]) = _
  have i1 := i_itL (xs := nl b) (by rw [nl_len]; omega)
  have z : (nl b).length ≤ sizeLine := by rw [nl_len, szl]; omega
  have z1 : (1 : Nat) ≤ sizeLine := by decide
  subst he
  unfold bSpan at h1
  unfold k_span_of
  simp only [e_seq, e_th1, e_th2, e_th3, e_th4, e_th5, e_nx, e_set, e_ret, e_drop, e_thS1, e_thS2, e_if, e_thBt, e_thBf, e_thBe, e_op, e_ap2, e_bop, e_ap2B, e_un, e_ap1, e_call, e_apL, e_meth, e_apM, e_ty, e_cls, e_gd, e_fld, e_nil, e_cons, e_rcons, e_C, e_var, e_getP, e_use, e_bnd1, e_bnd2, e_bnz1, e_ofO, e_and, e_or, e_not, e_rand1, e_rand2, e_ror1, e_ror2, e_rnot, e_val, e_tru, e_tru0, e_xIf, e_riff1, e_riff2, e_lst, e_tup, e_rlst, e_rtup, e_for, e_forR, ll0, ll1, ll2, ll3, ll4, ll5, ll6, ll7, ll8, e_lc, e_lcR, e_iOf, e_iWith, e_asg, e_app, e_appR, e_end1, e_end2, e_end3, e_sl, e_slR, e_oN, e_oS, e_oR, List.getElem?_cons_zero, List.getElem?_cons_succ, List.set_cons_zero, List.set_cons_succ, List.length_cons, List.length_nil, Nat.zero_add, z1, if_true, i1, z, h1, hc]
/-! sums of all, the highest one -/
theorem sum_loop (q : Option PV) : ∀ (l : List Nat) (x : Nat) (o : Option PV), ∃ o', forL (bName 2) (sSet 1 (xOp pyBxor (xVar 1) (xVar 2))) (nl l) [q, some (.int x), o] = .nx [q, some (.int (l.foldl (fun a b => a ^^^ b) x : Nat)), o']
  | [], x, o => ⟨o, rfl⟩
  | r :: l, x, o => by
    obtain ⟨o', ih⟩ := sum_loop q l (x ^^^ r) (some (.int r))
    refine ⟨o', ?_⟩
    show forL _ _ (.int (r : Int) :: nl l) _ = _
    unfold forL
    have hb : bName 2 (.int (r : Int)) [q, some (.int (x : Int)), o] = some [q, some (.int x), some (.int r)] := rfl
    have hk : sSet 1 (xOp pyBxor (xVar 1) (xVar 2)) [q, some (.int x), some (.int r)] = .nx [q, some (.int ((x ^^^ r : Nat) : Int)), some (.int r)] := by
      simp only [e_seq, e_th1, e_th2, e_th3, e_th4, e_th5, e_nx, e_set, e_ret, e_drop, e_thS1, e_thS2, e_if, e_thBt, e_thBf, e_thBe, e_op, e_ap2, e_bop, e_ap2B, e_un, e_ap1, e_call, e_apL, e_meth, e_apM, e_ty, e_cls, e_gd, e_fld, e_nil, e_cons, e_rcons, e_C, e_var, e_getP, e_use, e_bnd1, e_bnd2, e_bnz1, e_ofO, e_and, e_or, e_not, e_rand1, e_rand2, e_ror1, e_ror2, e_rnot, e_val, e_tru, e_tru0, e_xIf, e_riff1, e_riff2, e_lst, e_tup, e_rlst, e_rtup, e_for, e_forR, ll0, ll1, ll2, ll3, ll4, ll5, ll6, ll7, ll8, e_lc, e_lcR, e_iOf, e_iWith, e_asg, e_app, e_appR, e_end1, e_end2, e_end3, e_sl, e_slR, e_oN, e_oS, e_oR, List.getElem?_cons_zero, List.getElem?_cons_succ, List.set_cons_zero, List.set_cons_succ, b_xor]
    simp only [hb, hk]
    exact ih
theorem sum_ok (l : List Nat) (hl : l.length ≤ 1000) : d_sum_of [.lst (nl l)] = .ok (.int (l.foldl (fun a b => a ^^^ b) 0 : Nat)) := by
  show runB false 3 1 k_sum_of _ = _
  rw [e_runB (m := 1) rfl]
  show endR false (k_sum_of [some (.lst (nl l)), none, none]) = _
  obtain ⟨o', h1⟩ := sum_loop (some (.lst (nl l))) l 0 none
  have i1 := i_itL (xs := nl l) (by rw [nl_len]; omega)
  have z : (nl l).length ≤ sizeLine := by rw [nl_len, szl]; omega
  unfold k_sum_of
  simp only [e_seq, e_th1, e_th2, e_th3, e_th4, e_th5, e_nx, e_set, e_ret, e_drop, e_thS1, e_thS2, e_if, e_thBt, e_thBf, e_thBe, e_op, e_ap2, e_bop, e_ap2B, e_un, e_ap1, e_call, e_apL, e_meth, e_apM, e_ty, e_cls, e_gd, e_fld, e_nil, e_cons, e_rcons, e_C, e_var, e_getP, e_use, e_bnd1, e_bnd2, e_bnz1, e_ofO, e_and, e_or, e_not, e_rand1, e_rand2, e_ror1, e_ror2, e_rnot, e_val, e_tru, e_tru0, e_xIf, e_riff1, e_riff2, e_lst, e_tup, e_rlst, e_rtup, e_for, e_forR, ll0, ll1, ll2, ll3, ll4, ll5, ll6, ll7, ll8, e_lc, e_lcR, e_iOf, e_iWith, e_asg, e_app, e_appR, e_end1, e_end2, e_end3, e_sl, e_slR, e_oN, e_oS, e_oR, List.getElem?_cons_zero, List.getElem?_cons_succ, List.set_cons_zero, List.set_cons_succ, if_true, i1, z]
  have : ((0 : Nat) : Int) = 0 := rfl
  rw [this] at h1
  simp only [e_seq, e_th1, e_th2, e_th3, e_th4, e_th5, e_nx, e_set, e_ret, e_drop, e_thS1, e_thS2, e_if, e_thBt, e_thBf, e_thBe, e_op, e_ap2, e_bop, e_ap2B, e_un, e_ap1, e_call, e_apL, e_meth, e_apM, e_ty, e_cls, e_gd, e_fld, e_nil, e_cons, e_rcons, e_C, e_var, e_getP, e_use, e_bnd1, e_bnd2, e_bnz1, e_ofO, e_and, e_or, e_not, e_rand1, e_rand2, e_ror1, e_ror2, e_rnot, e_val, e_tru, e_tru0, e_xIf, e_riff1, e_riff2, e_lst, e_tup, e_rlst, e_rtup, e_for, e_forR, ll0, ll1, ll2, ll3, ll4, ll5, ll6, ll7, ll8, e_lc, e_lcR, e_iOf, e_iWith, e_asg, e_app, e_appR, e_end1, e_end2, e_end3, e_sl, e_slR, e_oN, e_oS, e_oR, List.getElem?_cons_zero, List.getElem?_cons_succ, List.set_cons_zero, List.set_cons_succ, h1]
theorem top_loop : ∀ (n c : Nat), ∃ v, sWhile (bOp pyGt (xVar 0) (xC (.int 1))) (sSeq (sSet 0 (xOp pyShr (xVar 0) (xC (.int 1)))) (sSet 1 (xOp pyAddU (xVar 1) (xC (.int 1))))) [some (.int n), some (.int c)] = .nx [v, some (.int ((c + n.log2 : Nat) : Int))] := by
  intro n
  induction n using Nat.strongRecOn with
  | _ n ih =>
    intro c
    by_cases h : n ≤ 1
    · refine ⟨some (.int n), ?_⟩
      rw [sWhile_eq]
      have h1 : ¬ ((1 : Int) < (n : Int)) := by omega
      have h2 : n.log2 = 0 := by
        have : n = 0 ∨ n = 1 := by omega
        rcases this with rfl | rfl <;> decide
      simp only [e_seq, e_th1, e_th2, e_th3, e_th4, e_th5, e_nx, e_set, e_ret, e_drop, e_thS1, e_thS2, e_if, e_thBt, e_thBf, e_thBe, e_op, e_ap2, e_bop, e_ap2B, e_un, e_ap1, e_call, e_apL, e_meth, e_apM, e_ty, e_cls, e_gd, e_fld, e_nil, e_cons, e_rcons, e_C, e_var, e_getP, e_use, e_bnd1, e_bnd2, e_bnz1, e_ofO, e_and, e_or, e_not, e_rand1, e_rand2, e_ror1, e_ror2, e_rnot, e_val, e_tru, e_tru0, e_xIf, e_riff1, e_riff2, e_lst, e_tup, e_rlst, e_rtup, e_for, e_forR, ll0, ll1, ll2, ll3, ll4, ll5, ll6, ll7, ll8, e_lc, e_lcR, e_iOf, e_iWith, e_asg, e_app, e_appR, e_end1, e_end2, e_end3, e_sl, e_slR, e_oN, e_oS, e_oR, List.getElem?_cons_zero, List.getElem?_cons_succ, List.set_cons_zero, List.set_cons_succ, i_gt, h1, decide_false, h2, Nat.add_zero]
    · obtain ⟨v, hv⟩ := ih (n / 2) (by omega) (c + 1)
      refine ⟨v, ?_⟩
      rw [sWhile_eq]
      have h1 : (1 : Int) < (n : Int) := by omega
      have h2 : n.log2 = (n / 2).log2 + 1 := by rw [Nat.log2_def]; rw [if_pos (by omega)]
      have hs : pyShr (.int n) (.int 1) = some (.int ((n / 2 : Nat) : Int)) := by
        have := b_shr n 1
        rw [Nat.pow_one] at this
        exact this
      have e1 : (c : Int) + 1 = ((c + 1 : Nat) : Int) := by omega
      have e2 : c + n.log2 = c + 1 + (n / 2).log2 := by omega
      simp only [e_seq, e_th1, e_th2, e_th3, e_th4, e_th5, e_nx, e_set, e_ret, e_drop, e_thS1, e_thS2, e_if, e_thBt, e_thBf, e_thBe, e_op, e_ap2, e_bop, e_ap2B, e_un, e_ap1, e_call, e_apL, e_meth, e_apM, e_ty, e_cls, e_gd, e_fld, e_nil, e_cons, e_rcons, e_C, e_var, e_getP, e_use, e_bnd1, e_bnd2, e_bnz1, e_ofO, e_and, e_or, e_not, e_rand1, e_rand2, e_ror1, e_ror2, e_rnot, e_val, e_tru, e_tru0, e_xIf, e_riff1, e_riff2, e_lst, e_tup, e_rlst, e_rtup, e_for, e_forR, ll0, ll1, ll2, ll3, ll4, ll5, ll6, ll7, ll8, e_lc, e_lcR, e_iOf, e_iWith, e_asg, e_app, e_appR, e_end1, e_end2, e_end3, e_sl, e_slR, e_oN, e_oS, e_oR, List.getElem?_cons_zero, List.getElem?_cons_succ, List.set_cons_zero, List.set_cons_succ, i_gt, h1, decide_true, hs, i_add, e1, hv, e2]
theorem top_ok (n : Nat) : d__law_top [.int n] = .ok (.int (n.log2 : Nat)) := by
  show runB false 2 1 k__law_top _ = _
  rw [e_runB (m := 1) rfl]
  show endR false (k__law_top [some (.int n), none]) = _
  obtain ⟨v, h1⟩ := top_loop n 0
  rw [Nat.zero_add] at h1
  have : ((0 : Nat) : Int) = 0 := rfl
  rw [this] at h1
  unfold k__law_top
  simp only [e_seq, e_th1, e_th2, e_th3, e_th4, e_th5, e_nx, e_set, e_ret, e_drop, e_thS1, e_thS2, e_if, e_thBt, e_thBf, e_thBe, e_op, e_ap2, e_bop, e_ap2B, e_un, e_ap1, e_call, e_apL, e_meth, e_apM, e_ty, e_cls, e_gd, e_fld, e_nil, e_cons, e_rcons, e_C, e_var, e_getP, e_use, e_bnd1, e_bnd2, e_bnz1, e_ofO, e_and, e_or, e_not, e_rand1, e_rand2, e_ror1, e_ror2, e_rnot, e_val, e_tru, e_tru0, e_xIf, e_riff1, e_riff2, e_lst, e_tup, e_rlst, e_rtup, e_for, e_forR, ll0, ll1, ll2, ll3, ll4, ll5, ll6, ll7, ll8, e_lc, e_lcR, e_iOf, e_iWith, e_asg, e_app, e_appR, e_end1, e_end2, e_end3, e_sl, e_slR, e_oN, e_oS, e_oR, List.getElem?_cons_zero, List.getElem?_cons_succ, List.set_cons_zero, List.set_cons_succ, h1]
/-! drawn rows -/
theorem num_eq {p : PV} {ns : List Int} (h : IsScr p ns) (k : Int) : d__law_number [p, .int k] = .ok (.int (lawNum ns k)) := number_ok h k
def bLot : PEnv → SR := (sIf (bOp pyEq (xOp pyTake (xUse d__law_number (aCons (xLst (aCons (xVar 0) aNil)) (aCons (xOp pyAddU (xOp pyAddU (xC (.int 11)) (xOp pyMulI (xC (.int 13)) (xVar 4))) (xVar 6)) aNil))) (xC (.int 3))) (xC (.int 0))) (sSet 5 (xOp pyBor (xVar 5) (xOp pyShl (xC (.int 1)) (xVar 6)))) .nx)
def bLots : PEnv → SR := (sSeq (sSet 5 (xC (.int 0))) (sSeq (sFor (iWith pyRange1 (aCons (xVar 1) aNil)) (bName 6) (sIf (bOp pyEq (xOp pyTake (xUse d__law_number (aCons (xLst (aCons (xVar 0) aNil)) (aCons (xOp pyAddU (xOp pyAddU (xC (.int 11)) (xOp pyMulI (xC (.int 13)) (xVar 4))) (xVar 6)) aNil))) (xC (.int 3))) (xC (.int 0))) (sSet 5 (xOp pyBor (xVar 5) (xOp pyShl (xC (.int 1)) (xVar 6)))) .nx)) (sApp 3 (xVar 5))))
theorem b_shl (t : Nat) (h : t ≤ 1000000) : pyShl (.int 1) (.int t) = some (.int ((2 ^ t : Nat) : Int)) := by
  unfold pyShl fI
  simp only
  rw [if_pos ⟨by omega, by omega, by decide⟩, Int.toNat_natCast, Int.one_mul]
  congr 2
theorem lot_step (N k j : Int) (o1 o2 o3 : Option PV) (x n : Nat) (hn1 : n ≤ 1000) (hx : x < 2 ^ n) (hj : ∃ t : Nat, j = (t : Int) ∧ t < n) : ∃ y : Nat, y < 2 ^ n ∧ bLot [some (.int N), o1, o2, o3, some (.int k), some (.int x), some (.int j)] = .nx [some (.int N), o1, o2, o3, some (.int k), some (.int y), some (.int j)] := by
  obtain ⟨t, rfl, ht⟩ := hj
  have z1 : (1 : Nat) ≤ sizeLine := by decide
  have s1 : small64 13 = true := rfl
  have hn := num_eq (IsScr.lst [N]) (11 + 13 * k + (t : Int))
  rw [List.map_cons, List.map_nil] at hn
  unfold bLot
  by_cases hq : lawNum [N] (11 + 13 * k + (t : Int)) % 3 = 0
  · refine ⟨x ||| 2 ^ t, Nat.or_lt_two_pow hx (Nat.pow_lt_pow_right (by decide) ht), ?_⟩
    simp only [e_seq, e_th1, e_th2, e_th3, e_th4, e_th5, e_nx, e_set, e_ret, e_drop, e_thS1, e_thS2, e_if, e_thBt, e_thBf, e_thBe, e_op, e_ap2, e_bop, e_ap2B, e_un, e_ap1, e_call, e_apL, e_meth, e_apM, e_ty, e_cls, e_gd, e_fld, e_nil, e_cons, e_rcons, e_C, e_var, e_getP, e_use, e_bnd1, e_bnd2, e_bnz1, e_ofO, e_and, e_or, e_not, e_rand1, e_rand2, e_ror1, e_ror2, e_rnot, e_val, e_tru, e_tru0, e_xIf, e_riff1, e_riff2, e_lst, e_tup, e_rlst, e_rtup, e_for, e_forR, ll0, ll1, ll2, ll3, ll4, ll5, ll6, ll7, ll8, e_lc, e_lcR, e_iOf, e_iWith, e_asg, e_app, e_appR, e_end1, e_end2, e_end3, e_sl, e_slR, e_oN, e_oS, e_oR, List.getElem?_cons_zero, List.getElem?_cons_succ, List.set_cons_zero, List.set_cons_succ, i_sub, i_add, i_lt, i_le, i_gt, i_ge, i_mulL, i_mulR, i_mod, i_fdiv, i_int, i_intB, i_eq, i_ne, List.length_cons, List.length_nil, Nat.zero_add, z1, if_true, s1, hn, i_take (show (0 : Int) < 3 by decide) (show (3 : Int) < 1073741824 by decide), hq, decide_true, b_shl t (by omega), b_or]
  · refine ⟨x, hx, ?_⟩
    simp only [e_seq, e_th1, e_th2, e_th3, e_th4, e_th5, e_nx, e_set, e_ret, e_drop, e_thS1, e_thS2, e_if, e_thBt, e_thBf, e_thBe, e_op, e_ap2, e_bop, e_ap2B, e_un, e_ap1, e_call, e_apL, e_meth, e_apM, e_ty, e_cls, e_gd, e_fld, e_nil, e_cons, e_rcons, e_C, e_var, e_getP, e_use, e_bnd1, e_bnd2, e_bnz1, e_ofO, e_and, e_or, e_not, e_rand1, e_rand2, e_ror1, e_ror2, e_rnot, e_val, e_tru, e_tru0, e_xIf, e_riff1, e_riff2, e_lst, e_tup, e_rlst, e_rtup, e_for, e_forR, ll0, ll1, ll2, ll3, ll4, ll5, ll6, ll7, ll8, e_lc, e_lcR, e_iOf, e_iWith, e_asg, e_app, e_appR, e_end1, e_end2, e_end3, e_sl, e_slR, e_oN, e_oS, e_oR, List.getElem?_cons_zero, List.getElem?_cons_succ, List.set_cons_zero, List.set_cons_succ, i_sub, i_add, i_lt, i_le, i_gt, i_ge, i_mulL, i_mulR, i_mod, i_fdiv, i_int, i_intB, i_eq, i_ne, List.length_cons, List.length_nil, Nat.zero_add, z1, if_true, s1, hn, i_take (show (0 : Int) < 3 by decide) (show (3 : Int) < 1073741824 by decide), hq, decide_false]
theorem drawn_ok (N : Int) (size count : Nat) (hs : size ≤ 1000) (hc : count ≤ 1000) : ∃ l : List Nat, d__law_drawn_lots [.int N, .int size, .int count] = .ok (.lst (nl l)) ∧ l.length = count ∧ ∀ r ∈ l, r < 2 ^ size := by
  have r2 := i_range1 (j := (count : Int)) (by omega) (by omega)
  have r1 := i_range1 (j := (size : Int)) (by omega) (by omega)
  rw [Int.toNat_natCast] at r1 r2
  have z1 : (rangeL 0 size).length ≤ sizeLine := by rw [rangeL_len, szl]; omega
  have z2 : (rangeL 0 count).length ≤ sizeLine := by rw [rangeL_len, szl]; omega
  obtain ⟨e', h1, l, hl, hlt, o4, o5, o6, he⟩ := for_acc (f := bName 4) (k := bLots) (xs := rangeL 0 count) (e := [some (.int N), some (.int size), some (.int count), some (.lst []), none, none, none])
    (P := fun ys e => ∃ l : List Nat, l.length = ys.length ∧ (∀ r ∈ l, r < 2 ^ size) ∧ ∃ o4 o5 o6, e = [some (.int N), some (.int size), some (.int count), some (.lst (nl l)), o4, o5, o6])
    ⟨[], rfl, (fun _ h => nomatch h), none, none, none, rfl⟩ (fun ys x zs e hx ⟨l, hl, hlt, o4, o5, o6, he⟩ => by
      obtain ⟨k, hk, rfl⟩ := mem_range (x := x) (by rw [hx]; exact List.mem_append_right _ (List.mem_cons_self ..))
      have hll := congrArg List.length hx
      rw [rangeL_len, List.length_append, List.length_cons] at hll
      obtain ⟨e2, h2, y, o6', hy2, he2⟩ := for_inv (f := bName 6) (k := bLot) (xs := rangeL 0 size) (e := [some (.int N), some (.int size), some (.int count), some (.lst (nl l)), some (.int (0 + (k : Int))), some (.int 0), o6])
        (P := fun e => ∃ (y : Nat) (o6 : Option PV), y < 2 ^ size ∧ e = [some (.int N), some (.int size), some (.int count), some (.lst (nl l)), some (.int (0 + (k : Int))), some (.int y), o6])
        ⟨0, o6, Nat.two_pow_pos _, rfl⟩ (fun x e hx ⟨y, o6, hy, he⟩ => by
          obtain ⟨j, hj, rfl⟩ := mem_range hx
          obtain ⟨y', hy1, hy⟩ := lot_step N (0 + (k : Int)) (0 + (j : Int)) (some (.int size)) (some (.int count)) (some (.lst (nl l))) y size hs hy ⟨j, by omega, hj⟩
          exact ⟨_, _, by rw [he]; rfl, .inl hy, y', _, hy1, rfl⟩)
      refine ⟨_, [some (.int N), some (.int size), some (.int count), some (.lst (nl (l ++ [y]))), some (.int (0 + (k : Int))), some (.int y), o6'], by rw [he]; rfl, .inl ?_, l ++ [y], by rw [List.length_append, List.length_append, hl]; rfl, (fun r hr => by
        rcases List.mem_append.mp hr with q | q
        · exact hlt r q
        · rw [List.mem_singleton.mp q]; exact hy2), _, _, _, rfl⟩
      subst he2
      have z3 : (nl l).length < sizeLine := by rw [nl_len, szl]; omega
      show bLots [some (.int N), some (.int size), some (.int count), some (.lst (nl l)), some (.int (0 + (k : Int))), o5, o6] = _
      unfold bLot at h2
      unfold bLots
      have e3 : nl l ++ [.int (y : Int)] = nl (l ++ [y]) := by rw [← nl_app]; rfl
      simp only [e_seq, e_th1, e_th2, e_th3, e_th4, e_th5, e_nx, e_set, e_ret, e_drop, e_thS1, e_thS2, e_if, e_thBt, e_thBf, e_thBe, e_op, e_ap2, e_bop, e_ap2B, e_un, e_ap1, e_call, e_apL, e_meth, e_apM, e_ty, e_cls, e_gd, e_fld, e_nil, e_cons, e_rcons, e_C, e_var, e_getP, e_use, e_bnd1, e_bnd2, e_bnz1, e_ofO, e_and, e_or, e_not, e_rand1, e_rand2, e_ror1, e_ror2, e_rnot, e_val, e_tru, e_tru0, e_xIf, e_riff1, e_riff2, e_lst, e_tup, e_rlst, e_rtup, e_for, e_forR, ll0, ll1, ll2, ll3, ll4, ll5, ll6, ll7, ll8, e_lc, e_lcR, e_iOf, e_iWith, e_asg, e_app, e_appR, e_end1, e_end2, e_end3, e_sl, e_slR, e_oN, e_oS, e_oR, List.getElem?_cons_zero, List.getElem?_cons_succ, List.set_cons_zero, List.set_cons_succ, r1, z1, if_true, h2, z3, e3])
  rw [rangeL_len] at hl
  refine ⟨l, ?_, hl, hlt⟩
  show runB true 7 3 k__law_drawn_lots _ = _
  rw [e_runB (m := 3) rfl]
  show endR true (k__law_drawn_lots [some (.int N), some (.int size), some (.int count), none, none, none, none]) = _
  subst he
  have z0 : (0 : Nat) ≤ sizeLine := by decide
  unfold bLots at h1
  unfold k__law_drawn_lots
  simp only [e_seq, e_th1, e_th2, e_th3, e_th4, e_th5, e_nx, e_set, e_ret, e_drop, e_thS1, e_thS2, e_if, e_thBt, e_thBf, e_thBe, e_op, e_ap2, e_bop, e_ap2B, e_un, e_ap1, e_call, e_apL, e_meth, e_apM, e_ty, e_cls, e_gd, e_fld, e_nil, e_cons, e_rcons, e_C, e_var, e_getP, e_use, e_bnd1, e_bnd2, e_bnz1, e_ofO, e_and, e_or, e_not, e_rand1, e_rand2, e_ror1, e_ror2, e_rnot, e_val, e_tru, e_tru0, e_xIf, e_riff1, e_riff2, e_lst, e_tup, e_rlst, e_rtup, e_for, e_forR, ll0, ll1, ll2, ll3, ll4, ll5, ll6, ll7, ll8, e_lc, e_lcR, e_iOf, e_iWith, e_asg, e_app, e_appR, e_end1, e_end2, e_end3, e_sl, e_slR, e_oN, e_oS, e_oR, List.getElem?_cons_zero, List.getElem?_cons_succ, List.set_cons_zero, List.set_cons_succ, List.length_nil, z0, r2, z2, if_true, h1]
end Q_k07
end

section
set_option Elab.async false
set_option linter.all false
set_option maxRecDepth 100000
set_option maxHeartbeats 1000000
open PySem PySem.Spec PyProof.Rows L2
namespace Q_k07
open D
theorem i_lenL {xs : List PV} : pyLen [.lst xs] = some (.int xs.length) := nd rfl
theorem i_list {xs : List PV} : pyList [.lst xs] = some (.lst xs) := nd rfl
theorem n_ix {l : List Nat} {i a : Nat} (h : l[i]? = some a) : pyIx (.lst (nl l)) (.int (i : Int)) = some (.int a) := by
  show atI (nl l) (i : Int) = _
  refine atI_nat ?_
  unfold nl
  rw [List.getElem?_map, h]; rfl
theorem n_take1 (l : List Nat) : pySlL (.lst (nl l)) none (some 1) = some (.lst (nl (l.take 1))) := by
  show some (PV.lst (cutP (nl l) none (some 1))) = _
  unfold cutP
  have e : HT.sIx (nl l).length (nl l).length (some 1) = min 1 (nl l).length := HT.sIx_nat _ _ 1
  rw [HT.sIx_none, e, List.drop_zero, Nat.sub_zero, nl_len]
  congr 2
  unfold nl
  rw [← List.map_take]
  congr 1
  cases l with
  | nil => rfl
  | cons a l =>
    rw [Nat.min_eq_left (by simp only [List.length_cons]; omega)]
theorem n_drop1 (l : List Nat) : pySlL (.lst (nl l)) (some 1) none = some (.lst (nl (l.drop 1))) := by
  show some (PV.lst (cutP (nl l) (some 1) none)) = _
  unfold cutP
  have e : HT.sIx (nl l).length 0 (some 1) = min 1 (nl l).length := HT.sIx_nat _ _ 1
  rw [HT.sIx_none, e, nl_len]
  congr 2
  unfold nl
  rw [← List.map_drop, ← List.map_take]
  congr 1
  cases l with
  | nil => rfl
  | cons a l =>
    rw [Nat.min_eq_left (by simp only [List.length_cons]; omega), List.take_of_length_le (by simp only [List.length_drop]; omega)]
def s5 : PEnv → SR := (sIf (bOp pyGt (xCall pyLen (aCons (xVar 4) aNil)) (xC (.int 3))) (sApp 4 (xOp pyBxor (xOp pyBxor (xOp pyIx (xVar 4) (xC (.int 0))) (xOp pyIx (xVar 4) (xC (.int 1)))) (xOp pyIx (xVar 4) (xC (.int 2))))) .nx)
theorem s5_ok (a0 a1 a2 a3 a5 a6 a7 a8 a9 a10 a11 a12 a13 a14 a15 a16 : Option PV) (l : List Nat) (h : l.length ≤ 1000) (n : Nat) (hn : ∀ r ∈ l, r < 2 ^ n) : ∃ m : List Nat, l.length ≤ m.length ∧ m.length ≤ l.length + 1 ∧ (∀ r ∈ m, r < 2 ^ n) ∧
    s5 [a0, a1, a2, a3, some (.lst (nl l)), a5, a6, a7, a8, a9, a10, a11, a12, a13, a14, a15, a16] = .nx [a0, a1, a2, a3, some (.lst (nl m)), a5, a6, a7, a8, a9, a10, a11, a12, a13, a14, a15, a16] := by
  have z : (nl l).length < sizeLine := by rw [nl_len, szl]; omega
  unfold s5
  by_cases h3 : 3 < l.length
  · have h3' : (3 : Int) < ((nl l).length : Int) := by rw [nl_len]; omega
    have g0 := n_ix (l := l) (i := 0) (List.getElem?_eq_getElem (by omega))
    have g1 := n_ix (l := l) (i := 1) (List.getElem?_eq_getElem (by omega))
    have g2 := n_ix (l := l) (i := 2) (List.getElem?_eq_getElem (by omega))
    rw [show ((0 : Nat) : Int) = 0 from rfl] at g0
    rw [show ((1 : Nat) : Int) = 1 from rfl] at g1
    rw [show ((2 : Nat) : Int) = 2 from rfl] at g2
    refine ⟨l ++ [l[0] ^^^ l[1] ^^^ l[2]], by simp, by simp, (fun r hr => by
      rcases List.mem_append.mp hr with q | q
      · exact hn r q
      · rw [List.mem_singleton.mp q]
        exact Nat.xor_lt_two_pow (Nat.xor_lt_two_pow (hn _ (List.getElem_mem _)) (hn _ (List.getElem_mem _))) (hn _ (List.getElem_mem _))), ?_⟩
    have e : nl l ++ [.int ((l[0] ^^^ l[1] ^^^ l[2] : Nat) : Int)] = nl (l ++ [l[0] ^^^ l[1] ^^^ l[2]]) := by rw [← nl_app]; rfl
    simp only [e_seq, e_th1, e_th2, e_th3, e_th4, e_th5, e_nx, e_set, e_ret, e_drop, e_thS1, e_thS2, e_if, e_thBt, e_thBf, e_thBe, e_op, e_ap2, e_bop, e_ap2B, e_un, e_ap1, e_call, e_apL, e_meth, e_apM, e_ty, e_cls, e_gd, e_fld, e_nil, e_cons, e_rcons, e_C, e_var, e_getP, e_use, e_bnd1, e_bnd2, e_bnz1, e_ofO, e_and, e_or, e_not, e_rand1, e_rand2, e_ror1, e_ror2, e_rnot, e_val, e_tru, e_tru0, e_xIf, e_riff1, e_riff2, e_lst, e_tup, e_rlst, e_rtup, e_for, e_forR, ll0, ll1, ll2, ll3, ll4, ll5, ll6, ll7, ll8, e_lc, e_lcR, e_iOf, e_iWith, e_asg, e_app, e_appR, e_end1, e_end2, e_end3, e_sl, e_slR, e_oN, e_oS, e_oR, List.getElem?_cons_zero, List.getElem?_cons_succ, List.set_cons_zero, List.set_cons_succ, i_lenL, i_gt, h3', decide_true, g0, g1, g2, b_xor, z, if_true, e]
  · have h3' : ¬ (3 : Int) < ((nl l).length : Int) := by rw [nl_len]; omega
    refine ⟨l, by omega, by omega, hn, ?_⟩
    simp only [e_seq, e_th1, e_th2, e_th3, e_th4, e_th5, e_nx, e_set, e_ret, e_drop, e_thS1, e_thS2, e_if, e_thBt, e_thBf, e_thBe, e_op, e_ap2, e_bop, e_ap2B, e_un, e_ap1, e_call, e_apL, e_meth, e_apM, e_ty, e_cls, e_gd, e_fld, e_nil, e_cons, e_rcons, e_C, e_var, e_getP, e_use, e_bnd1, e_bnd2, e_bnz1, e_ofO, e_and, e_or, e_not, e_rand1, e_rand2, e_ror1, e_ror2, e_rnot, e_val, e_tru, e_tru0, e_xIf, e_riff1, e_riff2, e_lst, e_tup, e_rlst, e_rtup, e_for, e_forR, ll0, ll1, ll2, ll3, ll4, ll5, ll6, ll7, ll8, e_lc, e_lcR, e_iOf, e_iWith, e_asg, e_app, e_appR, e_end1, e_end2, e_end3, e_sl, e_slR, e_oN, e_oS, e_oR, List.getElem?_cons_zero, List.getElem?_cons_succ, List.set_cons_zero, List.set_cons_succ, i_lenL, i_gt, h3', decide_false]
/-! the highest ones of a basis -/
noncomputable def bK : PEnv → SR := (sFor (iWith pyRange1 (aCons (xCall pyLen (aCons (xVar 6) aNil)) aNil)) (bName 9) (sIf (bAnd (bOp pyNe (xVar 9) (xVar 8)) (bOp pyNe (xOp pyBand (xOp pyIx (xVar 6) (xVar 9)) (xOp pyShl (xC (.int 1)) (xUse d__law_top (aCons (xOp pyIx (xVar 6) (xVar 8)) aNil)))) (xC (.int 0)))) (sRet (xC (.bl false))) .nx))
noncomputable def bJ : PEnv → SR := (sIf (bAnd (bOp pyNe (xVar 9) (xVar 8)) (bOp pyNe (xOp pyBand (xOp pyIx (xVar 6) (xVar 9)) (xOp pyShl (xC (.int 1)) (xUse d__law_top (aCons (xOp pyIx (xVar 6) (xVar 8)) aNil)))) (xC (.int 0)))) (sRet (xC (.bl false))) .nx)
theorem bJ_ok (b : List Nat) (hb : GF.Pur b) (hz : ∀ r ∈ b, r.log2 ≤ 1000) (a0 a1 a2 a3 a4 a5 a7 a10 a11 a12 a13 a14 a15 a16 : Option PV) (k j : Nat) (hk : k < b.length) (hj : j < b.length) :
    bJ [a0, a1, a2, a3, a4, a5, some (.lst (nl b)), a7, some (.int k), some (.int j), a10, a11, a12, a13, a14, a15, a16] = .nx [a0, a1, a2, a3, a4, a5, some (.lst (nl b)), a7, some (.int k), some (.int j), a10, a11, a12, a13, a14, a15, a16] := by
  have gk := n_ix (l := b) (List.getElem?_eq_getElem hk)
  have gj := n_ix (l := b) (List.getElem?_eq_getElem hj)
  unfold bJ
  by_cases hkj : (j : Int) = (k : Int)
  · simp only [e_seq, e_th1, e_th2, e_th3, e_th4, e_th5, e_nx, e_set, e_ret, e_drop, e_thS1, e_thS2, e_if, e_thBt, e_thBf, e_thBe, e_op, e_ap2, e_bop, e_ap2B, e_un, e_ap1, e_call, e_apL, e_meth, e_apM, e_ty, e_cls, e_gd, e_fld, e_nil, e_cons, e_rcons, e_C, e_var, e_getP, e_use, e_bnd1, e_bnd2, e_bnz1, e_ofO, e_and, e_or, e_not, e_rand1, e_rand2, e_ror1, e_ror2, e_rnot, e_val, e_tru, e_tru0, e_xIf, e_riff1, e_riff2, e_lst, e_tup, e_rlst, e_rtup, e_for, e_forR, ll0, ll1, ll2, ll3, ll4, ll5, ll6, ll7, ll8, e_lc, e_lcR, e_iOf, e_iWith, e_asg, e_app, e_appR, e_end1, e_end2, e_end3, e_sl, e_slR, e_oN, e_oS, e_oR, List.getElem?_cons_zero, List.getElem?_cons_succ, List.set_cons_zero, List.set_cons_succ, i_ne, hkj, decide_true, Bool.not_true]
  · have hne : b[k] ≠ b[j] := fun e => hkj (by
      have := (List.getElem_inj hb.nd).mp e
      omega)
    have hbit := hb.pure b[k] (List.getElem_mem hk) b[j] (List.getElem_mem hj) hne
    have hs := b_shl b[k].log2 (by have := hz b[k] (List.getElem_mem hk); omega)
    have ha : b[j] &&& 2 ^ b[k].log2 = 0 := by rw [D.and_pow]; rw [hbit]; rfl
    simp only [e_seq, e_th1, e_th2, e_th3, e_th4, e_th5, e_nx, e_set, e_ret, e_drop, e_thS1, e_thS2, e_if, e_thBt, e_thBf, e_thBe, e_op, e_ap2, e_bop, e_ap2B, e_un, e_ap1, e_call, e_apL, e_meth, e_apM, e_ty, e_cls, e_gd, e_fld, e_nil, e_cons, e_rcons, e_C, e_var, e_getP, e_use, e_bnd1, e_bnd2, e_bnz1, e_ofO, e_and, e_or, e_not, e_rand1, e_rand2, e_ror1, e_ror2, e_rnot, e_val, e_tru, e_tru0, e_xIf, e_riff1, e_riff2, e_lst, e_tup, e_rlst, e_rtup, e_for, e_forR, ll0, ll1, ll2, ll3, ll4, ll5, ll6, ll7, ll8, e_lc, e_lcR, e_iOf, e_iWith, e_asg, e_app, e_appR, e_end1, e_end2, e_end3, e_sl, e_slR, e_oN, e_oS, e_oR, List.getElem?_cons_zero, List.getElem?_cons_succ, List.set_cons_zero, List.set_cons_succ, i_ne, hkj, decide_false, Bool.not_false, gk, gj, top_ok, hs, b_and, ha, Int.natCast_zero, decide_true, Bool.not_true]
theorem bK_ok (b : List Nat) (hb : GF.Pur b) (hl : b.length ≤ 1000) (hz : ∀ r ∈ b, r.log2 ≤ 1000) (a0 a1 a2 a3 a4 a5 a7 a9 a10 a11 a12 a13 a14 a15 a16 : Option PV) (k : Nat) (hk : k < b.length) : ∃ a9',
    bK [a0, a1, a2, a3, a4, a5, some (.lst (nl b)), a7, some (.int k), a9, a10, a11, a12, a13, a14, a15, a16] = .nx [a0, a1, a2, a3, a4, a5, some (.lst (nl b)), a7, some (.int k), a9', a10, a11, a12, a13, a14, a15, a16] := by
  have r1 := i_range1 (j := (b.length : Int)) (by omega) (by omega)
  rw [Int.toNat_natCast] at r1
  have z1 : (rangeL 0 b.length).length ≤ sizeLine := by rw [rangeL_len, szl]; omega
  obtain ⟨e2, h2, a9', he⟩ := for_inv (f := bName 9) (k := bJ) (xs := rangeL 0 b.length) (e := [a0, a1, a2, a3, a4, a5, some (.lst (nl b)), a7, some (.int k), a9, a10, a11, a12, a13, a14, a15, a16])
    (P := fun e => ∃ a9, e = [a0, a1, a2, a3, a4, a5, some (.lst (nl b)), a7, some (.int k), a9, a10, a11, a12, a13, a14, a15, a16]) ⟨a9, rfl⟩ (fun x e hx ⟨a9, he⟩ => by
      obtain ⟨j, hj, rfl⟩ := mem_range hx
      rw [show (0 : Int) + (j : Int) = (j : Int) by omega]
      exact ⟨_, _, by rw [he]; rfl, .inl (bJ_ok b hb hz _ _ _ _ _ _ _ _ _ _ _ _ _ _ k j hk hj), _, rfl⟩)
  refine ⟨a9', ?_⟩
  subst he
  unfold bJ at h2
  unfold bK
  simp only [e_seq, e_th1, e_th2, e_th3, e_th4, e_th5, e_nx, e_set, e_ret, e_drop, e_thS1, e_thS2, e_if, e_thBt, e_thBf, e_thBe, e_op, e_ap2, e_bop, e_ap2B, e_un, e_ap1, e_call, e_apL, e_meth, e_apM, e_ty, e_cls, e_gd, e_fld, e_nil, e_cons, e_rcons, e_C, e_var, e_getP, e_use, e_bnd1, e_bnd2, e_bnz1, e_ofO, e_and, e_or, e_not, e_rand1, e_rand2, e_ror1, e_ror2, e_rnot, e_val, e_tru, e_tru0, e_xIf, e_riff1, e_riff2, e_lst, e_tup, e_rlst, e_rtup, e_for, e_forR, ll0, ll1, ll2, ll3, ll4, ll5, ll6, ll7, ll8, e_lc, e_lcR, e_iOf, e_iWith, e_asg, e_app, e_appR, e_end1, e_end2, e_end3, e_sl, e_slR, e_oN, e_oS, e_oR, List.getElem?_cons_zero, List.getElem?_cons_succ, List.set_cons_zero, List.set_cons_succ, i_lenL, nl_len, r1, z1, if_true, h2]
/-! other rows with the same sums -/
theorem item_eq {i : Nat} {d : PEnv → Res PV} {env : PEnv} {xs : List PV} {v : PV} {k j : Nat} (h1 : env[i]? = some (some (.lst xs))) (h2 : d env = .ok (.int (k : Int))) (hk : k < xs.length) : bItem i d v env = some (env.set i (some (.lst (xs.set k v)))) := by
  unfold bItem
  rw [h1, h2]
  have : ixN xs.length (k : Int) = some k := by
    unfold ixN
    rw [if_pos (by omega), if_pos (by omega), Int.toNat_natCast]
  simp only [this, Option.map_some]
theorem nl_set (l : List Nat) (i n : Nat) : (nl l).set i (.int (n : Int)) = nl (l.set i n) := by unfold nl; rw [List.map_set]
noncomputable def bO : PEnv → SR := (sSeq (sSet 11 (xLst (aCons (xUse d__law_number (aCons (xLst (aCons (xVar 2) aNil)) (aCons (xOp pyAddU (xC (.int 200)) (xVar 8)) aNil))) aNil))) (sSeq (sSetM 12 (mTake 11 (mOf (xCall pyLen (aCons (xVar 10) aNil))))) (sSeq (sSetM 9 (mTake 11 (mOf (xCall pyLen (aCons (xVar 10) aNil))))) (sSeq (sIf (bOp pyNe (xVar 12) (xVar 9)) (sAsg (xOp pyBxor (xOp pyIx (xVar 10) (xVar 12)) (xOp pyIx (xVar 10) (xVar 9))) (bItem 10 (xVar 12))) .nx) (sSet 10 (xOp pyCat (xSl pySlL (xVar 10) (oSome (xC (.int 1))) oNone) (xSl pySlL (xVar 10) oNone (oSome (xC (.int 1))))))))))
theorem bO_ok (N : Int) (o : List Nat) (h1 : 1 ≤ o.length) (h2 : o.length ≤ 1000) (a0 a1 a3 a4 a5 a6 a7 a9 a11 a12 a13 a14 a15 a16 : Option PV) (k : Int) : ∃ (o' : List Nat) (a9' a11' a12' : Option PV), o'.length = o.length ∧ GF.Same o' o ∧
    bO [a0, a1, some (.int N), a3, a4, a5, a6, a7, some (.int k), a9, some (.lst (nl o)), a11, a12, a13, a14, a15, a16] = .nx [a0, a1, some (.int N), a3, a4, a5, a6, a7, some (.int k), a9', some (.lst (nl o')), a11', a12', a13, a14, a15, a16] := by
  have hn := num_eq (IsScr.lst [N]) (200 + k)
  rw [List.map_cons, List.map_nil] at hn
  have hx := lawNum_nn [N] (200 + k)
  generalize lawNum [N] (200 + k) = x at hn hx
  have z1 : (1 : Nat) ≤ sizeLine := by decide
  have l0 : (0 : Int) < (o.length : Int) := by omega
  have l1 : (o.length : Int) < 1073741824 := by omega
  obtain ⟨i, hi⟩ := Int.eq_ofNat_of_zero_le (Int.emod_nonneg x (show (o.length : Int) ≠ 0 by omega))
  obtain ⟨j, hj⟩ := Int.eq_ofNat_of_zero_le (Int.emod_nonneg (x / (o.length : Int)) (show (o.length : Int) ≠ 0 by omega))
  have hil : i < o.length := by have := Int.emod_lt_of_pos x l0; omega
  have hjl : j < o.length := by have := Int.emod_lt_of_pos (x / (o.length : Int)) l0; omega
  have gi := n_ix (l := o) (List.getElem?_eq_getElem hil)
  have gj := n_ix (l := o) (List.getElem?_eq_getElem hjl)
  unfold bO
  by_cases hij : i = j
  · refine ⟨o.drop 1 ++ o.take 1, some (.int j), some (.lst [.int (x / (o.length : Int) / (o.length : Int))]), some (.int i), by rw [List.length_append, List.length_drop, List.length_take]; omega, GF.same_turn o, ?_⟩
    have hcat := i_cat (a := nl (o.drop 1)) (b := nl (o.take 1)) (by rw [nl_len, nl_len, List.length_drop, List.length_take]; omega)
    rw [nl_app] at hcat
    have hij' : (i : Int) = (j : Int) := by omega
    simp only [e_seq, e_th1, e_th2, e_th3, e_th4, e_th5, e_nx, e_set, e_ret, e_drop, e_thS1, e_thS2, e_if, e_thBt, e_thBf, e_thBe, e_op, e_ap2, e_bop, e_ap2B, e_un, e_ap1, e_call, e_apL, e_meth, e_apM, e_ty, e_cls, e_gd, e_fld, e_nil, e_cons, e_rcons, e_C, e_var, e_getP, e_use, e_bnd1, e_bnd2, e_bnz1, e_ofO, e_and, e_or, e_not, e_rand1, e_rand2, e_ror1, e_ror2, e_rnot, e_val, e_tru, e_tru0, e_xIf, e_riff1, e_riff2, e_lst, e_tup, e_rlst, e_rtup, e_for, e_forR, ll0, ll1, ll2, ll3, ll4, ll5, ll6, ll7, ll8, e_lc, e_lcR, e_iOf, e_iWith, e_asg, e_app, e_appR, e_end1, e_end2, e_end3, e_sl, e_slR, e_oN, e_oS, e_oR, List.getElem?_cons_zero, List.getElem?_cons_succ, List.set_cons_zero, List.set_cons_succ, m_of, m_opt, m_op, m_then, m_nil, m_cons, m_lst, m_lstR, m_tup, m_tupR, m_gd, m_sgd, m_call, m_use, m_bool, m_take, m_isL, m_takeG, m_set, m_ret, m_nx, m_if, m_if1, m_if2, m_app, m_mapp, Option.map_some, i_sub, i_add, i_lt, i_le, i_gt, i_ge, i_mulL, i_mulR, i_mod, i_fdiv, i_int, i_intB, i_eq, i_ne, List.length_cons, List.length_nil, Nat.zero_add, z1, if_true, hn, i_lenL, nl_len, l0, l1, hi, hj, hij', decide_true, Bool.not_true, n_drop1, n_take1, hcat]
  · have hsame : GF.Same ((o.set i (o[i] ^^^ o[j])).drop 1 ++ (o.set i (o[i] ^^^ o[j])).take 1) o := (GF.same_turn _).trans (GF.same_set (List.getElem?_eq_getElem hil) (List.getElem?_eq_getElem hjl) hij)
    refine ⟨(o.set i (o[i] ^^^ o[j])).drop 1 ++ (o.set i (o[i] ^^^ o[j])).take 1, some (.int j), some (.lst [.int (x / (o.length : Int) / (o.length : Int))]), some (.int i), by rw [List.length_append, List.length_drop, List.length_take, List.length_set]; omega, hsame, ?_⟩
    have hcat := i_cat (a := nl ((o.set i (o[i] ^^^ o[j])).drop 1)) (b := nl ((o.set i (o[i] ^^^ o[j])).take 1)) (by rw [nl_len, nl_len, List.length_drop, List.length_take, List.length_set]; omega)
    rw [nl_app] at hcat
    have hij' : ¬ (i : Int) = (j : Int) := by omega
    have hitem := item_eq (i := 10) (d := xVar 12) (j := 0) (v := .int ((o[i] ^^^ o[j] : Nat) : Int)) (k := i)
      (env := [a0, a1, some (.int N), a3, a4, a5, a6, a7, some (.int k), some (.int j), some (.lst (nl o)), some (.lst [.int (x / (o.length : Int) / (o.length : Int))]), some (.int i), a13, a14, a15, a16]) rfl rfl (by rw [nl_len]; exact hil)
    rw [nl_set] at hitem
    simp only [e_seq, e_th1, e_th2, e_th3, e_th4, e_th5, e_nx, e_set, e_ret, e_drop, e_thS1, e_thS2, e_if, e_thBt, e_thBf, e_thBe, e_op, e_ap2, e_bop, e_ap2B, e_un, e_ap1, e_call, e_apL, e_meth, e_apM, e_ty, e_cls, e_gd, e_fld, e_nil, e_cons, e_rcons, e_C, e_var, e_getP, e_use, e_bnd1, e_bnd2, e_bnz1, e_ofO, e_and, e_or, e_not, e_rand1, e_rand2, e_ror1, e_ror2, e_rnot, e_val, e_tru, e_tru0, e_xIf, e_riff1, e_riff2, e_lst, e_tup, e_rlst, e_rtup, e_for, e_forR, ll0, ll1, ll2, ll3, ll4, ll5, ll6, ll7, ll8, e_lc, e_lcR, e_iOf, e_iWith, e_asg, e_app, e_appR, e_end1, e_end2, e_end3, e_sl, e_slR, e_oN, e_oS, e_oR, List.getElem?_cons_zero, List.getElem?_cons_succ, List.set_cons_zero, List.set_cons_succ, m_of, m_opt, m_op, m_then, m_nil, m_cons, m_lst, m_lstR, m_tup, m_tupR, m_gd, m_sgd, m_call, m_use, m_bool, m_take, m_isL, m_takeG, m_set, m_ret, m_nx, m_if, m_if1, m_if2, m_app, m_mapp, Option.map_some, i_sub, i_add, i_lt, i_le, i_gt, i_ge, i_mulL, i_mulR, i_mod, i_fdiv, i_int, i_intB, i_eq, i_ne, List.length_cons, List.length_nil, Nat.zero_add, z1, if_true, hn, i_lenL, nl_len, l0, l1, hi, hj, hij', decide_false, Bool.not_false, gi, gj, b_xor, e_asgR hitem, n_drop1, n_take1, hcat]
/-! rows and what is left of them -/
theorem bl_ne (a b : Bool) : tr1 pyNe (.bl a) (.bl b) = some (!(a == b)) := by
  show some (!PyData.eqv (.bool a) (.bool b)) = _
  unfold PyData.eqv
  rfl
theorem x_eqI (i j : Int) : pyEq (.int i) (.int j) = some (.bl (decide (i = j))) := by
  show some (PV.bl (PyData.eqv (.int i) (.int j))) = _
  unfold PyData.eqv
  rfl
theorem x_in (neg : Bool) (x : Nat) (l : List Nat) : pyInU neg (.int x) (.lst (nl l)) = some (.bl (if neg then !decide (x ∈ l) else decide (x ∈ l))) := by
  rw [nl_eq, l_in]
  have : decide ((x : Int) ∈ l.map fun n : Nat => (n : Int)) = decide (x ∈ l) := decide_eq_decide.mpr ⟨fun h => by
    obtain ⟨n, h1, h2⟩ := List.mem_map.mp h
    rw [← Int.ofNat_inj.mp h2]; exact h1, fun h => List.mem_map.mpr ⟨x, h, rfl⟩⟩
  rw [this]
noncomputable def bC : PEnv → SR := (sSeq (sSet 13 (xOp pyTake (xUse d__law_number (aCons (xLst (aCons (xVar 2) aNil)) (aCons (xOp pyAddU (xC (.int 300)) (xVar 8)) aNil))) (xOp pyShl (xC (.int 1)) (xVar 3)))) (sSeq (sSet 14 (xUse d_rest_of (aCons (xVar 13) (aCons (xCall pyList (aCons (xVar 6) aNil)) aNil)))) (sIf (bOr (bOp pyNe (xOp pyEq (xVar 14) (xC (.int 0))) (xOp (pyInU false) (xVar 13) (xVar 7))) (bOr (bOp (pyInU true) (xOp pyBxor (xVar 14) (xVar 13)) (xVar 7)) (bOp pyGt (xCall pyLen (aCons (xLc (iOf pyItems (xVar 6)) (bName 16) (bOp pyNe (xOp pyBand (xVar 14) (xOp pyShl (xC (.int 1)) (xUse d__law_top (aCons (xVar 16) aNil)))) (xC (.int 0))) (xVar 16) [16]) aNil)) (xC (.int 0))))) (sRet (xC (.bl false))) .nx)))
theorem bC_ok (N : Int) (size : Nat) (b s : List Nat) (hsz : size ≤ 20) (hb : GF.Pur b) (hl : b.length ≤ 1000) (hz : ∀ r ∈ b, r.log2 ≤ 1000) (hs : ∀ x, x ∈ s ↔ GF.Sp b x) (a0 a1 a4 a5 a9 a10 a11 a12 a13 a14 a15 a16 : Option PV) (k : Int) : ∃ a13' a14',
    bC [a0, a1, some (.int N), some (.int size), a4, a5, some (.lst (nl b)), some (.lst (nl s)), some (.int k), a9, a10, a11, a12, a13, a14, a15, a16] = .nx [a0, a1, some (.int N), some (.int size), a4, a5, some (.lst (nl b)), some (.lst (nl s)), some (.int k), a9, a10, a11, a12, a13', a14', a15, a16] := by
  have hn := num_eq (IsScr.lst [N]) (300 + k)
  rw [List.map_cons, List.map_nil] at hn
  generalize lawNum [N] (300 + k) = x at hn
  have z1 : (1 : Nat) ≤ sizeLine := by decide
  have hp2 : 2 ^ size ≤ 2 ^ 20 := Nat.pow_le_pow_right (by decide) hsz
  have hp0 : 0 < 2 ^ size := Nat.two_pow_pos size
  have hsh := b_shl size (by omega)
  have l0 : (0 : Int) < ((2 ^ size : Nat) : Int) := by omega
  have l1 : ((2 ^ size : Nat) : Int) < 1073741824 := by omega
  obtain ⟨row, hrow⟩ := Int.eq_ofNat_of_zero_le (Int.emod_nonneg x (show ((2 ^ size : Nat) : Int) ≠ 0 by omega))
  have htk := i_take (i := x) l0 l1
  rw [hrow] at htk
  have hr := rest_ok b row hb.nz (by omega)
  have h1 := GF.rest_zero hb row
  have h2 := GF.rest_sp b row
  have h3 := GF.rest_bits hb row
  generalize GF.rest b row = e at hr h1 h2 h3
  have q1 : (decide ((e : Int) = 0) == decide (row ∈ s)) = true := by
    have : decide ((e : Int) = 0) = decide (row ∈ s) := decide_eq_decide.mpr ⟨fun h => (hs row).mpr (h1.mp (by omega)), fun h => by have := h1.mpr ((hs row).mp h); omega⟩
    rw [this, beq_self_eq_true]
  have q2 : (e ^^^ row) ∈ s := (hs _).mpr (by rw [Nat.xor_comm]; exact h2)
  have i1 := i_itL (xs := nl b) (by rw [nl_len]; omega)
  have z2 : (nl b).length ≤ sizeLine := by rw [nl_len, szl]; omega
  have hcomp : compL (bName 16) (bOp pyNe (xOp pyBand (xVar 14) (xOp pyShl (xC (.int 1)) (xUse d__law_top (aCons (xVar 16) aNil)))) (xC (.int 0))) (xVar 16)
      [a0, a1, some (.int N), some (.int size), a4, a5, some (.lst (nl b)), some (.lst (nl s)), some (.int k), a9, a10, a11, a12, some (.int row), some (.int e), a15, none] (nl b) = .ok (nl []) := by
    rw [comp_nl (p := fun _ => false) (g := id)]
    · rw [List.filter_eq_nil_iff.mpr fun _ _ => by simp]; rfl
    · intro n hn
      refine ⟨[a0, a1, some (.int N), some (.int size), a4, a5, some (.lst (nl b)), some (.lst (nl s)), some (.int k), a9, a10, a11, a12, some (.int row), some (.int e), a15, some (.int n)], rfl, ?_, fun h => by cases h⟩
      have hs2 := b_shl n.log2 (by have := hz n hn; omega)
      have ha : e &&& 2 ^ n.log2 = 0 := by rw [D.and_pow, h3 n hn]; rfl
      simp only [e_seq, e_th1, e_th2, e_th3, e_th4, e_th5, e_nx, e_set, e_ret, e_drop, e_thS1, e_thS2, e_if, e_thBt, e_thBf, e_thBe, e_op, e_ap2, e_bop, e_ap2B, e_un, e_ap1, e_call, e_apL, e_meth, e_apM, e_ty, e_cls, e_gd, e_fld, e_nil, e_cons, e_rcons, e_C, e_var, e_getP, e_use, e_bnd1, e_bnd2, e_bnz1, e_ofO, e_and, e_or, e_not, e_rand1, e_rand2, e_ror1, e_ror2, e_rnot, e_val, e_tru, e_tru0, e_xIf, e_riff1, e_riff2, e_lst, e_tup, e_rlst, e_rtup, e_for, e_forR, ll0, ll1, ll2, ll3, ll4, ll5, ll6, ll7, ll8, e_lc, e_lcR, e_iOf, e_iWith, e_asg, e_app, e_appR, e_end1, e_end2, e_end3, e_sl, e_slR, e_oN, e_oS, e_oR, List.getElem?_cons_zero, List.getElem?_cons_succ, List.set_cons_zero, List.set_cons_succ, i_ne, top_ok, hs2, b_and, ha, Int.natCast_zero, decide_true, Bool.not_true]
  have hz0 : ¬ ((0 : Int) < ((nl []).length : Int)) := by decide
  refine ⟨some (.int row), some (.int e), ?_⟩
  unfold bC
  simp only [e_seq, e_th1, e_th2, e_th3, e_th4, e_th5, e_nx, e_set, e_ret, e_drop, e_thS1, e_thS2, e_if, e_thBt, e_thBf, e_thBe, e_op, e_ap2, e_bop, e_ap2B, e_un, e_ap1, e_call, e_apL, e_meth, e_apM, e_ty, e_cls, e_gd, e_fld, e_nil, e_cons, e_rcons, e_C, e_var, e_getP, e_use, e_bnd1, e_bnd2, e_bnz1, e_ofO, e_and, e_or, e_not, e_rand1, e_rand2, e_ror1, e_ror2, e_rnot, e_val, e_tru, e_tru0, e_xIf, e_riff1, e_riff2, e_lst, e_tup, e_rlst, e_rtup, e_for, e_forR, ll0, ll1, ll2, ll3, ll4, ll5, ll6, ll7, ll8, e_lc, e_lcR, e_iOf, e_iWith, e_asg, e_app, e_appR, e_end1, e_end2, e_end3, e_sl, e_slR, e_oN, e_oS, e_oR, List.getElem?_cons_zero, List.getElem?_cons_succ, List.set_cons_zero, List.set_cons_succ, i_sub, i_add, i_lt, i_le, i_gt, i_ge, i_mulL, i_mulR, i_mod, i_fdiv, i_int, i_intB, i_eq, i_ne, List.length_cons, List.length_nil, Nat.zero_add, z1, if_true, hn, hsh, htk, i_list, hr, x_eqI, x_in, bl_ne, q1, Bool.not_true, b_xor, n_in, q2, decide_true, i1, z2, wipeE, hcomp, i_lenL, hz0, decide_false, Bool.false_eq_true, if_false]
theorem tot_loop (a0 a1 a2 a3 a4 a5 a6 a7 a8 a9 a10 a11 a12 a14 a16 : Option PV) : ∀ (l : List Nat) (x : Nat) (a13 : Option PV), ∃ a13', forL (bName 13) (sSet 15 (xOp pyBxor (xVar 15) (xVar 13))) (nl l) [a0, a1, a2, a3, a4, a5, a6, a7, a8, a9, a10, a11, a12, a13, a14, some (.int x), a16] =
    .nx [a0, a1, a2, a3, a4, a5, a6, a7, a8, a9, a10, a11, a12, a13', a14, some (.int (l.foldl (fun a b => a ^^^ b) x : Nat)), a16]
  | [], x, o => ⟨o, rfl⟩
  | r :: l, x, o => by
    obtain ⟨o', ih⟩ := tot_loop a0 a1 a2 a3 a4 a5 a6 a7 a8 a9 a10 a11 a12 a14 a16 l (x ^^^ r) (some (.int r))
    refine ⟨o', ?_⟩
    show forL _ _ (.int (r : Int) :: nl l) _ = _
    unfold forL
    have hb : bName 13 (.int (r : Int)) [a0, a1, a2, a3, a4, a5, a6, a7, a8, a9, a10, a11, a12, o, a14, some (.int x), a16] = some [a0, a1, a2, a3, a4, a5, a6, a7, a8, a9, a10, a11, a12, some (.int r), a14, some (.int x), a16] := rfl
    have hk : sSet 15 (xOp pyBxor (xVar 15) (xVar 13)) [a0, a1, a2, a3, a4, a5, a6, a7, a8, a9, a10, a11, a12, some (.int r), a14, some (.int x), a16] = .nx [a0, a1, a2, a3, a4, a5, a6, a7, a8, a9, a10, a11, a12, some (.int r), a14, some (.int ((x ^^^ r : Nat) : Int)), a16] := by
      simp only [e_seq, e_th1, e_th2, e_th3, e_th4, e_th5, e_nx, e_set, e_ret, e_drop, e_thS1, e_thS2, e_if, e_thBt, e_thBf, e_thBe, e_op, e_ap2, e_bop, e_ap2B, e_un, e_ap1, e_call, e_apL, e_meth, e_apM, e_ty, e_cls, e_gd, e_fld, e_nil, e_cons, e_rcons, e_C, e_var, e_getP, e_use, e_bnd1, e_bnd2, e_bnz1, e_ofO, e_and, e_or, e_not, e_rand1, e_rand2, e_ror1, e_ror2, e_rnot, e_val, e_tru, e_tru0, e_xIf, e_riff1, e_riff2, e_lst, e_tup, e_rlst, e_rtup, e_for, e_forR, ll0, ll1, ll2, ll3, ll4, ll5, ll6, ll7, ll8, e_lc, e_lcR, e_iOf, e_iWith, e_asg, e_app, e_appR, e_end1, e_end2, e_end3, e_sl, e_slR, e_oN, e_oS, e_oR, List.getElem?_cons_zero, List.getElem?_cons_succ, List.set_cons_zero, List.set_cons_succ, b_xor]
    simp only [hb, hk]
    exact ih
end Q_k07
end

section
set_option Elab.async false
set_option linter.all false
set_option maxRecDepth 100000
set_option maxHeartbeats 2000000
open PySem PySem.Spec PyProof.Rows L2
namespace Q_k07
open D
noncomputable def bT : PEnv → SR := (sSeq (sSet 2 (xUse d__law_number (aCons (xVar 0) (aCons (xVar 1) aNil)))) (sSeq (sSet 3 (xOp pyAddU (xC (.int 1)) (xOp pyTake (xVar 2) (xC (.int 10))))) (sSeq (sSet 4 (xUse d__law_drawn_lots (aCons (xVar 2) (aCons (xVar 3) (aCons (xOp pyTake (xUse d__law_number (aCons (xLst (aCons (xVar 2) aNil)) (aCons (xC (.int 1)) aNil))) (xC (.int 7))) aNil))))) (sSeq (sSet 4 (xOp pyCat (xOp pyCat (xVar 4) (xSl pySlL (xVar 4) oNone (oSome (xC (.int 1))))) (xLst (aCons (xC (.int 0)) aNil)))) (sSeq (sIf (bOp pyGt (xCall pyLen (aCons (xVar 4) aNil)) (xC (.int 3))) (sApp 4 (xOp pyBxor (xOp pyBxor (xOp pyIx (xVar 4) (xC (.int 0))) (xOp pyIx (xVar 4) (xC (.int 1)))) (xOp pyIx (xVar 4) (xC (.int 2))))) .nx) (sSeq (sSet 5 (xCall pyList (aCons (xVar 4) aNil))) (sSeq (sSet 6 (xUse d_reduced (aCons (xVar 5) aNil))) (sSeq (sSet 7 (xUse d__law_span (aCons (xVar 4) aNil))) (sSeq (sIf (bOr (bOp pyNe (xVar 5) (xVar 4)) (bOr (bOp pyNe (xVar 6) (xCall pySortedR (aCons (xVar 6) aNil))) (bOr (bOp (pyInU false) (xC (.int 0)) (xVar 6)) (bOp pyNe (xCall pyLen (aCons (xVar 7) aNil)) (xOp pyShl (xC (.int 1)) (xCall pyLen (aCons (xVar 6) aNil))))))) (sRet (xC (.bl false))) .nx) (sSeq (sFor (iWith pyRange1 (aCons (xCall pyLen (aCons (xVar 6) aNil)) aNil)) (bName 8) (sFor (iWith pyRange1 (aCons (xCall pyLen (aCons (xVar 6) aNil)) aNil)) (bName 9) (sIf (bAnd (bOp pyNe (xVar 9) (xVar 8)) (bOp pyNe (xOp pyBand (xOp pyIx (xVar 6) (xVar 9)) (xOp pyShl (xC (.int 1)) (xUse d__law_top (aCons (xOp pyIx (xVar 6) (xVar 8)) aNil)))) (xC (.int 0)))) (sRet (xC (.bl false))) .nx))) (sSeq (sIf (bOr (bOp pyNe (xUse d_span_of (aCons (xCall pyList (aCons (xVar 6) aNil)) aNil)) (xVar 7)) (bOp pyNe (xUse d__law_span (aCons (xVar 6) aNil)) (xVar 7))) (sRet (xC (.bl false))) .nx) (sSeq (sSet 10 (xCall pyList (aCons (xVar 4) aNil))) (sSeq (sFor (iWith pyRange1 (aCons (xC (.int 6)) aNil)) (bName 8) (sSeq (sSet 11 (xLst (aCons (xUse d__law_number (aCons (xLst (aCons (xVar 2) aNil)) (aCons (xOp pyAddU (xC (.int 200)) (xVar 8)) aNil))) aNil))) (sSeq (sSetM 12 (mTake 11 (mOf (xCall pyLen (aCons (xVar 10) aNil))))) (sSeq (sSetM 9 (mTake 11 (mOf (xCall pyLen (aCons (xVar 10) aNil))))) (sSeq (sIf (bOp pyNe (xVar 12) (xVar 9)) (sAsg (xOp pyBxor (xOp pyIx (xVar 10) (xVar 12)) (xOp pyIx (xVar 10) (xVar 9))) (bItem 10 (xVar 12))) .nx) (sSet 10 (xOp pyCat (xSl pySlL (xVar 10) (oSome (xC (.int 1))) oNone) (xSl pySlL (xVar 10) oNone (oSome (xC (.int 1))))))))))) (sSeq (sIf (bOp pyNe (xUse d_reduced (aCons (xCall pyList (aCons (xVar 10) aNil)) aNil)) (xVar 6)) (sRet (xC (.bl false))) .nx) (sSeq (sFor (iWith pyRange1 (aCons (xC (.int 20)) aNil)) (bName 8) (sSeq (sSet 13 (xOp pyTake (xUse d__law_number (aCons (xLst (aCons (xVar 2) aNil)) (aCons (xOp pyAddU (xC (.int 300)) (xVar 8)) aNil))) (xOp pyShl (xC (.int 1)) (xVar 3)))) (sSeq (sSet 14 (xUse d_rest_of (aCons (xVar 13) (aCons (xCall pyList (aCons (xVar 6) aNil)) aNil)))) (sIf (bOr (bOp pyNe (xOp pyEq (xVar 14) (xC (.int 0))) (xOp (pyInU false) (xVar 13) (xVar 7))) (bOr (bOp (pyInU true) (xOp pyBxor (xVar 14) (xVar 13)) (xVar 7)) (bOp pyGt (xCall pyLen (aCons (xLc (iOf pyItems (xVar 6)) (bName 16) (bOp pyNe (xOp pyBand (xVar 14) (xOp pyShl (xC (.int 1)) (xUse d__law_top (aCons (xVar 16) aNil)))) (xC (.int 0))) (xVar 16) [16]) aNil)) (xC (.int 0))))) (sRet (xC (.bl false))) .nx)))) (sSeq (sSet 15 (xC (.int 0))) (sSeq (sFor (iOf pyItems (xVar 4)) (bName 13) (sSet 15 (xOp pyBxor (xVar 15) (xVar 13)))) (sIf (bOr (bOp pyNe (xUse d_sum_of (aCons (xCall pyList (aCons (xVar 4) aNil)) aNil)) (xVar 15)) (bOp pyNe (xUse d_sum_of (aCons (xLst aNil) aNil)) (xC (.int 0)))) (sRet (xC (.bl false))) .nx))))))))))))))))))
noncomputable def bTs : PEnv → SR := (sSeq (sSet 2 (xUse d__law_number (aCons (xVar 0) (aCons (xVar 1) aNil)))) (sSeq (sSet 3 (xOp pyAddU (xC (.int 1)) (xOp pyTake (xVar 2) (xC (.int 10))))) (sSeq (sSet 4 (xUse d__law_drawn_lots (aCons (xVar 2) (aCons (xVar 3) (aCons (xOp pyTake (xUse d__law_number (aCons (xLst (aCons (xVar 2) aNil)) (aCons (xC (.int 1)) aNil))) (xC (.int 7))) aNil))))) (sSeq (sSet 4 (xOp pyCat (xOp pyCat (xVar 4) (xSl pySlL (xVar 4) oNone (oSome (xC (.int 1))))) (xLst (aCons (xC (.int 0)) aNil)))) (sSeq s5 (sSeq (sSet 5 (xCall pyList (aCons (xVar 4) aNil))) (sSeq (sSet 6 (xUse d_reduced (aCons (xVar 5) aNil))) (sSeq (sSet 7 (xUse d__law_span (aCons (xVar 4) aNil))) (sSeq (sIf (bOr (bOp pyNe (xVar 5) (xVar 4)) (bOr (bOp pyNe (xVar 6) (xCall pySortedR (aCons (xVar 6) aNil))) (bOr (bOp (pyInU false) (xC (.int 0)) (xVar 6)) (bOp pyNe (xCall pyLen (aCons (xVar 7) aNil)) (xOp pyShl (xC (.int 1)) (xCall pyLen (aCons (xVar 6) aNil))))))) (sRet (xC (.bl false))) .nx) (sSeq (sFor (iWith pyRange1 (aCons (xCall pyLen (aCons (xVar 6) aNil)) aNil)) (bName 8) (sFor (iWith pyRange1 (aCons (xCall pyLen (aCons (xVar 6) aNil)) aNil)) (bName 9) (sIf (bAnd (bOp pyNe (xVar 9) (xVar 8)) (bOp pyNe (xOp pyBand (xOp pyIx (xVar 6) (xVar 9)) (xOp pyShl (xC (.int 1)) (xUse d__law_top (aCons (xOp pyIx (xVar 6) (xVar 8)) aNil)))) (xC (.int 0)))) (sRet (xC (.bl false))) .nx))) (sSeq (sIf (bOr (bOp pyNe (xUse d_span_of (aCons (xCall pyList (aCons (xVar 6) aNil)) aNil)) (xVar 7)) (bOp pyNe (xUse d__law_span (aCons (xVar 6) aNil)) (xVar 7))) (sRet (xC (.bl false))) .nx) (sSeq (sSet 10 (xCall pyList (aCons (xVar 4) aNil))) (sSeq (sFor (iWith pyRange1 (aCons (xC (.int 6)) aNil)) (bName 8) (sSeq (sSet 11 (xLst (aCons (xUse d__law_number (aCons (xLst (aCons (xVar 2) aNil)) (aCons (xOp pyAddU (xC (.int 200)) (xVar 8)) aNil))) aNil))) (sSeq (sSetM 12 (mTake 11 (mOf (xCall pyLen (aCons (xVar 10) aNil))))) (sSeq (sSetM 9 (mTake 11 (mOf (xCall pyLen (aCons (xVar 10) aNil))))) (sSeq (sIf (bOp pyNe (xVar 12) (xVar 9)) (sAsg (xOp pyBxor (xOp pyIx (xVar 10) (xVar 12)) (xOp pyIx (xVar 10) (xVar 9))) (bItem 10 (xVar 12))) .nx) (sSet 10 (xOp pyCat (xSl pySlL (xVar 10) (oSome (xC (.int 1))) oNone) (xSl pySlL (xVar 10) oNone (oSome (xC (.int 1))))))))))) (sSeq (sIf (bOp pyNe (xUse d_reduced (aCons (xCall pyList (aCons (xVar 10) aNil)) aNil)) (xVar 6)) (sRet (xC (.bl false))) .nx) (sSeq (sFor (iWith pyRange1 (aCons (xC (.int 20)) aNil)) (bName 8) (sSeq (sSet 13 (xOp pyTake (xUse d__law_number (aCons (xLst (aCons (xVar 2) aNil)) (aCons (xOp pyAddU (xC (.int 300)) (xVar 8)) aNil))) (xOp pyShl (xC (.int 1)) (xVar 3)))) (sSeq (sSet 14 (xUse d_rest_of (aCons (xVar 13) (aCons (xCall pyList (aCons (xVar 6) aNil)) aNil)))) (sIf (bOr (bOp pyNe (xOp pyEq (xVar 14) (xC (.int 0))) (xOp (pyInU false) (xVar 13) (xVar 7))) (bOr (bOp (pyInU true) (xOp pyBxor (xVar 14) (xVar 13)) (xVar 7)) (bOp pyGt (xCall pyLen (aCons (xLc (iOf pyItems (xVar 6)) (bName 16) (bOp pyNe (xOp pyBand (xVar 14) (xOp pyShl (xC (.int 1)) (xUse d__law_top (aCons (xVar 16) aNil)))) (xC (.int 0))) (xVar 16) [16]) aNil)) (xC (.int 0))))) (sRet (xC (.bl false))) .nx)))) (sSeq (sSet 15 (xC (.int 0))) (sSeq (sFor (iOf pyItems (xVar 4)) (bName 13) (sSet 15 (xOp pyBxor (xVar 15) (xVar 13)))) (sIf (bOr (bOp pyNe (xUse d_sum_of (aCons (xCall pyList (aCons (xVar 4) aNil)) aNil)) (xVar 15)) (bOp pyNe (xUse d_sum_of (aCons (xLst aNil) aNil)) (xC (.int 0)))) (sRet (xC (.bl false))) .nx))))))))))))))))))
theorem bT_eq : bT = bTs := rfl
def E17 (ns : List Int) (e : PEnv) : Prop := ∃ a1 a2 a3 a4 a5 a6 a7 a8 a9 a10 a11 a12 a13 a14 a15 a16, e = [some (.scr ns), a1, a2, a3, a4, a5, a6, a7, a8, a9, a10, a11, a12, a13, a14, a15, a16]
theorem bT_ok (ns : List Int) (k : Int) (a2 a3 a4 a5 a6 a7 a8 a9 a10 a11 a12 a13 a14 a15 a16 : Option PV) : ∃ e2, bT [some (.scr ns), some (.int k), a2, a3, a4, a5, a6, a7, a8, a9, a10, a11, a12, a13, a14, a15, a16] = .nx e2 ∧ E17 ns e2 := by
  have hN := lawNum_nn ns k
  have n1 := num_eq (.scr ns) k
  generalize lawNum ns k = N at hN n1
  have n2 := num_eq (IsScr.lst [N]) 1
  rw [List.map_cons, List.map_nil] at n2
  have hM := lawNum_nn [N] 1
  generalize lawNum [N] 1 = M at hM n2
  -- the size and how many rows
  obtain ⟨size, hsz⟩ := Int.eq_ofNat_of_zero_le (show 0 ≤ 1 + N % 10 by omega)
  have hs10 : size ≤ 10 := by omega
  obtain ⟨cnt, hcnt⟩ := Int.eq_ofNat_of_zero_le (show 0 ≤ M % 7 by omega)
  have hc6 : cnt ≤ 6 := by omega
  have t1 := i_take (i := N) (show (0 : Int) < 10 by decide) (show (10 : Int) < 1073741824 by decide)
  have t2 := i_take (i := M) (show (0 : Int) < 7 by decide) (show (7 : Int) < 1073741824 by decide)
  rw [hcnt] at t2
  -- the rows
  obtain ⟨l0, hd, hl0, hlt0⟩ := drawn_ok N size cnt (by omega) (by omega)
  have c1 := i_cat (a := nl l0) (b := nl (l0.take 1)) (by rw [nl_len, nl_len, List.length_take]; omega)
  rw [nl_app] at c1
  have c2 : pyCat (.lst (nl (l0 ++ l0.take 1))) (.lst [.int 0]) = some (.lst (nl (l0 ++ l0.take 1 ++ [0]))) := by
    have := i_cat (a := nl (l0 ++ l0.take 1)) (b := nl [0]) (by rw [nl_len, nl_len, List.length_append, List.length_take]; simp only [List.length_cons, List.length_nil]; omega)
    rw [nl_app] at this
    exact this
  have hl1 : (l0 ++ l0.take 1 ++ [0]).length ≤ 8 ∧ 1 ≤ (l0 ++ l0.take 1 ++ [0]).length := by rw [List.length_append, List.length_append, List.length_take]; simp only [List.length_cons, List.length_nil]; omega
  have hlt1 : ∀ r ∈ l0 ++ l0.take 1 ++ [0], r < 2 ^ size := fun r hr => by
    rcases List.mem_append.mp hr with hr | hr
    · rcases List.mem_append.mp hr with hr | hr
      · exact hlt0 r hr
      · exact hlt0 r (List.mem_of_mem_take hr)
    · rw [List.mem_singleton.mp hr]; exact Nat.two_pow_pos _
  generalize l0 ++ l0.take 1 ++ [0] = l1 at c2 hl1 hlt1
  obtain ⟨l, hl2, hl3, hlt, h5⟩ := s5_ok (some (.scr ns)) (some (.int k)) (some (.int N)) (some (.int size)) a5 a6 a7 a8 a9 a10 a11 a12 a13 a14 a15 a16 l1 (by omega) size hlt1
  -- the basis
  obtain ⟨b, hb, hred, hsame, hbl⟩ := reduced_ok l (by omega)
  have hbz : ∀ r ∈ b, r.log2 ≤ 1000 := fun r hr => by
    have h1 := GF.sp_lt hlt ((hsame r).mp (GF.sp_mem hr))
    have := (Nat.log2_lt (hred.pur.nz r hr)).mpr h1
    omega
  -- the sums
  obtain ⟨s, hs, snd, srt, smem⟩ := lspan_ok l (by omega)
  obtain ⟨s2, hs2, snd2, srt2, smem2, slen2⟩ := span_ok b hred.pur (by omega)
  obtain ⟨s3, hs3, snd3, srt3, smem3⟩ := lspan_ok b (by omega)
  have e2 : s2 = s := rise_unique snd2 snd srt2 srt fun x => by rw [smem2, smem, hsame x]
  have e3 : s3 = s := rise_unique snd3 snd srt3 srt fun x => by rw [smem3, smem, hsame x]
  subst e2
  rw [e3] at hs3
  have smem' : ∀ x, x ∈ s2 ↔ GF.Sp b x := smem2
  -- sorted
  obtain ⟨c, hc, hcp, hcs⟩ := n_sortedR b
  have ec : c = b := GF.desc_unique ((hcs.and (hcp.symm.nodup hred.pur.nd)).imp fun h => by have := h.1; have := h.2; omega) hred.desc fun x => hcp.mem_iff
  rw [ec] at hc
  have f1 := n_ne l l
  rw [decide_eq_true rfl] at f1
  have f2 := n_ne b b
  rw [decide_eq_true rfl] at f2
  have f3 := n_in false 0 b
  rw [show ((0 : Nat) : Int) = 0 from rfl, decide_eq_false (fun h => hred.pur.nz 0 h rfl)] at f3
  have f4 := b_shl b.length (by omega)
  have f5 : ((s2.length : Int) = ((2 ^ b.length : Nat) : Int)) = True := eq_true (by rw [slen2])
  have f6 := n_ne s2 s2
  rw [decide_eq_true rfl] at f6
  -- the loops
  have r1 := i_range1 (j := (b.length : Int)) (by omega) (by omega)
  rw [Int.toNat_natCast] at r1
  have z1 : (rangeL 0 b.length).length ≤ sizeLine := by rw [rangeL_len, szl]; omega
  obtain ⟨e1, h1, a8', a9', he1⟩ := for_inv (f := bName 8) (k := bK) (xs := rangeL 0 b.length) (e := [some (.scr ns), some (.int k), some (.int N), some (.int size), some (.lst (nl l)), some (.lst (nl l)), some (.lst (nl b)), some (.lst (nl s2)), a8, a9, a10, a11, a12, a13, a14, a15, a16])
    (P := fun e => ∃ a8 a9, e = [some (.scr ns), some (.int k), some (.int N), some (.int size), some (.lst (nl l)), some (.lst (nl l)), some (.lst (nl b)), some (.lst (nl s2)), a8, a9, a10, a11, a12, a13, a14, a15, a16]) ⟨_, _, rfl⟩ (fun x e hx ⟨a8, a9, he⟩ => by
      obtain ⟨j, hj, rfl⟩ := mem_range hx
      rw [show (0 : Int) + (j : Int) = (j : Int) by omega]
      obtain ⟨a9', hk⟩ := bK_ok b hred.pur (by omega) hbz (some (.scr ns)) (some (.int k)) (some (.int N)) (some (.int size)) (some (.lst (nl l))) (some (.lst (nl l))) (some (.lst (nl s2))) a9 a10 a11 a12 a13 a14 a15 a16 j hj
      exact ⟨_, _, by rw [he]; rfl, .inl hk, _, _, rfl⟩)
  subst he1
  have r6 : pyRange1 [.int 6] = some (rangeL 0 6) := rfl
  have z6 : (rangeL 0 6).length ≤ sizeLine := by rw [rangeL_len, szl]; omega
  obtain ⟨e4, h4, o, a8', a9'', a11', a12', ho, hso, he4⟩ := for_inv (f := bName 8) (k := bO) (xs := rangeL 0 6) (e := [some (.scr ns), some (.int k), some (.int N), some (.int size), some (.lst (nl l)), some (.lst (nl l)), some (.lst (nl b)), some (.lst (nl s2)), a8', a9', some (.lst (nl l)), a11, a12, a13, a14, a15, a16])
    (P := fun e => ∃ (o : List Nat) (a8 a9 a11 a12 : Option PV), o.length = l.length ∧ GF.Same o l ∧ e = [some (.scr ns), some (.int k), some (.int N), some (.int size), some (.lst (nl l)), some (.lst (nl l)), some (.lst (nl b)), some (.lst (nl s2)), a8, a9, some (.lst (nl o)), a11, a12, a13, a14, a15, a16]) ⟨l, _, _, _, _, rfl, GF.Same.refl _, rfl⟩ (fun x e hx ⟨o, a8, a9, a11, a12, ho, hso, he⟩ => by
      obtain ⟨j, hj, rfl⟩ := mem_range hx
      obtain ⟨o', a9', a11', a12', ho', hso', hk⟩ := bO_ok N o (by omega) (by omega) (some (.scr ns)) (some (.int k)) (some (.int size)) (some (.lst (nl l))) (some (.lst (nl l))) (some (.lst (nl b))) (some (.lst (nl s2))) a9 a11 a12 a13 a14 a15 a16 (0 + (j : Int))
      exact ⟨_, _, by rw [he]; rfl, .inl hk, o', _, _, _, _, by omega, hso'.trans hso, rfl⟩)
  subst he4
  obtain ⟨b2, hb2, hred2, hsame2, hbl2⟩ := reduced_ok o (by omega)
  have eb : b2 = b := hred2.unique hred (hsame2.trans (hso.trans hsame.symm))
  rw [eb] at hb2
  have r20 : pyRange1 [.int 20] = some (rangeL 0 20) := rfl
  have z20 : (rangeL 0 20).length ≤ sizeLine := by rw [rangeL_len, szl]; omega
  obtain ⟨e5, h5', a8'', a13', a14', he5⟩ := for_inv (f := bName 8) (k := bC) (xs := rangeL 0 20) (e := [some (.scr ns), some (.int k), some (.int N), some (.int size), some (.lst (nl l)), some (.lst (nl l)), some (.lst (nl b)), some (.lst (nl s2)), a8', a9'', some (.lst (nl o)), a11', a12', a13, a14, a15, a16])
    (P := fun e => ∃ a8 a13 a14, e = [some (.scr ns), some (.int k), some (.int N), some (.int size), some (.lst (nl l)), some (.lst (nl l)), some (.lst (nl b)), some (.lst (nl s2)), a8, a9'', some (.lst (nl o)), a11', a12', a13, a14, a15, a16]) ⟨_, _, _, rfl⟩ (fun x e hx ⟨a8, a13, a14, he⟩ => by
      obtain ⟨j, hj, rfl⟩ := mem_range hx
      obtain ⟨a13', a14', hk⟩ := bC_ok N size b s2 (by omega) hred.pur (by omega) hbz smem' (some (.scr ns)) (some (.int k)) (some (.lst (nl l))) (some (.lst (nl l))) a9'' (some (.lst (nl o))) a11' a12' a13 a14 a15 a16 (0 + (j : Int))
      exact ⟨_, _, by rw [he]; rfl, .inl hk, _, _, _, rfl⟩)
  subst he5
  obtain ⟨a13'', h6⟩ := tot_loop (some (.scr ns)) (some (.int k)) (some (.int N)) (some (.int size)) (some (.lst (nl l))) (some (.lst (nl l))) (some (.lst (nl b))) (some (.lst (nl s2))) a8'' a9'' (some (.lst (nl o))) a11' a12' a14' a16 l 0 a13'
  rw [show ((0 : Nat) : Int) = 0 from rfl] at h6
  have g1 := sum_ok l (by omega)
  have g2 : d_sum_of [.lst []] = .ok (.int 0) := sum_ok [] (by decide)
  have il := i_itL (xs := nl l) (by rw [nl_len]; omega)
  have zl : l.length ≤ sizeLine := by rw [szl]; omega
  have z0 : (0 : Nat) ≤ sizeLine := by decide
  have zz : (1 : Nat) ≤ sizeLine := by decide
  refine ⟨_, ?_, some (.int k), some (.int N), some (.int size), some (.lst (nl l)), some (.lst (nl l)), some (.lst (nl b)), some (.lst (nl s2)), a8'', a9'', some (.lst (nl o)), a11', a12', a13'', a14', some (.int ((l.foldl (fun a b => a ^^^ b) 0 : Nat) : Int)), a16, rfl⟩
  unfold bK at h1
  unfold bO at h4
  unfold bC at h5'
  rw [bT_eq]
  unfold bTs
  simp only [e_seq, e_th1, e_th2, e_th3, e_th4, e_th5, e_nx, e_set, e_ret, e_drop, e_thS1, e_thS2, e_if, e_thBt, e_thBf, e_thBe, e_op, e_ap2, e_bop, e_ap2B, e_un, e_ap1, e_call, e_apL, e_meth, e_apM, e_ty, e_cls, e_gd, e_fld, e_nil, e_cons, e_rcons, e_C, e_var, e_getP, e_use, e_bnd1, e_bnd2, e_bnz1, e_ofO, e_and, e_or, e_not, e_rand1, e_rand2, e_ror1, e_ror2, e_rnot, e_val, e_tru, e_tru0, e_xIf, e_riff1, e_riff2, e_lst, e_tup, e_rlst, e_rtup, e_for, e_forR, ll0, ll1, ll2, ll3, ll4, ll5, ll6, ll7, ll8, e_lc, e_lcR, e_iOf, e_iWith, e_asg, e_app, e_appR, e_end1, e_end2, e_end3, e_sl, e_slR, e_oN, e_oS, e_oR, List.getElem?_cons_zero, List.getElem?_cons_succ, List.set_cons_zero, List.set_cons_succ, i_sub, i_add, i_lt, i_le, i_gt, i_ge, i_mulL, i_mulR, i_mod, i_fdiv, i_int, i_intB, i_eq, i_ne, if_true, n1, t1, hsz, n2, t2, hd, n_take1, c1, c2, h5, i_list, hb, hs, f1, Bool.not_true, hc, f2, f3, Bool.false_eq_true, if_false, i_lenL, nl_len, f4, f5, decide_true, r1, z1, h1, hs2, f6, hs3, r6, z6, h4, hb2, r20, z20, h5', il, zl, h6, g1, g2]
theorem main (ns : List Int) (hl : ns.length ≤ 63) (hb : ∀ z ∈ ns, Builtin.Int.intBits z ≤ 1048576) : d_law [.scr ns] = .ok (.bl true) := by
  show runB false 17 1 k_law _ = _
  rw [e_runB (m := 1) rfl]
  show endR false (k_law [some (.scr ns), none, none, none, none, none, none, none, none, none, none, none, none, none, none, none, none]) = _
  obtain ⟨e1, h1, he⟩ := for_inv (f := bName 1) (k := bT) (xs := rangeL 0 3) (e := [some (.scr ns), none, none, none, none, none, none, none, none, none, none, none, none, none, none, none, none])
    (P := E17 ns) ⟨_, _, _, _, _, _, _, _, _, _, _, _, _, _, _, _, rfl⟩ (fun x e hx he => by
      obtain ⟨j, hj, rfl⟩ := mem_range hx
      obtain ⟨a1, a2, a3, a4, a5, a6, a7, a8, a9, a10, a11, a12, a13, a14, a15, a16, rfl⟩ := he
      obtain ⟨e2, h1, h2⟩ := bT_ok ns (0 + (j : Int)) a2 a3 a4 a5 a6 a7 a8 a9 a10 a11 a12 a13 a14 a15 a16
      exact ⟨_, _, rfl, .inl h1, h2⟩)
  obtain ⟨a1, a2, a3, a4, a5, a6, a7, a8, a9, a10, a11, a12, a13, a14, a15, a16, rfl⟩ := he
  have r1 : pyRange1 [.int 3] = some (rangeL 0 3) := rfl
  have z2 : (rangeL 0 3).length ≤ sizeLine := by rw [rangeL_len, szl]; omega
  unfold bT at h1
  unfold k_law
  simp only [e_seq, e_th1, e_th2, e_th3, e_th4, e_th5, e_nx, e_set, e_ret, e_drop, e_thS1, e_thS2, e_if, e_thBt, e_thBf, e_thBe, e_op, e_ap2, e_bop, e_ap2B, e_un, e_ap1, e_call, e_apL, e_meth, e_apM, e_ty, e_cls, e_gd, e_fld, e_nil, e_cons, e_rcons, e_C, e_var, e_getP, e_use, e_bnd1, e_bnd2, e_bnz1, e_ofO, e_and, e_or, e_not, e_rand1, e_rand2, e_ror1, e_ror2, e_rnot, e_val, e_tru, e_tru0, e_xIf, e_riff1, e_riff2, e_lst, e_tup, e_rlst, e_rtup, e_for, e_forR, ll0, ll1, ll2, ll3, ll4, ll5, ll6, ll7, ll8, e_lc, e_lcR, e_iOf, e_iWith, e_asg, e_app, e_appR, e_end1, e_end2, e_end3, e_sl, e_slR, e_oN, e_oS, e_oR, List.getElem?_cons_zero, List.getElem?_cons_succ, List.set_cons_zero, List.set_cons_succ, r1, z2, if_true, h1]
end Q_k07
end
open PySem PySem.W PyProof.Rows
set_option maxHeartbeats 0 in
theorem PySem.Challenge.cw_heapsbybits_k07_bases_of_rows_holds : PySem.Challenge.rw_heapsbybits_k07_bases_of_rows.Holds := by
  w_on; o_law; k_head; (case hw => w_witness2)
  k_fill
  refine LamX.walk_ofTs (l := PySem.Challenge.rw_heapsbybits_k07_bases_of_rows) (n := 63) (k := 3) (x := "script") (CX := fun w => L2.CX PySem.Challenge.rw_heapsbybits_k07_bases_of_rows.prog w) rfl (by decide) rfl ⟨rfl, by decide, by decide⟩ (fun w h Y => PySem.W.kIn_of Y) ?F (fun _ _ _ _ _ h => D.cx_none h)
  case F =>
    intro w mg fa h Y KX G hmg
    refine' Q_k07.all_mk KX G hmg ?a0 ?l0 ?c0 ?k0 ?a1 ?l1 ?c1 ?k1 ?a2 ?l2 ?c2 ?k2 ?a3 ?l3 ?c3 ?k3 ?a4 ?l4 ?c4 ?k4 ?a5 ?l5 ?c5 ?k5 ?a6 ?l6 ?c6 ?k6 ?a7 ?l7 ?c7 ?k7 ?a8 ?l8 ?c8 ?k8 ?a9 ?l9 ?c9 ?k9 ?z_int ?z_len ?z_list ?z_range ?z_sorted Q_k07.main
    (case a0 => k_is); (case l0 => k_is); (case c0 => k_is); (case k0 => k_is); (case a1 => k_is); (case l1 => k_is); (case c1 => k_is); (case k1 => k_is); (case a2 => k_is); (case l2 => k_is); (case c2 => k_is); (case k2 => k_is); (case a3 => k_is); (case l3 => k_is); (case c3 => k_is); (case k3 => k_is); (case a4 => k_is); (case l4 => k_is); (case c4 => k_is); (case k4 => k_is); (case a5 => k_is); (case l5 => k_is); (case c5 => k_is); (case k5 => k_is); (case a6 => k_is); (case l6 => k_is); (case c6 => k_is); (case k6 => k_is); (case a7 => k_is); (case l7 => k_is); (case c7 => k_is); (case k7 => k_is); (case a8 => k_is); (case l8 => k_is); (case c8 => k_is); (case k8 => k_is); (case a9 => k_is); (case l9 => k_is); (case c9 => k_is); (case k9 => k_is); (case z_int => k_is); (case z_len => k_is); (case z_list => k_is); (case z_range => k_is); (case z_sorted => k_is)
