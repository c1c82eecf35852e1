import PyProof.Rows.All
import HandS.ForMost
import HandS.WordsExc
import HandS.TupAny
import HandS.Deep
import HandS.WideBits
import HandS.Wide
import HandS.SortInts
import HandS.EndTab
import PySem.Challenge.RW_heapsbybits_k06_heaps_are_written_and_re
import HandS.Codes
section
set_option Elab.async false
set_option linter.all false
set_option maxRecDepth 100000
set_option maxHeartbeats 1000000
namespace D
open PySem PySem.Spec PyProof.Rows L2

/-! ### pure values -/
inductive PV where
  | non | bl (b : Bool) | int (i : Int) | str (x : Str)
  | lst (xs : List PV) | tup (xs : List PV)
  | obj (c : Str) (fs : List (Str × PV))
  | dct (kvs : List (PV × PV))
  | scr (ns : List Int)
  deriving Inhabited

/-- an exception: its class, its fields -/
structure XV where
  cls : Str
  fs : List (Str × PV)

inductive Res (α : Type) where
  | ok (a : α) | err (x : XV) | bad

@[reducible] def Res.bnd {α β : Type} (r : Res α) (f : α → Res β) : Res β := match r with
  | .ok a => f a
  | .err x => .err x
  | .bad => .bad
instance : Monad Res where
  pure := Res.ok
  bind := Res.bnd

def wpR {α : Type} (r : Res α) (Q : α → Prop) (E : XV → Prop) : Prop := match r with
  | .ok a => Q a
  | .err x => E x
  | .bad => False
theorem wpR_bnd {α β : Type} {r : Res α} {f : α → Res β} {Q : β → Prop} {E : XV → Prop} : wpR (r.bnd f) Q E ↔ wpR r (fun a => wpR (f a) Q E) E := by
  cases r <;> exact Iff.rfl
theorem wpR_mono {α : Type} {r : Res α} {Q Q' : α → Prop} {E E' : XV → Prop} (h : wpR r Q E) (hQ : ∀ a, Q a → Q' a) (hE : ∀ x, E x → E' x) : wpR r Q' E' := by
  cases r with
  | ok a => exact hQ a h
  | err x => exact hE x h
  | bad => exact h

/-! ### what a value stands for -/
section
variable (g : Str → Option Value) (K : PySem.W.Frag)
mutual
inductive Rep (F : Hp) : V → PV → Prop
  | non : Rep F .non .non
  | bl (b : Bool) : Rep F (.bl b) (.bl b)
  | int (i : Int) : Rep F (.int i) (.int i)
  | str (x : Str) : Rep F (.str x) (.str x)
  | lst {a : Addr} {vs : List V} {xs : List PV} : F a = some (.lst vs) → Reps F vs xs → Rep F (.ref a) (.lst xs)
  | scr {a : Addr} {ns : List Int} : SqL K F a (ns.map V.int) → Rep F (.ref a) (.scr ns)
  | tup {a : Addr} {vs : List V} {xs : List PV} : SqT K F a vs → Reps F vs xs → Rep F (.ref a) (.tup xs)
  | obj {a C dx : Addr} {c : Str} {vs : List (Str × V)} {fs : List (Str × PV)} : g c = some (.ref C) → F a = some (.ins C dx vs) → RepF F vs fs → Rep F (.ref a) (.obj c fs)
  | dct {a : Addr} {o : HO} {kvs : List (PV × PV)} : F a = some o → RepD F o kvs → Rep F (.ref a) (.dct kvs)
inductive Reps (F : Hp) : List V → List PV → Prop
  | nil : Reps F [] []
  | cons {v : V} {vs : List V} {x : PV} {xs : List PV} : Rep F v x → Reps F vs xs → Reps F (v :: vs) (x :: xs)
inductive RepF (F : Hp) : List (Str × V) → List (Str × PV) → Prop
  | nil : RepF F [] []
  | cons {k : Str} {v : V} {vs : List (Str × V)} {x : PV} {xs : List (Str × PV)} : Rep F v x → RepF F vs xs → RepF F ((k, v) :: vs) ((k, x) :: xs)
inductive RepD (F : Hp) : HO → List (PV × PV) → Prop
  | nilK : RepD F (.dK []) []
  | nilT : RepD F (.dT []) []
  | intK {i : Int} {v : V} {vs : List (Key × V)} {x : PV} {xs : List (PV × PV)} : Rep F v x → RepD F (.dK vs) xs → RepD F (.dK ((.inl i, v) :: vs)) ((.int i, x) :: xs)
  | strK {i : Str} {v : V} {vs : List (Key × V)} {x : PV} {xs : List (PV × PV)} : Rep F v x → RepD F (.dK vs) xs → RepD F (.dK ((.inr i, v) :: vs)) ((.str i, x) :: xs)
  | tupT {ks : List Key} {v : V} {vs : List (List Key × V)} {x : PV} {xs : List (PV × PV)} : Rep F v x → RepD F (.dT vs) xs →
      RepD F (.dT ((ks, v) :: vs)) ((.tup (ks.map fun k => match k with | .inl i => .int i | .inr s => .str s), x) :: xs)
end
end

section
variable {g : Str → Option Value} {K : PySem.W.Frag} {F F' : Hp}
theorem Same.seqT (e : Same F F') {a : Addr} {xs : List V} (h : SqT K F a xs) : SqT K F' a xs := by
  rcases h with (h | ⟨o, h⟩) | h
  · exact .inl (.inl (e _ _ h))
  · exact .inl (.inr ⟨o, e _ _ h⟩)
  · exact .inr h
mutual
theorem Rep.mono (e : Same F F') : ∀ {v : V} {x : PV}, Rep g K F v x → Rep g K F' v x
  | _, _, .non => .non
  | _, _, .bl b => .bl b
  | _, _, .int i => .int i
  | _, _, .str i => .str i
  | _, _, .lst h r => .lst (e _ _ h) (Reps.mono e r)
  | _, _, .scr h => .scr (e.seq h)
  | _, _, .tup h r => .tup (Same.seqT e h) (Reps.mono e r)
  | _, _, .obj h1 h2 r => .obj h1 (e _ _ h2) (RepF.mono e r)
  | _, _, .dct h r => .dct (e _ _ h) (RepD.mono e r)
theorem Reps.mono (e : Same F F') : ∀ {vs : List V} {xs : List PV}, Reps g K F vs xs → Reps g K F' vs xs
  | _, _, .nil => .nil
  | _, _, .cons h r => .cons (Rep.mono e h) (Reps.mono e r)
theorem RepF.mono (e : Same F F') : ∀ {vs : List (Str × V)} {xs : List (Str × PV)}, RepF g K F vs xs → RepF g K F' vs xs
  | _, _, .nil => .nil
  | _, _, .cons h r => .cons (Rep.mono e h) (RepF.mono e r)
theorem RepD.mono (e : Same F F') : ∀ {o : HO} {xs : List (PV × PV)}, RepD g K F o xs → RepD g K F' o xs
  | _, _, .nilK => .nilK
  | _, _, .nilT => .nilT
  | _, _, .intK h r => .intK (Rep.mono e h) (RepD.mono e r)
  | _, _, .strK h r => .strK (Rep.mono e h) (RepD.mono e r)
  | _, _, .tupT h r => .tupT (Rep.mono e h) (RepD.mono e r)
end
theorem Reps.length : ∀ {vs : List V} {xs : List PV}, Reps g K F vs xs → vs.length = xs.length
  | _, _, .nil => rfl
  | _, _, .cons _ r => congrArg (· + 1) r.length
theorem Reps.get : ∀ {vs : List V} {xs : List PV} {i : Nat} {x : PV}, Reps g K F vs xs → xs[i]? = some x → ∃ v, vs[i]? = some v ∧ Rep g K F v x
  | _, _, _, _, .nil, e => by simp at e
  | _, _, 0, _, .cons r _, e => by simp at e; subst e; exact ⟨_, rfl, r⟩
  | _, _, i + 1, x, .cons _ t, e => by
    obtain ⟨u, h1, h2⟩ := Reps.get (i := i) (x := x) t (by simpa using e)
    exact ⟨u, by simpa using h1, h2⟩
theorem Reps.get' : ∀ {vs : List V} {xs : List PV} {i : Nat} {v : V}, Reps g K F vs xs → vs[i]? = some v → ∃ x, xs[i]? = some x ∧ Rep g K F v x
  | _, _, _, _, .nil, e => by simp at e
  | _, _, 0, _, .cons r _, e => by simp at e; subst e; exact ⟨_, rfl, r⟩
  | _, _, i + 1, v, .cons _ t, e => by
    obtain ⟨u, h1, h2⟩ := Reps.get' (i := i) (v := v) t (by simpa using e)
    exact ⟨u, by simpa using h1, h2⟩
theorem Reps.append : ∀ {vs us : List V} {xs ys : List PV}, Reps g K F vs xs → Reps g K F us ys → Reps g K F (vs ++ us) (xs ++ ys)
  | _, _, _, _, .nil, s => s
  | _, _, _, _, .cons r t, s => .cons r (Reps.append t s)
theorem Reps.take : ∀ {vs : List V} {xs : List PV} (n : Nat), Reps g K F vs xs → Reps g K F (vs.take n) (xs.take n)
  | _, _, 0, _ => .nil
  | _, _, _ + 1, .nil => .nil
  | _, _, n + 1, .cons r t => .cons r (Reps.take n t)
theorem Reps.drop : ∀ {vs : List V} {xs : List PV} (n : Nat), Reps g K F vs xs → Reps g K F (vs.drop n) (xs.drop n)
  | _, _, 0, r => r
  | _, _, _ + 1, .nil => .nil
  | _, _, n + 1, .cons _ t => Reps.drop n t
theorem Reps.reverse {vs : List V} {xs : List PV} (h : Reps g K F vs xs) : Reps g K F vs.reverse xs.reverse := by
  induction vs generalizing xs with
  | nil => cases h; exact .nil
  | cons v vs ih =>
    cases h with
    | cons r t =>
      rw [List.reverse_cons, List.reverse_cons]
      exact (ih t).append (.cons r .nil)
theorem Reps.set {v : V} {x : PV} (h : Rep g K F v x) : ∀ {vs : List V} {xs : List PV} (i : Nat), Reps g K F vs xs → Reps g K F (vs.set i v) (xs.set i x)
  | _, _, _, .nil => .nil
  | _, _, 0, .cons _ t => .cons h t
  | _, _, i + 1, .cons q t => .cons q (Reps.set h i t)
theorem Reps.dropLast {vs : List V} {xs : List PV} (h : Reps g K F vs xs) : Reps g K F vs.dropLast xs.dropLast := by
  rw [List.dropLast_eq_take, List.dropLast_eq_take, h.length]
  exact h.take _
end

/-! ### tables of code objects -/
def TabG (H : Hp) (P : Addr) : Prop := ∃ ps : Array Value, H P = some (.tbl ps) ∧ TriplesOk ps.toList
def Tabs (T : Addr → Prop) (H : Hp) : Prop := ∀ a, T a → TabG H a
def SameT (T : Addr → Prop) (H H' : Hp) : Prop := ∀ a o, ¬ T a → H a = some o → H' a = some o
theorem SameT.refl {T : Addr → Prop} (H : Hp) : SameT T H H := fun _ _ _ h => h
theorem SameT.trans {T : Addr → Prop} {H H1 H2 : Hp} (a : SameT T H H1) (b : SameT T H1 H2) : SameT T H H2 := fun c o n h => b c o n (a c o n h)

/-- from (H, F) to (H', F'): what stood stands; F: what is never changed any more -/
structure Ext (T : Addr → Prop) (H F H' F' : Hp) : Prop where
  tabs : Tabs T H'
  h : SameT T H H'
  f : Same F F'
  fh : Same F' H'
  ft : ∀ a, T a → F' a = none
  new : ∀ a, H a ≠ none → F a = none → F' a = none
structure Wf (T : Addr → Prop) (H F : Hp) : Prop where
  tabs : Tabs T H
  fh : Same F H
  ft : ∀ a, T a → F a = none
section
variable {T : Addr → Prop} {H F H1 F1 H2 F2 : Hp}
theorem Ext.refl (w : Wf T H F) : Ext T H F H F := ⟨w.tabs, SameT.refl _, Same.refl _, w.fh, w.ft, fun _ _ h => h⟩
theorem Ext.wf (e : Ext T H F H1 F1) : Wf T H1 F1 := ⟨e.tabs, e.fh, e.ft⟩
theorem tab_ne {a : Addr} (t : Tabs T H) (h : T a) : H a ≠ none := by
  obtain ⟨ps, e, _⟩ := t a h
  rw [e]; simp
theorem Ext.ne (e : Ext T H F H1 F1) {a : Addr} (h : H a ≠ none) : H1 a ≠ none := by
  by_cases t : T a
  · exact tab_ne e.tabs t
  · cases q : H a with
    | none => exact absurd q h
    | some o => rw [e.h a o t q]; simp
theorem Ext.trans (a : Ext T H F H1 F1) (b : Ext T H1 F1 H2 F2) : Ext T H F H2 F2 :=
  ⟨b.tabs, a.h.trans b.h, a.f.trans b.f, b.fh, b.ft, fun c h n => b.new c (a.ne h) (a.new c h n)⟩
/-- a new object, frozen at once -/
theorem Ext.alloc (w : Wf T H F) {p : Addr} {o : HO} (h : H p = none) : Ext T H F (upd H p o) (upd F p o) := by
  have np : ¬ T p := fun t => tab_ne w.tabs t h
  have fp : F p = none := by
    cases q : F p with
    | none => rfl
    | some u => rw [w.fh p u q] at h; cases h
  refine ⟨fun a t => ?_, fun a u _ e => ?_, fun a u e => ?_, fun a u e => ?_, fun a t => ?_, fun a h1 h2 => ?_⟩
  · have : a ≠ p := fun z => np (by rw [← z]; exact t)
    obtain ⟨ps, e, r⟩ := w.tabs a t
    exact ⟨ps, by rw [upd_ne this]; exact e, r⟩
  · rw [upd_ne (fun z => by rw [z, h] at e; cases e)]; exact e
  · rw [upd_ne (fun z => by rw [z, fp] at e; cases e)]; exact e
  · by_cases hp : a = p
    · subst hp; rw [upd_same] at e ⊢; exact e
    · rw [upd_ne hp] at e ⊢; exact w.fh a u e
  · rw [upd_ne (fun z => np (by rw [← z]; exact t))]; exact w.ft a t
  · rw [upd_ne (fun z => h1 (by rw [z]; exact h))]; exact h2
/-- a new object that is not frozen yet -/
theorem Ext.laid (w : Wf T H F) {p : Addr} {o : HO} (h : H p = none) : Ext T H F (upd H p o) F := by
  have np : ¬ T p := fun t => tab_ne w.tabs t h
  refine ⟨fun a t => ?_, fun a u _ e => ?_, Same.refl _, fun a u e => ?_, w.ft, fun a h1 h2 => h2⟩
  · have : a ≠ p := fun z => np (by rw [← z]; exact t)
    obtain ⟨ps, e, r⟩ := w.tabs a t
    exact ⟨ps, by rw [upd_ne this]; exact e, r⟩
  · rw [upd_ne (fun z => by rw [z, h] at e; cases e)]; exact e
  · have := w.fh a u e
    rw [upd_ne (fun z => by rw [z, h] at this; cases this)]; exact this
end

/-! ### the locals of a def -/
abbrev PEnv := List (Option PV)
/-- the content of an object that is owned -/
inductive RepO (g : Str → Option Value) (K : PySem.W.Frag) (F : Hp) : HO → PV → Prop
  | lst {vs : List V} {xs : List PV} : Reps g K F vs xs → RepO g K F (.lst vs) (.lst xs)
  | obj {C dx : Addr} {c : Str} {vs : List (Str × V)} {fs : List (Str × PV)} : g c = some (.ref C) → RepF g K F vs fs → RepO g K F (.ins C dx vs) (.obj c fs)
  | dct {o : HO} {kvs : List (PV × PV)} : RepD g K F o kvs → RepO g K F o (.dct kvs)
section
variable {g : Str → Option Value} {K : PySem.W.Frag} {T : Addr → Prop}
theorem RepO.mono {F F' : Hp} (e : Same F F') {o : HO} {x : PV} (h : RepO g K F o x) : RepO g K F' o x := by
  cases h with
  | lst r => exact .lst (r.mono e)
  | obj h r => exact .obj h (r.mono e)
  | dct r => exact .dct (r.mono e)
theorem RepO.rep {F : Hp} {o : HO} {x : PV} {a : Addr} (h : RepO g K F o x) (e : F a = some o) : Rep g K F (.ref a) x := by
  cases h with
  | lst r => exact .lst e r
  | obj h r => exact .obj h e r
  | dct r => exact .dct e r
end
structure Sta (g : Str → Option Value) (K : PySem.W.Frag) (T : Addr → Prop) (H0 F0 : Hp) (ow : List Bool) (env : PEnv) (σ : L2.St) (H F : Hp) : Prop where
  ext : Ext T H0 F0 H F
  len : σ.length = env.length
  slot : ∀ (i : Nat) (x : PV), env[i]? = some (some x) → ow[i]? ≠ some true → ∃ v, σ[i]? = some (some v) ∧ Rep g K F v x
  own : ∀ (i : Nat) (x : PV), env[i]? = some (some x) → ow[i]? = some true → ∃ a o, σ[i]? = some (some (.ref a)) ∧ H a = some o ∧ RepO g K F o x ∧ H0 a = none ∧ F a = none ∧ ¬ T a
  dist : ∀ (i j : Nat) (x y : PV) (a : Addr), ow[i]? = some true → ow[j]? = some true → env[i]? = some (some x) → env[j]? = some (some y) → σ[i]? = some (some (.ref a)) → σ[j]? = some (some (.ref a)) → i = j

section
variable {g : Str → Option Value} {K : PySem.W.Frag} {T : Addr → Prop} {H0 F0 H F H1 F1 : Hp} {ow : List Bool} {env : PEnv} {σ : L2.St}
theorem Sta.wf (l : Sta g K T H0 F0 ow env σ H F) : Wf T H F := l.ext.wf
/-- the heap has grown by an expression -/
theorem Sta.grow (l : Sta g K T H0 F0 ow env σ H F) (e : Ext T H F H1 F1) : Sta g K T H0 F0 ow env σ H1 F1 := by
  refine ⟨l.ext.trans e, l.len, fun i x h n => ?_, fun i x h n => ?_, l.dist⟩
  · obtain ⟨v, h1, h2⟩ := l.slot i x h n
    exact ⟨v, h1, h2.mono e.f⟩
  · obtain ⟨a, o, h1, h2, h3, h4, h5, h6⟩ := l.own i x h n
    exact ⟨a, o, h1, e.h a o h6 h2, h3.mono e.f, h4, e.new a (by rw [h2]; simp) h5, h6⟩
/-- a name's value, frozen -/
theorem Sta.get (l : Sta g K T H0 F0 ow env σ H F) {i : Nat} {x : PV} (h : env[i]? = some (some x)) (n : ow[i]? ≠ some true) : ∃ v, σ[i]? = some (some v) ∧ Rep g K F v x := l.slot i x h n
/-- a name's value as it is now -/
theorem Sta.read (l : Sta g K T H0 F0 ow env σ H F) {i : Nat} {x : PV} (h : env[i]? = some (some x)) : ∃ v, σ[i]? = some (some v) ∧ Rep g K H v x := by
  by_cases n : ow[i]? = some true
  · obtain ⟨a, o, h1, h2, h3, _⟩ := l.own i x h n
    exact ⟨_, h1, (h3.mono l.ext.fh).rep h2⟩
  · obtain ⟨v, h1, h2⟩ := l.slot i x h n
    exact ⟨v, h1, h2.mono l.ext.fh⟩
end
end D
end

section
set_option Elab.async false
set_option linter.all false
set_option maxRecDepth 100000
set_option maxHeartbeats 1000000
namespace D
open PySem PySem.Spec PyProof.Rows L2

section
variable (g : Str → Option Value) (K : PySem.W.Frag) (T : Addr → Prop)
/-- a value to be read now: frozen, or an owned object -/
def RepT (H F : Hp) (v : V) (x : PV) : Prop := Rep g K F v x ∨ ∃ a o, v = .ref a ∧ H a = some o ∧ RepO g K F o x ∧ ¬ T a
/-- what an expression gives: frozen, or (fr) an object that is new and nobody's -/
def Rt (fr : Bool) (H H' F' : Hp) (v : V) (x : PV) : Prop := match fr with
  | false => Rep g K F' v x
  | true => ∃ a o, v = .ref a ∧ H' a = some o ∧ RepO g K F' o x ∧ H a = none ∧ F' a = none
def RepX (F : Hp) (cls : Value) (dd : Option Addr) (x : XV) : Prop :=
  ∃ C, cls = .ref C ∧ g x.cls = some (.ref C) ∧ ((x.fs = [] ∧ dd = none) ∨ ∃ d vs, dd = some d ∧ F d = some (.xd vs) ∧ RepF g K F vs x.fs)
/-- an expression -/
def tE (fr : Bool) (W : WX) (ow : List Bool) (d : PEnv → Res PV) : TE := fun σ H Q => ∃ H0 F0 env F, Sta g K T H0 F0 ow env σ H F ∧
  wpR (d env) (fun r => ∀ v H' F', Ext T H F H' F' → Rt g K fr H H' F' v r → Q v H') (fun x => ∀ cls dd H' F', Ext T H F H' F' → RepX g K F' cls dd x → W cls dd σ H')
/-- .. that is only read -/
def tR (W : WX) (ow : List Bool) (d : PEnv → Res PV) : TE := fun σ H Q => ∃ H0 F0 env F, Sta g K T H0 F0 ow env σ H F ∧
  wpR (d env) (fun r => ∀ v H' F', Ext T H F H' F' → RepT g K T H' F' v r → Q v H') (fun x => ∀ cls dd H' F', Ext T H F H' F' → RepX g K F' cls dd x → W cls dd σ H')
/-- a test -/
def tT (W : WX) (ow : List Bool) (d : PEnv → Res Bool) : TT := fun σ H Q => ∃ H0 F0 env F, Sta g K T H0 F0 ow env σ H F ∧
  wpR (d env) (fun b => ∀ H' F', Ext T H F H' F' → Q b H') (fun x => ∀ cls dd H' F', Ext T H F H' F' → RepX g K F' cls dd x → W cls dd σ H')
/-- arguments -/
def tA (W : WX) (ow : List Bool) (d : PEnv → Res (List PV)) : TA := fun σ H Q => ∃ H0 F0 env F, Sta g K T H0 F0 ow env σ H F ∧
  wpR (d env) (fun rs => ∀ vs H' F', Ext T H F H' F' → Reps g K F' vs rs → Q vs H') (fun x => ∀ cls dd H' F', Ext T H F H' F' → RepX g K F' cls dd x → W cls dd σ H')
end

theorem _root_.L2.PE.imp {X : Cx} {e : Expr} {t t' : TE} (h : PE X e t) (i : ∀ σ H Q, t' σ H Q → t σ H Q) : PE X e t' := ⟨fun pins s σ H Q I w => h.run pins s σ H Q I (i _ _ _ w)⟩
theorem _root_.L2.PT.imp {X : Cx} {e : Expr} {t t' : TT} (h : PT X e t) (i : ∀ σ H Q, t' σ H Q → t σ H Q) : PT X e t' := ⟨fun pins s σ H Q I w => h.run pins s σ H Q I (i _ _ _ w)⟩
theorem _root_.L2.PW.imp {X : Cx} {e : Expr} {t t' : TT} (h : PW X e t) (i : ∀ σ H Q, t' σ H Q → t σ H Q) : PW X e t' := ⟨fun wh pins s σ H Q I w => h.run wh pins s σ H Q I (i _ _ _ w)⟩
theorem _root_.L2.PA.imp {X : Cx} {e : List Expr} {t t' : TA} (h : PA X e t) (i : ∀ σ H Q, t' σ H Q → t σ H Q) : PA X e t' := ⟨fun p pins s σ H Q I w => h.run p pins s σ H Q I (i _ _ _ w)⟩

abbrev DX (X : Cx) (T : Addr → Prop) (fr : Bool) (W : WX) (ow : List Bool) (e : Expr) (d : PEnv → Res PV) : Prop := PE X e (tE X.mg X.K T fr W ow d)
abbrev DE (X : Cx) (T : Addr → Prop) (W : WX) (ow : List Bool) (e : Expr) (d : PEnv → Res PV) : Prop := PE X e (tE X.mg X.K T false W ow d)
abbrev DF (X : Cx) (T : Addr → Prop) (W : WX) (ow : List Bool) (e : Expr) (d : PEnv → Res PV) : Prop := PE X e (tE X.mg X.K T true W ow d)
abbrev DR (X : Cx) (T : Addr → Prop) (W : WX) (ow : List Bool) (e : Expr) (d : PEnv → Res PV) : Prop := PE X e (tR X.mg X.K T W ow d)
abbrev DT (X : Cx) (T : Addr → Prop) (W : WX) (ow : List Bool) (e : Expr) (d : PEnv → Res Bool) : Prop := PT X e (tT X.mg X.K T W ow d)
abbrev DW (X : Cx) (T : Addr → Prop) (W : WX) (ow : List Bool) (e : Expr) (d : PEnv → Res Bool) : Prop := PW X e (tT X.mg X.K T W ow d)
abbrev DA (X : Cx) (T : Addr → Prop) (W : WX) (ow : List Bool) (es : List Expr) (d : PEnv → Res (List PV)) : Prop := PA X es (tA X.mg X.K T W ow d)

section
variable {g : Str → Option Value} {K : PySem.W.Frag} {T : Addr → Prop} {H0 F0 H F H1 F1 : Hp} {ow : List Bool} {env : PEnv} {σ : L2.St} {v : V} {x : PV}
theorem noT (t : Tabs T H) {a : Addr} {o : HO} (e : H a = some o) (h : ∀ ps, o ≠ .tbl ps) : ¬ T a := fun z => by
  obtain ⟨ps, e', _⟩ := t a z
  rw [e] at e'
  exact h ps (Option.some.inj e')
theorem RepO.notTbl {o : HO} (h : RepO g K F o x) : ∀ ps, o ≠ .tbl ps := by
  cases h with
  | lst r => intro ps e; cases e
  | obj _ r => intro ps e; cases e
  | dct r => cases r <;> intro ps e <;> cases e
theorem RepT.ext (h : RepT g K T H F v x) (e : Ext T H F H1 F1) : RepT g K T H1 F1 v x := by
  rcases h with h | ⟨a, o, h1, h2, h3, h4⟩
  · exact .inl (h.mono e.f)
  · exact .inr ⟨a, o, h1, e.h a o h4 h2, h3.mono e.f, h4⟩
theorem RepT.live (h : RepT g K T H F v x) (w : Wf T H F) : Rep g K H v x := by
  rcases h with h | ⟨a, o, rfl, h2, h3, h4⟩
  · exact h.mono w.fh
  · exact (h3.mono w.fh).rep h2
/-- a new object is frozen -/
theorem Ext.freeze (e : Ext T H F H1 F1) {a : Addr} {o : HO} (h1 : H1 a = some o) (hb : ∀ ps, o ≠ .tbl ps) (h0 : H a = none) (hf : F1 a = none) : Ext T H F H1 (upd F1 a o) := by
  have nt : ¬ T a := noT e.tabs h1 hb
  refine ⟨e.tabs, e.h, fun b u q => ?_, fun b u q => ?_, fun b t => ?_, fun b n1 n2 => ?_⟩
  · rw [upd_ne (fun z => by rw [z] at q; rw [e.f _ _ q] at hf; cases hf)]; exact e.f b u q
  · by_cases hb : b = a
    · subst hb; rw [upd_same] at q; cases q; exact h1
    · rw [upd_ne hb] at q; exact e.fh b u q
  · rw [upd_ne (fun z => nt (by rw [← z]; exact t))]; exact e.ft b t
  · rw [upd_ne (fun z => n1 (by rw [z]; exact h0))]; exact e.new b n1 n2
theorem Same.upd_new {F1 : Hp} {a : Addr} {o : HO} (hf : F1 a = none) : Same F1 (upd F1 a o) := fun b u q => by
  rw [upd_ne (fun z => by rw [z, hf] at q; cases q)]; exact q
theorem Rt.frozen {fr : Bool} (h : Rt g K fr H H1 F1 v x) (e : Ext T H F H1 F1) : ∃ F2, Ext T H F H1 F2 ∧ Same F1 F2 ∧ Rep g K F2 v x := by
  cases fr with
  | false => exact ⟨F1, e, Same.refl _, h⟩
  | true =>
    obtain ⟨a, o, rfl, h1, h2, h3, h4⟩ := h
    exact ⟨upd F1 a o, e.freeze h1 h2.notTbl h3 h4, Same.upd_new h4, (h2.mono (Same.upd_new h4)).rep upd_same⟩
theorem Rt.toT {fr : Bool} (h : Rt g K fr H H1 F1 v x) (e : Ext T H F H1 F1) : RepT g K T H1 F1 v x := by
  cases fr with
  | false => exact .inl h
  | true =>
    obtain ⟨a, o, rfl, h1, h2, h3, h4⟩ := h
    exact .inr ⟨a, o, rfl, h1, h2, noT e.tabs h1 h2.notTbl⟩
end

section
variable {X : Cx} {T : Addr → Prop} {W : WX} {ow : List Bool} {fr : Bool} {a b c e : Expr} {es rest : List Expr} {da db dc d : PEnv → Res PV} {pos : Pos}
theorem DX.de (h : DX X T fr W ow e d) : DE X T W ow e d := h.imp fun σ H Q ⟨H0, F0, env, F, l, w⟩ => ⟨H0, F0, env, F, l, wpR_mono w (fun r q v H' F' x rt => by
  obtain ⟨F2, x2, _, r2⟩ := rt.frozen x
  exact q v H' F2 x2 r2) fun _ z => z⟩
theorem DX.dr (h : DX X T fr W ow e d) : DR X T W ow e d := (DX.de h).imp fun σ H Q ⟨H0, F0, env, F, l, w⟩ => ⟨H0, F0, env, F, l, wpR_mono w (fun r q v H' F' x rt => q v H' F' x (.inl rt)) fun _ z => z⟩

/-! ### names, constants -/
def xVar (i : Nat) : PEnv → Res PV := fun env => match env[i]? with
  | some (some x) => .ok x
  | _ => .bad
def xC (x : PV) : PEnv → Res PV := fun _ => .ok x
theorem wpR_var {i : Nat} {env : PEnv} {Q : PV → Prop} {E : XV → Prop} (h : wpR (xVar i env) Q E) : ∃ x, env[i]? = some (some x) ∧ Q x := by
  unfold xVar at h
  split at h
  · exact ⟨_, by assumption, h⟩
  · exact h.elim
theorem de_var {i : Nat} {x : Str} (h : PE X (.Name x pos) (tVar i)) (ho : (ow[i]? == some true) = false) : DE X T W ow (.Name x pos) (xVar i) := h.imp fun σ H Q ⟨H0, F0, env, F, l, w⟩ => by
  obtain ⟨x, e, q⟩ := wpR_var w
  obtain ⟨v, h1, h2⟩ := l.slot i x e (by simpa using ho)
  exact ⟨v, h1, q v H F (.refl l.wf) h2⟩
theorem dr_var {i : Nat} {x : Str} (h : PE X (.Name x pos) (tVar i)) : DR X T W ow (.Name x pos) (xVar i) := h.imp fun σ H Q ⟨H0, F0, env, F, l, w⟩ => by
  obtain ⟨x, e, q⟩ := wpR_var w
  by_cases n : ow[i]? = some true
  · obtain ⟨a, o, h1, h2, h3, _, _, h6⟩ := l.own i x e n
    exact ⟨_, h1, q _ H F (.refl l.wf) (.inr ⟨a, o, rfl, h2, h3, h6⟩)⟩
  · obtain ⟨v, h1, h2⟩ := l.slot i x e n
    exact ⟨v, h1, q v H F (.refl l.wf) (.inl h2)⟩
theorem de_int {i : Int} {j} : DE X T W ow (.Constant (.int i) j pos) (xC (.int i)) := pe_int.imp fun σ H Q ⟨H0, F0, env, F, l, w⟩ => w _ H F (.refl l.wf) (.int i)
theorem de_bl {i : Bool} {j} : DE X T W ow (.Constant (.bool i) j pos) (xC (.bl i)) := pe_bl.imp fun σ H Q ⟨H0, F0, env, F, l, w⟩ => w _ H F (.refl l.wf) (.bl i)
theorem de_str {i : Str} {j} : DE X T W ow (.Constant (.str i) j pos) (xC (.str i)) := pe_str.imp fun σ H Q ⟨H0, F0, env, F, l, w⟩ => w _ H F (.refl l.wf) (.str i)
theorem de_non {j} : DE X T W ow (.Constant .none j pos) (xC .non) := pe_non.imp fun σ H Q ⟨H0, F0, env, F, l, w⟩ => w _ H F (.refl l.wf) .non
/-- a module's constant -/
theorem de_glob {x : Str} {v : V} {u : Value} {p : PV} (hg : Gl X x) (hm : X.mg x = some u) (r : RelV v u) (hp : ∀ F, Rep X.mg X.K F v p) (hd : (x == ("__debug__" : Str)) = false := by decide) : DE X T W ow (.Name x pos) (xC p) :=
  (pe_glob hg hm r hd).imp fun σ H Q ⟨H0, F0, env, F, l, w⟩ => w _ H F (.refl l.wf) (hp F)

/-! ### two values -/
def ofO {α : Type} (o : Option α) : Res α := match o with
  | some a => .ok a
  | none => .bad
abbrev F2 := PV → PV → Option PV
def xOp (f : F2) (da db : PEnv → Res PV) : PEnv → Res PV := fun env => (da env).bnd fun p => (db env).bnd fun q => ofO (f p q)
/-- a rule by values does what f says -/
def OpS (g : Str → Option Value) (K : PySem.W.Frag) (T : Addr → Prop) (fr : Bool) (r : R2) (f : F2) : Prop := ∀ (H F : Hp) (x y : V) (p q z : PV) (Q : VK), Wf T H F → RepT g K T H F x p → RepT g K T H F y q →
  f p q = some z → (∀ v H' F', Ext T H F H' F' → Rt g K fr H H' F' v z → Q v H') → r x y H Q
/-- results -/
theorem Rt.back {g : Str → Option Value} {K : PySem.W.Frag} {H F H1 F1 H2 F2 : Hp} {v : V} {x : PV} (e : Ext T H F H1 F1) (h : Rt g K fr H1 H2 F2 v x) : Rt g K fr H H2 F2 v x := by
  cases fr with
  | false => exact h
  | true =>
    obtain ⟨a, o, rfl, h1, h2, h3, h4⟩ := h
    refine ⟨a, o, rfl, h1, h2, ?_, h4⟩
    cases q : H a with
    | none => rfl
    | some u => exact absurd h3 (e.ne (by rw [q]; simp))
theorem wpR_ofO {α : Type} {o : Option α} {Q : α → Prop} {E : XV → Prop} (h : wpR (ofO o) Q E) : ∃ a, o = some a ∧ Q a := by
  cases o with
  | some a => exact ⟨a, rfl, h⟩
  | none => exact h.elim
theorem two {f : F2} {r : R2} (hf : OpS X.mg X.K T fr r f) {σ : L2.St} {H : Hp} {Q : VK} (w : tE X.mg X.K T fr W ow (xOp f da db) σ H Q) : tOp r (tR X.mg X.K T W ow da) (tR X.mg X.K T W ow db) σ H Q := by
  obtain ⟨H0, F0, env, F, l, w⟩ := w
  refine ⟨H0, F0, env, F, l, wpR_mono (wpR_bnd.mp w) (fun p w1 x H1 F1 e1 r1 => ?_) fun _ z => z⟩
  refine ⟨H0, F0, env, F1, l.grow e1, wpR_mono (wpR_bnd.mp w1) (fun q w2 y H2 F2 e2 r2 => ?_) fun _ z cls dd H' F' e => z cls dd H' F' (e1.trans e)⟩
  obtain ⟨z, hz, w3⟩ := wpR_ofO w2
  exact hf H2 F2 x y p q z Q e2.wf (r1.ext e2) r2 hz fun v H' F' e3 rt => w3 v H' F' ((e1.trans e2).trans e3) (rt.back (e1.trans e2))
theorem dx_op {op : Operator} {f : F2} {r : R2} (ho : OpR X (binaryOp op) r) (hf : OpS X.mg X.K T fr r f) (ha : DR X T W ow a da) (hb : DR X T W ow b db) : DX X T fr W ow (.BinOp a op b pos) (xOp f da db) :=
  (pe_op ho ha hb).imp fun _ _ _ w => two hf w
theorem de_cmp {op : CmpOp} {f : F2} {r : R2} (ho : OpR X (compareOp op) r) (hf : OpS X.mg X.K T fr r f) (ha : DR X T W ow a da) (hb : DR X T W ow b db) (hm : behindInMarks op b = false) : DX X T fr W ow (.Compare a [op] [b] pos) (xOp f da db) :=
  (pe_cmpR ho ha hb hm).imp fun _ _ _ w => two hf w
theorem dx_ix {f : F2} {r : R2} (hr : IxR X r) (hf : OpS X.mg X.K T fr r f) (ha : DR X T W ow a da) (hb : DR X T W ow b db) (hs : PlainIx b) : DX X T fr W ow (.Subscript a b pos) (xOp f da db) :=
  (pe_ix hr ha hb hs).imp fun _ _ _ w => two hf w
def xUn (f : PV → Option PV) (da : PEnv → Res PV) : PEnv → Res PV := fun env => (da env).bnd fun p => ofO (f p)
def UnS (g : Str → Option Value) (K : PySem.W.Frag) (T : Addr → Prop) (fr : Bool) (r : V → Hp → VK → Prop) (f : PV → Option PV) : Prop := ∀ (H F : Hp) (x : V) (p z : PV) (Q : VK), Wf T H F → RepT g K T H F x p →
  f p = some z → (∀ v H' F', Ext T H F H' F' → Rt g K fr H H' F' v z → Q v H') → r x H Q
theorem dx_un {op : UnaryOp} {f : PV → Option PV} {r : V → Hp → VK → Prop} (ho : UnR X (unaryOp op) r) (hf : UnS X.mg X.K T fr r f) (ha : DR X T W ow a da) : DX X T fr W ow (.UnaryOp op a pos) (xUn f da) :=
  (pe_un ho ha).imp fun σ H Q ⟨H0, F0, env, F, l, w⟩ => by
    refine ⟨H0, F0, env, F, l, wpR_mono (wpR_bnd.mp w) (fun p w1 x H1 F1 e1 r1 => ?_) fun _ z => z⟩
    obtain ⟨z, hz, w3⟩ := wpR_ofO w1
    exact hf H1 F1 x p z Q e1.wf r1 hz fun v H' F' e3 rt => w3 v H' F' (e1.trans e3) (rt.back e1)

/-! ### tests -/
def tr1 (f : F2) : PV → PV → Option Bool := fun p q => match f p q with
  | some (.bl b) => some b
  | _ => none
def bOp (f : F2) (da db : PEnv → Res PV) : PEnv → Res Bool := fun env => (da env).bnd fun p => (db env).bnd fun q => ofO (tr1 f p q)
theorem bOp_eq {f : F2} {env : PEnv} {Q : Bool → Prop} {E : XV → Prop} (w : wpR (bOp f da db env) Q E) : wpR (xOp f da db env) (fun z => ∃ b, z = .bl b ∧ Q b) E := by
  refine wpR_bnd.mpr (wpR_mono (wpR_bnd.mp w) (fun p w1 => wpR_bnd.mpr (wpR_mono (wpR_bnd.mp w1) (fun q w2 => ?_) fun _ z => z)) fun _ z => z)
  obtain ⟨b, hb, w3⟩ := wpR_ofO w2
  unfold tr1 at hb
  split at hb
  · rename_i e
    rw [e]
    cases hb
    exact ⟨_, rfl, w3⟩
  · cases hb
theorem dt_cmp {op : CmpOp} {f : F2} {r : R2} (ho : OpR X (compareOp op) r) (hf : OpS X.mg X.K T false r f) (ha : DR X T W ow a da) (hb : DR X T W ow b db) (hm : behindInMarks op b = false) : DT X T W ow (.Compare a [op] [b] pos) (bOp f da db) :=
  (pt_cmpR ho ha hb hm).imp fun σ H Q ⟨H0, F0, env, F, l, w⟩ => by
    refine two (ow := ow) (W := W) hf ⟨H0, F0, env, F, l, wpR_mono (bOp_eq w) (fun z ⟨b, e, q⟩ v H' F' x rt => ?_) fun _ z => z⟩
    subst e
    cases rt
    exact ⟨b, rfl, q H' F' x⟩
/-- an expression with a bool as a test -/
def bVal (d : PEnv → Res PV) : PEnv → Res Bool := fun env => (d env).bnd fun p => match p with
  | .bl b => .ok b
  | _ => .bad
theorem dt_val (h : DE X T W ow e d) (he : ∀ whole, isTrue e X.env whole = (do let v ← whole; standAt e.pos; holding [v] (truthy v)) := by intro _; rfl) : DT X T W ow e (bVal d) :=
  (pt_val h he).imp fun σ H Q ⟨H0, F0, env, F, l, w⟩ => by
    refine ⟨H0, F0, env, F, l, wpR_mono (wpR_bnd.mp w) (fun p w1 v H' F' x rt => ?_) fun _ z => z⟩
    cases p with
    | bl b => cases rt; exact ⟨b, rfl, w1 H' F' x⟩
    | _ => exact w1.elim
def pyTruth : PV → Option Bool
  | .non => some false
  | .bl b => some b
  | .int i => some (i != 0)
  | .str s => if s.length ≤ sizeLine then some (s.length != 0) else none
  | .lst xs => some (!xs.isEmpty)
  | .tup xs => some (!xs.isEmpty)
  | .dct kvs => some (!kvs.isEmpty)
  | .obj _ _ => none
  | .scr _ => none
def bTru (d : PEnv → Res PV) : PEnv → Res Bool := fun env => (d env).bnd fun p => ofO (pyTruth p)
end
end D
end

section
set_option Elab.async false
set_option linter.all false
set_option maxRecDepth 100000
set_option maxHeartbeats 1000000
namespace D
open PySem PySem.Spec PyProof.Rows L2

section
variable {g : Str → Option Value} {K : PySem.W.Frag} {T : Addr → Prop} {H0 F0 H F H1 F1 : Hp} {v : V} {x : PV}
theorem RepT.tru (h : RepT g K T H F v x) (w : Wf T H F) {b : Bool} (e : pyTruth x = some b) : (∀ kvs, x ≠ .dct kvs) → TruV K v H b := by
  intro nd
  cases h.live w with
  | non => exact (Option.some.inj e).symm
  | bl c => exact (Option.some.inj e).symm
  | int c => exact (Option.some.inj e).symm
  | str c =>
    have e2 : (if c.length ≤ sizeLine then some (c.length != 0) else none) = some b := e
    by_cases hc : c.length ≤ sizeLine
    · rw [if_pos hc] at e2
      refine ⟨hc, ?_⟩
      rw [← Option.some.inj e2]
      by_cases q : c.length = 0
      · simp [q]
      · have : (c.length : Int) ≠ 0 := by omega
        show (c.length != 0) = ((c.length : Int) != 0)
        rw [bne, bne, beq_eq_false_iff_ne.mpr q, beq_eq_false_iff_ne.mpr this]
    · rw [if_neg hc] at e2; cases e2
  | lst hs r =>
    refine .inl ⟨_, .of hs, ?_⟩
    have q := Option.some.inj e
    rw [← q]
    cases r <;> rfl
  | tup hs r =>
    refine .inr (.inl ⟨_, hs, ?_⟩)
    have q := Option.some.inj e
    rw [← q]
    cases r <;> rfl
  | scr _ => cases e
  | obj _ _ _ => cases e
  | dct _ _ => exact absurd rfl (nd _)
end

section
variable {X : Cx} {T : Addr → Prop} {W : WX} {ow : List Bool} {fr : Bool} {a b c e o : Expr} {es rest : List Expr} {da db dc d : PEnv → Res PV} {ta tb tc : PEnv → Res Bool} {ds : PEnv → Res (List PV)} {pos : Pos}

/-- truth of anything but dicts -/
def pyTru0 : PV → Option Bool
  | .dct _ => none
  | x => pyTruth x
def bTru0 (d : PEnv → Res PV) : PEnv → Res Bool := fun env => (d env).bnd fun p => ofO (pyTru0 p)
theorem dt_truth (h : DR X T W ow e d) (he : ∀ whole, isTrue e X.env whole = (do let v ← whole; standAt e.pos; holding [v] (truthy v))) : DT X T W ow e (bTru0 d) :=
  (pt_truth h he).imp fun σ H Q ⟨H0, F0, env, F, l, w⟩ => by
    refine ⟨H0, F0, env, F, l, wpR_mono (wpR_bnd.mp w) (fun p w1 v H' F' x rt => ?_) fun _ z => z⟩
    obtain ⟨b, hb, q⟩ := wpR_ofO w1
    refine ⟨b, ?_, q H' F' x⟩
    cases p with
    | dct kvs => cases hb
    | _ => exact rt.tru x.wf hb fun _ z => by cases z

/-! ### and, or, not -/
def bAnd (da db : PEnv → Res Bool) : PEnv → Res Bool := fun env => (da env).bnd fun p => if p = true then db env else .ok false
def bOr (da db : PEnv → Res Bool) : PEnv → Res Bool := fun env => (da env).bnd fun p => if p = true then .ok true else db env
def bNot (da : PEnv → Res Bool) : PEnv → Res Bool := fun env => (da env).bnd fun p => .ok (!p)
theorem dw_and1 (h : DT X T W ow a ta) : DW X T W ow (.BoolOp .And [a] pos) ta := pw_and1 h
theorem dw_or1 (h : DT X T W ow a ta) : DW X T W ow (.BoolOp .Or [a] pos) ta := pw_or1 h
theorem dw_and (h : DT X T W ow a ta) (h2 : DW X T W ow (.BoolOp .And (b :: rest) pos) tb) : DW X T W ow (.BoolOp .And (a :: b :: rest) pos) (bAnd ta tb) :=
  (pw_and h h2).imp fun σ H Q ⟨H0, F0, env, F, l, w⟩ => by
    refine ⟨H0, F0, env, F, l, wpR_mono (wpR_bnd.mp w) (fun p w1 H' F' x => ?_) fun _ z => z⟩
    cases p with
    | true => exact ⟨H0, F0, env, F', l.grow x, wpR_mono w1 (fun q z H2 F2 x2 => z H2 F2 (x.trans x2)) fun _ z cls dd H2 F2 x2 => z cls dd H2 F2 (x.trans x2)⟩
    | false => exact w1 H' F' x
theorem dw_or (h : DT X T W ow a ta) (h2 : DW X T W ow (.BoolOp .Or (b :: rest) pos) tb) : DW X T W ow (.BoolOp .Or (a :: b :: rest) pos) (bOr ta tb) :=
  (pw_or h h2).imp fun σ H Q ⟨H0, F0, env, F, l, w⟩ => by
    refine ⟨H0, F0, env, F, l, wpR_mono (wpR_bnd.mp w) (fun p w1 H' F' x => ?_) fun _ z => z⟩
    cases p with
    | false => exact ⟨H0, F0, env, F', l.grow x, wpR_mono w1 (fun q z H2 F2 x2 => z H2 F2 (x.trans x2)) fun _ z cls dd H2 F2 x2 => z cls dd H2 F2 (x.trans x2)⟩
    | true => exact w1 H' F' x
theorem DW.dt (h : DW X T W ow a ta) : DT X T W ow a ta := h.pt
theorem dt_not (h : DT X T W ow a ta) : DT X T W ow (.UnaryOp .Not a pos) (bNot ta) :=
  (pt_not h).imp fun σ H Q ⟨H0, F0, env, F, l, w⟩ => ⟨H0, F0, env, F, l, wpR_mono (wpR_bnd.mp w) (fun p w1 => w1) fun _ z => z⟩
/-- .. as values -/
def xAnd (da db : PEnv → Res PV) : PEnv → Res PV := fun env => (da env).bnd fun p => match p with
  | .bl true => db env
  | .bl false => .ok (.bl false)
  | _ => .bad
def xOr (da db : PEnv → Res PV) : PEnv → Res PV := fun env => (da env).bnd fun p => match p with
  | .bl true => .ok (.bl true)
  | .bl false => db env
  | _ => .bad
def xNot (da : PEnv → Res PV) : PEnv → Res PV := fun env => (da env).bnd fun p => match p with
  | .bl b => .ok (.bl (!b))
  | _ => .bad
theorem de_one {op} (h : DE X T W ow a da) : DE X T W ow (.BoolOp op [a] pos) da := pe_one h
theorem de_and (h : DE X T W ow a da) (h2 : DE X T W ow (.BoolOp .And (b :: rest) pos) db) : DE X T W ow (.BoolOp .And (a :: b :: rest) pos) (xAnd da db) :=
  (pe_and h h2).imp fun σ H Q ⟨H0, F0, env, F, l, w⟩ => by
    refine ⟨H0, F0, env, F, l, wpR_mono (wpR_bnd.mp w) (fun p w1 v H' F' x rt => ?_) fun _ z => z⟩
    cases p with
    | bl k =>
      cases rt
      refine ⟨k, rfl, ?_⟩
      cases k with
      | true => exact ⟨H0, F0, env, F', l.grow x, wpR_mono w1 (fun q z v H2 F2 x2 => z v H2 F2 (x.trans x2)) fun _ z cls dd H2 F2 x2 => z cls dd H2 F2 (x.trans x2)⟩
      | false => exact w1 _ H' F' x (.bl false)
    | _ => exact w1.elim
theorem de_or (h : DE X T W ow a da) (h2 : DE X T W ow (.BoolOp .Or (b :: rest) pos) db) : DE X T W ow (.BoolOp .Or (a :: b :: rest) pos) (xOr da db) :=
  (pe_or h h2).imp fun σ H Q ⟨H0, F0, env, F, l, w⟩ => by
    refine ⟨H0, F0, env, F, l, wpR_mono (wpR_bnd.mp w) (fun p w1 v H' F' x rt => ?_) fun _ z => z⟩
    cases p with
    | bl k =>
      cases rt
      refine ⟨k, rfl, ?_⟩
      cases k with
      | false => exact ⟨H0, F0, env, F', l.grow x, wpR_mono w1 (fun q z v H2 F2 x2 => z v H2 F2 (x.trans x2)) fun _ z cls dd H2 F2 x2 => z cls dd H2 F2 (x.trans x2)⟩
      | true => exact w1 _ H' F' x (.bl true)
    | _ => exact w1.elim
theorem de_not (h : DE X T W ow a da) : DE X T W ow (.UnaryOp .Not a pos) (xNot da) :=
  (pe_not h).imp fun σ H Q ⟨H0, F0, env, F, l, w⟩ => by
    refine ⟨H0, F0, env, F, l, wpR_mono (wpR_bnd.mp w) (fun p w1 v H' F' x rt => ?_) fun _ z => z⟩
    cases p with
    | bl k => cases rt; exact ⟨k, rfl, w1 _ H' F' x (.bl _)⟩
    | _ => exact w1.elim
def xIf (t : PEnv → Res Bool) (da db : PEnv → Res PV) : PEnv → Res PV := fun env => (t env).bnd fun k => if k = true then da env else db env
theorem dx_if (h : DT X T W ow c ta) (h1 : DX X T fr W ow a da) (h2 : DX X T fr W ow b db) : DX X T fr W ow (.IfExp c a b pos) (xIf ta da db) :=
  (pe_ifExp h h1 h2).imp fun σ H Q ⟨H0, F0, env, F, l, w⟩ => by
    refine ⟨H0, F0, env, F, l, wpR_mono (wpR_bnd.mp w) (fun k w1 H' F' x => ?_) fun _ z => z⟩
    cases k with
    | true => exact ⟨H0, F0, env, F', l.grow x, wpR_mono w1 (fun q z v H2 F2 x2 rt => z v H2 F2 (x.trans x2) (rt.back x)) fun _ z cls dd H2 F2 x2 => z cls dd H2 F2 (x.trans x2)⟩
    | false => exact ⟨H0, F0, env, F', l.grow x, wpR_mono w1 (fun q z v H2 F2 x2 rt => z v H2 F2 (x.trans x2) (rt.back x)) fun _ z cls dd H2 F2 x2 => z cls dd H2 F2 (x.trans x2)⟩

/-! ### argument lists -/
def aNil : PEnv → Res (List PV) := fun _ => .ok []
def aCons (d : PEnv → Res PV) (ds : PEnv → Res (List PV)) : PEnv → Res (List PV) := fun env => (d env).bnd fun p => (ds env).bnd fun ps => .ok (p :: ps)
theorem da_nil : DA X T W ow [] aNil := pa_nil.imp fun σ H Q ⟨H0, F0, env, F, l, w⟩ => w [] H F (.refl l.wf) .nil
theorem da_cons (h : DE X T W ow e d) (h2 : DA X T W ow es ds) (hs : starEach (e :: es) X.env = (false, eval e X.env) :: starEach es X.env := by rfl) : DA X T W ow (e :: es) (aCons d ds) :=
  (pa_cons h h2 hs).imp fun σ H Q ⟨H0, F0, env, F, l, w⟩ => by
    refine ⟨H0, F0, env, F, l, wpR_mono (wpR_bnd.mp w) (fun p w1 v H' F' x rt => ?_) fun _ z => z⟩
    refine ⟨H0, F0, env, F', l.grow x, wpR_mono (wpR_bnd.mp w1) (fun ps w2 vs H2 F2 x2 rs => ?_) fun _ z cls dd H2 F2 x2 => z cls dd H2 F2 (x.trans x2)⟩
    exact w2 (v :: vs) H2 F2 (x.trans x2) (.cons (rt.mono x2.f) rs)
/-- arguments that are only read -/
inductive RepTs (g : Str → Option Value) (K : PySem.W.Frag) (T : Addr → Prop) (H F : Hp) : List V → List PV → Prop
  | nil : RepTs g K T H F [] []
  | cons {v : V} {x : PV} {vs : List V} {xs : List PV} : RepT g K T H F v x → RepTs g K T H F vs xs → RepTs g K T H F (v :: vs) (x :: xs)
def tAR (g : Str → Option Value) (K : PySem.W.Frag) (T : Addr → Prop) (W : WX) (ow : List Bool) (d : PEnv → Res (List PV)) : TA := fun σ H Q => ∃ H0 F0 env F, Sta g K T H0 F0 ow env σ H F ∧
  wpR (d env) (fun rs => ∀ vs H' F', Ext T H F H' F' → RepTs g K T H' F' vs rs → Q vs H') (fun x => ∀ cls dd H' F', Ext T H F H' F' → RepX g K F' cls dd x → W cls dd σ H')
abbrev DAR (X : Cx) (T : Addr → Prop) (W : WX) (ow : List Bool) (es : List Expr) (d : PEnv → Res (List PV)) : Prop := PA X es (tAR X.mg X.K T W ow d)
theorem dar_nil : DAR X T W ow [] aNil := pa_nil.imp fun σ H Q ⟨H0, F0, env, F, l, w⟩ => w [] H F (.refl l.wf) .nil
theorem dar_cons (h : DR X T W ow e d) (h2 : DAR X T W ow es ds) (hs : starEach (e :: es) X.env = (false, eval e X.env) :: starEach es X.env := by rfl) : DAR X T W ow (e :: es) (aCons d ds) :=
  (pa_cons h h2 hs).imp fun σ H Q ⟨H0, F0, env, F, l, w⟩ => by
    refine ⟨H0, F0, env, F, l, wpR_mono (wpR_bnd.mp w) (fun p w1 v H' F' x rt => ?_) fun _ z => z⟩
    refine ⟨H0, F0, env, F', l.grow x, wpR_mono (wpR_bnd.mp w1) (fun ps w2 vs H2 F2 x2 rs => ?_) fun _ z cls dd H2 F2 x2 => z cls dd H2 F2 (x.trans x2)⟩
    exact w2 (v :: vs) H2 F2 (x.trans x2) (.cons (rt.ext x2) rs)

/-! ### displays -/
def xTup (ds : PEnv → Res (List PV)) : PEnv → Res PV := fun env => (ds env).bnd fun ps => if ps.length ≤ sizeLine then .ok (.tup ps) else .bad
def xLst (ds : PEnv → Res (List PV)) : PEnv → Res PV := fun env => (ds env).bnd fun ps => if ps.length ≤ sizeLine then .ok (.lst ps) else .bad
theorem wpR_if {α : Type} {c : Prop} [Decidable c] {a : α} {Q : α → Prop} {E : XV → Prop} (h : wpR (if c then .ok a else .bad) Q E) : c ∧ Q a := by
  by_cases hc : c
  · rw [if_pos hc] at h; exact ⟨hc, h⟩
  · rw [if_neg hc] at h; exact h.elim
theorem de_tup {x1} (h : DA X T W ow es ds) : DE X T W ow (.Tuple es x1 pos) (xTup ds) :=
  (pe_tup h).imp fun σ H Q ⟨H0, F0, env, F, l, w⟩ => by
    refine ⟨H0, F0, env, F, l, wpR_mono (wpR_bnd.mp w) (fun ps w1 vs H' F' x rs => ?_) fun _ z => z⟩
    obtain ⟨hl, q⟩ := wpR_if w1
    refine ⟨by rw [rs.length]; exact hl, fun p np => ?_⟩
    have x2 : Ext T H' F' (upd H' p (.tup vs)) (upd F' p (.tup vs)) := Ext.alloc x.wf np
    exact q _ _ _ (x.trans x2) (.tup (.of upd_same) (rs.mono x2.f))
theorem df_lst (h : DA X T W ow es ds) : DF X T W ow (.List es pos) (xLst ds) :=
  (pe_lst h).imp fun σ H Q ⟨H0, F0, env, F, l, w⟩ => by
    refine ⟨H0, F0, env, F, l, wpR_mono (wpR_bnd.mp w) (fun ps w1 vs H' F' x rs => ?_) fun _ z => z⟩
    obtain ⟨hl, q⟩ := wpR_if w1
    refine ⟨by rw [rs.length]; exact hl, fun p np => ?_⟩
    have x2 : Ext T H' F' (upd H' p (.lst vs)) F' := Ext.laid x.wf np
    refine q _ _ _ (x.trans x2) ⟨p, _, rfl, upd_same, .lst rs, ?_, ?_⟩
    · cases qq : H p with
      | none => rfl
      | some u => exact absurd np (x.ne (by rw [qq]; simp))
    · cases qq : F' p with
      | none => rfl
      | some u => rw [x.fh p u qq] at np; cases np

/-! ### calls of built-ins -/
def xCall (f : List PV → Option PV) (ds : PEnv → Res (List PV)) : PEnv → Res PV := fun env => (ds env).bnd fun ps => ofO (f ps)
def CallS (g : Str → Option Value) (K : PySem.W.Frag) (T : Addr → Prop) (fr : Bool) (r : List V → Hp → VK → Prop) (f : List PV → Option PV) : Prop := ∀ (H F : Hp) (xs : List V) (ps : List PV) (z : PV) (Q : VK), Wf T H F → RepTs g K T H F xs ps →
  f ps = some z → (∀ v H' F', Ext T H F H' F' → Rt g K fr H H' F' v z → Q v H') → r xs H Q
theorem called {f : List PV → Option PV} {r : List V → Hp → VK → Prop} (hf : CallS X.mg X.K T fr r f) {σ : L2.St} {H : Hp} {Q : VK} (w : tE X.mg X.K T fr W ow (xCall f ds) σ H Q) : tCB r (tAR X.mg X.K T W ow ds) σ H Q := by
  obtain ⟨H0, F0, env, F, l, w⟩ := w
  refine ⟨H0, F0, env, F, l, wpR_mono (wpR_bnd.mp w) (fun ps w1 vs H1 F1 e1 rs => ?_) fun _ z => z⟩
  obtain ⟨z, hz, w2⟩ := wpR_ofO w1
  exact hf H1 F1 vs ps z Q e1.wf rs hz fun v H' F' e3 rt => w2 v H' F' (e1.trans e3) (rt.back e1)
theorem dx_callB {id : String} {x : Str} {p : Pos} {f : List PV → Option PV} {r : List V → Hp → VK → Prop} (hc : CallR X (.builtin id) r) (hf : CallS X.mg X.K T fr r f) (hg : Gl X x) (hm : X.mg x = none) (hv : bootBuiltins x = some (.builtin id)) (ha : DAR X T W ow (e :: es) ds) (hn : x ≠ "__name__" := by decide) (hdb : (x == ("__debug__" : Str)) = false := by decide)
    (he : starEach (e :: es) X.env = (false, eval e X.env) :: starEach es X.env := by rfl) (hpl : (backTo pos (starEach es X.env)).any (·.1) = false := by rfl) : DX X T fr W ow (.Call (.Name x p) (e :: es) [] pos) (xCall f ds) :=
  (pe_callB hc hg hm hv ha hn hdb he hpl).imp fun _ _ _ w => called hf w
theorem dx_callTy {id : String} {x : Str} {p : Pos} {f : List PV → Option PV} {r : List V → Hp → VK → Prop} (hc : CallR X (.type id) r) (hf : CallS X.mg X.K T fr r f) (hg : Gl X x) (hm : X.mg x = none) (hv : bootBuiltins x = some (.type id)) (ha : DAR X T W ow (e :: es) ds) (hn : x ≠ "__name__" := by decide) (hdb : (x == ("__debug__" : Str)) = false := by decide)
    (he : starEach (e :: es) X.env = (false, eval e X.env) :: starEach es X.env := by rfl) (hpl : (backTo pos (starEach es X.env)).any (·.1) = false := by rfl) : DX X T fr W ow (.Call (.Name x p) (e :: es) [] pos) (xCall f ds) :=
  (pe_callTy hc hg hm hv ha hn hdb he hpl).imp fun _ _ _ w => called hf w

/-! ### methods of built-in types -/
def xMeth (f : PV → List PV → Option PV) (d : PEnv → Res PV) (ds : PEnv → Res (List PV)) : PEnv → Res PV := fun env => (d env).bnd fun p => (ds env).bnd fun ps => ofO (f p ps)
def MethS (g : Str → Option Value) (K : PySem.W.Frag) (T : Addr → Prop) (fr : Bool) (ty : String) (r : V → List V → Hp → VK → Prop) (f : PV → List PV → Option PV) : Prop := ∀ (H F : Hp) (x : V) (xs : List V) (p : PV) (ps : List PV) (z : PV) (Q : VK), Wf T H F → RepT g K T H F x p → RepTs g K T H F xs ps →
  f p ps = some z → (∀ v H' F', Ext T H F H' F' → Rt g K fr H H' F' v z → Q v H') → r x xs H Q
/-- the receiver's type (asked before the arguments) -/
def tyP : String → PV → Bool
  | "str", .str _ => true
  | "int", .int _ => true
  | "list", .lst _ => true
  | _, _ => false
theorem tyP_ok {g : Str → Option Value} {K : PySem.W.Frag} {H : Hp} {v : V} {x : PV} {ty : String} (h : Rep g K H v x) (t : tyP ty x = true) : tyV K ty v H := by
  unfold tyP at t
  split at t
  · cases h; exact rfl
  · cases h; exact rfl
  · cases h with
    | lst hs _ => exact .inl ⟨rfl, _, .of hs⟩
  · cases t
def xTy (ty : String) (d : PEnv → Res PV) : PEnv → Res PV := fun env => (d env).bnd fun p => if tyP ty p = true then .ok p else .bad
theorem dx_bm0 {ty id : String} {name : Str} {apos cpos : Pos} {f : PV → List PV → Option PV} {r : V → List V → Hp → VK → Prop} (pa : PlainAttrs ty) (slot : Slot ty name id) (hty : typeOf (.builtin id) = pure (.type "method_descriptor")) (hm : MtR X id r) (hf : MethS X.mg X.K T fr ty r f) (ho : DR X T W ow o d)
    (hbase : attributeBase o name X.env (eval o X.env) = eval o X.env := by rfl) (hline : (apos.endLine == cpos.line) = true := by rfl) : DX X T fr W ow (.Call (.Attribute o name apos) [] [] cpos) (xMeth f (xTy ty d) aNil) :=
  (pe_bm0 pa slot hty hm ho hbase hline).imp fun σ H Q ⟨H0, F0, env, F, l, w⟩ => by
    refine ⟨H0, F0, env, F, l, wpR_mono (wpR_bnd.mp (wpR_bnd.mp w)) (fun p w1 v H1 F1 e1 r1 => ?_) fun _ z => z⟩
    obtain ⟨t, w2⟩ := wpR_if w1
    refine ⟨tyP_ok (r1.live e1.wf) t, ?_⟩
    obtain ⟨z, hz, w3⟩ := wpR_ofO w2
    exact hf H1 F1 v [] p [] z Q e1.wf r1 .nil hz fun v H' F' e3 rt => w3 v H' F' (e1.trans e3) (rt.back e1)
theorem dx_bm {ty id : String} {name : Str} {apos cpos : Pos} {f : PV → List PV → Option PV} {r : V → List V → Hp → VK → Prop} (pa : PlainAttrs ty) (slot : Slot ty name id) (hty : typeOf (.builtin id) = pure (.type "method_descriptor")) (hm : MtR X id r) (hf : MethS X.mg X.K T fr ty r f) (ho : DR X T W ow o d) (ha : DAR X T W ow (e :: es) ds)
    (hbase : attributeBase o name X.env (eval o X.env) = eval o X.env := by rfl)
    (hfew : ((backTo cpos (starEach (e :: es) X.env)).all (fun x => !x.1) && (backToKw cpos (keywordEach [] X.env)).all (fun x => x.1.isSome)
      && decide ((e :: es).length + ([] : List Keyword).length + (if ([] : List Keyword).isEmpty then 0 else 1) < 30)) = true := by rfl)
    (hline : (apos.endLine == cpos.line) = true := by rfl) (hs : starEach (e :: es) X.env = (false, eval e X.env) :: starEach es X.env := by rfl) (hplain : (backTo cpos (starEach es X.env)).any (·.1) = false := by rfl) :
    DX X T fr W ow (.Call (.Attribute o name apos) (e :: es) [] cpos) (xMeth f (xTy ty d) ds) :=
  (pe_bm pa slot hty hm ho ha hbase hfew hline hs hplain).imp fun σ H Q ⟨H0, F0, env, F, l, w⟩ => by
    refine ⟨H0, F0, env, F, l, wpR_mono (wpR_bnd.mp (wpR_bnd.mp w)) (fun p w1 v H1 F1 e1 r1 => ?_) fun _ z => z⟩
    obtain ⟨t, w1⟩ := wpR_if w1
    refine ⟨tyP_ok (r1.live e1.wf) t, ?_⟩
    refine ⟨H0, F0, env, F1, l.grow e1, wpR_mono (wpR_bnd.mp w1) (fun ps w2 vs H2 F2 e2 rs => ?_) fun _ z cls dd H' F' e => z cls dd H' F' (e1.trans e)⟩
    obtain ⟨z, hz, w3⟩ := wpR_ofO w2
    exact hf H2 F2 v vs p ps z Q e2.wf (r1.ext e2) rs hz fun v H' F' e3 rt => w3 v H' F' ((e1.trans e2).trans e3) (rt.back (e1.trans e2))

/-! ### slices -/
def tO (g : Str → Option Value) (K : PySem.W.Frag) (T : Addr → Prop) (W : WX) (ow : List Bool) (d : PEnv → Res (Option Int)) : TO := fun σ H Q => ∃ H0 F0 env F, Sta g K T H0 F0 ow env σ H F ∧
  wpR (d env) (fun i => ∀ H' F', Ext T H F H' F' → Q i H') (fun x => ∀ cls dd H' F', Ext T H F H' F' → RepX g K F' cls dd x → W cls dd σ H')
abbrev DO (X : Cx) (T : Addr → Prop) (W : WX) (ow : List Bool) (e : Option Expr) (d : PEnv → Res (Option Int)) : Prop := PO X e (tO X.mg X.K T W ow d)
def oNone : PEnv → Res (Option Int) := fun _ => .ok none
def oSome (d : PEnv → Res PV) : PEnv → Res (Option Int) := fun env => (d env).bnd fun p => match p with
  | .int i => .ok (some i)
  | _ => .bad
theorem _root_.L2.PO.imp {X : Cx} {e : Option Expr} {t t' : TO} (h : PO X e t) (i : ∀ σ H Q, t' σ H Q → t σ H Q) : PO X e t' := ⟨fun pins s σ H Q I w => h.run pins s σ H Q I (i _ _ _ w)⟩
theorem do_none : DO X T W ow none oNone := po_none.imp fun σ H Q ⟨H0, F0, env, F, l, w⟩ => w H F (.refl l.wf)
theorem do_some (h : DE X T W ow e d) : DO X T W ow (some e) (oSome d) := (po_some h).imp fun σ H Q ⟨H0, F0, env, F, l, w⟩ => by
  refine ⟨H0, F0, env, F, l, wpR_mono (wpR_bnd.mp w) (fun p w1 v H1 F1 e1 r1 => ?_) fun _ z => z⟩
  cases p with
  | int i => cases r1; exact ⟨i, rfl, w1 H1 F1 e1⟩
  | _ => exact w1.elim
def xSl (f : PV → Option Int → Option Int → Option PV) (d : PEnv → Res PV) (lo hi : PEnv → Res (Option Int)) : PEnv → Res PV := fun env => (d env).bnd fun p => (lo env).bnd fun i => (hi env).bnd fun j => ofO (f p i j)
def SlS (g : Str → Option Value) (K : PySem.W.Frag) (T : Addr → Prop) (fr : Bool) (r : V → Option Int → Option Int → Hp → VK → Prop) (f : PV → Option Int → Option Int → Option PV) : Prop := ∀ (H F : Hp) (x : V) (lo hi : Option Int) (p z : PV) (Q : VK), Wf T H F → RepT g K T H F x p →
  f p lo hi = some z → (∀ v H' F', Ext T H F H' F' → Rt g K fr H H' F' v z → Q v H') → r x lo hi H Q
theorem dx_slice {lo hi : Option Expr} {p2 : Pos} {dl dh : PEnv → Res (Option Int)} {f : PV → Option Int → Option Int → Option PV} {r : V → Option Int → Option Int → Hp → VK → Prop} (hr : SlR X r) (hf : SlS X.mg X.K T fr r f) (he : DR X T W ow e d) (hl : DO X T W ow lo dl) (hu : DO X T W ow hi dh) :
    DX X T fr W ow (.Subscript e (.Slice lo hi none p2) pos) (xSl f d dl dh) :=
  (pe_slice hr he hl hu).imp fun σ H Q ⟨H0, F0, env, F, l, w⟩ => by
    refine ⟨H0, F0, env, F, l, wpR_mono (wpR_bnd.mp w) (fun p w1 v H1 F1 e1 r1 => ?_) fun _ z => z⟩
    refine ⟨H0, F0, env, F1, l.grow e1, wpR_mono (wpR_bnd.mp w1) (fun i w2 H2 F2 e2 => ?_) fun _ z cls dd H' F' e => z cls dd H' F' (e1.trans e)⟩
    have e12 := e1.trans e2
    refine ⟨H0, F0, env, F2, l.grow e12, wpR_mono (wpR_bnd.mp w2) (fun j w3 H3 F3 e3 => ?_) fun _ z cls dd H' F' e => z cls dd H' F' (e12.trans e)⟩
    obtain ⟨z, hz, w4⟩ := wpR_ofO w3
    have e13 := e12.trans e3
    exact hf H3 F3 v i j p z Q e3.wf ((r1.ext e2).ext e3) hz fun v H' F' e4 rt => w4 v H' F' (e13.trans e4) (rt.back e13)

/-! ### fields of instances -/
def pyFld (f : Str) : PV → Option PV
  | .obj _ fs => fs.lookup f
  | _ => none
def xFld (f : Str) (d : PEnv → Res PV) : PEnv → Res PV := fun env => (d env).bnd fun p => ofO (pyFld f p)
/-- the field's owner's class is C, whatever object of this class stands there -/
def clsP (c : Str) : PV → Bool
  | .obj c' _ => c' == c
  | _ => false
def xCls (c : Str) (d : PEnv → Res PV) : PEnv → Res PV := fun env => (d env).bnd fun p => if clsP c p = true then .ok p else .bad
theorem RepF.look {g : Str → Option Value} {K : PySem.W.Frag} {F : Hp} {f : Str} {z : PV} : ∀ {vs : List (Str × V)} {fs : List (Str × PV)}, RepF g K F vs fs → fs.lookup f = some z → ∃ v, vs.lookup f = some v ∧ Rep g K F v z
  | _, _, .nil, h => by cases h
  | _, _, .cons (k := k) r t, h => by
    rw [List.lookup_cons] at h ⊢
    cases hb : f == k with
    | true => rw [hb] at h; cases h; exact ⟨_, rfl, r⟩
    | false => rw [hb] at h; exact RepF.look t h
theorem RepT.obj {g : Str → Option Value} {K : PySem.W.Frag} {H F : Hp} {v : V} {c : Str} {fs : List (Str × PV)} (w : Wf T H F) (h : RepT g K T H F v (.obj c fs)) : ∃ a C dx vs, v = .ref a ∧ g c = some (.ref C) ∧ H a = some (.ins C dx vs) ∧ RepF g K F vs fs := by
  rcases h with h | ⟨a, o, rfl, h2, h3, h4⟩
  · cases h with
    | obj h1 h2 h3 => exact ⟨_, _, _, _, rfl, h1, w.fh _ _ h2, h3⟩
  · cases h3 with
    | obj h1 r => exact ⟨_, _, _, _, rfl, h1, h2, r⟩
theorem de_fld {f c : Str} {C : Addr} (ho : DR X T W ow o d) (hC : X.mg c = some (.ref C)) (hc : Cls X.K C) (hn : NoAttr X.K C f) (hb : attributeBase o f X.env (eval o X.env) = eval o X.env := by rfl) : DE X T W ow (.Attribute o f pos) (xFld f (xCls c d)) :=
  (pe_fld ho hb).imp fun σ H Q ⟨H0, F0, env, F, l, w⟩ => by
    refine ⟨H0, F0, env, F, l, wpR_mono (wpR_bnd.mp (wpR_bnd.mp w)) (fun p w1 v H1 F1 e1 r1 => ?_) fun _ z => z⟩
    obtain ⟨t, w1⟩ := wpR_if w1
    obtain ⟨z, hz, w2⟩ := wpR_ofO w1
    cases p with
    | obj c' fs =>
      have ec : c' = c := by simpa [clsP] using t
      subst ec
      obtain ⟨a, C', dx, vs, rfl, h1, h2, h3⟩ := r1.obj e1.wf
      rw [hC] at h1; cases h1
      obtain ⟨u, hu, ru⟩ := h3.look hz
      exact ⟨a, C, dx, vs, u, rfl, h2, hc, hn, hu, w2 u H1 F1 e1 ru⟩
    | _ => cases hz
end
end D
end

section
set_option Elab.async false
set_option linter.all false
set_option maxRecDepth 100000
set_option maxHeartbeats 1000000
namespace D
open PySem PySem.Spec PyProof.Rows L2

/-- what a statement comes to -/
inductive SR where
  | nx (env : PEnv) | rt (v : PV) | bk (env : PEnv) | ct (env : PEnv) | er (x : XV) (env : PEnv) | bad

def le (ow' ow : List Bool) : Prop := ∀ i : Nat, ow'[i]? = some true → ow[i]? = some true
def leB (ow' ow : List Bool) : Bool := (List.range ow'.length).all fun i => !(ow'[i]? == some true) || (ow[i]? == some true)
theorem le_of {ow' ow : List Bool} (h : leB ow' ow = true) : le ow' ow := fun i hi => by
  unfold leB at h
  rw [List.all_eq_true] at h
  have hl : i < ow'.length := (List.getElem?_eq_some_iff.mp hi).1
  have := h i (List.mem_range.mpr hl)
  rw [hi] at this
  simpa using this
theorem le_refl (ow : List Bool) : le ow ow := fun _ h => h

section
variable {g : Str → Option Value} {K : PySem.W.Frag} {T : Addr → Prop} {H0 F0 H F H1 F1 : Hp} {ow ow' : List Bool} {env : PEnv} {σ : L2.St} {v : V} {x : PV} {i : Nat}
open Classical in
/-- slots are frozen -/
theorem Sta.weak (l : Sta g K T H0 F0 ow env σ H F) (h : le ow' ow) : ∃ F', Same F F' ∧ Sta g K T H0 F0 ow' env σ H F' := by
  let fz : Addr → Prop := fun a => ∃ (i : Nat) (x : PV), env[i]? = some (some x) ∧ ow[i]? = some true ∧ ow'[i]? ≠ some true ∧ σ[i]? = some (some (V.ref a))
  let F' : Hp := fun a => if fz a then H a else F a
  have fzH : ∀ a, fz a → ∃ o, H a = some o ∧ H0 a = none ∧ F a = none ∧ ¬ T a := fun a ⟨i, x, h1, h2, h3, h4⟩ => by
    obtain ⟨b, o, e1, e2, e3, e4, e5, e6⟩ := l.own i x h1 h2
    rw [h4] at e1; cases e1
    exact ⟨o, e2, e4, e5, e6⟩
  have sF : Same F F' := fun a o e => by
    show (if fz a then H a else F a) = some o
    by_cases q : fz a
    · rw [if_pos q]; exact l.ext.fh a o e
    · rw [if_neg q]; exact e
  refine ⟨F', sF, ⟨l.ext.tabs, l.ext.h, l.ext.f.trans sF, fun a o e => ?_, fun a t => ?_, fun a h1 h2 => ?_⟩, l.len, fun i x e n => ?_, fun i x e n => ?_, fun i j x y a h1 h2 => l.dist i j x y a (h i h1) (h j h2)⟩
  · have e : (if fz a then H a else F a) = some o := e
    by_cases q : fz a
    · rw [if_pos q] at e; exact e
    · rw [if_neg q] at e; exact l.ext.fh a o e
  · show (if fz a then H a else F a) = none
    rw [if_neg (fun q => by obtain ⟨o, _, _, _, nt⟩ := fzH a q; exact nt t)]
    exact l.ext.ft a t
  · show (if fz a then H a else F a) = none
    rw [if_neg (fun q => by obtain ⟨o, _, z, _⟩ := fzH a q; exact h1 z)]
    exact l.ext.new a h1 h2
  · by_cases q : ow[i]? = some true
    · obtain ⟨a, o, e1, e2, e3, e4, e5, e6⟩ := l.own i x e q
      refine ⟨_, e1, (e3.mono sF).rep ?_⟩
      show (if fz a then H a else F a) = some o
      rw [if_pos ⟨i, x, e, q, n, e1⟩]; exact e2
    · obtain ⟨v, e1, e2⟩ := l.slot i x e q
      exact ⟨v, e1, e2.mono sF⟩
  · obtain ⟨a, o, e1, e2, e3, e4, e5, e6⟩ := l.own i x e (h i n)
    refine ⟨a, o, e1, e2, e3.mono sF, e4, ?_, e6⟩
    show (if fz a then H a else F a) = none
    rw [if_neg]
    · exact e5
    · rintro ⟨j, y, f1, f2, f3, f4⟩
      have := l.dist i j x y a (h i n) f2 e f1 e1 f4
      subst this
      exact f3 n
/-- a slot takes a frozen value -/
theorem Sta.setE (l : Sta g K T H0 F0 ow env σ H F) (r : Rep g K F v x) : Sta g K T H0 F0 (ow.set i false) (env.set i (some x)) (σ.set i (some v)) H F := by
  refine ⟨l.ext, by rw [List.length_set, List.length_set]; exact l.len, fun j y e n => ?_, fun j y e n => ?_, fun j k y z a h1 h2 e1 e2 s1 s2 => ?_⟩
  · by_cases hj : i = j
    · subst hj
      have hi : i < env.length := by
        have := (List.getElem?_eq_some_iff.mp e).1
        rwa [List.length_set] at this
      rw [List.getElem?_set_self hi] at e
      cases e
      exact ⟨v, List.getElem?_set_self (by rw [l.len]; exact hi), r⟩
    · rw [List.getElem?_set_ne hj] at e n ⊢
      exact l.slot j y e n
  · by_cases hj : i = j
    · subst hj
      by_cases hi : i < ow.length
      · rw [List.getElem?_set_self hi] at n; cases n
      · rw [List.getElem?_eq_none (by rw [List.length_set]; omega)] at n; cases n
    · rw [List.getElem?_set_ne hj] at e n ⊢
      exact l.own j y e n
  · have ne : ∀ j, (ow.set i false)[j]? = some true → i ≠ j := fun j n hj => by
      subst hj
      by_cases hi : i < ow.length
      · rw [List.getElem?_set_self hi] at n; cases n
      · rw [List.getElem?_eq_none (by rw [List.length_set]; omega)] at n; cases n
    have n1 := ne j h1
    have n2 := ne k h2
    rw [List.getElem?_set_ne n1] at h1 e1 s1
    rw [List.getElem?_set_ne n2] at h2 e2 s2
    exact l.dist j k y z a h1 h2 e1 e2 s1 s2
/-- a slot takes a new object -/
theorem Sta.setF {o : HO} {a : Addr} (l : Sta g K T H0 F0 ow env σ H F) (e : Ext T H F H1 F1) (h1 : H1 a = some o) (r : RepO g K F1 o x) (h0 : H a = none) (hf : F1 a = none) (hil : i < ow.length) :
    Sta g K T H0 F0 (ow.set i true) (env.set i (some x)) (σ.set i (some (.ref a))) H1 F1 := by
  have l1 := l.grow e
  have nt : ¬ T a := noT e.tabs h1 r.notTbl
  have h00 : H0 a = none := by
    cases q : H0 a with
    | none => rfl
    | some u => rw [l.ext.h a u nt q] at h0; cases h0
  have nown : ∀ (j : Nat) y, env[j]? = some (some y) → ow[j]? = some true → σ[j]? ≠ some (some (V.ref a)) := fun j y e1 e2 e3 => by
    obtain ⟨b, u, f1, f2, _⟩ := l.own j y e1 e2
    rw [e3] at f1; cases f1
    rw [f2] at h0; cases h0
  refine ⟨l1.ext, by rw [List.length_set, List.length_set]; exact l.len, fun j y e n => ?_, fun j y e n => ?_, fun j k y z b q1 q2 e1 e2 s1 s2 => ?_⟩
  · by_cases hj : i = j
    · subst hj
      have hi : i < env.length := by
        have := (List.getElem?_eq_some_iff.mp e).1
        rwa [List.length_set] at this
      rw [List.getElem?_set_self hi] at e
      cases e
      rw [List.getElem?_set_self hil] at n
      exact absurd rfl n
    · rw [List.getElem?_set_ne hj] at e n ⊢
      exact l1.slot j y e n
  · by_cases hj : i = j
    · subst hj
      have hi : i < env.length := by
        have := (List.getElem?_eq_some_iff.mp e).1
        rwa [List.length_set] at this
      rw [List.getElem?_set_self hi] at e
      cases e
      exact ⟨a, o, List.getElem?_set_self (by rw [l.len]; exact hi), h1, r, h00, hf, nt⟩
    · rw [List.getElem?_set_ne hj] at e n ⊢
      exact l1.own j y e n
  · by_cases hj : i = j
    · by_cases hk : i = k
      · exact hj.symm.trans hk
      · subst hj
        rw [List.getElem?_set_ne hk] at q2 e2 s2
        have hi : i < σ.length := by
          have := (List.getElem?_eq_some_iff.mp s1).1
          rwa [List.length_set] at this
        rw [List.getElem?_set_self hi] at s1
        cases s1
        exact absurd s2 (nown k z e2 q2)
    · rw [List.getElem?_set_ne hj] at q1 e1 s1
      by_cases hk : i = k
      · subst hk
        have hi : i < σ.length := by
          have := (List.getElem?_eq_some_iff.mp s2).1
          rwa [List.length_set] at this
        rw [List.getElem?_set_self hi] at s2
        cases s2
        exact absurd s1 (nown j y e1 q1)
      · rw [List.getElem?_set_ne hk] at q2 e2 s2
        exact l.dist j k y z b q1 q2 e1 e2 s1 s2
end

/-! ### statements -/
def tS (g : Str → Option Value) (K : PySem.W.Frag) (T : Addr → Prop) (W : WX) (fr : Bool) (oe ol ow : List Bool) (d : PEnv → SR) (ow' : List Bool) : TS := fun D σ H => ∃ H0 F0 env F, Sta g K T H0 F0 ow env σ H F ∧
  match d env with
  | .nx e => ∀ σ' H' F', Sta g K T H0 F0 ow' e σ' H' F' → D.nx σ' H'
  | .rt v => ∀ u H' F', Ext T H0 F0 H' F' → Rt g K fr H0 H' F' u v → D.rt u H'
  | .bk e => ∀ σ' H' F', Sta g K T H0 F0 ol e σ' H' F' → D.bk σ' H'
  | .ct e => ∀ σ' H' F', Sta g K T H0 F0 ol e σ' H' F' → D.ct σ' H'
  | .er x e => ∀ cls dd σ' H' F', Sta g K T H0 F0 oe e σ' H' F' → RepX g K F' cls dd x → W cls dd σ' H'
  | .bad => False
theorem _root_.L2.PS.imp {X : Cx} {e : Stmt} {t t' : TS} (h : PS X e t) (i : ∀ D σ H, t' D σ H → t D σ H) : PS X e t' := ⟨fun pins s σ H Q I w => h.run pins s σ H Q I (i _ _ _ w)⟩
theorem _root_.L2.PSs.imp {X : Cx} {e : List Stmt} {t t' : TS} (h : PSs X e t) (i : ∀ D σ H, t' D σ H → t D σ H) : PSs X e t' := ⟨fun pins s σ H Q I w => h.run pins s σ H Q I (i _ _ _ w)⟩
abbrev DS (X : Cx) (T : Addr → Prop) (W : WX) (fr : Bool) (oe ol ow : List Bool) (s : Stmt) (d : PEnv → SR) (ow' : List Bool) : Prop := PS X s (tS X.mg X.K T W fr oe ol ow d ow')
abbrev DSs (X : Cx) (T : Addr → Prop) (W : WX) (fr : Bool) (oe ol ow : List Bool) (s : List Stmt) (d : PEnv → SR) (ow' : List Bool) : Prop := PSs X s (tS X.mg X.K T W fr oe ol ow d ow')

/-- a value, then what is done with it -/
def sWith (d : PEnv → Res PV) (k : PV → PEnv → SR) : PEnv → SR := fun env => match d env with
  | .ok p => k p env
  | .err x => .er x env
  | .bad => .bad
def sWithB (d : PEnv → Res Bool) (k : Bool → PEnv → SR) : PEnv → SR := fun env => match d env with
  | .ok p => k p env
  | .err x => .er x env
  | .bad => .bad
section
variable {X : Cx} {T : Addr → Prop} {W : WX} {oe ol ow ow' ow1 ow2 : List Bool} {fr : Bool} {e a b c : Expr} {st : Stmt} {rest s1 s2 : List Stmt} {d da db dc : PEnv → Res PV} {t : PEnv → Res Bool} {k k1 k2 : PEnv → SR} {pos : Pos}

/-- what is wanted of the end of a statement -/
def want (g : Str → Option Value) (K : PySem.W.Frag) (T : Addr → Prop) (W : WX) (fr : Bool) (oe ol ow' : List Bool) (H0 F0 : Hp) (D : Ends) : SR → Prop
  | .nx e => ∀ σ' H' F', Sta g K T H0 F0 ow' e σ' H' F' → D.nx σ' H'
  | .rt v => ∀ u H' F', Ext T H0 F0 H' F' → Rt g K fr H0 H' F' u v → D.rt u H'
  | .bk e => ∀ σ' H' F', Sta g K T H0 F0 ol e σ' H' F' → D.bk σ' H'
  | .ct e => ∀ σ' H' F', Sta g K T H0 F0 ol e σ' H' F' → D.ct σ' H'
  | .er x e => ∀ cls dd σ' H' F', Sta g K T H0 F0 oe e σ' H' F' → RepX g K F' cls dd x → W cls dd σ' H'
  | .bad => False
theorem tS_iff {g : Str → Option Value} {K : PySem.W.Frag} {D : Ends} {σ : L2.St} {H : Hp} {d : PEnv → SR} : tS g K T W fr oe ol ow d ow' D σ H ↔ ∃ H0 F0 env F, Sta g K T H0 F0 ow env σ H F ∧ want g K T W fr oe ol ow' H0 F0 D (d env) := by
  unfold tS
  constructor
  · rintro ⟨H0, F0, env, F, l, w⟩
    refine ⟨H0, F0, env, F, l, ?_⟩
    cases h : d env <;> rw [h] at w <;> exact w
  · rintro ⟨H0, F0, env, F, l, w⟩
    refine ⟨H0, F0, env, F, l, ?_⟩
    cases h : d env <;> rw [h] at w <;> exact w
/-- an exception of an expression is one of the statement -/
theorem err_up {g : Str → Option Value} {K : PySem.W.Frag} {D : Ends} {H0 F0 H F : Hp} {env : PEnv} {σ : L2.St} {x : XV} (l : Sta g K T H0 F0 ow env σ H F) (ho : le oe ow) (w : want g K T W fr oe ol ow' H0 F0 D (.er x env)) :
    ∀ cls dd H' F', Ext T H F H' F' → RepX g K F' cls dd x → W cls dd σ H' := fun cls dd H' F' e r => by
  obtain ⟨F2, sF, l2⟩ := (l.grow e).weak ho
  refine w cls dd σ H' F2 l2 ?_
  obtain ⟨C, e1, e2, e3⟩ := r
  refine ⟨C, e1, e2, ?_⟩
  rcases e3 with e3 | ⟨dd', vs, e3, e4, e5⟩
  · exact .inl e3
  · exact .inr ⟨dd', vs, e3, sF _ _ e4, e5.mono sF⟩

theorem dss_nil : DSs X T W fr oe ol ow [] .nx ow := pss_nil.imp fun D σ H w => by
  obtain ⟨H0, F0, env, F, l, w⟩ := tS_iff.mp w
  exact w σ H F l
def sSeq (k1 k2 : PEnv → SR) : PEnv → SR := fun env => match k1 env with
  | .nx e => k2 e
  | r => r
theorem seq_ok {g : Str → Option Value} {K : PySem.W.Frag} {D : Ends} {σ : L2.St} {H : Hp} (w : tS g K T W fr oe ol ow (sSeq k1 k2) ow2 D σ H) : tSeq (tS g K T W fr oe ol ow k1 ow1) (tS g K T W fr oe ol ow1 k2 ow2) D σ H := by
  obtain ⟨H0, F0, env, F, l, w⟩ := tS_iff.mp w
  refine tS_iff.mpr ⟨H0, F0, env, F, l, ?_⟩
  unfold sSeq at w
  cases h : k1 env with
  | nx e =>
    rw [h] at w
    intro σ' H' F' l'
    exact tS_iff.mpr ⟨H0, F0, e, F', l', w⟩
  | rt v => rw [h] at w; exact w
  | bk e => rw [h] at w; exact w
  | ct e => rw [h] at w; exact w
  | er x e => rw [h] at w; exact w
  | bad => rw [h] at w; exact w
theorem dss_cons (h1 : DS X T W fr oe ol ow st k1 ow1) (h2 : DSs X T W fr oe ol ow1 rest k2 ow2) : DSs X T W fr oe ol ow (st :: rest) (sSeq k1 k2) ow2 := (pss_cons h1 h2).imp fun D σ H w => seq_ok w
theorem dss_one (h1 : DS X T W fr oe ol ow st k1 ow1) : DSs X T W fr oe ol ow [st] k1 ow1 := pss_one h1
/-- slots are frozen behind -/
theorem want.weak {g : Str → Option Value} {K : PySem.W.Frag} {D : Ends} {H0 F0 : Hp} {r : SR} (h : le ow2 ow1) (w : want g K T W fr oe ol ow2 H0 F0 D r) : want g K T W fr oe ol ow1 H0 F0 D r := by
  cases r with
  | nx e =>
    intro σ' H' F' l
    obtain ⟨F2, _, l2⟩ := l.weak h
    exact w σ' H' F2 l2
  | _ => exact w
theorem dss_weak (h1 : DSs X T W fr oe ol ow rest k ow1) (h : leB ow2 ow1 = true) : DSs X T W fr oe ol ow rest k ow2 := h1.imp fun D σ H w => by
  obtain ⟨H0, F0, env, F, l, w⟩ := tS_iff.mp w
  exact tS_iff.mpr ⟨H0, F0, env, F, l, w.weak (le_of h)⟩
/-- slots are frozen ahead -/
theorem ds_pre (h1 : DS X T W fr oe ol ow1 st k ow') (h : leB ow1 ow = true) : DS X T W fr oe ol ow st k ow' := h1.imp fun D σ H w => by
  obtain ⟨H0, F0, env, F, l, w⟩ := tS_iff.mp w
  obtain ⟨F2, _, l2⟩ := l.weak (le_of h)
  exact tS_iff.mpr ⟨H0, F0, env, F2, l2, w⟩

theorem ds_pass : DS X T W fr oe ol ow (.Pass pos) .nx ow := ps_pass.imp fun D σ H w => by
  obtain ⟨H0, F0, env, F, l, w⟩ := tS_iff.mp w
  exact w σ H F l
theorem ds_break (h : leB ol ow = true) : DS X T W fr oe ol ow (.Break pos) .bk ow' := ps_break.imp fun D σ H w => by
  obtain ⟨H0, F0, env, F, l, w⟩ := tS_iff.mp w
  obtain ⟨F2, _, l2⟩ := l.weak (le_of h)
  exact w σ H F2 l2
theorem ds_continue (h : leB ol ow = true) : DS X T W fr oe ol ow (.Continue pos) .ct ow' := ps_continue.imp fun D σ H w => by
  obtain ⟨H0, F0, env, F, l, w⟩ := tS_iff.mp w
  obtain ⟨F2, _, l2⟩ := l.weak (le_of h)
  exact w σ H F2 l2
/-- a value is thrown away -/
def sDrop (d : PEnv → Res PV) : PEnv → SR := sWith d fun _ => .nx
theorem ds_expr (he : DX X T false W ow e d) (ho : leB oe ow = true) (hs : swapsWith e none pos.line X.env = pure false := by rfl) : DS X T W fr oe ol ow (.Expr e pos) (sDrop d) ow := (ps_expr he hs).imp fun D σ H w => by
  obtain ⟨H0, F0, env, F, l, w⟩ := tS_iff.mp w
  refine ⟨H0, F0, env, F, l, ?_⟩
  unfold sDrop sWith at w
  cases h : d env with
  | ok p => rw [h] at w; exact fun v H' F' x _ => w σ H' F' (l.grow x)
  | err x => rw [h] at w; exact err_up l (le_of ho) w
  | bad => rw [h] at w; exact w
/-- return -/
def sRet (d : PEnv → Res PV) : PEnv → SR := sWith d fun v _ => .rt v
theorem ds_ret (he : DX X T fr W ow e d) (ho : leB oe ow = true) : DS X T W fr oe ol ow (.Return (some e) pos) (sRet d) ow' := (ps_ret he).imp fun D σ H w => by
  obtain ⟨H0, F0, env, F, l, w⟩ := tS_iff.mp w
  refine ⟨H0, F0, env, F, l, ?_⟩
  unfold sRet sWith at w
  cases h : d env with
  | ok p =>
    rw [h] at w
    exact fun v H' F' x rt => w v H' F' (l.ext.trans x) (rt.back l.ext)
  | err x => rw [h] at w; exact err_up l (le_of ho) w
  | bad => rw [h] at w; exact w
/-- return of an owned name -/
theorem ds_retOwn {i : Nat} {x : Str} {p : Pos} (h : PE X (.Name x p) (tVar i)) (hi : (ow[i]? == some true) = true) : DS X T W true oe ol ow (.Return (some (.Name x p)) pos) (sRet (xVar i)) ow' := (ps_ret h).imp fun D σ H w => by
  obtain ⟨H0, F0, env, F, l, w⟩ := tS_iff.mp w
  unfold sRet sWith xVar at w
  cases q : env[i]? with
  | none => simp only [q] at w; exact w.elim
  | some o =>
    cases o with
    | none => simp only [q] at w; exact w.elim
    | some z =>
      simp only [q] at w
      obtain ⟨a, o, e1, e2, e3, e4, e5, e6⟩ := l.own i z q (by simpa using hi)
      exact ⟨_, e1, w _ H F l.ext ⟨a, o, rfl, e2, e3, e4, e5⟩⟩
theorem ds_retN : DS X T W false oe ol ow (.Return none pos) (fun _ => .rt .non) ow' := ps_retN.imp fun D σ H w => by
  obtain ⟨H0, F0, env, F, l, w⟩ := tS_iff.mp w
  exact w .non H F l.ext .non
/-- if -/
def sIf (t : PEnv → Res Bool) (k1 k2 : PEnv → SR) : PEnv → SR := sWithB t fun b => if b = true then k1 else k2
theorem ds_if (hc : DT X T W ow c t) (h1 : DSs X T W fr oe ol ow s1 k1 ow') (h2 : DSs X T W fr oe ol ow s2 k2 ow') (ho : leB oe ow = true) : DS X T W fr oe ol ow (.If c s1 s2 pos) (sIf t k1 k2) ow' := (ps_if hc h1 h2).imp fun D σ H w => by
  obtain ⟨H0, F0, env, F, l, w⟩ := tS_iff.mp w
  refine ⟨H0, F0, env, F, l, ?_⟩
  unfold sIf sWithB at w
  cases h : t env with
  | ok p =>
    rw [h] at w
    intro H' F' x
    cases p with
    | true => exact tS_iff.mpr ⟨H0, F0, env, F', l.grow x, w⟩
    | false => exact tS_iff.mpr ⟨H0, F0, env, F', l.grow x, w⟩
  | err x => rw [h] at w; exact err_up l (le_of ho) w
  | bad => rw [h] at w; exact w
/-- name = value -/
def sSet (i : Nat) (d : PEnv → Res PV) : PEnv → SR := sWith d fun v env => .nx (env.set i (some v))
theorem setE_ok {i : Nat} {D : Ends} {σ : L2.St} {H : Hp} (ho : leB oe ow = true) (w : tS X.mg X.K T W fr oe ol ow (sSet i d) (ow.set i false) D σ H) : tAsg (tE X.mg X.K T false W ow d) (gName i) D σ H := by
  obtain ⟨H0, F0, env, F, l, w⟩ := tS_iff.mp w
  refine ⟨H0, F0, env, F, l, ?_⟩
  unfold sSet sWith at w
  cases h : d env with
  | ok p => rw [h] at w; exact fun v H' F' x rt => w _ H' F' ((l.grow x).setE rt)
  | err x => rw [h] at w; exact err_up l (le_of ho) w
  | bad => rw [h] at w; exact w
theorem setF_ok {i : Nat} {D : Ends} {σ : L2.St} {H : Hp} (hi : i < ow.length) (ho : leB oe ow = true) (w : tS X.mg X.K T W fr oe ol ow (sSet i d) (ow.set i true) D σ H) : tAsg (tE X.mg X.K T true W ow d) (gName i) D σ H := by
  obtain ⟨H0, F0, env, F, l, w⟩ := tS_iff.mp w
  refine ⟨H0, F0, env, F, l, ?_⟩
  unfold sSet sWith at w
  cases h : d env with
  | ok p =>
    rw [h] at w
    rintro v H' F' x ⟨a, o, rfl, h1, h2, h3, h4⟩
    exact w _ H' F' (l.setF x h1 h2 h3 h4 hi)
  | err x => rw [h] at w; exact err_up l (le_of ho) w
  | bad => rw [h] at w; exact w
theorem ds_set {i : Nat} {x : Str} {pos' : Pos} (hN : X.N.Nodup) (hi : X.N[i]? = some x) (hx : Loc X.env.scope x) (he : DX X T false W ow e d) (ho : leB oe ow = true := by rfl) (hs : swapsWith e (some (.Name x pos')) pos.line X.env = pure false := by rfl)
    (hf : X.fn x = true ∨ X.env.scope.names.lookup x = some .local := by first | exact .inl rfl | exact .inr rfl | assumption) : DS X T W fr oe ol ow (.Assign [.Name x pos'] e pos) (sSet i d) (ow.set i false) := (ps_set hN hi hx he hs hf).imp fun _ _ _ w => setE_ok ho w
theorem ds_setF {i : Nat} {x : Str} {pos' : Pos} (hN : X.N.Nodup) (hi : X.N[i]? = some x) (hx : Loc X.env.scope x) (he : DX X T true W ow e d) (hl : i < ow.length := by decide) (ho : leB oe ow = true := by rfl) (hs : swapsWith e (some (.Name x pos')) pos.line X.env = pure false := by rfl)
    (hf : X.fn x = true ∨ X.env.scope.names.lookup x = some .local := by first | exact .inl rfl | exact .inr rfl | assumption) : DS X T W fr oe ol ow (.Assign [.Name x pos'] e pos) (sSet i d) (ow.set i true) := (ps_set hN hi hx he hs hf).imp fun _ _ _ w => setF_ok hl ho w
end
end D
end

section
set_option Elab.async false
set_option linter.all false
set_option maxRecDepth 100000
set_option maxHeartbeats 1000000
namespace D
open PySem PySem.Spec PyProof.Rows L2

/-! ### while -/
def whileF (t : PEnv → Res Bool) (k : PEnv → SR) : Nat → PEnv → SR
  | 0, _ => .bad
  | n + 1, env => match t env with
    | .ok true => match k env with
      | .nx e => whileF t k n e
      | .ct e => whileF t k n e
      | .bk e => .nx e
      | r => r
    | .ok false => .nx env
    | .err x => .er x env
    | .bad => .bad
theorem whileF_mono {t : PEnv → Res Bool} {k : PEnv → SR} : ∀ (n m : Nat) (env : PEnv), n ≤ m → whileF t k n env ≠ .bad → whileF t k m env = whileF t k n env
  | 0, _, _, _, h => absurd rfl h
  | n + 1, 0, _, hl, _ => absurd hl (by omega)
  | n + 1, m + 1, env, hl, h => by
    unfold whileF at h ⊢
    cases ht : t env with
    | ok b =>
      cases b with
      | true =>
        rw [ht] at h
        simp only at h ⊢
        cases hk : k env with
        | nx e => rw [hk] at h; exact whileF_mono n m e (by omega) h
        | ct e => rw [hk] at h; exact whileF_mono n m e (by omega) h
        | _ => rfl
      | false => rfl
    | err x => rfl
    | bad => rfl
open Classical in
noncomputable def sWhile (t : PEnv → Res Bool) (k : PEnv → SR) : PEnv → SR := fun env => if h : ∃ n, whileF t k n env ≠ .bad then whileF t k h.choose env else .bad
theorem sWhile_of {t : PEnv → Res Bool} {k : PEnv → SR} {env : PEnv} (n : Nat) (h : whileF t k n env ≠ .bad) : sWhile t k env = whileF t k n env := by
  have hx : ∃ n, whileF t k n env ≠ .bad := ⟨n, h⟩
  unfold sWhile
  rw [dif_pos hx]
  have h2 := hx.choose_spec
  rcases Nat.le_total n hx.choose with q | q
  · exact whileF_mono n _ env q h
  · exact (whileF_mono _ n env q h2).symm
theorem sWhile_get {t : PEnv → Res Bool} {k : PEnv → SR} {env : PEnv} (h : sWhile t k env ≠ .bad) : ∃ n, sWhile t k env = whileF t k n env := by
  unfold sWhile at h ⊢
  split at h
  · rename_i hx; exact ⟨_, by rw [dif_pos hx]⟩
  · exact absurd rfl h
/-- one turn -/
theorem sWhile_eq (t : PEnv → Res Bool) (k : PEnv → SR) (env : PEnv) : sWhile t k env = match t env with
    | .ok true => match k env with
      | .nx e => sWhile t k e
      | .ct e => sWhile t k e
      | .bk e => .nx e
      | r => r
    | .ok false => .nx env
    | .err x => .er x env
    | .bad => .bad := by
  have key : ∀ n, whileF t k (n + 1) env = match t env with
    | .ok true => match k env with
      | .nx e => whileF t k n e
      | .ct e => whileF t k n e
      | .bk e => .nx e
      | r => r
    | .ok false => .nx env
    | .err x => .er x env
    | .bad => .bad := fun n => rfl
  have fromN : ∀ (e : PEnv), (∀ n, whileF t k (n + 1) env = whileF t k n e) → sWhile t k env = sWhile t k e := fun e he => by
    by_cases h : ∃ n, whileF t k n e ≠ .bad
    · obtain ⟨n, hn⟩ := h
      rw [sWhile_of n hn, sWhile_of (n + 1) (by rw [he]; exact hn), he]
    · have h2 : ¬ ∃ n, whileF t k n env ≠ .bad := fun ⟨n, hn⟩ => by
        cases n with
        | zero => exact hn rfl
        | succ n => exact h ⟨n, by rw [← he]; exact hn⟩
      unfold sWhile
      rw [dif_neg h, dif_neg h2]
  have fromC : ∀ (r : SR), (∀ n, whileF t k (n + 1) env = r) → sWhile t k env = r := fun r hr => by
    by_cases h : r = .bad
    · subst h
      unfold sWhile
      rw [dif_neg]
      rintro ⟨n, hn⟩
      cases n with
      | zero => exact hn rfl
      | succ n => exact hn (hr n)
    · rw [sWhile_of 1 (by rw [hr]; exact h), hr]
  cases ht : t env with
  | ok b =>
    cases b with
    | true =>
      cases hk : k env with
      | nx e => exact fromN e fun n => by rw [key, ht, hk]
      | ct e => exact fromN e fun n => by rw [key, ht, hk]
      | bk e => exact fromC _ fun n => by rw [key, ht, hk]
      | rt v => exact fromC _ fun n => by rw [key, ht, hk]
      | er x e => exact fromC _ fun n => by rw [key, ht, hk]
      | bad => exact fromC _ fun n => by rw [key, ht, hk]
    | false => exact fromC _ fun n => by rw [key, ht]
  | err x => exact fromC _ fun n => by rw [key, ht]
  | bad => exact fromC _ fun n => by rw [key, ht]

section
variable {X : Cx} {T : Addr → Prop} {W : WX} {oe ol ow ow' ow1 ow2 : List Bool} {fr : Bool} {e a b c : Expr} {st : Stmt} {rest s1 s2 : List Stmt} {d da db dc : PEnv → Res PV} {t : PEnv → Res Bool} {k k1 k2 : PEnv → SR} {pos : Pos}
theorem ds_while (hp : PassesOwn (model X.prog X.w) X.A X.env X.xe) (hc : DT X T W ow c t) (hb : DSs X T W fr oe ow ow s1 k ow) (ho : leB oe ow = true := by rfl) : DS X T W fr oe ol ow (.While c s1 [] pos) (sWhile t k) ow :=
  (ps_while hp hc hb).imp fun D σ H w => by
    obtain ⟨H0, F0, env, F, l, w⟩ := tS_iff.mp w
    refine ⟨fun m σ H => ∃ env F, Sta X.mg X.K T H0 F0 ow env σ H F ∧ want X.mg X.K T W fr oe ol ow H0 F0 D (whileF t k m env), ?_, ?_⟩
    · have nb : sWhile t k env ≠ .bad := fun q => by rw [q] at w; exact w
      obtain ⟨n, hn⟩ := sWhile_get nb
      rw [hn] at w
      exact ⟨n, env, F, l, w⟩
    · rintro m σ H ⟨env, F, l, w⟩
      cases m with
      | zero => exact w.elim
      | succ n =>
        unfold whileF at w
        refine ⟨H0, F0, env, F, l, ?_⟩
        cases ht : t env with
        | ok b =>
          rw [ht] at w
          intro H1 F1 x
          cases b with
          | true =>
            rw [if_pos rfl]
            refine ⟨fun σ' H' => ∃ env F, Sta X.mg X.K T H0 F0 ow env σ' H' F ∧ want X.mg X.K T W fr oe ol ow H0 F0 D (whileF t k n env), fun σ' H' z => ⟨n, by omega, z⟩, ?_⟩
            refine tS_iff.mpr ⟨H0, F0, env, F1, l.grow x, ?_⟩
            simp only at w
            cases hk : k env with
            | nx e => rw [hk] at w; exact fun σ' H' F' l' => ⟨e, F', l', w⟩
            | ct e => rw [hk] at w; exact fun σ' H' F' l' => ⟨e, F', l', w⟩
            | bk e => rw [hk] at w; exact fun σ' H' F' l' => w σ' H' F' l'
            | rt v => rw [hk] at w; exact w
            | er x e => rw [hk] at w; exact w
            | bad => rw [hk] at w; exact w
          | false =>
            rw [if_neg Bool.false_ne_true]
            exact w σ H1 F1 (l.grow x)
        | err x => rw [ht] at w; exact err_up l (le_of ho) w
        | bad => rw [ht] at w; exact w

/-! ### what is walked -/
structure ItOk (g : Str → Option Value) (K : PySem.W.Frag) (T : Addr → Prop) (J : It) (xs : List PV) (G Gf : Hp) : Prop where
  stop : ∀ H, SameT T G H → J.stop xs.length H
  go : ∀ (i : Nat) H, i < xs.length → SameT T G H → J.go i H
  yld : ∀ (i : Nat) H F y v H', xs[i]? = some y → SameT T G H → Same Gf F → Wf T H F → J.yld i H v H' → ∃ F', Ext T H F H' F' ∧ Rep g K F' v y
def tI (g : Str → Option Value) (K : PySem.W.Frag) (T : Addr → Prop) (st : Bool) (W : WX) (ow : List Bool) (d : PEnv → Res (List PV)) : TI := fun σ H R => ∃ H0 F0 env F, Sta g K T H0 F0 ow env σ H F ∧
  wpR (d env) (fun xs => xs.length ≤ sizeLine ∧ ∀ J H' F', Ext T H F H' F' → ItOk g K T J xs (if st = true then F' else H') F' → R J H') (fun x => ∀ cls dd H' F', Ext T H F H' F' → RepX g K F' cls dd x → W cls dd σ H')
/-- a source of a for statement (its items stand still, whatever the body does); of a comprehension -/
abbrev DI (X : Cx) (T : Addr → Prop) (st : Bool) (W : WX) (ow : List Bool) (tg e : Expr) (d : PEnv → Res (List PV)) : Prop := PI X tg e (tI X.mg X.K T st W ow d)
theorem _root_.L2.PI.imp {X : Cx} {tg e : Expr} {t t' : TI} (h : PI X tg e t) (i : ∀ σ H R, t' σ H R → t σ H R) : PI X tg e t' := ⟨fun pins s σ H Q I w => h.run pins s σ H Q I (i _ _ _ w)⟩
theorem _root_.L2.PG.imp {X : Cx} {e : Expr} {t t' : TG} (h : PG X e t) (i : ∀ v σ H Q, t' v σ H Q → t v σ H Q) : PG X e t' := ⟨fun pins s σ H v u Q I r w => h.run pins s σ H v u Q I r (i _ _ _ _ w)⟩
theorem _root_.L2.PGs.imp {X : Cx} {e : List Expr} {t t' : TGs} (h : PGs X e t) (i : ∀ v σ H Q, t' v σ H Q → t v σ H Q) : PGs X e t' := ⟨fun pins s σ H v u Q I r w => h.run pins s σ H v u Q I r (i _ _ _ _ w)⟩

/-! ### targets -/
theorem wipe_get {σ : L2.St} {i : Nat} : ∀ {vs : List Nat}, i ∉ vs → (wipe σ vs)[i]? = σ[i]?
  | [], _ => rfl
  | v :: vs, h => by
    unfold wipe
    simp only [List.mem_cons, not_or] at h
    rw [List.getElem?_set_ne (fun e => h.1 e.symm)]
    exact wipe_get h.2
theorem set_wipe {σ : L2.St} {vs : List Nat} {i : Nat} {v : V} (h : i ∈ vs) : L2.wipe (σ.set i (some v)) vs = L2.wipe σ vs := by
  have key : ∀ (ws : List Nat) (τ : L2.St) (j : Nat), (L2.wipe τ ws)[j]? = if j ∈ ws then (if j < τ.length then some none else none) else τ[j]? := by
    intro ws
    induction ws with
    | nil => intro τ j; simp [L2.wipe]
    | cons w ws ih =>
      intro τ j
      show ((L2.wipe τ ws).set w none)[j]? = _
      by_cases hw : w = j
      · subst hw
        by_cases hl : w < τ.length
        · rw [List.getElem?_set_self (by rw [wipe_length]; exact hl)]; simp [hl]
        · rw [List.getElem?_eq_none (by rw [List.length_set, wipe_length]; omega)]; simp [hl]
      · rw [List.getElem?_set_ne hw, ih]
        by_cases hj : j ∈ ws
        · simp [hj]
        · have : ¬ (j = w) := fun e => hw e.symm
          simp [hj, this]
  apply List.ext_getElem?
  intro j
  rw [key, key]
  by_cases hj : j ∈ vs
  · simp [hj, List.length_set, wipe_length]
  · rw [if_neg hj, if_neg hj, List.getElem?_set_ne (fun e => hj (by rw [← e]; exact h))]
/-- σ' is σ but for the slots vs -/
def But (vs : List Nat) (σ σ' : L2.St) : Prop := ∀ ws : List Nat, (∀ i ∈ vs, i ∈ ws) → L2.wipe σ' ws = L2.wipe σ ws
abbrev Bd := PV → PEnv → Option PEnv
abbrev Bds := List PV → PEnv → Option PEnv
def tG (g : Str → Option Value) (K : PySem.W.Frag) (T : Addr → Prop) (ow : List Bool) (f : Bd) (ow' : List Bool) (vs : List Nat) : TG := fun v σ H Q => ∃ H0 F0 env F x e, Sta g K T H0 F0 ow env σ H F ∧ Rep g K F v x ∧ f x env = some e ∧ ∀ σ', Sta g K T H0 F0 ow' e σ' H F → But vs σ σ' → Q σ' H
def tGs (g : Str → Option Value) (K : PySem.W.Frag) (T : Addr → Prop) (ow : List Bool) (f : Bds) (ow' : List Bool) (vs : List Nat) : TGs := fun us σ H Q => ∃ H0 F0 env F xs e, Sta g K T H0 F0 ow env σ H F ∧ Reps g K F us xs ∧ f xs env = some e ∧ ∀ σ', Sta g K T H0 F0 ow' e σ' H F → But vs σ σ' → Q σ' H
abbrev DG (X : Cx) (T : Addr → Prop) (ow : List Bool) (tg : Expr) (f : Bd) (ow' : List Bool) (vs : List Nat) : Prop := PG X tg (tG X.mg X.K T ow f ow' vs)
abbrev DGs (X : Cx) (T : Addr → Prop) (ow : List Bool) (tg : List Expr) (f : Bds) (ow' : List Bool) (vs : List Nat) : Prop := PGs X tg (tGs X.mg X.K T ow f ow' vs)
def bName (i : Nat) : Bd := fun x env => some (env.set i (some x))
theorem dg_name {i : Nat} {x : Str} (hN : X.N.Nodup) (hi : X.N[i]? = some x) (hx : Loc X.env.scope x) (hf : X.fn x = true ∨ X.env.scope.names.lookup x = some .local := by first | exact .inl rfl | exact .inr rfl | assumption) : DG X T ow (.Name x pos) (bName i) (ow.set i false) [i] :=
  (pg_name hN hi hx hf).imp fun v σ H Q ⟨H0, F0, env, F, x, e, l, r, h, w⟩ => by
    cases h
    exact w _ (l.setE r) fun ws hw => set_wipe (hw i (by simp))
def bNil : Bds := fun xs env => match xs with
  | [] => some env
  | _ => none
def bCons (f : Bd) (h : Bds) : Bds := fun xs env => match xs with
  | x :: r => (f x env).bind fun e => h r e
  | [] => none
def bTup (n : Nat) (h : Bds) : Bd := fun x env => match x with
  | .tup xs => if xs.length = n then h xs env else none
  | _ => none
theorem dgs_nil : DGs X T ow [] bNil ow [] := pgs_nil.imp fun vs σ H Q ⟨H0, F0, env, F, xs, e, l, r, h, w⟩ => by
  cases r with
  | nil => cases h; exact ⟨rfl, w σ l fun _ _ => rfl⟩
  | cons _ _ => cases h
theorem dgs_cons {f : Bd} {h : Bds} {es : List Expr} {vs us : List Nat} (h1 : DG X T ow e f ow1 vs) (h2 : DGs X T ow1 es h ow2 us) (hs : (assignEach (e :: es) X.env).map (·.2) = assign e X.env :: (assignEach es X.env).map (·.2) := by rfl) : DGs X T ow (e :: es) (bCons f h) ow2 (vs ++ us) :=
  (pgs_cons h1 h2 hs).imp fun us σ H Q ⟨H0, F0, env, F, xs, e, l, r, hh, w⟩ => by
    cases r with
    | nil => cases hh
    | cons r rr =>
      obtain ⟨e1, q1, q2⟩ := Option.bind_eq_some_iff.mp hh
      exact ⟨_, _, rfl, H0, F0, env, F, _, e1, l, r, q1, fun σ' l' b1 => ⟨H0, F0, e1, F, _, e, l', rr, q2, fun σ2 l2 b2 => w σ2 l2 fun ws hw =>
        (b2 ws fun i hi => hw i (List.mem_append_right _ hi)).trans (b1 ws fun i hi => hw i (List.mem_append_left _ hi))⟩⟩
theorem dg_tup {h : Bds} {es : List Expr} {kk n : Nat} {vs : List Nat} (hc : X.calm = true) (h1 : DGs X T ow es h ow1 vs) (hn : (assignEach es X.env).length = n := by rfl) (hst : (assignEach es X.env).findIdx? (·.1) = none := by rfl) : DG X T ow (.Tuple es kk pos) (bTup n h) ow1 vs :=
  (pg_tup hc h1 hn hst).imp fun v σ H Q ⟨H0, F0, env, F, x, e, l, r, hh, w⟩ => by
    cases r with
    | @tup a vs xs hs rr =>
      have hh : (if xs.length = n then h xs env else none) = some e := hh
      by_cases q : xs.length = n
      · rw [if_pos q] at hh
        exact ⟨_, _, rfl, Same.seqT l.ext.fh hs, rr.length.trans q, H0, F0, env, F, _, e, l, rr, hh, w⟩
      · rw [if_neg q] at hh; cases hh
    | _ => cases hh

/-! ### for -/
def forL (f : Bd) (k : PEnv → SR) : List PV → PEnv → SR
  | [], env => .nx env
  | x :: xs, env => match f x env with
    | some e => match k e with
      | .nx e' => forL f k xs e'
      | .ct e' => forL f k xs e'
      | .bk e' => .nx e'
      | r => r
    | none => .bad
def sFor (d : PEnv → Res (List PV)) (f : Bd) (k : PEnv → SR) : PEnv → SR := fun env => match d env with
  | .ok xs => if xs.length ≤ sizeLine then forL f k xs env else .bad
  | .err x => .er x env
  | .bad => .bad
theorem Sta.rebase {g : Str → Option Value} {K : PySem.W.Frag} {H0 F0 H1 F1 H F : Hp} {env : PEnv} {σ : L2.St} (b : Ext T H0 F0 H1 F1) (l : Sta g K T H0 F0 ow env σ H F) (s : Same F1 F) : Sta g K T H0 F1 ow env σ H F := by
  refine ⟨⟨l.ext.tabs, l.ext.h, s, l.ext.fh, l.ext.ft, fun a h1 h2 => l.ext.new a h1 ?_⟩, l.len, l.slot, l.own, l.dist⟩
  cases q : F0 a with
  | none => rfl
  | some u => rw [b.f a u q] at h2; cases h2
theorem Ext.unbase {H0 F0 H1 F1 H F : Hp} (b : Ext T H0 F0 H1 F1) (e : Ext T H0 F1 H F) : Ext T H0 F0 H F := ⟨e.tabs, e.h, b.f.trans e.f, e.fh, e.ft, fun a h1 h2 => e.new a h1 (b.new a h1 h2)⟩
theorem Sta.unbase {g : Str → Option Value} {K : PySem.W.Frag} {H0 F0 H1 F1 H F : Hp} {env : PEnv} {σ : L2.St} (b : Ext T H0 F0 H1 F1) (l : Sta g K T H0 F1 ow env σ H F) : Sta g K T H0 F0 ow env σ H F := ⟨b.unbase l.ext, l.len, l.slot, l.own, l.dist⟩
theorem want.rebase {g : Str → Option Value} {K : PySem.W.Frag} {H0 F0 H1 F1 : Hp} {D : Ends} {r : SR} (b : Ext T H0 F0 H1 F1) (w : want g K T W fr oe ol ow H0 F0 D r) : want g K T W fr oe ol ow H0 F1 D r := by
  cases r with
  | nx e => exact fun σ' H' F' l => w σ' H' F' (l.unbase b)
  | rt v => exact fun u H' F' l rt => w u H' F' (b.unbase l) rt
  | bk e => exact fun σ' H' F' l => w σ' H' F' (l.unbase b)
  | ct e => exact fun σ' H' F' l => w σ' H' F' (l.unbase b)
  | er x e => exact fun cls dd σ' H' F' l => w cls dd σ' H' F' (l.unbase b)
  | bad => exact w
theorem Same.toT {F H : Hp} (s : Same F H) : SameT T F H := fun a o _ e => s a o e
theorem ds_for {tg iter : Expr} {di : PEnv → Res (List PV)} {f : Bd} (hp : PassesOwn (model X.prog X.w) X.A X.env X.xe) (hc : X.calm = true) (hi : DI X T true W ow tg iter di) {vs : List Nat} (hg : DG X T ow tg f ow vs) (hb : DSs X T W fr oe ow ow s1 k ow) (ho : leB oe ow = true := by rfl)
    (hs : ∀ x, foldedSetIterable iter X.env x = pure x := by intro _; rfl) : DS X T W fr oe ol ow (.For tg iter s1 [] pos) (sFor di f k) ow :=
  (ps_for hp hc hi hg hb hs).imp fun D σ H w => by
    obtain ⟨H0, F0, env, F, l, w⟩ := tS_iff.mp w
    refine ⟨H0, F0, env, F, l, ?_⟩
    unfold sFor at w
    cases hd : di env with
    | ok xs =>
      rw [hd] at w
      simp only at w
      by_cases hz : xs.length ≤ sizeLine
      · rw [if_pos hz] at w
        refine ⟨hz, fun J H1 F1 x it => ?_⟩
        rw [if_pos rfl] at it
        have b : Ext T H0 F0 H1 F1 := l.ext.trans x
        refine ⟨fun i m σ H => m = xs.length - i ∧ i ≤ xs.length ∧ ∃ env F, Sta X.mg X.K T H0 F1 ow env σ H F ∧ want X.mg X.K T W fr oe ol ow H0 F1 D (forL f k (xs.drop i) env),
          ⟨_, rfl, Nat.zero_le _, env, F1, (l.grow x).rebase b (Same.refl _), w.rebase b⟩, ?_⟩
        rintro i m σ H ⟨rfl, hi', env, F, l, w⟩
        have hG : SameT T F1 H := Same.toT (l.ext.f.trans l.ext.fh)
        by_cases hlt : i < xs.length
        · refine .inr ⟨it.go i H hlt hG, fun σ' H' => ∃ env F, Sta X.mg X.K T H0 F1 ow env σ' H' F ∧ want X.mg X.K T W fr oe ol ow H0 F1 D (forL f k (xs.drop (i + 1)) env), fun σ' H' z => ⟨_, by omega, rfl, hlt, z⟩, fun v H2 y => ?_⟩
          have hy : xs[i]? = some xs[i] := List.getElem?_eq_getElem hlt
          obtain ⟨F2, x2, r2⟩ := it.yld i H F xs[i] v H2 hy hG l.ext.f l.wf y
          rw [List.drop_eq_getElem_cons hlt] at w
          unfold forL at w
          cases hf : f xs[i] env with
          | none => rw [hf] at w; exact w.elim
          | some e =>
            rw [hf] at w
            simp only at w
            refine ⟨H0, F1, env, F2, _, e, l.grow x2, r2, hf, fun σ3 l3 _ => ?_⟩
            refine tS_iff.mpr ⟨H0, F1, e, F2, l3, ?_⟩
            cases hk : k e with
            | nx e => rw [hk] at w; exact fun σ' H' F' l' => ⟨e, F', l', w⟩
            | ct e => rw [hk] at w; exact fun σ' H' F' l' => ⟨e, F', l', w⟩
            | bk e => rw [hk] at w; exact fun σ' H' F' l' => w σ' H' F' l'
            | rt v => rw [hk] at w; exact w
            | er x e => rw [hk] at w; exact w
            | bad => rw [hk] at w; exact w
        · have ei : i = xs.length := by omega
          subst ei
          rw [List.drop_length] at w
          exact .inl ⟨it.stop H hG, w σ H F l⟩
      · rw [if_neg hz] at w; exact w.elim
    | err x => rw [hd] at w; exact err_up l (le_of ho) w
    | bad => rw [hd] at w; exact w
end
end D
end

section
set_option Elab.async false
set_option linter.all false
set_option maxRecDepth 100000
set_option maxHeartbeats 1000000
namespace D
open PySem PySem.Spec PyProof.Rows L2

/-! ### sources -/
section
variable {g : Str → Option Value} {K : PySem.W.Frag} {T : Addr → Prop} {H F G Gf : Hp} {a : Addr} {vs : List V} {xs : List PV}
theorem SqL.keepT (t : Tabs T G) (h : SqL K G a vs) (s : SameT T G H) : SqL K H a vs := by
  rcases h with (h | ⟨o, h⟩) | h
  · exact .inl (.inl (s _ _ (noT t h (fun _ z => by cases z)) h))
  · exact .inl (.inr ⟨o, s _ _ (noT t h (fun _ z => by cases z)) h⟩)
  · exact .inr h
theorem SqT.keepT (t : Tabs T G) (h : SqT K G a vs) (s : SameT T G H) : SqT K H a vs := by
  rcases h with (h | ⟨o, h⟩) | h
  · exact .inl (.inl (s _ _ (noT t h (fun _ z => by cases z)) h))
  · exact .inl (.inr ⟨o, s _ _ (noT t h (fun _ z => by cases z)) h⟩)
  · exact .inr h
/-- (G need not hold the tables) -/
theorem SqL.keepF (h : SqL K G a vs) (ft : ∀ a, T a → G a = none) (s : SameT T G H) : SqL K H a vs := by
  have nt : ∀ o, G a = some o → ¬ T a := fun o e t => by rw [ft a t] at e; cases e
  rcases h with (h | ⟨o, h⟩) | h
  · exact .inl (.inl (s _ _ (nt _ h) h))
  · exact .inl (.inr ⟨o, s _ _ (nt _ h) h⟩)
  · exact .inr h
theorem SqT.keepF (h : SqT K G a vs) (ft : ∀ a, T a → G a = none) (s : SameT T G H) : SqT K H a vs := by
  have nt : ∀ o, G a = some o → ¬ T a := fun o e t => by rw [ft a t] at e; cases e
  rcases h with (h | ⟨o, h⟩) | h
  · exact .inl (.inl (s _ _ (nt _ h) h))
  · exact .inl (.inr ⟨o, s _ _ (nt _ h) h⟩)
  · exact .inr h
theorem it_list (keep : ∀ H, SameT T G H → SqL K H a vs) (r : Reps g K Gf vs xs) : ItOk g K T (Itl K a) xs G Gf where
  stop := fun H s => ⟨vs, keep H s, by rw [r.length]; exact Nat.le_refl _⟩
  go := fun i H hi s => by
    have : i < vs.length := by rw [r.length]; exact hi
    exact ⟨vs, vs[i], keep H s, List.getElem?_eq_getElem this⟩
  yld := fun i H F y v H' hy s sf w yl => by
    obtain ⟨rfl, h⟩ := yl
    obtain ⟨u, hu, ru⟩ := r.get hy
    have := h vs (keep _ s)
    rw [hu] at this; cases this
    exact ⟨F, .refl w, ru.mono sf⟩
theorem it_tup (keep : ∀ H, SameT T G H → SqT K H a vs) (r : Reps g K Gf vs xs) : ItOk g K T (Itt K a) xs G Gf where
  stop := fun H s => ⟨vs, keep H s, by rw [r.length]; exact Nat.le_refl _⟩
  go := fun i H hi s => by
    have : i < vs.length := by rw [r.length]; exact hi
    exact ⟨vs, vs[i], keep H s, List.getElem?_eq_getElem this⟩
  yld := fun i H F y v H' hy s sf w yl => by
    obtain ⟨rfl, h⟩ := yl
    obtain ⟨u, hu, ru⟩ := r.get hy
    have := h vs (keep _ s)
    rw [hu] at this; cases this
    exact ⟨F, .refl w, ru.mono sf⟩
def rangeL (lo : Int) (n : Nat) : List PV := (List.range n).map fun (i : Nat) => .int (lo + (i : Int))
theorem it_range (lo : Int) (n : Nat) : ItOk g K T (Itr lo n) (rangeL lo n) G Gf where
  stop := fun H s => by show (Itr lo n).stop _ H; simp [rangeL, Itr]
  go := fun i H hi s => by show i < n; simpa [rangeL] using hi
  yld := fun i H F y v H' hy s sf w yl => by
    obtain ⟨e, rfl⟩ := yl
    subst e
    have hi : i < n := by
      have := (List.getElem?_eq_some_iff.mp hy).1
      simpa [rangeL] using this
    have : y = .int (lo + (i : Int)) := by
      simp [rangeL, hi] at hy
      exact hy.symm
    subst this
    exact ⟨F, .refl w, .int _⟩
end
section
variable {X : Cx} {T : Addr → Prop} {W : WX} {oe ol ow ow' ow1 ow2 : List Bool} {fr st : Bool} {tg e a b c : Expr} {rest s1 s2 : List Stmt} {d da db dc : PEnv → Res PV} {t : PEnv → Res Bool} {ds : PEnv → Res (List PV)} {pos : Pos}
def pyItems : PV → Option (List PV)
  | .lst xs => if xs.length ≤ sizeLine then some xs else none
  | .tup xs => if xs.length ≤ sizeLine then some xs else none
  | .scr xs => if xs.length ≤ sizeLine then some (xs.map .int) else none
  | _ => none
def pyItemsT : PV → Option (List PV)
  | .tup xs => if xs.length ≤ sizeLine then some xs else none
  | _ => none
def iOf (f : PV → Option (List PV)) (d : PEnv → Res PV) : PEnv → Res (List PV) := fun env => (d env).bnd fun p => ofO (f p)
theorem some_if {α : Type} {c : Prop} [Decidable c] {a b : α} (h : (if c then some a else none) = some b) : c ∧ a = b := by
  by_cases hc : c
  · rw [if_pos hc] at h; exact ⟨hc, Option.some.inj h⟩
  · rw [if_neg hc] at h; cases h
/-- a list or a tuple -/
def iSeq (K : PySem.W.Frag) (tl : TE) : TI := fun σ H R => tl σ H fun x H1 => ∃ a, x = .ref a ∧ (((∃ xs, SqL K H1 a xs) ∧ R (Itl K a) H1) ∨ ((∃ xs, SqT K H1 a xs) ∧ R (Itt K a) H1))
theorem pi_seq {X : Cx} {tg l : Expr} {tl : TE} (hl : PE X l tl) : PI X tg l (iSeq X.K tl) := by
  refine ⟨fun pins s σ H R I h => ?_⟩
  refine thn (hl.run pins s σ H _ I h) fun v s1 ⟨x, H1, I1, r1, q1⟩ => ?_
  obtain ⟨a, e, q1⟩ := q1
  subst e
  cases r1
  rcases q1 with ⟨⟨xs, hq⟩, q⟩ | ⟨⟨xs, hq⟩, q⟩
  · obtain ⟨its, rv, p, hz⟩ := I1.list hq
    refine wpAny_pyIter_list p.isList ?_
    refine ⟨s1.heap.objs.size, [s1.heap.objs.size], _, _, H1, rfl, I1.kept (t' := s1.toks) fun b o e => Heap.get?_push_of_some _ e, turn_list a _, ⟨_, Heap.get?_push_size _ rfl, rfl, rfl⟩, fun b hb => ?_, q⟩
    have e : b = s1.heap.objs.size := by simpa using hb
    subst e
    exact I1.fpOk (Nat.le_refl _) (I1.hok.fresh (Nat.le_refl _))
  · obtain ⟨its, rv, p, hz⟩ := I1.tuple hq
    refine wpAny_pyIter_tuple (show s1.heap.IsTuple a its.toArray from p) ?_
    refine ⟨s1.heap.objs.size, [s1.heap.objs.size], _, _, H1, rfl, I1.kept (t' := s1.toks) fun b o e => Heap.get?_push_of_some _ e, turn_tuple a _, ⟨_, Heap.get?_push_size _ rfl, rfl, rfl⟩, fun b hb => ?_, q⟩
    have e : b = s1.heap.objs.size := by simpa using hb
    subst e
    exact I1.fpOk (Nat.le_refl _) (I1.hok.fresh (Nat.le_refl _))
theorem reps_ints {g : Str → Option Value} {K : PySem.W.Frag} {F : Hp} : ∀ ns : List Int, Reps g K F (ns.map V.int) (ns.map PV.int)
  | [] => .nil
  | n :: ns => .cons (.int n) (reps_ints ns)
/-- a list that is frozen, for a for statement -/
theorem di_list (h : DE X T W ow e d) : DI X T true W ow tg e (iOf pyItems d) := (pi_seq h).imp fun σ H R ⟨H0, F0, env, F, l, w⟩ => by
  refine ⟨H0, F0, env, F, l, wpR_mono (wpR_bnd.mp w) (fun p w1 v H1 F1 e1 r1 => ?_) fun _ z => z⟩
  obtain ⟨xs, hx, w2⟩ := wpR_ofO w1
  cases r1 with
  | @lst a vs ys hs rs =>
    obtain ⟨hz, rfl⟩ := some_if hx
    exact ⟨_, rfl, .inl ⟨⟨vs, e1.fh.seq (.of hs)⟩, w2.2 _ H1 F1 e1 (it_list (fun H s => SqL.keepF (.of hs) e1.ft s) rs)⟩⟩
  | @tup a vs ys hs rs =>
    obtain ⟨hz, rfl⟩ := some_if hx
    exact ⟨_, rfl, .inr ⟨⟨vs, Same.seqT e1.fh hs⟩, w2.2 _ H1 F1 e1 (it_tup (fun H s => SqT.keepF hs e1.ft s) rs)⟩⟩
  | @scr a ns hs =>
    obtain ⟨hz, rfl⟩ := some_if hx
    exact ⟨_, rfl, .inl ⟨⟨_, e1.fh.seq hs⟩, w2.2 _ H1 F1 e1 (it_list (fun H s => SqL.keepF hs e1.ft s) (reps_ints ns))⟩⟩
  | _ => cases hx
/-- a list that stands as it is, for a comprehension -/
theorem di_listR (h : DR X T W ow e d) : DI X T false W ow tg e (iOf pyItems d) := (pi_seq h).imp fun σ H R ⟨H0, F0, env, F, l, w⟩ => by
  refine ⟨H0, F0, env, F, l, wpR_mono (wpR_bnd.mp w) (fun p w1 v H1 F1 e1 r1 => ?_) fun _ z => z⟩
  obtain ⟨xs, hx, w2⟩ := wpR_ofO w1
  rcases r1 with r1 | ⟨a, o, rfl, h1, h2, h3⟩
  · cases r1 with
    | @lst a vs ys hs rs =>
      obtain ⟨hz, rfl⟩ := some_if hx
      refine ⟨_, rfl, .inl ⟨⟨vs, e1.fh.seq (.of hs)⟩, w2.2 _ H1 F1 e1 ?_⟩⟩
      exact it_list (fun H s => SqL.keepT e1.tabs (e1.fh.seq (.of hs)) s) rs
    | @tup a vs ys hs rs =>
      obtain ⟨hz, rfl⟩ := some_if hx
      exact ⟨_, rfl, .inr ⟨⟨vs, Same.seqT e1.fh hs⟩, w2.2 _ H1 F1 e1 (it_tup (fun H s => SqT.keepT e1.tabs (Same.seqT e1.fh hs) s) rs)⟩⟩
    | @scr a ns hs =>
      obtain ⟨hz, rfl⟩ := some_if hx
      exact ⟨_, rfl, .inl ⟨⟨_, e1.fh.seq hs⟩, w2.2 _ H1 F1 e1 (it_list (fun H s => SqL.keepT e1.tabs (e1.fh.seq hs) s) (reps_ints ns))⟩⟩
    | _ => cases hx
  · cases h2 with
    | @lst vs ys rs =>
      obtain ⟨hz, rfl⟩ := some_if hx
      refine ⟨_, rfl, .inl ⟨⟨vs, .of h1⟩, w2.2 _ H1 F1 e1 ?_⟩⟩
      exact it_list (fun H s => SqL.keepT e1.tabs (.of h1) s) rs
    | _ => cases hx
theorem di_tup (h : DE X T W ow e d) : DI X T st W ow tg e (iOf pyItemsT d) := (pi_tup h).imp fun σ H R ⟨H0, F0, env, F, l, w⟩ => by
  refine ⟨H0, F0, env, F, l, wpR_mono (wpR_bnd.mp w) (fun p w1 v H1 F1 e1 r1 => ?_) fun _ z => z⟩
  obtain ⟨xs, hx, w2⟩ := wpR_ofO w1
  cases r1 with
  | @tup a vs ys hs rs =>
    obtain ⟨hz, rfl⟩ := some_if hx
    refine ⟨_, rfl, ⟨vs, Same.seqT e1.fh hs⟩, w2.2 _ H1 F1 e1 ?_⟩
    cases st with
    | true => exact it_tup (fun H s => SqT.keepF hs e1.ft s) rs
    | false => exact it_tup (fun H s => SqT.keepT e1.tabs (Same.seqT e1.fh hs) s) rs
  | _ => cases hx
def pyRange1 : List PV → Option (List PV)
  | [.int j] => if -(2 ^ 62) ≤ j ∧ j < 2 ^ 62 then some (rangeL 0 j.toNat) else none
  | _ => none
def pyRange2 : List PV → Option (List PV)
  | [.int i, .int j] => if -(2 ^ 62) ≤ i ∧ i < 2 ^ 62 ∧ -(2 ^ 62) ≤ j ∧ j < 2 ^ 62 then some (rangeL i (j - i).toNat) else none
  | _ => none
def iWith (f : List PV → Option (List PV)) (ds : PEnv → Res (List PV)) : PEnv → Res (List PV) := fun env => (ds env).bnd fun ps => ofO (f ps)
theorem di_range1 {p : Pos} (hg : Gl X "range") (hm : X.mg "range" = none) (ha : DA X T W ow [a] ds) (hs : starEach [a] X.env = [(false, eval a X.env)] := by rfl) : DI X T st W ow tg (.Call (.Name "range" p) [a] [] pos) (iWith pyRange1 ds) :=
  (pi_range1 hg hm ha hs).imp fun σ H R ⟨H0, F0, env, F, l, w⟩ => by
    refine ⟨H0, F0, env, F, l, wpR_mono (wpR_bnd.mp w) (fun ps w1 vs H1 F1 e1 rs => ?_) fun _ z => z⟩
    obtain ⟨xs, hx, w2⟩ := wpR_ofO w1
    unfold pyRange1 at hx
    split at hx
    · obtain ⟨hz, rfl⟩ := some_if hx
      cases rs with
      | cons r t =>
        cases t
        cases r
        exact ⟨_, rfl, hz.1, hz.2, w2.2 _ H1 F1 e1 (it_range _ _)⟩
    · cases hx
theorem di_range2 {p : Pos} (hg : Gl X "range") (hm : X.mg "range" = none) (ha : DA X T W ow [a, b] ds) (hs : starEach [a, b] X.env = [(false, eval a X.env), (false, eval b X.env)] := by rfl) (hs2 : starEach [b] X.env = [(false, eval b X.env)] := by rfl) : DI X T st W ow tg (.Call (.Name "range" p) [a, b] [] pos) (iWith pyRange2 ds) :=
  (pi_range2 hg hm ha hs hs2).imp fun σ H R ⟨H0, F0, env, F, l, w⟩ => by
    refine ⟨H0, F0, env, F, l, wpR_mono (wpR_bnd.mp w) (fun ps w1 vs H1 F1 e1 rs => ?_) fun _ z => z⟩
    obtain ⟨xs, hx, w2⟩ := wpR_ofO w1
    unfold pyRange2 at hx
    split at hx
    · obtain ⟨hz, rfl⟩ := some_if hx
      cases rs with
      | cons r t =>
        cases r
        cases t with
        | cons r t =>
          cases r
          cases t
          exact ⟨_, _, rfl, hz, w2.2 _ H1 F1 e1 (it_range _ _)⟩
    · cases hx

/-! ### list comprehensions -/
/-- what must not raise -/
def Res.bnz {α β : Type} (r : Res α) (f : α → Res β) : Res β := match r with
  | .ok a => f a
  | _ => .bad
theorem wpR_bnz {α β : Type} {r : Res α} {f : α → Res β} {Q : β → Prop} {E : XV → Prop} (h : wpR (r.bnz f) Q E) : ∃ a, r = .ok a ∧ wpR (f a) Q E := by
  cases r with
  | ok a => exact ⟨a, rfl, h⟩
  | err x => exact h.elim
  | bad => exact h.elim
abbrev W0 : WX := fun _ _ _ _ => False
def compL (f : Bd) (t : PEnv → Res Bool) (d : PEnv → Res PV) (env : PEnv) : List PV → Res (List PV)
  | [] => .ok []
  | x :: xs => match f x env with
    | some e => (t e).bnz fun b => if b = true then (d e).bnz fun y => (compL f t d env xs).bnz fun ys => .ok (y :: ys) else compL f t d env xs
    | none => .bad
def wipeE (env : PEnv) : List Nat → PEnv
  | [] => env
  | v :: vs => (wipeE env vs).set v none
def xLc (di : PEnv → Res (List PV)) (f : Bd) (t : PEnv → Res Bool) (d : PEnv → Res PV) (vs : List Nat) : PEnv → Res PV := fun env => (di env).bnd fun xs =>
  if xs.length ≤ sizeLine then (compL f t d (wipeE env vs) xs).bnz fun ys => .ok (.lst ys) else .bad
theorem wipeE_len (env : PEnv) : ∀ vs, (wipeE env vs).length = env.length
  | [] => rfl
  | v :: vs => by unfold wipeE; rw [List.length_set, wipeE_len env vs]
theorem wipeE_get {env : PEnv} {i : Nat} : ∀ {vs : List Nat} {x : PV}, (wipeE env vs)[i]? = some (some x) → env[i]? = some (some x) ∧ i ∉ vs
  | [], _, h => ⟨h, by simp⟩
  | v :: vs, x, h => by
    unfold wipeE at h
    by_cases hv : v = i
    · subst hv
      by_cases hl : v < (wipeE env vs).length
      · rw [List.getElem?_set_self hl] at h; cases h
      · rw [List.getElem?_eq_none (by rw [List.length_set]; omega)] at h; cases h
    · rw [List.getElem?_set_ne hv] at h
      obtain ⟨h1, h2⟩ := wipeE_get h
      exact ⟨h1, by simp only [List.mem_cons, not_or]; exact ⟨fun e => hv e.symm, h2⟩⟩
theorem Sta.wipe {g : Str → Option Value} {K : PySem.W.Frag} {H0 F0 H F : Hp} {env : PEnv} {σ : L2.St} (l : Sta g K T H0 F0 ow env σ H F) (vs : List Nat) : Sta g K T H0 F0 ow (wipeE env vs) (L2.wipe σ vs) H F := by
  refine ⟨l.ext, by rw [wipe_length, wipeE_len]; exact l.len, fun i x e n => ?_, fun i x e n => ?_, fun i j x y a h1 h2 e1 e2 s1 s2 => ?_⟩
  · obtain ⟨e1, e2⟩ := wipeE_get e
    rw [wipe_get e2]
    exact l.slot i x e1 n
  · obtain ⟨e1, e2⟩ := wipeE_get e
    rw [wipe_get e2]
    exact l.own i x e1 n
  · obtain ⟨f1, f2⟩ := wipeE_get e1
    obtain ⟨g1, g2⟩ := wipeE_get e2
    rw [wipe_get f2] at s1
    rw [wipe_get g2] at s2
    exact l.dist i j x y a h1 h2 f1 g1 s1 s2
def tTs (g : Str → Option Value) (K : PySem.W.Frag) (T : Addr → Prop) (ow : List Bool) (d : PEnv → Res Bool) : TT := tT g K T W0 ow d
abbrev DTs (X : Cx) (T : Addr → Prop) (ow : List Bool) (es : List Expr) (d : PEnv → Res Bool) : Prop := PTs X es (tT X.mg X.K T W0 ow d)
def bYes : PEnv → Res Bool := fun _ => .ok true
theorem _root_.L2.PTs.imp {X : Cx} {es : List Expr} {t t' : TT} (h : PTs X es t) (i : ∀ σ H Q, t' σ H Q → t σ H Q) : PTs X es t' := ⟨fun pins s σ H Q I w => h.run pins s σ H Q I (i _ _ _ w)⟩
theorem dts_nil : DTs X T ow [] bYes := pts_nil.imp fun σ H Q ⟨H0, F0, env, F, l, w⟩ => w H F (.refl l.wf)
theorem dts_one (h : DT X T W0 ow c t) : DTs X T ow [c] t := pts_one h
theorem wipe_twice {σ : L2.St} {vs : List Nat} : L2.wipe (L2.wipe σ vs) vs = L2.wipe σ vs := by
  have key : ∀ (ws : List Nat) (τ : L2.St) (j : Nat), (L2.wipe τ ws)[j]? = if j ∈ ws then (if j < τ.length then some none else none) else τ[j]? := by
    intro ws
    induction ws with
    | nil => intro τ j; simp [L2.wipe]
    | cons w ws ih =>
      intro τ j
      show ((L2.wipe τ ws).set w none)[j]? = _
      by_cases hw : w = j
      · subst hw
        by_cases hl : w < τ.length
        · rw [List.getElem?_set_self (by rw [wipe_length]; exact hl)]; simp [hl]
        · rw [List.getElem?_eq_none (by rw [List.length_set, wipe_length]; omega)]; simp [hl]
      · rw [List.getElem?_set_ne hw, ih]
        by_cases hj : j ∈ ws
        · simp [hj]
        · have : ¬ (j = w) := fun e => hw e.symm
          simp [hj, this]
  apply List.ext_getElem?
  intro j
  rw [key, key, wipe_length]
  by_cases hj : j ∈ vs
  · simp [hj]
  · rw [if_neg hj, if_neg hj]
/-- the reading of a comprehension -/
theorem lc_ok {di : PEnv → Res (List PV)} {f : Bd} {vs us : List Nat} {t : PEnv → Res Bool} {d : PEnv → Res PV} {σ : L2.St} {H : Hp} {Q : VK} {g : Str → Option Value} {K : PySem.W.Frag}
    (hv : ∀ i ∈ us, i ∈ vs) (w : tE g K T true W ow (xLc di f t d vs) σ H Q) : tLc (tI g K T false W ow di) (tG g K T ow f ow us) (tT g K T W0 ow t) (tE g K T false W0 ow d) vs σ H Q := by
  obtain ⟨H0, F0, env, F, l, w⟩ := w
  refine ⟨H0, F0, env, F, l, wpR_mono (wpR_bnd.mp w) (fun xs w1 => ?_) fun _ z => z⟩
  by_cases hz : xs.length ≤ sizeLine
  · rw [if_pos hz] at w1
    obtain ⟨ys, hys, w2⟩ := wpR_bnz w1
    refine ⟨hz, fun J H1 F1 x it D hD => ?_⟩
    rw [if_neg Bool.false_ne_true] at it
    have l1 := (l.grow x).wipe vs
    refine ⟨fun i m H2 => m = xs.length - i ∧ i ≤ xs.length ∧ ∃ F2 acc pre post, Ext T H1 F1 H2 F2 ∧ H2 D = some (.lst acc) ∧ F2 D = none ∧ Reps g K F2 acc pre ∧ pre.length ≤ i ∧ compL f t d (wipeE env vs) (xs.drop i) = .ok post ∧ pre ++ post = ys,
      ⟨_, rfl, Nat.zero_le _, F1, [], [], ys, Ext.laid x.wf hD, upd_same, ?_, .nil, Nat.le_refl _, hys, rfl⟩, ?_⟩
    · cases q : F1 D with
      | none => rfl
      | some u => rw [x.fh D u q] at hD; cases hD
    rintro i m H2 ⟨rfl, hi, F2, acc, pre, post, x2, h2, f2, r2, hl, hc, hp⟩
    have D1 : H D = none := by
      cases q : H D with
      | none => rfl
      | some u => exact absurd hD (x.ne (by rw [q]; simp))
    by_cases hlt : i < xs.length
    · rw [List.drop_eq_getElem_cons hlt] at hc
      unfold compL at hc
      have hy : xs[i]? = some xs[i] := List.getElem?_eq_getElem hlt
      cases hf : f xs[i] (wipeE env vs) with
      | none => rw [hf] at hc; cases hc
      | some e =>
        rw [hf] at hc
        simp only at hc
        refine .inr ⟨it.go i H2 hlt x2.h, fun H3 => ∃ F3 acc pre post, Ext T H1 F1 H3 F3 ∧ H3 D = some (.lst acc) ∧ F3 D = none ∧ Reps g K F3 acc pre ∧ pre.length ≤ i + 1 ∧ compL f t d (wipeE env vs) (xs.drop (i + 1)) = .ok post ∧ pre ++ post = ys, fun H3 z => ⟨_, by omega, rfl, hlt, z⟩, fun v H3 yl => ?_⟩
        obtain ⟨F3, x3, r3⟩ := it.yld i H2 F2 xs[i] v H3 hy x2.h x2.f x2.wf yl
        have x13 := x2.trans x3
        refine ⟨H0, F0, _, F3, _, e, l1.grow x13, r3, hf, fun σ2 l2 b2 => ⟨?_, ?_⟩⟩
        · rw [b2 vs hv]
          exact wipe_twice
        · cases ht : t e with
          | err _ => rw [ht] at hc; cases hc
          | bad => rw [ht] at hc; cases hc
          | ok b =>
            rw [ht] at hc
            simp only [Res.bnz] at hc
            refine ⟨H0, F0, e, F3, l2, ?_⟩
            rw [ht]
            intro H4 F4 x4
            have x14 := x13.trans x4
            have stay : ∀ {F' : Hp} {H' : Hp}, Ext T H2 F2 H' F' → H' D = some (.lst acc) ∧ F' D = none ∧ Reps g K F' acc pre := fun {F' H'} xx =>
              ⟨xx.h D _ (noT x2.tabs h2 (fun _ z => by cases z)) h2, xx.new D (by rw [h2]; simp) f2, r2.mono xx.f⟩
            cases b with
            | false =>
              rw [if_neg Bool.false_ne_true] at hc ⊢
              obtain ⟨s1, s2, s3⟩ := stay (x3.trans x4)
              exact ⟨F4, acc, pre, post, x14, s1, s2, s3, by omega, hc, hp⟩
            | true =>
              rw [if_pos rfl] at hc ⊢
              cases hd : d e with
              | err _ => rw [hd] at hc; cases hc
              | bad => rw [hd] at hc; cases hc
              | ok y =>
                rw [hd] at hc
                simp only [Res.bnz] at hc
                refine ⟨H0, F0, e, F4, l2.grow x4, ?_⟩
                rw [hd]
                intro u H5 F5 x5 r5
                obtain ⟨s1, s2, s3⟩ := stay ((x3.trans x4).trans x5)
                cases hr : compL f t d (wipeE env vs) (xs.drop (i + 1)) with
                | err _ => rw [hr] at hc; cases hc
                | bad => rw [hr] at hc; cases hc
                | ok rest =>
                  rw [hr] at hc
                  cases hc
                  have x15 := x14.trans x5
                  have nD : H1 D = none := hD
                  have x6 : Ext T H1 F1 (upd H5 D (.lst (acc ++ [u]))) F5 := by
                    have nt : ¬ T D := noT x2.tabs h2 (fun _ z => by cases z)
                    refine ⟨fun a ta => ?_, fun a o na ha => ?_, x15.f, fun a o ha => ?_, x15.ft, x15.new⟩
                    · obtain ⟨ps, e1, e2⟩ := x15.tabs a ta
                      exact ⟨ps, by rw [upd_ne (fun z => nt (by rw [← z]; exact ta))]; exact e1, e2⟩
                    · rw [upd_ne (fun z => by rw [z, nD] at ha; cases ha)]; exact x15.h a o na ha
                    · rw [upd_ne (fun z => by rw [z, s2] at ha; cases ha)]; exact x15.fh a o ha
                  refine ⟨acc, s1, ?_, F5, acc ++ [u], pre ++ [y], rest, x6, upd_same, s2, s3.append (.cons r5 .nil), by rw [List.length_append]; simpa using hl, rfl, by rw [List.append_assoc]; exact hp⟩
                  have := r2.length
                  omega
    · have ei : i = xs.length := by omega
      subst ei
      rw [List.drop_length] at hc
      cases hc
      rw [List.append_nil] at hp
      subst hp
      refine .inl ⟨it.stop H2 x2.h, w2 _ H2 F2 (x.trans x2) ⟨D, _, rfl, h2, .lst r2, D1, f2⟩⟩
  · rw [if_neg hz] at w1; exact w1.elim
end
end D
end

section
set_option Elab.async false
set_option linter.all false
set_option maxRecDepth 100000
set_option maxHeartbeats 1000000
namespace D
open PySem PySem.Spec PyProof.Rows L2

section
variable {X : Cx} {T : Addr → Prop} {W : WX} {oe ol ow ow' ow1 ow2 : List Bool} {fr st : Bool} {tg e a b c : Expr} {es : List Expr} {rest s1 s2 : List Stmt} {d da db dc : PEnv → Res PV} {t : PEnv → Res Bool} {ds : PEnv → Res (List PV)} {di : PEnv → Res (List PV)} {pos : Pos} {f : Bd}

/-! ### list comprehensions: the rules -/
theorem df_lc {elt tg iter : Expr} {ifs : List Expr} {scope : Scope} {own : List (Str × Nat)} {us : List Nat} (hc : X.calm = true) (hN : X.N.Nodup) (hi : DI X T false W ow tg iter di) (ok : BlkOk X.N X.env.scope scope own)
    (hg : ∀ (s : Shared) (H : Hp) (C : Addr) (cl : List (Str × Addr)) (fp : List Addr), DG (X.blk s H scope (compEnvC scope cl C X.env) fp) T ow tg f ow us) (ht : ∀ (s : Shared) (H : Hp) (C : Addr) (cl : List (Str × Addr)) (fp : List Addr), DTs (X.blk s H scope (compEnvC scope cl C X.env) fp) T ow ifs t)
    (he : ∀ (s : Shared) (H : Hp) (C : Addr) (cl : List (Str × Addr)) (fp : List Addr), DE (X.blk s H scope (compEnvC scope cl C X.env) fp) T W0 ow elt d) (hv : ∀ i ∈ us, i ∈ own.map (·.2)) (hs : ∀ x, foldedSetIterable iter X.env x = pure x := by intro _; rfl) :
    DF X T W ow (.ListComp elt [⟨tg, iter, ifs, 0⟩] scope pos) (xLc di f t d (own.map (·.2))) :=
  (pe_lc hc hN hi ok hg ht he hs).imp fun _ _ _ w => lc_ok hv w
theorem ds_setLc {i : Nat} {y : Str} {py : Pos} {elt tg iter : Expr} {ifs : List Expr} {scope : Scope} {own : List (Str × Nat)} {us : List Nat} {spos : Pos} (hc : X.calm = true) (hN : X.N.Nodup) (hy : X.N[i]? = some y) (hyl : X.env.scope.names.lookup y = some .local)
    (hsw : swapsWith (.ListComp elt [⟨tg, iter, ifs, 0⟩] scope pos) (some (.Name y py)) spos.line X.env = pure true) (hi : DI X T false W ow tg iter di) (ok : BlkOk X.N X.env.scope scope own)
    (hg : ∀ (s : Shared) (H : Hp) (C : Addr) (cl : List (Str × Addr)) (fp : List Addr), DG (X.blk s H scope (compEnvC scope cl C X.env) fp) T ow tg f ow us) (ht : ∀ (s : Shared) (H : Hp) (C : Addr) (cl : List (Str × Addr)) (fp : List Addr), DTs (X.blk s H scope (compEnvC scope cl C X.env) fp) T ow ifs t)
    (he : ∀ (s : Shared) (H : Hp) (C : Addr) (cl : List (Str × Addr)) (fp : List Addr), DE (X.blk s H scope (compEnvC scope cl C X.env) fp) T W0 ow elt d) (hv : ∀ i ∈ us, i ∈ own.map (·.2)) (hl : i < ow.length := by decide) (ho : leB oe ow = true := by rfl) (hs : ∀ x, foldedSetIterable iter X.env x = pure x := by intro _; rfl) :
    DS X T W fr oe ol ow (.Assign [.Name y py] (.ListComp elt [⟨tg, iter, ifs, 0⟩] scope pos) spos) (sSet i (xLc di f t d (own.map (·.2)))) (ow.set i true) :=
  (ps_setLc hc hN hy hyl hsw hi ok hg ht he hs).imp fun D σ H w => by
    have := setF_ok (d := xLc di f t d (own.map (·.2))) hl ho w
    exact lc_ok hv this

/-! ### changing an owned object -/
theorem Sta.put {g : Str → Option Value} {K : PySem.W.Frag} {H0 F0 H F : Hp} {env : PEnv} {σ : L2.St} {i : Nat} {x y : PV} {a : Addr} {o : HO} (l : Sta g K T H0 F0 ow env σ H F) (he : env[i]? = some (some x)) (hw : ow[i]? = some true) (hs : σ[i]? = some (some (.ref a))) (r : RepO g K F o y) :
    Sta g K T H0 F0 ow (env.set i (some y)) σ (upd H a o) F := by
  obtain ⟨b, u, e1, e2, e3, e4, e5, e6⟩ := l.own i x he hw
  rw [hs] at e1; cases e1
  have hi : i < env.length := (List.getElem?_eq_some_iff.mp he).1
  refine ⟨⟨fun b t => ?_, fun b v nt q => ?_, l.ext.f, fun b v q => ?_, l.ext.ft, l.ext.new⟩, by rw [List.length_set]; exact l.len, fun j z q n => ?_, fun j z q n => ?_, fun j k z z' b h1 h2 q1 q2 s1 s2 => ?_⟩
  · obtain ⟨ps, f1, f2⟩ := l.ext.tabs b t
    exact ⟨ps, by rw [upd_ne (fun z => e6 (by rw [← z]; exact t))]; exact f1, f2⟩
  · rw [upd_ne (fun z => by rw [z, e4] at q; cases q)]; exact l.ext.h b v nt q
  · rw [upd_ne (fun z => by rw [z, e5] at q; cases q)]; exact l.ext.fh b v q
  · have hj : i ≠ j := fun z => n (by rw [← z]; exact hw)
    rw [List.getElem?_set_ne hj] at q
    exact l.slot j z q n
  · by_cases hj : i = j
    · subst hj
      rw [List.getElem?_set_self hi] at q
      cases q
      exact ⟨a, o, hs, upd_same, r, e4, e5, e6⟩
    · rw [List.getElem?_set_ne hj] at q
      obtain ⟨b, u', f1, f2, f3, f4, f5, f6⟩ := l.own j z q n
      have nb : b ≠ a := fun z' => hj (l.dist i j x z a hw n he q hs (by rw [f1, z']))
      exact ⟨b, u', f1, by rw [upd_ne nb]; exact f2, f3, f4, f5, f6⟩
  · have old : ∀ (j : Nat) z, (env.set i (some y))[j]? = some (some z) → ∃ z', env[j]? = some (some z') := fun j z q => by
      by_cases hj : i = j
      · subst hj; exact ⟨x, he⟩
      · rw [List.getElem?_set_ne hj] at q; exact ⟨z, q⟩
    obtain ⟨w1, p1⟩ := old j z q1
    obtain ⟨w2, p2⟩ := old k z' q2
    exact l.dist j k w1 w2 b h1 h2 p1 p2 s1 s2
/-- name.append(value) -/
def sApp (i : Nat) (d : PEnv → Res PV) : PEnv → SR := fun env => match env[i]? with
  | some (some (.lst xs)) => sWith d (fun v env => if xs.length < sizeLine then .nx (env.set i (some (.lst (xs ++ [v])))) else .bad) env
  | _ => .bad
theorem ds_app {i : Nat} {o : Expr} {apos cpos : Pos} (ho : PE X o (tVar i)) (hi : (ow[i]? == some true) = true) (ha : DA X T W ow [e] (aCons d aNil))
    (hbase : attributeBase o "append" X.env (eval o X.env) = eval o X.env := by rfl)
    (hfew : ((backTo cpos (starEach [e] X.env)).all (fun x => !x.1) && (backToKw cpos (keywordEach [] X.env)).all (fun x => x.1.isSome)
      && decide ([e].length + ([] : List Keyword).length + (if ([] : List Keyword).isEmpty then 0 else 1) < 30)) = true := by rfl)
    (hline : (apos.endLine == cpos.line) = true := by rfl) (hs : starEach [e] X.env = (false, eval e X.env) :: starEach [] X.env := by rfl) (hplain : (backTo cpos (starEach [] X.env)).any (·.1) = false := by rfl)
    (hoe : leB oe ow = true := by rfl) (hsw : swapsWith (.Call (.Attribute o "append" apos) [e] [] cpos) none pos.line X.env = pure false := by rfl) :
    DS X T W fr oe ol ow (.Expr (.Call (.Attribute o "append" apos) [e] [] cpos) pos) (sApp i d) ow :=
  (ps_expr (pe_bm PySem.F.plainAttrs_list PySem.F.slot_list_append PySem.F.type_list_append mt_append ho ha hbase hfew hline hs hplain) hsw).imp fun D σ H w => by
    obtain ⟨H0, F0, env, F, l, w⟩ := tS_iff.mp w
    unfold sApp at w
    split at w
    · rename_i xs hx
      obtain ⟨a, o, e1, e2, e3, e4, e5, e6⟩ := l.own i _ hx (by simpa using hi)
      cases e3 with
      | @lst vs _ rs =>
        refine ⟨.ref a, e1, .inl ⟨rfl, vs, .of e2⟩, H0, F0, env, F, l, ?_⟩
        show wpR ((d env).bnd _) _ _
        unfold sWith at w
        cases hd : d env with
        | bad => rw [hd] at w; exact w.elim
        | err x => rw [hd] at w; exact err_up l (le_of hoe) w
        | ok v =>
          rw [hd] at w
          simp only at w
          by_cases hz : xs.length < sizeLine
          · rw [if_pos hz] at w
            rintro us H' F' x (_ | ⟨r, t⟩)
            cases t
            refine ⟨a, vs, _, rfl, rfl, x.h a _ e6 e2, by rw [rs.length]; exact hz, ?_⟩
            exact w σ _ F' ((l.grow x).put hx (by simpa using hi) e1 (.lst ((rs.mono x.f).append (.cons r .nil))))
          · rw [if_neg hz] at w; exact w.elim
    · exact w.elim
/-- a place that is never come to -/
theorem ds_never {st : Stmt} : DS X T W fr oe ol ow st (fun _ => .bad) ow' := ps_never.imp fun D σ H w => by
  obtain ⟨H0, F0, env, F, l, w⟩ := tS_iff.mp w
  exact w
theorem dss_never {sts : List Stmt} : DSs X T W fr oe ol ow sts (fun _ => .bad) ow' := pss_never.imp fun D σ H w => by
  obtain ⟨H0, F0, env, F, l, w⟩ := tS_iff.mp w
  exact w
end

/-! ### defs -/
def mkEnv (n : Nat) (ps : List PV) : PEnv := ps.map some ++ List.replicate (n - ps.length) none
/-- what a def gives: n names, k parameters -/
def runB (fr : Bool) (n k : Nat) (s : PEnv → SR) : List PV → Res PV := fun ps => if ps.length = k then
    match s (mkEnv n ps) with
    | .rt v => .ok v
    | .nx _ => if fr = true then .bad else .ok .non
    | .er x _ => .err x
    | _ => .bad
  else .bad
def spD (g : Str → Option Value) (K : PySem.W.Frag) (T : Addr → Prop) (fr : Bool) (d : List PV → Res PV) : Sp := fun vs H Q E => ∃ ps F, Wf T H F ∧ Reps g K F vs ps ∧
  wpR (d ps) (fun r => ∀ v H' F', Ext T H F H' F' → Rt g K fr H H' F' v r → Q v H') (fun x => ∀ cls dd H' F', Ext T H F H' F' → RepX g K F' cls dd x → E cls dd H')
theorem sta_start {g : Str → Option Value} {K : PySem.W.Frag} {T : Addr → Prop} {H F : Hp} {vs : List V} {ps : List PV} {N : List Str} (w : Wf T H F) (r : Reps g K F vs ps) : Sta g K T H F (List.replicate N.length false) (mkEnv N.length ps) (L2.start N vs) H F := by
  have nf : ∀ i : Nat, (List.replicate N.length false)[i]? ≠ some true := fun i h => by
    rw [List.getElem?_replicate] at h
    split at h <;> cases h
  refine ⟨.refl w, by unfold L2.start mkEnv; rw [List.length_append, List.length_append, List.length_map, List.length_map, List.length_replicate, List.length_replicate, r.length], fun i x e n => ?_, fun i x e n => absurd n (nf i), fun i j x y a h _ => absurd h (nf i)⟩
  unfold mkEnv at e
  have hi : i < ps.length := by
    by_cases hi : i < ps.length
    · exact hi
    · rw [List.getElem?_append_right (by simpa using hi), List.getElem?_replicate] at e
      split at e <;> cases e
  rw [List.getElem?_append_left (by simpa using hi), List.getElem?_map] at e
  have hx : ps[i]? = some x := by
    cases q : ps[i]? with
    | none => rw [q] at e; cases e
    | some z => rw [q] at e; cases e; rfl
  obtain ⟨v, hv, rv⟩ := r.get hx
  refine ⟨v, ?_, rv⟩
  unfold L2.start
  rw [List.getElem?_append_left (by rw [List.length_map, r.length]; exact hi), List.getElem?_map, hv]
  rfl
section
variable {P : Program} {w : World} {K : PySem.W.Frag} {mg : Str → Option Value} {base : Heap} {T : Addr → Prop}
/-- THE RULE for a def -/
theorem fn_ok {x qual : Str} {st : Stmt} {f : Addr} {fd : FuncData} {N ps : List Str} {k : Nat} {fr : Bool} {s : PEnv → SR} {ow' : List Bool} (F : Fun K x qual st f fd) (S : FnScope N ps (defScope st))
    (hbody : ∀ (cdv : Value) (A : Around) (outer : List PySem.Env) (s0 : Shared) (H : Hp) (E : XK), Room k (A.deeper (envOfC qual (defScope st) s0.heap.objs.size f cdv)) →
      DSs (cxOf (L2.CX P w) P w K mg base N qual (defScope st) f cdv A outer s0 H E) T (fun cls d _ H' => E cls d H') fr [] [] (List.replicate N.length false) (defBody st) s ow') :
    FnOk P w K mg base (L2.CX P w) (k + 1) f fd ps (spD mg K T fr (runB fr N.length ps.length s)) := by
  have hlen : ∀ vs H Q E, spD mg K T fr (runB fr N.length ps.length s) vs H Q E → vs.length = ps.length := fun vs H Q E ⟨qs, F, wf, r, w⟩ => by
    unfold runB at w
    by_cases h : qs.length = ps.length
    · rw [r.length]; exact h
    · rw [if_neg h] at w; exact w.elim
  refine F.okX S hlen (fun cdv A outer s0 H vs Q E hr h => ?_)
  refine ⟨_, hbody cdv A outer s0 H E hr, ?_⟩
  obtain ⟨qs, F, wf, r, w⟩ := h
  unfold runB at w
  by_cases hl : qs.length = ps.length
  · rw [if_pos hl] at w
    refine tS_iff.mpr ⟨H, F, mkEnv N.length qs, F, sta_start wf r, ?_⟩
    cases hs : s (mkEnv N.length qs) with
    | rt v => rw [hs] at w; exact fun u H' F' x rt => w u H' F' x rt
    | nx e =>
      rw [hs] at w
      cases fr with
      | true => exact w.elim
      | false => exact fun σ' H' F' l => w .non H' F' l.ext .non
    | er x e => rw [hs] at w; exact fun cls dd σ' H' F' l rx => w cls dd H' F' l.ext rx
    | bk e => rw [hs] at w; exact w.elim
    | ct e => rw [hs] at w; exact w.elim
    | bad => rw [hs] at w; exact w.elim
  · rw [if_neg hl] at w; exact w.elim
end

section
variable {X : Cx} {T : Addr → Prop} {W : WX} {ow : List Bool} {fr fr' : Bool} {e : Expr} {es : List Expr} {ds : PEnv → Res (List PV)} {pos p : Pos}
/-- f(e, ..) -/
def xUse (df : List PV → Res PV) (ds : PEnv → Res (List PV)) : PEnv → Res PV := fun env => (ds env).bnd df
theorem dx_use {k : Nat} {f : Addr} {fd : FuncData} {ps : List Str} {x : Str} {df : List PV → Res PV} (F : FnOk X.prog X.w X.K X.mg X.base (L2.CX X.prog X.w) k f fd ps (spD X.mg X.K T fr df)) (hr : Room k X.A) (hg : Gl X x) (hm : X.mg x = some (.ref f)) (hk : PySem.W.keepIn X.K (.ref f) = true) (hb : Binds X.K fd ps []) (tk : Takes X W)
    (ha : DA X T W ow (e :: es) ds) (hdb : (x == ("__debug__" : Str)) = false := by decide) (he : starEach (e :: es) X.env = (false, eval e X.env) :: starEach es X.env := by rfl) (hpl : (backTo pos (starEach es X.env)).any (·.1) = false := by rfl) :
    DX X T fr W ow (.Call (.Name x p) (e :: es) [] pos) (xUse df ds) :=
  (pe_callS F hr hg hm hk hb (fun σ => passAt tk σ) ha hdb he hpl).imp fun σ H Q ⟨H0, F0, env, F, l, w⟩ => by
    refine ⟨H0, F0, env, F, l, wpR_mono (wpR_bnd.mp w) (fun ps w1 vs H1 F1 e1 rs => ?_) fun _ z => z⟩
    exact ⟨ps, F1, e1.wf, rs, wpR_mono w1 (fun r q v H' F' x rt => q v H' F' (e1.trans x) (rt.back e1)) fun x q cls dd H' F' xx rx => q cls dd H' F' (e1.trans xx) rx⟩
end
end D
end

section
set_option Elab.async false
set_option linter.all false
set_option maxRecDepth 100000
set_option maxHeartbeats 1000000
namespace D
open PySem PySem.Spec PyProof.Rows L2

section
variable {g : Str → Option Value} {K : PySem.W.Frag} {T : Addr → Prop} {H F : Hp} {v : V} {x : PV}
/-! ### scalars -/
theorem RepT.int {i : Int} (h : RepT g K T H F v (.int i)) : v = .int i := by
  rcases h with h | ⟨a, o, rfl, h2, h3, h4⟩
  · cases h; rfl
  · cases h3
theorem RepT.bl {i : Bool} (h : RepT g K T H F v (.bl i)) : v = .bl i := by
  rcases h with h | ⟨a, o, rfl, h2, h3, h4⟩
  · cases h; rfl
  · cases h3
theorem RepT.str {i : Str} (h : RepT g K T H F v (.str i)) : v = .str i := by
  rcases h with h | ⟨a, o, rfl, h2, h3, h4⟩
  · cases h; rfl
  · cases h3
theorem RepT.non (h : RepT g K T H F v .non) : v = .non := by
  rcases h with h | ⟨a, o, rfl, h2, h3, h4⟩
  · cases h; rfl
  · cases h3
def isNonP : PV → Bool
  | .non => true
  | _ => false
theorem RepT.non_iff (h : RepT g K T H F v x) : decide (v = .non) = isNonP x := by
  rcases h with h | ⟨a, o, rfl, h2, h3, h4⟩
  · cases h <;> rfl
  · cases h3 <;> rfl
theorem RepT.lstH {xs : List PV} (w : Wf T H F) (h : RepT g K T H F v (.lst xs)) : ∃ a vs, v = .ref a ∧ H a = some (.lst vs) ∧ Reps g K F vs xs := by
  rcases h with h | ⟨a, o, rfl, h2, h3, h4⟩
  · cases h with
    | lst hs r => exact ⟨_, _, rfl, w.fh _ _ hs, r⟩
  · cases h3 with
    | lst r => exact ⟨_, _, rfl, h2, r⟩
theorem RepT.lst {xs : List PV} (w : Wf T H F) (h : RepT g K T H F v (.lst xs)) : ∃ a vs, v = .ref a ∧ SqL K H a vs ∧ Reps g K F vs xs := by
  obtain ⟨a, vs, e, h1, h2⟩ := h.lstH w
  exact ⟨a, vs, e, .of h1, h2⟩
theorem RepT.scr {ns : List Int} (w : Wf T H F) (h : RepT g K T H F v (.scr ns)) : ∃ a, v = .ref a ∧ SqL K H a (ns.map V.int) := by
  rcases h with h | ⟨a, o, rfl, h2, h3, h4⟩
  · cases h with
    | scr hs => exact ⟨_, rfl, w.fh.seq hs⟩
  · cases h3
theorem RepT.tup {xs : List PV} (w : Wf T H F) (h : RepT g K T H F v (.tup xs)) : ∃ a vs, v = .ref a ∧ SqT K H a vs ∧ Reps g K F vs xs := by
  rcases h with h | ⟨a, o, rfl, h2, h3, h4⟩
  · cases h with
    | tup hs r => exact ⟨_, _, rfl, Same.seqT w.fh hs, r⟩
  · cases h3

/-- ints -/
def fI (f : Int → Int → Option PV) : F2
  | .int i, .int j => f i j
  | _, _ => none
def fI0 (f : Int → Int → PV) : F2 := fI fun i j => some (f i j)
/-- a value without an object -/
def scalarP : PV → Bool
  | .non => true | .bl _ => true | .int _ => true | .str _ => true | _ => false
def sV : PV → V
  | .non => .non | .bl b => .bl b | .int i => .int i | .str s => .str s | _ => .non
theorem rep_sV {F : Hp} : ∀ {x : PV}, scalarP x = true → Rep g K F (sV x) x
  | .non, _ => .non
  | .bl b, _ => .bl b
  | .int b, _ => .int b
  | .str b, _ => .str b
theorem ops_I {f : Int → Int → V} {p : Int → Int → PV} {C : Int → Int → Prop} {c : Int → Int → Option PV} (hp : ∀ i j, f i j = sV (p i j) ∧ scalarP (p i j) = true) (hc : ∀ i j z, c i j = some z → C i j ∧ z = p i j) : OpS g K T false (rI C f) (fI c) := by
  intro H F x y p' q' z Q w rx ry hz hq
  unfold fI at hz
  split at hz
  · obtain ⟨h1, rfl⟩ := hc _ _ _ hz
    rw [rx.int, ry.int]
    refine ⟨_, _, rfl, rfl, h1, ?_⟩
    obtain ⟨e1, e2⟩ := hp ‹Int› ‹Int›
    rename_i i j
    obtain ⟨e1, e2⟩ := hp i j
    rw [e1]
    exact hq _ H F (.refl w) (rep_sV e2)
  · cases hz
theorem ops_I0 {f : Int → Int → V} {p : Int → Int → PV} (hp : ∀ i j, f i j = sV (p i j) ∧ scalarP (p i j) = true) : OpS g K T false (rI0 f) (fI0 p) := by
  intro H F x y p' q' z Q w rx ry hz hq
  unfold fI0 fI at hz
  split at hz
  · cases hz
    rw [rx.int, ry.int]
    rename_i i j
    refine ⟨i, j, rfl, rfl, ?_⟩
    obtain ⟨e1, e2⟩ := hp i j
    rw [e1]
    exact hq _ H F (.refl w) (rep_sV e2)
  · cases hz
def pySub : F2 := fI0 fun i j => .int (i - j)
theorem o_sub : OpS g K T false (rI0 fun i j => .int (i - j)) pySub := ops_I0 fun _ _ => ⟨rfl, rfl⟩
def pyLt : F2 := fI0 fun i j => .bl (decide (i < j))
def pyLe : F2 := fI0 fun i j => .bl (decide (i ≤ j))
def pyGt : F2 := fI0 fun i j => .bl (decide (j < i))
def pyGe : F2 := fI0 fun i j => .bl (decide (j ≤ i))
theorem o_lt : OpS g K T false (rI0 fun i j => .bl (decide (i < j))) pyLt := ops_I0 fun _ _ => ⟨rfl, rfl⟩
theorem o_le : OpS g K T false (rI0 fun i j => .bl (decide (i ≤ j))) pyLe := ops_I0 fun _ _ => ⟨rfl, rfl⟩
theorem o_gt : OpS g K T false (rI0 fun i j => .bl (decide (j < i))) pyGt := ops_I0 fun _ _ => ⟨rfl, rfl⟩
theorem o_ge : OpS g K T false (rI0 fun i j => .bl (decide (j ≤ i))) pyGe := ops_I0 fun _ _ => ⟨rfl, rfl⟩
def pyBand : F2 := fI0 fun i j => .int (Builtin.bitAnd i j)
def pyBor : F2 := fI0 fun i j => .int (Builtin.bitOr i j)
def pyBxor : F2 := fI0 fun i j => .int (Builtin.bitXor i j)
theorem o_band : OpS g K T false (rI0 fun i j => .int (Builtin.bitAnd i j)) pyBand := ops_I0 fun _ _ => ⟨rfl, rfl⟩
theorem o_bor : OpS g K T false (rI0 fun i j => .int (Builtin.bitOr i j)) pyBor := ops_I0 fun _ _ => ⟨rfl, rfl⟩
theorem o_bxor : OpS g K T false (rI0 fun i j => .int (Builtin.bitXor i j)) pyBxor := ops_I0 fun _ _ => ⟨rfl, rfl⟩
def small64 (i : Int) : Bool := decide (-(2 ^ 64) < i ∧ i < 2 ^ 64)
def pyMulI : F2 := fI fun i j => if small64 i = true ∨ small64 j = true then some (.int (i * j)) else none
theorem o_mul : OpS g K T false (rI CMul fun i j => .int (i * j)) pyMulI := ops_I (fun _ _ => ⟨rfl, rfl⟩) fun i j z h => by
  obtain ⟨hc, rfl⟩ := some_if h
  exact ⟨hc.imp (fun q => of_decide_eq_true q) fun q => of_decide_eq_true q, rfl⟩
def pyMod : F2 := fI fun i j => if 0 < j then some (.int (i % j)) else none
theorem o_mod : OpS g K T false (rI (fun _ j => 0 < j) fun i j => .int (i % j)) pyMod := ops_I (fun _ _ => ⟨rfl, rfl⟩) fun i j z h => by
  obtain ⟨hc, rfl⟩ := some_if h
  exact ⟨hc, rfl⟩
def pyFdiv : F2 := fI fun i j => if 0 < j ∧ j < 1073741824 then some (.int (i / j)) else none
theorem o_fdiv : OpS g K T false (rI CDiv fun i j => .int (i / j)) pyFdiv := ops_I (fun _ _ => ⟨rfl, rfl⟩) fun i j z h => by
  obtain ⟨hc, rfl⟩ := some_if h
  exact ⟨hc, rfl⟩
def pyPow : F2 := fI fun i j => if 0 ≤ j ∧ j ≤ 1000000 ∧ i.natAbs < 2 ^ 64 then some (.int (i ^ j.toNat)) else none
theorem o_pow : OpS g K T false (rI CPow fun i j => .int (i ^ j.toNat)) pyPow := ops_I (fun _ _ => ⟨rfl, rfl⟩) fun i j z h => by
  obtain ⟨hc, rfl⟩ := some_if h
  exact ⟨hc, rfl⟩
def pyShl : F2 := fI fun i j => if 0 ≤ j ∧ j ≤ 1000000 ∧ i.natAbs < 2 ^ 64 then some (.int (i * 2 ^ j.toNat)) else none
theorem o_shl : OpS g K T false (rI CPow fun i j => .int (i * 2 ^ j.toNat)) pyShl := ops_I (fun _ _ => ⟨rfl, rfl⟩) fun i j z h => by
  obtain ⟨hc, rfl⟩ := some_if h
  exact ⟨hc, rfl⟩
def pyShr : F2 := fI fun i j => if 0 ≤ j then some (.int (i / 2 ^ j.toNat)) else none
theorem o_shr : OpS g K T false (rI (fun _ j => 0 ≤ j) fun i j => .int (i / 2 ^ j.toNat)) pyShr := ops_I (fun _ _ => ⟨rfl, rfl⟩) fun i j z h => by
  obtain ⟨hc, rfl⟩ := some_if h
  exact ⟨hc, rfl⟩
/-- + of ints, of texts -/
def pyAdd : F2
  | .int i, .int j => some (.int (i + j))
  | .str a, .str b => if a.length + b.length ≤ sizeLine then some (.str (a ++ b)) else none
  | _, _ => none
def rAddIS : R2 := fun x y H Q => rI0 (fun i j => .int (i + j)) x y H Q ∨ (∃ i j, x = .str i ∧ y = .str j ∧ i.length + j.length ≤ sizeLine ∧ Q (.str (i ++ j)) H)
theorem op_addIS {X : Cx} : OpR X (binaryOp .Add) rAddIS := op_add.or op_add_str
theorem o_add : OpS g K T false rAddIS pyAdd := by
  intro H F x y p q z Q w rx ry hz hq
  unfold pyAdd at hz
  split at hz
  · cases hz
    rw [rx.int, ry.int]
    exact .inl ⟨_, _, rfl, rfl, hq _ H F (.refl w) (.int _)⟩
  · obtain ⟨hc, rfl⟩ := some_if hz
    rw [rx.str, ry.str]
    exact .inr ⟨_, _, rfl, rfl, hc, hq _ H F (.refl w) (.str _)⟩
  · cases hz
/-- lists -/
def pyCat : F2
  | .lst a, .lst b => if a.length + b.length ≤ sizeLine then some (.lst (a ++ b)) else none
  | _, _ => none
theorem fresh_lst {vs : List V} {ys : List PV} (w : Wf T H F) (r : Reps g K F vs ys) {p : Addr} (np : H p = none) : Ext T H F (upd H p (.lst vs)) F ∧ Rt g K true H (upd H p (.lst vs)) F (.ref p) (.lst ys) := by
  refine ⟨Ext.laid w np, p, _, rfl, upd_same, .lst r, np, ?_⟩
  cases q : F p with
  | none => rfl
  | some u => rw [w.fh p u q] at np; cases np
theorem o_cat : OpS g K T true rCat pyCat := by
  intro H F x y p q z Q w rx ry hz hq
  unfold pyCat at hz
  split at hz
  · obtain ⟨hc, rfl⟩ := some_if hz
    obtain ⟨a, vs, rfl, h1, r1⟩ := rx.lstH w
    obtain ⟨b, us, rfl, h2, r2⟩ := ry.lstH w
    refine ⟨a, b, vs, us, rfl, rfl, h1, h2, by rw [r1.length, r2.length]; exact hc, fun p np => ?_⟩
    obtain ⟨e, r⟩ := fresh_lst w (r1.append r2) np
    exact hq _ _ _ e r
  · cases hz
/-- a tuple -/
def pyNeg : PV → Option PV
  | .int i => some (.int (-i))
  | _ => none
theorem u_neg : UnS g K T false (rU fun i => .int (-i)) pyNeg := by
  intro H F x p z Q w rx hz hq
  unfold pyNeg at hz
  split at hz
  · cases hz
    rw [rx.int]
    exact ⟨_, rfl, hq _ H F (.refl w) (.int _)⟩
  · cases hz
def pyInv : PV → Option PV
  | .int i => some (.int (Builtin.bitNot i))
  | _ => none
theorem u_inv : UnS g K T false (rU fun i => .int (Builtin.bitNot i)) pyInv := by
  intro H F x p z Q w rx hz hq
  unfold pyInv at hz
  split at hz
  · cases hz
    rw [rx.int]
    exact ⟨_, rfl, hq _ H F (.refl w) (.int _)⟩
  · cases hz

/-! ### is None -/
def pyIsN : F2 := fun x y => match y with
  | .non => some (.bl (isNonP x))
  | _ => none
theorem o_isN : OpS g K T false (fun x y H Q => y = .non ∧ Q (.bl (decide (x = .non))) H) pyIsN := by
  intro H F x y p q z Q w rx ry hz hq
  unfold pyIsN at hz
  split at hz
  · cases hz
    refine ⟨ry.non, ?_⟩
    rw [rx.non_iff]
    exact hq _ H F (.refl w) (.bl _)
  · cases hz
def pyNotN : F2 := fun x y => match y with
  | .non => some (.bl (!isNonP x))
  | _ => none
theorem o_notN : OpS g K T false (fun x y H Q => y = .non ∧ Q (.bl (!decide (x = .non))) H) pyNotN := by
  intro H F x y p q z Q w rx ry hz hq
  unfold pyNotN at hz
  split at hz
  · cases hz
    refine ⟨ry.non, ?_⟩
    rw [rx.non_iff]
    exact hq _ H F (.refl w) (.bl _)
  · cases hz

/-! ### == of data -/
mutual
def toD : PV → Option PyData
  | .non => some .none
  | .bl b => some (.bool b)
  | .int i => some (.int i)
  | .str s => some (.str s)
  | .lst xs => (toDs xs).map .list
  | .tup xs => (toDs xs).map .tuple
  | .obj _ _ => none
  | .dct _ => none
  | .scr _ => none
def toDs : List PV → Option (List PyData)
  | [] => some []
  | x :: xs => (toD x).bind fun d => (toDs xs).map fun ds => d :: ds
end
mutual
theorem rep_D (w : Same F H) : ∀ (x : PV) {v : V} {d : PyData}, Rep g K F v x → toD x = some d → Dp K H v d
  | .non, _, _, .non, e => by cases e; exact .non
  | .bl b, _, _, .bl _, e => by cases e; exact .bl b
  | .int b, _, _, .int _, e => by cases e; exact .int b
  | .str b, _, _, .str _, e => by cases e; exact .str b
  | .lst xs, _, _, .lst h r, e => by
    unfold toD at e
    obtain ⟨ds, e1, e2⟩ := Option.map_eq_some_iff.mp e
    subst e2
    exact .lst (.of (w _ _ h)) (reps_D w xs r e1)
  | .tup xs, _, _, .tup h r, e => by
    unfold toD at e
    obtain ⟨ds, e1, e2⟩ := Option.map_eq_some_iff.mp e
    subst e2
    exact .tup (Same.seqT w h) (reps_D w xs r e1)
  | .obj _ _, _, _, _, e => by cases e
  | .dct _, _, _, _, e => by cases e
  | .scr _, _, _, _, e => by cases e
theorem reps_D (w : Same F H) : ∀ (xs : List PV) {vs : List V} {ds : List PyData}, Reps g K F vs xs → toDs xs = some ds → DpAll K H vs ds
  | [], _, _, .nil, e => by cases e; exact .nil
  | x :: xs, _, _, .cons r t, e => by
    unfold toDs at e
    obtain ⟨d, e1, e2⟩ := Option.bind_eq_some_iff.mp e
    obtain ⟨ds, e3, e4⟩ := Option.map_eq_some_iff.mp e2
    subst e4
    exact .cons (rep_D w x r e1) (reps_D w xs t e3)
end
theorem RepT.D (w : Wf T H F) {d : PyData} (h : RepT g K T H F v x) (e : toD x = some d) : Dp K H v d := by
  rcases h with h | ⟨a, o, rfl, h2, h3, h4⟩
  · exact rep_D w.fh x h e
  · cases h3 with
    | lst r =>
      unfold toD at e
      obtain ⟨ds, e1, e2⟩ := Option.map_eq_some_iff.mp e
      subst e2
      exact .lst (.of h2) (reps_D w.fh _ r e1)
    | obj _ _ => cases e
    | dct _ => cases e
def pyEq : F2 := fun x y => (toD x).bind fun d => (toD y).bind fun e => if SeqAt.shaped d = true ∧ SeqAt.shaped e = true then some (.bl (PyData.eqv d e)) else none
def pyNe : F2 := fun x y => (toD x).bind fun d => (toD y).bind fun e => if SeqAt.shaped d = true ∧ SeqAt.shaped e = true then some (.bl (!PyData.eqv d e)) else none
theorem o_eq : OpS g K T false (rEqD K) pyEq := by
  intro H F x y p q z Q w rx ry hz hq
  unfold pyEq at hz
  obtain ⟨d, e1, hz⟩ := Option.bind_eq_some_iff.mp hz
  obtain ⟨e, e2, hz⟩ := Option.bind_eq_some_iff.mp hz
  obtain ⟨hc, rfl⟩ := some_if hz
  exact ⟨d, e, rx.D w e1, ry.D w e2, hc.1, hc.2, hq _ H F (.refl w) (.bl _)⟩
theorem o_ne : OpS g K T false (rNeD K) pyNe := by
  intro H F x y p q z Q w rx ry hz hq
  unfold pyNe at hz
  obtain ⟨d, e1, hz⟩ := Option.bind_eq_some_iff.mp hz
  obtain ⟨e, e2, hz⟩ := Option.bind_eq_some_iff.mp hz
  obtain ⟨hc, rfl⟩ := some_if hz
  exact ⟨d, e, rx.D w e1, ry.D w e2, hc.1, hc.2, hq _ H F (.refl w) (.bl _)⟩
end
end D
end

section
set_option Elab.async false
set_option linter.all false
set_option maxRecDepth 100000
set_option maxHeartbeats 1000000
namespace D
open PySem PySem.Spec PyProof.Rows L2

section
variable {g : Str → Option Value} {K : PySem.W.Frag} {T : Addr → Prop} {H F : Hp} {v : V} {x : PV}
/-! ### len -/
def pyLen : List PV → Option PV
  | [.str s] => if s.length ≤ sizeLine then some (.int s.length) else none
  | [.lst xs] => some (.int xs.length)
  | [.tup xs] => some (.int xs.length)
  | [.scr xs] => some (.int xs.length)
  | _ => none
theorem c_len : CallS g K T false (fun xs H Q => ∃ x n, xs = [x] ∧ LenV K x H n ∧ Q (.int n) H) pyLen := by
  intro H F xs ps z Q w rs hz hq
  unfold pyLen at hz
  split at hz
  · obtain ⟨hc, rfl⟩ := some_if hz
    rcases rs with _ | ⟨r, _ | _⟩
    rw [r.str]
    exact ⟨_, _, rfl, ⟨hc, rfl⟩, hq _ H F (.refl w) (.int _)⟩
  · cases hz
    rcases rs with _ | ⟨r, _ | _⟩
    obtain ⟨a, vs, rfl, hs, rr⟩ := r.lst w
    exact ⟨_, _, rfl, .inl ⟨vs, hs, rr.length.symm⟩, hq _ H F (.refl w) (.int _)⟩
  · cases hz
    rcases rs with _ | ⟨r, _ | _⟩
    obtain ⟨a, vs, rfl, hs, rr⟩ := r.tup w
    exact ⟨_, _, rfl, .inr ⟨vs, hs, rr.length.symm⟩, hq _ H F (.refl w) (.int _)⟩
  · cases hz
    rcases rs with _ | ⟨r, _ | _⟩
    obtain ⟨a, rfl, hs⟩ := r.scr w
    exact ⟨_, _, rfl, .inl ⟨_, hs, (List.length_map ..).symm⟩, hq _ H F (.refl w) (.int _)⟩
  · cases hz
/-! ### subscripts -/
theorem atI_rep {F : Hp} {vs : List V} {xs : List PV} {i : Int} {z : PV} (r : Reps g K F vs xs) (h : atI xs i = some z) : ∃ v, atI vs i = some v ∧ Rep g K F v z := by
  unfold atI at h ⊢
  rw [r.length]
  cases e : ixN xs.length i with
  | none => rw [e] at h; cases h
  | some j =>
    rw [e] at h
    exact r.get h
def pyIx : F2
  | .lst xs, .int i => atI xs i
  | .tup xs, .int i => atI xs i
  | .scr ns, .int i => (atI ns i).map .int
  | .str s, .int i => if s.length ≤ sizeLine then (atI s.cps.toList i).map fun c => .str ⟨#[c]⟩ else none
  | _, _ => none
theorem o_ix : OpS g K T false (rIx K) pyIx := by
  intro H F x y p q z Q w rx ry hz hq
  unfold pyIx at hz
  split at hz
  · obtain ⟨a, vs, rfl, hs, rr⟩ := rx.lst w
    obtain ⟨u, hu, ru⟩ := atI_rep rr hz
    rw [ry.int]
    exact .inl ⟨a, vs, _, u, rfl, rfl, hs, hu, hq u H F (.refl w) ru⟩
  · obtain ⟨a, vs, rfl, hs, rr⟩ := rx.tup w
    obtain ⟨u, hu, ru⟩ := atI_rep rr hz
    rw [ry.int]
    exact .inr (.inl ⟨a, vs, _, u, rfl, rfl, hs, hu, hq u H F (.refl w) ru⟩)
  · obtain ⟨n, hn, rfl⟩ := Option.map_eq_some_iff.mp hz
    obtain ⟨a, rfl, hs⟩ := rx.scr w
    rw [ry.int]
    refine .inl ⟨a, _, _, .int n, rfl, rfl, hs, ?_, hq _ H F (.refl w) (.int n)⟩
    unfold atI at hn ⊢
    rw [List.length_map]
    cases e : ixN (List.length _) _ with
    | none => rw [e] at hn; cases hn
    | some j => rw [e] at hn; simp only [Option.bind_some] at hn ⊢; rw [List.getElem?_map, hn]; rfl
  · rename_i s i
    by_cases hc : s.length ≤ sizeLine
    · rw [if_pos hc] at hz
      obtain ⟨c, hc2, rfl⟩ := Option.map_eq_some_iff.mp hz
      rw [rx.str, ry.int]
      exact .inr (.inr ⟨s, i, c, rfl, rfl, hc, hc2, hq _ H F (.refl w) (.str _)⟩)
    · rw [if_neg hc] at hz; cases hz
  · cases hz
/-! ### slices -/
def cutP (xs : List PV) (lo hi : Option Int) : List PV := (xs.drop (HT.sIx xs.length 0 lo)).take (HT.sIx xs.length xs.length hi - HT.sIx xs.length 0 lo)
theorem cut_rep {F : Hp} {vs : List V} {xs : List PV} {lo hi : Option Int} (r : Reps g K F vs xs) : Reps g K F (cutV vs lo hi) (cutP xs lo hi) := by
  unfold cutV cutP
  rw [r.length]
  exact (r.drop _).take _
def pySl : PV → Option Int → Option Int → Option PV
  | .str s, lo, hi => if s.length ≤ sizeLine then some (.str (cutS s lo hi)) else none
  | .tup xs, lo, hi => some (.tup (cutP xs lo hi))
  | _, _, _ => none
theorem s_sl : SlS g K T false (fun x lo hi H Q => rSlS x lo hi H Q ∨ rSlA K x lo hi H Q) pySl := by
  intro H F x lo hi p z Q w rx hz hq
  unfold pySl at hz
  split at hz
  · obtain ⟨hc, rfl⟩ := some_if hz
    rw [rx.str]
    exact .inl ⟨_, rfl, hc, hq _ H F (.refl w) (.str _)⟩
  · cases hz
    rename_i xs
    refine .inr ?_
    rcases rx with rx | ⟨a, o, rfl, h2, h3, h4⟩
    · cases rx with
      | @tup a vs _ hs rr =>
        refine ⟨a, vs, rfl, Same.seqT w.fh hs, fun ⟨e1, e2⟩ => ?_, fun ne p np => ?_⟩
        · refine hq _ H F (.refl w) (.tup hs ?_)
          have : cutP xs lo hi = xs := by
            unfold cutP
            rw [← rr.length, e1, e2, List.drop_zero, Nat.sub_zero, rr.length, List.take_length]
          rw [this]; exact rr
        · have x2 := Ext.alloc w (o := .tup (cutV vs lo hi)) np
          exact hq _ _ _ x2 (.tup (.of upd_same) ((cut_rep rr).mono x2.f))
    · cases h3
  · cases hz
def pySlL : PV → Option Int → Option Int → Option PV
  | .lst xs, lo, hi => some (.lst (cutP xs lo hi))
  | _, _, _ => none
theorem s_slL : SlS g K T true (rSlL K) pySlL := by
  intro H F x lo hi p z Q w rx hz hq
  unfold pySlL at hz
  split at hz
  · cases hz
    obtain ⟨a, vs, rfl, hs, rr⟩ := rx.lst w
    refine ⟨a, vs, rfl, hs, fun p np => ?_⟩
    obtain ⟨e, r⟩ := fresh_lst w (cut_rep (lo := lo) (hi := hi) rr) np
    exact hq _ _ _ e r
  · cases hz
/-! ### conversions -/
def pyInt : List PV → Option PV
  | [.int i] => some (.int i)
  | [.bl b] => some (.int (if b then 1 else 0))
  | [.str s] => if s.length ≤ 640 then (PySem.intText? s).map .int else none
  | _ => none
def rIntAll : List V → Hp → VK → Prop := fun xs H Q => ((∃ i, xs = [.int i] ∧ Q (.int i) H) ∨ ∃ k, xs = [.bl k] ∧ Q (.int (if k then 1 else 0)) H) ∨ ∃ a n, xs = [.str a] ∧ PySem.intText? a = some n ∧ a.length ≤ 640 ∧ Q (.int n) H
theorem call_intAll {X : Cx} : CallR X (.type "int") rIntAll := call_int1.or call_int_str
theorem c_int : CallS g K T false rIntAll pyInt := by
  intro H F xs ps z Q w rs hz hq
  unfold pyInt at hz
  split at hz
  · cases hz
    rcases rs with _ | ⟨r, _ | _⟩
    rw [r.int]
    exact .inl (.inl ⟨_, rfl, hq _ H F (.refl w) (.int _)⟩)
  · cases hz
    rcases rs with _ | ⟨r, _ | _⟩
    rw [r.bl]
    exact .inl (.inr ⟨_, rfl, hq _ H F (.refl w) (.int _)⟩)
  · rename_i s
    rcases rs with _ | ⟨r, _ | _⟩
    by_cases hc : s.length ≤ 640
    · rw [if_pos hc] at hz
      obtain ⟨n, hn, rfl⟩ := Option.map_eq_some_iff.mp hz
      rw [r.str]
      exact .inr ⟨_, n, rfl, hn, hc, hq _ H F (.refl w) (.int _)⟩
    · rw [if_neg hc] at hz; cases hz
  · cases hz
def pyStr : List PV → Option PV
  | [.int i] => if i.natAbs.log2 < 1920 then some (.str (toString i)) else none
  | _ => none
theorem c_str : CallS g K T false (fun xs H Q => ∃ i, xs = [.int i] ∧ i.natAbs.log2 < 1920 ∧ Q (.str (toString i)) H) pyStr := by
  intro H F xs ps z Q w rs hz hq
  unfold pyStr at hz
  split at hz
  · obtain ⟨hc, rfl⟩ := some_if hz
    rcases rs with _ | ⟨r, _ | _⟩
    rw [r.int]
    exact ⟨_, rfl, hc, hq _ H F (.refl w) (.str _)⟩
  · cases hz
def pyTuple : List PV → Option PV
  | [.lst xs] => some (.tup xs)
  | [.tup xs] => some (.tup xs)
  | _ => none
theorem c_tuple : CallS g K T false (fun xs H Q => ∃ p ys, xs = [.ref p] ∧ ((SqL K H p ys ∧ ∀ l, H l = none → Q (.ref l) (upd H l (.tup ys))) ∨ (SqT K H p ys ∧ Q (.ref p) H))) pyTuple := by
  intro H F xs ps z Q w rs hz hq
  unfold pyTuple at hz
  split at hz
  · cases hz
    rcases rs with _ | ⟨r, _ | _⟩
    obtain ⟨a, vs, rfl, hs, rr⟩ := r.lst w
    refine ⟨a, vs, rfl, .inl ⟨hs, fun l nl => ?_⟩⟩
    have x2 := Ext.alloc w (o := .tup vs) nl
    exact hq _ _ _ x2 (.tup (.of upd_same) (rr.mono x2.f))
  · cases hz
    rcases rs with _ | ⟨r, _ | _⟩
    rcases r with r | ⟨a, o, rfl, h2, h3, h4⟩
    · cases r with
      | @tup a vs _ hs rr => exact ⟨a, vs, rfl, .inr ⟨Same.seqT w.fh hs, hq _ H F (.refl w) (.tup hs rr)⟩⟩
    · cases h3
  · cases hz
def pyList : List PV → Option PV
  | [.lst xs] => some (.lst xs)
  | [.tup xs] => some (.lst xs)
  | _ => none
theorem c_list : CallS g K T true (fun xs H Q => ∃ p ys, xs = [.ref p] ∧ (SqL K H p ys ∨ SqT K H p ys) ∧ ∀ l, H l = none → Q (.ref l) (upd H l (.lst ys))) pyList := by
  intro H F xs ps z Q w rs hz hq
  unfold pyList at hz
  split at hz
  · cases hz
    rcases rs with _ | ⟨r, _ | _⟩
    obtain ⟨a, vs, rfl, hs, rr⟩ := r.lst w
    refine ⟨a, vs, rfl, .inl hs, fun l nl => ?_⟩
    obtain ⟨e, r⟩ := fresh_lst w rr nl
    exact hq _ _ _ e r
  · cases hz
    rcases rs with _ | ⟨r, _ | _⟩
    obtain ⟨a, vs, rfl, hs, rr⟩ := r.tup w
    refine ⟨a, vs, rfl, .inr hs, fun l nl => ?_⟩
    obtain ⟨e, r⟩ := fresh_lst w rr nl
    exact hq _ _ _ e r
  · cases hz
/-! ### join -/
def strsOf : List PV → Option (List Str)
  | [] => some []
  | .str s :: r => (strsOf r).map (s :: ·)
  | _ => none
theorem strs_rep {F : Hp} : ∀ {vs : List V} {xs : List PV} {ys : List Str}, Reps g K F vs xs → strsOf xs = some ys → vs = ys.map V.str
  | _, _, _, .nil, e => by cases e; rfl
  | _, _, _, .cons (x := x) r t, e => by
    cases x with
    | str s =>
      obtain ⟨ys, e1, rfl⟩ := Option.map_eq_some_iff.mp (show (strsOf _).map (s :: ·) = some _ from e)
      cases r
      rw [strs_rep t e1]; rfl
    | _ => cases e
def pyJoin : PV → List PV → Option PV
  | .str a, [.lst xs] => (strsOf xs).bind fun ys => if (ys.map (·.length)).sum + ys.length * a.length ≤ 16777216 then some (.str (Txt.join a ys)) else none
  | .str a, [.tup xs] => (strsOf xs).bind fun ys => if (ys.map (·.length)).sum + ys.length * a.length ≤ 16777216 then some (.str (Txt.join a ys)) else none
  | _, _ => none
theorem m_join : MethS g K T false "str" (fun x xs H Q => ∃ a p, ∃ ys : List Str, x = .str a ∧ xs = [.ref p] ∧ (SqL K H p (ys.map V.str) ∨ SqT K H p (ys.map V.str)) ∧
    (ys.map (·.length)).sum + ys.length * a.length ≤ 16777216 ∧ Q (.str (Txt.join a ys)) H) pyJoin := by
  intro H F x xs p ps z Q w rx rs hz hq
  unfold pyJoin at hz
  split at hz
  · obtain ⟨ys, h1, h2⟩ := Option.bind_eq_some_iff.mp hz
    obtain ⟨hc, rfl⟩ := some_if h2
    rcases rs with _ | ⟨r, _ | _⟩
    obtain ⟨a, vs, rfl, hs, rr⟩ := r.lst w
    rw [rx.str]
    rw [strs_rep rr h1] at hs
    exact ⟨_, a, ys, rfl, rfl, .inl hs, hc, hq _ H F (.refl w) (.str _)⟩
  · obtain ⟨ys, h1, h2⟩ := Option.bind_eq_some_iff.mp hz
    obtain ⟨hc, rfl⟩ := some_if h2
    rcases rs with _ | ⟨r, _ | _⟩
    obtain ⟨a, vs, rfl, hs, rr⟩ := r.tup w
    rw [rx.str]
    rw [strs_rep rr h1] at hs
    exact ⟨_, a, ys, rfl, rfl, .inr hs, hc, hq _ H F (.refl w) (.str _)⟩
  · cases hz
/-! ### in -/
def pyInSign : F2
  | .str a, .str z => if a.cps.size = 1 then some (.bl (decide (a.cps.getD 0 0 ∈ z.cps.toList))) else none
  | _, _ => none
theorem o_inSign : OpS g K T false (fun x y H Q => ∃ (c : Nat) (z : Str), x = .str ⟨#[c]⟩ ∧ y = .str z ∧ Q (.bl (decide (c ∈ z.cps.toList))) H) pyInSign := by
  intro H F x y p q z Q w rx ry hz hq
  unfold pyInSign at hz
  split at hz
  · obtain ⟨hc, rfl⟩ := some_if hz
    rename_i a s
    rw [rx.str, ry.str]
    refine ⟨a.cps.getD 0 0, s, ?_, rfl, hq _ H F (.refl w) (.bl _)⟩
    congr 1
    obtain ⟨⟨l⟩⟩ := a
    match l, hc with
    | [c], _ => rfl
  · cases hz
end
end D
end

section
set_option Elab.async false
set_option linter.all false
set_option maxRecDepth 100000
set_option maxHeartbeats 1000000
namespace D
open PySem PySem.Spec PyProof.Rows L2

/-! ### expressions that change owned objects (the box of a law) -/
abbrev Mx (α : Type) := PEnv → Option (α × PEnv)
section
variable (g : Str → Option Value) (K : PySem.W.Frag) (T : Addr → Prop)
def tM (ow : List Bool) (d : Mx PV) : TE := fun σ H Q => ∃ H0 F0 env F r env', Sta g K T H0 F0 ow env σ H F ∧ d env = some (r, env') ∧
  ∀ v H' F', Sta g K T H0 F0 ow env' σ H' F' → Same F F' → Rep g K F' v r → Q v H'
def tMT (ow : List Bool) (d : Mx Bool) : TT := fun σ H Q => ∃ H0 F0 env F r env', Sta g K T H0 F0 ow env σ H F ∧ d env = some (r, env') ∧
  ∀ H' F', Sta g K T H0 F0 ow env' σ H' F' → Same F F' → Q r H'
def tMA (ow : List Bool) (d : Mx (List PV)) : TA := fun σ H Q => ∃ H0 F0 env F r env', Sta g K T H0 F0 ow env σ H F ∧ d env = some (r, env') ∧
  ∀ vs H' F', Sta g K T H0 F0 ow env' σ H' F' → Same F F' → Reps g K F' vs r → Q vs H'
end
abbrev DM (X : Cx) (T : Addr → Prop) (ow : List Bool) (e : Expr) (d : Mx PV) : Prop := PE X e (tM X.mg X.K T ow d)
abbrev DMA (X : Cx) (T : Addr → Prop) (ow : List Bool) (e : List Expr) (d : Mx (List PV)) : Prop := PA X e (tMA X.mg X.K T ow d)
abbrev DMT (X : Cx) (T : Addr → Prop) (ow : List Bool) (e : Expr) (d : Mx Bool) : Prop := PT X e (tMT X.mg X.K T ow d)

section
variable {X : Cx} {T : Addr → Prop} {W : WX} {oe ol ow ow' ow1 ow2 : List Bool} {fr st : Bool} {tg e a b c : Expr} {es : List Expr} {rest s1 s2 : List Stmt} {d : PEnv → Res PV} {dm da db : Mx PV} {dms : Mx (List PV)} {pos : Pos}
def mOf (d : PEnv → Res PV) : Mx PV := fun env => match d env with
  | .ok p => some (p, env)
  | _ => none
theorem dm_of (h : DX X T fr W0 ow e d) : DM X T ow e (mOf d) := (DX.de h).imp fun σ H Q ⟨H0, F0, env, F, r, env', l, hd, q⟩ => by
  unfold mOf at hd
  cases h : d env with
  | ok p =>
    rw [h] at hd
    cases hd
    refine ⟨H0, F0, env, F, l, ?_⟩
    rw [h]
    exact fun v H' F' x rt => q v H' F' (l.grow x) x.f rt
  | err _ => rw [h] at hd; cases hd
  | bad => rw [h] at hd; cases hd
/-- W is only asked where something is raised -/
theorem DX.quiet {W' : WX} (h : ∀ W, DX X T fr W ow e d) : DX X T fr W' ow e d := h W'
def mNil : Mx (List PV) := fun env => some ([], env)
def mCons (d : Mx PV) (ds : Mx (List PV)) : Mx (List PV) := fun env => (d env).bind fun p => (ds p.2).bind fun q => some (p.1 :: q.1, q.2)
theorem dma_nil : DMA X T ow [] mNil := pa_nil.imp fun σ H Q ⟨H0, F0, env, F, r, env', l, hd, q⟩ => by
  cases hd
  exact q [] H F l (Same.refl _) .nil
theorem dma_cons (h : DM X T ow e dm) (h2 : DMA X T ow es dms) (hs : starEach (e :: es) X.env = (false, eval e X.env) :: starEach es X.env := by rfl) : DMA X T ow (e :: es) (mCons dm dms) :=
  (pa_cons h h2 hs).imp fun σ H Q ⟨H0, F0, env, F, r, env', l, hd, q⟩ => by
    obtain ⟨⟨p, e1⟩, h1, hd⟩ := Option.bind_eq_some_iff.mp hd
    obtain ⟨⟨ps, e2⟩, h2, hd⟩ := Option.bind_eq_some_iff.mp hd
    cases hd
    refine ⟨H0, F0, env, F, p, e1, l, h1, fun v H1 F1 l1 s1 r1 => ?_⟩
    exact ⟨H0, F0, e1, F1, ps, _, l1, h2, fun vs H2 F2 l2 s2 r2 => q _ H2 F2 l2 (s1.trans s2) (.cons (r1.mono s2) r2)⟩
def mLst (d : Mx (List PV)) : Mx PV := fun env => (d env).bind fun p => if p.1.length ≤ sizeLine then some (.lst p.1, p.2) else none
def mTup (d : Mx (List PV)) : Mx PV := fun env => (d env).bind fun p => if p.1.length ≤ sizeLine then some (.tup p.1, p.2) else none
theorem Wf.none {H F : Hp} (w : Wf T H F) {p : Addr} (h : H p = none) : F p = none := by
  cases q : F p with
  | none => rfl
  | some u => rw [w.fh p u q] at h; cases h
theorem dm_lst (h : DMA X T ow es dms) : DM X T ow (.List es pos) (mLst dms) := (pe_lst h).imp fun σ H Q ⟨H0, F0, env, F, r, env', l, hd, q⟩ => by
  obtain ⟨⟨ps, e1⟩, h1, hd⟩ := Option.bind_eq_some_iff.mp hd
  obtain ⟨hc, hd⟩ := some_if hd
  cases hd
  refine ⟨H0, F0, env, F, ps, _, l, h1, fun vs H1 F1 l1 s1 r1 => ⟨by rw [r1.length]; exact hc, fun p np => ?_⟩⟩
  have x := Ext.alloc l1.wf (o := .lst vs) np
  exact q _ _ _ (l1.grow x) (s1.trans x.f) (.lst upd_same (r1.mono x.f))
theorem dm_tup {k} (h : DMA X T ow es dms) : DM X T ow (.Tuple es k pos) (mTup dms) := (pe_tup h).imp fun σ H Q ⟨H0, F0, env, F, r, env', l, hd, q⟩ => by
  obtain ⟨⟨ps, e1⟩, h1, hd⟩ := Option.bind_eq_some_iff.mp hd
  obtain ⟨hc, hd⟩ := some_if hd
  cases hd
  refine ⟨H0, F0, env, F, ps, _, l, h1, fun vs H1 F1 l1 s1 r1 => ⟨by rw [r1.length]; exact hc, fun p np => ?_⟩⟩
  have x := Ext.alloc l1.wf (o := .tup vs) np
  exact q _ _ _ (l1.grow x) (s1.trans x.f) (.tup (.of upd_same) (r1.mono x.f))
def mOp (f : F2) (da db : Mx PV) : Mx PV := fun env => (da env).bind fun p => (db p.2).bind fun q => (f p.1 q.1).map fun z => (z, q.2)
theorem mtwo {f : F2} {r : R2} (hf : OpS X.mg X.K T fr r f) {σ : L2.St} {H : Hp} {Q : VK} (w : tM X.mg X.K T ow (mOp f da db) σ H Q) : tOp r (tM X.mg X.K T ow da) (tM X.mg X.K T ow db) σ H Q := by
  obtain ⟨H0, F0, env, F, rr, env', l, hd, q⟩ := w
  obtain ⟨⟨p1, e1⟩, h1, hd⟩ := Option.bind_eq_some_iff.mp hd
  obtain ⟨⟨p2, e2⟩, h2, hd⟩ := Option.bind_eq_some_iff.mp hd
  obtain ⟨z, hz, hd⟩ := Option.map_eq_some_iff.mp hd
  cases hd
  refine ⟨H0, F0, env, F, p1, e1, l, h1, fun x H1 F1 l1 s1 r1 => ⟨H0, F0, e1, F1, p2, _, l1, h2, fun y H2 F2 l2 s2 r2 => ?_⟩⟩
  refine hf H2 F2 x y p1 p2 _ Q l2.wf (.inl (r1.mono s2)) (.inl r2) hz fun v H3 F3 x3 rt => ?_
  obtain ⟨F4, x4, s4, r4⟩ := rt.frozen x3
  exact q v H3 F4 (l2.grow x4) ((s1.trans s2).trans x4.f) r4
theorem dm_op {op : Operator} {f : F2} {r : R2} (ho : OpR X (binaryOp op) r) (hf : OpS X.mg X.K T fr r f) (ha : DM X T ow a da) (hb : DM X T ow b db) : DM X T ow (.BinOp a op b pos) (mOp f da db) :=
  (pe_op ho ha hb).imp fun _ _ _ w => mtwo hf w
theorem dm_cmp {op : CmpOp} {f : F2} {r : R2} (ho : OpR X (compareOp op) r) (hf : OpS X.mg X.K T fr r f) (ha : DM X T ow a da) (hb : DM X T ow b db) (hm : behindInMarks op b = false) : DM X T ow (.Compare a [op] [b] pos) (mOp f da db) :=
  (pe_cmpR ho ha hb hm).imp fun _ _ _ w => mtwo hf w
theorem dm_ix {f : F2} {r : R2} (hr : IxR X r) (hf : OpS X.mg X.K T fr r f) (ha : DM X T ow a da) (hb : DM X T ow b db) (hs : PlainIx b) : DM X T ow (.Subscript a b pos) (mOp f da db) :=
  (pe_ix hr ha hb hs).imp fun _ _ _ w => mtwo hf w
def mBool (d : Mx PV) : Mx Bool := fun env => (d env).bind fun p => match p.1 with
  | .bl b => some (b, p.2)
  | _ => none
theorem dmt_cmp {op : CmpOp} {f : F2} {r : R2} (ho : OpR X (compareOp op) r) (hf : OpS X.mg X.K T false r f) (ha : DM X T ow a da) (hb : DM X T ow b db) (hm : behindInMarks op b = false) : DMT X T ow (.Compare a [op] [b] pos) (mBool (mOp f da db)) :=
  (pt_cmpR ho ha hb hm).imp fun σ H Q ⟨H0, F0, env, F, rr, env', l, hd, q⟩ => by
    obtain ⟨⟨z, e1⟩, h1, hd⟩ := Option.bind_eq_some_iff.mp hd
    cases z with
    | bl bb =>
      cases hd
      refine mtwo (ow := ow) hf ⟨H0, F0, env, F, _, _, l, h1, fun v H' F' l' s r => ?_⟩
      cases r
      exact ⟨_, rfl, q H' F' l' s⟩
    | _ => cases hd
def mCall (f : List PV → Option PV) (ds : Mx (List PV)) : Mx PV := fun env => (ds env).bind fun p => (f p.1).map fun z => (z, p.2)
theorem Reps.Ts {g : Str → Option Value} {K : PySem.W.Frag} {H F : Hp} : ∀ {vs : List V} {xs : List PV}, Reps g K F vs xs → RepTs g K T H F vs xs
  | _, _, .nil => .nil
  | _, _, .cons r t => .cons (.inl r) (Reps.Ts t)
theorem mcalled {f : List PV → Option PV} {r : List V → Hp → VK → Prop} (hf : CallS X.mg X.K T fr r f) {σ : L2.St} {H : Hp} {Q : VK} (w : tM X.mg X.K T ow (mCall f dms) σ H Q) : tCB r (tMA X.mg X.K T ow dms) σ H Q := by
  obtain ⟨H0, F0, env, F, rr, env', l, hd, q⟩ := w
  obtain ⟨⟨ps, e1⟩, h1, hd⟩ := Option.bind_eq_some_iff.mp hd
  obtain ⟨z, hz, hd⟩ := Option.map_eq_some_iff.mp hd
  cases hd
  refine ⟨H0, F0, env, F, ps, _, l, h1, fun vs H1 F1 l1 s1 r1 => ?_⟩
  refine hf H1 F1 vs ps _ Q l1.wf r1.Ts hz fun v H3 F3 x3 rt => ?_
  obtain ⟨F4, x4, s4, r4⟩ := rt.frozen x3
  exact q v H3 F4 (l1.grow x4) (s1.trans x4.f) r4
theorem dm_callB {id : String} {x : Str} {p : Pos} {f : List PV → Option PV} {r : List V → Hp → VK → Prop} (hc : CallR X (.builtin id) r) (hf : CallS X.mg X.K T fr r f) (hg : Gl X x) (hm : X.mg x = none) (hv : bootBuiltins x = some (.builtin id)) (ha : DMA X T ow (e :: es) dms) (hn : x ≠ "__name__" := by decide) (hdb : (x == ("__debug__" : Str)) = false := by decide)
    (he : starEach (e :: es) X.env = (false, eval e X.env) :: starEach es X.env := by rfl) (hpl : (backTo pos (starEach es X.env)).any (·.1) = false := by rfl) : DM X T ow (.Call (.Name x p) (e :: es) [] pos) (mCall f dms) :=
  (pe_callB hc hg hm hv ha hn hdb he hpl).imp fun _ _ _ w => mcalled hf w
theorem dm_callTy {id : String} {x : Str} {p : Pos} {f : List PV → Option PV} {r : List V → Hp → VK → Prop} (hc : CallR X (.type id) r) (hf : CallS X.mg X.K T fr r f) (hg : Gl X x) (hm : X.mg x = none) (hv : bootBuiltins x = some (.type id)) (ha : DMA X T ow (e :: es) dms) (hn : x ≠ "__name__" := by decide) (hdb : (x == ("__debug__" : Str)) = false := by decide)
    (he : starEach (e :: es) X.env = (false, eval e X.env) :: starEach es X.env := by rfl) (hpl : (backTo pos (starEach es X.env)).any (·.1) = false := by rfl) : DM X T ow (.Call (.Name x p) (e :: es) [] pos) (mCall f dms) :=
  (pe_callTy hc hg hm hv ha hn hdb he hpl).imp fun _ _ _ w => mcalled hf w
/-- f(e, ..), a def of one's own that raises nothing -/
def mUse (df : List PV → Res PV) (ds : Mx (List PV)) : Mx PV := fun env => (ds env).bind fun p => match df p.1 with
  | .ok z => some (z, p.2)
  | _ => none
theorem dm_use {k : Nat} {f : Addr} {fd : FuncData} {ps : List Str} {x : Str} {p : Pos} {df : List PV → Res PV} (F : FnOk X.prog X.w X.K X.mg X.base (L2.CX X.prog X.w) k f fd ps (spD X.mg X.K T fr df)) (hr : Room k X.A) (hg : Gl X x) (hm : X.mg x = some (.ref f)) (hk : PySem.W.keepIn X.K (.ref f) = true) (hb : Binds X.K fd ps [])
    (ha : DMA X T ow (e :: es) dms) (hdb : (x == ("__debug__" : Str)) = false := by decide) (he : starEach (e :: es) X.env = (false, eval e X.env) :: starEach es X.env := by rfl) (hpl : (backTo pos (starEach es X.env)).any (·.1) = false := by rfl) :
    DM X T ow (.Call (.Name x p) (e :: es) [] pos) (mUse df dms) :=
  (pe_callS (E := WE W0) F hr hg hm hk hb (fun σ => fun pins H s e s' I c => passL pins σ H s e s' I c) ha hdb he hpl).imp fun σ H Q ⟨H0, F0, env, F, rr, env', l, hd, q⟩ => by
    obtain ⟨⟨ps, e1⟩, h1, hd⟩ := Option.bind_eq_some_iff.mp hd
    cases hz : df ps with
    | ok z =>
      simp only [hz] at hd
      cases hd
      refine ⟨H0, F0, env, F, ps, _, l, h1, fun vs H1 F1 l1 s1 r1 => ⟨ps, F1, l1.wf, r1, ?_⟩⟩
      rw [hz]
      intro v H3 F3 x3 rt
      obtain ⟨F4, x4, s4, r4⟩ := rt.frozen x3
      exact q v H3 F4 (l1.grow x4) (s1.trans x4.f) r4
    | err _ => simp only [hz] at hd; cases hd
    | bad => simp only [hz] at hd; cases hd

/-! ### the box -/
/-- digit = int(box[0]) % size; box[0] = box[0] // size -/
def spTake : Sp := fun vs H Q _ => ∃ a x n, vs = [.ref a, .int n] ∧ H a = some (.lst [.int x]) ∧ 0 < n ∧ n < 1073741824 ∧ Q (.int (x % n)) (upd H a (.lst [.int (x / n)]))
def pyTake : F2 := fI fun x n => if 0 < n ∧ n < 1073741824 then some (.int (x % n)) else none
theorem one_le (v : V) : [v].length ≤ sizeLine := by rw [sizeLine_eq]; show 1 ≤ 16777216; decide
/-- the box is a list just made -/
theorem de_take {k : Nat} {f : Addr} {fd : FuncData} {ps : List Str} {x : Str} {p p2 : Pos} {d1 d2 : PEnv → Res PV} (F : FnOk X.prog X.w X.K X.mg X.base (L2.CX X.prog X.w) k f fd ps spTake) (hr : Room k X.A) (hg : Gl X x) (hm : X.mg x = some (.ref f)) (hk : PySem.W.keepIn X.K (.ref f) = true) (hb : Binds X.K fd ps [])
    (h1 : DE X T W ow a d1) (h2 : DE X T W ow b d2) (hdb : (x == ("__debug__" : Str)) = false := by decide) (he : starEach [.List [a] p2, b] X.env = (false, eval (.List [a] p2) X.env) :: starEach [b] X.env := by rfl) (he1 : starEach [a] X.env = (false, eval a X.env) :: starEach [] X.env := by rfl) (he2 : starEach [b] X.env = (false, eval b X.env) :: starEach [] X.env := by rfl) (hpl : (backTo pos (starEach [b] X.env)).any (·.1) = false := by rfl) :
    DE X T W ow (.Call (.Name x p) [.List [a] p2, b] [] pos) (xOp pyTake d1 d2) :=
  (pe_callS (E := WE W0) F hr hg hm hk hb (fun σ => fun pins H s e s' I c => passL pins σ H s e s' I c) (pa_cons (pe_lst (pa_cons h1 pa_nil he1)) (pa_cons h2 pa_nil he2) he) hdb he hpl).imp fun σ H Q ⟨H0, F0, env, F, l, w⟩ => by
    refine ⟨H0, F0, env, F, l, wpR_mono (wpR_bnd.mp w) (fun p w1 v H1 F1 e1 r1 => ⟨one_le v, fun q nq => ?_⟩) fun _ z => z⟩
    have x2 : Ext T H1 F1 (upd H1 q (.lst [v])) F1 := Ext.laid e1.wf nq
    have e2 := e1.trans x2
    refine ⟨H0, F0, env, F1, l.grow e2, wpR_mono (wpR_bnd.mp w1) (fun p2 w2 u H2 F2 e3 r2 => ?_) fun _ z cls dd H' F' e => z cls dd H' F' (e2.trans e)⟩
    obtain ⟨z, hz, w3⟩ := wpR_ofO w2
    unfold pyTake fI at hz
    split at hz
    · obtain ⟨hc, rfl⟩ := some_if hz
      cases r1
      cases r2
      have nt : ¬ T q := fun t => tab_ne e1.tabs t nq
      have h2q : H2 q = some (.lst [.int _]) := e3.h q _ nt upd_same
      refine ⟨q, _, _, rfl, h2q, hc.1, hc.2, w3 _ _ F2 ?_ (.int _)⟩
      have f2q : F2 q = none := e3.new q (by rw [upd_same]; simp) (e1.wf.none nq)
      have e13 := e2.trans e3
      have nH : H q = none := by
        cases qq : H q with
        | none => rfl
        | some u => exact absurd nq (e1.ne (by rw [qq]; simp))
      refine ⟨fun b t => ?_, fun b o n h => ?_, e13.f, fun b o h => ?_, e13.ft, e13.new⟩
      · obtain ⟨ps, g1, g2⟩ := e13.tabs b t
        exact ⟨ps, by rw [upd_ne (fun z => nt (by rw [← z]; exact t))]; exact g1, g2⟩
      · rw [upd_ne (fun z => by rw [z, nH] at h; cases h)]; exact e13.h b o n h
      · rw [upd_ne (fun z => by rw [z, f2q] at h; cases h)]; exact e13.fh b o h
    · cases hz
/-- the box is a name's -/
def takeB (i : Nat) (env : PEnv) (n : PV) : Option (PV × PEnv) := match env[i]?, n with
  | some (some (.lst [.int x])), .int n => if 0 < n ∧ n < 1073741824 then some (.int (x % n), env.set i (some (.lst [.int (x / n)]))) else none
  | _, _ => none
def isLstP : Option (Option PV) → Bool
  | some (some (.lst _)) => true
  | _ => false
def mTake (i : Nat) (d : Mx PV) : Mx PV := fun env => if isLstP env[i]? = true then (d env).bind fun p => takeB i p.2 p.1 else none
theorem dm_take {k i : Nat} {f : Addr} {fd : FuncData} {ps : List Str} {x y : Str} {p p2 : Pos} (F : FnOk X.prog X.w X.K X.mg X.base (L2.CX X.prog X.w) k f fd ps spTake) (hr : Room k X.A) (hg : Gl X x) (hm : X.mg x = some (.ref f)) (hk : PySem.W.keepIn X.K (.ref f) = true) (hb : Binds X.K fd ps [])
    (h1 : PE X (.Name y p2) (tVar i)) (hi : (ow[i]? == some true) = true) (h2 : DM X T ow b dm) (hdb : (x == ("__debug__" : Str)) = false := by decide) (he : starEach [.Name y p2, b] X.env = (false, eval (.Name y p2) X.env) :: starEach [b] X.env := by rfl) (he2 : starEach [b] X.env = (false, eval b X.env) :: starEach [] X.env := by rfl) (hpl : (backTo pos (starEach [b] X.env)).any (·.1) = false := by rfl) :
    DM X T ow (.Call (.Name x p) [.Name y p2, b] [] pos) (mTake i dm) :=
  (pe_callS (E := WE W0) F hr hg hm hk hb (fun σ => fun pins H s e s' I c => passL pins σ H s e s' I c) (pa_cons h1 (pa_cons h2 pa_nil he2) he) hdb he hpl).imp fun σ H Q ⟨H0, F0, env, F, rr, env', l, hd, q⟩ => by
    unfold mTake at hd
    by_cases hil : isLstP env[i]? = true
    · rw [if_pos hil] at hd
      obtain ⟨⟨n, e1⟩, hd1, hd⟩ := Option.bind_eq_some_iff.mp hd
      unfold takeB at hd
      have hi2 : ow[i]? = some true := by simpa using hi
      split at hd
      · rename_i x m hx hn
        have hn : n = .int m := hn
        subst hn
        obtain ⟨hc, hd⟩ := some_if hd
        cases hd
        unfold isLstP at hil
        split at hil
        · rename_i ys hy
          obtain ⟨a, o, s1, s2, s3, s4, s5, s6⟩ := l.own i _ hy hi2
          refine ⟨.ref a, s1, H0, F0, env, F, _, e1, l, hd1, fun v H1 F1 l1 sF r1 => ?_⟩
          cases r1
          obtain ⟨b, o', t1, t2, t3, t4, t5, t6⟩ := l1.own i _ hx hi2
          rw [s1] at t1; cases t1
          cases t3 with
          | lst rs =>
            cases rs with
            | cons r rs =>
              cases rs
              cases r
              exact ⟨a, x, m, rfl, t2, hc.1, hc.2, q _ _ F1 (l1.put hx hi2 s1 (.lst (.cons (.int _) .nil))) sF (.int _)⟩
        · cases hil
      · cases hd
    · rw [if_neg hil] at hd; cases hd

/-! ### statements with these -/
def mWith (d : Mx PV) (k : PV → PEnv → SR) : PEnv → SR := fun env => match d env with
  | some (p, e) => k p e
  | none => .bad
def sSetM (i : Nat) (d : Mx PV) : PEnv → SR := mWith d fun v env => .nx (env.set i (some v))
theorem ds_setM {i : Nat} {x : Str} {pos' : Pos} (hN : X.N.Nodup) (hi : X.N[i]? = some x) (hx : Loc X.env.scope x) (he : DM X T ow e dm) (hs : swapsWith e (some (.Name x pos')) pos.line X.env = pure false := by rfl)
    (hf : X.fn x = true ∨ X.env.scope.names.lookup x = some .local := by first | exact .inl rfl | exact .inr rfl | assumption) : DS X T W fr oe ol ow (.Assign [.Name x pos'] e pos) (sSetM i dm) (ow.set i false) := (ps_set hN hi hx he hs hf).imp fun D σ H w => by
  obtain ⟨H0, F0, env, F, l, w⟩ := tS_iff.mp w
  unfold sSetM mWith at w
  cases h : dm env with
  | none => rw [h] at w; exact w.elim
  | some p =>
    rw [h] at w
    exact ⟨H0, F0, env, F, p.1, p.2, l, h, fun v H' F' l' s r => w _ H' F' (l'.setE r)⟩
def sRetM (d : Mx PV) : PEnv → SR := mWith d fun v _ => .rt v
theorem ds_retM (he : DM X T ow e dm) : DS X T W false oe ol ow (.Return (some e) pos) (sRetM dm) ow' := (ps_ret he).imp fun D σ H w => by
  obtain ⟨H0, F0, env, F, l, w⟩ := tS_iff.mp w
  unfold sRetM mWith at w
  cases h : dm env with
  | none => rw [h] at w; exact w.elim
  | some p =>
    rw [h] at w
    exact ⟨H0, F0, env, F, p.1, p.2, l, h, fun v H' F' l' s r => w v H' F' l'.ext r⟩
def sIfM (t : Mx Bool) (k1 k2 : PEnv → SR) : PEnv → SR := fun env => match t env with
  | some (true, e) => k1 e
  | some (false, e) => k2 e
  | none => .bad
theorem ds_ifM {t : Mx Bool} {k1 k2 : PEnv → SR} (hc : DMT X T ow c t) (h1 : DSs X T W fr oe ol ow s1 k1 ow') (h2 : DSs X T W fr oe ol ow s2 k2 ow') : DS X T W fr oe ol ow (.If c s1 s2 pos) (sIfM t k1 k2) ow' := (ps_if hc h1 h2).imp fun D σ H w => by
  obtain ⟨H0, F0, env, F, l, w⟩ := tS_iff.mp w
  unfold sIfM at w
  cases h : t env with
  | none => rw [h] at w; exact w.elim
  | some p =>
    obtain ⟨b, e⟩ := p
    rw [h] at w
    refine ⟨H0, F0, env, F, b, e, l, h, fun H' F' l' s => ?_⟩
    cases b with
    | true => exact tS_iff.mpr ⟨H0, F0, e, F', l', w⟩
    | false => exact tS_iff.mpr ⟨H0, F0, e, F', l', w⟩
def sAppM (i : Nat) (d : Mx PV) : PEnv → SR := fun env => if isLstP env[i]? = true then mWith d (fun v env => match env[i]? with
  | some (some (.lst xs)) => if xs.length < sizeLine then .nx (env.set i (some (.lst (xs ++ [v])))) else .bad
  | _ => .bad) env else .bad
theorem ds_appM {i : Nat} {o : Expr} {apos cpos : Pos} (ho : PE X o (tVar i)) (hi : (ow[i]? == some true) = true) (ha : DMA X T ow [e] (mCons dm mNil))
    (hbase : attributeBase o "append" X.env (eval o X.env) = eval o X.env := by rfl)
    (hfew : ((backTo cpos (starEach [e] X.env)).all (fun x => !x.1) && (backToKw cpos (keywordEach [] X.env)).all (fun x => x.1.isSome)
      && decide ([e].length + ([] : List Keyword).length + (if ([] : List Keyword).isEmpty then 0 else 1) < 30)) = true := by rfl)
    (hline : (apos.endLine == cpos.line) = true := by rfl) (hs : starEach [e] X.env = (false, eval e X.env) :: starEach [] X.env := by rfl) (hplain : (backTo cpos (starEach [] X.env)).any (·.1) = false := by rfl)
    (hsw : swapsWith (.Call (.Attribute o "append" apos) [e] [] cpos) none pos.line X.env = pure false := by rfl) :
    DS X T W fr oe ol ow (.Expr (.Call (.Attribute o "append" apos) [e] [] cpos) pos) (sAppM i dm) ow :=
  (ps_expr (pe_bm PySem.F.plainAttrs_list PySem.F.slot_list_append PySem.F.type_list_append mt_append ho ha hbase hfew hline hs hplain) hsw).imp fun D σ H w => by
    obtain ⟨H0, F0, env, F, l, w⟩ := tS_iff.mp w
    have hi2 : ow[i]? = some true := by simpa using hi
    unfold sAppM at w
    by_cases hil : isLstP env[i]? = true
    · rw [if_pos hil] at w
      unfold mWith at w
      cases hd : dm env with
      | none => rw [hd] at w; exact w.elim
      | some p =>
        obtain ⟨v, e1⟩ := p
        rw [hd] at w
        simp only at w
        unfold isLstP at hil
        split at hil
        · rename_i ys hy
          obtain ⟨a, o, s1, s2, s3, s4, s5, s6⟩ := l.own i _ hy hi2
          cases s3 with
          | @lst vs _ rs =>
            refine ⟨.ref a, s1, .inl ⟨rfl, vs, .of s2⟩, H0, F0, env, F, [v], e1, l, ?_, fun us H1 F1 l1 sF r1 => ?_⟩
            · show (dm env).bind _ = _
              rw [hd]; rfl
            cases r1 with
            | cons r rr =>
              cases rr
              split at w
              · rename_i xs hx
                by_cases hz : xs.length < sizeLine
                · rw [if_pos hz] at w
                  obtain ⟨b, o', t1, t2, t3, t4, t5, t6⟩ := l1.own i _ hx hi2
                  rw [s1] at t1; cases t1
                  cases t3 with
                  | @lst vs2 _ rs2 =>
                    exact ⟨a, vs2, _, rfl, rfl, t2, by rw [rs2.length]; exact hz, w σ _ F1 (l1.put hx hi2 s1 (.lst (rs2.append (.cons r .nil))))⟩
                · rw [if_neg hz] at w; exact w.elim
              · exact w.elim
        · cases hil
    · rw [if_neg hil] at w; exact w.elim
end
end D
end

section
set_option Elab.async false
set_option linter.all false
set_option maxRecDepth 100000
set_option maxHeartbeats 1000000
namespace D
open PySem PySem.Spec PyProof.Rows L2
section
variable {X : Cx} {T : Addr → Prop} {W : WX} {oe ol ow ow' ow1 ow2 : List Bool} {fr st : Bool} {tg e a b c : Expr} {es : List Expr} {rest s1 s2 : List Stmt} {d : PEnv → Res PV} {dm da db : Mx PV} {dms : Mx (List PV)} {pos : Pos}
/-- target = value -/
def sAsg (d : PEnv → Res PV) (f : Bd) : PEnv → SR := sWith d fun v env => match f v env with
  | some e => .nx e
  | none => .bad
theorem ds_asg {f : Bd} {vs : List Nat} (he : DX X T false W ow e d) (hg : DG X T ow tg f ow1 vs) (ho : leB oe ow = true := by rfl) (hs : swapsWithSole [tg] e pos.line X.env = pure false := by rfl) (hw : swappedStores [tg] e X.env = pure none := by rfl)
    (h1 : (assignEach [tg] X.env).map (·.2) = [assign tg X.env] := by rfl) : DS X T W fr oe ol ow (.Assign [tg] e pos) (sAsg d f) ow1 := (ps_asg he hg hs hw h1).imp fun D σ H w => by
  obtain ⟨H0, F0, env, F, l, w⟩ := tS_iff.mp w
  refine ⟨H0, F0, env, F, l, ?_⟩
  unfold sAsg sWith at w
  cases h : d env with
  | ok p =>
    rw [h] at w
    intro v H' F' x rt
    cases hf : f p env with
    | none => simp only [hf] at w; exact w.elim
    | some e' =>
      simp only [hf] at w
      exact ⟨H0, F0, env, F', p, e', l.grow x, rt, hf, fun σ' l' _ => w σ' H' F' l'⟩
  | err x => rw [h] at w; exact err_up l (le_of ho) w
  | bad => rw [h] at w; exact w
end
section
variable {g : Str → Option Value} {K : PySem.W.Frag} {T : Addr → Prop} {H F : Hp} {v : V} {x : PV}
def pyNotInSign : F2
  | .str a, .str z => if a.cps.size = 1 then some (.bl (!decide (a.cps.getD 0 0 ∈ z.cps.toList))) else none
  | _, _ => none
theorem o_notInSign : OpS g K T false (fun x y H Q => ∃ (c : Nat) (z : Str), x = .str ⟨#[c]⟩ ∧ y = .str z ∧ Q (.bl (!decide (c ∈ z.cps.toList))) H) pyNotInSign := by
  intro H F x y p q z Q w rx ry hz hq
  unfold pyNotInSign at hz
  split at hz
  · obtain ⟨hc, rfl⟩ := some_if hz
    rename_i a s
    rw [rx.str, ry.str]
    refine ⟨a.cps.getD 0 0, s, ?_, rfl, hq _ H F (.refl w) (.bl _)⟩
    congr 1
    obtain ⟨⟨l⟩⟩ := a
    match l, hc with
    | [c], _ => rfl
  · cases hz
def pyCatT : F2
  | .tup a, .tup b => if a.length + b.length ≤ sizeLine then some (.tup (a ++ b)) else none
  | _, _ => none
theorem RepT.tupF {xs : List PV} (w : Wf T H F) (h : RepT g K T H F v (.tup xs)) : ∃ a vs, v = .ref a ∧ SqT K F a vs ∧ Reps g K F vs xs := by
  rcases h with h | ⟨a, o, rfl, h2, h3, h4⟩
  · cases h with
    | tup hs r => exact ⟨_, _, rfl, hs, r⟩
  · cases h3
theorem o_catT : OpS g K T false (rCatA K) pyCatT := by
  intro H F x y p q z Q w rx ry hz hq
  unfold pyCatT at hz
  split at hz
  · obtain ⟨hc, rfl⟩ := some_if hz
    obtain ⟨a, vs, rfl, h1, r1⟩ := rx.tupF w
    obtain ⟨b, us, rfl, h2, r2⟩ := ry.tupF w
    refine ⟨a, b, vs, us, rfl, rfl, Same.seqT w.fh h1, Same.seqT w.fh h2, by rw [r1.length, r2.length]; exact hc, fun e => ?_, fun _ e => ?_, fun _ _ p np => ?_⟩
    · subst e
      cases r1
      exact hq _ H F (.refl w) (.tup h2 r2)
    · subst e
      cases r2
      refine hq _ H F (.refl w) (.tup h1 ?_)
      rw [List.append_nil]; exact r1
    · have x := Ext.alloc w (o := .tup (vs ++ us)) np
      exact hq _ _ _ x (.tup (.of upd_same) ((r1.append r2).mono x.f))
  · cases hz
/-- a text none or one time -/
def pyRepS : F2
  | .str a, .int n => if n = 0 ∨ n = 1 then some (.str (if n = 1 then a else Str.empty)) else none
  | _, _ => none
theorem op_repS {X : Cx} : OpR X (binaryOp .Mult) (fun x y H Q => ∃ a n, x = .str a ∧ y = .int n ∧ (n = 0 ∨ n = 1) ∧ Q (.str (if n = 1 then a else Str.empty)) H) := by
  intro pins s σ H x y v u Q I rx ry h
  obtain ⟨a, n, rfl, rfl, hn, q⟩ := h
  obtain ⟨t, rfl⟩ := rx
  obtain ⟨t', rfl⟩ := ry
  rcases hn with rfl | rfl
  · exact PySem.P.mul_str_none (by decide) (by decide) ⟨.str _, H, I.tok _, ⟨_, rfl⟩, q⟩
  · refine PySem.P.mul_str (by decide) (fun _ h => absurd h (by simp)) (fun _ h => absurd h (by simp)) ?_
    rw [if_neg (by decide), if_pos (by simp)]
    exact ⟨.str a, H, I, ⟨t, rfl⟩, q⟩
theorem o_repS : OpS g K T false (fun x y H Q => ∃ a n, x = .str a ∧ y = .int n ∧ (n = 0 ∨ n = 1) ∧ Q (.str (if n = 1 then a else Str.empty)) H) pyRepS := by
  intro H F x y p q z Q w rx ry hz hq
  unfold pyRepS at hz
  split at hz
  · obtain ⟨hc, rfl⟩ := some_if hz
    rw [rx.str, ry.int]
    exact ⟨_, _, rfl, rfl, hc, hq _ H F (.refl w) (.str _)⟩
  · cases hz
end
end D
end

section
set_option Elab.async false
set_option linter.all false
set_option maxRecDepth 100000
set_option maxHeartbeats 1000000
namespace D
open PySem PySem.Spec PyProof.Rows L2
theorem cx_none {P : Program} {w : World} {H : Hp} {s : Shared} {e : Value} {s' : Shared} (h : L2.CX P w [] H s (fun _ _ _ => False) e s') : False := by
  obtain ⟨_, _, _, _, _, _, _, _, _, _, _, _, z⟩ := h
  exact z.elim
/-- the law: its promise out of what it computes (no tables) -/
theorem law_at {l : PySem.W.OpenLaw} {w : World} {K : PySem.W.Frag} {k n : Nat} {x : Str} {mg : Str → Option Value} {fa : Addr} {h : Heap} {fd : FuncData} {d : List PV → Res PV}
    (hb : ∀ (s : Shared) (u : Value), BindsTo s fd ⟨[u], []⟩ [(x, u)])
    (main : ∀ ns : List Int, ns.length ≤ n → (∀ z ∈ ns, Builtin.Int.intBits z ≤ 1048576) → d [.scr ns] = .ok (.bl true))
    (F : ∀ base : Heap, K.In base → base.Ns mainGlobals mg → FnOk l.prog w K mg base (L2.CX l.prog w) k fa fd [x] (spD mg K (fun _ => False) false d)) :
    LamX.LawAtS l w K (L2.CX l.prog w) k n x mg fa h := by
  refine ⟨fd, [], spD mg K (fun _ => False) false d, (fun _ h => by cases h), (fun _ h => by cases h), (fun _ h => by cases h), hb, fun H a ns hl hz _ hS => ?_, fun base h1 h2 _ => F base h1 h2⟩
  refine ⟨[.scr ns], H, ⟨fun _ t => t.elim, Same.refl _, fun _ t => t.elim⟩, .cons (.scr hS) .nil, ?_⟩
  rw [main ns hl hz]
  rintro v H' F' x r
  cases r
  rfl
end D
end

section
set_option Elab.async false
set_option linter.all false
set_option maxRecDepth 100000
set_option maxHeartbeats 4000000
namespace Q_k06
open PySem PySem.Spec PyProof.Rows L2 D

def topS (i : Nat) : Stmt := PySem.Challenge.pw_heapsbybits_k06_heaps_are_written_and_re.main.body.getD i (.Pass ⟨0, 0, 0, 0⟩)
abbrev s_number_at : Stmt := topS 6
abbrev N_number_at : List Str := ["text", "at", "end"]
theorem sc_number_at : FnScope N_number_at ["text", "at"] (defScope s_number_at) := ⟨rfl, rfl, rfl, by decide +kernel, rfl, by decide +kernel, by decide +kernel⟩
abbrev s_write_heaps : Stmt := topS 7
abbrev N_write_heaps : List Str := ["heaps", "heap"]
theorem sc_write_heaps : FnScope N_write_heaps ["heaps"] (defScope s_write_heaps) := ⟨rfl, rfl, rfl, by decide +kernel, rfl, by decide +kernel, by decide +kernel⟩
abbrev s_read_heaps : Stmt := topS 8
abbrev N_read_heaps : List Str := ["text", "heap", "at", "found"]
theorem sc_read_heaps : FnScope N_read_heaps ["text"] (defScope s_read_heaps) := ⟨rfl, rfl, rfl, by decide +kernel, rfl, by decide +kernel, by decide +kernel⟩
abbrev s__law_number : Stmt := topS 10
abbrev N__law_number : List Str := ["script", "k", "cell", "first", "second", "third"]
theorem sc__law_number : FnScope N__law_number ["script", "k"] (defScope s__law_number) := ⟨rfl, rfl, rfl, by decide +kernel, rfl, by decide +kernel, by decide +kernel⟩
abbrev s__law_take : Stmt := topS 11
abbrev N__law_take : List Str := ["box", "size", "digit"]
theorem sc__law_take : FnScope N__law_take ["box", "size"] (defScope s__law_take) := ⟨rfl, rfl, rfl, by decide +kernel, rfl, by decide +kernel, by decide +kernel⟩
abbrev s_law : Stmt := topS 12
abbrev N_law : List Str := ["script", "turn", "number", "heaps", "k", "box", "text", "heap", "passed"]
theorem sc_law : FnScope N_law ["script"] (defScope s_law) := ⟨rfl, rfl, rfl, by decide +kernel, rfl, by decide +kernel, by decide +kernel⟩
structure Fx (K : PySem.W.Frag) (mg : Str → Option Value) where
  a_number_at : Addr
  fd_number_at : FuncData
  F_number_at : Fun K "number_at" "number_at" s_number_at a_number_at fd_number_at
  g_number_at : mg "number_at" = some (.ref a_number_at)
  b_number_at : Binds K fd_number_at ["text", "at"] []
  a_write_heaps : Addr
  fd_write_heaps : FuncData
  F_write_heaps : Fun K "write_heaps" "write_heaps" s_write_heaps a_write_heaps fd_write_heaps
  g_write_heaps : mg "write_heaps" = some (.ref a_write_heaps)
  b_write_heaps : Binds K fd_write_heaps ["heaps"] []
  a_read_heaps : Addr
  fd_read_heaps : FuncData
  F_read_heaps : Fun K "read_heaps" "read_heaps" s_read_heaps a_read_heaps fd_read_heaps
  g_read_heaps : mg "read_heaps" = some (.ref a_read_heaps)
  b_read_heaps : Binds K fd_read_heaps ["text"] []
  a__law_number : Addr
  fd__law_number : FuncData
  F__law_number : Fun K "_law_number" "_law_number" s__law_number a__law_number fd__law_number
  g__law_number : mg "_law_number" = some (.ref a__law_number)
  b__law_number : Binds K fd__law_number ["script", "k"] []
  a__law_take : Addr
  fd__law_take : FuncData
  F__law_take : Fun K "_law_take" "_law_take" s__law_take a__law_take fd__law_take
  g__law_take : mg "_law_take" = some (.ref a__law_take)
  b__law_take : Binds K fd__law_take ["box", "size"] []
  a_law : Addr
  fd_law : FuncData
  F_law : Fun K "law" "law" s_law a_law fd_law
  g_law : mg "law" = some (.ref a_law)
  b_law : Binds K fd_law ["script"] []
  z_int : mg "int" = none
  z_len : mg "len" = none
  z_range : mg "range" = none
  z_str : mg "str" = none
  z_tuple : mg "tuple" = none
  t_DIGITS : Tok
  m_DIGITS : mg "DIGITS" = some (.str "0123456789" t_DIGITS)
  t_MOST_FIGURES : Tok
  m_MOST_FIGURES : mg "MOST_FIGURES" = some (.int 31 t_MOST_FIGURES)
section
variable {P : Program} {w : World} {K : PySem.W.Frag} {mg : Str → Option Value} {base : Heap} {T : Addr → Prop}
/-- the box -/
theorem ok__law_take (fx : Fx K mg) : FnOk P w K mg base (L2.CX P w) 1 fx.a__law_take fx.fd__law_take ["box", "size"] spTake := by
  refine fx.F__law_take.okX sc__law_take (fun vs H Q E h => ?_) (fun cdv A outer s H vs Q E hr h => ?_)
  · obtain ⟨a, x, n, rfl, _⟩ := h
    rfl
  · obtain ⟨a, x, n, rfl, h1, h2, h3, q⟩ := h
    have nd := sc__law_take.nd
    refine ⟨_, pss_cons (ps_set (i := 2) nd rfl (.inl rfl) (pe_op op_mod (pe_callTy call_int1 rfl fx.z_int (by decide +kernel) (pa_cons (pe_ix ix_list (pv 0) pe_int (fun _ _ => rfl)) pa_nil)) (pv 1)))
      (pss_cons (ps_asg (pe_op op_fdiv (pe_ix ix_list (pv 0) pe_int (fun _ _ => rfl)) (pv 1)) (pg_sub (pv 0) pe_int set_list))
      (pss_one (ps_ret (pv 2)))), ?_⟩
    refine ⟨.ref a, rfl, a, _, 0, .int x, rfl, rfl, .of h1, rfl, .inl ⟨x, rfl, .int n, rfl, x, n, rfl, rfl, h2, ?_⟩⟩
    refine ⟨.ref a, rfl, a, _, 0, .int x, rfl, rfl, .of h1, rfl, .int n, rfl, x, n, rfl, rfl, ⟨h2, h3⟩, ?_⟩
    exact ⟨.ref a, rfl, a, _, 0, 0, rfl, rfl, h1, rfl, .int (x % n), rfl, q⟩
noncomputable def k_number_at : PEnv → SR := (sSeq (sSet 2 (xVar 1)) (sSeq (sWhile (bAnd (bOp pyLt (xVar 2) (xCall pyLen (aCons (xVar 0) aNil))) (bOp pyInSign (xOp pyIx (xVar 0) (xVar 2)) (xC (.str "0123456789")))) (sSet 2 (xOp pyAdd (xVar 2) (xC (.int 1))))) (sSeq (sIf (bOr (bOp pyEq (xVar 2) (xVar 1)) (bAnd (bOp pyEq (xOp pyIx (xVar 0) (xVar 1)) (xC (.str "0"))) (bOp pyGt (xVar 2) (xOp pyAdd (xVar 1) (xC (.int 1)))))) (fun _ => .bad) .nx) (sSeq (sIf (bOp pyGt (xOp pySub (xVar 2) (xVar 1)) (xC (.int 31))) (fun _ => .bad) .nx) (sRet (xTup (aCons (xCall pyInt (aCons (xSl pySl (xVar 0) (oSome (xVar 1)) (oSome (xVar 2))) aNil)) (aCons (xVar 2) aNil))))))))
noncomputable def d_number_at : List PV → Res PV := runB false 3 2 k_number_at
theorem ok_number_at (fx : Fx K mg) : FnOk P w K mg base (L2.CX P w) 1 fx.a_number_at fx.fd_number_at ["text", "at"] (spD mg K T false d_number_at) := by
  refine fn_ok (k := 0) (N := N_number_at) (ow' := [false, false, false]) fx.F_number_at sc_number_at fun cdv A outer s0 H E hr => ?_
  have nd := sc_number_at.nd
  have hc : (cxOf (L2.CX P w) P w K mg base N_number_at "number_at" (defScope s_number_at) fx.a_number_at cdv A outer s0 H E).calm = true := rfl
  have hp : PassesOwn (model P w) (A.deeper (envOfC "number_at" (defScope s_number_at) s0.heap.objs.size fx.a_number_at cdv)) (envOfC "number_at" (defScope s_number_at) s0.heap.objs.size fx.a_number_at cdv) (cxOf (L2.CX P w) P w K mg base N_number_at "number_at" (defScope s_number_at) fx.a_number_at cdv A outer s0 H E).xe := passes_of (K := fun e s'' => L2.CX P w outer H s0 E e s'') (X := cxOf (L2.CX P w) P w K mg base N_number_at "number_at" (defScope s_number_at) fx.a_number_at cdv A outer s0 H E) rfl
  exact (dss_cons (ds_set nd rfl (.inl rfl) (de_var (pv 1) rfl)) (dss_cons (ds_while hp (DW.dt (dw_and (dt_cmp op_lt o_lt (dr_var (pv 2)) (DX.dr (dx_callB call_len c_len rfl fx.z_len boot_len (dar_cons (dr_var (pv 0)) dar_nil))) (nomark _)) (dw_and1 (dt_cmp op_in_sign o_inSign (DX.dr (dx_ix ix_seq o_ix (dr_var (pv 0)) (dr_var (pv 2)) (fun _ _ => rfl))) (DX.dr (de_glob (v := V.str "0123456789") rfl fx.m_DIGITS ⟨_, rfl⟩ (fun _ => .str _))) rfl)))) (dss_one (ds_set nd rfl (.inl rfl) (dx_op op_addIS o_add (dr_var (pv 2)) (DX.dr de_int))))) (dss_cons (ds_if (ow' := [false, false, false]) (DW.dt (dw_or (dt_cmp (op_eqD hr.units) o_eq (dr_var (pv 2)) (dr_var (pv 1)) (nomark _)) (dw_or1 (DW.dt (dw_and (dt_cmp (op_eqD hr.units) o_eq (DX.dr (dx_ix ix_seq o_ix (dr_var (pv 0)) (dr_var (pv 1)) (fun _ _ => rfl))) (DX.dr de_str) (nomark _)) (dw_and1 (dt_cmp op_gt o_gt (dr_var (pv 2)) (DX.dr (dx_op op_addIS o_add (dr_var (pv 1)) (DX.dr de_int))) (nomark _)))))))) (dss_one ds_never) dss_nil rfl) (dss_cons (ds_if (ow' := [false, false, false]) (dt_cmp op_gt o_gt (DX.dr (dx_op op_sub o_sub (dr_var (pv 2)) (dr_var (pv 1)))) (DX.dr (de_glob (v := V.int 31) rfl fx.m_MOST_FIGURES ⟨_, rfl⟩ (fun _ => .int _))) (nomark _)) (dss_one ds_never) dss_nil rfl) (dss_one (ds_ret (de_tup (da_cons (dx_callTy call_intAll c_int rfl fx.z_int (by decide +kernel) (dar_cons (DX.dr (dx_slice (SlR.or sl_str sl_tupA) s_sl (dr_var (pv 0)) (do_some (de_var (pv 1) rfl)) (do_some (de_var (pv 2) rfl)))) dar_nil)) (da_cons (de_var (pv 2) rfl) da_nil))) rfl))))))
def k_write_heaps : PEnv → SR := (sRet (xMeth pyJoin (xTy "str" (xC (.str " "))) (aCons (xLc (iOf pyItems (xVar 0)) (bName 1) bYes (xCall pyStr (aCons (xVar 1) aNil)) [1]) aNil)))
def d_write_heaps : List PV → Res PV := runB false 2 1 k_write_heaps
theorem ok_write_heaps (fx : Fx K mg) : FnOk P w K mg base (L2.CX P w) 1 fx.a_write_heaps fx.fd_write_heaps ["heaps"] (spD mg K T false d_write_heaps) := by
  refine fn_ok (k := 0) (N := N_write_heaps) (ow' := [false, false]) fx.F_write_heaps sc_write_heaps fun cdv A outer s0 H E hr => ?_
  have nd := sc_write_heaps.nd
  have hc : (cxOf (L2.CX P w) P w K mg base N_write_heaps "write_heaps" (defScope s_write_heaps) fx.a_write_heaps cdv A outer s0 H E).calm = true := rfl
  exact (dss_one (ds_ret (dx_bm PySem.F.plainAttrs_str PySem.F.slot_str_join PySem.F.type_str_join mt_join m_join (DX.dr de_str) (dar_cons (DX.dr (df_lc hc nd (di_listR (dr_var (pv 0))) (blkOk_by (own := [("heap", 1)]) (by kernel_rfl)) (fun _ _ _ _ _ => (dg_name nd rfl (by first | exact .inl rfl | exact .inr rfl))) (fun _ _ _ _ _ => dts_nil) (fun _ _ _ _ _ => (dx_callTy call_str_int c_str rfl fx.z_str (by decide +kernel) (dar_cons (dr_var (pv 1)) dar_nil))) (by decide))) dar_nil)) rfl))
noncomputable def k_read_heaps : PEnv → SR := (sSeq (sIf (bOp pyEq (xVar 0) (xC (.str ""))) (sRet (xTup aNil)) .nx) (sSeq (sAsg (xUse d_number_at (aCons (xVar 0) (aCons (xC (.int 0)) aNil))) (bTup 2 (bCons (bName 1) (bCons (bName 2) bNil)))) (sSeq (sSet 3 (xLst (aCons (xVar 1) aNil))) (sSeq (sWhile (bOp pyLt (xVar 2) (xCall pyLen (aCons (xVar 0) aNil))) (sSeq (sIf (bOp pyNe (xOp pyIx (xVar 0) (xVar 2)) (xC (.str " "))) (fun _ => .bad) .nx) (sSeq (sAsg (xUse d_number_at (aCons (xVar 0) (aCons (xOp pyAdd (xVar 2) (xC (.int 1))) aNil))) (bTup 2 (bCons (bName 1) (bCons (bName 2) bNil)))) (sApp 3 (xVar 1))))) (sRet (xCall pyTuple (aCons (xVar 3) aNil)))))))
noncomputable def d_read_heaps : List PV → Res PV := runB false 4 1 k_read_heaps
theorem ok_read_heaps (fx : Fx K mg) (G_number_at : FnOk P w K mg base (L2.CX P w) 1 fx.a_number_at fx.fd_number_at ["text", "at"] (spD mg K T false d_number_at)) : FnOk P w K mg base (L2.CX P w) 2 fx.a_read_heaps fx.fd_read_heaps ["text"] (spD mg K T false d_read_heaps) := by
  refine fn_ok (k := 1) (N := N_read_heaps) (ow' := [false, false, false, true]) fx.F_read_heaps sc_read_heaps fun cdv A outer s0 H E hr => ?_
  have nd := sc_read_heaps.nd
  have hc : (cxOf (L2.CX P w) P w K mg base N_read_heaps "read_heaps" (defScope s_read_heaps) fx.a_read_heaps cdv A outer s0 H E).calm = true := rfl
  have hp : PassesOwn (model P w) (A.deeper (envOfC "read_heaps" (defScope s_read_heaps) s0.heap.objs.size fx.a_read_heaps cdv)) (envOfC "read_heaps" (defScope s_read_heaps) s0.heap.objs.size fx.a_read_heaps cdv) (cxOf (L2.CX P w) P w K mg base N_read_heaps "read_heaps" (defScope s_read_heaps) fx.a_read_heaps cdv A outer s0 H E).xe := passes_of (K := fun e s'' => L2.CX P w outer H s0 E e s'') (X := cxOf (L2.CX P w) P w K mg base N_read_heaps "read_heaps" (defScope s_read_heaps) fx.a_read_heaps cdv A outer s0 H E) rfl
  have tk : Takes (cxOf (L2.CX P w) P w K mg base N_read_heaps "read_heaps" (defScope s_read_heaps) fx.a_read_heaps cdv A outer s0 H E) (fun cls d _ H' => E cls d H') := takes_of rfl rfl rfl rfl
  exact (dss_cons (ds_if (ow' := [false, false, false, false]) (dt_cmp (op_eqD hr.units) o_eq (dr_var (pv 0)) (DX.dr de_str) (nomark _)) (dss_one (ds_ret (de_tup da_nil) rfl)) dss_nil rfl) (dss_cons (ds_asg (dx_use (G_number_at.mono (by decide)) hr rfl fx.g_number_at fx.F_number_at.kp fx.b_number_at tk (da_cons (de_var (pv 0) rfl) (da_cons de_int da_nil))) (dg_tup hc (dgs_cons (dg_name nd rfl (.inl rfl)) (dgs_cons (dg_name nd rfl (.inl rfl)) dgs_nil)))) (dss_cons (ds_setF nd rfl (.inl rfl) (df_lst (da_cons (de_var (pv 1) rfl) da_nil))) (dss_cons (ds_while hp (dt_cmp op_lt o_lt (dr_var (pv 2)) (DX.dr (dx_callB call_len c_len rfl fx.z_len boot_len (dar_cons (dr_var (pv 0)) dar_nil))) (nomark _)) (dss_cons (ds_if (ow' := [false, false, false, true]) (dt_cmp (op_neD hr.units) o_ne (DX.dr (dx_ix ix_seq o_ix (dr_var (pv 0)) (dr_var (pv 2)) (fun _ _ => rfl))) (DX.dr de_str) (nomark _)) (dss_one ds_never) dss_nil rfl) (dss_cons (ds_asg (dx_use (G_number_at.mono (by decide)) hr rfl fx.g_number_at fx.F_number_at.kp fx.b_number_at tk (da_cons (de_var (pv 0) rfl) (da_cons (dx_op op_addIS o_add (dr_var (pv 2)) (DX.dr de_int)) da_nil))) (dg_tup hc (dgs_cons (dg_name nd rfl (.inl rfl)) (dgs_cons (dg_name nd rfl (.inl rfl)) dgs_nil)))) (dss_one (ds_app (pv 3) rfl (da_cons (de_var (pv 1) rfl) da_nil)))))) (dss_one (ds_ret (dx_callTy call_tuple_of c_tuple rfl fx.z_tuple (by decide +kernel) (dar_cons (dr_var (pv 3)) dar_nil)) rfl))))))
def k__law_number : PEnv → SR := (sSeq (sSet 2 (xC (.int 0))) (sSeq (sIf (bOp pyGt (xCall pyLen (aCons (xVar 0) aNil)) (xC (.int 0))) (sSet 2 (xOp pyIx (xVar 0) (xOp pyMod (xCall pyInt (aCons (xVar 1) aNil)) (xCall pyLen (aCons (xVar 0) aNil))))) .nx) (sSeq (sIf (bOp pyLt (xVar 2) (xC (.int 0))) (sSet 2 (xOp pySub (xC (.int 1)) (xOp pyMulI (xC (.int 2)) (xVar 2)))) .nx) (sSeq (sIf (bAnd (bOp pyGe (xVar 2) (xOp pyPow (xC (.int 10)) (xC (.int 9)))) (bOp pyLt (xVar 1) (xCall pyLen (aCons (xVar 0) aNil)))) (sRet (xVar 2)) .nx) (sSeq (sSet 3 (xOp pyMod (xCall pyInt (aCons (xOp pyAdd (xOp pyMulI (xOp pyAdd (xVar 2) (xC (.int 7))) (xC (.int 48271))) (xOp pyMulI (xOp pyAdd (xVar 1) (xC (.int 3))) (xC (.int 69621)))) aNil)) (xC (.int 2147483647)))) (sSeq (sSet 4 (xOp pyMod (xCall pyInt (aCons (xOp pyAdd (xOp pyAdd (xOp pyAdd (xOp pyMulI (xVar 3) (xVar 3)) (xOp pyMulI (xC (.int 16807)) (xVar 3))) (xOp pyMulI (xOp pyAdd (xVar 2) (xC (.int 1))) (xC (.int 40692)))) (xVar 1)) aNil)) (xC (.int 2147483399)))) (sSeq (sSet 5 (xOp pyMod (xCall pyInt (aCons (xOp pyAdd (xOp pyMulI (xVar 4) (xVar 4)) (xVar 3)) aNil)) (xC (.int 2147483629)))) (sRet (xOp pyMod (xCall pyInt (aCons (xOp pyAdd (xOp pyAdd (xOp pyMulI (xVar 5) (xC (.int 2147483399))) (xOp pyMulI (xVar 4) (xC (.int 31)))) (xVar 2)) aNil)) (xC (.int 4611686014132420609)))))))))))
def d__law_number : List PV → Res PV := runB false 6 2 k__law_number
theorem ok__law_number (fx : Fx K mg) : FnOk P w K mg base (L2.CX P w) 1 fx.a__law_number fx.fd__law_number ["script", "k"] (spD mg K T false d__law_number) := by
  refine fn_ok (k := 0) (N := N__law_number) (ow' := [false, false, false, false, false, false]) fx.F__law_number sc__law_number fun cdv A outer s0 H E hr => ?_
  have nd := sc__law_number.nd
  have hc : (cxOf (L2.CX P w) P w K mg base N__law_number "_law_number" (defScope s__law_number) fx.a__law_number cdv A outer s0 H E).calm = true := rfl
  exact (dss_cons (ds_set nd rfl (.inl rfl) de_int) (dss_cons (ds_if (ow' := [false, false, false, false, false, false]) (dt_cmp op_gt o_gt (DX.dr (dx_callB call_len c_len rfl fx.z_len boot_len (dar_cons (dr_var (pv 0)) dar_nil))) (DX.dr de_int) (nomark _)) (dss_one (ds_set nd rfl (.inl rfl) (dx_ix ix_seq o_ix (dr_var (pv 0)) (DX.dr (dx_op op_mod o_mod (DX.dr (dx_callTy call_intAll c_int rfl fx.z_int (by decide +kernel) (dar_cons (dr_var (pv 1)) dar_nil))) (DX.dr (dx_callB call_len c_len rfl fx.z_len boot_len (dar_cons (dr_var (pv 0)) dar_nil))))) (fun _ _ => rfl)))) dss_nil rfl) (dss_cons (ds_if (ow' := [false, false, false, false, false, false]) (dt_cmp op_lt o_lt (dr_var (pv 2)) (DX.dr de_int) (nomark _)) (dss_one (ds_set nd rfl (.inl rfl) (dx_op op_sub o_sub (DX.dr de_int) (DX.dr (dx_op op_mul o_mul (DX.dr de_int) (dr_var (pv 2))))))) dss_nil rfl) (dss_cons (ds_if (ow' := [false, false, false, false, false, false]) (DW.dt (dw_and (dt_cmp op_ge o_ge (dr_var (pv 2)) (DX.dr (dx_op op_pow o_pow (DX.dr de_int) (DX.dr de_int))) (nomark _)) (dw_and1 (dt_cmp op_lt o_lt (dr_var (pv 1)) (DX.dr (dx_callB call_len c_len rfl fx.z_len boot_len (dar_cons (dr_var (pv 0)) dar_nil))) (nomark _))))) (dss_one (ds_ret (de_var (pv 2) rfl) rfl)) dss_nil rfl) (dss_cons (ds_set nd rfl (.inl rfl) (dx_op op_mod o_mod (DX.dr (dx_callTy call_intAll c_int rfl fx.z_int (by decide +kernel) (dar_cons (DX.dr (dx_op op_addIS o_add (DX.dr (dx_op op_mul o_mul (DX.dr (dx_op op_addIS o_add (dr_var (pv 2)) (DX.dr de_int))) (DX.dr de_int))) (DX.dr (dx_op op_mul o_mul (DX.dr (dx_op op_addIS o_add (dr_var (pv 1)) (DX.dr de_int))) (DX.dr de_int))))) dar_nil))) (DX.dr de_int))) (dss_cons (ds_set nd rfl (.inl rfl) (dx_op op_mod o_mod (DX.dr (dx_callTy call_intAll c_int rfl fx.z_int (by decide +kernel) (dar_cons (DX.dr (dx_op op_addIS o_add (DX.dr (dx_op op_addIS o_add (DX.dr (dx_op op_addIS o_add (DX.dr (dx_op op_mul o_mul (dr_var (pv 3)) (dr_var (pv 3)))) (DX.dr (dx_op op_mul o_mul (DX.dr de_int) (dr_var (pv 3)))))) (DX.dr (dx_op op_mul o_mul (DX.dr (dx_op op_addIS o_add (dr_var (pv 2)) (DX.dr de_int))) (DX.dr de_int))))) (dr_var (pv 1)))) dar_nil))) (DX.dr de_int))) (dss_cons (ds_set nd rfl (.inl rfl) (dx_op op_mod o_mod (DX.dr (dx_callTy call_intAll c_int rfl fx.z_int (by decide +kernel) (dar_cons (DX.dr (dx_op op_addIS o_add (DX.dr (dx_op op_mul o_mul (dr_var (pv 4)) (dr_var (pv 4)))) (dr_var (pv 3)))) dar_nil))) (DX.dr de_int))) (dss_one (ds_ret (dx_op op_mod o_mod (DX.dr (dx_callTy call_intAll c_int rfl fx.z_int (by decide +kernel) (dar_cons (DX.dr (dx_op op_addIS o_add (DX.dr (dx_op op_addIS o_add (DX.dr (dx_op op_mul o_mul (dr_var (pv 5)) (DX.dr de_int))) (DX.dr (dx_op op_mul o_mul (dr_var (pv 4)) (DX.dr de_int))))) (dr_var (pv 2)))) dar_nil))) (DX.dr de_int)) rfl)))))))))
noncomputable def k_law : PEnv → SR := (sSeq (sFor (iWith pyRange1 (aCons (xC (.int 5)) aNil)) (bName 1) (sSeq (sSet 2 (xUse d__law_number (aCons (xVar 0) (aCons (xVar 1) aNil)))) (sSeq (sSet 3 (xLst aNil)) (sSeq (sFor (iWith pyRange1 (aCons (xOp pyTake (xVar 2) (xC (.int 13))) aNil)) (bName 4) (sSeq (sSet 5 (xLst (aCons (xUse d__law_number (aCons (xLst (aCons (xVar 2) aNil)) (aCons (xOp pyAdd (xC (.int 20)) (xVar 4)) aNil))) aNil))) (sAppM 3 (mOp pyIx (mLst (mCons (mOf (xC (.int 0))) (mCons (mTake 5 (mOf (xC (.int 50)))) (mCons (mOp pySub (mOf (xOp pySub (xOp pyPow (xC (.int 10)) (xC (.int 31))) (xC (.int 1)))) (mTake 5 (mOf (xC (.int 50))))) (mCons (mOp pyAdd (mOf (xOp pyPow (xC (.int 10)) (xC (.int 30)))) (mTake 5 (mOf (xC (.int 9))))) mNil))))) (mTake 5 (mOf (xC (.int 4)))))))) (sSeq (sSet 6 (xC (.str ""))) (sSeq (sFor (iOf pyItems (xVar 3)) (bName 7) (sSet 6 (xOp pyAdd (xOp pyAdd (xVar 6) (xOp pyRepS (xC (.str " ")) (xCall pyInt (aCons (xOp pyNe (xVar 6) (xC (.str ""))) aNil)))) (xCall pyStr (aCons (xVar 7) aNil))))) (sSeq (sSet 8 (xCall pyTuple (aCons (xVar 3) aNil))) (sSeq (sIf (bOr (bOp pyNe (xUse d_write_heaps (aCons (xVar 8) aNil)) (xVar 6)) (bOp pyNe (xUse d_read_heaps (aCons (xVar 6) aNil)) (xVar 8))) (sRet (xC (.bl false))) .nx) (sFor (iOf pyItems (xVar 3)) (bName 7) (sIf (bOp pyNe (xUse d_read_heaps (aCons (xUse d_write_heaps (aCons (xTup (aCons (xVar 7) aNil)) aNil)) aNil)) (xTup (aCons (xVar 7) aNil))) (sRet (xC (.bl false))) .nx)))))))))) (sRet (xC (.bl true))))
noncomputable def d_law : List PV → Res PV := runB false 9 1 k_law
theorem ok_law (fx : Fx K mg) (G__law_number : FnOk P w K mg base (L2.CX P w) 1 fx.a__law_number fx.fd__law_number ["script", "k"] (spD mg K T false d__law_number)) (G__law_take : FnOk P w K mg base (L2.CX P w) 1 fx.a__law_take fx.fd__law_take ["box", "size"] spTake) (G_write_heaps : FnOk P w K mg base (L2.CX P w) 1 fx.a_write_heaps fx.fd_write_heaps ["heaps"] (spD mg K T false d_write_heaps)) (G_read_heaps : FnOk P w K mg base (L2.CX P w) 2 fx.a_read_heaps fx.fd_read_heaps ["text"] (spD mg K T false d_read_heaps)) : FnOk P w K mg base (L2.CX P w) 3 fx.a_law fx.fd_law ["script"] (spD mg K T false d_law) := by
  refine fn_ok (k := 2) (N := N_law) (ow' := [false, false, false, false, false, false, false, false, false]) fx.F_law sc_law fun cdv A outer s0 H E hr => ?_
  have nd := sc_law.nd
  have hc : (cxOf (L2.CX P w) P w K mg base N_law "law" (defScope s_law) fx.a_law cdv A outer s0 H E).calm = true := rfl
  have hp : PassesOwn (model P w) (A.deeper (envOfC "law" (defScope s_law) s0.heap.objs.size fx.a_law cdv)) (envOfC "law" (defScope s_law) s0.heap.objs.size fx.a_law cdv) (cxOf (L2.CX P w) P w K mg base N_law "law" (defScope s_law) fx.a_law cdv A outer s0 H E).xe := passes_of (K := fun e s'' => L2.CX P w outer H s0 E e s'') (X := cxOf (L2.CX P w) P w K mg base N_law "law" (defScope s_law) fx.a_law cdv A outer s0 H E) rfl
  have tk : Takes (cxOf (L2.CX P w) P w K mg base N_law "law" (defScope s_law) fx.a_law cdv A outer s0 H E) (fun cls d _ H' => E cls d H') := takes_of rfl rfl rfl rfl
  exact (dss_cons (ds_for hp hc (di_range1 rfl fx.z_range (da_cons de_int da_nil)) (dg_name nd rfl (.inl rfl)) (dss_cons (ds_set nd rfl (.inl rfl) (dx_use (G__law_number.mono (by decide)) hr rfl fx.g__law_number fx.F__law_number.kp fx.b__law_number tk (da_cons (de_var (pv 0) rfl) (da_cons (de_var (pv 1) rfl) da_nil)))) (dss_cons (ds_setF nd rfl (.inl rfl) (df_lst da_nil)) (dss_cons (ds_for hp hc (di_range1 rfl fx.z_range (da_cons (de_take (G__law_take.mono (by decide)) hr rfl fx.g__law_take fx.F__law_take.kp fx.b__law_take (de_var (pv 2) rfl) de_int) da_nil)) (dg_name nd rfl (.inl rfl)) (dss_weak (dss_cons (ds_setF nd rfl (.inl rfl) (df_lst (da_cons (dx_use (G__law_number.mono (by decide)) hr rfl fx.g__law_number fx.F__law_number.kp fx.b__law_number tk (da_cons (DX.de (df_lst (da_cons (de_var (pv 2) rfl) da_nil))) (da_cons (dx_op op_addIS o_add (DX.dr de_int) (dr_var (pv 4))) da_nil))) da_nil))) (dss_one (ds_appM (pv 3) rfl (dma_cons (dm_ix ix_seq o_ix (dm_lst (dma_cons (dm_of (fr := false) de_int) (dma_cons (dm_take (G__law_take.mono (by decide)) hr rfl fx.g__law_take fx.F__law_take.kp fx.b__law_take (pv 5) rfl (dm_of (fr := false) de_int)) (dma_cons (dm_op op_sub o_sub (dm_of (fr := false) (dx_op op_sub o_sub (DX.dr (dx_op op_pow o_pow (DX.dr de_int) (DX.dr de_int))) (DX.dr de_int))) (dm_take (G__law_take.mono (by decide)) hr rfl fx.g__law_take fx.F__law_take.kp fx.b__law_take (pv 5) rfl (dm_of (fr := false) de_int))) (dma_cons (dm_op op_addIS o_add (dm_of (fr := false) (dx_op op_pow o_pow (DX.dr de_int) (DX.dr de_int))) (dm_take (G__law_take.mono (by decide)) hr rfl fx.g__law_take fx.F__law_take.kp fx.b__law_take (pv 5) rfl (dm_of (fr := false) de_int))) dma_nil))))) (dm_take (G__law_take.mono (by decide)) hr rfl fx.g__law_take fx.F__law_take.kp fx.b__law_take (pv 5) rfl (dm_of (fr := false) de_int)) (fun _ _ => rfl)) dma_nil)))) rfl)) (dss_cons (ds_set nd rfl (.inl rfl) de_str) (dss_cons (ds_pre (ow1 := [false, false, false, false, false, false, false, false, false]) (ds_for hp hc (di_list (de_var (pv 3) rfl)) (dg_name nd rfl (.inl rfl)) (dss_one (ds_set nd rfl (.inl rfl) (dx_op op_addIS o_add (DX.dr (dx_op op_addIS o_add (dr_var (pv 6)) (DX.dr (dx_op op_repS o_repS (DX.dr de_str) (DX.dr (dx_callTy call_intAll c_int rfl fx.z_int (by decide +kernel) (dar_cons (DX.dr (de_cmp (op_neD hr.units) o_ne (dr_var (pv 6)) (DX.dr de_str) (nomark _))) dar_nil))))))) (DX.dr (dx_callTy call_str_int c_str rfl fx.z_str (by decide +kernel) (dar_cons (dr_var (pv 7)) dar_nil))))))) rfl) (dss_cons (ds_set nd rfl (.inl rfl) (dx_callTy call_tuple_of c_tuple rfl fx.z_tuple (by decide +kernel) (dar_cons (dr_var (pv 3)) dar_nil))) (dss_cons (ds_if (ow' := [false, false, false, false, false, false, false, false, false]) (DW.dt (dw_or (dt_cmp (op_neD hr.units) o_ne (DX.dr (dx_use (G_write_heaps.mono (by decide)) hr rfl fx.g_write_heaps fx.F_write_heaps.kp fx.b_write_heaps tk (da_cons (de_var (pv 8) rfl) da_nil))) (dr_var (pv 6)) (nomark _)) (dw_or1 (dt_cmp (op_neD hr.units) o_ne (DX.dr (dx_use (G_read_heaps.mono (by decide)) hr rfl fx.g_read_heaps fx.F_read_heaps.kp fx.b_read_heaps tk (da_cons (de_var (pv 6) rfl) da_nil))) (dr_var (pv 8)) (nomark _))))) (dss_one (ds_ret de_bl rfl)) dss_nil rfl) (dss_one (ds_for hp hc (di_list (de_var (pv 3) rfl)) (dg_name nd rfl (.inl rfl)) (dss_one (ds_if (ow' := [false, false, false, false, false, false, false, false, false]) (dt_cmp (op_neD hr.units) o_ne (DX.dr (dx_use (G_read_heaps.mono (by decide)) hr rfl fx.g_read_heaps fx.F_read_heaps.kp fx.b_read_heaps tk (da_cons (dx_use (G_write_heaps.mono (by decide)) hr rfl fx.g_write_heaps fx.F_write_heaps.kp fx.b_write_heaps tk (da_cons (de_tup (da_cons (de_var (pv 7) rfl) da_nil)) da_nil)) da_nil))) (DX.dr (de_tup (da_cons (de_var (pv 7) rfl) da_nil))) (nomark _)) (dss_one (ds_ret de_bl rfl)) dss_nil rfl)))))))))))) (dss_one (ds_ret de_bl rfl)))
end
theorem all_mk {w : World} {K : PySem.W.Frag} {h : Heap} {mg : Str → Option Value} {fa : Addr} (X : K.In h) (G : h.Ns mainGlobals mg) (hfa : mg "law" = some (.ref fa))
    {f0 : Addr} {od0 an0 : Option Addr} {sl0 : Array (Option Value)} {oc0 kV0 dc0 pm0 cd0 ct0 : Value}
    {f1 : Addr} {od1 an1 : Option Addr} {sl1 : Array (Option Value)} {oc1 kV1 dc1 pm1 cd1 ct1 : Value}
    {f2 : Addr} {od2 an2 : Option Addr} {sl2 : Array (Option Value)} {oc2 kV2 dc2 pm2 cd2 ct2 : Value}
    {f3 : Addr} {od3 an3 : Option Addr} {sl3 : Array (Option Value)} {oc3 kV3 dc3 pm3 cd3 ct3 : Value}
    {f4 : Addr} {od4 an4 : Option Addr} {sl4 : Array (Option Value)} {oc4 kV4 dc4 pm4 cd4 ct4 : Value}
    {f5 : Addr} {od5 an5 : Option Addr} {sl5 : Array (Option Value)} {oc5 kV5 dc5 pm5 cd5 ct5 : Value}
    {t_DIGITS : Tok}
    {t_MOST_FIGURES : Tok}
    (a0 : PySem.W.nsIn K mainGlobals "number_at" = some (some (.ref f0))) (l0 : K.lookup f0 = some ⟨oc0, od0, .func (PySem.W.fnOf "number_at" "number_at" (defArgs s_number_at) (defBody s_number_at) (defScope s_number_at) .none kV0 dc0 pm0 an0 cd0 ct0), sl0⟩) (c0 : PySem.W.codeIn K cd0 "number_at" = true) (k0 : PySem.W.keepIn K (.ref f0) = true)
    (a1 : PySem.W.nsIn K mainGlobals "write_heaps" = some (some (.ref f1))) (l1 : K.lookup f1 = some ⟨oc1, od1, .func (PySem.W.fnOf "write_heaps" "write_heaps" (defArgs s_write_heaps) (defBody s_write_heaps) (defScope s_write_heaps) .none kV1 dc1 pm1 an1 cd1 ct1), sl1⟩) (c1 : PySem.W.codeIn K cd1 "write_heaps" = true) (k1 : PySem.W.keepIn K (.ref f1) = true)
    (a2 : PySem.W.nsIn K mainGlobals "read_heaps" = some (some (.ref f2))) (l2 : K.lookup f2 = some ⟨oc2, od2, .func (PySem.W.fnOf "read_heaps" "read_heaps" (defArgs s_read_heaps) (defBody s_read_heaps) (defScope s_read_heaps) .none kV2 dc2 pm2 an2 cd2 ct2), sl2⟩) (c2 : PySem.W.codeIn K cd2 "read_heaps" = true) (k2 : PySem.W.keepIn K (.ref f2) = true)
    (a3 : PySem.W.nsIn K mainGlobals "_law_number" = some (some (.ref f3))) (l3 : K.lookup f3 = some ⟨oc3, od3, .func (PySem.W.fnOf "_law_number" "_law_number" (defArgs s__law_number) (defBody s__law_number) (defScope s__law_number) .none kV3 dc3 pm3 an3 cd3 ct3), sl3⟩) (c3 : PySem.W.codeIn K cd3 "_law_number" = true) (k3 : PySem.W.keepIn K (.ref f3) = true)
    (a4 : PySem.W.nsIn K mainGlobals "_law_take" = some (some (.ref f4))) (l4 : K.lookup f4 = some ⟨oc4, od4, .func (PySem.W.fnOf "_law_take" "_law_take" (defArgs s__law_take) (defBody s__law_take) (defScope s__law_take) .none kV4 dc4 pm4 an4 cd4 ct4), sl4⟩) (c4 : PySem.W.codeIn K cd4 "_law_take" = true) (k4 : PySem.W.keepIn K (.ref f4) = true)
    (a5 : PySem.W.nsIn K mainGlobals "law" = some (some (.ref f5))) (l5 : K.lookup f5 = some ⟨oc5, od5, .func (PySem.W.fnOf "law" "law" (defArgs s_law) (defBody s_law) (defScope s_law) .none kV5 dc5 pm5 an5 cd5 ct5), sl5⟩) (c5 : PySem.W.codeIn K cd5 "law" = true) (k5 : PySem.W.keepIn K (.ref f5) = true)
    (z_int : PySem.W.nsIn K mainGlobals "int" = some none)
    (z_len : PySem.W.nsIn K mainGlobals "len" = some none)
    (z_range : PySem.W.nsIn K mainGlobals "range" = some none)
    (z_str : PySem.W.nsIn K mainGlobals "str" = some none)
    (z_tuple : PySem.W.nsIn K mainGlobals "tuple" = some none)
    (m_DIGITS : PySem.W.nsIn K mainGlobals "DIGITS" = some (some (.str "0123456789" t_DIGITS)))
    (m_MOST_FIGURES : PySem.W.nsIn K mainGlobals "MOST_FIGURES" = some (some (.int 31 t_MOST_FIGURES)))
    (main : ∀ ns : List Int, ns.length ≤ 63 → (∀ z ∈ ns, Builtin.Int.intBits z ≤ 1048576) → d_law [.scr ns] = .ok (.bl true)) :
    LamX.LawAtS PySem.Challenge.rw_heapsbybits_k06_heaps_are_written_and_re w K (L2.CX PySem.Challenge.rw_heapsbybits_k06_heaps_are_written_and_re.prog w) 3 63 "script" mg fa h := by
  have e := hfa.symm.trans (PySem.W.mg_of X G a5)
  cases e
  have F0 := fun_mk (st := s_number_at) l0 c0 k0
  have b0 := F0.binds (ps := ["text", "at"]) fun _ _ _ _ _ _ us hl => match us, hl with | [_, _], _ => rfl
  have F1 := fun_mk (st := s_write_heaps) l1 c1 k1
  have b1 := F1.binds (ps := ["heaps"]) fun _ _ _ _ _ _ us hl => match us, hl with | [_], _ => rfl
  have F2 := fun_mk (st := s_read_heaps) l2 c2 k2
  have b2 := F2.binds (ps := ["text"]) fun _ _ _ _ _ _ us hl => match us, hl with | [_], _ => rfl
  have F3 := fun_mk (st := s__law_number) l3 c3 k3
  have b3 := F3.binds (ps := ["script", "k"]) fun _ _ _ _ _ _ us hl => match us, hl with | [_, _], _ => rfl
  have F4 := fun_mk (st := s__law_take) l4 c4 k4
  have b4 := F4.binds (ps := ["box", "size"]) fun _ _ _ _ _ _ us hl => match us, hl with | [_, _], _ => rfl
  have F5 := fun_mk (st := s_law) l5 c5 k5
  have b5 := F5.binds (ps := ["script"]) fun _ _ _ _ _ _ us hl => match us, hl with | [_], _ => rfl
  let fx : Fx K mg := ⟨f0, _, F0, PySem.W.mg_of X G a0, b0,
    f1, _, F1, PySem.W.mg_of X G a1, b1,
    f2, _, F2, PySem.W.mg_of X G a2, b2,
    f3, _, F3, PySem.W.mg_of X G a3, b3,
    f4, _, F4, PySem.W.mg_of X G a4, b4,
    fa, _, F5, PySem.W.mg_of X G a5, b5,
    PySem.W.mg_none_of X G z_int,
    PySem.W.mg_none_of X G z_len,
    PySem.W.mg_none_of X G z_range,
    PySem.W.mg_none_of X G z_str,
    PySem.W.mg_none_of X G z_tuple,
    t_DIGITS, PySem.W.mg_of X G m_DIGITS,
    t_MOST_FIGURES, PySem.W.mg_of X G m_MOST_FIGURES⟩
  refine law_at (fd := fx.fd_law) (d := d_law) (fun s v => .of_eq rfl) main fun base KB GB => ?_
  have G_number_at := ok_number_at (P := PySem.Challenge.rw_heapsbybits_k06_heaps_are_written_and_re.prog) (w := w) (base := base) (T := fun _ => False) fx
  have G_write_heaps := ok_write_heaps (P := PySem.Challenge.rw_heapsbybits_k06_heaps_are_written_and_re.prog) (w := w) (base := base) (T := fun _ => False) fx
  have G_read_heaps := ok_read_heaps (P := PySem.Challenge.rw_heapsbybits_k06_heaps_are_written_and_re.prog) (w := w) (base := base) (T := fun _ => False) fx G_number_at
  have G__law_number := ok__law_number (P := PySem.Challenge.rw_heapsbybits_k06_heaps_are_written_and_re.prog) (w := w) (base := base) (T := fun _ => False) fx
  have G__law_take := ok__law_take (P := PySem.Challenge.rw_heapsbybits_k06_heaps_are_written_and_re.prog) (w := w) (base := base) fx
  have G_law := ok_law (P := PySem.Challenge.rw_heapsbybits_k06_heaps_are_written_and_re.prog) (w := w) (base := base) (T := fun _ => False) fx G__law_number G__law_take G_write_heaps G_read_heaps
  exact G_law
end Q_k06
end

section
set_option Elab.async false
set_option linter.all false
set_option maxRecDepth 100000
set_option maxHeartbeats 1000000
namespace D
open PySem PySem.Spec PyProof.Rows L2

/-! ### reckoning: one equation for each form -/
def SR.th (r : SR) (k : PEnv → SR) : SR := match r with
  | .nx e => k e
  | r => r
def Res.thS (r : Res PV) (env : PEnv) (k : PV → SR) : SR := match r with
  | .ok a => k a
  | .err x => .er x env
  | .bad => .bad
def Res.thB (r : Res Bool) (env : PEnv) (k1 k2 : PEnv → SR) : SR := match r with
  | .ok a => if a = true then k1 env else k2 env
  | .err x => .er x env
  | .bad => .bad
def Res.ap2 (f : F2) (r s : Res PV) : Res PV := r.bnd fun p => s.bnd fun q => ofO (f p q)
def Res.ap2B (f : F2) (r s : Res PV) : Res Bool := r.bnd fun p => s.bnd fun q => ofO (tr1 f p q)
def Res.ap1 {α : Type} (f : PV → Option α) (r : Res PV) : Res α := r.bnd fun p => ofO (f p)
def Res.apL {α : Type} (f : List PV → Option α) (r : Res (List PV)) : Res α := r.bnd fun p => ofO (f p)
def Res.apM (f : PV → List PV → Option PV) (r : Res PV) (s : Res (List PV)) : Res PV := r.bnd fun p => s.bnd fun q => ofO (f p q)
def rcons (r : Res PV) (s : Res (List PV)) : Res (List PV) := r.bnd fun p => s.bnd fun q => .ok (p :: q)
def rand (r s : Res Bool) : Res Bool := r.bnd fun p => if p = true then s else .ok false
def ror (r s : Res Bool) : Res Bool := r.bnd fun p => if p = true then .ok true else s
def rnot (r : Res Bool) : Res Bool := r.bnd fun p => .ok (!p)
def xgd (r : Res PV) (c : PV → Bool) : Res PV := r.bnd fun p => if c p = true then .ok p else .bad
def getP : Option (Option PV) → Res PV
  | some (some x) => .ok x
  | _ => .bad
def forR (f : Bd) (k : PEnv → SR) (env : PEnv) (r : Res (List PV)) : SR := match r with
  | .ok xs => if xs.length ≤ sizeLine then forL f k xs env else .bad
  | .err x => .er x env
  | .bad => .bad
def lcR (f : Bd) (t : PEnv → Res Bool) (d : PEnv → Res PV) (vs : List Nat) (env : PEnv) (r : Res (List PV)) : Res PV := r.bnd fun xs =>
  if xs.length ≤ sizeLine then (compL f t d (wipeE env vs) xs).bnz fun ys => .ok (.lst ys) else .bad
def rlst (r : Res (List PV)) : Res PV := r.bnd fun ps => if ps.length ≤ sizeLine then .ok (.lst ps) else .bad
def rtup (r : Res (List PV)) : Res PV := r.bnd fun ps => if ps.length ≤ sizeLine then .ok (.tup ps) else .bad
def riff (r : Res Bool) (a b : Res PV) : Res PV := r.bnd fun p => if p = true then a else b
def asgR (f : Bd) (env : PEnv) (r : Res PV) : SR := r.thS env fun v => match f v env with
  | some e => .nx e
  | none => .bad
def appR (i : Nat) (env : PEnv) (o : Option (Option PV)) (r : Res PV) : SR := match o with
  | some (some (.lst xs)) => r.thS env fun v => if xs.length < sizeLine then .nx (env.set i (some (.lst (xs ++ [v])))) else .bad
  | _ => .bad
def endR (fr : Bool) : SR → Res PV
  | .rt v => .ok v
  | .nx _ => if fr = true then .bad else .ok .non
  | .er x _ => .err x
  | _ => .bad
def slR (f : PV → Option Int → Option Int → Option PV) (r : Res PV) (i j : Res (Option Int)) : Res PV := r.bnd fun p => i.bnd fun i => j.bnd fun j => ofO (f p i j)
def oR (r : Res PV) : Res (Option Int) := r.bnd fun p => match p with
  | .int i => .ok (some i)
  | _ => .bad
section
variable {env e : PEnv} {d da db : PEnv → Res PV} {t t1 t2 : PEnv → Res Bool} {ds : PEnv → Res (List PV)} {k k1 k2 : PEnv → SR} {i j : Nat} {f : F2} {x : XV} {v p q : PV} {b : Bool} {ps : List PV}
theorem e_seq : sSeq k1 k2 env = (k1 env).th k2 := rfl
theorem e_th1 : (SR.nx e).th k = k e := rfl
theorem e_th2 : (SR.rt v).th k = .rt v := rfl
theorem e_th3 : (SR.bk e).th k = .bk e := rfl
theorem e_th4 : (SR.ct e).th k = .ct e := rfl
theorem e_th5 : (SR.er x e).th k = .er x e := rfl
theorem e_nx : SR.nx env = .nx env := rfl
theorem e_set : sSet i d env = (d env).thS env fun v => .nx (env.set i (some v)) := rfl
theorem e_ret : sRet d env = (d env).thS env fun v => .rt v := rfl
theorem e_drop : sDrop d env = (d env).thS env fun v => .nx env := rfl
theorem e_thS1 {k : PV → SR} : (Res.ok v).thS env k = k v := rfl
theorem e_thS2 {k : PV → SR} : (Res.err x).thS env k = .er x env := rfl
theorem e_if : sIf t k1 k2 env = (t env).thB env k1 k2 := by
  show (match t env with | .ok p => (if p = true then k1 else k2) env | .err x => SR.er x env | .bad => .bad) = _
  cases h : t env with
  | ok p => cases p <;> rfl
  | err x => rfl
  | bad => rfl
theorem e_thBt : (Res.ok true).thB env k1 k2 = k1 env := rfl
theorem e_thBf : (Res.ok false).thB env k1 k2 = k2 env := rfl
theorem e_thBe : (Res.err x).thB env k1 k2 = .er x env := rfl
theorem e_op : xOp f da db env = Res.ap2 f (da env) (db env) := rfl
theorem e_ap2 : Res.ap2 f (.ok p) (.ok q) = ofO (f p q) := rfl
theorem e_bop : bOp f da db env = Res.ap2B f (da env) (db env) := rfl
theorem e_ap2B : Res.ap2B f (.ok p) (.ok q) = ofO (tr1 f p q) := rfl
theorem e_un {f : PV → Option PV} : xUn f da env = (da env).ap1 f := rfl
theorem e_ap1 {α : Type} {f : PV → Option α} : Res.ap1 f (.ok p) = ofO (f p) := rfl
theorem e_call {f : List PV → Option PV} : xCall f ds env = (ds env).apL f := rfl
theorem e_apL {α : Type} {f : List PV → Option α} : Res.apL f (.ok ps) = ofO (f ps) := rfl
theorem e_meth {f : PV → List PV → Option PV} : xMeth f d ds env = Res.apM f (d env) (ds env) := rfl
theorem e_apM {f : PV → List PV → Option PV} : Res.apM f (.ok p) (.ok ps) = ofO (f p ps) := rfl
theorem e_ty {c : String} : xTy c d env = xgd (d env) (tyP c) := rfl
theorem e_cls {c : Str} : xCls c d env = xgd (d env) (clsP c) := rfl
theorem e_gd {c : PV → Bool} : xgd (.ok p) c = if c p = true then .ok p else .bad := rfl
theorem e_fld {c : Str} : xFld c d env = (d env).ap1 (pyFld c) := rfl
theorem e_nil : aNil env = .ok [] := rfl
theorem e_cons : aCons d ds env = rcons (d env) (ds env) := rfl
theorem e_rcons : rcons (.ok p) (.ok ps) = .ok (p :: ps) := rfl
theorem e_C : xC v env = .ok v := rfl
theorem e_var : xVar i env = getP env[i]? := rfl
theorem e_getP : getP (some (some v)) = .ok v := rfl
theorem e_use {df : List PV → Res PV} : xUse df ds env = (ds env).bnd df := rfl
theorem e_bnd1 {α β : Type} {a : α} {f : α → Res β} : (Res.ok a).bnd f = f a := rfl
theorem e_bnd2 {α β : Type} {f : α → Res β} : (Res.err x).bnd f = .err x := rfl
theorem e_bnz1 {α β : Type} {a : α} {f : α → Res β} : (Res.ok a).bnz f = f a := rfl
theorem e_ofO {α : Type} {a : α} : ofO (some a) = .ok a := rfl
theorem e_and : bAnd t1 t2 env = rand (t1 env) (t2 env) := rfl
theorem e_or : bOr t1 t2 env = ror (t1 env) (t2 env) := rfl
theorem e_not : bNot t env = rnot (t env) := rfl
theorem e_rand1 {s : Res Bool} : rand (.ok true) s = s := rfl
theorem e_rand2 {s : Res Bool} : rand (.ok false) s = .ok false := rfl
theorem e_ror1 {s : Res Bool} : ror (.ok true) s = .ok true := rfl
theorem e_ror2 {s : Res Bool} : ror (.ok false) s = s := rfl
theorem e_rnot : rnot (.ok b) = .ok (!b) := rfl
theorem e_val : bVal d env = (d env).ap1 (fun p => match p with | .bl b => some b | _ => none) := by
  unfold bVal Res.ap1
  cases h : d env with
  | ok p => cases p <;> rfl
  | err x => rfl
  | bad => rfl
theorem e_tru : bTru d env = (d env).ap1 pyTruth := rfl
theorem e_tru0 : bTru0 d env = (d env).ap1 pyTru0 := rfl
theorem e_xIf : xIf t da db env = riff (t env) (da env) (db env) := rfl
theorem e_riff1 {r s : Res PV} : riff (.ok true) r s = r := rfl
theorem e_riff2 {r s : Res PV} : riff (.ok false) r s = s := rfl
theorem e_lst : xLst ds env = rlst (ds env) := rfl
theorem e_tup : xTup ds env = rtup (ds env) := rfl
theorem e_rlst : rlst (.ok ps) = if ps.length ≤ sizeLine then .ok (.lst ps) else .bad := rfl
theorem e_rtup : rtup (.ok ps) = if ps.length ≤ sizeLine then .ok (.tup ps) else .bad := rfl
theorem e_for {di : PEnv → Res (List PV)} {g : Bd} : sFor di g k env = forR g k env (di env) := rfl
theorem e_forR {g : Bd} : forR g k env (.ok ps) = if ps.length ≤ sizeLine then forL g k ps env else .bad := rfl
theorem e_lc {di : PEnv → Res (List PV)} {g : Bd} {vs : List Nat} : xLc di g t d vs env = lcR g t d vs env (di env) := rfl
theorem e_lcR {g : Bd} {vs : List Nat} : lcR g t d vs env (.ok ps) = if ps.length ≤ sizeLine then (compL g t d (wipeE env vs) ps).bnz fun ys => .ok (.lst ys) else .bad := rfl
theorem e_iOf {f : PV → Option (List PV)} : iOf f d env = (d env).ap1 f := rfl
theorem e_iWith {f : List PV → Option (List PV)} : iWith f ds env = (ds env).apL f := rfl
theorem e_asg {g : Bd} : sAsg d g env = asgR g env (d env) := rfl
theorem e_asgR {g : Bd} (h : g v env = some e) : asgR g env (.ok v) = .nx e := by unfold asgR Res.thS; simp only [h]
theorem e_app : sApp i d env = appR i env env[i]? (d env) := rfl
theorem e_appR {xs : List PV} : appR i env (some (some (.lst xs))) (.ok v) = if xs.length < sizeLine then .nx (env.set i (some (.lst (xs ++ [v])))) else .bad := rfl
theorem e_runB {fr : Bool} {n m : Nat} (h : ps.length = m) : runB fr n m k ps = endR fr (k (mkEnv n ps)) := by
  unfold runB; rw [if_pos h]; cases k (mkEnv n ps) <;> rfl
theorem e_end1 {fr : Bool} : endR fr (.rt v) = .ok v := rfl
theorem e_end2 {fr : Bool} : endR fr (.er x e) = .err x := rfl
theorem e_end3 : endR false (.nx e) = .ok .non := rfl
theorem e_sl {f : PV → Option Int → Option Int → Option PV} {lo hi : PEnv → Res (Option Int)} : xSl f d lo hi env = slR f (d env) (lo env) (hi env) := rfl
theorem e_slR {f : PV → Option Int → Option Int → Option PV} {a c : Option Int} : slR f (.ok p) (.ok a) (.ok c) = ofO (f p a c) := rfl
theorem e_oN : oNone env = .ok none := rfl
theorem e_oS : oSome d env = oR (d env) := rfl
theorem e_oR {n : Int} : oR (.ok (.int n)) = .ok (some n) := rfl
end
/-! expressions that take from a box -/
def optR {α : Type} (env : PEnv) : Res α → Option (α × PEnv)
  | .ok p => some (p, env)
  | _ => none
def takeG (i : Nat) (env : PEnv) (o : Option (Option PV)) (n : PV) : Option (PV × PEnv) := match o, n with
  | some (some (.lst [.int x])), .int n => if 0 < n ∧ n < 1073741824 then some (.int (x % n), env.set i (some (.lst [.int (x / n)]))) else none
  | _, _ => none
def mthen {α β : Type} (o : Option (α × PEnv)) (k : α → PEnv → Option β) : Option β := o.bind fun p => k p.1 p.2
def mnx (o : Option (PV × PEnv)) (k : PV → PEnv → SR) : SR := match o with
  | some (p, e) => k p e
  | none => .bad
def mif (o : Option (Bool × PEnv)) (k1 k2 : PEnv → SR) : SR := match o with
  | some (true, e) => k1 e
  | some (false, e) => k2 e
  | none => .bad
def mapp (i : Nat) (v : PV) (env : PEnv) (o : Option (Option PV)) : SR := match o with
  | some (some (.lst xs)) => if xs.length < sizeLine then .nx (env.set i (some (.lst (xs ++ [v])))) else .bad
  | _ => .bad
section
variable {env e : PEnv} {d da db : Mx PV} {ds : Mx (List PV)} {t : Mx Bool} {k k1 k2 : PEnv → SR} {i j : Nat} {f : F2} {x : XV} {v p q : PV} {b : Bool} {ps : List PV}
theorem m_of {d : PEnv → Res PV} : mOf d env = optR env (d env) := by unfold mOf optR; cases d env <;> rfl
theorem m_opt {α : Type} {a : α} : optR env (.ok a) = some (a, env) := rfl
theorem m_op : mOp f da db env = mthen (da env) fun p e => mthen (db e) fun q e => (f p q).map fun z => (z, e) := rfl
theorem m_then {α β : Type} {a : α} {k : α → PEnv → Option β} : mthen (some (a, e)) k = k a e := rfl
theorem m_nil : mNil env = some ([], env) := rfl
theorem m_cons : mCons d ds env = mthen (d env) fun p e => mthen (ds e) fun ps e => some (p :: ps, e) := rfl
theorem m_lst : mLst ds env = mthen (ds env) fun ps e => if ps.length ≤ sizeLine then some (.lst ps, e) else none := rfl
theorem m_tup : mTup ds env = mthen (ds env) fun ps e => if ps.length ≤ sizeLine then some (.tup ps, e) else none := rfl
theorem m_call {f : List PV → Option PV} : mCall f ds env = mthen (ds env) fun ps e => (f ps).map fun z => (z, e) := rfl
theorem m_use {df : List PV → Res PV} : mUse df ds env = mthen (ds env) fun ps e => optR e (df ps) := by
  unfold mUse mthen
  cases ds env with
  | none => rfl
  | some p => show (match df p.1 with | .ok z => some (z, p.2) | _ => none) = optR p.2 (df p.1); unfold optR; cases df p.1 <;> rfl
theorem m_bool : mBool d env = mthen (d env) fun p e => match p with | .bl b => some (b, e) | _ => none := rfl
theorem m_take {d : Mx PV} : mTake i d env = if isLstP env[i]? = true then mthen (d env) fun p e => takeG i e e[i]? p else none := rfl
theorem m_isL {xs : List PV} : isLstP (some (some (.lst xs))) = true := rfl
theorem m_takeG {x n : Int} (h1 : 0 < n) (h2 : n < 1073741824) : takeG i env (some (some (.lst [.int x]))) (.int n) = some (.int (x % n), env.set i (some (.lst [.int (x / n)]))) := by
  unfold takeG; simp only [h1, h2, and_self, if_true]
theorem m_set : sSetM i d env = mnx (d env) fun v e => .nx (e.set i (some v)) := rfl
theorem m_ret : sRetM d env = mnx (d env) fun v e => .rt v := rfl
theorem m_nx {k : PV → PEnv → SR} : mnx (some (p, e)) k = k p e := rfl
theorem m_if : sIfM t k1 k2 env = mif (t env) k1 k2 := rfl
theorem m_if1 : mif (some (true, e)) k1 k2 = k1 e := rfl
theorem m_if2 : mif (some (false, e)) k1 k2 = k2 e := rfl
theorem m_app : sAppM i d env = if isLstP env[i]? = true then mnx (d env) fun v e => mapp i v e e[i]? else .bad := rfl
theorem m_mapp {xs : List PV} : mapp i v env (some (some (.lst xs))) = if xs.length < sizeLine then .nx (env.set i (some (.lst (xs ++ [v])))) else .bad := rfl
end
/-! loops -/
theorem forL_acc {f : Bd} {k : PEnv → SR} {P : List PV → PEnv → Prop} {xs : List PV} (h : ∀ ys x zs e, xs = ys ++ x :: zs → P ys e → ∃ e1 e2, f x e = some e1 ∧ (k e1 = .nx e2 ∨ k e1 = .ct e2) ∧ P (ys ++ [x]) e2) :
    ∀ (zs ys : List PV) (e : PEnv), xs = ys ++ zs → P ys e → ∃ e', forL f k zs e = .nx e' ∧ P xs e'
  | [], ys, e, hx, p => ⟨e, rfl, by rw [hx, List.append_nil]; exact p⟩
  | z :: zs, ys, e, hx, p => by
    obtain ⟨e1, e2, h1, h2, h3⟩ := h ys z zs e hx p
    obtain ⟨e', h4, h5⟩ := forL_acc h zs (ys ++ [z]) e2 (by rw [hx, List.append_assoc]; rfl) h3
    refine ⟨e', ?_, h5⟩
    unfold forL
    rw [h1]
    rcases h2 with h2 | h2
    · simp only [h2]; exact h4
    · simp only [h2]; exact h4
theorem for_acc {f : Bd} {k : PEnv → SR} {P : List PV → PEnv → Prop} {xs : List PV} {e : PEnv} (p : P [] e) (h : ∀ ys x zs e, xs = ys ++ x :: zs → P ys e → ∃ e1 e2, f x e = some e1 ∧ (k e1 = .nx e2 ∨ k e1 = .ct e2) ∧ P (ys ++ [x]) e2) :
    ∃ e', forL f k xs e = .nx e' ∧ P xs e' := forL_acc h xs [] e rfl p
theorem for_inv {f : Bd} {k : PEnv → SR} {P : PEnv → Prop} {xs : List PV} {e : PEnv} (p : P e) (h : ∀ x e, x ∈ xs → P e → ∃ e1 e2, f x e = some e1 ∧ (k e1 = .nx e2 ∨ k e1 = .ct e2) ∧ P e2) :
    ∃ e', forL f k xs e = .nx e' ∧ P e' := for_acc (P := fun _ => P) p fun ys x zs e hx => h x e (by rw [hx]; exact List.mem_append_right _ (List.mem_cons_self ..))
theorem mem_range {lo : Int} {n : Nat} {x : PV} (h : x ∈ rangeL lo n) : ∃ i : Nat, i < n ∧ x = .int (lo + (i : Int)) := by
  unfold rangeL at h
  obtain ⟨i, h1, h2⟩ := List.mem_map.mp h
  exact ⟨i, List.mem_range.mp h1, h2.symm⟩
theorem rangeL_len {lo : Int} {n : Nat} : (rangeL lo n).length = n := by unfold rangeL; rw [List.length_map, List.length_range]
theorem i_itL {xs : List PV} (h : xs.length ≤ 16777216) : pyItems (.lst xs) = some xs := if_pos h
theorem i_itT {xs : List PV} (h : xs.length ≤ 16777216) : pyItems (.tup xs) = some xs := if_pos h
theorem i_tupL {xs : List PV} : pyTuple [.lst xs] = some (.tup xs) := rfl
theorem i_tupT {xs : List PV} : pyTuple [.tup xs] = some (.tup xs) := rfl
theorem i_rep0 {a : Str} : pyRepS (.str a) (.int 0) = some (.str Str.empty) := rfl
theorem i_rep1 {a : Str} : pyRepS (.str a) (.int 1) = some (.str a) := rfl
theorem i_range1 {j : Int} (h1 : 0 ≤ j) (h2 : j < 1000000) : pyRange1 [.int j] = some (rangeL 0 j.toNat) := by unfold pyRange1; simp only; rw [if_pos]; omega
theorem i_range2 {i j : Int} (h1 : 0 ≤ i) (h2 : i < 1000000) (h3 : 0 ≤ j) (h4 : j < 1000000) : pyRange2 [.int i, .int j] = some (rangeL i (j - i).toNat) := by unfold pyRange2; simp only; rw [if_pos]; omega
theorem i_ty {a : Str} : tyP "str" (.str a) = true := rfl
theorem i_take {i j : Int} (h : 0 < j) (h2 : j < 1073741824) : pyTake (.int i) (.int j) = some (.int (i % j)) := by unfold pyTake fI; simp only [h, h2, and_self, if_true]
/-! ints -/
section
variable {i j : Int}
theorem i_sub : pySub (.int i) (.int j) = some (.int (i - j)) := rfl
theorem i_add : pyAdd (.int i) (.int j) = some (.int (i + j)) := rfl
theorem i_lt : tr1 pyLt (.int i) (.int j) = some (decide (i < j)) := rfl
theorem i_le : tr1 pyLe (.int i) (.int j) = some (decide (i ≤ j)) := rfl
theorem i_gt : tr1 pyGt (.int i) (.int j) = some (decide (j < i)) := rfl
theorem i_ge : tr1 pyGe (.int i) (.int j) = some (decide (j ≤ i)) := rfl
theorem i_mulL (h : small64 i = true) : pyMulI (.int i) (.int j) = some (.int (i * j)) := by unfold pyMulI fI; simp only [h, true_or, if_true]
theorem i_mulR (h : small64 j = true) : pyMulI (.int i) (.int j) = some (.int (i * j)) := by unfold pyMulI fI; simp only [h, or_true, if_true]
theorem i_mod (h : 0 < j) : pyMod (.int i) (.int j) = some (.int (i % j)) := by unfold pyMod fI; simp only [h, if_true]
theorem i_fdiv (h : 0 < j) (h2 : j < 1073741824) : pyFdiv (.int i) (.int j) = some (.int (i / j)) := by unfold pyFdiv fI; simp only [h, h2, and_self, if_true]
theorem i_int : pyInt [.int i] = some (.int i) := rfl
theorem i_intB {b : Bool} : pyInt [.bl b] = some (.int (if b then 1 else 0)) := rfl
theorem i_eq : tr1 pyEq (.int i) (.int j) = some (decide (i = j)) := by
  show some (PyData.eqv (.int i) (.int j)) = _
  unfold PyData.eqv
  rfl
theorem i_ne : tr1 pyNe (.int i) (.int j) = some (!decide (i = j)) := by
  show some (!PyData.eqv (.int i) (.int j)) = _
  unfold PyData.eqv
  rfl
theorem i_small (h1 : 0 ≤ i) (h2 : i < 18446744073709551616) : small64 i = true := by
  unfold small64; rw [decide_eq_true_iff]; omega
end
def kNumber : PEnv → SR := (sSeq (sSet 2 (xC (.int 0))) (sSeq (sIf (bOp pyGt (xCall pyLen (aCons (xVar 0) aNil)) (xC (.int 0))) (sSet 2 (xOp pyIx (xVar 0) (xOp pyMod (xCall pyInt (aCons (xVar 1) aNil)) (xCall pyLen (aCons (xVar 0) aNil))))) .nx) (sSeq (sIf (bOp pyLt (xVar 2) (xC (.int 0))) (sSet 2 (xOp pySub (xC (.int 1)) (xOp pyMulI (xC (.int 2)) (xVar 2)))) .nx) (sSeq (sIf (bAnd (bOp pyGe (xVar 2) (xOp pyPow (xC (.int 10)) (xC (.int 9)))) (bOp pyLt (xVar 1) (xCall pyLen (aCons (xVar 0) aNil)))) (sRet (xVar 2)) .nx) (sSeq (sSet 3 (xOp pyMod (xCall pyInt (aCons (xOp pyAdd (xOp pyMulI (xOp pyAdd (xVar 2) (xC (.int 7))) (xC (.int 48271))) (xOp pyMulI (xOp pyAdd (xVar 1) (xC (.int 3))) (xC (.int 69621)))) aNil)) (xC (.int 2147483647)))) (sSeq (sSet 4 (xOp pyMod (xCall pyInt (aCons (xOp pyAdd (xOp pyAdd (xOp pyAdd (xOp pyMulI (xVar 3) (xVar 3)) (xOp pyMulI (xC (.int 16807)) (xVar 3))) (xOp pyMulI (xOp pyAdd (xVar 2) (xC (.int 1))) (xC (.int 40692)))) (xVar 1)) aNil)) (xC (.int 2147483399)))) (sSeq (sSet 5 (xOp pyMod (xCall pyInt (aCons (xOp pyAdd (xOp pyMulI (xVar 4) (xVar 4)) (xVar 3)) aNil)) (xC (.int 2147483629)))) (sRet (xOp pyMod (xCall pyInt (aCons (xOp pyAdd (xOp pyAdd (xOp pyMulI (xVar 5) (xC (.int 2147483399))) (xOp pyMulI (xVar 4) (xC (.int 31)))) (xVar 2)) aNil)) (xC (.int 4611686014132420609)))))))))))
/-- what can stand as a script: the script itself, or a list of ints -/
inductive IsScr : PV → List Int → Prop
  | scr (ns : List Int) : IsScr (.scr ns) ns
  | lst (ns : List Int) : IsScr (.lst (ns.map .int)) ns
def lawCell (ns : List Int) (k : Int) : Int :=
  let c := if 0 < ns.length then ns.getD (k % (ns.length : Int)).toNat 0 else 0
  if c < 0 then 1 - 2 * c else c
def lawNum (ns : List Int) (k : Int) : Int :=
  let c := lawCell ns k
  if 10 ^ 9 ≤ c ∧ k < ns.length then c else
    let first := ((c + 7) * 48271 + (k + 3) * 69621) % 2147483647
    let second := (first * first + 16807 * first + (c + 1) * 40692 + k) % 2147483399
    let third := (second * second + first) % 2147483629
    (third * 2147483399 + second * 31 + c) % 4611686014132420609
theorem lawCell_nn (ns : List Int) (k : Int) : 0 ≤ lawCell ns k := by
  unfold lawCell
  simp only
  split <;> omega
theorem lawNum_nn (ns : List Int) (k : Int) : 0 ≤ lawNum ns k := by
  unfold lawNum
  simp only
  split
  · exact lawCell_nn ns k
  · exact Int.emod_nonneg _ (by decide)
theorem scr_len {p : PV} {ns : List Int} (h : IsScr p ns) : pyLen [p] = some (.int ns.length) := by
  cases h with
  | scr => rfl
  | lst => show some (PV.int ((ns.map PV.int).length : Nat)) = _; rw [List.length_map]
theorem atI_mod (ns : List Int) (k : Int) (h : 0 < ns.length) : atI ns (k % (ns.length : Int)) = some (ns.getD (k % (ns.length : Int)).toNat 0) := by
  have h1 : 0 ≤ k % (ns.length : Int) := Int.emod_nonneg _ (by omega)
  have h2 : k % (ns.length : Int) < ns.length := Int.emod_lt_of_pos _ (by omega)
  obtain ⟨j, hj⟩ := Int.eq_ofNat_of_zero_le h1
  rw [hj]
  have hl : j < ns.length := by omega
  have : ns[j]? = some (ns.getD j 0) := by
    rw [List.getElem?_eq_getElem hl]; simp [hl]
  exact atI_nat this
theorem scr_ix {p : PV} {ns : List Int} (h : IsScr p ns) (k : Int) (hl : 0 < ns.length) : pyIx p (.int (k % (ns.length : Int))) = some (.int (ns.getD (k % (ns.length : Int)).toNat 0)) := by
  cases h with
  | scr => show (atI ns _).map PV.int = _; rw [atI_mod ns k hl]; rfl
  | lst =>
    show atI (ns.map PV.int) _ = _
    have := atI_mod ns k hl
    unfold atI at this ⊢
    rw [List.length_map]
    cases e : ixN ns.length (k % (ns.length : Int)) with
    | none => rw [e] at this; cases this
    | some j => rw [e] at this; simp only [Option.bind_some] at this ⊢; rw [List.getElem?_map, this]; rfl
/-- the tail, once the cell is known -/
def kNum3 : PEnv → SR := (sSeq (sIf (bAnd (bOp pyGe (xVar 2) (xOp pyPow (xC (.int 10)) (xC (.int 9)))) (bOp pyLt (xVar 1) (xCall pyLen (aCons (xVar 0) aNil)))) (sRet (xVar 2)) .nx) (sSeq (sSet 3 (xOp pyMod (xCall pyInt (aCons (xOp pyAdd (xOp pyMulI (xOp pyAdd (xVar 2) (xC (.int 7))) (xC (.int 48271))) (xOp pyMulI (xOp pyAdd (xVar 1) (xC (.int 3))) (xC (.int 69621)))) aNil)) (xC (.int 2147483647)))) (sSeq (sSet 4 (xOp pyMod (xCall pyInt (aCons (xOp pyAdd (xOp pyAdd (xOp pyAdd (xOp pyMulI (xVar 3) (xVar 3)) (xOp pyMulI (xC (.int 16807)) (xVar 3))) (xOp pyMulI (xOp pyAdd (xVar 2) (xC (.int 1))) (xC (.int 40692)))) (xVar 1)) aNil)) (xC (.int 2147483399)))) (sSeq (sSet 5 (xOp pyMod (xCall pyInt (aCons (xOp pyAdd (xOp pyMulI (xVar 4) (xVar 4)) (xVar 3)) aNil)) (xC (.int 2147483629)))) (sRet (xOp pyMod (xCall pyInt (aCons (xOp pyAdd (xOp pyAdd (xOp pyMulI (xVar 5) (xC (.int 2147483399))) (xOp pyMulI (xVar 4) (xC (.int 31)))) (xVar 2)) aNil)) (xC (.int 4611686014132420609))))))))
theorem num3_ok {p : PV} {ns : List Int} (h : IsScr p ns) (k : Int) : endR false (kNum3 [some p, some (.int k), some (.int (lawCell ns k)), none, none, none]) = .ok (.int (lawNum ns k)) := by
  have hlen := scr_len h
  unfold kNum3 lawNum
  generalize lawCell ns k = c
  have hp : pyPow (.int 10) (.int 9) = some (.int (10 ^ 9)) := rfl
  have s1 : small64 48271 = true := rfl
  have s2 : small64 69621 = true := rfl
  have s3 : small64 16807 = true := rfl
  have s4 : small64 40692 = true := rfl
  have s5 : small64 2147483399 = true := rfl
  have s6 : small64 31 = true := rfl
  have m1 : (0 : Int) < 2147483647 := by decide
  have m2 : (0 : Int) < 2147483399 := by decide
  have m3 : (0 : Int) < 2147483629 := by decide
  have m4 : (0 : Int) < 4611686014132420609 := by decide
  have f1 : small64 (((c + 7) * 48271 + (k + 3) * 69621) % 2147483647) = true := i_small (Int.emod_nonneg _ (by decide)) (by have := Int.emod_lt_of_pos ((c + 7) * 48271 + (k + 3) * 69621) m1; omega)
  have f2 : small64 (((((c + 7) * 48271 + (k + 3) * 69621) % 2147483647) * (((c + 7) * 48271 + (k + 3) * 69621) % 2147483647) + 16807 * (((c + 7) * 48271 + (k + 3) * 69621) % 2147483647) + (c + 1) * 40692 + k) % 2147483399) = true := i_small (Int.emod_nonneg _ (by decide)) (by have := Int.emod_lt_of_pos ((((c + 7) * 48271 + (k + 3) * 69621) % 2147483647) * (((c + 7) * 48271 + (k + 3) * 69621) % 2147483647) + 16807 * (((c + 7) * 48271 + (k + 3) * 69621) % 2147483647) + (c + 1) * 40692 + k) m2; omega)
  by_cases hc : (10 : Int) ^ 9 ≤ c
  · by_cases hk : k < (ns.length : Int)
    · simp only [e_seq, e_th1, e_th2, e_th3, e_th4, e_th5, e_nx, e_set, e_ret, e_drop, e_thS1, e_thS2, e_if, e_thBt, e_thBf, e_thBe, e_op, e_ap2, e_bop, e_ap2B, e_un, e_ap1, e_call, e_apL, e_meth, e_apM, e_ty, e_cls, e_gd, e_fld, e_nil, e_cons, e_rcons, e_C, e_var, e_getP, e_use, e_bnd1, e_bnd2, e_bnz1, e_ofO, e_and, e_or, e_not, e_rand1, e_rand2, e_ror1, e_ror2, e_rnot, e_val, e_tru, e_tru0, e_xIf, e_riff1, e_riff2, e_lst, e_tup, e_rlst, e_rtup, e_for, e_forR, e_lc, e_lcR, e_iOf, e_iWith, e_asg, e_app, e_appR, e_end1, e_end2, e_end3, e_sl, e_slR, e_oN, e_oS, e_oR, List.getElem?_cons_zero, List.getElem?_cons_succ, List.set_cons_zero, List.set_cons_succ, hp, i_sub, i_add, i_lt, i_le, i_gt, i_ge, i_mulL, i_mulR, i_mod, i_fdiv, i_int, i_intB, i_eq, i_ne, hlen, hc, hk, decide_true, and_self, if_true]
    · simp only [e_seq, e_th1, e_th2, e_th3, e_th4, e_th5, e_nx, e_set, e_ret, e_drop, e_thS1, e_thS2, e_if, e_thBt, e_thBf, e_thBe, e_op, e_ap2, e_bop, e_ap2B, e_un, e_ap1, e_call, e_apL, e_meth, e_apM, e_ty, e_cls, e_gd, e_fld, e_nil, e_cons, e_rcons, e_C, e_var, e_getP, e_use, e_bnd1, e_bnd2, e_bnz1, e_ofO, e_and, e_or, e_not, e_rand1, e_rand2, e_ror1, e_ror2, e_rnot, e_val, e_tru, e_tru0, e_xIf, e_riff1, e_riff2, e_lst, e_tup, e_rlst, e_rtup, e_for, e_forR, e_lc, e_lcR, e_iOf, e_iWith, e_asg, e_app, e_appR, e_end1, e_end2, e_end3, e_sl, e_slR, e_oN, e_oS, e_oR, List.getElem?_cons_zero, List.getElem?_cons_succ, List.set_cons_zero, List.set_cons_succ, hp, i_sub, i_add, i_lt, i_le, i_gt, i_ge, i_mulL, i_mulR, i_mod, i_fdiv, i_int, i_intB, i_eq, i_ne, hlen, hc, hk, decide_true, decide_false, and_false, if_false, s1, s2, s3, s4, s5, s6, m1, m2, m3, m4, f1, f2, Bool.false_eq_true]
  · simp only [e_seq, e_th1, e_th2, e_th3, e_th4, e_th5, e_nx, e_set, e_ret, e_drop, e_thS1, e_thS2, e_if, e_thBt, e_thBf, e_thBe, e_op, e_ap2, e_bop, e_ap2B, e_un, e_ap1, e_call, e_apL, e_meth, e_apM, e_ty, e_cls, e_gd, e_fld, e_nil, e_cons, e_rcons, e_C, e_var, e_getP, e_use, e_bnd1, e_bnd2, e_bnz1, e_ofO, e_and, e_or, e_not, e_rand1, e_rand2, e_ror1, e_ror2, e_rnot, e_val, e_tru, e_tru0, e_xIf, e_riff1, e_riff2, e_lst, e_tup, e_rlst, e_rtup, e_for, e_forR, e_lc, e_lcR, e_iOf, e_iWith, e_asg, e_app, e_appR, e_end1, e_end2, e_end3, e_sl, e_slR, e_oN, e_oS, e_oR, List.getElem?_cons_zero, List.getElem?_cons_succ, List.set_cons_zero, List.set_cons_succ, hp, i_sub, i_add, i_lt, i_le, i_gt, i_ge, i_mulL, i_mulR, i_mod, i_fdiv, i_int, i_intB, i_eq, i_ne, hlen, hc, decide_true, decide_false, false_and, if_false, s1, s2, s3, s4, s5, s6, m1, m2, m3, m4, f1, f2, Bool.false_eq_true]
theorem number_ok {p : PV} {ns : List Int} (h : IsScr p ns) (k : Int) : runB false 6 2 kNumber [p, .int k] = .ok (.int (lawNum ns k)) := by
  rw [e_runB (m := 2) rfl, ← num3_ok h k]
  have hlen := scr_len h
  have s7 : small64 2 = true := rfl
  have : kNumber (mkEnv 6 [p, .int k]) = kNum3 [some p, some (.int k), some (.int (lawCell ns k)), none, none, none] := by
    unfold kNumber lawCell
    show sSeq _ (sSeq _ (sSeq _ kNum3)) [some p, some (.int k), none, none, none, none] = _
    by_cases hl : 0 < ns.length
    · have hl2 : (0 : Int) < (ns.length : Int) := by omega
      have hix := scr_ix h k hl
      by_cases hc : ns.getD (k % (ns.length : Int)).toNat 0 < 0
      · simp only [e_seq, e_th1, e_th2, e_th3, e_th4, e_th5, e_nx, e_set, e_ret, e_drop, e_thS1, e_thS2, e_if, e_thBt, e_thBf, e_thBe, e_op, e_ap2, e_bop, e_ap2B, e_un, e_ap1, e_call, e_apL, e_meth, e_apM, e_ty, e_cls, e_gd, e_fld, e_nil, e_cons, e_rcons, e_C, e_var, e_getP, e_use, e_bnd1, e_bnd2, e_bnz1, e_ofO, e_and, e_or, e_not, e_rand1, e_rand2, e_ror1, e_ror2, e_rnot, e_val, e_tru, e_tru0, e_xIf, e_riff1, e_riff2, e_lst, e_tup, e_rlst, e_rtup, e_for, e_forR, e_lc, e_lcR, e_iOf, e_iWith, e_asg, e_app, e_appR, e_end1, e_end2, e_end3, e_sl, e_slR, e_oN, e_oS, e_oR, List.getElem?_cons_zero, List.getElem?_cons_succ, List.set_cons_zero, List.set_cons_succ, i_sub, i_add, i_lt, i_le, i_gt, i_ge, i_mulL, i_mulR, i_mod, i_fdiv, i_int, i_intB, i_eq, i_ne, hlen, hl, hl2, hc, hix, decide_true, if_true, s7]
      · simp only [e_seq, e_th1, e_th2, e_th3, e_th4, e_th5, e_nx, e_set, e_ret, e_drop, e_thS1, e_thS2, e_if, e_thBt, e_thBf, e_thBe, e_op, e_ap2, e_bop, e_ap2B, e_un, e_ap1, e_call, e_apL, e_meth, e_apM, e_ty, e_cls, e_gd, e_fld, e_nil, e_cons, e_rcons, e_C, e_var, e_getP, e_use, e_bnd1, e_bnd2, e_bnz1, e_ofO, e_and, e_or, e_not, e_rand1, e_rand2, e_ror1, e_ror2, e_rnot, e_val, e_tru, e_tru0, e_xIf, e_riff1, e_riff2, e_lst, e_tup, e_rlst, e_rtup, e_for, e_forR, e_lc, e_lcR, e_iOf, e_iWith, e_asg, e_app, e_appR, e_end1, e_end2, e_end3, e_sl, e_slR, e_oN, e_oS, e_oR, List.getElem?_cons_zero, List.getElem?_cons_succ, List.set_cons_zero, List.set_cons_succ, i_sub, i_add, i_lt, i_le, i_gt, i_ge, i_mulL, i_mulR, i_mod, i_fdiv, i_int, i_intB, i_eq, i_ne, hlen, hl, hl2, hc, hix, decide_true, decide_false, if_true, if_false, s7]
    · have hl2 : ¬ (0 : Int) < (ns.length : Int) := by omega
      simp only [e_seq, e_th1, e_th2, e_th3, e_th4, e_th5, e_nx, e_set, e_ret, e_drop, e_thS1, e_thS2, e_if, e_thBt, e_thBf, e_thBe, e_op, e_ap2, e_bop, e_ap2B, e_un, e_ap1, e_call, e_apL, e_meth, e_apM, e_ty, e_cls, e_gd, e_fld, e_nil, e_cons, e_rcons, e_C, e_var, e_getP, e_use, e_bnd1, e_bnd2, e_bnz1, e_ofO, e_and, e_or, e_not, e_rand1, e_rand2, e_ror1, e_ror2, e_rnot, e_val, e_tru, e_tru0, e_xIf, e_riff1, e_riff2, e_lst, e_tup, e_rlst, e_rtup, e_for, e_forR, e_lc, e_lcR, e_iOf, e_iWith, e_asg, e_app, e_appR, e_end1, e_end2, e_end3, e_sl, e_slR, e_oN, e_oS, e_oR, List.getElem?_cons_zero, List.getElem?_cons_succ, List.set_cons_zero, List.set_cons_succ, i_sub, i_add, i_lt, i_le, i_gt, i_ge, i_mulL, i_mulR, i_mod, i_fdiv, i_int, i_intB, i_eq, i_ne, hlen, hl, hl2, decide_false, if_false, show ¬ ((0 : Int) < 0) by decide]
  rw [this]
end D
end

section
set_option Elab.async false
set_option linter.all false
set_option maxRecDepth 100000
set_option maxHeartbeats 1000000
namespace D
open PySem PySem.Spec PyProof.Rows L2
open SX (S)
/-! ### texts by their signs -/
theorem szl : sizeLine = 16777216 := rfl
theorem s_len {l : List Nat} (h : l.length ≤ 16777216) : pyLen [.str (S l)] = some (.int l.length) := by
  show (if (S l).length ≤ sizeLine then some (PV.int ((S l).length : Nat)) else none) = _
  rw [SX.S_len, if_pos (by rw [szl]; exact h)]
theorem s_ix {l : List Nat} {i : Nat} {c : Nat} (h : l.length ≤ 16777216) (hi : l[i]? = some c) : pyIx (.str (S l)) (.int (i : Int)) = some (.str (S [c])) := by
  show (if (S l).length ≤ sizeLine then (atI l (i : Int)).map fun c => PV.str ⟨#[c]⟩ else none) = _
  rw [SX.S_len, if_pos (by rw [szl]; exact h), atI_nat hi]
  rfl
theorem s_in {c : Nat} {z : Str} : tr1 pyInSign (.str (S [c])) (.str z) = some (decide (c ∈ z.cps.toList)) := rfl
/-- a text that can be weighed -/
def okS (x : Str) : Prop := PyData.canLay0 (.str x) = true
theorem okS_of {l : List Nat} (h : ∀ c ∈ l, c < 0x110000) : okS (S l) := by
  unfold okS PyData.canLay0 PyData.strOk
  rw [← Array.all_toList]
  exact List.all_eq_true.mpr fun c hc => decide_eq_true (h c hc)
theorem shS {x : Str} (h : okS x) : SeqAt.shaped (.str x) = true := by
  unfold SeqAt.shaped PyData.depth
  rw [h]; rfl
theorem s_eq {a b : Str} (ha : okS a) (hb : okS b) : tr1 pyEq (.str a) (.str b) = some (decide (a = b)) := by
  unfold tr1 pyEq toD
  simp only [Option.bind_some, shS ha, shS hb, and_self, if_true]
  unfold PyData.eqv
  by_cases h : a = b
  · rw [decide_eq_true h, h, beq_self_eq_true]
  · rw [decide_eq_false h, beq_eq_false_iff_ne.mpr h]
theorem s_ne {a b : Str} (ha : okS a) (hb : okS b) : tr1 pyNe (.str a) (.str b) = some (!decide (a = b)) := by
  unfold tr1 pyNe toD
  simp only [Option.bind_some, shS ha, shS hb, and_self, if_true]
  unfold PyData.eqv
  by_cases h : a = b
  · rw [decide_eq_true h, h, beq_self_eq_true]
  · rw [decide_eq_false h, beq_eq_false_iff_ne.mpr h]
theorem x_ne {a b : Str} (ha : okS a) (hb : okS b) : pyNe (.str a) (.str b) = some (.bl (!decide (a = b))) := by
  unfold pyNe toD
  simp only [Option.bind_some, shS ha, shS hb, and_self, if_true]
  unfold PyData.eqv
  by_cases h : a = b
  · rw [decide_eq_true h, h, beq_self_eq_true]
  · rw [decide_eq_false h, beq_eq_false_iff_ne.mpr h]
theorem toDs_ints : ∀ ns : List Int, toDs (ns.map .int) = some (ns.map .int)
  | [] => rfl
  | n :: ns => by
    show (toD (.int n)).bind (fun d => (toDs (ns.map .int)).map fun ds => d :: ds) = _
    rw [toDs_ints ns]; rfl
theorem lay_ints : ∀ ns : List Int, PyData.canLayAll0 (ns.map .int) = true
  | [] => by simp only [List.map_nil, PyData.canLayAll0]
  | n :: ns => by simp only [List.map_cons, PyData.canLayAll0, PyData.canLay0, lay_ints ns, Bool.and_self]
theorem dep_ints : ∀ ns : List Int, PyData.depthAll (ns.map .int) = 0
  | [] => by simp only [List.map_nil, PyData.depthAll]
  | n :: ns => by simp only [List.map_cons, PyData.depthAll, PyData.depth, dep_ints ns]; rfl
theorem sh_ints (ns : List Int) : SeqAt.shaped (.tuple (ns.map .int)) = true := by
  unfold SeqAt.shaped PyData.canLay0 PyData.depth
  rw [lay_ints, dep_ints]; rfl
theorem eqv_ints (ns : List Int) : PyData.eqv (.tuple (ns.map .int)) (.tuple (ns.map .int)) = true := SeqAt.eqv_refl _ (by unfold PyData.canLay0; exact lay_ints ns)
theorem t_ne_self (ns : List Int) : tr1 pyNe (.tup (ns.map .int)) (.tup (ns.map .int)) = some false := by
  unfold tr1 pyNe toD
  rw [toDs_ints]
  simp only [Option.map_some, Option.bind_some, sh_ints, and_self, if_true, eqv_ints, Bool.not_true]
theorem s_eqS {a b : List Nat} : (S a = S b) = (a = b) := propext ⟨SX.S_inj, fun h => by rw [h]⟩
theorem s_cat {a b : List Nat} (h : a.length + b.length ≤ 16777216) : pyAdd (.str (S a)) (.str (S b)) = some (.str (S (a ++ b))) := by
  show (if (S a).length + (S b).length ≤ sizeLine then some (PV.str (S a ++ S b)) else none) = _
  rw [SX.S_len, SX.S_len, if_pos (by rw [szl]; exact h), SX.S_cat]
theorem s_slc {l : List Nat} {i j : Nat} (h : l.length ≤ 16777216) (hi : i ≤ l.length) (hj : j ≤ l.length) : pySl (.str (S l)) (some (i : Int)) (some (j : Int)) = some (.str (S ((l.drop i).take (j - i)))) := by
  show (if (S l).length ≤ sizeLine then some (PV.str (cutS (S l) _ _)) else none) = _
  rw [SX.S_len, if_pos (by rw [szl]; exact h)]
  unfold cutS
  rw [SX.S_len, HT.sIx_nat, HT.sIx_nat, Nat.min_eq_left hi, Nat.min_eq_left hj]
theorem log2_le {n k : Nat} (h : n < 10 ^ k) (hk : k ≤ 400) : n.log2 < 1920 := by
  rcases Nat.eq_zero_or_pos n with h0 | h0
  · subst h0; decide
  · have h1 : n < 2 ^ 1920 := Nat.lt_of_lt_of_le h (Nat.le_trans (Nat.pow_le_pow_right (by decide) hk) (by decide +kernel))
    exact (Nat.log2_lt (by omega)).mpr h1
theorem s_str {n k : Nat} (h : n < 10 ^ k) (hk : k ≤ 400) : pyStr [.int (n : Int)] = some (.str (S (TL.numL n))) := by
  show (if (n : Int).natAbs.log2 < 1920 then some (PV.str (Str.ofString (toString (n : Int)))) else none) = _
  rw [Int.natAbs_natCast, if_pos (log2_le h hk), SX.num_S]
theorem numL_len' {n k : Nat} (h : n < 10 ^ k) (hk : 0 < k) : (TL.numL n).length ≤ k := TL.numL_len hk h
theorem s_int {n : Nat} (h : (TL.numL n).length ≤ 640) : pyInt [.str (S (TL.numL n))] = some (.int n) := by
  show (if (S (TL.numL n)).length ≤ 640 then (PySem.intText? (S (TL.numL n))).map PV.int else none) = _
  rw [SX.S_len, if_pos h, ← SX.num_S, TL.int_num (by omega)]
  rfl
end D
end

section
set_option Elab.async false
set_option linter.all false
set_option maxRecDepth 100000
set_option maxHeartbeats 1000000
open PySem PySem.Spec PyProof.Rows L2
namespace Q_k06
open D
open SX (S)
theorem digs : (("0123456789" : Str)).cps.toList = [48,49,50,51,52,53,54,55,56,57] := by
  exact (TL.tl_ofString _).trans rfl
theorem numL_zero : ∀ n : Nat, (TL.numL n).head? = some 48 → n = 0 := by
  intro n
  induction n using Nat.strongRecOn with
  | _ n ih =>
    intro h
    rcases Nat.lt_or_ge n 10 with q | q
    · rw [TL.numL_lt q] at h
      simp only [List.head?_cons, Option.some.injEq] at h
      omega
    · rw [TL.numL_step q] at h
      have h2 : (TL.numL (n / 10)).head? = some 48 := by
        rcases hh : TL.numL (n / 10) with _ | ⟨c, l⟩
        · exact absurd hh (TL.numL_ne _)
        · rw [hh] at h; exact h
      have := ih (n / 10) (by omega) h2
      omega
theorem dig_in {c : Nat} : c ∈ (("0123456789" : Str)).cps.toList ↔ 48 ≤ c ∧ c ≤ 57 := by
  rw [digs]; simp only [List.mem_cons, List.not_mem_nil, or_false]; omega
theorem na_while (X : List Nat) (a L : Nat) (hX : X.length ≤ 16777216) (hd : ∀ i, i < L → ∃ c, X[a + i]? = some c ∧ 48 ≤ c ∧ c ≤ 57)
    (he : X.length ≤ a + L ∨ ∃ c, X[a + L]? = some c ∧ ¬ (48 ≤ c ∧ c ≤ 57)) : ∀ m i : Nat, i + m = L →
    sWhile (bAnd (bOp pyLt (xVar 2) (xCall pyLen (aCons (xVar 0) aNil))) (bOp pyInSign (xOp pyIx (xVar 0) (xVar 2)) (xC (.str "0123456789")))) (sSet 2 (xOp pyAdd (xVar 2) (xC (.int 1))))
      [some (.str (S X)), some (.int a), some (.int ((a + i : Nat) : Int))] = .nx [some (.str (S X)), some (.int a), some (.int ((a + L : Nat) : Int))]
  | 0, i, hi => by
    obtain rfl : i = L := by omega
    rw [sWhile_eq]
    rcases he with he | ⟨c, hc, hn⟩
    · have : ¬ (((a + i : Nat) : Int) < (X.length : Int)) := by omega
      simp only [e_seq, e_th1, e_th2, e_th3, e_th4, e_th5, e_nx, e_set, e_ret, e_drop, e_thS1, e_thS2, e_if, e_thBt, e_thBf, e_thBe, e_op, e_ap2, e_bop, e_ap2B, e_un, e_ap1, e_call, e_apL, e_meth, e_apM, e_ty, e_cls, e_gd, e_fld, e_nil, e_cons, e_rcons, e_C, e_var, e_getP, e_use, e_bnd1, e_bnd2, e_bnz1, e_ofO, e_and, e_or, e_not, e_rand1, e_rand2, e_ror1, e_ror2, e_rnot, e_val, e_tru, e_tru0, e_xIf, e_riff1, e_riff2, e_lst, e_tup, e_rlst, e_rtup, e_for, e_forR, e_lc, e_lcR, e_iOf, e_iWith, e_asg, e_app, e_appR, e_end1, e_end2, e_end3, e_sl, e_slR, e_oN, e_oS, e_oR, List.getElem?_cons_zero, List.getElem?_cons_succ, List.set_cons_zero, List.set_cons_succ, i_lt, s_len hX, this, decide_false]
    · have h1 : a + i < X.length := (List.getElem?_eq_some_iff.mp hc).1
      have h2 : (((a + i : Nat) : Int) < (X.length : Int)) := by omega
      have h3 : ¬ c ∈ (("0123456789" : Str)).cps.toList := fun h => hn (dig_in.mp h)
      simp only [e_seq, e_th1, e_th2, e_th3, e_th4, e_th5, e_nx, e_set, e_ret, e_drop, e_thS1, e_thS2, e_if, e_thBt, e_thBf, e_thBe, e_op, e_ap2, e_bop, e_ap2B, e_un, e_ap1, e_call, e_apL, e_meth, e_apM, e_ty, e_cls, e_gd, e_fld, e_nil, e_cons, e_rcons, e_C, e_var, e_getP, e_use, e_bnd1, e_bnd2, e_bnz1, e_ofO, e_and, e_or, e_not, e_rand1, e_rand2, e_ror1, e_ror2, e_rnot, e_val, e_tru, e_tru0, e_xIf, e_riff1, e_riff2, e_lst, e_tup, e_rlst, e_rtup, e_for, e_forR, e_lc, e_lcR, e_iOf, e_iWith, e_asg, e_app, e_appR, e_end1, e_end2, e_end3, e_sl, e_slR, e_oN, e_oS, e_oR, List.getElem?_cons_zero, List.getElem?_cons_succ, List.set_cons_zero, List.set_cons_succ, i_lt, s_len hX, h2, decide_true, s_ix hX hc, s_in, h3, decide_false]
  | m + 1, i, hi => by
    rw [sWhile_eq]
    obtain ⟨c, hc, hn⟩ := hd i (by omega)
    have h1 : a + i < X.length := (List.getElem?_eq_some_iff.mp hc).1
    have h2 : (((a + i : Nat) : Int) < (X.length : Int)) := by omega
    have h3 : c ∈ (("0123456789" : Str)).cps.toList := dig_in.mpr hn
    have ih := na_while X a L hX hd he m (i + 1) (by omega)
    have e : ((a + i : Nat) : Int) + 1 = ((a + (i + 1) : Nat) : Int) := by omega
    simp only [e_seq, e_th1, e_th2, e_th3, e_th4, e_th5, e_nx, e_set, e_ret, e_drop, e_thS1, e_thS2, e_if, e_thBt, e_thBf, e_thBe, e_op, e_ap2, e_bop, e_ap2B, e_un, e_ap1, e_call, e_apL, e_meth, e_apM, e_ty, e_cls, e_gd, e_fld, e_nil, e_cons, e_rcons, e_C, e_var, e_getP, e_use, e_bnd1, e_bnd2, e_bnz1, e_ofO, e_and, e_or, e_not, e_rand1, e_rand2, e_ror1, e_ror2, e_rnot, e_val, e_tru, e_tru0, e_xIf, e_riff1, e_riff2, e_lst, e_tup, e_rlst, e_rtup, e_for, e_forR, e_lc, e_lcR, e_iOf, e_iWith, e_asg, e_app, e_appR, e_end1, e_end2, e_end3, e_sl, e_slR, e_oN, e_oS, e_oR, List.getElem?_cons_zero, List.getElem?_cons_succ, List.set_cons_zero, List.set_cons_succ, i_lt, i_add, s_len hX, h2, decide_true, s_ix hX hc, s_in, h3, e, ih]
theorem getElem_mid {p q r : List Nat} {i : Nat} (h : i < q.length) : (p ++ (q ++ r))[p.length + i]? = q[i]? := by
  rw [List.getElem?_append_right (by omega), Nat.add_sub_cancel_left, List.getElem?_append_left h]
theorem na_ok (p r : List Nat) (n : Nat) (hn : n < 10 ^ 31) (hX : (p ++ (TL.numL n ++ r)).length ≤ 16777216) (hr : r = [] ∨ ∃ q, r = 32 :: q) :
    d_number_at [.str (S (p ++ (TL.numL n ++ r))), .int p.length] = .ok (.tup [.int n, .int ((p.length + (TL.numL n).length : Nat) : Int)]) := by
  have hl : (TL.numL n).length ≤ 31 := TL.numL_len (by decide) hn
  have hne : TL.numL n ≠ [] := TL.numL_ne n
  have hl0 : 0 < (TL.numL n).length := List.length_pos_iff.mpr hne
  have hdig := TL.numL_digits n
  generalize hXX : p ++ (TL.numL n ++ r) = X at hX
  have hlen : X.length = p.length + (TL.numL n).length + r.length := by rw [← hXX]; simp only [List.length_append]; omega
  have hd : ∀ i, i < (TL.numL n).length → ∃ c, X[p.length + i]? = some c ∧ 48 ≤ c ∧ c ≤ 57 := fun i hi => by
    refine ⟨(TL.numL n)[i], by rw [← hXX, getElem_mid hi, List.getElem?_eq_getElem hi], ?_⟩
    exact hdig _ (List.getElem_mem hi)
  have he : X.length ≤ p.length + (TL.numL n).length ∨ ∃ c, X[p.length + (TL.numL n).length]? = some c ∧ ¬ (48 ≤ c ∧ c ≤ 57) := by
    rcases hr with rfl | ⟨q, rfl⟩
    · left; rw [hlen]; simp
    · right
      refine ⟨32, ?_, by omega⟩
      rw [← hXX, List.getElem?_append_right (by omega), Nat.add_sub_cancel_left, List.getElem?_append_right (by omega), Nat.sub_self]
      rfl
  have hw := na_while X p.length (TL.numL n).length hX hd he (TL.numL n).length 0 (by omega)
  rw [Nat.add_zero] at hw
  show runB false 3 2 k_number_at _ = _
  rw [e_runB (m := 2) rfl]
  show endR false (k_number_at [some (.str (S X)), some (.int p.length), none]) = _
  have h0 : ∃ c, X[p.length]? = some c ∧ (c = 48 → (TL.numL n).length = 1) := by
    obtain ⟨c, l, hc⟩ := List.exists_cons_of_ne_nil hne
    refine ⟨c, ?_, fun h => ?_⟩
    · have := getElem_mid (p := p) (r := r) hl0
      rw [Nat.add_zero, hXX] at this
      rw [this, hc]; rfl
    · have hz := numL_zero n (by rw [hc, h]; rfl)
      rw [hz]; rfl
  obtain ⟨c, hc, hc0⟩ := h0
  have e1 : ¬ (((p.length + (TL.numL n).length : Nat) : Int) = (p.length : Int)) := by omega
  have hc32 : c < 1114112 := by
    have := hd 0 hl0
    rw [Nat.add_zero] at this
    obtain ⟨d, h1, h2⟩ := this
    rw [hc] at h1; cases h1; omega
  have o1 : okS (S [c]) := okS_of fun d hd => by rw [List.mem_singleton.mp hd]; exact hc32
  have o2 : okS (("0" : Str)) := by
    rw [show (("0" : Str)) = S [48] from TL.ext_tl ((TL.tl_ofString _).trans rfl)]
    exact okS_of fun d hd => by rw [List.mem_singleton.mp hd]; decide
  have e2 : tr1 pyEq (.str (S [c])) (.str "0") = some (decide (c = 48)) := by
    rw [s_eq o1 o2]
    congr 1
    refine decide_eq_decide.mpr ?_
    rw [show (("0" : Str)) = S [48] from TL.ext_tl ((TL.tl_ofString _).trans rfl), s_eqS]
    exact ⟨fun h => (List.cons.inj h).1, fun h => by rw [h]⟩
  have e3 : ¬ ((31 : Int) < ((p.length + (TL.numL n).length : Nat) : Int) - (p.length : Int)) := by omega
  have hs : (X.drop p.length).take ((p.length + (TL.numL n).length) - p.length) = TL.numL n := by
    rw [← hXX, List.drop_left, Nat.add_sub_cancel_left, List.take_left]
  have e4 := s_slc hX (show p.length ≤ X.length by omega) (show p.length + (TL.numL n).length ≤ X.length by omega)
  rw [hs] at e4
  have e5 : pyInt [.str (S (TL.numL n))] = some (.int n) := s_int (by omega)
  have e7 : (2 : Nat) ≤ sizeLine := by decide
  unfold k_number_at
  by_cases h48 : c = 48
  · have e6 : ¬ ((p.length : Int) + 1 < ((p.length + (TL.numL n).length : Nat) : Int)) := by rw [hc0 h48]; omega
    rw [decide_eq_true h48] at e2
    simp only [e_seq, e_th1, e_th2, e_th3, e_th4, e_th5, e_nx, e_set, e_ret, e_drop, e_thS1, e_thS2, e_if, e_thBt, e_thBf, e_thBe, e_op, e_ap2, e_bop, e_ap2B, e_un, e_ap1, e_call, e_apL, e_meth, e_apM, e_ty, e_cls, e_gd, e_fld, e_nil, e_cons, e_rcons, e_C, e_var, e_getP, e_use, e_bnd1, e_bnd2, e_bnz1, e_ofO, e_and, e_or, e_not, e_rand1, e_rand2, e_ror1, e_ror2, e_rnot, e_val, e_tru, e_tru0, e_xIf, e_riff1, e_riff2, e_lst, e_tup, e_rlst, e_rtup, e_for, e_forR, e_lc, e_lcR, e_iOf, e_iWith, e_asg, e_app, e_appR, e_end1, e_end2, e_end3, e_sl, e_slR, e_oN, e_oS, e_oR, List.getElem?_cons_zero, List.getElem?_cons_succ, List.set_cons_zero, List.set_cons_succ, i_sub, i_add, i_lt, i_le, i_gt, i_ge, i_mulL, i_mulR, i_mod, i_fdiv, i_int, i_intB, i_eq, i_ne, hw, e1, decide_false, s_ix hX hc, e2, e6, e3, e4, e5, List.length_cons, List.length_nil, Nat.zero_add, Nat.reduceAdd, e7, if_true]
  · simp only [e_seq, e_th1, e_th2, e_th3, e_th4, e_th5, e_nx, e_set, e_ret, e_drop, e_thS1, e_thS2, e_if, e_thBt, e_thBf, e_thBe, e_op, e_ap2, e_bop, e_ap2B, e_un, e_ap1, e_call, e_apL, e_meth, e_apM, e_ty, e_cls, e_gd, e_fld, e_nil, e_cons, e_rcons, e_C, e_var, e_getP, e_use, e_bnd1, e_bnd2, e_bnz1, e_ofO, e_and, e_or, e_not, e_rand1, e_rand2, e_ror1, e_ror2, e_rnot, e_val, e_tru, e_tru0, e_xIf, e_riff1, e_riff2, e_lst, e_tup, e_rlst, e_rtup, e_for, e_forR, e_lc, e_lcR, e_iOf, e_iWith, e_asg, e_app, e_appR, e_end1, e_end2, e_end3, e_sl, e_slR, e_oN, e_oS, e_oR, List.getElem?_cons_zero, List.getElem?_cons_succ, List.set_cons_zero, List.set_cons_succ, i_sub, i_add, i_lt, i_le, i_gt, i_ge, i_mulL, i_mulR, i_mod, i_fdiv, i_int, i_intB, i_eq, i_ne, hw, e1, decide_false, s_ix hX hc, e2, h48, e3, e4, e5, List.length_cons, List.length_nil, Nat.zero_add, Nat.reduceAdd, e7, if_true]
/-- the list of heaps, written -/
def wr (hs : List Nat) : List Nat := TL.joinL [32] (hs.map TL.numL)
def hp (hs : List Nat) : List PV := (hs.map (fun n : Nat => (n : Int))).map PV.int
theorem comp_str : ∀ (hs : List Nat) (e : PEnv) (o q : Option PV), (∀ n ∈ hs, n < 10 ^ 31) →
    compL (bName 1) bYes (xCall pyStr (aCons (xVar 1) aNil)) [o, q] (hp hs) = .ok (hs.map fun n => .str (S (TL.numL n)))
  | [], _, _, _, _ => rfl
  | n :: hs, e, o, q, h => by
    show compL _ _ _ _ (.int (n : Int) :: hp hs) = _
    have hn : n < 10 ^ 31 := h n (List.mem_cons_self ..)
    have ih := comp_str hs e o q (fun m hm => h m (List.mem_cons_of_mem _ hm))
    unfold compL
    simp only [bName, bYes, e_seq, e_th1, e_th2, e_th3, e_th4, e_th5, e_nx, e_set, e_ret, e_drop, e_thS1, e_thS2, e_if, e_thBt, e_thBf, e_thBe, e_op, e_ap2, e_bop, e_ap2B, e_un, e_ap1, e_call, e_apL, e_meth, e_apM, e_ty, e_cls, e_gd, e_fld, e_nil, e_cons, e_rcons, e_C, e_var, e_getP, e_use, e_bnd1, e_bnd2, e_bnz1, e_ofO, e_and, e_or, e_not, e_rand1, e_rand2, e_ror1, e_ror2, e_rnot, e_val, e_tru, e_tru0, e_xIf, e_riff1, e_riff2, e_lst, e_tup, e_rlst, e_rtup, e_for, e_forR, e_lc, e_lcR, e_iOf, e_iWith, e_asg, e_app, e_appR, e_end1, e_end2, e_end3, e_sl, e_slR, e_oN, e_oS, e_oR, List.getElem?_cons_zero, List.getElem?_cons_succ, List.set_cons_zero, List.set_cons_succ, s_str hn (show (31 : Nat) ≤ 400 by decide), ih, if_true, List.map_cons]
theorem strs_nums : ∀ hs : List Nat, strsOf (hs.map fun n => .str (S (TL.numL n))) = some ((hs.map TL.numL).map S)
  | [] => rfl
  | n :: hs => by
    show (strsOf (hs.map fun n => .str (S (TL.numL n)))).map (S (TL.numL n) :: ·) = _
    rw [strs_nums hs]; rfl
theorem sum_le : ∀ (ls : List (List Nat)) (k : Nat), (∀ l ∈ ls, l.length ≤ k) → (ls.map (·.length)).sum ≤ ls.length * k
  | [], _, _ => by simp
  | l :: ls, k, h => by
    have h1 := h l (List.mem_cons_self ..)
    have h2 := sum_le ls k fun m hm => h m (List.mem_cons_of_mem _ hm)
    simp only [List.map_cons, List.sum_cons, List.length_cons, Nat.succ_mul]
    omega
theorem space : (" " : Str) = S [32] := TL.ext_tl ((TL.tl_ofString _).trans rfl)
theorem empty : ("" : Str) = S [] := TL.ext_tl ((TL.tl_ofString _).trans rfl)
theorem wh_ok (hs : List Nat) (h : ∀ n ∈ hs, n < 10 ^ 31) (hl : hs.length ≤ 100) : d_write_heaps [.tup (hp hs)] = .ok (.str (S (wr hs))) := by
  show runB false 2 1 k_write_heaps _ = _
  rw [e_runB (m := 1) rfl]
  show endR false (k_write_heaps [some (.tup (hp hs)), none]) = _
  unfold k_write_heaps
  have e0 : (hp hs).length ≤ 16777216 := by unfold hp; rw [List.length_map, List.length_map]; omega
  have e1 := i_itT e0
  have e2 : (hp hs).length ≤ sizeLine := e0
  have e4 : pyJoin (.str " ") [.lst (hs.map fun n => .str (S (TL.numL n)))] = some (.str (S (wr hs))) := by
    unfold pyJoin
    simp only [strs_nums, Option.bind_some]
    rw [if_pos]
    · rw [space, SX.join_S]; rfl
    · rw [SX.lens, space, SX.S_len]
      have h1 := sum_le (hs.map TL.numL) 31 (fun l hl => by
        obtain ⟨n, hn, rfl⟩ := List.mem_map.mp hl
        exact TL.numL_len (by decide) (h n hn))
      simp only [List.length_map, List.length_cons, List.length_nil] at h1 ⊢
      omega
  simp only [e_seq, e_th1, e_th2, e_th3, e_th4, e_th5, e_nx, e_set, e_ret, e_drop, e_thS1, e_thS2, e_if, e_thBt, e_thBf, e_thBe, e_op, e_ap2, e_bop, e_ap2B, e_un, e_ap1, e_call, e_apL, e_meth, e_apM, e_ty, e_cls, e_gd, e_fld, e_nil, e_cons, e_rcons, e_C, e_var, e_getP, e_use, e_bnd1, e_bnd2, e_bnz1, e_ofO, e_and, e_or, e_not, e_rand1, e_rand2, e_ror1, e_ror2, e_rnot, e_val, e_tru, e_tru0, e_xIf, e_riff1, e_riff2, e_lst, e_tup, e_rlst, e_rtup, e_for, e_forR, e_lc, e_lcR, e_iOf, e_iWith, e_asg, e_app, e_appR, e_end1, e_end2, e_end3, e_sl, e_slR, e_oN, e_oS, e_oR, List.getElem?_cons_zero, List.getElem?_cons_succ, List.set_cons_zero, List.set_cons_succ, e1, e2, i_ty, if_true, wipeE, comp_str hs [] _ _ h, e4]
def tlw : List Nat → List Nat
  | [] => []
  | m :: ms => 32 :: (TL.numL m ++ tlw ms)
theorem wr_cons : ∀ (n : Nat) (ms : List Nat), wr (n :: ms) = TL.numL n ++ tlw ms
  | n, [] => by show TL.numL n = _; simp [tlw]
  | n, m :: ms => by
    have := wr_cons m ms
    show TL.numL n ++ ([32] ++ wr (m :: ms)) = _
    rw [this]; rfl
theorem tlw_len : ∀ ms : List Nat, (∀ n ∈ ms, n < 10 ^ 31) → (tlw ms).length ≤ 32 * ms.length
  | [], _ => by simp [tlw]
  | m :: ms, h => by
    have h1 : (TL.numL m).length ≤ 31 := TL.numL_len (by decide) (h m (List.mem_cons_self ..))
    have h2 := tlw_len ms fun k hk => h k (List.mem_cons_of_mem _ hk)
    simp only [tlw, List.length_cons, List.length_append]
    omega
theorem tlw_shape : ∀ ms : List Nat, tlw ms = [] ∨ ∃ q, tlw ms = 32 :: q
  | [] => .inl rfl
  | _ :: _ => .inr ⟨_, rfl⟩
theorem rh_while (X : List Nat) (hX : X.length ≤ 16777216) : ∀ (ms : List Nat) (p : List Nat) (done : List PV) (h : Option PV), X = p ++ tlw ms → (∀ n ∈ ms, n < 10 ^ 31) → done.length + ms.length ≤ 1000 → ∃ h',
    sWhile (bOp pyLt (xVar 2) (xCall pyLen (aCons (xVar 0) aNil))) (sSeq (sIf (bOp pyNe (xOp pyIx (xVar 0) (xVar 2)) (xC (.str " "))) (fun _ => .bad) .nx) (sSeq (sAsg (xUse d_number_at (aCons (xVar 0) (aCons (xOp pyAdd (xVar 2) (xC (.int 1))) aNil))) (bTup 2 (bCons (bName 1) (bCons (bName 2) bNil)))) (sApp 3 (xVar 1))))
      [some (.str (S X)), h, some (.int p.length), some (.lst done)] = .nx [some (.str (S X)), h', some (.int X.length), some (.lst (done ++ hp ms))]
  | [], p, done, h, hx, _, _ => by
    have : p = X := by rw [hx]; simp [tlw]
    subst this
    refine ⟨h, ?_⟩
    rw [sWhile_eq]
    have e1 : ¬ ((p.length : Int) < p.length) := by omega
    simp only [e_seq, e_th1, e_th2, e_th3, e_th4, e_th5, e_nx, e_set, e_ret, e_drop, e_thS1, e_thS2, e_if, e_thBt, e_thBf, e_thBe, e_op, e_ap2, e_bop, e_ap2B, e_un, e_ap1, e_call, e_apL, e_meth, e_apM, e_ty, e_cls, e_gd, e_fld, e_nil, e_cons, e_rcons, e_C, e_var, e_getP, e_use, e_bnd1, e_bnd2, e_bnz1, e_ofO, e_and, e_or, e_not, e_rand1, e_rand2, e_ror1, e_ror2, e_rnot, e_val, e_tru, e_tru0, e_xIf, e_riff1, e_riff2, e_lst, e_tup, e_rlst, e_rtup, e_for, e_forR, e_lc, e_lcR, e_iOf, e_iWith, e_asg, e_app, e_appR, e_end1, e_end2, e_end3, e_sl, e_slR, e_oN, e_oS, e_oR, List.getElem?_cons_zero, List.getElem?_cons_succ, List.set_cons_zero, List.set_cons_succ, i_sub, i_add, i_lt, i_le, i_gt, i_ge, i_mulL, i_mulR, i_mod, i_fdiv, i_int, i_intB, i_eq, i_ne, s_len hX, e1, decide_false, hp, List.map_nil, List.append_nil]
  | m :: ms, p, done, h, hx, hm, hl => by
    have hm1 := hm m (List.mem_cons_self ..)
    have hm2 : ∀ n ∈ ms, n < 10 ^ 31 := fun k hk => hm k (List.mem_cons_of_mem _ hk)
    have hl2 : done.length + (ms.length + 1) ≤ 1000 := hl
    have hx2 : X = (p ++ [32] ++ TL.numL m) ++ tlw ms := by rw [hx]; simp [tlw]
    obtain ⟨h', ih⟩ := rh_while X hX ms (p ++ [32] ++ TL.numL m) (done ++ [.int m]) (some (.int m)) hx2 hm2 (by rw [List.length_append]; simp only [List.length_cons, List.length_nil]; omega)
    refine ⟨h', ?_⟩
    have hlt : (p.length : Int) < (X.length : Int) := by rw [hx]; simp only [tlw, List.length_append, List.length_cons]; omega
    have hix : X[p.length]? = some 32 := by rw [hx, List.getElem?_append_right (by omega), Nat.sub_self]; rfl
    have hna := na_ok (p ++ [32]) (tlw ms) m hm1 (by rw [← List.append_assoc, ← hx2]; exact hX) (tlw_shape ms)
    rw [← List.append_assoc, ← hx2] at hna
    have e1 : (p.length : Int) + 1 = ((p ++ [32]).length : Nat) := by rw [List.length_append]; rfl
    have e2 : ((p ++ [32]).length + (TL.numL m).length : Nat) = (p ++ [32] ++ TL.numL m).length := (List.length_append ..).symm
    rw [e2] at hna
    have o1 : okS (S [32]) := okS_of fun d hd => by rw [List.mem_singleton.mp hd]; decide
    have e3 : tr1 pyNe (.str (S [32])) (.str " ") = some false := by rw [space, s_ne o1 o1, decide_eq_true rfl]; rfl
    have e4 : bTup 2 (bCons (bName 1) (bCons (bName 2) bNil)) (.tup [.int m, .int ((p ++ [32] ++ TL.numL m).length : Nat)]) [some (.str (S X)), h, some (.int p.length), some (.lst done)] = some [some (.str (S X)), some (.int m), some (.int ((p ++ [32] ++ TL.numL m).length : Nat)), some (.lst done)] := rfl
    have e5 : done.length < sizeLine := by rw [szl]; omega
    have e6 : done ++ hp (m :: ms) = (done ++ [.int m]) ++ hp ms := by rw [List.append_assoc]; rfl
    rw [sWhile_eq, e6]
    simp only [e_seq, e_th1, e_th2, e_th3, e_th4, e_th5, e_nx, e_set, e_ret, e_drop, e_thS1, e_thS2, e_if, e_thBt, e_thBf, e_thBe, e_op, e_ap2, e_bop, e_ap2B, e_un, e_ap1, e_call, e_apL, e_meth, e_apM, e_ty, e_cls, e_gd, e_fld, e_nil, e_cons, e_rcons, e_C, e_var, e_getP, e_use, e_bnd1, e_bnd2, e_bnz1, e_ofO, e_and, e_or, e_not, e_rand1, e_rand2, e_ror1, e_ror2, e_rnot, e_val, e_tru, e_tru0, e_xIf, e_riff1, e_riff2, e_lst, e_tup, e_rlst, e_rtup, e_for, e_forR, e_lc, e_lcR, e_iOf, e_iWith, e_asg, e_app, e_appR, e_end1, e_end2, e_end3, e_sl, e_slR, e_oN, e_oS, e_oR, List.getElem?_cons_zero, List.getElem?_cons_succ, List.set_cons_zero, List.set_cons_succ, i_sub, i_add, i_lt, i_le, i_gt, i_ge, i_mulL, i_mulR, i_mod, i_fdiv, i_int, i_intB, i_eq, i_ne, s_len hX, hlt, decide_true, s_ix hX hix, e3, e1, hna, e_asgR e4, e5, if_true, ih]
theorem wr_ne (n : Nat) (ms : List Nat) : wr (n :: ms) ≠ [] := by
  rw [wr_cons]
  intro h
  exact TL.numL_ne n (List.append_eq_nil_iff.mp h).1
theorem wr_len (hs : List Nat) (h : ∀ n ∈ hs, n < 10 ^ 31) : (wr hs).length ≤ 32 * hs.length + 31 := by
  cases hs with
  | nil => simp [wr, TL.joinL]
  | cons n ms =>
    have h1 : (TL.numL n).length ≤ 31 := TL.numL_len (by decide) (h n (List.mem_cons_self ..))
    have h2 := tlw_len ms fun k hk => h k (List.mem_cons_of_mem _ hk)
    rw [wr_cons, List.length_append, List.length_cons]
    omega
theorem numL_ok (n : Nat) : ∀ c ∈ TL.numL n, c < 0x110000 := fun c hc => by have := TL.numL_digits n c hc; omega
theorem tlw_ok : ∀ (ms : List Nat), ∀ c ∈ tlw ms, c < 0x110000
  | [], c, hc => by simp [tlw] at hc
  | m :: ms, c, hc => by
    simp only [tlw, List.mem_cons, List.mem_append] at hc
    rcases hc with rfl | hc | hc
    · decide
    · exact numL_ok m c hc
    · exact tlw_ok ms c hc
theorem wr_ok (hs : List Nat) : okS (S (wr hs)) := okS_of fun c hc => by
  cases hs with
  | nil => simp [wr, TL.joinL] at hc
  | cons n ms =>
    rw [wr_cons, List.mem_append] at hc
    rcases hc with hc | hc
    · exact numL_ok n c hc
    · exact tlw_ok ms c hc
theorem nil_ok : okS (S []) := okS_of fun c hc => by cases hc
theorem rh_ok (hs : List Nat) (h : ∀ n ∈ hs, n < 10 ^ 31) (hl : hs.length ≤ 100) : d_read_heaps [.str (S (wr hs))] = .ok (.tup (hp hs)) := by
  show runB false 4 1 k_read_heaps _ = _
  rw [e_runB (m := 1) rfl]
  show endR false (k_read_heaps [some (.str (S (wr hs))), none, none, none]) = _
  unfold k_read_heaps
  have hlen := wr_len hs h
  have z0 : (0 : Nat) ≤ sizeLine := by decide
  have z1 : (1 : Nat) ≤ sizeLine := by decide
  cases hs with
  | nil =>
    have e1 : tr1 pyEq (.str (S (wr []))) (.str "") = some true := by rw [empty, s_eq (wr_ok _) nil_ok]; rfl
    simp only [e_seq, e_th1, e_th2, e_th3, e_th4, e_th5, e_nx, e_set, e_ret, e_drop, e_thS1, e_thS2, e_if, e_thBt, e_thBf, e_thBe, e_op, e_ap2, e_bop, e_ap2B, e_un, e_ap1, e_call, e_apL, e_meth, e_apM, e_ty, e_cls, e_gd, e_fld, e_nil, e_cons, e_rcons, e_C, e_var, e_getP, e_use, e_bnd1, e_bnd2, e_bnz1, e_ofO, e_and, e_or, e_not, e_rand1, e_rand2, e_ror1, e_ror2, e_rnot, e_val, e_tru, e_tru0, e_xIf, e_riff1, e_riff2, e_lst, e_tup, e_rlst, e_rtup, e_for, e_forR, e_lc, e_lcR, e_iOf, e_iWith, e_asg, e_app, e_appR, e_end1, e_end2, e_end3, e_sl, e_slR, e_oN, e_oS, e_oR, List.getElem?_cons_zero, List.getElem?_cons_succ, List.set_cons_zero, List.set_cons_succ, i_sub, i_add, i_lt, i_le, i_gt, i_ge, i_mulL, i_mulR, i_mod, i_fdiv, i_int, i_intB, i_eq, i_ne, e1, List.length_nil, z0, if_true, hp, List.map_nil]
  | cons n ms =>
    have hn := h n (List.mem_cons_self ..)
    have hms : ∀ k ∈ ms, k < 10 ^ 31 := fun k hk => h k (List.mem_cons_of_mem _ hk)
    have e1 : tr1 pyEq (.str (S (wr (n :: ms)))) (.str "") = some false := by
      rw [empty, s_eq (wr_ok _) nil_ok]
      congr 1
      exact decide_eq_false fun hh => wr_ne n ms (SX.S_inj hh)
    simp only [List.length_cons] at hl hlen
    have hX : (wr (n :: ms)).length ≤ 16777216 := by omega
    have e2 := na_ok [] (tlw ms) n hn (by rw [List.nil_append, ← wr_cons]; exact hX) (tlw_shape ms)
    rw [List.nil_append, ← wr_cons] at e2
    simp only [List.length_nil, Nat.zero_add, Int.natCast_zero, Int.cast_ofNat_Int] at e2
    obtain ⟨h', e3⟩ := rh_while (wr (n :: ms)) hX ms (TL.numL n) [.int n] (some (.int n)) (wr_cons n ms) hms (by simp only [List.length_cons, List.length_nil]; omega)
    have e4 : bTup 2 (bCons (bName 1) (bCons (bName 2) bNil)) (.tup [.int n, .int ((TL.numL n).length : Nat)]) [some (.str (S (wr (n :: ms)))), none, none, none] = some [some (.str (S (wr (n :: ms)))), some (.int n), some (.int ((TL.numL n).length : Nat)), none] := rfl
    simp only [e_seq, e_th1, e_th2, e_th3, e_th4, e_th5, e_nx, e_set, e_ret, e_drop, e_thS1, e_thS2, e_if, e_thBt, e_thBf, e_thBe, e_op, e_ap2, e_bop, e_ap2B, e_un, e_ap1, e_call, e_apL, e_meth, e_apM, e_ty, e_cls, e_gd, e_fld, e_nil, e_cons, e_rcons, e_C, e_var, e_getP, e_use, e_bnd1, e_bnd2, e_bnz1, e_ofO, e_and, e_or, e_not, e_rand1, e_rand2, e_ror1, e_ror2, e_rnot, e_val, e_tru, e_tru0, e_xIf, e_riff1, e_riff2, e_lst, e_tup, e_rlst, e_rtup, e_for, e_forR, e_lc, e_lcR, e_iOf, e_iWith, e_asg, e_app, e_appR, e_end1, e_end2, e_end3, e_sl, e_slR, e_oN, e_oS, e_oR, List.getElem?_cons_zero, List.getElem?_cons_succ, List.set_cons_zero, List.set_cons_succ, i_sub, i_add, i_lt, i_le, i_gt, i_ge, i_mulL, i_mulR, i_mod, i_fdiv, i_int, i_intB, i_eq, i_ne, e1, e2, e_asgR e4, List.length_cons, List.length_nil, Nat.zero_add, z1, if_true, e3, i_tupL]
    rfl
/-! the law -/
theorem num_eq {p : PV} {ns : List Int} (h : IsScr p ns) (k : Int) : d__law_number [p, .int k] = .ok (.int (lawNum ns k)) := number_ok h k
theorem nat_of {i : Int} (h0 : 0 ≤ i) (h1 : i < 10 ^ 31) : ∃ n : Nat, i = (n : Int) ∧ n < 10 ^ 31 := ⟨i.toNat, by omega, by omega⟩
/-- the list of four that a heap is picked from -/
theorem pick (x : Int) (hx : 0 ≤ x) : ∃ n : Nat, n < 10 ^ 31 ∧
    pyIx (.lst [.int 0, .int (x % 50), .int (10 ^ 31 - 1 - x / 50 % 50), .int (10 ^ 30 + x / 50 / 50 % 9)]) (.int (x / 50 / 50 / 9 % 4)) = some (.int n) := by
  obtain ⟨a, ha, ha2⟩ := nat_of (i := x % 50) (by omega) (by omega)
  obtain ⟨b, hb, hb2⟩ := nat_of (i := 10 ^ 31 - 1 - x / 50 % 50) (by omega) (by omega)
  obtain ⟨c, hc, hc2⟩ := nat_of (i := 10 ^ 30 + x / 50 / 50 % 9) (by omega) (by omega)
  rw [ha, hb, hc]
  have h1 : 0 ≤ x / 50 / 50 / 9 % 4 := by omega
  have h2 : x / 50 / 50 / 9 % 4 < 4 := by omega
  generalize x / 50 / 50 / 9 % 4 = j at h1 h2
  have : j = 0 ∨ j = 1 ∨ j = 2 ∨ j = 3 := by omega
  rcases this with rfl | rfl | rfl | rfl
  · exact ⟨0, by decide, rfl⟩
  · exact ⟨a, ha2, rfl⟩
  · exact ⟨b, hb2, rfl⟩
  · exact ⟨c, hc2, rfl⟩
noncomputable def b1 : PEnv → SR := (sSeq (sSet 5 (xLst (aCons (xUse d__law_number (aCons (xLst (aCons (xVar 2) aNil)) (aCons (xOp pyAdd (xC (.int 20)) (xVar 4)) aNil))) aNil))) (sAppM 3 (mOp pyIx (mLst (mCons (mOf (xC (.int 0))) (mCons (mTake 5 (mOf (xC (.int 50)))) (mCons (mOp pySub (mOf (xOp pySub (xOp pyPow (xC (.int 10)) (xC (.int 31))) (xC (.int 1)))) (mTake 5 (mOf (xC (.int 50))))) (mCons (mOp pyAdd (mOf (xOp pyPow (xC (.int 10)) (xC (.int 30)))) (mTake 5 (mOf (xC (.int 9))))) mNil))))) (mTake 5 (mOf (xC (.int 4)))))))
noncomputable def b2 : PEnv → SR := (sSet 6 (xOp pyAdd (xOp pyAdd (xVar 6) (xOp pyRepS (xC (.str " ")) (xCall pyInt (aCons (xOp pyNe (xVar 6) (xC (.str ""))) aNil)))) (xCall pyStr (aCons (xVar 7) aNil))))
noncomputable def b3 : PEnv → SR := (sIf (bOp pyNe (xUse d_read_heaps (aCons (xUse d_write_heaps (aCons (xTup (aCons (xVar 7) aNil)) aNil)) aNil)) (xTup (aCons (xVar 7) aNil))) (sRet (xC (.bl false))) .nx)
theorem one_scr (x : Int) : IsScr (.lst [.int x]) [x] := .lst [x]
/-- one heap more -/
theorem b1_ok (p t : Option PV) (N : Int) (hs : List Nat) (o4 o5 o6 o7 o8 : Option PV) (k : Int) (hl : hs.length < 100) : ∃ n : Nat, n < 10 ^ 31 ∧ ∃ o5',
    b1 [p, t, some (.int N), some (.lst (hp hs)), some (.int k), o5, o6, o7, o8] = .nx [p, t, some (.int N), some (.lst (hp (hs ++ [n]))), some (.int k), o5', o6, o7, o8] := by
  obtain ⟨n, hn, hp1⟩ := pick (lawNum [N] (20 + k)) (lawNum_nn _ _)
  refine ⟨n, hn, some (.lst [.int (lawNum [N] (20 + k) / 50 / 50 / 9 / 4)]), ?_⟩
  have z1 : (1 : Nat) ≤ sizeLine := by decide
  have z2 : (4 : Nat) ≤ sizeLine := by decide
  have z3 : (hp hs).length < sizeLine := by unfold hp; rw [List.length_map, List.length_map, szl]; omega
  have m1 : (0 : Int) < 50 := by decide
  have m2 : (50 : Int) < 1073741824 := by decide
  have m3 : (0 : Int) < 9 := by decide
  have m4 : (9 : Int) < 1073741824 := by decide
  have m5 : (0 : Int) < 4 := by decide
  have m6 : (4 : Int) < 1073741824 := by decide
  have p1 : pyPow (.int 10) (.int 31) = some (.int (10 ^ 31)) := rfl
  have p2 : pyPow (.int 10) (.int 30) = some (.int (10 ^ 30)) := rfl
  have e1 : hp hs ++ [.int n] = hp (hs ++ [n]) := by unfold hp; rw [List.map_append, List.map_append]; rfl
  unfold b1
  simp only [e_seq, e_th1, e_th2, e_th3, e_th4, e_th5, e_nx, e_set, e_ret, e_drop, e_thS1, e_thS2, e_if, e_thBt, e_thBf, e_thBe, e_op, e_ap2, e_bop, e_ap2B, e_un, e_ap1, e_call, e_apL, e_meth, e_apM, e_ty, e_cls, e_gd, e_fld, e_nil, e_cons, e_rcons, e_C, e_var, e_getP, e_use, e_bnd1, e_bnd2, e_bnz1, e_ofO, e_and, e_or, e_not, e_rand1, e_rand2, e_ror1, e_ror2, e_rnot, e_val, e_tru, e_tru0, e_xIf, e_riff1, e_riff2, e_lst, e_tup, e_rlst, e_rtup, e_for, e_forR, e_lc, e_lcR, e_iOf, e_iWith, e_asg, e_app, e_appR, e_end1, e_end2, e_end3, e_sl, e_slR, e_oN, e_oS, e_oR, List.getElem?_cons_zero, List.getElem?_cons_succ, List.set_cons_zero, List.set_cons_succ, i_sub, i_add, i_lt, i_le, i_gt, i_ge, i_mulL, i_mulR, i_mod, i_fdiv, i_int, i_intB, i_eq, i_ne, m_of, m_opt, m_op, m_then, m_nil, m_cons, m_lst, m_tup, m_call, m_use, m_bool, m_take, m_isL, m_takeG, m_set, m_ret, m_nx, m_if, m_if1, m_if2, m_app, m_mapp, Option.map_some, num_eq (one_scr _), List.length_cons, List.length_nil, Nat.zero_add, Nat.reduceAdd, z1, z2, z3, if_true, m1, m2, m3, m4, m5, m6, p1, p2, hp1, e1]
theorem wr_snoc (ms : List Nat) (n : Nat) : wr (ms ++ [n]) = if ms = [] then TL.numL n else wr ms ++ (32 :: TL.numL n) := by
  cases ms with
  | nil => rw [if_pos rfl]; show TL.numL n = _; rfl
  | cons m ms =>
    rw [if_neg (List.cons_ne_nil _ _), List.cons_append, wr_cons, wr_cons, List.append_assoc]
    congr 1
    induction ms with
    | nil => simp [tlw]
    | cons k ms ih => simp only [List.cons_append, tlw, List.append_assoc, ih]
theorem sempty : Str.empty = S [] := rfl
theorem b2_ok (p t o2 o3 o4 o5 o8 : Option PV) (ms : List Nat) (n : Nat) (hn : n < 10 ^ 31) (hm : ∀ k ∈ ms, k < 10 ^ 31) (hl : ms.length ≤ 100) :
    b2 [p, t, o2, o3, o4, o5, some (.str (S (wr ms))), some (.int n), o8] = .nx [p, t, o2, o3, o4, o5, some (.str (S (wr (ms ++ [n])))), some (.int n), o8] := by
  have e1 := s_str hn (show (31 : Nat) ≤ 400 by decide)
  have e2 : (TL.numL n).length ≤ 31 := TL.numL_len (by decide) hn
  have e3 := wr_len ms hm
  have e4 := x_ne (wr_ok ms) nil_ok
  unfold b2
  rw [wr_snoc]
  cases ms with
  | nil =>
    have e5 : pyNe (.str (S (wr []))) (.str "") = some (.bl false) := by rw [empty, e4]; rfl
    have e6 : pyAdd (.str (S (wr []))) (.str (S [])) = some (.str (S [])) := by rw [s_cat (by omega)]; rfl
    have e7 : pyAdd (.str (S [])) (.str (S (TL.numL n))) = some (.str (S (TL.numL n))) := by rw [s_cat (by simp only [List.length_nil]; omega)]; rfl
    simp only [e_seq, e_th1, e_th2, e_th3, e_th4, e_th5, e_nx, e_set, e_ret, e_drop, e_thS1, e_thS2, e_if, e_thBt, e_thBf, e_thBe, e_op, e_ap2, e_bop, e_ap2B, e_un, e_ap1, e_call, e_apL, e_meth, e_apM, e_ty, e_cls, e_gd, e_fld, e_nil, e_cons, e_rcons, e_C, e_var, e_getP, e_use, e_bnd1, e_bnd2, e_bnz1, e_ofO, e_and, e_or, e_not, e_rand1, e_rand2, e_ror1, e_ror2, e_rnot, e_val, e_tru, e_tru0, e_xIf, e_riff1, e_riff2, e_lst, e_tup, e_rlst, e_rtup, e_for, e_forR, e_lc, e_lcR, e_iOf, e_iWith, e_asg, e_app, e_appR, e_end1, e_end2, e_end3, e_sl, e_slR, e_oN, e_oS, e_oR, List.getElem?_cons_zero, List.getElem?_cons_succ, List.set_cons_zero, List.set_cons_succ, i_intB, e1, e5, e6, e7, Bool.false_eq_true, if_false, if_true, i_rep0, sempty]
  | cons m ms =>
    have e5 : pyNe (.str (S (wr (m :: ms)))) (.str "") = some (.bl true) := by
      rw [empty, e4, decide_eq_false fun hh => wr_ne m ms (SX.S_inj hh)]; rfl
    have e6 : pyAdd (.str (S (wr (m :: ms)))) (.str " ") = some (.str (S (wr (m :: ms) ++ [32]))) := by rw [space, s_cat (by simp only [List.length_cons, List.length_nil] at *; omega)]
    have e7 : pyAdd (.str (S (wr (m :: ms) ++ [32]))) (.str (S (TL.numL n))) = some (.str (S (wr (m :: ms) ++ (32 :: TL.numL n)))) := by
      rw [s_cat (by simp only [List.length_append, List.length_cons, List.length_nil] at *; omega), List.append_assoc]; rfl
    simp only [e_seq, e_th1, e_th2, e_th3, e_th4, e_th5, e_nx, e_set, e_ret, e_drop, e_thS1, e_thS2, e_if, e_thBt, e_thBf, e_thBe, e_op, e_ap2, e_bop, e_ap2B, e_un, e_ap1, e_call, e_apL, e_meth, e_apM, e_ty, e_cls, e_gd, e_fld, e_nil, e_cons, e_rcons, e_C, e_var, e_getP, e_use, e_bnd1, e_bnd2, e_bnz1, e_ofO, e_and, e_or, e_not, e_rand1, e_rand2, e_ror1, e_ror2, e_rnot, e_val, e_tru, e_tru0, e_xIf, e_riff1, e_riff2, e_lst, e_tup, e_rlst, e_rtup, e_for, e_forR, e_lc, e_lcR, e_iOf, e_iWith, e_asg, e_app, e_appR, e_end1, e_end2, e_end3, e_sl, e_slR, e_oN, e_oS, e_oR, List.getElem?_cons_zero, List.getElem?_cons_succ, List.set_cons_zero, List.set_cons_succ, i_intB, e1, e5, e6, e7, if_true, i_rep1, reduceCtorEq, if_false]
theorem b3_ok (p t o2 o3 o4 o5 o6 o8 : Option PV) (n : Nat) (hn : n < 10 ^ 31) :
    b3 [p, t, o2, o3, o4, o5, o6, some (.int n), o8] = .nx [p, t, o2, o3, o4, o5, o6, some (.int n), o8] := by
  have h1 : ∀ k ∈ [n], k < 10 ^ 31 := fun k hk => by rw [List.mem_singleton.mp hk]; exact hn
  have e1 := wh_ok [n] h1 (by rw [List.length_singleton]; omega)
  have e2 := rh_ok [n] h1 (by rw [List.length_singleton]; omega)
  have e3 := t_ne_self [(n : Int)]
  have z1 : (1 : Nat) ≤ sizeLine := by decide
  simp only [hp, List.map_cons, List.map_nil] at e1 e2 e3
  unfold b3
  simp only [e_seq, e_th1, e_th2, e_th3, e_th4, e_th5, e_nx, e_set, e_ret, e_drop, e_thS1, e_thS2, e_if, e_thBt, e_thBf, e_thBe, e_op, e_ap2, e_bop, e_ap2B, e_un, e_ap1, e_call, e_apL, e_meth, e_apM, e_ty, e_cls, e_gd, e_fld, e_nil, e_cons, e_rcons, e_C, e_var, e_getP, e_use, e_bnd1, e_bnd2, e_bnz1, e_ofO, e_and, e_or, e_not, e_rand1, e_rand2, e_ror1, e_ror2, e_rnot, e_val, e_tru, e_tru0, e_xIf, e_riff1, e_riff2, e_lst, e_tup, e_rlst, e_rtup, e_for, e_forR, e_lc, e_lcR, e_iOf, e_iWith, e_asg, e_app, e_appR, e_end1, e_end2, e_end3, e_sl, e_slR, e_oN, e_oS, e_oR, List.getElem?_cons_zero, List.getElem?_cons_succ, List.set_cons_zero, List.set_cons_succ, List.length_cons, List.length_nil, Nat.zero_add, z1, if_true, e1, e2, e3]
theorem mem_hp {hs : List Nat} {x : PV} (h : x ∈ hp hs) : ∃ n, n ∈ hs ∧ x = .int (n : Int) := by
  unfold hp at h
  obtain ⟨i, h1, h2⟩ := List.mem_map.mp h
  obtain ⟨n, h3, h4⟩ := List.mem_map.mp h1
  exact ⟨n, h3, by rw [← h2, ← h4]⟩
theorem hp_snoc (ms : List Nat) (n : Nat) : hp ms ++ [.int n] = hp (ms ++ [n]) := by unfold hp; rw [List.map_append, List.map_append]; rfl
theorem hp_len (hs : List Nat) : (hp hs).length = hs.length := by unfold hp; rw [List.length_map, List.length_map]
theorem hp_inj : ∀ {a b : List Nat}, hp a = hp b → a = b
  | [], [], _ => rfl
  | [], _ :: _, h => by cases h
  | _ :: _, [], h => by cases h
  | x :: a, y :: b, h => by
    have h1 := List.cons.inj h
    have h2 := hp_inj h1.2
    have h3 : (x : Int) = (y : Int) := PV.int.inj h1.1
    rw [h2, Int.ofNat_inj.mp h3]
noncomputable def bT : PEnv → SR := (sSeq (sSet 2 (xUse d__law_number (aCons (xVar 0) (aCons (xVar 1) aNil)))) (sSeq (sSet 3 (xLst aNil)) (sSeq (sFor (iWith pyRange1 (aCons (xOp pyTake (xVar 2) (xC (.int 13))) aNil)) (bName 4) (sSeq (sSet 5 (xLst (aCons (xUse d__law_number (aCons (xLst (aCons (xVar 2) aNil)) (aCons (xOp pyAdd (xC (.int 20)) (xVar 4)) aNil))) aNil))) (sAppM 3 (mOp pyIx (mLst (mCons (mOf (xC (.int 0))) (mCons (mTake 5 (mOf (xC (.int 50)))) (mCons (mOp pySub (mOf (xOp pySub (xOp pyPow (xC (.int 10)) (xC (.int 31))) (xC (.int 1)))) (mTake 5 (mOf (xC (.int 50))))) (mCons (mOp pyAdd (mOf (xOp pyPow (xC (.int 10)) (xC (.int 30)))) (mTake 5 (mOf (xC (.int 9))))) mNil))))) (mTake 5 (mOf (xC (.int 4)))))))) (sSeq (sSet 6 (xC (.str ""))) (sSeq (sFor (iOf pyItems (xVar 3)) (bName 7) (sSet 6 (xOp pyAdd (xOp pyAdd (xVar 6) (xOp pyRepS (xC (.str " ")) (xCall pyInt (aCons (xOp pyNe (xVar 6) (xC (.str ""))) aNil)))) (xCall pyStr (aCons (xVar 7) aNil))))) (sSeq (sSet 8 (xCall pyTuple (aCons (xVar 3) aNil))) (sSeq (sIf (bOr (bOp pyNe (xUse d_write_heaps (aCons (xVar 8) aNil)) (xVar 6)) (bOp pyNe (xUse d_read_heaps (aCons (xVar 6) aNil)) (xVar 8))) (sRet (xC (.bl false))) .nx) (sFor (iOf pyItems (xVar 3)) (bName 7) (sIf (bOp pyNe (xUse d_read_heaps (aCons (xUse d_write_heaps (aCons (xTup (aCons (xVar 7) aNil)) aNil)) aNil)) (xTup (aCons (xVar 7) aNil))) (sRet (xC (.bl false))) .nx)))))))))
def E9 (ns : List Int) (e : PEnv) : Prop := ∃ o1 o2 o3 o4 o5 o6 o7 o8, e = [some (.scr ns), o1, o2, o3, o4, o5, o6, o7, o8]
theorem bT_ok (ns : List Int) (k : Int) (o2 o3 o4 o5 o6 o7 o8 : Option PV) : ∃ e2, bT [some (.scr ns), some (.int k), o2, o3, o4, o5, o6, o7, o8] = .nx e2 ∧ E9 ns e2 := by
  let N := lawNum ns k
  have hN : 0 ≤ N := lawNum_nn _ _
  have m0 : (0 : Int) ≤ N % 13 := by omega
  have m0' : N % 13 < 1000000 := by omega
  have z0 : (0 : Nat) ≤ sizeLine := by decide
  have m1 : (0 : Int) < 13 := by decide
  have m2 : (13 : Int) < 1073741824 := by decide
  -- the heaps are made
  obtain ⟨e3, h3, ha⟩ := for_acc (f := bName 4) (k := b1) (xs := rangeL 0 (N % 13).toNat) (e := [some (.scr ns), some (.int k), some (.int N), some (.lst []), o4, o5, o6, o7, o8])
    (P := fun ys e => ∃ hs : List Nat, hs.length = ys.length ∧ (∀ n ∈ hs, n < 10 ^ 31) ∧ ∃ o4 o5, e = [some (.scr ns), some (.int k), some (.int N), some (.lst (hp hs)), o4, o5, o6, o7, o8])
    ⟨[], rfl, fun _ h => (nomatch h), o4, o5, rfl⟩ (fun ys x zs e hx ⟨hs, h1, h2, o4, o5, h3⟩ => by
      obtain ⟨j, hj, rfl⟩ := mem_range (x := x) (by rw [hx]; exact List.mem_append_right _ (List.mem_cons_self ..))
      have hlen := congrArg List.length hx
      rw [rangeL_len, List.length_append, List.length_cons] at hlen
      obtain ⟨n, hn, o5', hb⟩ := b1_ok (some (.scr ns)) (some (.int k)) N hs (o4 := none) o5 o6 o7 o8 (0 + (j : Int)) (by omega)
      refine ⟨_, _, by rw [h3]; rfl, .inl hb, hs ++ [n], by rw [List.length_append, List.length_append, h1]; rfl, fun m hm => ?_, _, _, rfl⟩
      rcases List.mem_append.mp hm with q | q
      · exact h2 m q
      · rw [List.mem_singleton.mp q]; exact hn)
  obtain ⟨hs, hl, hs31, q4, q5, rfl⟩ := ha
  rw [rangeL_len] at hl
  have hl2 : hs.length ≤ 100 := by omega
  have i1 := i_itL (xs := hp hs) (by rw [hp_len]; omega)
  -- the text is written
  obtain ⟨e4, h4, ha⟩ := for_acc (f := bName 7) (k := b2) (xs := hp hs) (e := [some (.scr ns), some (.int k), some (.int N), some (.lst (hp hs)), q4, q5, some (.str ""), o7, o8])
    (P := fun ys e => ∃ ms : List Nat, ys = hp ms ∧ (∀ n ∈ ms, n < 10 ^ 31) ∧ ∃ o7, e = [some (.scr ns), some (.int k), some (.int N), some (.lst (hp hs)), q4, q5, some (.str (S (wr ms))), o7, o8])
    ⟨[], rfl, fun _ h => (nomatch h), o7, by rw [empty]; rfl⟩ (fun ys x zs e hx ⟨ms, h1, h2, o7, h3⟩ => by
      obtain ⟨n, hn, rfl⟩ := mem_hp (x := x) (by rw [hx]; exact List.mem_append_right _ (List.mem_cons_self ..))
      have hlen := congrArg List.length hx
      rw [hp_len, List.length_append, List.length_cons, h1, hp_len] at hlen
      refine ⟨_, _, by rw [h3]; rfl, .inl (b2_ok _ _ _ _ _ _ _ ms n (hs31 n hn) h2 (by omega)), ms ++ [n], by rw [h1, hp_snoc], fun m hm => ?_, _, rfl⟩
      rcases List.mem_append.mp hm with q | q
      · exact h2 m q
      · rw [List.mem_singleton.mp q]; exact hs31 n hn)
  obtain ⟨ms, hms, -, q7, rfl⟩ := ha
  obtain rfl := hp_inj hms
  -- each heap by itself
  obtain ⟨e5, h5, ha⟩ := for_inv (f := bName 7) (k := b3) (xs := hp hs) (e := [some (.scr ns), some (.int k), some (.int N), some (.lst (hp hs)), q4, q5, some (.str (S (wr hs))), q7, some (.tup (hp hs))])
    (P := E9 ns) ⟨_, _, _, _, _, _, _, _, rfl⟩ (fun x e hx he => by
      obtain ⟨n, hn, rfl⟩ := mem_hp hx
      obtain ⟨o1, o2, o3, o4, o5, o6, o7, o8, rfl⟩ := he
      exact ⟨_, _, rfl, .inl (b3_ok _ _ _ _ _ _ _ _ n (hs31 n hn)), ⟨_, _, _, _, _, _, _, _, rfl⟩⟩)
  refine ⟨e5, ?_, ha⟩
  have w1 := wh_ok hs hs31 hl2
  have w2 := rh_ok hs hs31 hl2
  have w3 : tr1 pyNe (.str (S (wr hs))) (.str (S (wr hs))) = some false := by rw [s_ne (wr_ok _) (wr_ok _), decide_eq_true rfl]; rfl
  have w4 : tr1 pyNe (.tup (hp hs)) (.tup (hp hs)) = some false := t_ne_self _
  have r1 := i_range1 m0 m0'
  have z2 : (rangeL 0 (N % 13).toNat).length ≤ sizeLine := by rw [rangeL_len, szl]; omega
  have z3 : (hp hs).length ≤ sizeLine := by rw [hp_len, szl]; omega
  have n1 := num_eq (.scr ns) k
  change d__law_number [.scr ns, .int k] = .ok (.int N) at n1
  unfold b1 at h3
  unfold b2 at h4
  unfold b3 at h5
  unfold bT
  simp only [e_seq, e_th1, e_th2, e_th3, e_th4, e_th5, e_nx, e_set, e_ret, e_drop, e_thS1, e_thS2, e_if, e_thBt, e_thBf, e_thBe, e_op, e_ap2, e_bop, e_ap2B, e_un, e_ap1, e_call, e_apL, e_meth, e_apM, e_ty, e_cls, e_gd, e_fld, e_nil, e_cons, e_rcons, e_C, e_var, e_getP, e_use, e_bnd1, e_bnd2, e_bnz1, e_ofO, e_and, e_or, e_not, e_rand1, e_rand2, e_ror1, e_ror2, e_rnot, e_val, e_tru, e_tru0, e_xIf, e_riff1, e_riff2, e_lst, e_tup, e_rlst, e_rtup, e_for, e_forR, e_lc, e_lcR, e_iOf, e_iWith, e_asg, e_app, e_appR, e_end1, e_end2, e_end3, e_sl, e_slR, e_oN, e_oS, e_oR, List.getElem?_cons_zero, List.getElem?_cons_succ, List.set_cons_zero, List.set_cons_succ, m_of, m_opt, m_op, m_then, m_nil, m_cons, m_lst, m_tup, m_call, m_use, m_bool, m_take, m_isL, m_takeG, m_set, m_ret, m_nx, m_if, m_if1, m_if2, m_app, m_mapp, Option.map_some, n1, i_take m1 m2, r1, z2, z3, z0, List.length_nil, if_true, h3, i1, h4, i_tupL, w1, w2, w3, w4, h5]
theorem main (ns : List Int) (hl : ns.length ≤ 63) (hb : ∀ z ∈ ns, Builtin.Int.intBits z ≤ 1048576) : d_law [.scr ns] = .ok (.bl true) := by
  show runB false 9 1 k_law _ = _
  rw [e_runB (m := 1) rfl]
  show endR false (k_law [some (.scr ns), none, none, none, none, none, none, none, none]) = _
  obtain ⟨e1, h1, o1, o2, o3, o4, o5, o6, o7, o8, rfl⟩ := for_inv (f := bName 1) (k := bT) (xs := rangeL 0 5) (e := [some (.scr ns), none, none, none, none, none, none, none, none])
    (P := E9 ns) ⟨_, _, _, _, _, _, _, _, rfl⟩ (fun x e hx he => by
      obtain ⟨j, hj, rfl⟩ := mem_range hx
      obtain ⟨o1, o2, o3, o4, o5, o6, o7, o8, rfl⟩ := he
      obtain ⟨e2, h1, h2⟩ := bT_ok ns (0 + (j : Int)) o2 o3 o4 o5 o6 o7 o8
      exact ⟨_, _, rfl, .inl h1, h2⟩)
  have r1 : pyRange1 [.int 5] = some (rangeL 0 5) := rfl
  have z2 : (rangeL 0 5).length ≤ sizeLine := by rw [rangeL_len, szl]; omega
  unfold bT at h1
  unfold k_law
  simp only [e_seq, e_th1, e_th2, e_th3, e_th4, e_th5, e_nx, e_set, e_ret, e_drop, e_thS1, e_thS2, e_if, e_thBt, e_thBf, e_thBe, e_op, e_ap2, e_bop, e_ap2B, e_un, e_ap1, e_call, e_apL, e_meth, e_apM, e_ty, e_cls, e_gd, e_fld, e_nil, e_cons, e_rcons, e_C, e_var, e_getP, e_use, e_bnd1, e_bnd2, e_bnz1, e_ofO, e_and, e_or, e_not, e_rand1, e_rand2, e_ror1, e_ror2, e_rnot, e_val, e_tru, e_tru0, e_xIf, e_riff1, e_riff2, e_lst, e_tup, e_rlst, e_rtup, e_for, e_forR, e_lc, e_lcR, e_iOf, e_iWith, e_asg, e_app, e_appR, e_end1, e_end2, e_end3, e_sl, e_slR, e_oN, e_oS, e_oR, List.getElem?_cons_zero, List.getElem?_cons_succ, List.set_cons_zero, List.set_cons_succ, r1, z2, if_true, h1]
end Q_k06
end
open PySem PySem.W PyProof.Rows
set_option maxHeartbeats 0 in
theorem PySem.Challenge.cw_heapsbybits_k06_heaps_are_written_and_re_holds : PySem.Challenge.rw_heapsbybits_k06_heaps_are_written_and_re.Holds := by
  w_on; o_law; k_head; (case hw => w_witness2)
  k_fill
  refine LamX.walk_ofTs (l := PySem.Challenge.rw_heapsbybits_k06_heaps_are_written_and_re) (n := 63) (k := 3) (x := "script") (CX := fun w => L2.CX PySem.Challenge.rw_heapsbybits_k06_heaps_are_written_and_re.prog w) rfl (by decide) rfl ⟨rfl, by decide, by decide⟩ (fun w h Y => PySem.W.kIn_of Y) ?F (fun _ _ _ _ _ h => D.cx_none h)
  case F =>
    intro w mg fa h Y KX G hmg
    refine' Q_k06.all_mk KX G hmg ?a0 ?l0 ?c0 ?k0 ?a1 ?l1 ?c1 ?k1 ?a2 ?l2 ?c2 ?k2 ?a3 ?l3 ?c3 ?k3 ?a4 ?l4 ?c4 ?k4 ?a5 ?l5 ?c5 ?k5 ?z_int ?z_len ?z_range ?z_str ?z_tuple ?m_DIGITS ?m_MOST_FIGURES Q_k06.main
    (case a0 => k_is); (case l0 => k_is); (case c0 => k_is); (case k0 => k_is); (case a1 => k_is); (case l1 => k_is); (case c1 => k_is); (case k1 => k_is); (case a2 => k_is); (case l2 => k_is); (case c2 => k_is); (case k2 => k_is); (case a3 => k_is); (case l3 => k_is); (case c3 => k_is); (case k3 => k_is); (case a4 => k_is); (case l4 => k_is); (case c4 => k_is); (case k4 => k_is); (case a5 => k_is); (case l5 => k_is); (case c5 => k_is); (case k5 => k_is); (case z_int => k_is); (case z_len => k_is); (case z_range => k_is); (case z_str => k_is); (case z_tuple => k_is); (case m_DIGITS => k_is); (case m_MOST_FIGURES => k_is)
