import PyProof.Rows.All
import Wide.All
import OpenK.AllK
import Wide.FinOn
import HandS.ForMost
import HandS.ForExc
import HandS.Defaults
import HandS.Iter
import HandS.Conv
import HandS.IsInst
import HandS.TryOnly
import HandS.Small
import HandS.SetKeys
import HandS.Wide
import HandS.SortInts
import HandS.SortRule
import HandS.More
import HandS.NoneIn
import HandS.Style
import HandS.Deep
import HandS.TupLen
import HandS.TupAny
import HandS.ExcIs
import HandS.ExcValue
import HandS.Zip
import HandS.Rev
import HandS.SetFor
import HandS.DictTup
import HandS.Head0
import HandS.Head1
import HandS.Head2
import HandS.HeadEnd
import HandS.HeadHook1
import HandS.HeadHook2
import PySem.Challenge.RW_haulway_k75_places_and_bodies
set_option Elab.async false
set_option linter.all false
set_option maxRecDepth 100000
set_option maxHeartbeats 4000000
set_option autoImplicit false
/-! PV1: data, how the heap bears them, who owns what. -/
namespace PV
open PySem PySem.Spec PyProof.Rows L2

/-- plain data -/
inductive D where
  | non | bl (b : Bool) | int (i : Int) | str (x : Str)
  | tup (l : List D) | lst (l : List D)
  /-- a tuple that the program's text wrote -/
  | ktup (l : List D)
  /-- a list that is only read: the script -/
  | klst (l : List D)
  | dk (l : List (Key × D)) | dt (l : List (List Key × D))
  | ins (c : Nat) (l : List (Str × D)) | exc (c : Nat)

/-- what no node of its own has -/
def D.leaf : D → Bool
  | .lst _ => false
  | .dk _ => false
  | .dt _ => false
  | .ins _ _ => false
  | _ => true
mutual
/-- nothing that can be changed lies in it -/
def D.flat : D → Bool
  | .tup l => flatL l
  | .ktup l => flatL l
  | .klst _ => false
  | .lst _ => false
  | .dk _ => false
  | .dt _ => false
  | .ins _ _ => false
  | .exc _ => false
  | _ => true
def flatL : List D → Bool
  | [] => true
  | d :: l => d.flat && flatL l
end

/-- the law's own classes: where they stand -/
structure Kx where
  K : PySem.W.Frag
  C : Nat → Addr

/-- an exception object of the class at cls, caught, kept at a -/
def ExT (cls : Value) (a : Addr) : HO := .ext fun h => ∃ oe : Obj, h.get? a = some oe ∧ Zc cls none oe ∧ ∃ vs, oe.data = .fields vs

mutual
/-- v bears d in the heap F -/
inductive Rep (k : Kx) (F : Hp) : V → D → Prop
  | non : Rep k F .non .non
  | bl (b : Bool) : Rep k F (.bl b) (.bl b)
  | int (i : Int) : Rep k F (.int i) (.int i)
  | str (x : Str) : Rep k F (.str x) (.str x)
  | tup {a : Addr} {vs : List V} {l : List D} : F a = some (.tup vs) → RepL k F vs l → Rep k F (.ref a) (.tup l)
  | ktup {a : Addr} {vs : List V} {l : List D} : SqT k.K (fun _ => none) a vs → RepL k F vs l → Rep k F (.ref a) (.ktup l)
  | lst {a : Addr} {vs : List V} {l : List D} : F a = some (.lst vs) → RepL k F vs l → Rep k F (.ref a) (.lst l)
  | klst {a : Addr} {vs : List V} {l : List D} : SqL k.K F a vs → RepL k F vs l → Rep k F (.ref a) (.klst l)
  | dk {a : Addr} {kvs : List (Key × V)} {l : List (Key × D)} : Rd F a (.dK kvs) → kvs.map (·.1) = l.map (·.1) → RepL k F (kvs.map (·.2)) (l.map (·.2)) → Rep k F (.ref a) (.dk l)
  | dt {a : Addr} {kvs : List (List Key × V)} {l : List (List Key × D)} : Rd F a (.dT kvs) → kvs.map (·.1) = l.map (·.1) → RepL k F (kvs.map (·.2)) (l.map (·.2)) → Rep k F (.ref a) (.dt l)
  | ins {a dx : Addr} {fs : List (Str × V)} {c : Nat} {l : List (Str × D)} : F a = some (.ins (k.C c) dx fs) → fs.map (·.1) = l.map (·.1) → RepL k F (fs.map (·.2)) (l.map (·.2)) → Rep k F (.ref a) (.ins c l)
  | exc {a : Addr} {c : Nat} : F a = some (ExT (.ref (k.C c)) a) → Rep k F (.ref a) (.exc c)
inductive RepL (k : Kx) (F : Hp) : List V → List D → Prop
  | nil : RepL k F [] []
  | cons {v : V} {vs : List V} {d : D} {l : List D} : Rep k F v d → RepL k F vs l → RepL k F (v :: vs) (d :: l)
end

mutual
/-- v bears d: the nodes of d that can be changed are the addresses A, read in H; all else is borne by F -/
inductive Own (k : Kx) (H F : Hp) : List Addr → V → D → Prop
  | leaf {v : V} {d : D} : d.leaf = true → Rep k F v d → Own k H F [] v d
  | lst {a : Addr} {A : List Addr} {vs : List V} {l : List D} : H a = some (.lst vs) → OwnL k H F A vs l → Own k H F (a :: A) (.ref a) (.lst l)
  | dk {a : Addr} {A : List Addr} {kvs : List (Key × V)} {l : List (Key × D)} : H a = some (.dK kvs) → kvs.map (·.1) = l.map (·.1) → OwnL k H F A (kvs.map (·.2)) (l.map (·.2)) → Own k H F (a :: A) (.ref a) (.dk l)
  | dt {a : Addr} {A : List Addr} {kvs : List (List Key × V)} {l : List (List Key × D)} : H a = some (.dT kvs) → kvs.map (·.1) = l.map (·.1) → OwnL k H F A (kvs.map (·.2)) (l.map (·.2)) → Own k H F (a :: A) (.ref a) (.dt l)
  | ins {a dx : Addr} {A : List Addr} {fs : List (Str × V)} {c : Nat} {l : List (Str × D)} : H a = some (.ins (k.C c) dx fs) → fs.map (·.1) = l.map (·.1) → OwnL k H F A (fs.map (·.2)) (l.map (·.2)) → Own k H F (a :: A) (.ref a) (.ins c l)
inductive OwnL (k : Kx) (H F : Hp) : List Addr → List V → List D → Prop
  | nil : OwnL k H F [] [] []
  | cons {A B : List Addr} {v : V} {vs : List V} {d : D} {l : List D} : Own k H F A v d → OwnL k H F B vs l → OwnL k H F (A ++ B) (v :: vs) (d :: l)
end

/-- all of F stands in F' -/
def Sub (F F' : Hp) : Prop := ∀ a o, F a = some o → F' a = some o
theorem Sub.rfl' {F : Hp} : Sub F F := fun _ _ h => h
theorem Sub.tr {F G I : Hp} (a : Sub F G) (b : Sub G I) : Sub F I := fun x o h => b x o (a x o h)
theorem Sub.rd {F F' : Hp} (s : Sub F F') {a : Addr} {u : HO} (h : Rd F a u) : Rd F' a u := by
  rcases h with h | ⟨o, h⟩
  · exact .inl (s _ _ h)
  · exact .inr ⟨o, s _ _ h⟩
theorem Sub.sqT {K : PySem.W.Frag} {F F' : Hp} (s : Sub F F') {a : Addr} {u : List V} (h : SqT K F a u) : SqT K F' a u := by
  rcases h with h | h
  · exact .inl (s.rd h)
  · exact .inr h
theorem Sub.sqL {K : PySem.W.Frag} {F F' : Hp} (s : Sub F F') {a : Addr} {u : List V} (h : SqL K F a u) : SqL K F' a u := by
  rcases h with h | h
  · exact .inl (s.rd h)
  · exact .inr h

mutual
theorem Rep.mono {k : Kx} {F F' : Hp} (s : Sub F F') : ∀ {v : V} {d : D}, Rep k F v d → Rep k F' v d
  | _, _, .non => .non
  | _, _, .bl b => .bl b
  | _, _, .int i => .int i
  | _, _, .str x => .str x
  | _, _, .tup h r => .tup (s _ _ h) (RepL.mono s r)
  | _, _, .ktup h r => .ktup h (RepL.mono s r)
  | _, _, .lst h r => .lst (s _ _ h) (RepL.mono s r)
  | _, _, .klst h r => .klst (s.sqL h) (RepL.mono s r)
  | _, _, .dk h e r => .dk (s.rd h) e (RepL.mono s r)
  | _, _, .dt h e r => .dt (s.rd h) e (RepL.mono s r)
  | _, _, .ins h e r => .ins (s _ _ h) e (RepL.mono s r)
  | _, _, .exc h => .exc (s _ _ h)
theorem RepL.mono {k : Kx} {F F' : Hp} (s : Sub F F') : ∀ {vs : List V} {l : List D}, RepL k F vs l → RepL k F' vs l
  | _, _, .nil => .nil
  | _, _, .cons r t => .cons (Rep.mono s r) (RepL.mono s t)
end

mutual
theorem Own.mono {k : Kx} {H H' F F' : Hp} (s : Sub F F') : ∀ {A : List Addr} {v : V} {d : D}, Own k H F A v d → (∀ a ∈ A, H' a = H a) → Own k H' F' A v d
  | _, _, _, .leaf e r, _ => .leaf e (r.mono s)
  | _, _, _, .lst h r, q => .lst ((q _ List.mem_cons_self).trans h) (OwnL.mono s r fun a ha => q a (List.mem_cons_of_mem _ ha))
  | _, _, _, .dk h e r, q => .dk ((q _ List.mem_cons_self).trans h) e (OwnL.mono s r fun a ha => q a (List.mem_cons_of_mem _ ha))
  | _, _, _, .dt h e r, q => .dt ((q _ List.mem_cons_self).trans h) e (OwnL.mono s r fun a ha => q a (List.mem_cons_of_mem _ ha))
  | _, _, _, .ins h e r, q => .ins ((q _ List.mem_cons_self).trans h) e (OwnL.mono s r fun a ha => q a (List.mem_cons_of_mem _ ha))
theorem OwnL.mono {k : Kx} {H H' F F' : Hp} (s : Sub F F') : ∀ {A : List Addr} {vs : List V} {l : List D}, OwnL k H F A vs l → (∀ a ∈ A, H' a = H a) → OwnL k H' F' A vs l
  | _, _, _, .nil, _ => .nil
  | _, _, _, .cons r t, q => .cons (Own.mono s r fun a ha => q a (List.mem_append_left _ ha)) (OwnL.mono s t fun a ha => q a (List.mem_append_right _ ha))
end

mutual
/-- what is owned, taken as it stands -/
theorem Own.frz {k : Kx} {H F F' : Hp} (s : Sub F F') : ∀ {A : List Addr} {v : V} {d : D}, Own k H F A v d → (∀ a ∈ A, ∀ o, H a = some o → F' a = some o) → Rep k F' v d
  | _, _, _, .leaf e r, _ => r.mono s
  | _, _, _, .lst h r, q => .lst (q _ List.mem_cons_self _ h) (OwnL.frz s r fun a ha => q a (List.mem_cons_of_mem _ ha))
  | _, _, _, .dk h e r, q => .dk (.inl (q _ List.mem_cons_self _ h)) e (OwnL.frz s r fun a ha => q a (List.mem_cons_of_mem _ ha))
  | _, _, _, .dt h e r, q => .dt (.inl (q _ List.mem_cons_self _ h)) e (OwnL.frz s r fun a ha => q a (List.mem_cons_of_mem _ ha))
  | _, _, _, .ins h e r, q => .ins (q _ List.mem_cons_self _ h) e (OwnL.frz s r fun a ha => q a (List.mem_cons_of_mem _ ha))
theorem OwnL.frz {k : Kx} {H F F' : Hp} (s : Sub F F') : ∀ {A : List Addr} {vs : List V} {l : List D}, OwnL k H F A vs l → (∀ a ∈ A, ∀ o, H a = some o → F' a = some o) → RepL k F' vs l
  | _, _, _, .nil, _ => .nil
  | _, _, _, .cons r t, q => .cons (Own.frz s r fun a ha => q a (List.mem_append_left _ ha)) (OwnL.frz s t fun a ha => q a (List.mem_append_right _ ha))
end

mutual
theorem Own.at {k : Kx} {H F : Hp} : ∀ {A : List Addr} {v : V} {d : D}, Own k H F A v d → ∀ a ∈ A, ∃ o, H a = some o ∧ ∀ xs, o ≠ .tup xs
  | _, _, _, .leaf e r, _, ha => nomatch ha
  | _, _, _, .lst h r, a, ha => by
    rcases List.mem_cons.mp ha with rfl | ha
    · exact ⟨_, h, fun xs z => nomatch z⟩
    · exact OwnL.at r a ha
  | _, _, _, .dk h e r, a, ha => by
    rcases List.mem_cons.mp ha with rfl | ha
    · exact ⟨_, h, fun xs z => nomatch z⟩
    · exact OwnL.at r a ha
  | _, _, _, .dt h e r, a, ha => by
    rcases List.mem_cons.mp ha with rfl | ha
    · exact ⟨_, h, fun xs z => nomatch z⟩
    · exact OwnL.at r a ha
  | _, _, _, .ins h e r, a, ha => by
    rcases List.mem_cons.mp ha with rfl | ha
    · exact ⟨_, h, fun xs z => nomatch z⟩
    · exact OwnL.at r a ha
theorem OwnL.at {k : Kx} {H F : Hp} : ∀ {A : List Addr} {vs : List V} {l : List D}, OwnL k H F A vs l → ∀ a ∈ A, ∃ o, H a = some o ∧ ∀ xs, o ≠ .tup xs
  | _, _, _, .nil, _, ha => nomatch ha
  | _, _, _, .cons r t, a, ha => by
    rcases List.mem_append.mp ha with ha | ha
    · exact Own.at r a ha
    · exact OwnL.at t a ha
end

/-- only tuples -/
def tupsOf (F : Hp) : Hp := fun a => match F a with
  | some (.tup xs) => some (.tup xs)
  | _ => none
theorem tupsOf_tup {F : Hp} {a : Addr} {xs : List V} (h : F a = some (.tup xs)) : tupsOf F a = some (.tup xs) := by unfold tupsOf; rw [h]
mutual
theorem Rep.flat {k : Kx} {F : Hp} : ∀ {v : V} {d : D}, Rep k F v d → d.flat = true → Rep k (tupsOf F) v d
  | _, _, .non, _ => .non
  | _, _, .bl b, _ => .bl b
  | _, _, .int i, _ => .int i
  | _, _, .str x, _ => .str x
  | _, _, .tup h r, e => .tup (tupsOf_tup h) (RepL.flat r (by simpa [D.flat] using e))
  | _, _, .ktup h r, e => .ktup h (RepL.flat r (by simpa [D.flat] using e))
  | _, _, .lst h r, e => by simp [D.flat] at e
  | _, _, .klst h r, e => by simp [D.flat] at e
  | _, _, .dk h _ r, e => by simp [D.flat] at e
  | _, _, .dt h _ r, e => by simp [D.flat] at e
  | _, _, .ins h _ r, e => by simp [D.flat] at e
  | _, _, .exc h, e => by simp [D.flat] at e
theorem RepL.flat {k : Kx} {F : Hp} : ∀ {vs : List V} {l : List D}, RepL k F vs l → flatL l = true → RepL k (tupsOf F) vs l
  | _, _, .nil, _ => .nil
  | _, _, .cons r t, e => by
    simp only [flatL, Bool.and_eq_true] at e
    exact .cons (Rep.flat r e.1) (RepL.flat t e.2)
end

/-! ### lists of them -/
theorem RepL.len {k : Kx} {F : Hp} : ∀ {vs : List V} {l : List D}, RepL k F vs l → vs.length = l.length
  | _, _, .nil => rfl
  | _, _, .cons _ t => by simp [RepL.len t]
theorem RepL.get {k : Kx} {F : Hp} : ∀ {vs : List V} {l : List D} {i : Nat} {v : V}, RepL k F vs l → vs[i]? = some v → ∃ d, l[i]? = some d ∧ Rep k F v d
  | _, _, _, _, .nil, e => by simp at e
  | _, _, 0, _, .cons r _, e => by simp at e; subst e; exact ⟨_, rfl, r⟩
  | _, _, i + 1, _, .cons _ t, e => by
    obtain ⟨d, h1, h2⟩ := RepL.get (i := i) t (by simpa using e)
    exact ⟨d, by simpa using h1, h2⟩
theorem RepL.get' {k : Kx} {F : Hp} : ∀ {vs : List V} {l : List D} {i : Nat} {d : D}, RepL k F vs l → l[i]? = some d → ∃ v, vs[i]? = some v ∧ Rep k F v d
  | _, _, _, _, .nil, e => by simp at e
  | _, _, 0, _, .cons r _, e => by simp at e; subst e; exact ⟨_, rfl, r⟩
  | _, _, i + 1, _, .cons _ t, e => by
    obtain ⟨d, h1, h2⟩ := RepL.get' (i := i) t (by simpa using e)
    exact ⟨d, by simpa using h1, h2⟩
theorem RepL.app {k : Kx} {F : Hp} : ∀ {vs ws : List V} {l m : List D}, RepL k F vs l → RepL k F ws m → RepL k F (vs ++ ws) (l ++ m)
  | _, _, _, _, .nil, s => s
  | _, _, _, _, .cons r t, s => .cons r (RepL.app t s)
theorem RepL.take {k : Kx} {F : Hp} : ∀ {vs : List V} {l : List D} (n : Nat), RepL k F vs l → RepL k F (vs.take n) (l.take n)
  | _, _, 0, _ => by simpa using RepL.nil
  | _, _, n + 1, .nil => by simpa using RepL.nil
  | _, _, n + 1, .cons r t => .cons r (RepL.take n t)
theorem RepL.drop {k : Kx} {F : Hp} : ∀ {vs : List V} {l : List D} (n : Nat), RepL k F vs l → RepL k F (vs.drop n) (l.drop n)
  | _, _, 0, r => by simpa using r
  | _, _, n + 1, .nil => by simpa using RepL.nil
  | _, _, n + 1, .cons _ t => by simpa using RepL.drop n t
theorem RepL.rev {k : Kx} {F : Hp} : ∀ {vs : List V} {l : List D}, RepL k F vs l → RepL k F vs.reverse l.reverse
  | _, _, .nil => .nil
  | _, _, .cons r t => by simpa using RepL.app (RepL.rev t) (.cons r .nil)
/-- an owned list of leaves is a plain list of them -/
theorem OwnL.leaves {k : Kx} {H F : Hp} : ∀ {A : List Addr} {vs : List V} {l : List D}, OwnL k H F A vs l → (∀ d ∈ l, d.leaf = true) → A = [] ∧ RepL k F vs l
  | _, _, _, .nil, _ => ⟨rfl, .nil⟩
  | _, _, _, .cons (A := A) (B := B) r t, q => by
    obtain ⟨e, h⟩ := OwnL.leaves t fun d hd => q d (List.mem_cons_of_mem _ hd)
    have hl := q _ List.mem_cons_self
    cases r with
    | leaf _ r => exact ⟨by simpa using e, .cons r h⟩
    | lst _ _ => simp [D.leaf] at hl
    | dk _ _ _ => simp [D.leaf] at hl
    | dt _ _ _ => simp [D.leaf] at hl
    | ins _ _ _ => simp [D.leaf] at hl
theorem RepL.own {k : Kx} {H F : Hp} : ∀ {vs : List V} {l : List D}, RepL k F vs l → (∀ d ∈ l, d.leaf = true) → OwnL k H F [] vs l
  | _, _, .nil, _ => .nil
  | _, _, .cons r t, q => OwnL.cons (A := []) (B := []) (.leaf (q _ List.mem_cons_self) r) (RepL.own t fun d hd => q d (List.mem_cons_of_mem _ hd))
theorem OwnL.len {k : Kx} {H F : Hp} : ∀ {A : List Addr} {vs : List V} {l : List D}, OwnL k H F A vs l → vs.length = l.length
  | _, _, _, .nil => rfl
  | _, _, _, .cons _ t => by simp [OwnL.len t]
theorem OwnL.app {k : Kx} {H F : Hp} : ∀ {A B : List Addr} {vs ws : List V} {l m : List D}, OwnL k H F A vs l → OwnL k H F B ws m → OwnL k H F (A ++ B) (vs ++ ws) (l ++ m)
  | _, _, _, _, _, _, .nil, s => s
  | _, _, _, _, _, _, .cons r t, s => by
    rw [List.append_assoc]
    exact .cons r (OwnL.app t s)
end PV

/-! PV2: regions, environments, what an expression comes to. -/
namespace PV
open PySem PySem.Spec PyProof.Rows L2

/-- where what is shared lies: made here (or tuples), or of what was handed in to be changed, or anywhere -/
inductive Rg where
  | loc | io | par
  deriving DecidableEq
def Rg.max : Rg → Rg → Rg
  | .par, _ => .par
  | _, .par => .par
  | .io, _ => .io
  | _, .io => .io
  | .loc, .loc => .loc
def Rg.le : Rg → Rg → Bool
  | .loc, _ => true
  | .io, .loc => false
  | .io, _ => true
  | .par, .par => true
  | .par, _ => false
theorem Rg.le_max_l (a b : Rg) : a.le (a.max b) = true := by cases a <;> cases b <;> rfl
theorem Rg.le_max_r (a b : Rg) : b.le (a.max b) = true := by cases a <;> cases b <;> rfl
theorem Rg.le_rfl (a : Rg) : a.le a = true := by cases a <;> rfl
/-- a running def: the heap at its entry; what lay below that which it may change -/
structure Fx where
  H0 : Hp
  Fi : Addr → Prop
  Fp : Addr → Prop
  P : Nat → Option V
def Fx.new (f : Fx) (a : Addr) : Prop := f.H0 a = none ∨ ∃ xs, f.H0 a = some (.tup xs)
def Fx.inr (f : Fx) : Rg → Addr → Prop
  | .loc, a => f.new a
  | .io, a => f.new a ∨ f.Fi a
  | .par, a => f.new a ∨ f.Fi a ∨ f.Fp a
theorem Fx.inr_le (f : Fx) {g g' : Rg} (h : g.le g' = true) {a : Addr} (x : f.inr g a) : f.inr g' a := by
  cases g <;> cases g' <;> first | exact x | exact x.imp id .inl | exact .inl x | cases h
theorem Fx.inr_new (f : Fx) (g : Rg) {a : Addr} (h : f.new a) : f.inr g a := by
  cases g
  · exact h
  · exact .inl h
  · exact .inl h
open Classical in
noncomputable def Fx.reg (f : Fx) (g : Rg) (U : Addr → Prop) (H : Hp) : Hp := fun a => if ¬ U a ∧ f.inr g a then H a else none
theorem Fx.reg_some {f : Fx} {g : Rg} {U : Addr → Prop} {H : Hp} {a : Addr} {o : HO} : f.reg g U H a = some o ↔ ¬ U a ∧ f.inr g a ∧ H a = some o := by
  unfold Fx.reg
  split
  · rename_i h
    exact ⟨fun e => ⟨h.1, h.2, e⟩, fun e => e.2.2⟩
  · rename_i h
    exact ⟨fun e => (nomatch e), fun e => absurd ⟨e.1, e.2.1⟩ h⟩
theorem Fx.reg_sub {f : Fx} {g : Rg} {U : Addr → Prop} {H : Hp} : Sub (f.reg g U H) H := fun _ _ e => (Fx.reg_some.mp e).2.2
theorem Fx.reg_le {f : Fx} {g g' : Rg} (h : g.le g' = true) {U : Addr → Prop} {H : Hp} : Sub (f.reg g U H) (f.reg g' U H) := fun _ _ e =>
  Fx.reg_some.mpr ⟨(Fx.reg_some.mp e).1, f.inr_le h (Fx.reg_some.mp e).2.1, (Fx.reg_some.mp e).2.2⟩

/-- own: nobody else holds it; io: it was handed in to be changed -/
structure Cell where
  own : Bool
  io : Bool
  g : Rg
  d : D
abbrev Env := List (Option Cell)
/-- owned: by the names, or for the time being -/
def ow (As : Nat → List Addr) (T : Addr → Prop) (a : Addr) : Prop := (∃ i, a ∈ As i) ∨ T a
def un (T T' : Addr → Prop) (a : Addr) : Prop := T a ∨ T' a
def no : Addr → Prop := fun _ => False
def CellOk (k : Kx) (f : Fx) (H : Hp) (U : Addr → Prop) (A : List Addr) (v : V) (c : Cell) : Prop :=
  if c.own = true then Own k H (f.reg c.g U H) A v c.d else Rep k (f.reg c.g U H) v c.d
structure StOk (k : Kx) (f : Fx) (σ : L2.St) (ρ : Env) (H : Hp) (As : Nat → List Addr) (T : Addr → Prop) : Prop where
  len : ρ.length = σ.length
  cell : ∀ i c, ρ[i]? = some (some c) → ∃ v, σ[i]? = some (some v) ∧ CellOk k f H (ow As T) (As i) v c
  none_ : ∀ i, (∀ c, ρ[i]? = some (some c) → c.own = false) → As i = []
  disj : ∀ i j a, a ∈ As i → a ∈ As j → i = j
  nod : ∀ i, (As i).Nodup
  nw : ∀ i c, ρ[i]? = some (some c) → c.io = false → ∀ a ∈ As i, f.H0 a = none
  tmp : ∀ a, T a → ∀ i, a ∉ As i
  tno : ∀ a, T a → ∃ o, H a = some o ∧ ∀ xs, o ≠ .tup xs
  dom : ∀ a, f.H0 a ≠ none → H a ≠ none
  tup : ∀ a xs, f.H0 a = some (.tup xs) → H a = some (.tup xs)
  tupb : ∀ a xs, H a = some (.tup xs) → f.new a
  fi : ∀ a, f.Fi a → ¬ ow As T a
  fin : ∀ a, f.Fi a → H a ≠ none
  iov : ∀ i c, ρ[i]? = some (some c) → c.io = true → ∃ v, f.P i = some v ∧ σ[i]? = some (some v)
structure Frm (H : Hp) (As : Nat → List Addr) (H' : Hp) (As' : Nat → List Addr) : Prop where
  keep : ∀ a o, (∀ i, a ∉ As i) → H a = some o → H' a = some o
  own : ∀ i a, a ∈ As' i → (∃ j, a ∈ As j) ∨ H a = none
  dom : ∀ a, H a ≠ none → H' a ≠ none
theorem Frm.rfl' {H : Hp} {As : Nat → List Addr} : Frm H As H As := ⟨fun _ _ _ h => h, fun _ _ h => .inl ⟨_, h⟩, fun _ h => h⟩
theorem Frm.tr {H H1 H2 : Hp} {As As1 As2 : Nat → List Addr} (a : Frm H As H1 As1) (b : Frm H1 As1 H2 As2) : Frm H As H2 As2 where
  keep := fun x o n h => b.keep x o (fun i hi => by
    rcases a.own i x hi with ⟨j, z⟩ | z
    · exact n j z
    · rw [h] at z; cases z) (a.keep x o n h)
  own := fun i x hx => by
    rcases b.own i x hx with ⟨j, z⟩ | z
    · exact a.own j x z
    · refine .inr ?_
      cases q : H x with
      | none => rfl
      | some o => exact absurd z (a.dom x (by rw [q]; intro z; cases z))
  dom := fun x h => b.dom x (a.dom x h)

section
variable {k : Kx} {f : Fx} {σ : L2.St} {ρ ρ' : Env} {H H' H1 H2 : Hp} {As As' As1 As2 : Nat → List Addr} {T T' Tn T1 T2 : Addr → Prop} {g : Rg}

theorem StOk.tin (s : StOk k f σ ρ H As T) : ∀ a, T a → H a ≠ none := fun a h z => by
  obtain ⟨o, e, _⟩ := s.tno a h
  rw [z] at e; cases e
theorem StOk.own_in (s : StOk k f σ ρ H As T) {i : Nat} {a : Addr} (h : a ∈ As i) : ∃ o, H a = some o ∧ ∀ xs, o ≠ .tup xs := by
  by_cases hc : ∃ c, ρ[i]? = some (some c) ∧ c.own = true
  · obtain ⟨c, e, ho⟩ := hc
    obtain ⟨v, _, q⟩ := s.cell i c e
    unfold CellOk at q
    rw [if_pos ho] at q
    exact q.at a h
  · have : As i = [] := s.none_ i fun c e => by
      cases q : c.own with
      | false => rfl
      | true => exact absurd ⟨c, e, q⟩ hc
    rw [this] at h
    cases h
theorem StOk.sub (s : StOk k f σ ρ H As T) (fr : Frm H As H' As') (fresh : ∀ a, Tn a → (∃ i, a ∈ As i) ∨ H a = none) : Sub (f.reg g (ow As T) H) (f.reg g (ow As' (un T Tn)) H') := fun a o e => by
  obtain ⟨n, i, h⟩ := Fx.reg_some.mp e
  refine Fx.reg_some.mpr ⟨fun z => ?_, i, fr.keep a o (fun j hj => n (.inl ⟨j, hj⟩)) h⟩
  rcases z with ⟨j, z⟩ | z | z
  · rcases fr.own j a z with ⟨j', y⟩ | y
    · exact n (.inl ⟨j', y⟩)
    · rw [h] at y; cases y
  · exact n (.inr z)
  · rcases fresh a z with y | y
    · exact n (.inl y)
    · rw [h] at y; cases y
theorem reg_drop {U U' : Addr → Prop} (h : ∀ a, U' a → U a) : Sub (f.reg g U H) (f.reg g U' H) := fun a o e => by
  obtain ⟨n, i, q⟩ := Fx.reg_some.mp e
  exact Fx.reg_some.mpr ⟨fun z => n (h a z), i, q⟩
theorem CellOk.mono {U U' : Addr → Prop} {A : List Addr} {v : V} {c : Cell} (h : CellOk k f H U A v c) (s : ∀ g, Sub (f.reg g U H) (f.reg g U' H')) (e : ∀ a ∈ A, H' a = H a) : CellOk k f H' U' A v c := by
  unfold CellOk at h ⊢
  split
  · rename_i q
    rw [if_pos q] at h
    exact h.mono (s _) e
  · rename_i q
    rw [if_neg q] at h
    exact h.mono (s _)
theorem StOk.drop (s : StOk k f σ ρ H As T) (h : ∀ a, T' a → T a) : StOk k f σ ρ H As T' where
  len := s.len
  cell := fun i c e => by
    obtain ⟨v, e1, q⟩ := s.cell i c e
    exact ⟨v, e1, q.mono (fun g => reg_drop fun a z => z.elim .inl fun z => .inr (h a z)) fun _ _ => rfl⟩
  none_ := s.none_
  disj := s.disj
  nod := s.nod
  nw := s.nw
  tmp := fun a ha => s.tmp a (h a ha)
  tno := fun a ha => s.tno a (h a ha)
  dom := s.dom
  tup := s.tup
  tupb := s.tupb
  fi := fun a ha z => s.fi a ha (z.elim .inl fun z => .inr (h a z))
  fin := s.fin
  iov := s.iov
theorem StOk.congr (s : StOk k f σ ρ H As T) (h : ∀ a, T' a ↔ T a) : StOk k f σ ρ H As T' := s.drop fun a => (h a).mp

/-- what an expression comes to: its own new one, a shared one, a look at what the name i owns -/
inductive Val where
  | tmp (g : Rg) (d : D) | ro (g : Rg) (d : D) | bor (i : Nat) (g : Rg) (d : D)
def Val.d : Val → D
  | .tmp _ d => d
  | .ro _ d => d
  | .bor _ _ d => d
def Val.rg : Val → Rg
  | .tmp g _ => g
  | .ro g _ => g
  | .bor _ g _ => g
def Val.isBor : Val → Bool
  | .bor _ _ _ => true
  | _ => false
def VOk (k : Kx) (f : Fx) (H : Hp) (As : Nat → List Addr) (T Tn : Addr → Prop) (x : V) : Val → Prop
  | .tmp g d => ∃ A, Own k H (f.reg g (ow As T) H) A x d ∧ A.Nodup ∧ (∀ a, Tn a ↔ a ∈ A) ∧ (∀ a ∈ A, f.H0 a = none)
  | .ro g d => (∀ a, ¬ Tn a) ∧ Rep k (f.reg g (ow As T) H) x d
  | .bor i g d => (∀ a, ¬ Tn a) ∧ ∃ A, Own k H (f.reg g (ow As T) H) A x d ∧ A.Sublist (As i)
/-- whatever it is, the heap bears it -/
theorem VOk.rep {x : V} {v : Val} (h : VOk k f H As T Tn x v) : Rep k H x v.d := by
  cases v with
  | tmp g d => obtain ⟨A, o, _⟩ := h; exact o.frz Fx.reg_sub fun a _ u e => e
  | ro g d => exact h.2.mono Fx.reg_sub
  | bor i g d => obtain ⟨_, A, o, _⟩ := h; exact o.frz Fx.reg_sub fun a _ u e => e
/-- while other things are reckoned it stays -/
theorem VOk.later {x : V} {v : Val} (h : VOk k f H As T Tn x v) (s : StOk k f σ ρ H As T) (hT : ∀ a, Tn a → T a) (fr : Frm H As H' As') (fresh : ∀ a, T' a → (∃ i, a ∈ As i) ∨ H a = none)
    (hb : v.isBor = true → As' = As ∧ Sub H H') : VOk k f H' As' (un T T') Tn x v := by
  cases v with
  | tmp g d =>
    obtain ⟨A, o, n, e, z⟩ := h
    refine ⟨A, o.mono (s.sub fr fresh) fun a ha => ?_, n, e, z⟩
    obtain ⟨u, hu, _⟩ := o.at a ha
    rw [hu]
    exact fr.keep a u (s.tmp a (hT a ((e a).mpr ha))) hu
  | ro g d => exact ⟨h.1, h.2.mono (s.sub fr fresh)⟩
  | bor i g d =>
    obtain ⟨n, A, o, e⟩ := h
    obtain ⟨rfl, sb⟩ := hb rfl
    refine ⟨n, A, o.mono (s.sub fr fresh) fun a ha => ?_, e⟩
    obtain ⟨u, hu, _⟩ := o.at a ha
    rw [hu]
    exact sb a u hu

inductive Out (α : Type) where
  | ok (a : α) (ρ : Env) | exc (c : Nat) (ρ : Env)
abbrev Ev (α : Type) := Option (Out α)
abbrev EvF := Env → Ev Val
def bnd {α β : Type} (m : Ev α) (g : α → Env → Ev β) : Ev β :=
  match m with
  | none => none
  | some (.exc c ρ) => some (.exc c ρ)
  | some (.ok a ρ) => g a ρ
theorem bnd_ok {α β : Type} {a : α} {ρ : Env} {g : α → Env → Ev β} : bnd (some (.ok a ρ)) g = g a ρ := rfl

structure Post (k : Kx) (f : Fx) (σ : L2.St) (ρ : Env) (H : Hp) (As : Nat → List Addr) (T : Addr → Prop) (p : Bool) (ρ' : Env) (H' : Hp) (As' : Nat → List Addr) (Tn : Addr → Prop) : Prop where
  st : StOk k f σ ρ' H' As' (un T Tn)
  fr : Frm H As H' As'
  fresh : ∀ a, Tn a → (∃ i, a ∈ As i) ∨ H a = none
  pure : p = true → ρ' = ρ ∧ As' = As ∧ Sub H H'
/-- an exception leaves -/
def ExcOk (k : Kx) (W : WX) (f : Fx) (σ : L2.St) (H : Hp) (As : Nat → List Addr) (T : Addr → Prop) (c : Nat) (ρ' : Env) : Prop :=
  ∀ H' As', StOk k f σ ρ' H' As' T → Frm H As H' As' → W (.ref (k.C c)) none σ H'
/-- what a reckoning m is to reach -/
def Run {α β : Type} (R : Hp → (Nat → List Addr) → (Addr → Prop) → (Addr → Prop) → β → α → Prop) (k : Kx) (W : WX) (f : Fx) (σ : L2.St) (ρ : Env) (H : Hp) (As : Nat → List Addr) (T : Addr → Prop) (p : Bool) (m : Ev α) (Q : β → Hp → Prop) : Prop :=
  match m with
  | none => False
  | some (.exc c ρ') => ExcOk k W f σ H As T c ρ'
  | some (.ok v ρ') => ∀ x H' As' Tn, Post k f σ ρ H As T p ρ' H' As' Tn → R H' As' (un T Tn) Tn x v → Q x H'
/-- the reading of an expression -/
def TEv (k : Kx) (W : WX) (p : Bool) (ev : EvF) : TE := fun σ H Q => ∃ f ρ As T, StOk k f σ ρ H As T ∧ Run (VOk k f) k W f σ ρ H As T p (ev ρ) Q
structure SE (k : Kx) (X : Cx) (e : Expr) (p : Bool) (ev : EvF) : Prop where
  go : ∀ W, Takes X W → PE X e (TEv k W p ev)
end
theorem PE.weak {X : Cx} {e : Expr} {t t' : TE} (h : PE X e t) (w : ∀ σ H Q, t' σ H Q → t σ H Q) : PE X e t' := ⟨fun pins s σ H Q I q => h.run pins s σ H Q I (w σ H Q q)⟩

section
variable {k : Kx} {f : Fx} {σ : L2.St} {ρ ρ' ρ1 ρ2 : Env} {H H' H1 H2 : Hp} {As As' As1 As2 : Nat → List Addr} {T T' Tn Tn1 Tn2 T1 T2 : Addr → Prop} {g : Rg} {p pa pb : Bool} {W : WX}

theorem Post.tr (a : Post k f σ ρ H As T pa ρ1 H1 As1 Tn1) (b : Post k f σ ρ1 H1 As1 (un T Tn1) pb ρ2 H2 As2 Tn2) : Post k f σ ρ H As T (pa && pb) ρ2 H2 As2 (un Tn1 Tn2) where
  st := b.st.congr fun a => by unfold un; exact ⟨fun h => by rcases h with h | h | h; exact .inl (.inl h); exact .inl (.inr h); exact .inr h, fun h => by rcases h with (h | h) | h; exact .inl h; exact .inr (.inl h); exact .inr (.inr h)⟩
  fr := a.fr.tr b.fr
  fresh := fun x h => by
    rcases h with h | h
    · exact a.fresh x h
    · rcases b.fresh x h with ⟨i, y⟩ | z
      · exact a.fr.own i x y
      · refine .inr ?_
        cases q : H x with
        | none => rfl
        | some o => exact absurd z (a.fr.dom x (by rw [q]; intro z; cases z))
  pure := fun h => by
    simp only [Bool.and_eq_true] at h
    obtain ⟨e1, e2, s1⟩ := a.pure h.1
    obtain ⟨e3, e4, s2⟩ := b.pure h.2
    exact ⟨e3.trans e1, e4.trans e2, s1.tr s2⟩
/-- temporaries are dropped -/
theorem Post.drop (a : Post k f σ ρ H As T p ρ1 H1 As1 Tn1) (h : ∀ x, Tn2 x → Tn1 x) : Post k f σ ρ H As T p ρ1 H1 As1 Tn2 where
  st := a.st.drop fun x z => z.elim .inl fun z => .inr (h x z)
  fr := a.fr
  fresh := fun x z => a.fresh x (h x z)
  pure := a.pure
theorem Post.rfl' (s : StOk k f σ ρ H As T) : Post k f σ ρ H As T p ρ H As no where
  st := s.drop fun x z => z.elim id fun z => z.elim
  fr := Frm.rfl'
  fresh := fun x z => z.elim
  pure := fun _ => ⟨rfl, rfl, fun _ _ h => h⟩
theorem Post.weak {q : Bool} (a : Post k f σ ρ H As T p ρ1 H1 As1 Tn1) (h : q = true → p = true) : Post k f σ ρ H As T q ρ1 H1 As1 Tn1 := ⟨a.st, a.fr, a.fresh, fun z => a.pure (h z)⟩
theorem ExcOk.tr {c : Nat} {Hx : Hp} (h : ExcOk k W f σ H As T c ρ') (fr : Frm H As H1 As1) (hT : ∀ a, T a → T1 a) : ExcOk k W f σ H1 As1 T1 c ρ' := fun H' As' s fr' => h H' As' (s.drop hT) (fr.tr fr')

/-- one reckoning ahead of the rest -/
theorem run_bnd {α β γ δ : Type} {R : Hp → (Nat → List Addr) → (Addr → Prop) → (Addr → Prop) → β → α → Prop} {R' : Hp → (Nat → List Addr) → (Addr → Prop) → (Addr → Prop) → δ → γ → Prop} {m : Ev α} {g : α → Env → Ev γ} {Q : δ → Hp → Prop} {Q1 : β → Hp → Prop}
    (h : Run R' k W f σ ρ H As T p (bnd m g) Q)
    (hok : ∀ v ρ1, m = some (.ok v ρ1) → Run R' k W f σ ρ H As T p (g v ρ1) Q → ∀ x H1 As1 Tn1, Post k f σ ρ H As T pa ρ1 H1 As1 Tn1 → R H1 As1 (un T Tn1) Tn1 x v → Q1 x H1) : Run R k W f σ ρ H As T pa m Q1 := by
  cases e : m with
  | none => rw [e] at h; exact h
  | some o =>
    cases o with
    | exc c ρ' => rw [e] at h; exact h
    | ok v ρ1 => rw [e] at h; exact fun x H1 As1 Tn1 po r => hok v ρ1 e h x H1 As1 Tn1 po r
/-- the next one, from where the first one has come -/
theorem run_next {α β γ δ : Type} {R : Hp → (Nat → List Addr) → (Addr → Prop) → (Addr → Prop) → β → α → Prop} {R' : Hp → (Nat → List Addr) → (Addr → Prop) → (Addr → Prop) → δ → γ → Prop} {m : Ev α} {g : α → Env → Ev γ} {Q : δ → Hp → Prop} {Q1 : β → Hp → Prop}
    (h : Run R' k W f σ ρ H As T p (bnd m g) Q) (po : Post k f σ ρ H As T pa ρ1 H1 As1 Tn1)
    (hok : ∀ w ρ2, m = some (.ok w ρ2) → Run R' k W f σ ρ H As T p (g w ρ2) Q → ∀ y H2 As2 Tn2, Post k f σ ρ1 H1 As1 (un T Tn1) pb ρ2 H2 As2 Tn2 → R H2 As2 (un (un T Tn1) Tn2) Tn2 y w → Q1 y H2) : Run R k W f σ ρ1 H1 As1 (un T Tn1) pb m Q1 := by
  cases e : m with
  | none => rw [e] at h; exact h
  | some o =>
    cases o with
    | exc c ρ' => rw [e] at h; exact ExcOk.tr (h := h) (Hx := H) po.fr fun a z => .inl z
    | ok w ρ2 => rw [e] at h; exact fun y H2 As2 Tn2 po2 r => hok w ρ2 e h y H2 As2 Tn2 po2 r
/-- the rest, from where the first one has come -/
theorem Run.from {α β : Type} {R R1 : Hp → (Nat → List Addr) → (Addr → Prop) → (Addr → Prop) → β → α → Prop} {m : Ev α} {Q : β → Hp → Prop} (h : Run R k W f σ ρ H As T p m Q) (po : Post k f σ ρ H As T pa ρ1 H1 As1 Tn1)
    (hp : p = true → (pa && pb) = true)
    (hr : ∀ v ρ2 x H2 As2 Tn2, m = some (.ok v ρ2) → Post k f σ ρ1 H1 As1 (un T Tn1) pb ρ2 H2 As2 Tn2 → R1 H2 As2 (un (un T Tn1) Tn2) Tn2 x v → ∃ Tn, (∀ a, Tn a → un Tn1 Tn2 a) ∧ R H2 As2 (un T Tn) Tn x v) :
    Run R1 k W f σ ρ1 H1 As1 (un T Tn1) pb m Q := by
  cases e : m with
  | none => rw [e] at h; exact h
  | some o =>
    cases o with
    | exc c ρ' => rw [e] at h; exact ExcOk.tr (h := h) (Hx := H) po.fr fun a z => .inl z
    | ok v ρ2 =>
      rw [e] at h
      intro x H2 As2 Tn2 po2 r
      obtain ⟨Tn, hT, q⟩ := hr v ρ2 x H2 As2 Tn2 e po2 r
      exact h x H2 As2 Tn (((po.tr po2).drop hT).weak hp) q
end
end PV

/-! PV3: expressions. -/
namespace PV
open PySem PySem.Spec PyProof.Rows L2

/-- borne by no heap at all: a plain value -/
abbrev Rep0 (k : Kx) (v : V) (d : D) : Prop := Rep k (fun _ => none) v d
theorem Rep0.any {k : Kx} {v : V} {d : D} (h : Rep0 k v d) (F : Hp) : Rep k F v d := h.mono fun _ _ z => by cases z

section
variable {k : Kx} {X : Cx} {a b e : Expr} {pos : Pos} {pa pb p : Bool} {fa fb : EvF}

/-! ### constants, names -/
def evC (d : D) : EvF := fun ρ => some (.ok (.ro .loc d) ρ)
theorem SE.const {v : V} {d : D} (h : PE X e (tC v)) (r : Rep0 k v d) : SE k X e true (evC d) := by
  refine ⟨fun W tk => PE.weak h fun σ H Q h => ?_⟩
  obtain ⟨f, ρ, As, T, st, run⟩ := h
  exact run v H As no (Post.rfl' st) ⟨fun a z => z, r.any _⟩
theorem SE.int {i : Int} {j : Nat} : SE k X (.Constant (.int i) j pos) true (evC (.int i)) := SE.const pe_int (.int i)
theorem SE.bl {i : Bool} {j : Nat} : SE k X (.Constant (.bool i) j pos) true (evC (.bl i)) := SE.const pe_bl (.bl i)
theorem SE.non {j : Nat} : SE k X (.Constant .none j pos) true (evC .non) := SE.const pe_non .non
theorem SE.str {x : Str} {j : Nat} : SE k X (.Constant (.str x) j pos) true (evC (.str x)) := SE.const pe_str (.str x)
theorem SE.gstr {x z : Str} {t : Tok} (hg : Gl X x) (hm : X.mg x = some (.str z t)) (hd : (x == ("__debug__" : Str)) = false) : SE k X (.Name x pos) true (evC (.str z)) := SE.const (pe_glob (v := .str z) hg hm ⟨t, rfl⟩ hd) (.str z)

def evVar (i : Nat) : EvF := fun ρ => match ρ[i]? with
  | some (some c) => some (.ok (if c.own then .bor i c.g c.d else .ro c.g c.d) ρ)
  | _ => none
theorem SE.var {i : Nat} {x : Str} (h : PE X (.Name x pos) (tVar i)) : SE k X (.Name x pos) true (evVar i) := by
  refine ⟨fun W tk => PE.weak h fun σ H Q h => ?_⟩
  obtain ⟨f, ρ, As, T, st, run⟩ := h
  unfold evVar at run
  cases e : ρ[i]? with
  | none => simp only [e] at run; exact run.elim
  | some oc =>
    cases oc with
    | none => simp only [e] at run; exact run.elim
    | some c =>
      simp only [e] at run
      obtain ⟨v, e1, q⟩ := st.cell i c e
      have st' := (Post.rfl' (p := true) st).st
      refine ⟨v, e1, run v H As no (Post.rfl' st) ?_⟩
      have q' : CellOk k f H (ow As (un T no)) (As i) v c := q.mono (fun g => reg_drop fun a z => z.elim .inl fun z => z.elim .inr fun z => z.elim) fun _ _ => rfl
      unfold CellOk at q'
      cases ho : c.own with
      | true =>
        rw [if_pos ho] at q'
        exact ⟨fun a z => z, As i, q', List.Sublist.refl _⟩
      | false =>
        rw [if_neg (by rw [ho]; exact Bool.false_ne_true)] at q'
        exact ⟨fun a z => z, q'⟩

/-! ### two operands, a plain value -/
def evOp2 (op : D → D → Option D) (pb : Bool) (fa fb : EvF) : EvF := fun ρ => bnd (fa ρ) fun v ρ1 => bnd (fb ρ1) fun w ρ2 =>
  if v.isBor && !pb then none else match op v.d w.d with
    | some d => some (.ok (.ro .loc d) ρ2)
    | none => none
theorem later2 {f : Fx} {σ : L2.St} {ρ ρ1 ρ2 : Env} {H H1 H2 : Hp} {As As1 As2 : Nat → List Addr} {T Tn1 Tn2 : Addr → Prop} {v : Val} {x : V} (po1 : Post k f σ ρ H As T pa ρ1 H1 As1 Tn1) (r1 : VOk k f H1 As1 (un T Tn1) Tn1 x v) (po2 : Post k f σ ρ1 H1 As1 (un T Tn1) pb ρ2 H2 As2 Tn2)
    (hb : ¬ (v.isBor && !pb) = true) : VOk k f H2 As2 (un (un T Tn1) Tn2) Tn1 x v := r1.later po1.st (fun _ h => .inr h) po2.fr po2.fresh fun hv => by
  have hp : pb = true := by
    cases pb with
    | true => rfl
    | false => exact absurd (by rw [hv]; rfl) hb
  exact ⟨(po2.pure hp).2.1, (po2.pure hp).2.2⟩
theorem SE.op2 {r : R2} {op : D → D → Option D} (rule : ∀ {ta tb : TE}, PE X a ta → PE X b tb → PE X e (tOp r ta tb))
    (sound : ∀ (H : Hp) (x y : V) (d1 d2 d : D) (Q : VK), Rep k H x d1 → Rep k H y d2 → op d1 d2 = some d → (∀ v, Rep0 k v d → Q v H) → r x y H Q)
    (ha : SE k X a pa fa) (hb : SE k X b pb fb) : SE k X e (pa && pb) (evOp2 op pb fa fb) := by
  refine ⟨fun W tk => PE.weak (rule (ha.go W tk) (hb.go W tk)) fun σ H Q h => ?_⟩
  obtain ⟨f, ρ, As, T, st, run⟩ := h
  refine ⟨f, ρ, As, T, st, run_bnd run fun v ρ1 e1 run1 x H1 As1 Tn1 po1 r1 => ?_⟩
  refine ⟨f, ρ1, As1, _, po1.st, run_next run1 po1 fun w ρ2 e2 run2 y H2 As2 Tn2 po2 r2 => ?_⟩
  split at run2
  · exact run2.elim
  · rename_i hbor
    have l1 := later2 po1 r1 po2 hbor
    cases eo : op v.d w.d with
    | none => simp only [eo] at run2; exact run2.elim
    | some d =>
      simp only [eo] at run2
      exact sound H2 x y _ _ d Q l1.rep r2.rep eo fun z rz => run2 z H2 As2 no ((po1.tr po2).drop fun _ h => h.elim) ⟨fun _ h => h, rz.any _⟩
/-- one operand, a plain value -/
def evOp1 (op : D → Option D) (fa : EvF) : EvF := fun ρ => bnd (fa ρ) fun v ρ1 => match op v.d with
    | some d => some (.ok (.ro .loc d) ρ1)
    | none => none
theorem SE.op1 {r : V → Hp → VK → Prop} {op : D → Option D} (rule : ∀ {ta : TE}, PE X a ta → PE X e (tUn r ta))
    (sound : ∀ (H : Hp) (x : V) (d1 d : D) (Q : VK), Rep k H x d1 → op d1 = some d → (∀ v, Rep0 k v d → Q v H) → r x H Q)
    (ha : SE k X a pa fa) : SE k X e pa (evOp1 op fa) := by
  refine ⟨fun W tk => PE.weak (rule (ha.go W tk)) fun σ H Q h => ?_⟩
  obtain ⟨f, ρ, As, T, st, run⟩ := h
  refine ⟨f, ρ, As, T, st, run_bnd run fun v ρ1 e1 run1 x H1 As1 Tn1 po1 r1 => ?_⟩
  cases eo : op v.d with
  | none => simp only [eo] at run1; exact run1.elim
  | some d =>
    simp only [eo] at run1
    exact sound H1 x _ d Q r1.rep eo fun z rz => run1 z H1 As1 no (po1.drop fun _ h => h.elim) ⟨fun _ h => h, rz.any _⟩
end

/-! ### the operators -/
def small (i : Int) : Bool := decide (-(2 ^ 64) < i) && decide (i < 2 ^ 64)
def wide (i : Int) : Bool := decide (i.natAbs < 2 ^ 4000)
/-- the largest list or text that is let grow -/
def lim : Nat := 1000000
theorem lim_line : lim ≤ sizeLine := by decide
def repS (z : Str) (n : Int) : Str := ⟨(List.replicate n.toNat z.cps).foldl (· ++ ·) #[]⟩
theorem repS_len {z : Str} {n : Int} : (repS z n).length = z.length * n.toNat := by
  obtain ⟨c⟩ := z
  show ((List.replicate n.toNat c).foldl (· ++ ·) #[]).size = c.size * n.toNat
  have : ∀ (m : Nat) (a : Array Nat), ((List.replicate m c).foldl (· ++ ·) a).size = a.size + c.size * m := by
    intro m
    induction m with
    | zero => intro a; simp
    | succ m ih => intro a; rw [List.replicate_succ, List.foldl_cons, ih, Array.size_append, Nat.mul_succ]; omega
  rw [this]; simp
def rMulS : R2 := fun x y H Q => ∃ z n, x = .str z ∧ y = .int n ∧ 0 ≤ n ∧ n ≤ lim ∧ z.length * n.toNat ≤ lim ∧ Q (.str (repS z n)) H
theorem repS_nil {z : Str} {n : Int} (h : z.length = 0) : repS z n = z := by
  obtain ⟨c⟩ := z
  have hc : c = #[] := Array.eq_empty_of_size_eq_zero h
  subst hc
  unfold repS
  congr 1
  generalize n.toNat = m
  induction m with
  | zero => rfl
  | succ m ih => rw [List.replicate_succ, List.foldl_cons]; exact ih
theorem op_mulS {X : Cx} : OpR X (binaryOp .Mult) rMulS := by
  intro pins s σ H x y v u Q I rx ry h
  obtain ⟨z, n, rfl, rfl, h0, h1, h2, q⟩ := h
  obtain ⟨t, rfl⟩ := rx
  obtain ⟨t', rfl⟩ := ry
  have hl : (lim : Int) = 1000000 := rfl
  have hl2 : (1000000 : Nat) ≤ sizeLine := by decide
  have hln : lim = 1000000 := rfl
  refine P.mul_str (by rw [decide_eq_false (by omega), decide_eq_false (by omega)]; rfl) (fun hn _ => ?_) (fun hn _ => decide_eq_false (by omega)) ?_
  · rw [Int.not_lt] at *
    have hz : (z.length : Int) * n ≤ 1000000 := by
      have : ((z.length * n.toNat : Nat) : Int) ≤ ((lim : Nat) : Int) := by exact_mod_cast h2
      rw [Int.natCast_mul, Int.toNat_of_nonneg h0] at this
      exact this
    rw [Int.le_ediv_iff_mul_le (by omega)]
    omega
  · split
    · rename_i hn
      have e : n.toNat = 0 := by omega
      have er : repS z n = Str.empty := by unfold repS; rw [e]; rfl
      exact ⟨by decide, ⟨.str Str.empty, H, I.tok _, ⟨_, rfl⟩, er ▸ q⟩⟩
    · rename_i hn
      split
      · rename_i hz
        have er : repS z n = z := by
          simp only [Bool.or_eq_true, beq_iff_eq] at hz
          rcases hz with hz | hz
          · subst hz
            unfold repS
            show (⟨#[] ++ z.cps⟩ : Str) = z
            rw [Array.empty_append]
          · exact repS_nil hz
        exact ⟨.str z, H, I, ⟨t, rfl⟩, er ▸ q⟩
      · refine ⟨?_, ⟨.str _, H, I.tok _, ⟨_, rfl⟩, q⟩⟩
        exact Nat.le_trans (Nat.le_of_eq repS_len) (Nat.le_trans h2 lim_line)
inductive BOp where
  | add | sub | mul | fdiv | mod | pow
  deriving DecidableEq
def BOp.op : BOp → Operator
  | .add => .Add
  | .sub => .Sub
  | .mul => .Mult
  | .fdiv => .FloorDiv
  | .mod => .Mod
  | .pow => .Pow
def bop : BOp → D → D → Option D
  | .add, .int i, .int j => some (.int (i + j))
  | .add, .str x, .str y => if x.length + y.length ≤ lim then some (.str (x ++ y)) else none
  | .sub, .int i, .int j => some (.int (i - j))
  | .mul, .int i, .int j => if (small i || small j || (wide i && wide j)) = true then some (.int (i * j)) else none
  | .mul, .str z, .int n => if 0 ≤ n ∧ n ≤ lim ∧ z.length * n.toNat ≤ lim then some (.str (repS z n)) else none
  | .fdiv, .int i, .int j => if 0 < j ∧ wide j = true then some (.int (i / j)) else none
  | .mod, .int i, .int j => if 0 < j then some (.int (i % j)) else none
  | .pow, .int i, .int j => if 0 ≤ j ∧ j ≤ 1000000 ∧ i.natAbs < 2 ^ 64 then some (.int (i ^ j.toNat)) else none
  | _, _, _ => none
theorem rep_int {k : Kx} {F : Hp} {x : V} {i : Int} (h : Rep k F x (.int i)) : x = .int i := by cases h; rfl
theorem rep_bl {k : Kx} {F : Hp} {x : V} {i : Bool} (h : Rep k F x (.bl i)) : x = .bl i := by cases h; rfl
theorem rep_str {k : Kx} {F : Hp} {x : V} {i : Str} (h : Rep k F x (.str i)) : x = .str i := by cases h; rfl
theorem rep_non {k : Kx} {F : Hp} {x : V} (h : Rep k F x .non) : x = .non := by cases h; rfl
theorem wide_ok {i j : Int} (h1 : wide i = true) (h2 : wide j = true) : CMulW i j := wide_mul (of_decide_eq_true h1) (of_decide_eq_true h2) (by decide) (by decide) (by decide)
theorem small_ok {i : Int} (h : small i = true) : -(2 ^ 64) < i ∧ i < 2 ^ 64 := by
  simp only [small, Bool.and_eq_true, decide_eq_true_eq] at h
  exact h
/-- the operators' readings, joined -/
def rB : BOp → R2
  | .add => fun x y H Q => (∃ i j, x = .int i ∧ y = .int j ∧ Q (.int (i + j)) H) ∨ ∃ i j, x = .str i ∧ y = .str j ∧ i.length + j.length ≤ sizeLine ∧ Q (.str (i ++ j)) H
  | .sub => rI0 fun i j => .int (i - j)
  | .mul => fun x y H Q => rI CMul (fun i j => .int (i * j)) x y H Q ∨ rI CMulW (fun i j => .int (i * j)) x y H Q ∨ rMulS x y H Q
  | .fdiv => rI CDivW fun i j => .int (i / j)
  | .mod => rI (fun _ j => 0 < j) fun i j => .int (i % j)
  | .pow => rI CPow fun i j => .int (i ^ j.toNat)
theorem opr_B {X : Cx} : ∀ o : BOp, OpR X (binaryOp o.op) (rB o)
  | .add => OpR.or op_add op_add_str
  | .sub => op_sub
  | .mul => OpR.or op_mul (OpR.or op_mulW op_mulS)
  | .fdiv => op_fdivW
  | .mod => op_mod
  | .pow => op_pow
theorem bop_sound {k : Kx} (o : BOp) (H : Hp) (x y : V) (d1 d2 d : D) (Q : VK) (h1 : Rep k H x d1) (h2 : Rep k H y d2) (e : bop o d1 d2 = some d) (q : ∀ v, Rep0 k v d → Q v H) : rB o x y H Q := by
  cases o with
  | add =>
    unfold bop at e
    split at e <;> (try contradiction)
    · cases e
      exact .inl ⟨_, _, rep_int h1, rep_int h2, q _ (.int _)⟩
    · split at e
      · rename_i hl
        cases e
        exact .inr ⟨_, _, rep_str h1, rep_str h2, Nat.le_trans hl lim_line, q _ (.str _)⟩
      · cases e
  | sub =>
    unfold bop at e
    split at e <;> (try contradiction)
    cases e
    exact ⟨_, _, rep_int h1, rep_int h2, q _ (.int _)⟩
  | mul =>
    unfold bop at e
    split at e <;> (try contradiction)
    · split at e
      · rename_i hl
        cases e
        simp only [Bool.or_eq_true, Bool.and_eq_true] at hl
        rcases hl with (hl | hl) | hl
        · exact .inl ⟨_, _, rep_int h1, rep_int h2, .inl (small_ok hl), q _ (.int _)⟩
        · exact .inl ⟨_, _, rep_int h1, rep_int h2, .inr (small_ok hl), q _ (.int _)⟩
        · exact .inr (.inl ⟨_, _, rep_int h1, rep_int h2, wide_ok hl.1 hl.2, q _ (.int _)⟩)
      · cases e
    · split at e
      · rename_i hl
        cases e
        exact .inr (.inr ⟨_, _, rep_str h1, rep_int h2, hl.1, hl.2.1, hl.2.2, q _ (.str _)⟩)
      · cases e
  | fdiv =>
    unfold bop at e
    split at e <;> (try contradiction)
    split at e
    · rename_i hl
      cases e
      exact ⟨_, _, rep_int h1, rep_int h2, wide_div hl.1 (of_decide_eq_true hl.2) (by decide) (by decide), q _ (.int _)⟩
    · cases e
  | mod =>
    unfold bop at e
    split at e <;> (try contradiction)
    split at e
    · rename_i hl
      cases e
      exact ⟨_, _, rep_int h1, rep_int h2, hl, q _ (.int _)⟩
    · cases e
  | pow =>
    unfold bop at e
    split at e <;> (try contradiction)
    split at e
    · rename_i hl
      cases e
      exact ⟨_, _, rep_int h1, rep_int h2, hl, q _ (.int _)⟩
    · cases e
theorem SE.bin {k : Kx} {X : Cx} {a b : Expr} {pos : Pos} {pa pb : Bool} {fa fb : EvF} (o : BOp) (ha : SE k X a pa fa) (hb : SE k X b pb fb) : SE k X (.BinOp a o.op b pos) (pa && pb) (evOp2 (bop o) pb fa fb) :=
  SE.op2 (fun h1 h2 => pe_op (opr_B o) h1 h2) (bop_sound o) ha hb
def nop : D → Option D
  | .int i => some (.int (-i))
  | _ => none
theorem SE.neg {k : Kx} {X : Cx} {a : Expr} {pos : Pos} {pa : Bool} {fa : EvF} (ha : SE k X a pa fa) : SE k X (.UnaryOp .USub a pos) pa (evOp1 nop fa) :=
  SE.op1 (fun h => pe_un un_neg h) (fun H x d1 d Q h1 e q => by
    unfold nop at e
    split at e <;> (try contradiction)
    cases e
    exact ⟨_, rep_int h1, q _ (.int _)⟩) ha
end PV

/-! PV4: comparisons, tests. -/
namespace PV
open PySem PySem.Spec PyProof.Rows L2

/-! ### data compared -/
def all2 {α β : Type} (p : α → β → Bool) : List α → List β → Bool
  | [], [] => true
  | x :: xs, y :: ys => p x y && all2 p xs ys
  | _, _ => false
theorem all2_map {α β γ : Type} [DecidableEq α] {p : β → γ → Bool} {g : α → β} {h : α → γ} (e : ∀ x y, p (g x) (h y) = decide (x = y)) : ∀ xs ys : List α, all2 p (xs.map g) (ys.map h) = decide (xs = ys)
  | [], [] => by simp [all2]
  | [], _ :: _ => by simp [all2]
  | _ :: _, [] => by simp [all2]
  | x :: xs, y :: ys => by simp [all2, e, all2_map e xs ys]
def dataB : Nat → D → Bool
  | _, .non => true
  | _, .bl _ => true
  | _, .int _ => true
  | _, .str x => PyData.strOk x
  | n + 1, .tup l => l.all (dataB n)
  | n + 1, .lst l => l.all (dataB n)
  | _, _ => false
def beqD : Nat → D → D → Bool
  | _, .non, .non => true
  | _, .bl a, .bl b => a == b
  | _, .bl a, .int j => decide ((if a then 1 else 0) = j)
  | _, .int i, .bl b => decide (i = (if b then 1 else 0))
  | _, .int i, .int j => decide (i = j)
  | _, .str x, .str y => decide (x = y)
  | n + 1, .tup l, .tup m => all2 (beqD n) l m
  | n + 1, .lst l, .lst m => all2 (beqD n) l m
  | _, _, _ => false
mutual
def toPy : D → PyData
  | .non => .none
  | .bl b => .bool b
  | .int i => .int i
  | .str x => .str x
  | .tup l => .tuple (toPyL l)
  | .lst l => .list (toPyL l)
  | _ => .none
def toPyL : List D → List PyData
  | [] => []
  | d :: l => toPy d :: toPyL l
end
mutual
theorem data_lay : ∀ (n : Nat) (d : D), dataB n d = true → (toPy d).canLay0 = true ∧ (toPy d).depth ≤ n
  | _, .non, _ => ⟨by simp [toPy, PyData.canLay0], by simp [toPy, PyData.depth]⟩
  | _, .bl _, _ => ⟨by simp [toPy, PyData.canLay0], by simp [toPy, PyData.depth]⟩
  | _, .int _, _ => ⟨by simp [toPy, PyData.canLay0], by simp [toPy, PyData.depth]⟩
  | _, .str x, h => ⟨by simpa [toPy, PyData.canLay0, dataB] using h, by simp [toPy, PyData.depth]⟩
  | 0, .tup _, h => by simp [dataB] at h
  | 0, .lst _, h => by simp [dataB] at h
  | n + 1, .tup l, h => by
    obtain ⟨a, b⟩ := data_layL n l (by simpa [dataB] using h)
    exact ⟨by simpa [toPy, PyData.canLay0] using a, by simp only [toPy, PyData.depth]; omega⟩
  | n + 1, .lst l, h => by
    obtain ⟨a, b⟩ := data_layL n l (by simpa [dataB] using h)
    exact ⟨by simpa [toPy, PyData.canLay0] using a, by simp only [toPy, PyData.depth]; omega⟩
  | _, .ktup _, h => by simp [dataB] at h
  | _, .klst _, h => by simp [dataB] at h
  | _, .dk _, h => by simp [dataB] at h
  | _, .dt _, h => by simp [dataB] at h
  | _, .ins _ _, h => by simp [dataB] at h
  | _, .exc _, h => by simp [dataB] at h
theorem data_layL : ∀ (n : Nat) (l : List D), (∀ d ∈ l, dataB n d = true) → PyData.canLayAll0 (toPyL l) = true ∧ PyData.depthAll (toPyL l) ≤ n
  | _, [], _ => ⟨by simp [toPyL, PyData.canLayAll0], by simp [toPyL, PyData.depthAll]⟩
  | n, d :: l, h => by
    obtain ⟨a, b⟩ := data_lay n d (h d List.mem_cons_self)
    obtain ⟨a', b'⟩ := data_layL n l fun x hx => h x (List.mem_cons_of_mem _ hx)
    exact ⟨by simp [toPyL, PyData.canLayAll0, a, a'], by simp only [toPyL, PyData.depthAll]; omega⟩
end
mutual
theorem eqv_beq : ∀ (n : Nat) (d e : D), dataB n d = true → dataB n e = true → PyData.eqv (toPy d) (toPy e) = beqD n d e
  | n, .tup l, .tup m, h1, h2 => by
    cases n with
    | zero => simp [dataB] at h1
    | succ n =>
      simp only [toPy, PyData.eqv, beqD]
      exact eqv_beqL n l m (by simpa [dataB] using h1) (by simpa [dataB] using h2)
  | n, .lst l, .lst m, h1, h2 => by
    cases n with
    | zero => simp [dataB] at h1
    | succ n =>
      simp only [toPy, PyData.eqv, beqD]
      exact eqv_beqL n l m (by simpa [dataB] using h1) (by simpa [dataB] using h2)
  | n, .non, e, h1, h2 => by cases e <;> cases n <;> simp_all [toPy, PyData.eqv, beqD, dataB]
  | n, .bl _, e, h1, h2 => by cases e <;> cases n <;> simp_all [toPy, PyData.eqv, beqD, dataB, Bool.beq_eq_decide_eq]
  | n, .int _, e, h1, h2 => by cases e <;> cases n <;> simp_all [toPy, PyData.eqv, beqD, dataB, Bool.beq_eq_decide_eq]
  | n, .str _, e, h1, h2 => by cases e <;> cases n <;> simp_all [toPy, PyData.eqv, beqD, dataB, Bool.beq_eq_decide_eq]
  | n, .tup _, .non, h1, h2 => by cases n <;> simp_all [toPy, PyData.eqv, beqD, dataB]
  | n, .tup _, .bl _, h1, h2 => by cases n <;> simp_all [toPy, PyData.eqv, beqD, dataB]
  | n, .tup _, .int _, h1, h2 => by cases n <;> simp_all [toPy, PyData.eqv, beqD, dataB]
  | n, .tup _, .str _, h1, h2 => by cases n <;> simp_all [toPy, PyData.eqv, beqD, dataB]
  | n, .tup _, .lst _, h1, h2 => by cases n <;> simp_all [toPy, PyData.eqv, beqD, dataB]
  | n, .lst _, .non, h1, h2 => by cases n <;> simp_all [toPy, PyData.eqv, beqD, dataB]
  | n, .lst _, .bl _, h1, h2 => by cases n <;> simp_all [toPy, PyData.eqv, beqD, dataB]
  | n, .lst _, .int _, h1, h2 => by cases n <;> simp_all [toPy, PyData.eqv, beqD, dataB]
  | n, .lst _, .str _, h1, h2 => by cases n <;> simp_all [toPy, PyData.eqv, beqD, dataB]
  | n, .lst _, .tup _, h1, h2 => by cases n <;> simp_all [toPy, PyData.eqv, beqD, dataB]
  | n, .ktup _, _, h1, _ => by cases n <;> simp [dataB] at h1
  | n, .klst _, _, h1, _ => by cases n <;> simp [dataB] at h1
  | n, .dk _, _, h1, _ => by cases n <;> simp [dataB] at h1
  | n, .dt _, _, h1, _ => by cases n <;> simp [dataB] at h1
  | n, .ins _ _, _, h1, _ => by cases n <;> simp [dataB] at h1
  | n, .exc _, _, h1, _ => by cases n <;> simp [dataB] at h1
  | n, .tup _, .ktup _, _, h1 => by cases n <;> simp [dataB] at h1
  | n, .tup _, .klst _, _, h1 => by cases n <;> simp [dataB] at h1
  | n, .tup _, .dk _, _, h1 => by cases n <;> simp [dataB] at h1
  | n, .tup _, .dt _, _, h1 => by cases n <;> simp [dataB] at h1
  | n, .tup _, .ins _ _, _, h1 => by cases n <;> simp [dataB] at h1
  | n, .tup _, .exc _, _, h1 => by cases n <;> simp [dataB] at h1
  | n, .lst _, .ktup _, _, h1 => by cases n <;> simp [dataB] at h1
  | n, .lst _, .klst _, _, h1 => by cases n <;> simp [dataB] at h1
  | n, .lst _, .dk _, _, h1 => by cases n <;> simp [dataB] at h1
  | n, .lst _, .dt _, _, h1 => by cases n <;> simp [dataB] at h1
  | n, .lst _, .ins _ _, _, h1 => by cases n <;> simp [dataB] at h1
  | n, .lst _, .exc _, _, h1 => by cases n <;> simp [dataB] at h1
theorem eqv_beqL : ∀ (n : Nat) (l m : List D), (∀ d ∈ l, dataB n d = true) → (∀ d ∈ m, dataB n d = true) → PyData.eqvAll (toPyL l) (toPyL m) = all2 (beqD n) l m
  | _, [], [], _, _ => by simp [toPyL, PyData.eqvAll, all2]
  | _, [], _ :: _, _, _ => by simp [toPyL, PyData.eqvAll, all2]
  | _, _ :: _, [], _, _ => by simp [toPyL, PyData.eqvAll, all2]
  | n, d :: l, e :: m, h1, h2 => by
    simp only [toPyL, PyData.eqvAll, all2]
    rw [eqv_beq n d e (h1 d List.mem_cons_self) (h2 e List.mem_cons_self), eqv_beqL n l m (fun x hx => h1 x (List.mem_cons_of_mem _ hx)) fun x hx => h2 x (List.mem_cons_of_mem _ hx)]
end
mutual
theorem Rep.dp {k : Kx} {H : Hp} : ∀ (n : Nat) {v : V} {d : D}, Rep k H v d → dataB n d = true → Dp k.K H v (toPy d)
  | _, _, _, .non, _ => by simpa [toPy] using Dp.non
  | _, _, _, .bl b, _ => by simpa [toPy] using Dp.bl b
  | _, _, _, .int b, _ => by simpa [toPy] using Dp.int b
  | _, _, _, .str b, _ => by simpa [toPy] using Dp.str b
  | n, _, _, .tup h r, e => by
    cases n with
    | zero => simp [dataB] at e
    | succ n =>
      simp only [toPy]
      exact .tup (.inl (.inl h)) (RepL.dp n r (by simpa [dataB] using e))
  | n, _, _, .lst h r, e => by
    cases n with
    | zero => simp [dataB] at e
    | succ n =>
      simp only [toPy]
      exact .lst (.inl (.inl h)) (RepL.dp n r (by simpa [dataB] using e))
  | n, _, _, .ktup _ _, e => by cases n <;> simp [dataB] at e
  | n, _, _, .klst _ _, e => by cases n <;> simp [dataB] at e
  | n, _, _, .dk _ _ _, e => by cases n <;> simp [dataB] at e
  | n, _, _, .dt _ _ _, e => by cases n <;> simp [dataB] at e
  | n, _, _, .ins _ _ _, e => by cases n <;> simp [dataB] at e
  | n, _, _, .exc _, e => by cases n <;> simp [dataB] at e
theorem RepL.dp {k : Kx} {H : Hp} : ∀ (n : Nat) {vs : List V} {l : List D}, RepL k H vs l → (∀ d ∈ l, dataB n d = true) → DpAll k.K H vs (toPyL l)
  | _, _, _, .nil, _ => by simpa [toPyL] using DpAll.nil
  | n, _, _, .cons r t, e => by
    simp only [toPyL]
    exact .cons (Rep.dp n r (e _ List.mem_cons_self)) (RepL.dp n t fun x hx => e x (List.mem_cons_of_mem _ hx))
end
theorem data_shaped {n : Nat} {d : D} (hn : n ≤ 64) (h : dataB n d = true) : SeqAt.shaped (toPy d) = true := by
  obtain ⟨a, b⟩ := data_lay n d h
  simp only [SeqAt.shaped, a, Bool.true_and, decide_eq_true_eq]
  omega
theorem toPyL_map : ∀ l : List D, toPyL l = l.map toPy
  | [] => rfl
  | d :: l => by simp only [toPyL, List.map_cons, toPyL_map l]

/-! ### the comparisons -/
def dep : Nat := 6
/-- == -/
def eqD : D → D → Option Bool
  | .int i, .int j => some (decide (i = j))
  | .str i, .str j => some (decide (i = j))
  | .bl i, .bl j => some (decide (i = j))
  | d, e => if (dataB dep d && dataB dep e) = true then some (beqD dep d e) else none
/-- a key of a dict -/
def keyK : D → Option Key
  | .int i => some (.inl i)
  | .str x => some (.inr x)
  | _ => none
def keysT : List D → Option (List Key)
  | [] => some []
  | d :: l => match keyK d, keysT l with
    | some k, some r => some (k :: r)
    | _, _ => none
def getK {κ : Type} [DecidableEq κ] (l : List (κ × D)) (k : κ) : Option D := (l.find? fun p => decide (p.1 = k)).map (·.2)
/-- d[y], perhaps -/
def dget : D → D → Option (Option D)
  | .dk l, y => match keyK y with
    | some k => some (getK l k)
    | none => none
  | .dt l, .tup ys => match keysT ys with
    | some k => some (getK l k)
    | none => none
  | _, _ => none
inductive COp where
  | eq | ne | lt | le | gt | ge | is_ | isn | in_ | nin
  deriving DecidableEq
def COp.op : COp → CmpOp
  | .eq => .Eq
  | .ne => .NotEq
  | .lt => .Lt
  | .le => .LtE
  | .gt => .Gt
  | .ge => .GtE
  | .is_ => .Is
  | .isn => .IsNot
  | .in_ => .In
  | .nin => .NotIn
def D.isNon : D → Bool
  | .non => true
  | _ => false
def isD : D → D → Option Bool
  | d, .non => some d.isNon
  | .bl a, .bl b => some (decide (a = b))
  | _, _ => none
def inD : D → D → Option Bool
  | .str x, .str z => if x.cps.size = 1 then some (decide (x.cps.getD 0 0 ∈ z.cps.toList)) else none
  | d, .lst l => if (dataB dep d && l.all (dataB dep)) = true then some (l.any fun z => beqD dep z d) else none
  | y, .dk l => (dget (.dk l) y).map Option.isSome
  | y, .dt l => (dget (.dt l) y).map Option.isSome
  | _, _ => none
def cop : COp → D → D → Option Bool
  | .eq, d, e => eqD d e
  | .ne, d, e => (eqD d e).map not
  | .lt, .int i, .int j => some (decide (i < j))
  | .le, .int i, .int j => some (decide (i ≤ j))
  | .gt, .int i, .int j => some (decide (j < i))
  | .ge, .int i, .int j => some (decide (j ≤ i))
  | .is_, d, e => isD d e
  | .isn, d, e => (isD d e).map not
  | .in_, d, e => inD d e
  | .nin, d, e => (inD d e).map not
  | _, _, _ => none
def bD (b : Option Bool) : Option D := b.map D.bl
end PV

/-! PV5: comparisons by the heap. -/
namespace PV
open PySem PySem.Spec PyProof.Rows L2

def RepO (k : Kx) (F : Hp) : Option V → Option D → Prop
  | some v, some d => Rep k F v d
  | none, none => True
  | _, _ => False
theorem RepO.isSome {k : Kx} {F : Hp} {o : Option V} {p : Option D} (h : RepO k F o p) : o.isSome = p.isSome := by
  cases o <;> cases p <;> first | rfl | exact h.elim
theorem val_rep {κ : Type} [DecidableEq κ] {k : Kx} {F : Hp} {x : κ} : ∀ {kvs : List (κ × V)} {l : List (κ × D)}, kvs.map (·.1) = l.map (·.1) → RepL k F (kvs.map (·.2)) (l.map (·.2)) → RepO k F (valV kvs x) (getK l x)
  | [], [], _, _ => by simp [valV, getK, RepO]
  | [], _ :: _, e, _ => by simp at e
  | _ :: _, [], e, _ => by simp at e
  | p :: kvs, q :: l, e, r => by
    simp only [List.map_cons, List.cons.injEq] at e
    simp only [List.map_cons] at r
    cases r with
    | cons r t =>
      have ih := val_rep (x := x) e.2 t
      unfold valV getK at ih ⊢
      simp only [List.find?_cons]
      by_cases h : p.1 = x
      · have h2 : q.1 = x := e.1 ▸ h
        simp only [h, h2, decide_true, Option.map_some]
        exact r
      · have h2 : ¬ q.1 = x := fun z => h (e.1.trans z)
        simp only [h, h2, decide_false]
        exact ih
theorem keyK_rep {k : Kx} {F : Hp} {y : V} {d : D} {x : Key} (h : Rep k F y d) (e : keyK d = some x) : y = kV x := by
  cases h <;> simp only [keyK] at e <;> cases e <;> rfl
theorem keysT_rep {k : Kx} {F : Hp} : ∀ {vs : List V} {l : List D} {xs : List Key}, RepL k F vs l → keysT l = some xs → vs = xs.map kV
  | _, _, xs, .nil, e => by simp only [keysT, Option.some.injEq] at e; subst e; rfl
  | _, _, xs, .cons (d := d) (l := l) r t, e => by
    simp only [keysT] at e
    cases h1 : keyK d with
    | none => simp [h1] at e
    | some a =>
      cases h2 : keysT l with
      | none => simp [h1, h2] at e
      | some b =>
        simp only [h1, h2, Option.some.injEq] at e
        subst e
        rw [keyK_rep r h1, keysT_rep t h2]
        rfl
/-- d[y] by the heap -/
theorem dget_rep {k : Kx} {F : Hp} {x y : V} {d e : D} {o : Option D} (hd : Rep k F x d) (hy : Rep k F y e) (h : dget d e = some o) : ∃ a r, x = .ref a ∧ DGet F a y r ∧ RepO k F r o := by
  cases hd <;> simp only [dget] at h <;> (try contradiction)
  · rename_i a kvs l h1 h2 h3
    cases q : keyK e with
    | none => simp [q] at h
    | some x =>
      simp only [q, Option.some.injEq] at h
      subst h
      exact ⟨a, _, rfl, .inl ⟨kvs, x, h1, keyK_rep hy q, rfl⟩, val_rep h2 h3⟩
  · rename_i a kvs l h1 h2 h3
    cases hy <;> simp only [dget] at h <;> (try contradiction)
    rename_i b vs m hb hr
    cases q : keysT m with
    | none => simp [q] at h
    | some x =>
      simp only [q, Option.some.injEq] at h
      subst h
      refine ⟨a, _, rfl, .inr ⟨kvs, x, b, h1, rfl, ?_, rfl⟩, val_rep h2 h3⟩
      rw [hb, keysT_rep hr q]

section
variable {X : Cx}
theorem op_din (hu : X.A.units + 1 < cLine) : OpR X (compareOp .In) (fun x y H Q => ∃ a o, y = .ref a ∧ DGet H a x o ∧ Q (.bl o.isSome) H) := by
  intro pins s σ H x y v u Q I rx ry h
  obtain ⟨a, o, rfl, g, q⟩ := h
  obtain rfl : u = Value.ref a := ry
  exact d_in hu I g rx fun s3 I3 => ⟨.bl o.isSome, H, I3, rfl, q⟩
theorem op_dnin (hu : X.A.units + 1 < cLine) : OpR X (compareOp .NotIn) (fun x y H Q => ∃ a o, y = .ref a ∧ DGet H a x o ∧ Q (.bl (!o.isSome)) H) := by
  intro pins s σ H x y v u Q I rx ry h
  obtain ⟨a, o, rfl, g, q⟩ := h
  obtain rfl : u = Value.ref a := ry
  exact d_notIn hu I g rx fun s3 I3 => ⟨.bl (!o.isSome), H, I3, rfl, q⟩
end
def rOr (r r' : R2) : R2 := fun x y H Q => r x y H Q ∨ r' x y H Q
def rInS : R2 := fun x y H Q => ∃ (c : Nat) (z : Str), x = .str ⟨#[c]⟩ ∧ y = .str z ∧ Q (.bl (decide (c ∈ z.cps.toList))) H
def rNinS : R2 := fun x y H Q => ∃ (c : Nat) (z : Str), x = .str ⟨#[c]⟩ ∧ y = .str z ∧ Q (.bl (!decide (c ∈ z.cps.toList))) H
def rInK : R2 := fun x y H Q => ∃ a o, y = .ref a ∧ DGet H a x o ∧ Q (.bl o.isSome) H
def rNinK : R2 := fun x y H Q => ∃ a o, y = .ref a ∧ DGet H a x o ∧ Q (.bl (!o.isSome)) H
def rIsNone : R2 := fun x y H Q => y = .non ∧ Q (.bl (decide (x = .non))) H
def rIsntNone : R2 := fun x y H Q => y = .non ∧ Q (.bl (!decide (x = .non))) H
def rC (K : PySem.W.Frag) : COp → R2
  | .eq => rOr rEq (rEqD K)
  | .ne => rOr rNe (rNeD K)
  | .lt => rI0 fun i j => .bl (decide (i < j))
  | .le => rI0 fun i j => .bl (decide (i ≤ j))
  | .gt => rI0 fun i j => .bl (decide (j < i))
  | .ge => rI0 fun i j => .bl (decide (j ≤ i))
  | .is_ => rOr rIsNone rIsB
  | .isn => rOr rIsntNone rNotB
  | .in_ => rOr rInS (rOr (rInD K) rInK)
  | .nin => rOr rNinS (rOr (rNotInD K) rNinK)
theorem opr_C {X : Cx} (hu : X.A.units + 200 < cLine) : ∀ o : COp, OpR X (compareOp o.op) (rC X.K o)
  | .eq => OpR.or op_eq (op_eqD (by omega))
  | .ne => OpR.or op_ne (op_neD (by omega))
  | .lt => op_lt
  | .le => op_le
  | .gt => op_gt
  | .ge => op_ge
  | .is_ => OpR.or op_isN op_isBl
  | .isn => OpR.or op_notN op_notBl
  | .in_ => OpR.or op_in_sign (OpR.or (op_inD (by omega)) (op_din (by omega)))
  | .nin => OpR.or op_notIn_sign (OpR.or (op_notInD (by omega)) (op_dnin (by omega)))

section
variable {k : Kx} {H : Hp} {x y : V} {d1 d2 : D} {b : Bool} {Q : VK}
theorem eqD_sound (h1 : Rep k H x d1) (h2 : Rep k H y d2) (e : eqD d1 d2 = some b) (q : Q (.bl b) H) : rOr rEq (rEqD k.K) x y H Q := by
  have data : (if (dataB dep d1 && dataB dep d2) = true then some (beqD dep d1 d2) else none) = some b → rOr rEq (rEqD k.K) x y H Q := fun e => by
    split at e
    · rename_i hc
      simp only [Bool.and_eq_true] at hc
      cases e
      refine .inr ⟨_, _, h1.dp _ hc.1, h2.dp _ hc.2, data_shaped (by decide) hc.1, data_shaped (by decide) hc.2, ?_⟩
      rw [eqv_beq _ _ _ hc.1 hc.2]
      exact q
    · cases e
  unfold eqD at e
  split at e
  · cases e
    rw [rep_int h1, rep_int h2]
    refine .inl ⟨rfl, ?_⟩
    simpa using q
  · cases e
    rw [rep_str h1, rep_str h2]
    refine .inl ⟨rfl, ?_⟩
    simpa using q
  · cases e
    rw [rep_bl h1, rep_bl h2]
    refine .inl ⟨rfl, ?_⟩
    simpa using q
  · exact data e
theorem neD_sound (h1 : Rep k H x d1) (h2 : Rep k H y d2) (e : (eqD d1 d2).map not = some b) (q : Q (.bl b) H) : rOr rNe (rNeD k.K) x y H Q := by
  have data : (if (dataB dep d1 && dataB dep d2) = true then some (beqD dep d1 d2) else none).map not = some b → rOr rNe (rNeD k.K) x y H Q := fun e => by
    split at e
    · rename_i hc
      simp only [Bool.and_eq_true] at hc
      cases e
      refine .inr ⟨_, _, h1.dp _ hc.1, h2.dp _ hc.2, data_shaped (by decide) hc.1, data_shaped (by decide) hc.2, ?_⟩
      rw [eqv_beq _ _ _ hc.1 hc.2]
      exact q
    · cases e
  unfold eqD at e
  split at e
  · cases e
    rw [rep_int h1, rep_int h2]
    refine .inl ⟨rfl, ?_⟩
    simpa using q
  · cases e
    rw [rep_str h1, rep_str h2]
    refine .inl ⟨rfl, ?_⟩
    simpa using q
  · cases e
    rw [rep_bl h1, rep_bl h2]
    refine .inl ⟨rfl, ?_⟩
    simpa using q
  · exact data e
theorem rep_nonB (h1 : Rep k H x d1) : decide (x = .non) = d1.isNon := by
  cases h1 <;> simp [D.isNon]
theorem isD_sound (h1 : Rep k H x d1) (h2 : Rep k H y d2) (e : isD d1 d2 = some b) (q : Q (.bl b) H) : rOr rIsNone rIsB x y H Q := by
  unfold isD at e
  split at e
  · cases e
    refine .inl ⟨rep_non h2, ?_⟩
    rw [rep_nonB h1]
    exact q
  · cases e
    exact .inr ⟨_, _, rep_bl h1, rep_bl h2, q⟩
  · cases e
theorem isnD_sound (h1 : Rep k H x d1) (h2 : Rep k H y d2) (e : (isD d1 d2).map not = some b) (q : Q (.bl b) H) : rOr rIsntNone rNotB x y H Q := by
  unfold isD at e
  split at e
  · cases e
    refine .inl ⟨rep_non h2, ?_⟩
    rw [rep_nonB h1]
    exact q
  · cases e
    exact .inr ⟨_, _, rep_bl h1, rep_bl h2, q⟩
  · cases e
theorem str_one {x : Str} (h : x.cps.size = 1) : x = ⟨#[x.cps.getD 0 0]⟩ := by
  obtain ⟨⟨l⟩⟩ := x
  match l, h with
  | [c], _ => rfl
theorem any_eqv {d : D} (hd : dataB dep d = true) : ∀ {l : List D}, l.all (dataB dep) = true → (toPyL l).any (fun z => PyData.eqv z (toPy d)) = l.any fun z => beqD dep z d
  | [], _ => rfl
  | z :: l, h => by
    simp only [List.all_cons, Bool.and_eq_true] at h
    simp only [toPyL, List.any_cons]
    rw [eqv_beq _ _ _ h.1 hd, any_eqv hd h.2]
theorem lst_shaped {l : List D} (h : l.all (dataB dep) = true) : SeqAt.shaped (.list (toPyL l)) = true := by
  have := data_shaped (n := dep + 1) (d := .lst l) (by decide) (by simpa [dataB] using h)
  simpa [toPy] using this
theorem lst_dp {l : List D} (h1 : Rep k H y (.lst l)) (h : l.all (dataB dep) = true) : Dp k.K H y (.list (toPyL l)) := by
  have := h1.dp (dep + 1) (by simpa [dataB] using h)
  simpa [toPy] using this
theorem inD_sound (h1 : Rep k H x d1) (h2 : Rep k H y d2) (e : inD d1 d2 = some b) (q : Q (.bl b) H) : rOr rInS (rOr (rInD k.K) rInK) x y H Q := by
  unfold inD at e
  split at e
  · split at e
    · rename_i hs
      cases e
      refine .inl ⟨_, _, ?_, rep_str h2, q⟩
      rw [rep_str h1]
      exact congrArg V.str (str_one hs)
    · cases e
  · split at e
    · rename_i hc
      simp only [Bool.and_eq_true] at hc
      cases e
      refine .inr (.inl ⟨_, _, h1.dp _ hc.1, lst_dp h2 hc.2, data_shaped (by decide) hc.1, lst_shaped hc.2, ?_⟩)
      rw [any_eqv hc.1 hc.2]
      exact q
    · cases e
  · obtain ⟨o, eo, e'⟩ := Option.map_eq_some_iff.mp e
    obtain ⟨a, r, hy, g, ro⟩ := dget_rep h2 h1 eo
    refine .inr (.inr ⟨a, r, hy, g, ?_⟩)
    rw [ro.isSome, e']
    exact q
  · obtain ⟨o, eo, e'⟩ := Option.map_eq_some_iff.mp e
    obtain ⟨a, r, hy, g, ro⟩ := dget_rep h2 h1 eo
    refine .inr (.inr ⟨a, r, hy, g, ?_⟩)
    rw [ro.isSome, e']
    exact q
  · cases e
theorem ninD_sound (h1 : Rep k H x d1) (h2 : Rep k H y d2) (e : (inD d1 d2).map not = some b) (q : Q (.bl b) H) : rOr rNinS (rOr (rNotInD k.K) rNinK) x y H Q := by
  obtain ⟨c, e0, rfl⟩ := Option.map_eq_some_iff.mp e
  clear e
  have e := e0
  clear e0
  unfold inD at e
  split at e
  · split at e
    · rename_i hs
      cases e
      refine .inl ⟨_, _, ?_, rep_str h2, q⟩
      rw [rep_str h1]
      exact congrArg V.str (str_one hs)
    · cases e
  · split at e
    · rename_i hc
      simp only [Bool.and_eq_true] at hc
      cases e
      refine .inr (.inl ⟨_, _, h1.dp _ hc.1, lst_dp h2 hc.2, data_shaped (by decide) hc.1, lst_shaped hc.2, ?_⟩)
      rw [any_eqv hc.1 hc.2]
      exact q
    · cases e
  · obtain ⟨o, eo, e'⟩ := Option.map_eq_some_iff.mp e
    obtain ⟨a, r, hy, g, ro⟩ := dget_rep h2 h1 eo
    refine .inr (.inr ⟨a, r, hy, g, ?_⟩)
    rw [ro.isSome, e']
    exact q
  · obtain ⟨o, eo, e'⟩ := Option.map_eq_some_iff.mp e
    obtain ⟨a, r, hy, g, ro⟩ := dget_rep h2 h1 eo
    refine .inr (.inr ⟨a, r, hy, g, ?_⟩)
    rw [ro.isSome, e']
    exact q
  · cases e
theorem cop_sound (o : COp) (h1 : Rep k H x d1) (h2 : Rep k H y d2) (e : cop o d1 d2 = some b) (q : Q (.bl b) H) : rC k.K o x y H Q := by
  cases o with
  | eq => exact eqD_sound h1 h2 e q
  | ne => exact neD_sound h1 h2 e q
  | is_ => exact isD_sound h1 h2 e q
  | isn => exact isnD_sound h1 h2 e q
  | in_ => exact inD_sound h1 h2 e q
  | nin => exact ninD_sound h1 h2 e q
  | lt => unfold cop at e; split at e <;> (try contradiction); cases e; exact ⟨_, _, rep_int h1, rep_int h2, q⟩
  | le => unfold cop at e; split at e <;> (try contradiction); cases e; exact ⟨_, _, rep_int h1, rep_int h2, q⟩
  | gt => unfold cop at e; split at e <;> (try contradiction); cases e; exact ⟨_, _, rep_int h1, rep_int h2, q⟩
  | ge => unfold cop at e; split at e <;> (try contradiction); cases e; exact ⟨_, _, rep_int h1, rep_int h2, q⟩
end
end PV

/-! PV6: tests, and, or, not, arguments, displays. -/
namespace PV
open PySem PySem.Spec PyProof.Rows L2

section
variable {k : Kx} {X : Cx} {a b c e : Expr} {pos : Pos} {pa pb pc p : Bool} {fa fb fc : EvF} {W : WX}

/-- the reading of a test -/
def TTv (k : Kx) (W : WX) (p : Bool) (ev : EvF) : TT := fun σ H Q => TEv k W p ev σ H fun x H' => ∃ b, x = .bl b ∧ Q b H'
structure ST (k : Kx) (X : Cx) (e : Expr) (p : Bool) (ev : EvF) : Prop where
  go : ∀ W, Takes X W → PT X e (TTv k W p ev)
theorem PT.weak {t t' : TT} (h : PT X e t) (w : ∀ σ H Q, t' σ H Q → t σ H Q) : PT X e t' := ⟨fun pins s σ H Q I q => h.run pins s σ H Q I (w σ H Q q)⟩
theorem SE.test {ev : EvF} (h : SE k X e p ev) (he : ∀ whole, isTrue e X.env whole = (do let v ← whole; standAt e.pos; holding [v] (truthy v))) : ST k X e p ev :=
  ⟨fun W tk => pt_val (h.go W tk) he⟩

theorem op2_core {r : R2} {op : D → D → Option D}
    (sound : ∀ (H : Hp) (x y : V) (d1 d2 d : D) (Q : VK), Rep k H x d1 → Rep k H y d2 → op d1 d2 = some d → (∀ v, Rep0 k v d → Q v H) → r x y H Q) {σ : L2.St} {H : Hp} {Q : VK}
    (h : TEv k W (pa && pb) (evOp2 op pb fa fb) σ H Q) : tOp r (TEv k W pa fa) (TEv k W pb fb) σ H Q := by
  obtain ⟨f, ρ, As, T, st, run⟩ := h
  refine ⟨f, ρ, As, T, st, run_bnd run fun v ρ1 e1 run1 x H1 As1 Tn1 po1 r1 => ?_⟩
  refine ⟨f, ρ1, As1, _, po1.st, run_next run1 po1 fun w ρ2 e2 run2 y H2 As2 Tn2 po2 r2 => ?_⟩
  split at run2
  · exact run2.elim
  · rename_i hbor
    have l1 := later2 po1 r1 po2 hbor
    cases eo : op v.d w.d with
    | none => simp only [eo] at run2; exact run2.elim
    | some d =>
      simp only [eo] at run2
      exact sound H2 x y _ _ d Q l1.rep r2.rep eo fun z rz => run2 z H2 As2 no ((po1.tr po2).drop fun _ h => h.elim) ⟨fun _ h => h, rz.any _⟩
theorem pc_of {op : CmpOp} {r : R2} {ta tb : TE} (ho : OpR X (compareOp op) r) (ha : PE X a ta) (hb : PE X b tb) : PC X op a b (tOp r ta tb) :=
  ⟨fun pins s σ H Q I h => binT ha hb I h fun v u s2 x y H2 I2 rx ry q => ho pins s2 σ H2 x y v u Q I2 rx ry q⟩
/-- no display of a set -/
def notSet : Expr → Bool
  | .Set _ _ _ => false
  | _ => true
theorem nobeh {o : CmpOp} {b : Expr} (h : notSet b = true) : behindInMarks o b = false := by
  cases b <;> first | rfl | cases h
def cop' (o : COp) (d e : D) : Option D := (cop o d e).map D.bl
theorem cop_sound' (hK : k.K = X.K) (o : COp) (H : Hp) (x y : V) (d1 d2 d : D) (Q : VK) (h1 : Rep k H x d1) (h2 : Rep k H y d2) (e : cop' o d1 d2 = some d) (q : ∀ v, Rep0 k v d → Q v H) : rC X.K o x y H Q := by
  obtain ⟨b, eb, rfl⟩ := Option.map_eq_some_iff.mp e
  rw [← hK]
  exact cop_sound o h1 h2 eb (q _ (.bl b))
theorem SE.cmp (hK : k.K = X.K) (hu : X.A.units + 200 < cLine) (o : COp) (hs : notSet b = true) (ha : SE k X a pa fa) (hb : SE k X b pb fb) : SE k X (.Compare a [o.op] [b] pos) (pa && pb) (evOp2 (cop' o) pb fa fb) :=
  ⟨fun W tk => PE.weak (pe_cmp (pc_of (opr_C hu o) (ha.go W tk) (hb.go W tk)) (nobeh hs)) fun σ H Q h => op2_core (cop_sound' hK o) h⟩
theorem ST.cmp (hK : k.K = X.K) (hu : X.A.units + 200 < cLine) (o : COp) (hs : notSet b = true) (ha : SE k X a pa fa) (hb : SE k X b pb fb) : ST k X (.Compare a [o.op] [b] pos) (pa && pb) (evOp2 (cop' o) pb fa fb) :=
  ⟨fun W tk => PT.weak (pt_cmp (pc_of (opr_C hu o) (ha.go W tk) (hb.go W tk)) (nobeh hs)) fun σ H Q h => op2_core (cop_sound' hK o) h⟩

/-- a op b op' c -/
def evChain (o o' : COp) (pb pc : Bool) (fa fb fc : EvF) : EvF := fun ρ => bnd (fa ρ) fun v ρ1 => bnd (fb ρ1) fun w ρ2 =>
  if (v.isBor && !pb) || (w.isBor && !pc) then none else match cop o v.d w.d with
    | some false => some (.ok (.ro .loc (.bl false)) ρ2)
    | some true => bnd (fc ρ2) fun z ρ3 => match cop o' w.d z.d with
      | some r => some (.ok (.ro .loc (.bl r)) ρ3)
      | none => none
    | none => none
theorem chain_core (hK : k.K = X.K) {o o' : COp} {σ : L2.St} {H : Hp} {Q : VK} (h : TEv k W (pa && pb && pc) (evChain o o' pb pc fa fb fc) σ H Q) :
    tChain (rC X.K o) (rC X.K o') (TEv k W pa fa) (TEv k W pb fb) (TEv k W pc fc) σ H Q := by
  obtain ⟨f, ρ, As, T, st, run⟩ := h
  refine ⟨f, ρ, As, T, st, run_bnd run fun v ρ1 e1 run1 x H1 As1 Tn1 po1 r1 => ?_⟩
  refine ⟨f, ρ1, As1, _, po1.st, run_next run1 po1 fun w ρ2 e2 run2 y H2 As2 Tn2 po2 r2 => ?_⟩
  split at run2
  · exact run2.elim
  · rename_i hbor
    simp only [Bool.or_eq_true, not_or] at hbor
    have l1 := later2 po1 r1 po2 hbor.1
    have po12 := po1.tr po2
    cases eo : cop o v.d w.d with
    | none => simp only [eo] at run2; exact run2.elim
    | some b0 =>
      rw [← hK]
      refine cop_sound o l1.rep r2.rep eo ⟨b0, rfl, ?_⟩
      cases b0 with
      | false =>
        simp only [eo] at run2
        exact iteF (run2 _ H2 As2 no ((po12.drop fun _ h => h.elim).weak fun h => by simp only [Bool.and_eq_true] at h ⊢; exact h.1) ⟨fun _ h => h, .bl false⟩)
      | true =>
        simp only [eo] at run2
        refine iteT ⟨f, ρ2, As2, _, po12.st, run_next run2 po12 fun z ρ3 e3 run3 zv H3 As3 Tn3 po3 r3 => ?_⟩
        have l2 : VOk k f H3 As3 (un (un T (un Tn1 Tn2)) Tn3) Tn2 y w := by
          have r2' : VOk k f H2 As2 (un T (un Tn1 Tn2)) Tn2 y w := by
            have := r2
            have ec : (un (un T Tn1) Tn2) = (un T (un Tn1 Tn2)) := by
              funext a
              exact propext ⟨fun h => by rcases h with (h | h) | h; exact .inl h; exact .inr (.inl h); exact .inr (.inr h), fun h => by rcases h with h | h | h; exact .inl (.inl h); exact .inl (.inr h); exact .inr h⟩
            rw [ec] at this
            exact this
          refine r2'.later po12.st (fun _ h => .inr (.inr h)) po3.fr po3.fresh fun hv => ?_
          have hp : pc = true := by
            cases pc with
            | true => rfl
            | false => exact absurd (by rw [hv]; rfl) hbor.2
          exact ⟨(po3.pure hp).2.1, (po3.pure hp).2.2⟩
        cases eo' : cop o' w.d z.d with
        | none => simp only [eo'] at run3; exact run3.elim
        | some r0 =>
          simp only [eo'] at run3
          exact cop_sound o' l2.rep r3.rep eo' (run3 _ H3 As3 no ((po12.tr po3).drop fun _ h => h.elim) ⟨fun _ h => h, .bl r0⟩)
theorem SE.chain (hK : k.K = X.K) (hu : X.A.units + 200 < cLine) (o o' : COp) (hs : notSet c = true) (ha : SE k X a pa fa) (hb : SE k X b pb fb) (hc : SE k X c pc fc) : SE k X (.Compare a [o.op, o'.op] [b, c] pos) (pa && pb && pc) (evChain o o' pb pc fa fb fc) :=
  ⟨fun W tk => PE.weak (pe_chain (opr_C hu o) (opr_C hu o') (ha.go W tk) (hb.go W tk) (hc.go W tk) (nobeh hs)) fun σ H Q h => chain_core hK h⟩
theorem ST.chain (hK : k.K = X.K) (hu : X.A.units + 200 < cLine) (o o' : COp) (hs : notSet c = true) (ha : SE k X a pa fa) (hb : SE k X b pb fb) (hc : SE k X c pc fc) : ST k X (.Compare a [o.op, o'.op] [b, c] pos) (pa && pb && pc) (evChain o o' pb pc fa fb fc) :=
  ⟨fun W tk => PT.weak (pt_chain (opr_C hu o) (opr_C hu o') (ha.go W tk) (hb.go W tk) (hc.go W tk) (nobeh hs)) fun σ H Q h => chain_core hK h⟩

/-! ### not, and, or -/
def notD : D → Option D
  | .bl b => some (.bl (!b))
  | _ => none
theorem not_core {σ : L2.St} {H : Hp} {Q : VK} (h : TEv k W pa (evOp1 notD fa) σ H Q) : tNotV (TEv k W pa fa) σ H Q := by
  obtain ⟨f, ρ, As, T, st, run⟩ := h
  refine ⟨f, ρ, As, T, st, run_bnd run fun v ρ1 e1 run1 x H1 As1 Tn1 po1 r1 => ?_⟩
  cases eo : notD v.d with
  | none => simp only [eo] at run1; exact run1.elim
  | some d =>
    simp only [eo] at run1
    have rr := r1.rep
    unfold notD at eo
    split at eo <;> (try contradiction)
    rename_i b hb
    cases eo
    rw [hb] at rr
    exact ⟨b, rep_bl rr, run1 _ H1 As1 no (po1.drop fun _ h => h.elim) ⟨fun _ h => h, .bl _⟩⟩
theorem SE.not (ha : SE k X a pa fa) : SE k X (.UnaryOp .Not a pos) pa (evOp1 notD fa) := ⟨fun W tk => PE.weak (pe_not (ha.go W tk)) fun σ H Q h => not_core h⟩
theorem ST.not (ha : ST k X a pa fa) : ST k X (.UnaryOp .Not a pos) pa (evOp1 notD fa) := ⟨fun W tk => PT.weak (pt_not (ha.go W tk)) fun σ H Q h => by
  have := not_core h
  obtain ⟨f, ρ, As, T, st, run⟩ := this
  refine ⟨f, ρ, As, T, st, ?_⟩
  cases e1 : fa ρ with
  | none => rw [e1] at run; exact run.elim
  | some o =>
    rw [e1] at run
    cases o with
    | exc c ρ' => exact run
    | ok v ρ1 =>
      intro x H' As' Tn po r
      obtain ⟨c, rfl, c', e, q⟩ := run x H' As' Tn po r
      cases e
      exact ⟨c, rfl, q⟩⟩
def evAnd (fa fb : EvF) : EvF := fun ρ => bnd (fa ρ) fun v ρ1 => match v.d with
  | .bl true => fb ρ1
  | .bl false => some (.ok (.ro .loc (.bl false)) ρ1)
  | _ => none
def evOr (fa fb : EvF) : EvF := fun ρ => bnd (fa ρ) fun v ρ1 => match v.d with
  | .bl false => fb ρ1
  | .bl true => some (.ok (.ro .loc (.bl true)) ρ1)
  | _ => none
/-- behind the first one's answer the second one goes on -/
theorem go_on {f : Fx} {σ : L2.St} {ρ ρ1 : Env} {H H1 : Hp} {As As1 : Nat → List Addr} {T Tn1 : Addr → Prop} {Q : VK} (po : Post k f σ ρ H As T pa ρ1 H1 As1 Tn1) {m : Ev Val} (h : Run (VOk k f) k W f σ ρ H As T (pa && pb) m Q) : Run (VOk k f) k W f σ ρ1 H1 As1 T pb m Q := by
  have po0 := po.drop (Tn2 := no) fun _ z => z.elim
  cases e : m with
  | none => rw [e] at h; exact h
  | some o =>
    cases o with
    | exc c ρ' => rw [e] at h; exact ExcOk.tr (h := h) (Hx := H) po.fr fun a z => z
    | ok v ρ2 =>
      rw [e] at h
      intro x H2 As2 Tn2 po2 r
      have en : un T no = T := by
        funext a
        exact propext ⟨fun z => z.elim id fun z => z.elim, .inl⟩
      have po0' : Post k f σ ρ H As T pa ρ1 H1 As1 no := po0
      have po2' : Post k f σ ρ1 H1 As1 (un T no) pb ρ2 H2 As2 Tn2 := by rw [en]; exact po2
      have := po0'.tr po2'
      have en2 : un no Tn2 = Tn2 := by
        funext a
        exact propext ⟨fun z => z.elim (fun z => z.elim) id, .inr⟩
      rw [en2] at this
      exact h x H2 As2 Tn2 this r
theorem and_core {σ : L2.St} {H : Hp} {Q : VK} (h : TEv k W (pa && pb) (evAnd fa fb) σ H Q) : tAndV (TEv k W pa fa) (TEv k W pb fb) σ H Q := by
  obtain ⟨f, ρ, As, T, st, run⟩ := h
  refine ⟨f, ρ, As, T, st, run_bnd run fun v ρ1 e1 run1 x H1 As1 Tn1 po1 r1 => ?_⟩
  have rr := r1.rep
  split at run1 <;> (try exact run1.elim)
  · rename_i hb
    rw [hb] at rr
    exact ⟨true, rep_bl rr, iteT ⟨f, ρ1, As1, T, (po1.st.drop fun _ z => .inl z), go_on po1 run1⟩⟩
  · rename_i hb
    rw [hb] at rr
    exact ⟨false, rep_bl rr, iteF (run1 _ H1 As1 no ((po1.drop fun _ h => h.elim).weak fun h => by simp only [Bool.and_eq_true] at h; exact h.1) ⟨fun _ h => h, .bl _⟩)⟩
theorem or_core {σ : L2.St} {H : Hp} {Q : VK} (h : TEv k W (pa && pb) (evOr fa fb) σ H Q) : tOrV (TEv k W pa fa) (TEv k W pb fb) σ H Q := by
  obtain ⟨f, ρ, As, T, st, run⟩ := h
  refine ⟨f, ρ, As, T, st, run_bnd run fun v ρ1 e1 run1 x H1 As1 Tn1 po1 r1 => ?_⟩
  have rr := r1.rep
  split at run1 <;> (try exact run1.elim)
  · rename_i hb
    rw [hb] at rr
    exact ⟨false, rep_bl rr, iteF ⟨f, ρ1, As1, T, (po1.st.drop fun _ z => .inl z), go_on po1 run1⟩⟩
  · rename_i hb
    rw [hb] at rr
    exact ⟨true, rep_bl rr, iteT (run1 _ H1 As1 no ((po1.drop fun _ h => h.elim).weak fun h => by simp only [Bool.and_eq_true] at h; exact h.1) ⟨fun _ h => h, .bl _⟩)⟩
variable {rest : List Expr}
theorem SE.one {op : BoolOp} (ha : SE k X a pa fa) : SE k X (.BoolOp op [a] pos) pa fa := ⟨fun W tk => pe_one (ha.go W tk)⟩
theorem SE.and (ha : SE k X a pa fa) (hb : SE k X (.BoolOp .And (b :: rest) pos) pb fb) : SE k X (.BoolOp .And (a :: b :: rest) pos) (pa && pb) (evAnd fa fb) :=
  ⟨fun W tk => PE.weak (pe_and (ha.go W tk) (hb.go W tk)) fun σ H Q h => and_core h⟩
theorem SE.or (ha : SE k X a pa fa) (hb : SE k X (.BoolOp .Or (b :: rest) pos) pb fb) : SE k X (.BoolOp .Or (a :: b :: rest) pos) (pa && pb) (evOr fa fb) :=
  ⟨fun W tk => PE.weak (pe_or (ha.go W tk) (hb.go W tk)) fun σ H Q h => or_core h⟩
/-- a test whatever its whole is -/
structure SW (k : Kx) (X : Cx) (e : Expr) (p : Bool) (ev : EvF) : Prop where
  go : ∀ W, Takes X W → PW X e (TTv k W p ev)
theorem SW.st {ev : EvF} (h : SW k X e p ev) : ST k X e p ev := ⟨fun W tk => (h.go W tk).pt⟩
theorem PW.weak {t t' : TT} (h : PW X e t) (w : ∀ σ H Q, t' σ H Q → t σ H Q) : PW X e t' := ⟨fun wh pins s σ H Q I q => h.run wh pins s σ H Q I (w σ H Q q)⟩
theorem SW.and1 (ha : ST k X a pa fa) : SW k X (.BoolOp .And [a] pos) pa fa := ⟨fun W tk => pw_and1 (ha.go W tk)⟩
theorem SW.or1 (ha : ST k X a pa fa) : SW k X (.BoolOp .Or [a] pos) pa fa := ⟨fun W tk => pw_or1 (ha.go W tk)⟩
theorem SW.and (ha : ST k X a pa fa) (hb : SW k X (.BoolOp .And (b :: rest) pos) pb fb) : SW k X (.BoolOp .And (a :: b :: rest) pos) (pa && pb) (evAnd fa fb) :=
  ⟨fun W tk => PW.weak (pw_and (ha.go W tk) (hb.go W tk)) fun σ H Q h => by
    have := and_core h
    obtain ⟨f, ρ, As, T, st, run⟩ := this
    refine ⟨f, ρ, As, T, st, ?_⟩
    cases e1 : fa ρ with
    | none => rw [e1] at run; exact run.elim
    | some o =>
      rw [e1] at run
      cases o with
      | exc c ρ' => exact run
      | ok v ρ1 =>
        intro x H' As' Tn po r
        obtain ⟨c, rfl, q⟩ := run x H' As' Tn po r
        refine ⟨c, rfl, ?_⟩
        cases c with
        | true => exact q
        | false =>
          obtain ⟨b', e, q⟩ := q
          cases e
          exact q⟩
theorem SW.or (ha : ST k X a pa fa) (hb : SW k X (.BoolOp .Or (b :: rest) pos) pb fb) : SW k X (.BoolOp .Or (a :: b :: rest) pos) (pa && pb) (evOr fa fb) :=
  ⟨fun W tk => PW.weak (pw_or (ha.go W tk) (hb.go W tk)) fun σ H Q h => by
    have := or_core h
    obtain ⟨f, ρ, As, T, st, run⟩ := this
    refine ⟨f, ρ, As, T, st, ?_⟩
    cases e1 : fa ρ with
    | none => rw [e1] at run; exact run.elim
    | some o =>
      rw [e1] at run
      cases o with
      | exc c ρ' => exact run
      | ok v ρ1 =>
        intro x H' As' Tn po r
        obtain ⟨c, rfl, q⟩ := run x H' As' Tn po r
        refine ⟨c, rfl, ?_⟩
        cases c with
        | false => exact q
        | true =>
          obtain ⟨b', e, q⟩ := q
          cases e
          exact q⟩
end
end PV

/-! PV7: new objects; argument lists; displays. -/
namespace PV
open PySem PySem.Spec PyProof.Rows L2

section
variable {k : Kx} {f : Fx} {σ : L2.St} {ρ ρ' ρ1 ρ2 : Env} {H H' H1 H2 : Hp} {As As' As1 As2 : Nat → List Addr} {T T' Tn Tn1 Tn2 T1 T2 : Addr → Prop} {g : Rg} {p : Bool} {W : WX} {q : Addr} {o : HO}

theorem StOk.free (s : StOk k f σ ρ H As T) (hq : H q = none) : ¬ ow As T q ∧ f.new q ∧ ¬ f.Fi q := by
  refine ⟨fun z => ?_, ?_, fun z => s.fin q z hq⟩
  · rcases z with ⟨i, z⟩ | z
    · obtain ⟨o, e, _⟩ := s.own_in z
      rw [hq] at e; cases e
    · exact s.tin q z hq
  · left
    cases e : f.H0 q with
    | none => rfl
    | some u => exact absurd hq (s.dom q (by rw [e]; intro z; cases z))
theorem sub_upd (hq : H q = none) : Sub H (upd H q o) := fun a u e => by rw [upd_ne (ne_of_none e hq)]; exact e
theorem reg_upd {U : Addr → Prop} (hq : H q = none) : Sub (f.reg g U H) (f.reg g U (upd H q o)) := fun a u e => by
  obtain ⟨n, i, h⟩ := Fx.reg_some.mp e
  exact Fx.reg_some.mpr ⟨n, i, sub_upd hq _ _ h⟩
theorem StOk.alloc (s : StOk k f σ ρ H As T) (hq : H q = none) : StOk k f σ ρ (upd H q o) As T where
  len := s.len
  cell := fun i c e => by
    obtain ⟨v, e1, h⟩ := s.cell i c e
    refine ⟨v, e1, h.mono (fun g => reg_upd hq) fun a ha => ?_⟩
    obtain ⟨u, eu, _⟩ := s.own_in ha
    rw [upd_ne (ne_of_none eu hq)]
  none_ := s.none_
  disj := s.disj
  nod := s.nod
  nw := s.nw
  tmp := s.tmp
  tno := fun a h => by
    obtain ⟨u, e, n⟩ := s.tno a h
    exact ⟨u, sub_upd hq _ _ e, n⟩
  dom := fun a h z => by
    cases e : H a with
    | none => exact s.dom a h e
    | some u => rw [sub_upd hq _ _ e] at z; cases z
  tup := fun a xs h => sub_upd hq _ _ (s.tup a xs h)
  tupb := fun a xs h => by
    by_cases ha : a = q
    · rw [ha]; exact (s.free hq).2.1
    · rw [upd_ne ha] at h; exact s.tupb a xs h
  fi := s.fi
  fin := fun a h z => by
    cases e : H a with
    | none => exact s.fin a h e
    | some u => rw [sub_upd hq _ _ e] at z; cases z
  iov := s.iov
/-- one more is held for the time being -/
theorem StOk.hold (s : StOk k f σ ρ H As T) (h : ∀ a, Tn a → (∀ i, a ∉ As i) ∧ (∃ o, H a = some o ∧ ∀ xs, o ≠ .tup xs) ∧ ¬ f.Fi a) (hc : ∀ i c, ρ[i]? = some (some c) → ∃ v, σ[i]? = some (some v) ∧ CellOk k f H (ow As (un T Tn)) (As i) v c) : StOk k f σ ρ H As (un T Tn) where
  len := s.len
  cell := hc
  none_ := s.none_
  disj := s.disj
  nod := s.nod
  nw := s.nw
  tmp := fun a ha => ha.elim (s.tmp a) fun z => (h a z).1
  tno := fun a ha => ha.elim (s.tno a) fun z => (h a z).2.1
  dom := s.dom
  tup := s.tup
  tupb := s.tupb
  fi := fun a ha z => by
    rcases z with ⟨i, z⟩ | z | z
    · exact s.fi a ha (.inl ⟨i, z⟩)
    · exact s.fi a ha (.inr z)
    · exact (h a z).2.2 ha
  fin := s.fin
  iov := s.iov
/-- a new object, held for the time being -/
theorem StOk.allocT (s : StOk k f σ ρ H As T) (hq : H q = none) (ho : ∀ xs, o ≠ .tup xs) : StOk k f σ ρ (upd H q o) As (un T fun a => a = q) := by
  refine (s.alloc hq).hold (fun a e => ?_) fun i c e => ?_
  · subst e
    exact ⟨fun i z => (s.free hq).1 (.inl ⟨i, z⟩), ⟨o, upd_same, ho⟩, (s.free hq).2.2⟩
  · obtain ⟨v, e1, h⟩ := s.cell i c e
    refine ⟨v, e1, h.mono (fun g a u e => ?_) fun a ha => ?_⟩
    · obtain ⟨n, i, h⟩ := Fx.reg_some.mp e
      refine Fx.reg_some.mpr ⟨fun z => ?_, i, sub_upd hq _ _ h⟩
      rcases z with z | z | z
      · exact n (.inl z)
      · exact n (.inr z)
      · rw [z, hq] at h; cases h
    · obtain ⟨u, eu, _⟩ := s.own_in ha
      rw [upd_ne (ne_of_none eu hq)]
theorem Frm.alloc (hq : H q = none) : Frm H As (upd H q o) As := ⟨fun a u _ e => sub_upd hq _ _ e, fun i a h => .inl ⟨i, h⟩, fun a h z => by
  cases e : H a with
  | none => exact h e
  | some u => rw [sub_upd hq _ _ e] at z; cases z⟩
theorem Frm.none' (fr : Frm H As H1 As1) (hq : H1 q = none) : H q = none := by
  cases e : H q with
  | none => rfl
  | some o => exact absurd hq (fr.dom q (by rw [e]; intro z; cases z))
/-- behind a reckoning a new object is laid that all may share -/
theorem Post.alloc (a : Post k f σ ρ H As T p ρ1 H1 As1 Tn1) (hq : H1 q = none) : Post k f σ ρ H As T p ρ1 (upd H1 q o) As1 Tn1 where
  st := a.st.alloc hq
  fr := a.fr.tr (Frm.alloc hq)
  fresh := a.fresh
  pure := fun h => ⟨(a.pure h).1, (a.pure h).2.1, (a.pure h).2.2.tr (sub_upd hq)⟩
/-- .. that is held -/
theorem Post.allocT (a : Post k f σ ρ H As T p ρ1 H1 As1 Tn1) (hq : H1 q = none) (ho : ∀ xs, o ≠ .tup xs) : Post k f σ ρ H As T p ρ1 (upd H1 q o) As1 (un Tn1 fun a => a = q) where
  st := (a.st.allocT hq ho).congr fun a => by unfold un; exact ⟨fun h => by rcases h with h | h | h; exact .inl (.inl h); exact .inl (.inr h); exact .inr h, fun h => by rcases h with (h | h) | h; exact .inl h; exact .inr (.inl h); exact .inr (.inr h)⟩
  fr := a.fr.tr (Frm.alloc hq)
  fresh := fun x h => h.elim (a.fresh x) fun e => .inr (by rw [e]; exact a.fr.none' hq)
  pure := fun h => ⟨(a.pure h).1, (a.pure h).2.1, (a.pure h).2.2.tr (sub_upd hq)⟩
theorem Post.off (st : StOk k f σ ρ H As T) (a : Post k f σ ρ H As T p ρ1 H1 As1 Tn1) : ∀ x, Tn1 x → ¬ T x := fun x h z => (a.fresh x h).elim (fun ⟨i, y⟩ => st.tmp x z i y) (st.tin x z)
theorem Post.one (a : Post k f σ ρ H As T p ρ1 H1 As1 Tn1) : StOk k f σ ρ1 H1 As1 T := a.st.drop fun _ z => .inl z

/-! ### what may be shared, what may be held -/
def effG (g : Rg) (d : D) : Rg := if d.flat then .loc else g
def effL (g : Rg) (l : List D) : Rg := if l.all D.flat then .loc else g
def frzV : Val → Option Rg
  | .tmp g d => some (effG g d)
  | .ro g d => some (effG g d)
  | .bor _ g d => if d.leaf then some (effG g d) else none
def ownV : Val → Option Rg
  | .tmp g _ => some g
  | .ro g d => if d.leaf then some (effG g d) else none
  | .bor _ g d => if d.leaf then some (effG g d) else none
theorem tups_loc {U : Addr → Prop} (hb : ∀ a xs, H a = some (.tup xs) → f.new a) : Sub (tupsOf (f.reg g U H)) (f.reg .loc U H) := fun a o e => by
  unfold tupsOf at e
  split at e
  · rename_i xs h
    cases e
    obtain ⟨n, _, h'⟩ := Fx.reg_some.mp h
    exact Fx.reg_some.mpr ⟨n, hb a xs h', h'⟩
  · cases e
theorem rep_eff {U : Addr → Prop} {x : V} {d : D} (hb : ∀ a xs, H a = some (.tup xs) → f.new a) (h : Rep k (f.reg g U H) x d) : Rep k (f.reg (effG g d) U H) x d := by
  unfold effG
  split
  · rename_i e
    exact (h.flat e).mono (tups_loc hb)
  · exact h
theorem repL_eff {U : Addr → Prop} {xs : List V} {l : List D} (hb : ∀ a xs, H a = some (.tup xs) → f.new a) (h : RepL k (f.reg g U H) xs l) : RepL k (f.reg (effL g l) U H) xs l := by
  unfold effL
  split
  · rename_i e
    have fl : ∀ {l : List D}, l.all D.flat = true → flatL l = true := by
      intro l
      induction l with
      | nil => intro _; rfl
      | cons d l ih =>
        intro h
        simp only [List.all_cons, Bool.and_eq_true] at h
        simp only [flatL, Bool.and_eq_true]
        exact ⟨h.1, ih h.2⟩
    exact (h.flat (fl e)).mono (tups_loc hb)
  · exact h
theorem own_leaf {F : Hp} {A : List Addr} {x : V} {d : D} (h : Own k H F A x d) (e : d.leaf = true) : A = [] ∧ Rep k F x d := by
  cases h with
  | leaf _ r => exact ⟨rfl, r⟩
  | lst _ _ => simp [D.leaf] at e
  | dk _ _ _ => simp [D.leaf] at e
  | dt _ _ _ => simp [D.leaf] at e
  | ins _ _ _ => simp [D.leaf] at e
/-- the nodes of a temporary, given free -/
theorem own_frz {A : List Addr} {x : V} {d : D} (st : StOk k f σ ρ H As (un T Tn)) (h : Own k H (f.reg g (ow As (un T Tn)) H) A x d) (hA : ∀ a ∈ A, Tn a) (off : ∀ a, Tn a → ¬ T a) (nw : ∀ a ∈ A, f.H0 a = none) : Rep k (f.reg g (ow As T) H) x d :=
  h.frz (reg_drop fun a z => z.elim .inl fun z => .inr (.inl z)) fun a ha o e => Fx.reg_some.mpr ⟨fun z => by
    rcases z with ⟨i, z⟩ | z
    · exact st.tmp a (.inr (hA a ha)) i z
    · exact off a (hA a ha) z, f.inr_new g (.inl (nw a ha)), e⟩
theorem vok_frz {x : V} {v : Val} {g : Rg} (st : StOk k f σ ρ H As (un T Tn)) (h : VOk k f H As (un T Tn) Tn1 x v) (hT : ∀ a, Tn1 a → Tn a) (off : ∀ a, Tn a → ¬ T a) (e : frzV v = some g) : Rep k (f.reg g (ow As T) H) x v.d := by
  cases v with
  | tmp g d =>
    obtain ⟨A, o, n, ea, nw⟩ := h
    cases e
    exact rep_eff st.tupb (own_frz st o (fun a ha => hT a ((ea a).mpr ha)) off nw)
  | ro g d =>
    cases e
    exact rep_eff st.tupb (h.2.mono (reg_drop fun a z => z.elim .inl fun z => .inr (.inl z)))
  | bor i g d =>
    simp only [frzV] at e
    split at e
    · rename_i hl
      cases e
      obtain ⟨_, A, o, _⟩ := h
      exact rep_eff st.tupb ((own_leaf o hl).2.mono (reg_drop fun a z => z.elim .inl fun z => .inr (.inl z)))
    · cases e
theorem vok_own {x : V} {v : Val} {g : Rg} (st : StOk k f σ ρ H As T) (h : VOk k f H As T Tn1 x v) (e : ownV v = some g) : ∃ A, Own k H (f.reg g (ow As T) H) A x v.d ∧ A.Nodup ∧ (∀ a ∈ A, Tn1 a) ∧ ∀ a ∈ A, f.H0 a = none := by
  cases v with
  | tmp g d =>
    obtain ⟨A, o, n, ea, nw⟩ := h
    cases e
    exact ⟨A, o, n, fun a ha => (ea a).mpr ha, nw⟩
  | ro g d =>
    simp only [ownV] at e
    split at e
    · rename_i hl
      cases e
      exact ⟨[], .leaf hl (rep_eff st.tupb h.2), .nil, fun a ha => (nomatch ha), fun a ha => (nomatch ha)⟩
    · cases e
  | bor i g d =>
    simp only [ownV] at e
    split at e
    · rename_i hl
      cases e
      obtain ⟨_, A, o, _⟩ := h
      exact ⟨[], .leaf hl (rep_eff st.tupb (own_leaf o hl).2), .nil, fun a ha => (nomatch ha), fun a ha => (nomatch ha)⟩
    · cases e

/-! ### argument lists -/
inductive VsOk (k : Kx) (f : Fx) (H : Hp) (As : Nat → List Addr) (T : Addr → Prop) : (Addr → Prop) → List V → List Val → Prop
  | nil {Tn : Addr → Prop} : (∀ a, ¬ Tn a) → VsOk k f H As T Tn [] []
  | cons {Tn Tn1 Tn2 : Addr → Prop} {x : V} {v : Val} {xs : List V} {vs : List Val} : VOk k f H As T Tn1 x v → VsOk k f H As T Tn2 xs vs → (∀ a, Tn a ↔ Tn1 a ∨ Tn2 a) → (∀ a, Tn1 a → ¬ Tn2 a) → VsOk k f H As T Tn (x :: xs) (v :: vs)
def TAv (k : Kx) (W : WX) (p : Bool) (ev : Env → Ev (List Val)) : TA := fun σ H Q => ∃ f ρ As T, StOk k f σ ρ H As T ∧ Run (VsOk k f) k W f σ ρ H As T p (ev ρ) Q
structure SA (k : Kx) (X : Cx) (es : List Expr) (p : Bool) (ev : Env → Ev (List Val)) : Prop where
  go : ∀ W, Takes X W → PA X es (TAv k W p ev)
def evNil : Env → Ev (List Val) := fun ρ => some (.ok [] ρ)
def evCons (pr : Bool) (fa : EvF) (fr : Env → Ev (List Val)) : Env → Ev (List Val) := fun ρ => bnd (fa ρ) fun v ρ1 => bnd (fr ρ1) fun vs ρ2 => if v.isBor && !pr then none else some (.ok (v :: vs) ρ2)
theorem PA.weak {X : Cx} {es : List Expr} {t t' : TA} (h : PA X es t) (w : ∀ σ H Q, t' σ H Q → t σ H Q) : PA X es t' := ⟨fun pos pins s σ H Q I q => h.run pos pins s σ H Q I (w σ H Q q)⟩
theorem SA.nil {X : Cx} : SA k X [] true evNil := ⟨fun W tk => PA.weak pa_nil fun σ H Q ⟨f, ρ, As, T, st, run⟩ => run [] H As no (Post.rfl' st) (.nil fun _ h => h)⟩
def notStar : Expr → Bool
  | .Starred _ _ => false
  | _ => true
theorem star_cons {e : Expr} {es : List Expr} {env : PySem.Env} (h : notStar e = true) : starEach (e :: es) env = (false, eval e env) :: starEach es env := by
  cases e <;> first | rfl | cases h
theorem SA.cons {X : Cx} {e : Expr} {es : List Expr} {pa pr : Bool} {fa : EvF} {fr : Env → Ev (List Val)} (hs : notStar e = true) (ha : SE k X e pa fa) (hr : SA k X es pr fr) : SA k X (e :: es) (pa && pr) (evCons pr fa fr) := by
  refine ⟨fun W tk => PA.weak (pa_cons (ha.go W tk) (hr.go W tk) (star_cons hs)) fun σ H Q h => ?_⟩
  obtain ⟨f, ρ, As, T, st, run⟩ := h
  refine ⟨f, ρ, As, T, st, run_bnd run fun v ρ1 e1 run1 x H1 As1 Tn1 po1 r1 => ?_⟩
  refine ⟨f, ρ1, As1, _, po1.st, run_next run1 po1 fun vs ρ2 e2 run2 ys H2 As2 Tn2 po2 r2 => ?_⟩
  split at run2
  · exact run2.elim
  · rename_i hbor
    have l1 := later2 po1 r1 po2 hbor
    have ec : (un (un T Tn1) Tn2) = (un T (un Tn1 Tn2)) := by
      funext a
      exact propext ⟨fun h => by rcases h with (h | h) | h; exact .inl h; exact .inr (.inl h); exact .inr (.inr h), fun h => by rcases h with h | h | h; exact .inl (.inl h); exact .inl (.inr h); exact .inr h⟩
    rw [ec] at l1 r2
    exact run2 (x :: ys) H2 As2 _ (po1.tr po2) (.cons l1 r2 (fun _ => Iff.rfl) fun a h1 h2 => (po2.fresh a h2).elim (fun ⟨i, y⟩ => po1.st.tmp a (.inr h1) i y) (po1.st.tin a (.inr h1)))
def frzAll : List Val → Option (Rg × List D)
  | [] => some (.loc, [])
  | v :: vs => match frzV v, frzAll vs with
    | some g, some (g', ds) => some (g.max g', v.d :: ds)
    | _, _ => none
def ownAll : List Val → Option (Rg × List D)
  | [] => some (.loc, [])
  | v :: vs => match ownV v, ownAll vs with
    | some g, some (g', ds) => some (g.max g', v.d :: ds)
    | _, _ => none
theorem RepL.up {U : Addr → Prop} {g g' : Rg} {xs : List V} {l : List D} (h : RepL k (f.reg g U H) xs l) (e : g.le g' = true) : RepL k (f.reg g' U H) xs l := h.mono (Fx.reg_le e)
theorem vsok_frz {xs : List V} {vs : List Val} (st : StOk k f σ ρ H As (un T Tn)) (off : ∀ a, Tn a → ¬ T a) (h : VsOk k f H As (un T Tn) Tn1 xs vs) : ∀ {g : Rg} {ds : List D}, (∀ a, Tn1 a → Tn a) → frzAll vs = some (g, ds) → RepL k (f.reg g (ow As T) H) xs ds := by
  induction h with
  | nil _ =>
    intro g ds _ e
    cases e
    exact .nil
  | cons h t e d ih =>
    intro g ds hT eq
    simp only [frzAll] at eq
    split at eq
    · rename_i g1 g2 ds2 e1 e2
      cases eq
      refine .cons ((vok_frz st h (fun a z => hT a ((e a).mpr (.inl z))) off e1).mono (Fx.reg_le (Rg.le_max_l _ _))) ((ih (fun a z => hT a ((e a).mpr (.inr z))) e2).up (Rg.le_max_r _ _))
    · cases eq
theorem vsok_own {xs : List V} {vs : List Val} (st : StOk k f σ ρ H As T) (h : VsOk k f H As T Tn1 xs vs) : ∀ {g : Rg} {ds : List D}, ownAll vs = some (g, ds) → ∃ A, OwnL k H (f.reg g (ow As T) H) A xs ds ∧ A.Nodup ∧ (∀ a ∈ A, Tn1 a) ∧ ∀ a ∈ A, f.H0 a = none := by
  induction h with
  | nil _ =>
    intro g ds e
    cases e
    exact ⟨[], .nil, .nil, fun a ha => (nomatch ha), fun a ha => (nomatch ha)⟩
  | cons h t e d ih =>
    intro g ds eq
    simp only [ownAll] at eq
    split at eq
    · rename_i g1 g2 ds2 e1 e2
      cases eq
      obtain ⟨A, o1, n1, i1, w1⟩ := vok_own st h e1
      obtain ⟨B, o2, n2, i2, w2⟩ := ih e2
      refine ⟨A ++ B, .cons (o1.mono (Fx.reg_le (Rg.le_max_l _ _)) fun _ _ => rfl) (o2.mono (Fx.reg_le (Rg.le_max_r _ _)) fun _ _ => rfl), ?_, ?_, ?_⟩
      · exact List.nodup_append.mpr ⟨n1, n2, fun a ha b hb eq => d a (i1 a ha) (eq ▸ i2 b hb)⟩
      · intro a ha
        exact (e a).mpr ((List.mem_append.mp ha).imp (i1 a) (i2 a))
      · intro a ha
        exact (List.mem_append.mp ha).elim (w1 a) (w2 a)
    · cases eq

/-! ### displays -/
/-- a new tuple of shared things -/
theorem rep_newtup {xs : List V} {l : List D} (st : StOk k f σ ρ H As T) (hq : H q = none) (h : RepL k (f.reg g (ow As T) H) xs l) : Rep k (f.reg g (ow As T) (upd H q (.tup xs))) (.ref q) (.tup l) :=
  .tup (Fx.reg_some.mpr ⟨(st.free hq).1, f.inr_new g (st.free hq).2.1, upd_same⟩) (h.mono (reg_upd hq))
theorem rep_newlst {xs : List V} {l : List D} (st : StOk k f σ ρ H As T) (hq : H q = none) (h : RepL k (f.reg g (ow As T) H) xs l) : Rep k (f.reg g (ow As T) (upd H q (.lst xs))) (.ref q) (.lst l) :=
  .lst (Fx.reg_some.mpr ⟨(st.free hq).1, f.inr_new g (st.free hq).2.1, upd_same⟩) (h.mono (reg_upd hq))
def evTup (fs : Env → Ev (List Val)) : EvF := fun ρ => bnd (fs ρ) fun vs ρ1 => match frzAll vs with
  | some (g, ds) => if ds.length ≤ lim then some (.ok (.ro g (.tup ds)) ρ1) else none
  | none => none
theorem SE.tup {X : Cx} {es : List Expr} {n : Nat} {pos : Pos} {pa : Bool} {fs : Env → Ev (List Val)} (h : SA k X es pa fs) : SE k X (.Tuple es n pos) pa (evTup fs) := by
  refine ⟨fun W tk => PE.weak (pe_tup (h.go W tk)) fun σ H Q h => ?_⟩
  obtain ⟨f, ρ, As, T, st, run⟩ := h
  refine ⟨f, ρ, As, T, st, run_bnd run fun vs ρ1 e1 run1 xs H1 As1 Tn1 po1 r1 => ?_⟩
  cases ef : frzAll vs with
  | none => simp only [ef] at run1; exact run1.elim
  | some gd =>
    obtain ⟨g, ds⟩ := gd
    simp only [ef] at run1
    split at run1
    · rename_i hl
      have rl := vsok_frz po1.st (po1.off st) r1 (fun _ z => z) ef
      refine ⟨by rw [rl.len]; exact Nat.le_trans hl lim_line, fun q hq => ?_⟩
      have po2 := (po1.drop (Tn2 := no) fun _ z => z.elim).alloc (o := .tup xs) hq
      refine run1 (.ref q) _ As1 no po2 ⟨fun _ z => z, ?_⟩
      have := rep_newtup po1.one hq rl
      exact this.mono (reg_drop fun a z => z.elim .inl fun z => z.elim .inr fun z => z.elim)
    · exact run1.elim
/-- a new list of the program's own, or a shared one -/
def mkLst (vs : List Val) : Option Val := match ownAll vs with
  | some (g, ds) => some (.tmp g (.lst ds))
  | none => match frzAll vs with
    | some (g, ds) => some (.ro g (.lst ds))
    | none => none
def evLst (fs : Env → Ev (List Val)) : EvF := fun ρ => bnd (fs ρ) fun vs ρ1 => if vs.length ≤ lim then match mkLst vs with
  | some v => some (.ok v ρ1)
  | none => none else none
theorem VsOk.len {T : Addr → Prop} {xs : List V} {vs : List Val} (h : VsOk k f H As T Tn xs vs) : xs.length = vs.length := by
  induction h with
  | nil _ => rfl
  | cons _ _ _ _ ih => simp [ih]
/-- the values xs, just reckoned, laid as a list at q -/
theorem mk_lst {xs : List V} {vs : List Val} {v : Val} {X : Cx} (st : StOk k f σ ρ H As T) (po : Post k f σ ρ H As T p ρ1 H1 As1 Tn1) (r : VsOk k f H1 As1 (un T Tn1) Tn1 xs vs) (e : mkLst vs = some v) (hq : H1 q = none) :
    ∃ Tn, Post k f σ ρ H As T p ρ1 (upd H1 q (.lst xs)) As1 Tn ∧ VOk k f (upd H1 q (.lst xs)) As1 (un T Tn) Tn (.ref q) v := by
  unfold mkLst at e
  split at e
  · rename_i g ds eo
    cases e
    obtain ⟨A, o, n, i, w⟩ := vsok_own po.st r eo
    have fq := po.st.free hq
    have nq : q ∉ A := fun z => fq.1 (.inr (.inr (i q z)))
    refine ⟨fun a => a = q ∨ a ∈ A, (po.allocT hq fun xs z => by cases z).drop fun a z => z.elim .inr fun z => .inl (i a z), q :: A, ?_, List.nodup_cons.mpr ⟨nq, n⟩, fun a => by simp, fun a ha => ?_⟩
    · refine .lst upd_same (o.mono (fun a u e => ?_) fun a ha => ?_)
      · obtain ⟨nn, ii, h⟩ := Fx.reg_some.mp e
        refine Fx.reg_some.mpr ⟨fun z => ?_, ii, sub_upd hq _ _ h⟩
        rcases z with z | z | z | z
        · exact nn (.inl z)
        · exact nn (.inr (.inl z))
        · rw [z, hq] at h; cases h
        · exact nn (.inr (.inr (i a z)))
      · rw [upd_ne]
        intro z
        exact nq (z ▸ ha)
    · rcases List.mem_cons.mp ha with ha | ha
      · rw [ha]
        cases e : f.H0 q with
        | none => rfl
        | some u => exact absurd hq (po.st.dom q (by rw [e]; intro z; cases z))
      · exact w a ha
  · split at e
    · rename_i g ds ef
      cases e
      have rl := vsok_frz po.st (po.off st) r (fun _ z => z) ef
      refine ⟨no, (po.drop (Tn2 := no) fun _ z => z.elim).alloc hq, fun _ z => z, ?_⟩
      exact (rep_newlst po.one hq rl).mono (reg_drop fun a z => z.elim .inl fun z => z.elim .inr fun z => z.elim)
    · cases e
theorem SE.lst {X : Cx} {es : List Expr} {pos : Pos} {pa : Bool} {fs : Env → Ev (List Val)} (h : SA k X es pa fs) : SE k X (.List es pos) pa (evLst fs) := by
  refine ⟨fun W tk => PE.weak (pe_lst (h.go W tk)) fun σ H Q h => ?_⟩
  obtain ⟨f, ρ, As, T, st, run⟩ := h
  refine ⟨f, ρ, As, T, st, run_bnd run fun vs ρ1 e1 run1 xs H1 As1 Tn1 po1 r1 => ?_⟩
  split at run1
  · rename_i hl
    cases em : mkLst vs with
    | none => simp only [em] at run1; exact run1.elim
    | some v =>
      simp only [em] at run1
      refine ⟨by rw [r1.len]; exact Nat.le_trans hl lim_line, fun q hq => ?_⟩
      obtain ⟨Tn, po2, r2⟩ := mk_lst (X := X) st po1 r1 em hq
      exact run1 _ _ As1 Tn po2 r2
  · exact run1.elim
end
end PV

/-! PV8: subscripts, slices. -/
namespace PV
open PySem PySem.Spec PyProof.Rows L2

section
variable {k : Kx} {f : Fx} {σ : L2.St} {ρ ρ' ρ1 ρ2 : Env} {H H' H1 H2 : Hp} {As As' As1 As2 : Nat → List Addr} {T T' Tn Tn1 Tn2 T1 T2 : Addr → Prop} {g : Rg} {p pa pb : Bool} {W : WX} {q : Addr} {o : HO}

/-- a part of what v is -/
def elemV (v : Val) (d : D) : Val := if v.d.leaf || d.leaf then .ro v.rg d else match v with
  | .tmp g _ => .tmp g d
  | .ro g _ => .ro g d
  | .bor i g _ => .bor i g d
theorem OwnL.get {F : Hp} : ∀ {A : List Addr} {vs : List V} {l : List D} {i : Nat} {v : V}, OwnL k H F A vs l → vs[i]? = some v → ∃ d B, l[i]? = some d ∧ Own k H F B v d ∧ B.Sublist A
  | _, _, _, _, _, .nil, e => by simp at e
  | _, _, _, 0, _, .cons r _, e => by simp at e; subst e; exact ⟨_, _, rfl, r, List.sublist_append_left _ _⟩
  | _, _, _, i + 1, _, .cons (A := A) _ t, e => by
    obtain ⟨d, B, h1, h2, h3⟩ := OwnL.get (i := i) t (by simpa using e)
    exact ⟨d, B, by simpa using h1, h2, h3.trans (List.sublist_append_right _ _)⟩
/-- a part of v stands here -/
def ElOk (k : Kx) (f : Fx) (H : Hp) (As : Nat → List Addr) (T Tn : Addr → Prop) (z : V) (v : Val) : Prop := ∃ Tn', (∀ a, Tn' a → Tn a) ∧ VOk k f H As (un T Tn') Tn' z v
theorem ElOk.ro {z : V} {d : D} {g : Rg} (h : Rep k (f.reg g (ow As (un T Tn)) H) z d) : ElOk k f H As T Tn z (.ro g d) :=
  ⟨no, fun _ z => z.elim, fun _ z => z, h.mono (reg_drop fun a z => z.elim .inl fun z => z.elim (fun z => .inr (.inl z)) fun z => z.elim)⟩
/-- a child of what is held, or borrowed -/
theorem el_own {B : List Addr} {z : V} {d : D} {v : Val} {x : V} {A' : List Addr} (hl : v.d.leaf = false) (ob : Own k H (f.reg v.rg (ow As (un T Tn)) H) B z d) (sb : B.Sublist A')
    (hv : match v with
      | .tmp _ _ => A'.Nodup ∧ (∀ a, Tn a ↔ a ∈ A') ∧ ∀ a ∈ A', f.H0 a = none
      | .bor i _ _ => A'.Sublist (As i)
      | .ro _ _ => False) : ElOk k f H As T Tn z (elemV v d) := by
  unfold elemV
  split
  · rename_i hd
    have hd : d.leaf = true := by simpa [hl] using hd
    exact .ro (own_leaf ob hd).2
  · cases v with
    | tmp g e =>
      obtain ⟨n, ea, nw⟩ := hv
      exact ⟨fun a => a ∈ B, fun a ha => (ea a).mpr (sb.subset ha), B, ob.mono (reg_drop fun a z => z.elim .inl fun z => z.elim (fun z => .inr (.inl z)) fun z => .inr (.inr ((ea a).mpr (sb.subset z)))) fun _ _ => rfl, n.sublist sb, fun _ => Iff.rfl, fun a ha => nw a (sb.subset ha)⟩
    | ro g e => exact hv.elim
    | bor i g e => exact ⟨no, fun _ z => z.elim, fun _ z => z, B, ob.mono (reg_drop fun a z => z.elim .inl fun z => z.elim (fun z => .inr (.inl z)) fun z => z.elim) fun _ _ => rfl, sb.trans hv⟩
theorem el_ro {z : V} {d : D} {g : Rg} {e : D} (h : Rep k (f.reg g (ow As (un T Tn)) H) z d) : ElOk k f H As T Tn z (elemV (.ro g e) d) := by
  unfold elemV
  split
  · exact .ro h
  · exact .ro h
theorem el_leaf {z : V} {d : D} {v : Val} (hl : v.d.leaf = true) (h : Rep k (f.reg v.rg (ow As (un T Tn)) H) z d) : ElOk k f H As T Tn z (elemV v d) := by
  unfold elemV
  rw [hl]
  exact .ro h
/-- a list, looked at -/
theorem lst_view {x : V} {v : Val} {l : List D} (h : VOk k f H As (un T Tn) Tn x v) (e : v.d = .lst l) : ∃ (a : Addr) (vs : List V), x = .ref a ∧ H a = some (.lst vs) ∧ RepL k H vs l ∧
    ∀ (i : Nat) (z : V) (d : D), vs[i]? = some z → l[i]? = some d → ElOk k f H As T Tn z (elemV v d) := by
  cases v with
  | ro g d0 =>
    simp only [Val.d] at e
    subst e
    cases h.2 with
    | lst hq hr =>
      refine ⟨_, _, rfl, Fx.reg_sub _ _ hq, hr.mono Fx.reg_sub, fun i z d hz hd => ?_⟩
      obtain ⟨d', h1, h2⟩ := hr.get hz
      rw [hd] at h1
      cases h1
      exact el_ro h2
  | tmp g d0 =>
    simp only [Val.d] at e
    subst e
    obtain ⟨A, o, n, ea, nw⟩ := h
    cases o with
    | leaf hl _ => simp [D.leaf] at hl
    | lst ha ol =>
      refine ⟨_, _, rfl, ha, ol.frz Fx.reg_sub fun a _ u e => e, fun i z d hz hd => ?_⟩
      obtain ⟨d', B, h1, h2, h3⟩ := ol.get hz
      rw [hd] at h1
      cases h1
      exact el_own (v := .tmp g (.lst l)) (x := z) rfl h2 (h3.trans (List.sublist_cons_self _ _)) ⟨n, ea, nw⟩
  | bor i0 g d0 =>
    simp only [Val.d] at e
    subst e
    obtain ⟨nn, A, o, ea⟩ := h
    cases o with
    | leaf hl _ => simp [D.leaf] at hl
    | lst ha ol =>
      refine ⟨_, _, rfl, ha, ol.frz Fx.reg_sub fun a _ u e => e, fun i z d hz hd => ?_⟩
      obtain ⟨d', B, h1, h2, h3⟩ := ol.get hz
      rw [hd] at h1
      cases h1
      exact el_own (v := .bor i0 g (.lst l)) (x := z) rfl h2 (h3.trans (List.sublist_cons_self _ _)) ea
/-- a leaf, looked at -/
theorem leaf_view {x : V} {v : Val} (h : VOk k f H As T Tn x v) (e : v.d.leaf = true) : Rep k (f.reg v.rg (ow As T) H) x v.d := by
  cases v with
  | ro g d => exact h.2
  | tmp g d => obtain ⟨A, o, _⟩ := h; exact (own_leaf o e).2
  | bor i g d => obtain ⟨_, A, o, _⟩ := h; exact (own_leaf o e).2
/-- a list that is only read, looked at -/
theorem klst_view {x : V} {v : Val} {l : List D} (h : VOk k f H As (un T Tn) Tn x v) (e : v.d = .klst l) : ∃ (a : Addr) (vs : List V), x = .ref a ∧ SqL k.K H a vs ∧ RepL k H vs l ∧
    RepL k (f.reg v.rg (ow As (un T Tn)) H) vs l ∧ ∀ (i : Nat) (z : V) (d : D), vs[i]? = some z → l[i]? = some d → ElOk k f H As T Tn z (elemV v d) := by
  have hl : v.d.leaf = true := by rw [e]; rfl
  have r := leaf_view h hl
  rw [e] at r
  cases r with
  | klst hq hr =>
    refine ⟨_, _, rfl, Fx.reg_sub.sqL hq, hr.mono Fx.reg_sub, hr, fun i z d hz hd => ?_⟩
    obtain ⟨d', h1, h2⟩ := hr.get hz
    rw [hd] at h1
    cases h1
    exact el_leaf hl h2
/-- a tuple, looked at -/
theorem tup_view {x : V} {v : Val} {l : List D} (h : VOk k f H As (un T Tn) Tn x v) (e : v.d = .tup l ∨ v.d = .ktup l) : ∃ (a : Addr) (vs : List V), x = .ref a ∧ SqT k.K H a vs ∧ RepL k H vs l ∧
    RepL k (f.reg v.rg (ow As (un T Tn)) H) vs l ∧ ∀ (i : Nat) (z : V) (d : D), vs[i]? = some z → l[i]? = some d → ElOk k f H As T Tn z (elemV v d) := by
  have hl : v.d.leaf = true := by rcases e with e | e <;> rw [e] <;> rfl
  have r := leaf_view h hl
  rcases e with e | e
  · rw [e] at r
    cases r with
    | tup hq hr =>
      refine ⟨_, _, rfl, .inl (.inl (Fx.reg_sub _ _ hq)), hr.mono Fx.reg_sub, hr, fun i z d hz hd => ?_⟩
      obtain ⟨d', h1, h2⟩ := hr.get hz
      rw [hd] at h1
      cases h1
      exact el_leaf hl h2
  · rw [e] at r
    cases r with
    | ktup hq hr =>
      refine ⟨_, _, rfl, hq.elim (fun z => by rcases z with z | ⟨o, z⟩ <;> cases z) .inr, hr.mono Fx.reg_sub, hr, fun i z d hz hd => ?_⟩
      obtain ⟨d', h1, h2⟩ := hr.get hz
      rw [hd] at h1
      cases h1
      exact el_leaf hl h2
theorem val_at {κ : Type} [DecidableEq κ] {x : κ} : ∀ {kvs : List (κ × V)} {l : List (κ × D)} {d : D}, kvs.map (·.1) = l.map (·.1) → getK l x = some d → ∃ (i : Nat) (z : V), valV kvs x = some z ∧ (kvs.map (·.2))[i]? = some z ∧ (l.map (·.2))[i]? = some d
  | [], [], _, _, e => by simp [getK] at e
  | [], _ :: _, _, e, _ => by simp at e
  | _ :: _, [], _, e, _ => by simp at e
  | p :: kvs, q :: l, d, e, g => by
    simp only [List.map_cons, List.cons.injEq] at e
    unfold getK at g
    simp only [List.find?_cons] at g
    by_cases h : q.1 = x
    · simp only [h, decide_true, Option.map_some, Option.some.injEq] at g
      refine ⟨0, p.2, ?_, rfl, by simp [g]⟩
      unfold valV
      simp only [List.find?_cons]
      rw [e.1, h]
      simp
    · simp only [h, decide_false] at g
      obtain ⟨i, z, h1, h2, h3⟩ := val_at (x := x) e.2 (show getK l x = some d from g)
      refine ⟨i + 1, z, ?_, by simpa using h2, by simpa using h3⟩
      unfold valV at h1 ⊢
      simp only [List.find?_cons]
      have : ¬ p.1 = x := fun z => h (e.1 ▸ z)
      simp only [this, decide_false]
      exact h1
/-- a dict, looked at -/
theorem dict_view {x y : V} {v : Val} {e d : D} (h : VOk k f H As (un T Tn) Tn x v) (hy : Rep k H y e) (hg : dget v.d e = some (some d)) : ∃ (a : Addr) (z : V), x = .ref a ∧ DGet H a y (some z) ∧ ElOk k f H As T Tn z (elemV v d) := by
  have main : ∀ (v0 : Val), v = v0 → ∃ (a : Addr) (z : V), x = .ref a ∧ DGet H a y (some z) ∧ ElOk k f H As T Tn z (elemV v d) := by
    intro v0 hv0
    cases v0 with
    | ro g d0 =>
      subst hv0
      cases h.2 <;> simp only [Val.d, dget] at hg <;> (try contradiction)
      · rename_i a kvs l h1 h2 h3
        cases q : keyK e with
        | none => simp [q] at hg
        | some key =>
          simp only [q, Option.some.injEq] at hg
          obtain ⟨i, z, e1, e2, e3⟩ := val_at h2 hg
          obtain ⟨d', r1, r2⟩ := h3.get e2
          rw [e3] at r1
          cases r1
          exact ⟨a, z, rfl, .inl ⟨kvs, key, Fx.reg_sub.rd h1, keyK_rep hy q, e1.symm⟩, el_ro r2⟩
      · rename_i a kvs l h1 h2 h3
        cases hy <;> simp only [dget] at hg <;> (try contradiction)
        rename_i b vs m hb hr
        cases q : keysT m with
        | none => simp [q] at hg
        | some key =>
          simp only [q, Option.some.injEq] at hg
          obtain ⟨i, z, e1, e2, e3⟩ := val_at h2 hg
          obtain ⟨d', r1, r2⟩ := h3.get e2
          rw [e3] at r1
          cases r1
          exact ⟨a, z, rfl, .inr ⟨kvs, key, b, Fx.reg_sub.rd h1, rfl, by rw [hb, keysT_rep hr q], e1.symm⟩, el_ro r2⟩
    | tmp g d0 =>
      subst hv0
      obtain ⟨A, o, n, ea, nw⟩ := h
      cases o with
      | leaf hl r => cases r <;> simp [Val.d, dget] at hg <;> simp [D.leaf] at hl
      | lst _ _ => simp [Val.d, dget] at hg
      | ins _ _ _ => simp [Val.d, dget] at hg
      | dk h1 h2 h3 =>
        rename_i a A kvs l
        simp only [Val.d, dget] at hg
        cases q : keyK e with
        | none => simp [q] at hg
        | some key =>
          simp only [q, Option.some.injEq] at hg
          obtain ⟨i, z, e1, e2, e3⟩ := val_at h2 hg
          obtain ⟨d', B, r1, r2, r3⟩ := h3.get e2
          rw [e3] at r1
          cases r1
          exact ⟨a, z, rfl, .inl ⟨kvs, key, .inl h1, keyK_rep hy q, e1.symm⟩, el_own (v := .tmp g (.dk l)) (x := z) rfl r2 (r3.trans (List.sublist_cons_self _ _)) ⟨n, ea, nw⟩⟩
      | dt h1 h2 h3 =>
        rename_i a A kvs l
        cases hy <;> simp only [Val.d, dget] at hg <;> (try contradiction)
        rename_i b vs m hb hr
        cases q : keysT m with
        | none => simp [q] at hg
        | some key =>
          simp only [q, Option.some.injEq] at hg
          obtain ⟨i, z, e1, e2, e3⟩ := val_at h2 hg
          obtain ⟨d', B, r1, r2, r3⟩ := h3.get e2
          rw [e3] at r1
          cases r1
          exact ⟨a, z, rfl, .inr ⟨kvs, key, b, .inl h1, rfl, by rw [hb, keysT_rep hr q], e1.symm⟩, el_own (v := .tmp g (.dt l)) (x := z) rfl r2 (r3.trans (List.sublist_cons_self _ _)) ⟨n, ea, nw⟩⟩
    | bor i0 g d0 =>
      subst hv0
      obtain ⟨nn, A, o, ea⟩ := h
      cases o with
      | leaf hl r => cases r <;> simp [Val.d, dget] at hg <;> simp [D.leaf] at hl
      | lst _ _ => simp [Val.d, dget] at hg
      | ins _ _ _ => simp [Val.d, dget] at hg
      | dk h1 h2 h3 =>
        rename_i a A kvs l
        simp only [Val.d, dget] at hg
        cases q : keyK e with
        | none => simp [q] at hg
        | some key =>
          simp only [q, Option.some.injEq] at hg
          obtain ⟨i, z, e1, e2, e3⟩ := val_at h2 hg
          obtain ⟨d', B, r1, r2, r3⟩ := h3.get e2
          rw [e3] at r1
          cases r1
          exact ⟨a, z, rfl, .inl ⟨kvs, key, .inl h1, keyK_rep hy q, e1.symm⟩, el_own (v := .bor i0 g (.dk l)) (x := z) rfl r2 (r3.trans (List.sublist_cons_self _ _)) ea⟩
      | dt h1 h2 h3 =>
        rename_i a A kvs l
        cases hy <;> simp only [Val.d, dget] at hg <;> (try contradiction)
        rename_i b vs m hb hr
        cases q : keysT m with
        | none => simp [q] at hg
        | some key =>
          simp only [q, Option.some.injEq] at hg
          obtain ⟨i, z, e1, e2, e3⟩ := val_at h2 hg
          obtain ⟨d', B, r1, r2, r3⟩ := h3.get e2
          rw [e3] at r1
          cases r1
          exact ⟨a, z, rfl, .inr ⟨kvs, key, b, .inl h1, rfl, by rw [hb, keysT_rep hr q], e1.symm⟩, el_own (v := .bor i0 g (.dt l)) (x := z) rfl r2 (r3.trans (List.sublist_cons_self _ _)) ea⟩
  exact main v rfl
end
/-! ### a[i] -/
theorem ix_dict {X : Cx} (hu : X.A.units + 1 < cLine) : IxR X (fun x y H Q => ∃ a v, x = .ref a ∧ DGet H a y (some v) ∧ Q v H) := by
  intro value slice pins s σ H x y v u Q I rx ry h hs
  obtain ⟨a, z, rfl, g, q⟩ := h
  obtain rfl : v = Value.ref a := rx
  have hT := dict_typeIs I g
  unfold subscriptTail
  refine wpAny_bind ?_
  rw [getitemInPython_of_ne hT.not_modules]
  refine wpAny_bind (wpAny_specialOf hT PySem.F.slot_dict_getitem.lookup ?_)
  have fin : wpAny (model X.prog X.w) X.A (subscripted slice false (.ref a) u) (fun r s₃ => wpAny (model X.prog X.w) X.A (letTemporaryGo value (.ref a) r >>= fun _ => pure r) (EP X pins σ Q) X.xe s₃) X.xe s := by
    rw [hs]
    exact wpAny_operating (wpAny_mono (d_getItem hu I g ry fun w' s3 I3 rw' => (⟨z, H, I3, rw', q⟩ : EP X pins σ Q w' s3)) (fun r s₃ h₃ => wpAny_bind (wpAny_letTemporaryGo (wpAny_pure h₃))) fun _ _ x => x)
  first
    | exact wpAny_pure (wpAny_bind fin)
    | exact wpAny_bind (wpAny_pure (wpAny_bind fin))
    | exact wpAny_bind fin
def rIxA (K : PySem.W.Frag) : R2 := fun x y H Q => rIxL K x y H Q ∨ rIxT K x y H Q ∨ rIxS x y H Q ∨ ∃ a v, x = .ref a ∧ DGet H a y (some v) ∧ Q v H
theorem ix_all {X : Cx} (hu : X.A.units + 200 < cLine) : IxR X (rIxA X.K) := IxR.or ix_list (IxR.or ix_tup (IxR.or ix_str (ix_dict (by omega))))
def notSlice : Expr → Bool
  | .Slice _ _ _ _ => false
  | _ => true
theorem plain_ix {b : Expr} (h : notSlice b = true) : PlainIx b := by
  intro o i
  cases b <;> first | rfl | cases h
def subV (v : Val) (y : D) : Option Val := match v.d, y with
  | .lst l, .int i => (atI l i).map (elemV v)
  | .klst l, .int i => (atI l i).map (elemV v)
  | .tup l, .int i => (atI l i).map (elemV v)
  | .ktup l, .int i => (atI l i).map (elemV v)
  | .str z, .int i => if z.length ≤ lim then (atI z.cps.toList i).map fun c => .ro .loc (.str ⟨#[c]⟩) else none
  | .dk l, y => match dget (.dk l) y with
    | some (some d) => some (elemV v d)
    | _ => none
  | .dt l, y => match dget (.dt l) y with
    | some (some d) => some (elemV v d)
    | _ => none
  | _, _ => none
theorem atI_rep {k : Kx} {F : Hp} {vs : List V} {l : List D} {i : Int} {d : D} (r : RepL k F vs l) (h : atI l i = some d) : ∃ (j : Nat) (z : V), atI vs i = some z ∧ vs[j]? = some z ∧ l[j]? = some d := by
  unfold atI at h ⊢
  rw [r.len]
  cases e : ixN l.length i with
  | none => rw [e] at h; cases h
  | some j =>
    rw [e] at h
    obtain ⟨z, h1, _⟩ := r.get' (i := j) (show l[j]? = some d from h)
    exact ⟨j, z, h1, h1, h⟩
def evSub (pb : Bool) (fa fb : EvF) : EvF := fun ρ => bnd (fa ρ) fun v ρ1 => bnd (fb ρ1) fun w ρ2 =>
  if v.isBor && !pb then none else match subV v w.d with
    | some r => some (.ok r ρ2)
    | none => none
theorem SE.sub {k : Kx} {X : Cx} {a b : Expr} {pos : Pos} {pa pb : Bool} {fa fb : EvF} (hK : k.K = X.K) (hu : X.A.units + 200 < cLine) (hs : notSlice b = true) (ha : SE k X a pa fa) (hb : SE k X b pb fb) : SE k X (.Subscript a b pos) (pa && pb) (evSub pb fa fb) := by
  refine ⟨fun W tk => PE.weak (pe_ix (ix_all hu) (ha.go W tk) (hb.go W tk) (plain_ix hs)) fun σ H Q h => ?_⟩
  obtain ⟨f, ρ, As, T, st, run⟩ := h
  refine ⟨f, ρ, As, T, st, run_bnd run fun v ρ1 e1 run1 x H1 As1 Tn1 po1 r1 => ?_⟩
  refine ⟨f, ρ1, As1, _, po1.st, run_next run1 po1 fun w ρ2 e2 run2 y H2 As2 Tn2 po2 r2 => ?_⟩
  split at run2
  · exact run2.elim
  · rename_i hbor
    have l0 := later2 po1 r1 po2 hbor
    have po := po1.tr po2
    have ec : (un (un T Tn1) Tn2) = (un T (un Tn1 Tn2)) := by
      funext a
      exact propext ⟨fun h => by rcases h with (h | h) | h; exact .inl h; exact .inr (.inl h); exact .inr (.inr h), fun h => by rcases h with h | h | h; exact .inl (.inl h); exact .inl (.inr h); exact .inr h⟩
    -- the first one alone, the second's temporaries dropped
    have l1 : VOk k f H2 As2 (un T Tn1) Tn1 x v := by
      have dr : ∀ g, Sub (f.reg g (ow As2 (un (un T Tn1) Tn2)) H2) (f.reg g (ow As2 (un T Tn1)) H2) := fun g => reg_drop fun a z => z.elim .inl fun z => .inr (.inl z)
      cases v with
      | tmp g d => obtain ⟨A, o, q⟩ := l0; exact ⟨A, o.mono (dr g) fun _ _ => rfl, q⟩
      | ro g d => exact ⟨l0.1, l0.2.mono (dr g)⟩
      | bor i g d => obtain ⟨n, A, o, q⟩ := l0; exact ⟨n, A, o.mono (dr g) fun _ _ => rfl, q⟩
    have po' : Post k f σ ρ H As T (pa && pb) ρ2 H2 As2 Tn1 := po.drop fun _ z => .inl z
    have fin : ∀ {z : V} {d : D}, ElOk k f H2 As2 T Tn1 z (elemV v d) → subV v w.d = some (elemV v d) → Q z H2 := fun {z d} hel es => by
      rw [es] at run2
      obtain ⟨Tn', hT, hv⟩ := hel
      exact run2 z H2 As2 Tn' (po'.drop hT) hv
    cases es : subV v w.d with
    | none => simp only [es] at run2; exact run2.elim
    | some r =>
      have es0 := es
      unfold subV at es
      rw [← hK]
      split at es
      · rename_i l i hv hw
        obtain ⟨d, hd, rfl⟩ := Option.map_eq_some_iff.mp es
        obtain ⟨a0, vs, rfl, hq, hrl, hel⟩ := lst_view l1 hv
        obtain ⟨j, z, h1, h2, h3⟩ := atI_rep hrl hd
        exact .inl ⟨a0, vs, i, z, rfl, rep_int (hw ▸ r2.rep), .of hq, h1, fin (hel j z d h2 h3) es0⟩
      · rename_i l i hv hw
        obtain ⟨d, hd, rfl⟩ := Option.map_eq_some_iff.mp es
        obtain ⟨a0, vs, rfl, hq, hrl, _, hel⟩ := klst_view l1 hv
        obtain ⟨j, z, h1, h2, h3⟩ := atI_rep hrl hd
        exact .inl ⟨a0, vs, i, z, rfl, rep_int (hw ▸ r2.rep), hq, h1, fin (hel j z d h2 h3) es0⟩
      · rename_i l i hv hw
        obtain ⟨d, hd, rfl⟩ := Option.map_eq_some_iff.mp es
        obtain ⟨a0, vs, rfl, hq, hrl, _, hel⟩ := tup_view l1 (.inl hv)
        obtain ⟨j, z, h1, h2, h3⟩ := atI_rep hrl hd
        exact .inr (.inl ⟨a0, vs, i, z, rfl, rep_int (hw ▸ r2.rep), hq, h1, fin (hel j z d h2 h3) es0⟩)
      · rename_i l i hv hw
        obtain ⟨d, hd, rfl⟩ := Option.map_eq_some_iff.mp es
        obtain ⟨a0, vs, rfl, hq, hrl, _, hel⟩ := tup_view l1 (.inr hv)
        obtain ⟨j, z, h1, h2, h3⟩ := atI_rep hrl hd
        exact .inr (.inl ⟨a0, vs, i, z, rfl, rep_int (hw ▸ r2.rep), hq, h1, fin (hel j z d h2 h3) es0⟩)
      · rename_i s i hv hw
        split at es
        · rename_i hl
          obtain ⟨c, hd, rfl⟩ := Option.map_eq_some_iff.mp es
          rw [es0] at run2
          exact .inr (.inr (.inl ⟨s, i, c, rep_str (hv ▸ l1.rep), rep_int (hw ▸ r2.rep), Nat.le_trans hl lim_line, hd, run2 _ H2 As2 no (po'.drop fun _ z => z.elim) ⟨fun _ z => z, .str _⟩⟩))
        · cases es
      · rename_i l hv
        split at es
        · rename_i d hg
          cases es
          obtain ⟨a0, z, rfl, hg', hel⟩ := dict_view l1 r2.rep (show dget v.d w.d = some (some d) by rw [hv]; exact hg)
          exact .inr (.inr (.inr ⟨a0, z, rfl, hg', fin hel es0⟩))
        · cases es
      · rename_i l hv
        split at es
        · rename_i d hg
          cases es
          obtain ⟨a0, z, rfl, hg', hel⟩ := dict_view l1 r2.rep (show dget v.d w.d = some (some d) by rw [hv]; exact hg)
          exact .inr (.inr (.inr ⟨a0, z, rfl, hg', fin hel es0⟩))
        · cases es
      · cases es
end PV

/-! PV9: slices, concatenations, built-in functions. -/
namespace PV
open PySem PySem.Spec PyProof.Rows L2

theorem un_assoc {T Tn1 Tn2 : Addr → Prop} : (un (un T Tn1) Tn2) = (un T (un Tn1 Tn2)) := by
  funext a
  exact propext ⟨fun h => by rcases h with (h | h) | h; exact .inl h; exact .inr (.inl h); exact .inr (.inr h), fun h => by rcases h with h | h | h; exact .inl (.inl h); exact .inl (.inr h); exact .inr h⟩
theorem un_no {T : Addr → Prop} : un T no = T := by
  funext a
  exact propext ⟨fun z => z.elim id fun z => z.elim, .inl⟩
section
variable {k : Kx} {f : Fx} {σ : L2.St} {ρ ρ' ρ1 ρ2 : Env} {H H' H1 H2 : Hp} {As As' As1 As2 : Nat → List Addr} {T T' Tn Tn1 Tn2 T1 T2 : Addr → Prop} {g : Rg} {p pa pb : Bool} {W : WX} {q : Addr} {o : HO}

theorem VOk.drop {x : V} {v : Val} (h : VOk k f H As T Tn x v) (hT : ∀ a, T' a → T a) : VOk k f H As T' Tn x v := by
  have dr : ∀ g, Sub (f.reg g (ow As T) H) (f.reg g (ow As T') H) := fun g => reg_drop fun a z => z.elim .inl fun z => .inr (hT a z)
  cases v with
  | tmp g d => obtain ⟨A, o, q⟩ := h; exact ⟨A, o.mono (dr g) fun _ _ => rfl, q⟩
  | ro g d => exact ⟨h.1, h.2.mono (dr g)⟩
  | bor i g d => obtain ⟨n, A, o, q⟩ := h; exact ⟨n, A, o.mono (dr g) fun _ _ => rfl, q⟩
/-- the items of a list or tuple -/
def items : D → Option (List D)
  | .lst l => some l
  | .klst l => some l
  | .tup l => some l
  | .ktup l => some l
  | _ => none
/-- how a new list of some of v's items stands: whether as one's own, and where its items lie -/
def seqG (v : Val) (l : List D) : Option (Bool × Rg) := if l.all D.leaf then some (true, effL v.rg l) else match v with
  | .ro g _ => some (false, g)
  | v => if v.d.leaf then some (false, v.rg) else none
def newL (b : Bool) (g : Rg) (l : List D) : Val := if b then .tmp g (.lst l) else .ro g (.lst l)
theorem seq_view {x : V} {v : Val} {l : List D} {b : Bool} {g : Rg} (st : StOk k f σ ρ H As T) (h : VOk k f H As T Tn x v) (e : items v.d = some l) (eg : seqG v l = some (b, g)) : ∃ (a : Addr) (vs : List V), x = .ref a ∧
    (match v.d with
      | .lst _ => H a = some (.lst vs)
      | .klst _ => SqL k.K H a vs
      | .tup _ => H a = some (.tup vs)
      | _ => SqT k.K (fun _ => none) a vs) ∧ RepL k (f.reg g (ow As T) H) vs l ∧ (b = true → l.all D.leaf = true) := by
  have core : ∃ (a : Addr) (vs : List V), x = .ref a ∧ (match v.d with
      | .lst _ => H a = some (.lst vs)
      | .klst _ => SqL k.K H a vs
      | .tup _ => H a = some (.tup vs)
      | _ => SqT k.K (fun _ => none) a vs) ∧ (l.all D.leaf = true ∨ seqG v l = some (false, v.rg) → RepL k (f.reg v.rg (ow As T) H) vs l) := by
    cases ev : v.d with
    | lst l0 =>
      rw [ev] at e
      cases e
      cases v with
      | ro g d0 =>
        simp only [Val.d] at ev
        subst ev
        cases h.2 with
        | lst hq hr => exact ⟨_, _, rfl, Fx.reg_sub _ _ hq, fun _ => hr⟩
      | tmp g d0 =>
        simp only [Val.d] at ev
        subst ev
        obtain ⟨A, o, n, ea, nw⟩ := h
        cases o with
        | leaf hl _ => simp [D.leaf] at hl
        | lst ha ol =>
          refine ⟨_, _, rfl, ha, fun hh => ?_⟩
          rcases hh with hh | hh
          · exact (ol.leaves fun d hd => List.all_eq_true.mp hh d hd).2
          · unfold seqG at hh
            split at hh
            · rename_i hl
              exact (ol.leaves fun d hd => List.all_eq_true.mp hl d hd).2
            · simp [Val.d, D.leaf] at hh
      | bor i0 g d0 =>
        simp only [Val.d] at ev
        subst ev
        obtain ⟨nn, A, o, ea⟩ := h
        cases o with
        | leaf hl _ => simp [D.leaf] at hl
        | lst ha ol =>
          refine ⟨_, _, rfl, ha, fun hh => ?_⟩
          rcases hh with hh | hh
          · exact (ol.leaves fun d hd => List.all_eq_true.mp hh d hd).2
          · unfold seqG at hh
            split at hh
            · rename_i hl
              exact (ol.leaves fun d hd => List.all_eq_true.mp hl d hd).2
            · simp [Val.d, D.leaf] at hh
    | klst l0 =>
      have r := leaf_view h (by rw [ev]; rfl)
      rw [ev] at e r
      cases e
      cases r with
      | klst hq hr => exact ⟨_, _, rfl, Fx.reg_sub.sqL hq, fun _ => hr⟩
    | tup l0 =>
      have r := leaf_view h (by rw [ev]; rfl)
      rw [ev] at e r
      cases e
      cases r with
      | tup hq hr => exact ⟨_, _, rfl, Fx.reg_sub _ _ hq, fun _ => hr⟩
    | ktup l0 =>
      have r := leaf_view h (by rw [ev]; rfl)
      rw [ev] at e r
      cases e
      cases r with
      | ktup hq hr => exact ⟨_, _, rfl, hq, fun _ => hr⟩
    | non => rw [ev] at e; cases e
    | bl _ => rw [ev] at e; cases e
    | int _ => rw [ev] at e; cases e
    | str _ => rw [ev] at e; cases e
    | dk _ => rw [ev] at e; cases e
    | dt _ => rw [ev] at e; cases e
    | ins _ _ => rw [ev] at e; cases e
    | exc _ => rw [ev] at e; cases e
  obtain ⟨a, vs, hx, hm, hr⟩ := core
  refine ⟨a, vs, hx, hm, ?_⟩
  unfold seqG at eg
  split at eg
  · rename_i hl
    cases eg
    exact ⟨repL_eff st.tupb (hr (.inl hl)), fun _ => hl⟩
  · rename_i hl
    split at eg
    · rename_i g0 d0
      cases eg
      exact ⟨hr (.inr (by unfold seqG; rw [if_neg hl]; rfl)), fun z => by cases z⟩
    · rename_i v0 hv0
      split at eg
      · rename_i hlf
        cases eg
        refine ⟨hr (.inr ?_), fun z => by cases z⟩
        unfold seqG
        rw [if_neg hl]
        split
        · rename_i g1 d1
          exact absurd rfl (hv0 g1 d1)
        · rw [if_pos hlf]
      · cases eg
/-- a new list of shared items is laid -/
theorem new_list {xs : List V} {l : List D} {b : Bool} (st : StOk k f σ ρ H As T) (po : Post k f σ ρ H As T p ρ1 H1 As1 Tn1) (r : RepL k (f.reg g (ow As1 T) H1) xs l) (hb : b = true → l.all D.leaf = true) (hq : H1 q = none) :
    ∃ Tn, Post k f σ ρ H As T p ρ1 (upd H1 q (.lst xs)) As1 Tn ∧ VOk k f (upd H1 q (.lst xs)) As1 (un T Tn) Tn (.ref q) (newL b g l) := by
  have po0 := po.drop (Tn2 := no) fun _ z => z.elim
  have fq := po.one.free hq
  unfold newL
  cases b with
  | true =>
    simp only [if_true]
    have po1 := (po0.allocT (o := .lst xs) hq fun xs z => by cases z)
    have en : un no (fun a => a = q) = (fun a => a = q) := by
      funext a
      exact propext ⟨fun z => z.elim (fun z => z.elim) id, .inr⟩
    rw [en] at po1
    refine ⟨fun a => a = q, po1, [q], ?_, by simp, fun a => by simp, fun a ha => ?_⟩
    · refine .lst upd_same ((r.mono fun a u e => ?_).own fun d hd => List.all_eq_true.mp (hb rfl) d hd)
      obtain ⟨nn, ii, h⟩ := Fx.reg_some.mp e
      refine Fx.reg_some.mpr ⟨fun z => ?_, ii, sub_upd hq _ _ h⟩
      rcases z with z | z | z
      · exact nn (.inl z)
      · exact nn (.inr z)
      · rw [z, hq] at h; cases h
    · rw [List.mem_singleton.mp ha]
      cases e : f.H0 q with
      | none => rfl
      | some u => exact absurd hq (po.st.dom q (by rw [e]; intro z; cases z))
  | false =>
    simp only [Bool.false_eq_true, if_false]
    exact ⟨no, po0.alloc hq, fun _ z => z, (rep_newlst po.one hq r).mono (reg_drop fun a z => z.elim .inl fun z => z.elim .inr fun z => z.elim)⟩

/-! ### slices -/
def cutD (l : List D) (lo hi : Option Int) : List D := (l.drop (HT.sIx l.length 0 lo)).take (HT.sIx l.length l.length hi - HT.sIx l.length 0 lo)
theorem RepL.cut {F : Hp} {vs : List V} {l : List D} (r : RepL k F vs l) (lo hi : Option Int) : RepL k F (cutV vs lo hi) (cutD l lo hi) := by
  unfold cutV cutD
  rw [r.len]
  exact (r.drop _).take _
theorem cut_leaf {l : List D} (h : l.all D.leaf = true) (lo hi : Option Int) : (cutD l lo hi).all D.leaf = true := by
  refine List.all_eq_true.mpr fun d hd => List.all_eq_true.mp h d ?_
  exact (List.mem_of_mem_drop (List.mem_of_mem_take hd))
def slV (v : Val) (lo hi : Option Int) : Option Val := match v.d with
  | .str z => if z.length ≤ lim then some (.ro .loc (.str (cutS z lo hi))) else none
  | .tup l => some (.ro (effL v.rg (cutD l lo hi)) (.tup (cutD l lo hi)))
  | .lst l => match seqG v l with
    | some (b, g) => some (newL b g (cutD l lo hi))
    | none => none
  | .klst l => match seqG v l with
    | some (b, g) => some (newL b g (cutD l lo hi))
    | none => none
  | _ => none
/-- a part of a slice: an int, perhaps -/
def TOv (k : Kx) (W : WX) (p : Bool) (ev : Env → Ev (Option Int)) : TO := fun σ H Q => ∃ f ρ As T, StOk k f σ ρ H As T ∧ Run (β := Option Int) (fun _ _ _ _ i j => i = j) k W f σ ρ H As T p (ev ρ) Q
structure SO (k : Kx) (X : Cx) (e : Option Expr) (p : Bool) (ev : Env → Ev (Option Int)) : Prop where
  go : ∀ W, Takes X W → PO X e (TOv k W p ev)
theorem PO.weak {X : Cx} {e : Option Expr} {t t' : TO} (h : PO X e t) (w : ∀ σ H Q, t' σ H Q → t σ H Q) : PO X e t' := ⟨fun pins s σ H Q I q => h.run pins s σ H Q I (w σ H Q q)⟩
def evNo : Env → Ev (Option Int) := fun ρ => some (.ok none ρ)
def evInt (fa : EvF) : Env → Ev (Option Int) := fun ρ => bnd (fa ρ) fun v ρ1 => match v.d with
  | .int i => some (.ok (some i) ρ1)
  | _ => none
theorem SO.none {X : Cx} : SO k X none true evNo := ⟨fun W tk => PO.weak po_none fun σ H Q ⟨f, ρ, As, T, st, run⟩ => run _ H As no (Post.rfl' st) rfl⟩
theorem SO.some {X : Cx} {e : Expr} {fa : EvF} (h : SE k X e pa fa) : SO k X (some e) pa (evInt fa) := by
  refine ⟨fun W tk => PO.weak (po_some (h.go W tk)) fun σ H Q h => ?_⟩
  obtain ⟨f, ρ, As, T, st, run⟩ := h
  refine ⟨f, ρ, As, T, st, run_bnd run fun v ρ1 e1 run1 x H1 As1 Tn1 po1 r1 => ?_⟩
  split at run1
  · rename_i i hv
    exact ⟨i, rep_int (hv ▸ r1.rep), run1 _ H1 As1 no (po1.drop fun _ z => z.elim) rfl⟩
  · exact run1.elim
def evSlc (fa : EvF) (fl fh : Env → Ev (Option Int)) : EvF := fun ρ => bnd (fa ρ) fun v ρ1 => bnd (fl ρ1) fun lo ρ2 => bnd (fh ρ2) fun hi ρ3 => match slV v lo hi with
  | some r => some (.ok r ρ3)
  | none => none
def rSl (K : PySem.W.Frag) : V → Option Int → Option Int → Hp → VK → Prop := fun x lo hi H Q => rSlL K x lo hi H Q ∨ rSlS x lo hi H Q ∨ rSlA K x lo hi H Q
theorem SE.slc {X : Cx} {a : Expr} {lo hi : Option Expr} {p2 pos : Pos} {fa : EvF} {fl fh : Env → Ev (Option Int)} (hK : k.K = X.K) (ha : SE k X a pa fa) (hl : SO k X lo true fl) (hh : SO k X hi true fh) : SE k X (.Subscript a (.Slice lo hi none p2) pos) pa (evSlc fa fl fh) := by
  refine ⟨fun W tk => PE.weak (pe_slice (SlR.or sl_list (SlR.or sl_str sl_tupA)) (ha.go W tk) (hl.go W tk) (hh.go W tk)) fun σ H Q h => ?_⟩
  obtain ⟨f, ρ, As, T, st, run⟩ := h
  refine ⟨f, ρ, As, T, st, run_bnd run fun v ρ1 e1 run1 x H1 As1 Tn1 po1 r1 => ?_⟩
  refine ⟨f, ρ1, As1, _, po1.st, run_next (pb := true) run1 po1 fun lo ρ2 e2 run2 lo' H2 As2 Tn2 po2 el => ?_⟩
  have po12 := po1.tr po2
  refine ⟨f, ρ2, As2, _, po12.st, run_next (pb := true) run2 po12 fun hi ρ3 e3 run3 hi' H3 As3 Tn3 po3 eh => ?_⟩
  subst el eh
  have r3 : VOk k f H3 As3 (un (un T (un Tn1 Tn2)) Tn3) Tn1 x v := by
    have r2 := r1.later po1.st (fun _ h => .inr h) po2.fr po2.fresh fun _ => ⟨(po2.pure rfl).2.1, (po2.pure rfl).2.2⟩
    rw [un_assoc] at r2
    exact r2.later po12.st (fun _ h => .inr (.inl h)) po3.fr po3.fresh fun _ => ⟨(po3.pure rfl).2.1, (po3.pure rfl).2.2⟩
  have po := (po12.tr po3).drop (Tn2 := Tn1) fun a z => .inl (.inl z)
  have r : VOk k f H3 As3 (un T Tn1) Tn1 x v := r3.drop fun a z => z.elim (fun z => .inl (.inl z)) fun z => .inl (.inr (.inl z))
  have pw : ∀ {b : Bool}, (pa = true → (pa && true && true) = true) := fun h => by rw [h]; rfl
  cases es : slV v lo' hi' with
  | none => simp only [es] at run3; exact run3.elim
  | some w =>
    simp only [es] at run3
    unfold slV at es
    show rSlL X.K x lo' hi' H3 Q ∨ rSlS x lo' hi' H3 Q ∨ rSlA X.K x lo' hi' H3 Q
    split at es
    · rename_i z hv
      split at es
      · rename_i hz
        cases es
        exact .inr (.inl ⟨z, rep_str (hv ▸ r.rep), Nat.le_trans hz lim_line, run3 _ H3 As3 no ((po.drop fun _ z => z.elim).weak fun h => by simp [h]) ⟨fun _ z => z, .str _⟩⟩)
      · cases es
    · rename_i l hv
      cases es
      have rr := leaf_view r (by rw [hv]; rfl)
      rw [hv] at rr
      cases rr with
      | tup hq hrl =>
        rename_i a0 vs
        have r4 : RepL k (f.reg (effL v.rg (cutD l lo' hi')) (ow As3 T) H3) (cutV vs lo' hi') (cutD l lo' hi') := repL_eff po.st.tupb ((hrl.cut lo' hi').mono (reg_drop fun a z => z.elim .inl fun z => .inr (.inl z)))
        have ht := Fx.reg_some.mp hq
        have po0 : Post k f σ ρ H As T pa ρ3 H3 As3 no := (po.drop fun _ z => z.elim).weak fun h => by simp [h]
        refine .inr (.inr ⟨a0, vs, rfl, .inl (.inl ht.2.2), fun hw => ?_, fun hw q hq' => ?_⟩)
        · have ev : cutV vs lo' hi' = vs := by
            unfold cutV
            rw [hw.1, hw.2]
            simp
          rw [ev] at r4
          refine run3 _ H3 As3 no po0 ⟨fun _ z => z, ?_⟩
          rw [un_no]
          exact .tup (Fx.reg_some.mpr ⟨fun z => ht.1 (z.elim .inl fun z => .inr (.inl z)), f.inr_new _ (po.st.tupb _ _ ht.2.2), ht.2.2⟩) r4
        · refine run3 _ _ As3 no (po0.alloc hq') ⟨fun _ z => z, ?_⟩
          rw [un_no]
          exact rep_newtup po.one hq' r4
    · rename_i l hv
      split at es
      · rename_i b g eg
        cases es
        obtain ⟨a0, vs, rfl, hq, hrl, hb⟩ := seq_view po.st r (by rw [hv]; rfl) eg
        rw [hv] at hq
        refine .inl ⟨a0, vs, rfl, .of hq, fun q hq' => ?_⟩
        obtain ⟨Tn, po5, r5⟩ := new_list st (po.weak (q := pa) fun h => by simp [h]) ((hrl.cut lo' hi').mono (reg_drop fun a z => z.elim .inl fun z => .inr (.inl z))) (fun h => cut_leaf (hb h) lo' hi') hq'
        exact run3 _ _ As3 Tn po5 r5
      · cases es
    · rename_i l hv
      split at es
      · rename_i b g eg
        cases es
        obtain ⟨a0, vs, rfl, hq, hrl, hb⟩ := seq_view po.st r (by rw [hv]; rfl) eg
        rw [hv, hK] at hq
        refine .inl ⟨a0, vs, rfl, hq, fun q hq' => ?_⟩
        obtain ⟨Tn, po5, r5⟩ := new_list st (po.weak (q := pa) fun h => by simp [h]) ((hrl.cut lo' hi').mono (reg_drop fun a z => z.elim .inl fun z => .inr (.inl z))) (fun h => cut_leaf (hb h) lo' hi') hq'
        exact run3 _ _ As3 Tn po5 r5
      · cases es
    · cases es
end
end PV

/-! PV10: built-in functions of plain values. -/
namespace PV
open PySem PySem.Spec PyProof.Rows L2

theorem vsok_rep {k : Kx} {f : Fx} {H : Hp} {As : Nat → List Addr} {T Tn : Addr → Prop} {xs : List V} {vs : List Val} (h : VsOk k f H As T Tn xs vs) : RepL k H xs (vs.map Val.d) := by
  induction h with
  | nil _ => exact .nil
  | cons h t e d ih => exact .cons h.rep ih
def intsOf : List D → Option (List Int)
  | [] => some []
  | .int i :: l => (intsOf l).map (i :: ·)
  | _ => none
theorem intsOf_map : ∀ ns : List Int, intsOf (ns.map D.int) = some ns
  | [] => rfl
  | i :: ns => by simp [intsOf, intsOf_map ns]
theorem intsOf_rep {k : Kx} {F : Hp} : ∀ {l : List D} {vs : List V} {ns : List Int}, RepL k F vs l → intsOf l = some ns → vs = ns.map V.int
  | _, _, _, .nil, e => by cases e; rfl
  | _, _, ns, .cons (d := d) (l := l) r t, e => by
    cases d <;> simp only [intsOf] at e <;> (try contradiction)
    obtain ⟨m, h1, rfl⟩ := Option.map_eq_some_iff.mp e
    rw [rep_int r, intsOf_rep t h1]
    rfl
def strsOf : List D → Option (List Str)
  | [] => some []
  | .str i :: l => (strsOf l).map (i :: ·)
  | _ => none
theorem strsOf_map : ∀ ns : List Str, strsOf (ns.map D.str) = some ns
  | [] => rfl
  | i :: ns => by simp [strsOf, strsOf_map ns]
theorem strsOf_rep {k : Kx} {F : Hp} : ∀ {l : List D} {vs : List V} {ns : List Str}, RepL k F vs l → strsOf l = some ns → vs = ns.map V.str
  | _, _, _, .nil, e => by cases e; rfl
  | _, _, ns, .cons (d := d) (l := l) r t, e => by
    cases d <;> simp only [strsOf] at e <;> (try contradiction)
    obtain ⟨m, h1, rfl⟩ := Option.map_eq_some_iff.mp e
    rw [rep_str r, strsOf_rep t h1]
    rfl
/-- the items of a list (one's own, or one that is only read) -/
def litems : D → Option (List D)
  | .lst l => some l
  | .klst l => some l
  | _ => none
theorem litems_rep {k : Kx} {F : Hp} {x : V} {d : D} {l : List D} (h : Rep k F x d) (e : litems d = some l) : ∃ (a : Addr) (vs : List V), x = .ref a ∧ SqL k.K F a vs ∧ RepL k F vs l := by
  cases h <;> simp only [litems] at e <;> (try contradiction)
  · cases e
    exact ⟨_, _, rfl, .of (by assumption), by assumption⟩
  · cases e
    exact ⟨_, _, rfl, by assumption, by assumption⟩
/-- the greatest, the least -/
def maxI (n : Int) (l : List Int) : Int := l.foldl max n
def minI (n : Int) (l : List Int) : Int := l.foldl min n
theorem maxI_spec : ∀ (l : List Int) (n : Int), (maxI n l ∈ n :: l) ∧ ∀ y ∈ n :: l, y ≤ maxI n l
  | [], n => ⟨by simp [maxI], by simp [maxI]⟩
  | x :: l, n => by
    obtain ⟨h1, h2⟩ := maxI_spec l (max n x)
    have e : maxI n (x :: l) = maxI (max n x) l := rfl
    rw [e]
    refine ⟨?_, fun y hy => ?_⟩
    · rcases List.mem_cons.mp h1 with h | h
      · rw [h]
        rcases Int.le_total n x with q | q
        · rw [Int.max_eq_right q]; simp
        · rw [Int.max_eq_left q]; simp
      · exact List.mem_cons_of_mem _ (List.mem_cons_of_mem _ h)
    · have hm := h2 (max n x) List.mem_cons_self
      rcases List.mem_cons.mp hy with h | h
      · rw [h]; omega
      · rcases List.mem_cons.mp h with h | h
        · rw [h]; omega
        · exact h2 y (List.mem_cons_of_mem _ h)
theorem minI_spec : ∀ (l : List Int) (n : Int), (minI n l ∈ n :: l) ∧ ∀ y ∈ n :: l, minI n l ≤ y
  | [], n => ⟨by simp [minI], by simp [minI]⟩
  | x :: l, n => by
    obtain ⟨h1, h2⟩ := minI_spec l (min n x)
    have e : minI n (x :: l) = minI (min n x) l := rfl
    rw [e]
    refine ⟨?_, fun y hy => ?_⟩
    · rcases List.mem_cons.mp h1 with h | h
      · rw [h]
        rcases Int.le_total n x with q | q
        · rw [Int.min_eq_left q]; simp
        · rw [Int.min_eq_right q]; simp
      · exact List.mem_cons_of_mem _ (List.mem_cons_of_mem _ h)
    · have hm := h2 (min n x) List.mem_cons_self
      rcases List.mem_cons.mp hy with h | h
      · rw [h]; omega
      · rcases List.mem_cons.mp h with h | h
        · rw [h]; omega
        · exact h2 y (List.mem_cons_of_mem _ h)

inductive Bf where
  | len | abs | max | min | sum | ord | int | str
  deriving DecidableEq
def strI (i : Int) : Str := (toString i : String)
def bf : Bf → List D → Option D
  | .len, [.str z] => if z.length ≤ lim then some (.int z.length) else none
  | .len, [d] => (items d).map fun l => .int l.length
  | .abs, [.int i] => some (.int (if i < 0 then -i else i))
  | .max, [.int i, .int j] => some (.int (if j > i then j else i))
  | .min, [.int i, .int j] => some (.int (if j < i then j else i))
  | .max, [d] => match (litems d).bind intsOf with
    | some (n :: l) => some (.int (maxI n l))
    | _ => none
  | .min, [d] => match (litems d).bind intsOf with
    | some (n :: l) => some (.int (minI n l))
    | _ => none
  | .sum, [d] => ((litems d).bind intsOf).map fun l => .int l.sum
  | .ord, [.str x] => if x.length = 1 then some (.int (x.cps.getD 0 0 : Nat)) else none
  | .int, [.int i] => some (.int i)
  | .int, [.bl b] => some (.int (if b then 1 else 0))
  | .int, [.str a] => if a.length ≤ 640 then (PySem.intText? a).map .int else none
  | .str, [.int i] => if i.natAbs < 2 ^ 1900 then some (.str (strI i)) else none
  | _, _ => none
def Bf.name : Bf → Str
  | .len => "len"
  | .abs => "abs"
  | .max => "max"
  | .min => "min"
  | .sum => "sum"
  | .ord => "ord"
  | .int => "int"
  | .str => "str"
/-- a built-in function's or type's value -/
def Bf.val : Bf → Value
  | .len => .builtin "len"
  | .abs => .builtin "abs"
  | .max => .builtin "max"
  | .min => .builtin "min"
  | .sum => .builtin "sum"
  | .ord => .builtin "ord"
  | .int => .type "int"
  | .str => .type "str"
theorem Bf.boot : ∀ b : Bf, bootBuiltins b.name = some b.val
  | .len => by decide +kernel
  | .abs => by decide +kernel
  | .max => by decide +kernel
  | .min => by decide +kernel
  | .sum => by decide +kernel
  | .ord => by decide +kernel
  | .int => by decide +kernel
  | .str => by decide +kernel
theorem Bf.names (b : Bf) : b.name ≠ "__name__" ∧ (b.name == ("__debug__" : Str)) = false := by cases b <;> exact ⟨by decide, by decide⟩
abbrev RB := List V → Hp → VK → Prop
def rbOr (r r' : RB) : RB := fun xs H Q => r xs H Q ∨ r' xs H Q
def rbLen (K : PySem.W.Frag) : RB := fun xs H Q => ∃ x n, xs = [x] ∧ LenV K x H n ∧ Q (.int n) H
def rbAbs : RB := fun xs H Q => ∃ i, xs = [.int i] ∧ Q (.int (if i < 0 then -i else i)) H
def rbMax2 : RB := fun xs H Q => ∃ i j, xs = [.int i, .int j] ∧ Q (.int (if j > i then j else i)) H
def rbMin2 : RB := fun xs H Q => ∃ i j, xs = [.int i, .int j] ∧ Q (.int (if j < i then j else i)) H
def rbOrd : RB := fun xs H Q => ∃ x, xs = [.str x] ∧ x.length = 1 ∧ Q (.int (x.cps.getD 0 0 : Nat)) H
def rbInt1 : RB := fun xs H Q => (∃ i, xs = [.int i] ∧ Q (.int i) H) ∨ ∃ k, xs = [.bl k] ∧ Q (.int (if k then 1 else 0)) H
def rbIntS : RB := fun xs H Q => ∃ a n, xs = [.str a] ∧ PySem.intText? a = some n ∧ a.length ≤ 640 ∧ Q (.int n) H
def rbStr : RB := fun xs H Q => ∃ i : Int, xs = [.int i] ∧ i.natAbs.log2 < 1920 ∧ Q (.str (toString i)) H
def rBf (K : PySem.W.Frag) : Bf → RB
  | .len => rbLen K
  | .abs => rbAbs
  | .max => rbOr rbMax2 (rMax K)
  | .min => rbOr rbMin2 (rMin K)
  | .sum => rSum K
  | .ord => rbOrd
  | .int => rbOr rbInt1 rbIntS
  | .str => rbStr
theorem callr_Bf {X : Cx} (hc : X.calm = true) : ∀ b : Bf, CallR X b.val (rBf X.K b)
  | .len => call_len
  | .abs => call_abs
  | .max => CallR.or (call_max2 hc) (cr_max hc)
  | .min => CallR.or (call_min2 hc) (cr_min hc)
  | .sum => cr_sum hc
  | .ord => call_ord
  | .int => CallR.or call_int1 call_int_str
  | .str => call_str_int
section
variable {k : Kx} {H : Hp} {xs : List V} {ds : List D} {d : D} {Q : VK}
theorem repl1 {e : D} (r : RepL k H xs [e]) : ∃ x, xs = [x] ∧ Rep k H x e := by
  cases r with
  | cons r t => cases t; exact ⟨_, rfl, r⟩
theorem repl2 {e e' : D} (r : RepL k H xs [e, e']) : ∃ x y, xs = [x, y] ∧ Rep k H x e ∧ Rep k H y e' := by
  cases r with
  | cons r t => cases t with
    | cons r' t => cases t; exact ⟨_, _, rfl, r, r'⟩
theorem items_len {x : V} {e : D} {l : List D} (h : Rep k H x e) (hl : items e = some l) : LenV k.K x H l.length := by
  cases h <;> simp only [items] at hl <;> (try contradiction)
  · cases hl
    rename_i a vs h1 h2
    exact .inr ⟨vs, .inl (.inl h1), h2.len.symm⟩
  · cases hl
    rename_i a vs h1 h2
    exact .inr ⟨vs, h1.elim (fun z => by rcases z with z | ⟨o, z⟩ <;> cases z) .inr, h2.len.symm⟩
  · cases hl
    rename_i a vs h1 h2
    exact .inl ⟨vs, .of h1, h2.len.symm⟩
  · cases hl
    rename_i a vs h1 h2
    exact .inl ⟨vs, h1, h2.len.symm⟩
theorem bf_sound (b : Bf) (r : RepL k H xs ds) (e : bf b ds = some d) (q : ∀ v, Rep0 k v d → Q v H) : rBf k.K b xs H Q := by
  cases b with
  | len =>
    unfold bf at e
    split at e <;> (try contradiction)
    · split at e
      · rename_i z _ hz
        cases e
        obtain ⟨x, rfl, rx⟩ := repl1 r
        refine ⟨_, z.length, rfl, ?_, q _ (.int _)⟩
        rw [rep_str rx]
        exact ⟨Nat.le_trans hz lim_line, rfl⟩
      · cases e
    · obtain ⟨l, hl, rfl⟩ := Option.map_eq_some_iff.mp e
      obtain ⟨x, rfl, rx⟩ := repl1 r
      exact ⟨_, l.length, rfl, items_len rx hl, q _ (.int _)⟩
  | abs =>
    unfold bf at e
    split at e <;> (try contradiction)
    cases e
    obtain ⟨x, rfl, rx⟩ := repl1 r
    exact ⟨_, by rw [rep_int rx], q _ (.int _)⟩
  | max =>
    unfold bf at e
    split at e <;> (try contradiction)
    · cases e
      obtain ⟨x, y, rfl, r1, r2⟩ := repl2 r
      exact .inl ⟨_, _, by rw [rep_int r1, rep_int r2], q _ (.int _)⟩
    · obtain ⟨x, rfl, rx⟩ := repl1 r
      split at e
      · rename_i n l hb
        cases e
        obtain ⟨ll, h1, h2⟩ := Option.bind_eq_some_iff.mp hb
        obtain ⟨a, vs, rfl, hq, hr⟩ := litems_rep rx h1
        rw [intsOf_rep hr h2] at hq
        refine .inr ⟨a, _, rfl, hq, by simp, fun m h1 h2 => ?_⟩
        have sp := maxI_spec l n
        have : m = maxI n l := Int.le_antisymm (sp.2 m h1) (h2 _ sp.1)
        rw [this]
        exact q _ (.int _)
      · cases e
  | min =>
    unfold bf at e
    split at e <;> (try contradiction)
    · cases e
      obtain ⟨x, y, rfl, r1, r2⟩ := repl2 r
      exact .inl ⟨_, _, by rw [rep_int r1, rep_int r2], q _ (.int _)⟩
    · obtain ⟨x, rfl, rx⟩ := repl1 r
      split at e
      · rename_i n l hb
        cases e
        obtain ⟨ll, h1, h2⟩ := Option.bind_eq_some_iff.mp hb
        obtain ⟨a, vs, rfl, hq, hr⟩ := litems_rep rx h1
        rw [intsOf_rep hr h2] at hq
        refine .inr ⟨a, _, rfl, hq, by simp, fun m h1 h2 => ?_⟩
        have sp := minI_spec l n
        have : m = minI n l := Int.le_antisymm (h2 _ sp.1) (sp.2 m h1)
        rw [this]
        exact q _ (.int _)
      · cases e
  | sum =>
    unfold bf at e
    split at e <;> (try contradiction)
    obtain ⟨x, rfl, rx⟩ := repl1 r
    obtain ⟨ns, hb, rfl⟩ := Option.map_eq_some_iff.mp e
    obtain ⟨ll, h1, h2⟩ := Option.bind_eq_some_iff.mp hb
    obtain ⟨a, vs, rfl, hq, hr⟩ := litems_rep rx h1
    rw [intsOf_rep hr h2] at hq
    exact ⟨a, _, rfl, hq, q _ (.int _)⟩
  | ord =>
    unfold bf at e
    split at e <;> (try contradiction)
    split at e
    · rename_i hx
      cases e
      obtain ⟨x, rfl, rx⟩ := repl1 r
      exact ⟨_, by rw [rep_str rx], hx, q _ (.int _)⟩
    · cases e
  | int =>
    unfold bf at e
    split at e <;> (try contradiction)
    · cases e
      obtain ⟨x, rfl, rx⟩ := repl1 r
      exact .inl (.inl ⟨_, by rw [rep_int rx], q _ (.int _)⟩)
    · cases e
      obtain ⟨x, rfl, rx⟩ := repl1 r
      exact .inl (.inr ⟨_, by rw [rep_bl rx], q _ (.int _)⟩)
    · split at e
      · rename_i hl
        obtain ⟨n, hn, rfl⟩ := Option.map_eq_some_iff.mp e
        obtain ⟨x, rfl, rx⟩ := repl1 r
        exact .inr ⟨_, n, by rw [rep_str rx], hn, hl, q _ (.int _)⟩
      · cases e
  | str =>
    unfold bf at e
    split at e <;> (try contradiction)
    split at e
    · rename_i hl
      cases e
      obtain ⟨x, rfl, rx⟩ := repl1 r
      exact ⟨_, by rw [rep_int rx], Nat.lt_of_lt_of_le (PySem.Flt.log2_lt_of (by decide) hl) (by decide), q _ (.str _)⟩
    · cases e
end
def noStars (es : List Expr) : Bool := es.all notStar
theorem star_any {pos : Pos} {env : PySem.Env} : ∀ {es : List Expr}, noStars es = true → (backTo pos (starEach es env)).any (·.1) = false
  | [], _ => rfl
  | e :: es, h => by
    simp only [noStars, List.all_cons, Bool.and_eq_true] at h
    rw [star_cons h.1]
    have := star_any (pos := pos) (env := env) (es := es) h.2
    unfold backTo at this ⊢
    rw [List.map_cons, List.any_cons, this]
    rfl
def evBi (op : List D → Option D) (fs : Env → Ev (List Val)) : EvF := fun ρ => bnd (fs ρ) fun vs ρ1 => match op (vs.map Val.d) with
  | some d => some (.ok (.ro .loc d) ρ1)
  | none => none
section
variable {k : Kx} {X : Cx} {e : Expr} {es : List Expr} {p pos : Pos} {pa : Bool} {fs : Env → Ev (List Val)} {W : WX}
theorem bi_core {r : RB} {op : List D → Option D} (sound : ∀ (H : Hp) (xs : List V) (ds : List D) (d : D) (Q : VK), RepL k H xs ds → op ds = some d → (∀ v, Rep0 k v d → Q v H) → r xs H Q) {σ : L2.St} {H : Hp} {Q : VK}
    (h : TEv k W pa (evBi op fs) σ H Q) : tCB r (TAv k W pa fs) σ H Q := by
  obtain ⟨f, ρ, As, T, st, run⟩ := h
  refine ⟨f, ρ, As, T, st, run_bnd run fun vs ρ1 e1 run1 xs H1 As1 Tn1 po1 r1 => ?_⟩
  cases eo : op (vs.map Val.d) with
  | none => simp only [eo] at run1; exact run1.elim
  | some d =>
    simp only [eo] at run1
    exact sound H1 xs _ d Q (vsok_rep r1) eo fun z rz => run1 z H1 As1 no (po1.drop fun _ h => h.elim) ⟨fun _ h => h, rz.any _⟩
/-- a built-in function, a built-in type, called -/
theorem pe_bi {b : Value} {r : RB} {x : Str} {t : TA} (hb : (∃ id, b = .builtin id) ∨ ∃ T, b = .type T) (hc : CallR X b r) (hg : Gl X x) (hm : X.mg x = none) (hv : bootBuiltins x = some b) (ha : PA X (e :: es) t) (hn : x ≠ "__name__") (hdb : (x == ("__debug__" : Str)) = false) (hs : noStars (e :: es) = true) :
    PE X (.Call (.Name x p) (e :: es) [] pos) (tCB r t) := by
  simp only [noStars, List.all_cons, Bool.and_eq_true] at hs
  rcases hb with ⟨id, rfl⟩ | ⟨T, rfl⟩
  · exact pe_callB hc hg hm hv ha hn hdb (star_cons hs.1) (star_any hs.2)
  · exact pe_callTy hc hg hm hv ha hn hdb (star_cons hs.1) (star_any hs.2)
theorem SE.bf (hK : k.K = X.K) (hcalm : X.calm = true) (b : Bf) (hg : Gl X b.name) (hm : X.mg b.name = none) (hs : noStars (e :: es) = true) (ha : SA k X (e :: es) pa fs) : SE k X (.Call (.Name b.name p) (e :: es) [] pos) pa (evBi (bf b) fs) :=
  ⟨fun W tk => PE.weak (pe_bi (by cases b <;> first | exact .inl ⟨_, rfl⟩ | exact .inr ⟨_, rfl⟩) (callr_Bf hcalm b) hg hm b.boot (ha.go W tk) b.names.1 b.names.2 hs) fun σ H Q h => bi_core (fun H xs ds d Q r e q => by rw [← hK]; exact bf_sound b r e q) h⟩
end
end PV

/-! PV11: statements. -/
namespace PV
open PySem PySem.Spec PyProof.Rows L2

inductive OutS where
  | next (ρ : Env) | ret (v : Val) (ρ : Env) | exc (c : Nat) (ρ : Env)
abbrev EvS := Env → Option OutS
/-- what a statement is to reach -/
def RunS (k : Kx) (W : WX) (f : Fx) (σ : L2.St) (H : Hp) (As : Nat → List Addr) (T : Addr → Prop) (m : Option OutS) (D : Ends) : Prop :=
  match m with
  | none => False
  | some (.next ρ') => ∀ σ' H' As', StOk k f σ' ρ' H' As' T → Frm H As H' As' → D.nx σ' H'
  | some (.ret v ρ') => ∀ σ' x H' As' Tn, StOk k f σ' ρ' H' As' (un T Tn) → Frm H As H' As' → (∀ a, Tn a → (∃ i, a ∈ As i) ∨ H a = none) → VOk k f H' As' (un T Tn) Tn x v → D.rt x H'
  | some (.exc c ρ') => ∀ σ' H' As', StOk k f σ' ρ' H' As' T → Frm H As H' As' → W (.ref (k.C c)) none σ' H'
def TSv (k : Kx) (W : WX) (ev : EvS) : TS := fun D σ H => ∃ f ρ As T, StOk k f σ ρ H As T ∧ RunS k W f σ H As T (ev ρ) D
structure SS (k : Kx) (X : Cx) (s : Stmt) (ev : EvS) : Prop where
  go : ∀ W, Takes X W → PS X s (TSv k W ev)
structure SSs (k : Kx) (X : Cx) (s : List Stmt) (ev : EvS) : Prop where
  go : ∀ W, Takes X W → PSs X s (TSv k W ev)
theorem PS.weak {X : Cx} {s : Stmt} {t t' : TS} (h : PS X s t) (w : ∀ D σ H, t' D σ H → t D σ H) : PS X s t' := ⟨fun pins sh σ H D I q => h.run pins sh σ H D I (w D σ H q)⟩
theorem PSs.weak {X : Cx} {s : List Stmt} {t t' : TS} (h : PSs X s t) (w : ∀ D σ H, t' D σ H → t D σ H) : PSs X s t' := ⟨fun pins sh σ H D I q => h.run pins sh σ H D I (w D σ H q)⟩

section
variable {k : Kx} {X : Cx} {f : Fx} {σ σ' : L2.St} {ρ ρ' ρ1 ρ2 : Env} {H H' H1 H2 : Hp} {As As' As1 As2 : Nat → List Addr} {T T' Tn Tn1 Tn2 T1 T2 : Addr → Prop} {g : Rg} {p pa pb : Bool} {W : WX}

/-- the rest of a statement, from where it has come -/
theorem RunS.from {m : Option OutS} {D : Ends} (h : RunS k W f σ H As T m D) (fr : Frm H As H1 As1) : RunS k W f σ' H1 As1 T m D := by
  cases m with
  | none => exact h
  | some o =>
    cases o with
    | next ρ' => exact fun s' H' As' st fr' => h s' H' As' st (fr.tr fr')
    | ret v ρ' => exact fun s' x H' As' Tn st fr' fh r => h s' x H' As' Tn st (fr.tr fr') (fun a z => by
        rcases fh a z with ⟨i, y⟩ | z1
        · exact fr.own i a y
        · refine .inr ?_
          cases q : H a with
          | none => rfl
          | some o => exact absurd z1 (fr.dom a (by rw [q]; intro z; cases z))) r
    | exc c ρ' => exact fun s' H' As' st fr' => h s' H' As' st (fr.tr fr')
def bndS (m : Option OutS) (g : EvS) : Option OutS :=
  match m with
  | some (.next ρ) => g ρ
  | o => o
def evPass : EvS := fun ρ => some (.next ρ)
theorem SSs.nil : SSs k X [] evPass := ⟨fun W tk => PSs.weak pss_nil fun D σ H ⟨f, ρ, As, T, st, run⟩ => run σ H As st Frm.rfl'⟩
def evSeq (fa fb : EvS) : EvS := fun ρ => bndS (fa ρ) fb
theorem SSs.cons {s : Stmt} {rest : List Stmt} {fa fb : EvS} (ha : SS k X s fa) (hb : SSs k X rest fb) : SSs k X (s :: rest) (evSeq fa fb) := by
  refine ⟨fun W tk => PSs.weak (pss_cons (ha.go W tk) (hb.go W tk)) fun D σ H h => ?_⟩
  obtain ⟨f, ρ, As, T, st, run⟩ := h
  refine ⟨f, ρ, As, T, st, ?_⟩
  unfold evSeq bndS at run
  cases e : fa ρ with
  | none => rw [e] at run; exact run
  | some o =>
    rw [e] at run
    cases o with
    | next ρ1 => exact fun σ1 H1 As1 st1 fr1 => ⟨f, ρ1, As1, T, st1, RunS.from run fr1⟩
    | ret v ρ1 => exact run
    | exc c ρ1 => exact run
theorem SS.pass {pos : Pos} : SS k X (.Pass pos) evPass := ⟨fun W tk => PS.weak ps_pass fun D σ H ⟨f, ρ, As, T, st, run⟩ => run σ H As st Frm.rfl'⟩
/-- an expression, then a statement's end -/
def bndE (m : Ev Val) (g : Val → EvS) : Option OutS :=
  match m with
  | none => none
  | some (.exc c ρ) => some (.exc c ρ)
  | some (.ok v ρ) => g v ρ
theorem run_bndE {m : Ev Val} {g : Val → EvS} {D : Ends} {Q1 : VK} (h : RunS k W f σ H As T (bndE m g) D)
    (hok : ∀ v ρ1, m = some (.ok v ρ1) → RunS k W f σ H As T (g v ρ1) D → ∀ x H1 As1 Tn1, Post k f σ ρ H As T pa ρ1 H1 As1 Tn1 → VOk k f H1 As1 (un T Tn1) Tn1 x v → Q1 x H1) : Run (VOk k f) k W f σ ρ H As T pa m Q1 := by
  cases e : m with
  | none => rw [e] at h; exact h
  | some o =>
    cases o with
    | exc c ρ' => rw [e] at h; exact fun H' As' st fr => h σ H' As' st fr
    | ok v ρ1 => rw [e] at h; exact fun x H1 As1 Tn1 po r => hok v ρ1 e h x H1 As1 Tn1 po r
/-- one expression more -/
theorem run_nextE {m : Ev Val} {g : Val → EvS} {D : Ends} {Q1 : VK} (h : RunS k W f σ H As T (bndE m g) D) (po : Post k f σ ρ H As T pa ρ1 H1 As1 Tn1)
    (hok : ∀ v ρ2, m = some (.ok v ρ2) → RunS k W f σ H As T (g v ρ2) D → ∀ x H2 As2 Tn2, Post k f σ ρ1 H1 As1 (un T Tn1) pb ρ2 H2 As2 Tn2 → VOk k f H2 As2 (un (un T Tn1) Tn2) Tn2 x v → Q1 x H2) : Run (VOk k f) k W f σ ρ1 H1 As1 (un T Tn1) pb m Q1 := by
  cases e : m with
  | none => rw [e] at h; exact h
  | some o =>
    cases o with
    | exc c ρ' => rw [e] at h; exact fun H' As' st fr => h σ H' As' (st.drop fun _ z => .inl z) (po.fr.tr fr)
    | ok v ρ2 => rw [e] at h; exact fun x H2 As2 Tn2 po2 r => hok v ρ2 e h x H2 As2 Tn2 po2 r
/-! ### an expression's value dropped -/
def evExpr (fa : EvF) : EvS := fun ρ => bndE (fa ρ) fun _ ρ1 => some (.next ρ1)
/-- what no comprehension is -/
def notComp : Expr → Bool
  | .ListComp _ _ _ _ => false
  | .SetComp _ _ _ _ => false
  | .DictComp _ _ _ _ _ => false
  | _ => true
theorem swaps_no {e : Expr} {t : Option Expr} {l : Nat} {env : PySem.Env} (h : notComp e = true) : swapsWith e t l env = pure false := by
  cases e <;> first | rfl | cases h
theorem SS.expr {e : Expr} {pos : Pos} {fa : EvF} (hc : notComp e = true) (ha : SE k X e pa fa) : SS k X (.Expr e pos) (evExpr fa) := by
  refine ⟨fun W tk => PS.weak (ps_expr (ha.go W tk) (swaps_no hc)) fun D σ H h => ?_⟩
  obtain ⟨f, ρ, As, T, st, run⟩ := h
  exact ⟨f, ρ, As, T, st, run_bndE run fun v ρ1 e1 run1 x H1 As1 Tn1 po1 r1 => run1 σ H1 As1 po1.one po1.fr⟩
/-! ### return -/
def evRet (fa : EvF) : EvS := fun ρ => bndE (fa ρ) fun v ρ1 => some (.ret v ρ1)
theorem SS.ret {e : Expr} {pos : Pos} {fa : EvF} (ha : SE k X e pa fa) : SS k X (.Return (some e) pos) (evRet fa) := by
  refine ⟨fun W tk => PS.weak (ps_ret (ha.go W tk)) fun D σ H h => ?_⟩
  obtain ⟨f, ρ, As, T, st, run⟩ := h
  exact ⟨f, ρ, As, T, st, run_bndE run fun v ρ1 e1 run1 x H1 As1 Tn1 po1 r1 => run1 σ x H1 As1 Tn1 po1.st po1.fr po1.fresh r1⟩
def evRetN : EvS := fun ρ => some (.ret (.ro .loc .non) ρ)
theorem SS.retN {pos : Pos} : SS k X (.Return none pos) evRetN := ⟨fun W tk => PS.weak ps_retN fun D σ H ⟨f, ρ, As, T, st, run⟩ => run σ .non H As no (by rw [un_no]; exact st) Frm.rfl' (fun _ z => z.elim) ⟨fun _ z => z, .non⟩⟩
/-! ### if -/
def evIf (fc : EvF) (fa fb : EvS) : EvS := fun ρ => bndE (fc ρ) fun v ρ1 => match v.d with
  | .bl true => fa ρ1
  | .bl false => fb ρ1
  | _ => none
theorem SS.ite {c : Expr} {a b : List Stmt} {pos : Pos} {fc : EvF} {fa fb : EvS} (hc : ST k X c pa fc) (ha : SSs k X a fa) (hb : SSs k X b fb) : SS k X (.If c a b pos) (evIf fc fa fb) := by
  refine ⟨fun W tk => PS.weak (ps_if (hc.go W tk) (ha.go W tk) (hb.go W tk)) fun D σ H h => ?_⟩
  obtain ⟨f, ρ, As, T, st, run⟩ := h
  refine ⟨f, ρ, As, T, st, run_bndE run fun v ρ1 e1 run1 x H1 As1 Tn1 po1 r1 => ?_⟩
  have rr := r1.rep
  split at run1 <;> (try exact run1.elim)
  · rename_i hv
    rw [hv] at rr
    exact ⟨true, rep_bl rr, iteT ⟨f, ρ1, As1, T, po1.one, RunS.from run1 po1.fr⟩⟩
  · rename_i hv
    rw [hv] at rr
    exact ⟨false, rep_bl rr, iteF ⟨f, ρ1, As1, T, po1.one, RunS.from run1 po1.fr⟩⟩

/-! ### a name is set -/
def setA (As : Nat → List Addr) (i : Nat) (A : List Addr) : Nat → List Addr := fun j => if j = i then A else As j
theorem setA_s {As : Nat → List Addr} {i j : Nat} {A : List Addr} (h : j = i) : setA As i A j = A := if_pos h
theorem setA_n {As : Nat → List Addr} {i j : Nat} {A : List Addr} (h : ¬ j = i) : setA As i A j = As j := if_neg h
/-- what the cell of a name becomes: shared, or one's own -/
def cellOf (own : Bool) (v : Val) : Option Cell :=
  if own then match v with
    | .tmp g d => some ⟨true, false, g, d⟩
    | v => (frzV v).map fun g => ⟨false, false, g, v.d⟩
  else (frzV v).map fun g => ⟨false, false, g, v.d⟩
theorem StOk.setRo {i : Nat} {x : V} {d : D} (st : StOk k f σ ρ H As T) (hi : i < ρ.length) (r : Rep k (f.reg g (ow As T) H) x d) : StOk k f (σ.set i (some x)) (ρ.set i (some ⟨false, false, g, d⟩)) H (setA As i []) T := by
  have sub : ∀ a, ow (setA As i []) T a → ow As T a := fun a z => by
    rcases z with ⟨j, z⟩ | z
    · by_cases hj : j = i
      · rw [setA_s hj] at z; cases z
      · rw [setA_n hj] at z; exact .inl ⟨j, z⟩
    · exact .inr z
  refine ⟨by simp [st.len], fun j c e => ?_, fun j h => ?_, fun j j' a h h' => ?_, fun j => ?_, fun j c e ho a ha => ?_, fun a ha j z => ?_, st.tno, st.dom, st.tup, st.tupb, fun a ha z => st.fi a ha (sub a z), st.fin, fun j c e ho => ?_⟩
  · by_cases hj : j = i
    · subst hj
      rw [List.getElem?_set_self hi] at e
      cases e
      refine ⟨x, List.getElem?_set_self (by rw [← st.len]; exact hi), ?_⟩
      unfold CellOk
      rw [if_neg (by simp)]
      exact r.mono (reg_drop sub)
    · rw [List.getElem?_set_ne (Ne.symm hj)] at e
      obtain ⟨v, e1, q⟩ := st.cell j c e
      refine ⟨v, by rw [List.getElem?_set_ne (Ne.symm hj)]; exact e1, ?_⟩
      rw [setA_n hj]
      exact q.mono (fun g => reg_drop sub) fun _ _ => rfl
  · by_cases hj : j = i
    · rw [setA_s hj]
    · rw [setA_n hj]
      exact st.none_ j fun c e => h c (by rw [List.getElem?_set_ne (Ne.symm hj)]; exact e)
  · by_cases hj : j = i
    · rw [setA_s hj] at h; cases h
    · by_cases hj' : j' = i
      · rw [setA_s hj'] at h'; cases h'
      · rw [setA_n hj] at h
        rw [setA_n hj'] at h'
        exact st.disj j j' a h h'
  · by_cases hj : j = i
    · rw [setA_s hj]; exact .nil
    · rw [setA_n hj]; exact st.nod j
  · by_cases hj : j = i
    · rw [setA_s hj] at ha; cases ha
    · rw [setA_n hj] at ha
      rw [List.getElem?_set_ne (Ne.symm hj)] at e
      exact st.nw j c e ho a ha
  · by_cases hj : j = i
    · rw [setA_s hj] at z; cases z
    · rw [setA_n hj] at z; exact st.tmp a ha j z
  · by_cases hj : j = i
    · subst hj; rw [List.getElem?_set_self hi] at e; cases e; cases ho
    · rw [List.getElem?_set_ne (Ne.symm hj)] at e ⊢; exact st.iov j c e ho
theorem Frm.lose {i : Nat} : Frm H As H (setA As i []) := ⟨fun _ _ _ h => h, fun j a h => by
  by_cases hj : j = i
  · rw [setA_s hj] at h; cases h
  · rw [setA_n hj] at h; exact .inl ⟨j, h⟩, fun _ h => h⟩
theorem StOk.setOwn {i : Nat} {x : V} {d : D} {A : List Addr} (st : StOk k f σ ρ H As (un T Tn)) (hi : i < ρ.length) (off : ∀ a, Tn a → ¬ T a) (o : Own k H (f.reg g (ow As (un T Tn)) H) A x d) (n : A.Nodup) (hA : ∀ a, Tn a ↔ a ∈ A) (nw : ∀ a ∈ A, f.H0 a = none) :
    StOk k f (σ.set i (some x)) (ρ.set i (some ⟨true, false, g, d⟩)) H (setA As i A) T := by
  have sub : ∀ a, ow (setA As i A) T a → ow As (un T Tn) a := fun a z => by
    rcases z with ⟨j, z⟩ | z
    · by_cases hj : j = i
      · rw [setA_s hj] at z; exact .inr (.inr ((hA a).mpr z))
      · rw [setA_n hj] at z; exact .inl ⟨j, z⟩
    · exact .inr (.inl z)
  refine ⟨by simp [st.len], fun j c e => ?_, fun j h => ?_, fun j j' a h h' => ?_, fun j => ?_, fun j c e ho a ha => ?_, fun a ha j z => ?_, fun a ha => st.tno a (.inl ha), st.dom, st.tup, st.tupb, fun a ha z => st.fi a ha (sub a z), st.fin, fun j c e ho => ?_⟩
  · by_cases hj : j = i
    · subst hj
      rw [List.getElem?_set_self hi] at e
      cases e
      refine ⟨x, List.getElem?_set_self (by rw [← st.len]; exact hi), ?_⟩
      unfold CellOk
      rw [if_pos rfl, setA_s rfl]
      exact o.mono (reg_drop sub) fun _ _ => rfl
    · rw [List.getElem?_set_ne (Ne.symm hj)] at e
      obtain ⟨v, e1, q⟩ := st.cell j c e
      refine ⟨v, by rw [List.getElem?_set_ne (Ne.symm hj)]; exact e1, ?_⟩
      rw [setA_n hj]
      exact q.mono (fun g => reg_drop sub) fun _ _ => rfl
  · by_cases hj : j = i
    · subst hj
      have := h _ (List.getElem?_set_self hi)
      cases this
    · rw [setA_n hj]
      exact st.none_ j fun c e => h c (by rw [List.getElem?_set_ne (Ne.symm hj)]; exact e)
  · by_cases hj : j = i
    · rw [setA_s hj] at h
      by_cases hj' : j' = i
      · rw [hj, hj']
      · rw [setA_n hj'] at h'
        exact absurd h' (st.tmp a (.inr ((hA a).mpr h)) j')
    · rw [setA_n hj] at h
      by_cases hj' : j' = i
      · rw [setA_s hj'] at h'
        exact absurd h (st.tmp a (.inr ((hA a).mpr h')) j)
      · rw [setA_n hj'] at h'
        exact st.disj j j' a h h'
  · by_cases hj : j = i
    · rw [setA_s hj]; exact n
    · rw [setA_n hj]; exact st.nod j
  · by_cases hj : j = i
    · rw [setA_s hj] at ha; exact nw a ha
    · rw [setA_n hj] at ha
      rw [List.getElem?_set_ne (Ne.symm hj)] at e
      exact st.nw j c e ho a ha
  · by_cases hj : j = i
    · rw [setA_s hj] at z; exact off a ((hA a).mpr z) ha
    · rw [setA_n hj] at z; exact st.tmp a (.inl ha) j z
  · by_cases hj : j = i
    · subst hj; rw [List.getElem?_set_self hi] at e; cases e; cases ho
    · rw [List.getElem?_set_ne (Ne.symm hj)] at e ⊢; exact st.iov j c e ho
/-- the value x is put at i -/
theorem set_cell {own : Bool} {i : Nat} {x : V} {v : Val} {c : Cell} (st : StOk k f σ ρ H As T) (po : Post k f σ ρ H As T p ρ1 H1 As1 Tn1) (r : VOk k f H1 As1 (un T Tn1) Tn1 x v) (hi : i < ρ1.length) (e : cellOf own v = some c) :
    ∃ As2, StOk k f (σ.set i (some x)) (ρ1.set i (some c)) H1 As2 T ∧ Frm H As H1 As2 := by
  have ro : ∀ {c : Cell}, ((frzV v).map fun g => (⟨false, false, g, v.d⟩ : Cell)) = some c → ∃ As2, StOk k f (σ.set i (some x)) (ρ1.set i (some c)) H1 As2 T ∧ Frm H As H1 As2 := fun {c} e => by
    obtain ⟨g, eg, rfl⟩ := Option.map_eq_some_iff.mp e
    exact ⟨_, po.one.setRo hi (vok_frz po.st r (fun _ z => z) (po.off st) eg), po.fr.tr Frm.lose⟩
  unfold cellOf at e
  split at e
  · split at e
    · rename_i g d
      cases e
      obtain ⟨A, o, n, ea, nw⟩ := r
      refine ⟨_, po.st.setOwn hi (po.off st) o n ea nw, ⟨fun a u hn h => po.fr.keep a u hn h, fun j a h => ?_, po.fr.dom⟩⟩
      by_cases hj : j = i
      · rw [setA_s hj] at h; exact po.fresh a ((ea a).mpr h)
      · rw [setA_n hj] at h; exact po.fr.own j a h
    · exact ro e
  · exact ro e
def evSet (own : Bool) (i : Nat) (fa : EvF) : EvS := fun ρ => bndE (fa ρ) fun v ρ1 => match cellOf own v with
  | some c => if i < ρ1.length then some (.next (ρ1.set i (some c))) else none
  | none => none
theorem SS.set {own : Bool} {i : Nat} {x : Str} {e : Expr} {pos pos' : Pos} {fa : EvF} (h : ∀ {te : TE}, PE X e te → PS X (.Assign [.Name x pos'] e pos) (tAsg te (gName i))) (ha : SE k X e pa fa) : SS k X (.Assign [.Name x pos'] e pos) (evSet own i fa) := by
  refine ⟨fun W tk => PS.weak (h (ha.go W tk)) fun D σ H h => ?_⟩
  obtain ⟨f, ρ, As, T, st, run⟩ := h
  refine ⟨f, ρ, As, T, st, run_bndE run fun v ρ1 e1 run1 x H1 As1 Tn1 po1 r1 => ?_⟩
  cases ec : cellOf own v with
  | none => simp only [ec] at run1; exact run1.elim
  | some c =>
    simp only [ec] at run1
    split at run1
    · rename_i hi
      obtain ⟨As2, st2, fr2⟩ := set_cell st po1 r1 hi ec
      exact run1 _ H1 As2 st2 fr2
    · exact run1.elim
end
end PV

/-! PV12: loops. -/
namespace PV
open PySem PySem.Spec PyProof.Rows L2

section
variable {k : Kx} {X : Cx} {f : Fx} {σ σ' : L2.St} {ρ ρ' ρ1 ρ2 : Env} {H H' H1 H2 : Hp} {As As' As1 As2 : Nat → List Addr} {T T' Tn Tn1 Tn2 T1 T2 : Addr → Prop} {g : Rg} {p pa pb : Bool} {W : WX}

theorem RunS.more {m : Option OutS} {D : Ends} (h : RunS k W f σ H As T m D) (hT : ∀ a, T a → T1 a) : RunS k W f σ H As T1 m D := by
  cases m with
  | none => exact h
  | some o =>
    cases o with
    | next ρ' => exact fun s' H' As' st fr => h s' H' As' (st.drop hT) fr
    | ret v ρ' => exact fun s' x H' As' Tn st fr fh r => h s' x H' As' Tn (st.drop fun a z => z.imp (hT a) id) fr fh (r.drop fun a z => z.imp (hT a) id)
    | exc c ρ' => exact fun s' H' As' st fr => h s' H' As' (st.drop hT) fr

/-! ### targets -/
inductive Tg where
  | one (i : Nat) | many (is : List Nat)
def setC (i : Nat) (g : Rg) (d : D) (ρ : Env) : Option Env := if i < ρ.length then some (ρ.set i (some ⟨false, false, effG g d, d⟩)) else none
def setM : List Nat → Rg → List D → Env → Option Env
  | [], _, [], ρ => some ρ
  | i :: is, g, d :: l, ρ => (setC i g d ρ).bind (setM is g l)
  | _, _, _, _ => none
def evTg : Tg → Rg → D → Env → Option Env
  | .one i, g, d, ρ => setC i g d ρ
  | .many is, g, .tup l, ρ => setM is g l ρ
  | .many is, g, .ktup l, ρ => setM is g l ρ
  | .many _, _, _, _ => none
def gMany : List Nat → TGs
  | [] => gNil
  | i :: is => gCons (gName i) (gMany is)
def tgR (K : PySem.W.Frag) : Tg → TG
  | .one i => gName i
  | .many is => gTup K is.length (gMany is)
theorem setC_ok {i : Nat} {x : V} {d : D} (st : StOk k f σ ρ H As T) (r : Rep k (f.reg g (ow As T) H) x d) (e : setC i g d ρ = some ρ1) : StOk k f (σ.set i (some x)) ρ1 H (setA As i []) T := by
  unfold setC at e
  split at e
  · rename_i hi
    cases e
    exact st.setRo hi (rep_eff st.tupb r)
  · cases e
theorem setM_ok : ∀ {is : List Nat} {xs : List V} {l : List D} {σ : L2.St} {ρ ρ1 : Env} {As : Nat → List Addr} {Q : L2.St → Hp → Prop}, StOk k f σ ρ H As T → RepL k (f.reg g (ow As T) H) xs l → setM is g l ρ = some ρ1 →
    (∀ σ2 As1, StOk k f σ2 ρ1 H As1 T → Frm H As H As1 → Q σ2 H) → gMany is xs σ H Q
  | [], _, _, σ, ρ, ρ1, As, Q, st, .nil, e, q => by
    cases e
    exact ⟨rfl, q σ As st Frm.rfl'⟩
  | [], _, _, _, _, _, _, _, _, .cons _ _, e, _ => by cases e
  | i :: is, _, _, _, _, _, _, _, _, .nil, e, _ => by cases e
  | i :: is, _, _, σ, ρ, ρ1, As, Q, st, .cons (v := x) (vs := xs) (d := d) (l := l) r t, e, q => by
    simp only [setM] at e
    obtain ⟨ρ0, e0, e1⟩ := Option.bind_eq_some_iff.mp e
    have st1 := setC_ok st r e0
    refine ⟨x, xs, rfl, ?_⟩
    show gMany is xs (σ.set i (some x)) H Q
    refine setM_ok st1 (t.mono (reg_drop fun a z => ?_)) e1 fun σ2 As1 st2 fr2 => q σ2 As1 st2 (Frm.lose.tr fr2)
    rcases z with ⟨j, z⟩ | z
    · by_cases hj : j = i
      · rw [setA_s hj] at z; cases z
      · rw [setA_n hj] at z; exact .inl ⟨j, z⟩
    · exact .inr z
theorem setM_len : ∀ {is : List Nat} {l : List D} {ρ ρ1 : Env}, setM is g l ρ = some ρ1 → l.length = is.length
  | [], [], _, _, _ => rfl
  | [], _ :: _, _, _, e => by cases e
  | _ :: _, [], _, _, e => by cases e
  | i :: is, d :: l, ρ, ρ1, e => by
    simp only [setM] at e
    obtain ⟨ρ0, e0, e1⟩ := Option.bind_eq_some_iff.mp e
    simp [setM_len e1]
theorem tg_ok {tg : Tg} {x : V} {d : D} {Q : L2.St → Hp → Prop} (st : StOk k f σ ρ H As T) (r : Rep k (f.reg g (ow As T) H) x d) (e : evTg tg g d ρ = some ρ1)
    (q : ∀ σ2 As1, StOk k f σ2 ρ1 H As1 T → Frm H As H As1 → Q σ2 H) : tgR k.K tg x σ H Q := by
  cases tg with
  | one i => exact q _ _ (setC_ok st r e) Frm.lose
  | many is =>
    cases r <;> simp only [evTg] at e <;> (try contradiction)
    · rename_i a vs l h hr
      exact ⟨a, vs, rfl, .inl (.inl (Fx.reg_sub _ _ h)), by rw [hr.len, setM_len e], setM_ok st hr e q⟩
    · rename_i a vs l h hr
      exact ⟨a, vs, rfl, h.elim (fun z => by rcases z with z | ⟨o, z⟩ <;> cases z) .inr, by rw [hr.len, setM_len e], setM_ok st hr e q⟩

/-! ### what is walked -/
/-- from here on, as long as nobody else's things change, the iterator yields these -/
def IterOk (k : Kx) (f : Fx) (H : Hp) (As : Nat → List Addr) (T : Addr → Prop) (J : It) (gi : Rg × List D) : Prop :=
  ∀ σ' ρ' H' As' T', StOk k f σ' ρ' H' As' (un T T') → Frm H As H' As' → (∀ a, T' a → (∃ i, a ∈ As i) ∨ H a = none) →
    (∀ i d, gi.2[i]? = some d → J.go i H' ∧ ∀ x H'', J.yld i H' x H'' → StOk k f σ' ρ' H'' As' (un T T') ∧ Frm H' As' H'' As' ∧ Sub H' H'' ∧ Rep k (f.reg gi.1 (ow As' (un T T')) H'') x d) ∧ J.stop gi.2.length H'
def TIv (k : Kx) (W : WX) (p : Bool) (ev : Env → Ev (Rg × List D)) : TI := fun σ H R => ∃ f ρ As T, StOk k f σ ρ H As T ∧ Run (fun H' As' T' _ J gi => IterOk k f H' As' T' J gi) k W f σ ρ H As T p (ev ρ) R
structure SI (k : Kx) (X : Cx) (tg e : Expr) (p : Bool) (ev : Env → Ev (Rg × List D)) : Prop where
  go : ∀ W, Takes X W → PI X tg e (TIv k W p ev)
theorem PI.weak {tg e : Expr} {t t' : TI} (h : PI X tg e t) (w : ∀ σ H Q, t' σ H Q → t σ H Q) : PI X tg e t' := ⟨fun pins s σ H Q I q => h.run pins s σ H Q I (w σ H Q q)⟩
theorem PI.or {tg e : Expr} {t t' : TI} (h : PI X tg e t) (h' : PI X tg e t') : PI X tg e (fun σ H Q => t σ H Q ∨ t' σ H Q) := ⟨fun pins s σ H Q I q => q.elim (h.run pins s σ H Q I) (h'.run pins s σ H Q I)⟩

/-! ### for -/
def forD (tg : Tg) (body : EvS) (g : Rg) : List D → EvS
  | [], ρ => some (.next ρ)
  | d :: ds, ρ => match evTg tg g d ρ with
    | some ρ1 => bndS (body ρ1) (forD tg body g ds)
    | none => none
def bndI (m : Ev (Rg × List D)) (g : Rg × List D → EvS) : Option OutS :=
  match m with
  | none => none
  | some (.exc c ρ) => some (.exc c ρ)
  | some (.ok v ρ) => g v ρ
def evFor (tg : Tg) (fi : Env → Ev (Rg × List D)) (body : EvS) : EvS := fun ρ => bndI (fi ρ) fun gi ρ1 => forD tg body gi.1 gi.2 ρ1
def notSetI : Expr → Bool
  | .Set _ _ _ => false
  | _ => true
theorem folded_no {e : Expr} {env : PySem.Env} (h : notSetI e = true) (x : Value) : foldedSetIterable e env x = pure x := by
  cases e <;> first | rfl | cases h
theorem SS.for {tgE iter : Expr} {body : List Stmt} {pos : Pos} {tg : Tg} {fi : Env → Ev (Rg × List D)} {fb : EvS} (hK : k.K = X.K) (hp : PassesOwn (model X.prog X.w) X.A X.env X.xe) (hc : X.calm = true) (hn : notSetI iter = true)
    (hi : SI k X tgE iter pa fi) (hg : PG X tgE (tgR X.K tg)) (hb : SSs k X body fb) : SS k X (.For tgE iter body [] pos) (evFor tg fi fb) := by
  refine ⟨fun W tk => PS.weak (ps_for hp hc (hi.go W tk) hg (hb.go W tk) (folded_no hn)) fun D σ H h => ?_⟩
  obtain ⟨f, ρ, As, T, st, run⟩ := h
  refine ⟨f, ρ, As, T, st, ?_⟩
  unfold evFor bndI at run
  cases e : fi ρ with
  | none => rw [e] at run; exact run
  | some o =>
    rw [e] at run
    cases o with
    | exc c ρ1 => exact fun H' As' st' fr => run σ H' As' st' fr
    | ok gi ρ1 =>
      intro J H1 As1 Tn po hJ
      refine ⟨fun i m σ2 H2 => ∃ ρ2 As2, StOk k f σ2 ρ2 H2 As2 (un T Tn) ∧ Frm H1 As1 H2 As2 ∧ i + m = gi.2.length ∧ RunS k W f σ2 H2 As2 (un T Tn) (forD tg fb gi.1 (gi.2.drop i) ρ2) D, ?_, ?_⟩
      · exact ⟨gi.2.length, ρ1, As1, po.st, Frm.rfl', by omega, RunS.more (RunS.from run po.fr) fun _ z => .inl z⟩
      · rintro i m σ2 H2 ⟨ρ2, As2, st2, fr2, hm, run2⟩
        obtain ⟨hgo, hstop⟩ := hJ σ2 ρ2 H2 As2 no (by rw [un_no]; exact st2) fr2 fun _ z => z.elim
        rw [un_no] at hgo
        by_cases hlt : i < gi.2.length
        · have ei : gi.2[i]? = some gi.2[i] := List.getElem?_eq_getElem hlt
          obtain ⟨h1, h2⟩ := hgo i _ ei
          rw [List.drop_eq_getElem_cons hlt] at run2
          refine .inr ⟨h1, fun σ3 H3 => ∃ ρ3 As3, StOk k f σ3 ρ3 H3 As3 (un T Tn) ∧ Frm H1 As1 H3 As3 ∧ RunS k W f σ3 H3 As3 (un T Tn) (forD tg fb gi.1 (gi.2.drop (i + 1)) ρ3) D, ?_, ?_⟩
          · rintro σ3 H3 ⟨ρ3, As3, st3, fr3, run3⟩
            exact ⟨m - 1, by omega, ρ3, As3, st3, fr3, by omega, run3⟩
          · intro x H3 hy
            obtain ⟨st3, fr3, _, r3⟩ := h2 x H3 hy
            simp only [forD] at run2
            cases et : evTg tg gi.1 gi.2[i] ρ2 with
            | none => rw [et] at run2; exact run2.elim
            | some ρ3 =>
              rw [et] at run2
              simp only at run2
              rw [← hK]
              refine tg_ok st3 r3 et fun σ4 As4 st4 fr4 => ⟨f, ρ3, As4, _, st4, ?_⟩
              have fr14 : Frm H2 As2 H3 As4 := fr3.tr fr4
              unfold bndS at run2
              cases eb : fb ρ3 with
              | none => rw [eb] at run2; exact run2
              | some ob =>
                rw [eb] at run2
                cases ob with
                | next ρ4 => exact fun σ5 H5 As5 st5 fr5 => ⟨ρ4, As5, st5, (fr2.tr fr14).tr fr5, RunS.from run2 (fr14.tr fr5)⟩
                | ret v ρ4 => exact RunS.from (σ := σ2) run2 fr14
                | exc c ρ4 => exact RunS.from (σ := σ2) run2 fr14
        · have ei : i = gi.2.length := by omega
          subst ei
          rw [List.drop_eq_nil_of_le (Nat.le_refl _)] at run2
          exact .inl ⟨hstop, run2 σ2 H2 As2 st2 Frm.rfl'⟩

/-! ### while -/
def whD (fc : EvF) (fb : EvS) : Nat → EvS
  | 0, _ => none
  | n + 1, ρ => bndE (fc ρ) fun v ρ1 => match v.d with
    | .bl true => bndS (fb ρ1) (whD fc fb n)
    | .bl false => some (.next ρ1)
    | _ => none
open Classical in
noncomputable def evWhile (fc : EvF) (fb : EvS) : EvS := fun ρ => if h : ∃ n o, whD fc fb n ρ = some o then some (Classical.choose (Classical.choose_spec h)) else none
theorem whD_mono {fc : EvF} {fb : EvS} : ∀ {n m : Nat} {ρ : Env} {o : OutS}, n ≤ m → whD fc fb n ρ = some o → whD fc fb m ρ = some o
  | 0, _, _, _, _, h => by cases h
  | n + 1, 0, _, _, h, _ => by omega
  | n + 1, m + 1, ρ, o, hl, h => by
    simp only [whD] at h ⊢
    unfold bndE at h ⊢
    cases e : fc ρ with
    | none => rw [e] at h; cases h
    | some oc =>
      rw [e] at h
      cases oc with
      | exc c ρ1 => exact h
      | ok v ρ1 =>
        simp only at h ⊢
        split at h <;> (try contradiction)
        · unfold bndS at h ⊢
          cases eb : fb ρ1 with
          | none => rw [eb] at h; cases h
          | some ob =>
            rw [eb] at h
            cases ob with
            | next ρ2 => exact whD_mono (Nat.le_of_succ_le_succ hl) h
            | ret v ρ2 => exact h
            | exc c ρ2 => exact h
        · exact h
theorem evWhile_of {fc : EvF} {fb : EvS} {n : Nat} {ρ : Env} {o : OutS} (h : whD fc fb n ρ = some o) : evWhile fc fb ρ = some o := by
  unfold evWhile
  have hx : ∃ n o, whD fc fb n ρ = some o := ⟨n, o, h⟩
  rw [dif_pos hx]
  have h2 := Classical.choose_spec (Classical.choose_spec hx)
  have a := whD_mono (Nat.le_max_left n (Classical.choose hx)) h
  have b := whD_mono (Nat.le_max_right n (Classical.choose hx)) h2
  rw [a] at b
  exact b.symm
theorem evWhile_some {fc : EvF} {fb : EvS} {ρ : Env} {o : OutS} (h : evWhile fc fb ρ = some o) : ∃ n, whD fc fb n ρ = some o := by
  unfold evWhile at h
  split at h
  · rename_i hx
    have h2 := Classical.choose_spec (Classical.choose_spec hx)
    cases h
    exact ⟨_, h2⟩
  · cases h
theorem SS.while {c : Expr} {body : List Stmt} {pos : Pos} {fc : EvF} {fb : EvS} (hp : PassesOwn (model X.prog X.w) X.A X.env X.xe) (hc : ST k X c pa fc) (hb : SSs k X body fb) : SS k X (.While c body [] pos) (evWhile fc fb) := by
  refine ⟨fun W tk => PS.weak (ps_while hp (hc.go W tk) (hb.go W tk)) fun D σ H h => ?_⟩
  obtain ⟨f, ρ, As, T, st, run⟩ := h
  have hn : ∃ n, RunS k W f σ H As T (whD fc fb n ρ) D := by
    cases e : evWhile fc fb ρ with
    | none => rw [e] at run; exact run.elim
    | some o =>
      obtain ⟨n, hn⟩ := evWhile_some e
      rw [e] at run
      exact ⟨n, by rw [hn]; exact run⟩
  obtain ⟨n, hn⟩ := hn
  refine ⟨fun m σ2 H2 => ∃ ρ2 As2, StOk k f σ2 ρ2 H2 As2 T ∧ RunS k W f σ2 H2 As2 T (whD fc fb m ρ2) D, ⟨n, ρ, As, st, hn⟩, ?_⟩
  rintro m σ2 H2 ⟨ρ2, As2, st2, run2⟩
  cases m with
  | zero => exact run2.elim
  | succ m =>
    simp only [whD] at run2
    refine ⟨f, ρ2, As2, T, st2, run_bndE run2 fun v ρ3 e3 run3 x H3 As3 Tn3 po3 r3 => ?_⟩
    have rr := r3.rep
    split at run3 <;> (try exact run3.elim)
    · rename_i hv
      rw [hv] at rr
      refine ⟨true, rep_bl rr, iteT ⟨fun σ4 H4 => ∃ ρ4 As4, StOk k f σ4 ρ4 H4 As4 T ∧ RunS k W f σ4 H4 As4 T (whD fc fb m ρ4) D, ?_, f, ρ3, As3, T, po3.one, ?_⟩⟩
      · rintro σ4 H4 h4
        exact ⟨m, Nat.lt_succ_self m, h4⟩
      · unfold bndS at run3
        cases eb : fb ρ3 with
        | none => rw [eb] at run3; exact run3
        | some ob =>
          rw [eb] at run3
          cases ob with
          | next ρ4 => exact fun σ5 H5 As5 st5 fr5 => ⟨ρ4, As5, st5, RunS.from run3 (po3.fr.tr fr5)⟩
          | ret v ρ4 => exact RunS.from (σ := σ2) run3 po3.fr
          | exc c ρ4 => exact RunS.from (σ := σ2) run3 po3.fr
    · rename_i hv
      rw [hv] at rr
      exact ⟨false, rep_bl rr, iteF (run3 σ2 H3 As3 po3.one po3.fr)⟩
end
end PV

/-! PV13: what loops walk. -/
namespace PV
open PySem PySem.Spec PyProof.Rows L2

section
variable {k : Kx} {X : Cx} {f : Fx} {σ σ' : L2.St} {ρ ρ' ρ1 ρ2 : Env} {H H' H1 H2 : Hp} {As As' As1 As2 : Nat → List Addr} {T T' Tn Tn1 Tn2 T1 T2 : Addr → Prop} {g : Rg} {p pa pb : Bool} {W : WX}

/-- what stands in a region stays while nobody owns it -/
theorem keep_reg {a : Addr} {o : HO} (h : f.reg g (ow As T) H a = some o) (fr : Frm H As H' As') : H' a = some o := by
  obtain ⟨n, _, e⟩ := Fx.reg_some.mp h
  exact fr.keep a o (fun i hi => n (.inl ⟨i, hi⟩)) e
theorem reg_later (fr : Frm H As H' As') (fresh : ∀ a, T' a → (∃ i, a ∈ As i) ∨ H a = none) : Sub (f.reg g (ow As T) H) (f.reg g (ow As' (un T T')) H') := fun a o e => by
  obtain ⟨n, i, h⟩ := Fx.reg_some.mp e
  refine Fx.reg_some.mpr ⟨fun z => ?_, i, fr.keep a o (fun j hj => n (.inl ⟨j, hj⟩)) h⟩
  rcases z with ⟨j, z⟩ | z | z
  · rcases fr.own j a z with ⟨j', y⟩ | y
    · exact n (.inl ⟨j', y⟩)
    · rw [h] at y; cases y
  · exact n (.inr z)
  · rcases fresh a z with y | y
    · exact n (.inl y)
    · rw [h] at y; cases y
/-- a list that stays: its items, one by one -/
theorem iter_list {a : Addr} {vs : List V} {l : List D} (st : StOk k f σ ρ H As T) (hs : ∀ {H' : Hp} {As' : Nat → List Addr}, Frm H As H' As' → SqL k.K H' a vs) (r : RepL k (f.reg g (ow As T) H) vs l) : IterOk k f H As T (Itl k.K a) (g, l) := by
  intro σ' ρ' H' As' T' st' fr fresh
  have hq := hs fr
  have r' := r.mono (reg_later fr fresh)
  refine ⟨fun i d hd => ?_, ⟨vs, hq, by rw [r'.len]; exact Nat.le_refl _⟩⟩
  obtain ⟨v, hv, rv⟩ := r'.get' hd
  refine ⟨⟨vs, v, hq, hv⟩, fun x H'' hy => ?_⟩
  obtain ⟨rfl, hy⟩ := hy
  have := hy vs hq
  rw [hv] at this
  cases this
  exact ⟨st', Frm.rfl', fun _ _ h => h, rv⟩
theorem iter_tup {a : Addr} {vs : List V} {l : List D} (st : StOk k f σ ρ H As T) (hs : ∀ {H' : Hp} {As' : Nat → List Addr}, Frm H As H' As' → SqT k.K H' a vs) (r : RepL k (f.reg g (ow As T) H) vs l) : IterOk k f H As T (Itt k.K a) (g, l) := by
  intro σ' ρ' H' As' T' st' fr fresh
  have hq := hs fr
  have r' := r.mono (reg_later fr fresh)
  refine ⟨fun i d hd => ?_, ⟨vs, hq, by rw [r'.len]; exact Nat.le_refl _⟩⟩
  obtain ⟨v, hv, rv⟩ := r'.get' hd
  refine ⟨⟨vs, v, hq, hv⟩, fun x H'' hy => ?_⟩
  obtain ⟨rfl, hy⟩ := hy
  have := hy vs hq
  rw [hv] at this
  cases this
  exact ⟨st', Frm.rfl', fun _ _ h => h, rv⟩
def chars (z : Str) : List D := z.cps.toList.map fun c => .str ⟨#[c]⟩
theorem iter_str {z : Str} : IterOk k f H As T (Its z) (.loc, chars z) := by
  intro σ' ρ' H' As' T' st' fr fresh
  refine ⟨fun i d hd => ?_, by show z.cps.size ≤ (chars z).length; simp [chars]⟩
  have hi : i < z.cps.size := by
    have := (List.getElem?_eq_some_iff.mp hd).1
    simpa [chars] using this
  refine ⟨hi, fun x H'' hy => ?_⟩
  obtain ⟨rfl, c, hc, rfl⟩ := hy
  have : d = .str ⟨#[c]⟩ := by
    unfold chars at hd
    rw [List.getElem?_map] at hd
    rw [Array.getElem?_toList, hc] at hd
    simpa using hd.symm
  subst this
  exact ⟨st', Frm.rfl', fun _ _ h => h, .str _⟩
def rangeD (lo : Int) (n : Nat) : List D := (List.range n).map fun (i : Nat) => .int (lo + (i : Int))
theorem iter_range {lo : Int} {n : Nat} : IterOk k f H As T (Itr lo n) (.loc, rangeD lo n) := by
  intro σ' ρ' H' As' T' st' fr fresh
  refine ⟨fun i d hd => ?_, by show n ≤ (rangeD lo n).length; simp [rangeD]⟩
  have hi : i < n := by
    have := (List.getElem?_eq_some_iff.mp hd).1
    simpa [rangeD] using this
  refine ⟨hi, fun x H'' hy => ?_⟩
  obtain ⟨rfl, rfl⟩ := hy
  have : d = .int (lo + i) := by
    unfold rangeD at hd
    rw [List.getElem?_map, List.getElem?_range hi] at hd
    simpa using hd.symm
  subst this
  exact ⟨st', Frm.rfl', fun _ _ h => h, .int _⟩

/-! ### a list, a tuple, a text -/
def evIter (fa : EvF) : Env → Ev (Rg × List D) := fun ρ => bnd (fa ρ) fun v ρ1 => match v.d with
  | .str z => some (.ok (.loc, chars z) ρ1)
  | d => if v.isBor then none else match items d with
    | some l => match seqG v l with
      | some (_, g) => some (.ok (g, l) ρ1)
      | none => none
    | none => none
theorem sql_keep {K : PySem.W.Frag} {a : Addr} {vs : List V} (h : SqL K (f.reg g (ow As T) H) a vs) (fr : Frm H As H' As') : SqL K H' a vs := by
  rcases h with (h | ⟨o, h⟩) | h
  · exact .inl (.inl (keep_reg h fr))
  · exact .inl (.inr ⟨o, keep_reg h fr⟩)
  · exact .inr h
theorem SI.seq {tg e : Expr} {fa : EvF} (hK : k.K = X.K) (ha : SE k X e pa fa) : SI k X tg e pa (evIter fa) := by
  refine ⟨fun W tk => PI.weak (PI.or (pi_list (ha.go W tk)) (PI.or (pi_tup (ha.go W tk)) (pi_str (ha.go W tk)))) fun σ H Q h => ?_⟩
  obtain ⟨f, ρ, As, T, st, run⟩ := h
  have l1 : ∀ {R : V → Hp → Prop}, (∀ v ρ1, fa ρ = some (.ok v ρ1) → Run (fun H' As' T' _ J gi => IterOk k f H' As' T' J gi) k W f σ ρ H As T pa (match v.d with
      | .str z => some (.ok (.loc, chars z) ρ1)
      | d => if v.isBor then none else match items d with
        | some l => match seqG v l with
          | some (_, g) => some (.ok (g, l) ρ1)
          | none => none
        | none => none) Q → ∀ x H1 As1 Tn1, Post k f σ ρ H As T pa ρ1 H1 As1 Tn1 → VOk k f H1 As1 (un T Tn1) Tn1 x v → R x H1) → TEv k W pa fa σ H R := fun {R} hr => ⟨f, ρ, As, T, st, run_bnd run hr⟩
  cases ef : fa ρ with
  | none => unfold evIter bnd at run; rw [ef] at run; exact run.elim
  | some o =>
    cases o with
    | exc c ρ1 =>
      refine .inl (l1 fun v ρ2 e2 => ?_)
      rw [ef] at e2; cases e2
    | ok v ρ1 =>
      have run' := run
      unfold evIter at run'
      rw [ef, bnd_ok] at run'
      have seqs : ∀ {l : List D}, (∀ z, v.d ≠ .str z) → items v.d = some l → Run (fun H' As' T' _ J gi => IterOk k f H' As' T' J gi) k W f σ ρ H As T pa (if v.isBor then none else match seqG v l with
          | some (_, g) => some (.ok (g, l) ρ1)
          | none => none) Q := fun {l} hz hi => by
        split at run'
        · rename_i z hz'
          exact absurd hz' (hz z)
        · rename_i d hd
          rw [hi] at run'
          exact run'
      cases hd : v.d with
      | str z =>
        refine .inr (.inr (l1 fun v2 ρ2 e2 run2 x H1 As1 Tn1 po r => ?_))
        rw [ef] at e2; cases e2
        rw [hd] at run'
        exact ⟨z, rep_str (hd ▸ r.rep), run' _ H1 As1 Tn1 po iter_str⟩
      | lst l =>
        have run3 := seqs (l := l) (fun z => by rw [hd]; intro q; cases q) (by rw [hd]; rfl)
        split at run3
        · exact run3.elim
        · rename_i hbor
          cases eg : seqG v l with
          | none => rw [eg] at run3; exact run3.elim
          | some bg =>
            obtain ⟨b, g⟩ := bg
            rw [eg] at run3
            refine .inl (l1 fun v2 ρ2 e2 run2 x H1 As1 Tn1 po r => ?_)
            rw [ef] at e2; cases e2
            obtain ⟨a, vs, rfl, hq, hr, _⟩ := seq_view po.st r (by rw [hd]; rfl) eg
            rw [hd] at hq
            simp only at hq
            have nown : ∀ i, a ∉ As1 i := by
              cases v with
              | tmp g d =>
                obtain ⟨A, o, n, ea, nw⟩ := r
                simp only [Val.d] at hd
                subst hd
                cases o with
                | leaf hl _ => simp [D.leaf] at hl
                | lst ha ol => exact po.st.tmp a (.inr ((ea a).mpr List.mem_cons_self))
              | ro g d =>
                simp only [Val.d] at hd
                subst hd
                cases r.2 with
                | lst hq' _ => exact fun i hi => (Fx.reg_some.mp hq').1 (.inl ⟨i, hi⟩)
              | bor i g d => simp [Val.isBor] at hbor
            rw [← hK]
            exact ⟨a, rfl, ⟨vs, .of hq⟩, run3 _ H1 As1 Tn1 po (iter_list po.st (fun fr => .of (fr.keep a _ nown hq)) hr)⟩
      | klst l =>
        have run3 := seqs (l := l) (fun z => by rw [hd]; intro q; cases q) (by rw [hd]; rfl)
        split at run3
        · exact run3.elim
        · cases eg : seqG v l with
          | none => rw [eg] at run3; exact run3.elim
          | some bg =>
            obtain ⟨b, g⟩ := bg
            rw [eg] at run3
            refine .inl (l1 fun v2 ρ2 e2 run2 x H1 As1 Tn1 po r => ?_)
            rw [ef] at e2; cases e2
            have rr := leaf_view r (by rw [hd]; rfl)
            have hg : g = effL v.rg l ∨ g = v.rg := by
              unfold seqG at eg
              split at eg
              · cases eg; exact .inl rfl
              · split at eg
                · cases eg; exact .inr rfl
                · split at eg
                  · cases eg; exact .inr rfl
                  · cases eg
            rw [hd] at rr
            cases rr with
            | klst hq hr =>
              rename_i a vs
              have hr' : RepL k (f.reg g (ow As1 (un T Tn1)) H1) vs l := by
                rcases hg with rfl | rfl
                · exact repL_eff po.st.tupb hr
                · exact hr
              rw [← hK]
              exact ⟨a, rfl, ⟨vs, sql_keep hq Frm.rfl'⟩, run3 _ H1 As1 Tn1 po (iter_list po.st (fun fr => sql_keep hq fr) hr')⟩
      | tup l =>
        have run3 := seqs (l := l) (fun z => by rw [hd]; intro q; cases q) (by rw [hd]; rfl)
        split at run3
        · exact run3.elim
        · cases eg : seqG v l with
          | none => rw [eg] at run3; exact run3.elim
          | some bg =>
            obtain ⟨b, g⟩ := bg
            rw [eg] at run3
            refine .inr (.inl (l1 fun v2 ρ2 e2 run2 x H1 As1 Tn1 po r => ?_))
            rw [ef] at e2; cases e2
            obtain ⟨a, vs, rfl, hq, hr, _⟩ := seq_view po.st r (by rw [hd]; rfl) eg
            rw [hd] at hq
            simp only at hq
            have nown : ∀ i, a ∉ As1 i := fun i hi => by
              obtain ⟨o, e1, e2⟩ := po.st.own_in hi
              rw [hq] at e1
              cases e1
              exact e2 _ rfl
            rw [← hK]
            exact ⟨a, rfl, ⟨vs, .of hq⟩, run3 _ H1 As1 Tn1 po (iter_tup po.st (fun fr => .of (fr.keep a _ nown hq)) hr)⟩
      | ktup l =>
        have run3 := seqs (l := l) (fun z => by rw [hd]; intro q; cases q) (by rw [hd]; rfl)
        split at run3
        · exact run3.elim
        · cases eg : seqG v l with
          | none => rw [eg] at run3; exact run3.elim
          | some bg =>
            obtain ⟨b, g⟩ := bg
            rw [eg] at run3
            refine .inr (.inl (l1 fun v2 ρ2 e2 run2 x H1 As1 Tn1 po r => ?_))
            rw [ef] at e2; cases e2
            obtain ⟨a, vs, rfl, hq, hr, _⟩ := seq_view po.st r (by rw [hd]; rfl) eg
            rw [hd] at hq
            simp only at hq
            have hq' : ∀ {H' : Hp}, SqT k.K H' a vs := fun {H'} => hq.elim (fun z => by rcases z with z | ⟨o, z⟩ <;> cases z) .inr
            rw [← hK]
            exact ⟨a, rfl, ⟨vs, hq'⟩, run3 _ H1 As1 Tn1 po (iter_tup po.st (fun fr => hq') hr)⟩
      | non => unfold evIter at run; rw [ef, bnd_ok, hd] at run; simp only [items] at run; split at run <;> exact run.elim
      | bl _ => unfold evIter at run; rw [ef, bnd_ok, hd] at run; simp only [items] at run; split at run <;> exact run.elim
      | int _ => unfold evIter at run; rw [ef, bnd_ok, hd] at run; simp only [items] at run; split at run <;> exact run.elim
      | dk _ => unfold evIter at run; rw [ef, bnd_ok, hd] at run; simp only [items] at run; split at run <;> exact run.elim
      | dt _ => unfold evIter at run; rw [ef, bnd_ok, hd] at run; simp only [items] at run; split at run <;> exact run.elim
      | ins _ _ => unfold evIter at run; rw [ef, bnd_ok, hd] at run; simp only [items] at run; split at run <;> exact run.elim
      | exc _ => unfold evIter at run; rw [ef, bnd_ok, hd] at run; simp only [items] at run; split at run <;> exact run.elim

/-! ### range -/
def small62 (i : Int) : Bool := decide (-(2 ^ 62) ≤ i) && decide (i < 2 ^ 62)
def evRng1 (fs : Env → Ev (List Val)) : Env → Ev (Rg × List D) := fun ρ => bnd (fs ρ) fun vs ρ1 => match vs.map Val.d with
  | [.int j] => if small62 j then some (.ok (.loc, rangeD 0 j.toNat) ρ1) else none
  | _ => none
def evRng2 (fs : Env → Ev (List Val)) : Env → Ev (Rg × List D) := fun ρ => bnd (fs ρ) fun vs ρ1 => match vs.map Val.d with
  | [.int i, .int j] => if small62 i && small62 j then some (.ok (.loc, rangeD i (j - i).toNat) ρ1) else none
  | _ => none
theorem small62_ok {i : Int} (h : small62 i = true) : -(2 ^ 62) ≤ i ∧ i < 2 ^ 62 := by
  simp only [small62, Bool.and_eq_true, decide_eq_true_eq] at h
  exact h
theorem SI.range1 {tg a : Expr} {fs : Env → Ev (List Val)} {p' pos : Pos} (hg : Gl X "range") (hm : X.mg "range" = none) (hs : notStar a = true) (ha : SA k X [a] pa fs) : SI k X tg (.Call (.Name "range" p') [a] [] pos) pa (evRng1 fs) := by
  refine ⟨fun W tk => PI.weak (pi_range1 hg hm (ha.go W tk) (by rw [star_cons hs]; rfl)) fun σ H Q h => ?_⟩
  obtain ⟨f, ρ, As, T, st, run⟩ := h
  refine ⟨f, ρ, As, T, st, run_bnd run fun vs ρ1 e1 run1 xs H1 As1 Tn1 po r => ?_⟩
  have rr := vsok_rep r
  split at run1
  · rename_i j hj
    rw [hj] at rr
    obtain ⟨x, rfl, rx⟩ := repl1 rr
    split at run1
    · rename_i hb
      have := small62_ok hb
      exact ⟨j, by rw [rep_int rx], this.1, this.2, run1 _ H1 As1 Tn1 po iter_range⟩
    · exact run1.elim
  · exact run1.elim
theorem SI.range2 {tg a b : Expr} {fs : Env → Ev (List Val)} {p' pos : Pos} (hg : Gl X "range") (hm : X.mg "range" = none) (hs : notStar a = true) (hs' : notStar b = true) (ha : SA k X [a, b] pa fs) : SI k X tg (.Call (.Name "range" p') [a, b] [] pos) pa (evRng2 fs) := by
  refine ⟨fun W tk => PI.weak (pi_range2 hg hm (ha.go W tk) (by rw [star_cons hs, star_cons hs']; rfl) (by rw [star_cons hs']; rfl)) fun σ H Q h => ?_⟩
  obtain ⟨f, ρ, As, T, st, run⟩ := h
  refine ⟨f, ρ, As, T, st, run_bnd run fun vs ρ1 e1 run1 xs H1 As1 Tn1 po r => ?_⟩
  have rr := vsok_rep r
  split at run1
  · rename_i i j hj
    rw [hj] at rr
    obtain ⟨x, y, rfl, rx, ry⟩ := repl2 rr
    split at run1
    · rename_i hb
      simp only [Bool.and_eq_true] at hb
      have h1 := small62_ok hb.1
      have h2 := small62_ok hb.2
      exact ⟨i, j, by rw [rep_int rx, rep_int ry], ⟨h1.1, h1.2, h2.1, h2.2⟩, run1 _ H1 As1 Tn1 po iter_range⟩
    · exact run1.elim
  · exact run1.elim
end
end PV

/-! PV14: defs and calls. -/
namespace PV
open PySem PySem.Spec PyProof.Rows L2

section
variable {k : Kx} {X : Cx} {f : Fx} {σ σ' : L2.St} {ρ ρ' ρ1 ρ2 : Env} {H H' H1 H2 : Hp} {As As' As1 As2 : Nat → List Addr} {T T' Tn Tn1 Tn2 T1 T2 : Addr → Prop} {g : Rg} {p pa pb : Bool} {W : WX}

/-- what a def comes to -/
inductive OutF where
  | ret (v : Val) (ρ : Env) | exc (c : Nat) (ρ : Env)
abbrev Fn := Env → Option OutF
def isIo : Option Cell → Bool
  | some c => c.io
  | none => false
def keepIo (n : Nat) (ρ : Env) : Env := (List.range n).map fun i => if isIo (ρ[i]?.getD none) then ρ[i]?.getD none else none
def finV (ρ : Env) : Val → Option Val
  | .bor i g d => if d.leaf then some (.ro (effG g d) d) else if isIo (ρ[i]?.getD none) then none else some (.tmp g d)
  | v => some v
/-- what is one's own is new -/
theorem vok_new {x : V} {v : Val} (h : VOk k f H As T Tn x v) : ∀ a, Tn a → f.H0 a = none := fun a ha => by
  cases v with
  | tmp g d => obtain ⟨A, o, n, ea, nw⟩ := h; exact nw a ((ea a).mp ha)
  | ro g d => exact absurd ha (h.1 a)
  | bor i g d => exact absurd ha (h.1 a)
def fnD (n m : Nat) (body : EvS) : Fn := fun ρ => match body (ρ ++ List.replicate (m - n) none) with
  | none => none
  | some (.next ρ') => some (.ret (.ro .loc .non) (keepIo n ρ'))
  | some (.ret v ρ') => (finV ρ' v).map fun v => .ret v (keepIo n ρ')
  | some (.exc c ρ') => some (.exc c (keepIo n ρ'))
/-- the promise -/
def spF (k : Kx) (n : Nat) (F : Fn) : Sp := fun vs H Q E => vs.length = n ∧ ∃ (f : Fx) (ρ : Env) (As : Nat → List Addr), f.H0 = H ∧ (∀ i v, f.P i = some v → vs[i]? = some v) ∧ StOk k f (vs.map some) ρ H As no ∧ match F ρ with
  | none => False
  | some (.ret v ρ') => ∀ x H' As' Tn, StOk k f (vs.map some) ρ' H' As' Tn → Frm H As H' As' → (∀ a, Tn a → H a = none) → VOk k f H' As' Tn Tn x v → Q x H'
  | some (.exc c ρ') => ∀ H' As', StOk k f (vs.map some) ρ' H' As' no → Frm H As H' As' → E (.ref (k.C c)) none H'

theorem app_none {ρ : Env} {m i : Nat} {c : Cell} (h : (ρ ++ List.replicate m none)[i]? = some (some c)) : ρ[i]? = some (some c) := by
  by_cases hi : i < ρ.length
  · rwa [List.getElem?_append_left hi] at h
  · rw [List.getElem?_append_right (by omega), List.getElem?_replicate] at h
    split at h <;> cases h
theorem StOk.extend (st : StOk k f σ ρ H As T) (m : Nat) : StOk k f (σ ++ List.replicate m none) (ρ ++ List.replicate m none) H As T where
  len := by simp [st.len]
  cell := fun i c e => by
    obtain ⟨v, h1, h2⟩ := st.cell i c (app_none e)
    refine ⟨v, ?_, h2⟩
    rw [List.getElem?_append_left (List.getElem?_eq_some_iff.mp h1).1]; exact h1
  none_ := fun i h => st.none_ i fun c e => h c (by rw [List.getElem?_append_left (List.getElem?_eq_some_iff.mp e).1]; exact e)
  disj := st.disj
  nod := st.nod
  nw := fun i c e => st.nw i c (app_none e)
  tmp := st.tmp
  tno := st.tno
  dom := st.dom
  tup := st.tup
  tupb := st.tupb
  fi := st.fi
  fin := st.fin
  iov := fun i c e ho => by
    obtain ⟨v, h1, h2⟩ := st.iov i c (app_none e) ho
    refine ⟨v, h1, ?_⟩
    rw [List.getElem?_append_left (List.getElem?_eq_some_iff.mp h2).1]; exact h2
open Classical in
/-- the nodes of the io cells -/
noncomputable def ioA (n : Nat) (ρ : Env) (As : Nat → List Addr) : Nat → List Addr := fun i => if isIo ((keepIo n ρ)[i]?.getD none) = true then As i else []
theorem keep_io {n i : Nat} {c : Cell} (h : (keepIo n ρ)[i]? = some (some c)) : i < n ∧ ρ[i]? = some (some c) ∧ c.io = true := by
  unfold keepIo at h
  rw [List.getElem?_map] at h
  obtain ⟨o, h1, h2⟩ := Option.map_eq_some_iff.mp h
  obtain ⟨hi, e⟩ := List.getElem?_eq_some_iff.mp h1
  rw [List.length_range] at hi
  rw [List.getElem_range] at e
  subst e
  split at h2
  · rename_i hc
    cases e : ρ[i]? with
    | none => rw [e] at hc; cases hc
    | some o =>
      rw [e] at h2 hc
      simp only [Option.getD_some] at h2 hc
      subst h2
      exact ⟨hi, rfl, hc⟩
  · cases h2
theorem ioA_mem {n i : Nat} {a : Addr} (h : a ∈ ioA n ρ As i) : a ∈ As i := by
  unfold ioA at h
  split at h
  · exact h
  · cases h
theorem ioA_no {n i : Nat} (h : isIo (ρ[i]?.getD none) = false) : ioA n ρ As i = [] := by
  unfold ioA
  split
  · rename_i hk
    cases e : (keepIo n ρ)[i]? with
    | none => rw [e] at hk; cases hk
    | some o =>
      rw [e] at hk
      cases o with
      | none => cases hk
      | some c =>
        obtain ⟨_, e1, ho⟩ := keep_io e
        rw [e1] at h
        have h : c.io = false := h
        rw [ho] at h
        cases h
  · rfl
/-- what is held at a def's end: temporaries, or what its names owned -/
def Kept (ρ : Env) (As : Nat → List Addr) (T T' : Addr → Prop) : Prop := ∀ a, T' a → T a ∨ ∃ i, isIo (ρ[i]?.getD none) = false ∧ a ∈ As i
theorem Kept.up {n : Nat} (h : Kept ρ As T T') : ∀ a, ow (ioA n ρ As) T' a → ow As T a := fun a z => by
  rcases z with ⟨j, z⟩ | z
  · exact .inl ⟨j, ioA_mem z⟩
  · exact (h a z).elim .inr fun ⟨i, _, z⟩ => .inl ⟨i, z⟩
theorem StOk.keepIo {n : Nat} {vs : List V} (st : StOk k f σ ρ H As T) (hk : Kept ρ As T T') (hv : vs.length = n) (hP : ∀ i v, f.P i = some v → vs[i]? = some v) : StOk k f (vs.map some) (keepIo n ρ) H (ioA n ρ As) T' where
  len := by simp [PV.keepIo, hv]
  cell := fun i c e => by
    obtain ⟨hi, e1, ho⟩ := keep_io e
    obtain ⟨v, h1, h2⟩ := st.cell i c e1
    obtain ⟨v', h3, h4⟩ := st.iov i c e1 ho
    rw [h1] at h4
    cases h4
    refine ⟨v, ?_, ?_⟩
    · rw [List.getElem?_map, hP i v h3]; rfl
    · have : ioA n ρ As i = As i := by unfold ioA; rw [e]; simp [isIo, ho]
      rw [this]
      exact h2.mono (fun g => reg_drop hk.up) fun _ _ => rfl
  none_ := fun i h => by
    unfold ioA
    split
    · rename_i hc
      cases e : (PV.keepIo n ρ)[i]? with
      | none => rw [e] at hc; cases hc
      | some o =>
        rw [e] at hc
        cases o with
        | none => cases hc
        | some c =>
          obtain ⟨hi, e1, ho⟩ := keep_io e
          exact st.none_ i fun c' e' => by rw [e1] at e'; cases e'; exact h c e
    · rfl
  disj := fun i j a h h' => st.disj i j a (ioA_mem h) (ioA_mem h')
  nod := fun i => by
    unfold ioA
    split
    · exact st.nod i
    · exact .nil
  nw := fun i c e ho => by
    have := (keep_io e).2.2
    rw [ho] at this; cases this
  tmp := fun a ha j z => by
    rcases hk a ha with ha | ⟨i, hio, ha⟩
    · exact st.tmp a ha j (ioA_mem z)
    · have hj := st.disj i j a ha (ioA_mem z)
      subst hj
      rw [ioA_no hio] at z
      cases z
  tno := fun a ha => (hk a ha).elim (st.tno a) fun ⟨i, _, z⟩ => st.own_in z
  dom := st.dom
  tup := st.tup
  tupb := st.tupb
  fi := fun a ha z => st.fi a ha (hk.up a z)
  fin := st.fin
  iov := fun i c e ho => by
    obtain ⟨hi, e1, _⟩ := keep_io e
    obtain ⟨v', h3, h4⟩ := st.iov i c e1 ho
    exact ⟨v', h3, by rw [List.getElem?_map, hP i v' h3]; rfl⟩
theorem Kept.rfl' : Kept ρ As T T := fun _ h => .inl h
theorem Frm.keepIo {n : Nat} (fr : Frm H As H1 As1) : Frm H As H1 (ioA n ρ As1) := ⟨fr.keep, fun i a h => fr.own i a (ioA_mem h), fr.dom⟩
/-- what a name owned goes out with the answer -/
theorem ret_fin {n : Nat} {vs : List V} {x : V} {v v' : Val} (st : StOk k f σ ρ H As Tn) (hv : vs.length = n) (hP : ∀ i v, f.P i = some v → vs[i]? = some v) (h : VOk k f H As Tn Tn x v) (e : finV ρ v = some v') :
    ∃ Tn', StOk k f (vs.map some) (keepIo n ρ) H (ioA n ρ As) Tn' ∧ VOk k f H (ioA n ρ As) Tn' Tn' x v' := by
  have sub : ∀ g, Sub (f.reg g (ow As Tn) H) (f.reg g (ow (ioA n ρ As) Tn) H) := fun g => reg_drop (Kept.up (n := n) Kept.rfl')
  cases v with
  | tmp g d =>
    cases e
    obtain ⟨A, o, r⟩ := h
    exact ⟨Tn, st.keepIo Kept.rfl' hv hP, A, o.mono (sub g) fun _ _ => rfl, r⟩
  | ro g d =>
    cases e
    exact ⟨Tn, st.keepIo Kept.rfl' hv hP, h.1, h.2.mono (sub g)⟩
  | bor i g d =>
    obtain ⟨hn, A, o, hA⟩ := h
    simp only [finV] at e
    split at e
    · rename_i hl
      cases e
      exact ⟨Tn, st.keepIo Kept.rfl' hv hP, hn, rep_eff st.tupb ((own_leaf o hl).2.mono (sub g))⟩
    · split at e
      · cases e
      · rename_i hio
        cases e
        have hio : isIo (ρ[i]?.getD none) = false := by simpa using hio
        have hk : Kept ρ As Tn (fun a => a ∈ A) := fun a ha => .inr ⟨i, hio, hA.subset ha⟩
        refine ⟨fun a => a ∈ A, st.keepIo hk hv hP, A, o.mono (reg_drop hk.up) fun _ _ => rfl, (st.nod i).sublist hA, fun _ => Iff.rfl, fun a ha => ?_⟩
        have hc : ∃ c, ρ[i]? = some (some c) ∧ c.own = true := Classical.byContradiction fun hn => by
          have e0 : As i = [] := st.none_ i fun c e => by
            cases q : c.own with
            | false => rfl
            | true => exact absurd ⟨c, e, q⟩ hn
          have := hA.subset ha
          rw [e0] at this
          cases this
        obtain ⟨c, e, _⟩ := hc
        refine st.nw i c e ?_ a (hA.subset ha)
        rw [e] at hio
        exact hio
/-- a def keeps its promise -/
theorem fn_ok {P : Program} {w : World} {K : PySem.W.Frag} {mg : Str → Option Value} {base : Heap} {x qual : Str} {params : Arguments} {body : List Stmt} {scope : Scope} {fa : Addr} {fd : FuncData} {N ps : List Str} {j : Nat} {ev : EvS}
    (F : FunD K x qual params body scope [] [] fa fd) (S : FnScope N ps scope)
    (hb : ∀ (cdv : Value) (A : Around) (outer : List PySem.Env) (s : Shared) (H : Hp) (E : XK), Room j (A.deeper (envOfC qual scope s.heap.objs.size fa cdv)) → SSs k (cxOf (L2.CX P w) P w K mg base N qual scope fa cdv A outer s H E) body ev) :
    FnOk P w K mg base (L2.CX P w) (j + 1) fa fd ps (spF k ps.length (fnD ps.length N.length ev)) := by
  have hpl : ps.length ≤ N.length := by have := congrArg List.length S.pre; rw [List.length_take] at this; omega
  refine F.ok S (fun vs H Q E h => h.1) fun cdv A outer s H vs Q E hr sp => ?_
  obtain ⟨hv, f, ρ, As, h0, hP, st, run⟩ := sp
  refine ⟨_, (hb cdv A outer s H E hr).go _ (takes_of rfl rfl rfl rfl), f, ρ ++ List.replicate (N.length - ps.length) none, As, no, ?_, ?_⟩
  · have := st.extend (N.length - ps.length)
    unfold L2.start
    rw [hv]
    exact this
  · unfold fnD at run
    have hlen : ρ.length = ps.length := by rw [st.len, List.length_map, hv]
    have e1 : ∀ {Tn : Addr → Prop}, un no Tn = Tn := by
      intro Tn
      funext a
      exact propext ⟨fun z => z.elim (fun z => z.elim) id, .inr⟩
    cases eb : ev (ρ ++ List.replicate (N.length - ps.length) none) with
    | none => rw [eb] at run; exact run.elim
    | some o =>
      rw [eb] at run
      cases o with
      | next ρ' =>
        intro σ' H' As' st' fr
        exact run .non H' _ no (st'.keepIo Kept.rfl' hv hP) fr.keepIo (fun _ z => z.elim) ⟨fun _ z => z, .non⟩
      | ret v ρ' =>
        intro σ' y H' As' Tn st' fr fresh r
        simp only at run
        cases ef : finV ρ' v with
        | none => rw [ef] at run; exact run.elim
        | some v' =>
          rw [ef] at run
          rw [e1] at st' r
          obtain ⟨Tn', st2, r2⟩ := ret_fin (n := ps.length) st' hv hP r ef
          exact run y H' _ Tn' st2 fr.keepIo (fun a z => h0 ▸ vok_new r2 a z) r2
      | exc c ρ' =>
        intro σ' H' As' st' fr
        exact run H' _ (st'.keepIo Kept.rfl' hv hP) fr.keepIo
end
end PV

/-! PV15: calls whose arguments are only read. -/
namespace PV
open PySem PySem.Spec PyProof.Rows L2

section
variable {k : Kx} {X : Cx} {f f' : Fx} {σ σ' : L2.St} {ρ ρ' ρ1 ρ2 : Env} {H H' H1 H2 : Hp} {As As' As1 As2 : Nat → List Addr} {T T' Tn Tn1 Tn2 T1 T2 : Addr → Prop} {g : Rg} {p pa pb : Bool} {W : WX}

/-- the heap has grown -/
theorem StOk.grow (st : StOk k f σ ρ H As T) (sub : Sub H H') (tb : ∀ a xs, H' a = some (.tup xs) → f.new a) (hT : ∀ a, Tn a → H a = none ∧ ∃ o, H' a = some o ∧ ∀ xs, o ≠ .tup xs) : StOk k f σ ρ H' As (un T Tn) := by
  have dm : ∀ a, H a ≠ none → H' a ≠ none := fun a h => by
    cases e : H a with
    | none => exact absurd e h
    | some o => rw [sub a o e]; intro z; cases z
  have reg : ∀ g, Sub (f.reg g (ow As T) H) (f.reg g (ow As (un T Tn)) H') := fun g a o e => by
    obtain ⟨n, i, h⟩ := Fx.reg_some.mp e
    refine Fx.reg_some.mpr ⟨fun z => ?_, i, sub a o h⟩
    rcases z with z | z | z
    · exact n (.inl z)
    · exact n (.inr z)
    · rw [(hT a z).1] at h; cases h
  exact {
    len := st.len
    cell := fun i c e => by
      obtain ⟨v, h1, h2⟩ := st.cell i c e
      refine ⟨v, h1, h2.mono reg fun a ha => ?_⟩
      obtain ⟨o, ho, _⟩ := st.own_in ha
      rw [ho]; exact sub a o ho
    none_ := st.none_
    disj := st.disj
    nod := st.nod
    nw := st.nw
    tmp := fun a ha i z => ha.elim (fun ha => st.tmp a ha i z) fun ha => by
      obtain ⟨o, ho, _⟩ := st.own_in z
      rw [(hT a ha).1] at ho; cases ho
    tno := fun a ha => ha.elim (fun ha => by
      obtain ⟨o, ho, n⟩ := st.tno a ha
      exact ⟨o, sub a o ho, n⟩) fun ha => (hT a ha).2
    dom := fun a h => dm a (st.dom a h)
    tup := fun a xs h => sub a _ (st.tup a xs h)
    tupb := tb
    fi := fun a ha z => by
      rcases z with z | z | z
      · exact st.fi a ha (.inl z)
      · exact st.fi a ha (.inr z)
      · exact st.fin a ha (hT a z).1
    fin := fun a h => dm a (st.fin a h)
    iov := st.iov }

/-- the arguments as the callee finds them -/
def roEnv (vs : List Val) : Env := vs.map fun v => some ⟨false, false, .par, v.d⟩
/-- where what the callee hands back lies -/
def bkG (vs : List Val) (g : Rg) (d : D) : Option Rg := if g = .loc ∨ d.flat then some .loc else (frzAll vs).map (·.1)
def bkV (vs : List Val) : Val → Option Val
  | .tmp g d => (bkG vs g d).map fun g => .tmp g d
  | .ro g d => (bkG vs g d).map fun g => .ro g d
  | .bor _ _ _ => none
def evCall (n : Nat) (F : Fn) (fs : Env → Ev (List Val)) : EvF := fun ρ => bnd (fs ρ) fun vs ρ1 => if vs.length = n then (match F (roEnv vs) with
  | none => none
  | some (.exc c _) => some (.exc c ρ1)
  | some (.ret v _) => match bkV vs v with
    | some v' => some (.ok v' ρ1)
    | none => none) else none
theorem rep_get {xs : List V} {l : List D} {F : Hp} {i : Nat} {d : D} (h : RepL k F xs l) (e : l[i]? = some d) : ∃ x, xs[i]? = some x ∧ Rep k F x d := h.get' e
/-- the callee's state at its entry -/
theorem call_in {xs : List V} {vs : List Val} (Fp : Addr → Prop) (r : RepL k ((⟨H, no, Fp, fun _ => none⟩ : Fx).reg .par no H) xs (vs.map Val.d)) : StOk k ⟨H, no, Fp, fun _ => none⟩ (xs.map some) (roEnv vs) H (fun _ => []) no where
  len := by have := r.len; simp [roEnv] at this ⊢; omega
  cell := fun i c e => by
    unfold roEnv at e
    rw [List.getElem?_map] at e
    obtain ⟨v, e1, e2⟩ := Option.map_eq_some_iff.mp e
    cases e2
    obtain ⟨x, hx, rx⟩ := r.get' (i := i) (d := v.d) (by rw [List.getElem?_map, e1]; rfl)
    refine ⟨x, by rw [List.getElem?_map, hx]; rfl, ?_⟩
    unfold CellOk
    rw [if_neg (by simp)]
    exact rx.mono (reg_drop fun a z => z.elim (fun ⟨_, z⟩ => nomatch z) id)
  none_ := fun _ _ => rfl
  disj := fun _ _ _ h => nomatch h
  nod := fun _ => .nil
  nw := fun _ _ _ _ _ h => nomatch h
  tmp := fun _ h => h.elim
  tno := fun _ h => h.elim
  dom := fun _ h => h
  tup := fun _ _ h => h
  tupb := fun a xs h => .inr ⟨xs, h⟩
  fi := fun _ h => h.elim
  fin := fun _ h => h.elim
  iov := fun i c e ho => by
    unfold roEnv at e
    rw [List.getElem?_map] at e
    obtain ⟨v, e1, e2⟩ := Option.map_eq_some_iff.mp e
    cases e2
    cases ho
theorem own_new {A : List Addr} {x : V} {d : D} {F : Hp} (h : Own k H F A x d) : ∀ a ∈ A, ∃ o, H a = some o ∧ ∀ xs, o ≠ .tup xs := h.at

/-- what comes back -/
theorem call_out {vs : List Val} {x : V} {v v' : Val} {Fp : Addr → Prop} (st : StOk k f σ ρ H As T) (hFp : ∀ g, (frzAll vs).map (·.1) = some g → ∀ a, Fp a → f.inr g a ∧ ¬ ow As T a)
    (st' : StOk k ⟨H, no, Fp, fun _ => none⟩ σ' ρ' H' As' Tn) (fr : Frm H (fun _ => []) H' As') (fresh : ∀ a, Tn a → H a = none) (r : VOk k ⟨H, no, Fp, fun _ => none⟩ H' As' Tn Tn x v) (e : bkV vs v = some v') :
    Sub H H' ∧ StOk k f σ ρ H' As (un T Tn) ∧ VOk k f H' As (un T Tn) Tn x v' := by
  have sub : Sub H H' := fun a o h => fr.keep a o (fun _ z => nomatch z) h
  have tb : ∀ a xs, H' a = some (.tup xs) → f.new a := fun a xs h => by
    rcases st'.tupb a xs h with z | ⟨ys, z⟩
    · exact (st.free z).2.1
    · exact st.tupb a ys z
  have st2 : StOk k f σ ρ H' As (un T Tn) := st.grow sub tb fun a ha => ⟨fresh a ha, st'.tno a ha⟩
  have reg : ∀ {g g' : Rg} {d : D}, bkG vs g d = some g' → ¬ (d.flat = true) → Sub ((⟨H, no, Fp, fun _ => none⟩ : Fx).reg g (ow As' Tn) H') (f.reg g' (ow As (un T Tn)) H') := fun {g g' d} eb hf a o hreg => by
    obtain ⟨n, i, h⟩ := Fx.reg_some.mp hreg
    have newc : (⟨H, no, Fp, fun _ => none⟩ : Fx).new a → ¬ ow As (un T Tn) a ∧ f.new a := fun z => by
      refine ⟨fun y => ?_, ?_⟩
      · rcases y with ⟨j, y⟩ | y | y
        · obtain ⟨u, hu, nt⟩ := st.own_in y
          rcases z with z | ⟨ys, z⟩
          · have z : H a = none := z
            rw [z] at hu; cases hu
          · have z : H a = some (.tup ys) := z
            rw [z] at hu; cases hu; exact nt ys rfl
        · obtain ⟨u, hu, nt⟩ := st.tno a y
          rcases z with z | ⟨ys, z⟩
          · have z : H a = none := z
            rw [z] at hu; cases hu
          · have z : H a = some (.tup ys) := z
            rw [z] at hu; cases hu; exact nt ys rfl
        · exact n (.inr y)
      · rcases z with z | ⟨ys, z⟩
        · exact (st.free z).2.1
        · exact st.tupb a ys z
    unfold bkG at eb
    split at eb
    · rename_i hg
      rcases hg with hg | hg
      · subst hg
        cases eb
        have := newc i
        exact Fx.reg_some.mpr ⟨this.1, this.2, h⟩
      · exact absurd hg hf
    · have par : ∀ a, Fp a → f.inr g' a ∧ ¬ ow As T a := hFp g' eb
      have nTn : ¬ Tn a := fun y => n (.inr y)
      have go : (⟨H, no, Fp, fun _ => none⟩ : Fx).new a ∨ Fp a := by
        cases g with
        | loc => exact .inl i
        | io => exact i.elim .inl fun z => z.elim
        | par => exact i.elim .inl fun z => z.elim (fun z => z.elim) .inr
      rcases go with z | z
      · have := newc z
        exact Fx.reg_some.mpr ⟨this.1, f.inr_new g' this.2, h⟩
      · have := par a z
        refine Fx.reg_some.mpr ⟨fun y => ?_, this.1, h⟩
        rcases y with y | y | y
        · exact this.2 (.inl y)
        · exact this.2 (.inr y)
        · exact nTn y
  have flat : ∀ {g g' : Rg} {d : D} {F : Hp} {y : V}, bkG vs g d = some g' → d.flat = true → Sub F H' → (∀ a ys, F a = some (.tup ys) → True) → Rep k F y d → Rep k (f.reg g' (ow As (un T Tn)) H') y d := fun {g g' d F y} eb hf hF _ ry => by
    refine (ry.flat hf).mono fun a o ho => ?_
    unfold tupsOf at ho
    split at ho
    · rename_i ys hy
      cases ho
      have hy' := hF _ _ hy
      refine Fx.reg_some.mpr ⟨fun z => ?_, f.inr_new g' (st2.tupb a ys hy'), hy'⟩
      rcases z with ⟨j, z⟩ | z
      · obtain ⟨u, hu, nt⟩ := st2.own_in z
        rw [hy'] at hu; cases hu; exact nt ys rfl
      · obtain ⟨u, hu, nt⟩ := st2.tno a z
        rw [hy'] at hu; cases hu; exact nt ys rfl
    · cases ho
  refine ⟨sub, st2, ?_⟩
  cases v with
  | bor i g d => cases e
  | ro g d =>
    obtain ⟨g', eg, rfl⟩ := Option.map_eq_some_iff.mp e
    refine ⟨r.1, ?_⟩
    by_cases hf : d.flat = true
    · exact flat eg hf Fx.reg_sub (fun _ _ _ => trivial) r.2
    · exact r.2.mono (reg eg hf)
  | tmp g d =>
    obtain ⟨g', eg, rfl⟩ := Option.map_eq_some_iff.mp e
    obtain ⟨A, o, n, eA, nw⟩ := r
    have nwA : ∀ a ∈ A, f.H0 a = none := fun a ha => by
      have z : H a = none := nw a ha
      cases q : f.H0 a with
      | none => rfl
      | some u => exact absurd z (st.dom a (by rw [q]; intro z; cases z))
    by_cases hf : d.flat = true
    · have hl : d.leaf = true := by cases d <;> first | rfl | (simp [D.flat] at hf)
      obtain ⟨rfl, ry⟩ := own_leaf o hl
      exact ⟨[], .leaf hl (flat eg hf Fx.reg_sub (fun _ _ _ => trivial) ry), .nil, eA, nwA⟩
    · exact ⟨A, o.mono (reg eg hf) fun _ _ => rfl, n, eA, nwA⟩

/-- f(..) whose arguments are only read -/
theorem call_core {xs : List V} {vs : List Val} {F : Fn} {Q : VK} {n : Nat} (st : StOk k f σ ρ H As T) (po : Post k f σ ρ H As T p ρ1 H1 As1 Tn1) (r : VsOk k f H1 As1 (un T Tn1) Tn1 xs vs) (hn : vs.length = n)
    (run : Run (VOk k f) k W f σ ρ H As T p (match F (roEnv vs) with
      | none => none
      | some (.exc c _) => some (.exc c ρ1)
      | some (.ret v _) => match bkV vs v with
        | some v' => some (.ok v' ρ1)
        | none => none) Q) : spF k n F xs H1 Q (WE W σ) := by
  refine ⟨by rw [r.len, hn], ?_⟩
  have key : ∃ Fp : Addr → Prop, RepL k ((⟨H1, no, Fp, fun _ => none⟩ : Fx).reg .par no H1) xs (vs.map Val.d) ∧ (∀ g, (frzAll vs).map (·.1) = some g → ∀ a, Fp a → f.inr g a ∧ ¬ ow As1 T a) := by
    cases ef : frzAll vs with
    | none =>
      refine ⟨fun _ => True, (vsok_rep r).mono fun a o h => ?_, fun g e => (by cases e)⟩
      exact Fx.reg_some.mpr ⟨fun z => z.elim, Or.inr (Or.inr trivial), h⟩
    | some gd =>
      obtain ⟨g, ds⟩ := gd
      have hds : ds = vs.map Val.d := by
        have : ∀ {vs : List Val} {g : Rg} {ds : List D}, frzAll vs = some (g, ds) → ds = vs.map Val.d := by
          intro vs
          induction vs with
          | nil => intro g ds e; cases e; rfl
          | cons v vs ih =>
            intro g ds e
            simp only [frzAll] at e
            split at e
            · rename_i g1 g2 ds2 e1 e2
              cases e
              simp [ih e2]
            · cases e
        exact this ef
      subst hds
      have rl := vsok_frz po.st (po.off st) r (fun _ z => z) ef
      refine ⟨fun a => f.inr g a ∧ ¬ ow As1 T a, rl.mono fun a o h => ?_, fun g' e a ha => ?_⟩
      · obtain ⟨n1, i1, h1⟩ := Fx.reg_some.mp h
        exact Fx.reg_some.mpr ⟨fun z => z.elim, Or.inr (Or.inr ⟨i1, n1⟩), h1⟩
      · cases e
        exact ha
  obtain ⟨Fp, rF, hFp⟩ := key
  refine ⟨⟨H1, no, Fp, fun _ => none⟩, roEnv vs, fun _ => [], rfl, fun i v e => (by cases e), call_in Fp rF, ?_⟩
  have unno : ∀ a, un T no a → T a := fun a z => z.elim id fun z => z.elim
  cases eF : F (roEnv vs) with
  | none => rw [eF] at run; exact run
  | some o =>
    rw [eF] at run
    cases o with
    | exc c ρ' =>
      intro H' As' st' fr
      have sub : Sub H1 H' := fun a o h => fr.keep a o (fun _ z => nomatch z) h
      have st2 := po.one.grow (Tn := no) sub (fun a ys h => by
        rcases st'.tupb a ys h with z | ⟨zs, z⟩
        · exact (po.st.free z).2.1
        · exact po.st.tupb a zs z) fun a ha => ha.elim
      exact run H' As1 (st2.drop fun a z => .inl z) (po.fr.tr ⟨fun a o _ h => sub a o h, fun i a h => .inl ⟨i, h⟩, fr.dom⟩)
    | ret v ρ' =>
      intro x H' As' Tn st' fr fresh rv
      simp only at run
      cases eb : bkV vs v with
      | none => rw [eb] at run; exact run.elim
      | some v' =>
        rw [eb] at run
        obtain ⟨sub, st2, rv2⟩ := call_out po.one hFp st' fr fresh rv eb
        exact run x H' As1 Tn ⟨st2, po.fr.tr ⟨fun a o _ h => sub a o h, fun i a h => .inl ⟨i, h⟩, fr.dom⟩, fun a ha => .inr (po.fr.none' (fresh a ha)), fun hp => ⟨(po.pure hp).1, (po.pure hp).2.1, (po.pure hp).2.2.tr sub⟩⟩ rv2

structure Known (X : Cx) (k : Kx) (x : Str) (n : Nat) (F : Fn) : Prop where
  ex : ∃ (fa : Addr) (fd : FuncData) (ps : List Str) (j : Nat), ps.length = n ∧ FnOk X.prog X.w X.K X.mg X.base (L2.CX X.prog X.w) j fa fd ps (spF k n F) ∧ Room j X.A ∧ X.mg x = some (.ref fa) ∧ PySem.W.keepIn X.K (.ref fa) = true ∧ Binds X.K fd ps []
theorem SE.call {x : Str} {e : Expr} {es : List Expr} {p' pos : Pos} {F : Fn} {fs : Env → Ev (List Val)} {n : Nat} (kn : Known X k x n F) (hg : Gl X x) (hd : (x == ("__debug__" : Str)) = false) (hs : noStars (e :: es) = true) (ha : SA k X (e :: es) pa fs) :
    SE k X (.Call (.Name x p') (e :: es) [] pos) pa (evCall n F fs) := by
  obtain ⟨fa, fd, ps, j, hps, FO, hr, hm, hk, hb⟩ := kn.ex
  have hs' : notStar e = true ∧ noStars es = true := by simpa [noStars] using hs
  refine ⟨fun W tk => PE.weak (pe_callS (E := WE W) FO hr hg hm hk hb (fun σ => passAt tk σ) (ha.go W tk) hd (star_cons hs'.1) (star_any hs'.2)) fun σ H Q h => ?_⟩
  obtain ⟨f, ρ, As, T, st, run⟩ := h
  refine ⟨f, ρ, As, T, st, run_bnd run fun vs ρ1 e1 run1 xs H1 As1 Tn1 po r => ?_⟩
  split at run1
  · rename_i hl
    exact call_core st po r hl run1
  · exact run1.elim
end
end PV

/-! PV16: +, dict displays, what is owned is changed. -/
namespace PV
open PySem PySem.Spec PyProof.Rows L2

section
variable {k : Kx} {X : Cx} {f f' : Fx} {σ σ' : L2.St} {ρ ρ' ρ1 ρ2 : Env} {H H' H1 H2 : Hp} {As As' As1 As2 : Nat → List Addr} {T T' Tn Tn1 Tn2 T1 T2 : Addr → Prop} {g : Rg} {p pa pb : Bool} {W : WX} {a b e : Expr} {pos : Pos} {fa fb : EvF}

/-! ### + -/
def addV (v w : Val) : Option Val := match v.d, w.d with
  | .lst l, .lst m => match seqG v l, seqG w m with
    | some (b1, g1), some (b2, g2) => if l.length + m.length ≤ lim then some (newL (b1 && b2) (g1.max g2) (l ++ m)) else none
    | _, _ => none
  | d1, d2 => (bop .add d1 d2).map (.ro .loc ·)
def evAdd (pb : Bool) (fa fb : EvF) : EvF := fun ρ => bnd (fa ρ) fun v ρ1 => bnd (fb ρ1) fun w ρ2 =>
  if v.isBor && !pb then none else match addV v w with
    | some r => some (.ok r ρ2)
    | none => none
theorem SE.add (ha : SE k X a pa fa) (hb : SE k X b pb fb) : SE k X (.BinOp a .Add b pos) (pa && pb) (evAdd pb fa fb) := by
  refine ⟨fun W tk => PE.weak (pe_op (OpR.or (opr_B .add) op_cat) (ha.go W tk) (hb.go W tk)) fun σ H Q h => ?_⟩
  obtain ⟨f, ρ, As, T, st, run⟩ := h
  refine ⟨f, ρ, As, T, st, run_bnd run fun v ρ1 e1 run1 x H1 As1 Tn1 po1 r1 => ?_⟩
  refine ⟨f, ρ1, As1, _, po1.st, run_next run1 po1 fun w ρ2 e2 run2 y H2 As2 Tn2 po2 r2 => ?_⟩
  split at run2
  · exact run2.elim
  · rename_i hbor
    have l1 := later2 po1 r1 po2 hbor
    cases er : addV v w with
    | none => simp only [er] at run2; exact run2.elim
    | some r =>
      simp only [er] at run2
      unfold addV at er
      split at er
      · rename_i l m ev ew
        split at er
        · rename_i b1 g1 b2 g2 eg1 eg2
          split at er
          · rename_i hl
            cases er
            obtain ⟨a1, vs1, rfl, hq1, hr1, hb1⟩ := seq_view po2.st l1 (by rw [ev]; rfl) eg1
            obtain ⟨a2, vs2, rfl, hq2, hr2, hb2⟩ := seq_view po2.st r2 (by rw [ew]; rfl) eg2
            rw [ev] at hq1
            rw [ew] at hq2
            refine .inr ⟨a1, a2, vs1, vs2, rfl, rfl, hq1, hq2, by rw [hr1.len, hr2.len]; exact Nat.le_trans hl lim_line, fun q hq => ?_⟩
            have rr : RepL k (f.reg (g1.max g2) (ow As2 T) H2) (vs1 ++ vs2) (l ++ m) := RepL.app
              ((hr1.mono (reg_drop fun a z => z.elim .inl fun z => .inr (.inl (.inl z)))).up (Rg.le_max_l _ _)) ((hr2.mono (reg_drop fun a z => z.elim .inl fun z => .inr (.inl (.inl z)))).up (Rg.le_max_r _ _))
            obtain ⟨Tn, po, r⟩ := new_list st (po1.tr po2) rr (b := b1 && b2) (fun hb => by
              simp only [Bool.and_eq_true] at hb
              rw [List.all_append, hb1 hb.1, hb2 hb.2]; rfl) hq
            exact run2 _ _ As2 Tn po r
          · cases er
        · cases er
      · rename_i d1 d2 _
        obtain ⟨d, ed, rfl⟩ := Option.map_eq_some_iff.mp er
        exact .inl (bop_sound .add H2 x y _ _ d Q l1.rep r2.rep ed fun z rz => run2 z H2 As2 no ((po1.tr po2).drop fun _ h => h.elim) ⟨fun _ h => h, rz.any _⟩)

/-! ### {} -/
theorem own_alloc {o : HO} {d : D} {q : Addr} (st : StOk k f σ ρ H As T) (hq : H q = none) (ho : ∀ xs, o ≠ .tup xs) (r : Own k (upd H q o) (f.reg .loc (ow As (un T fun a => a = q)) (upd H q o)) [q] (.ref q) d) :
    Post k f σ ρ H As T p ρ (upd H q o) As (fun a => a = q) ∧ VOk k f (upd H q o) As (un T fun a => a = q) (fun a => a = q) (.ref q) (.tmp .loc d) := by
  have en : un no (fun a => a = q) = (fun a => a = q) := by
    funext a
    exact propext ⟨fun z => z.elim (fun z => z.elim) id, .inr⟩
  have po := (Post.rfl' (p := p) st).allocT (o := o) hq ho
  rw [en] at po
  refine ⟨po, [q], r, by simp, fun a => by simp, fun a ha => ?_⟩
  rw [List.mem_singleton.mp ha]
  cases e : f.H0 q with
  | none => rfl
  | some u => exact absurd hq (st.dom q (by rw [e]; intro z; cases z))
def evNew (d : D) : EvF := fun ρ => some (.ok (.tmp .loc d) ρ)
theorem SE.dk : SE k X (.Dict [] [] pos) true (evNew (.dk [])) := by
  refine ⟨fun W tk => PE.weak pe_dnewK fun σ H Q h => ?_⟩
  obtain ⟨f, ρ, As, T, st, run⟩ := h
  intro q hq
  obtain ⟨po, r⟩ := own_alloc (p := true) (o := .dK []) (d := .dk []) st hq (fun xs z => by cases z) (.dk (kvs := []) upd_same rfl .nil)
  exact run _ _ As _ po r
theorem SE.dt : SE k X (.Dict [] [] pos) true (evNew (.dt [])) := by
  refine ⟨fun W tk => PE.weak pe_dnewT fun σ H Q h => ?_⟩
  obtain ⟨f, ρ, As, T, st, run⟩ := h
  intro q hq
  obtain ⟨po, r⟩ := own_alloc (p := true) (o := .dT []) (d := .dt []) st hq (fun xs z => by cases z) (.dt (kvs := []) upd_same rfl .nil)
  exact run _ _ As _ po r
/-- {key: value}, both plain constants -/
theorem SE.dk1 {ke ve : Expr} {kk : Key} {v : V} {d : D} (hk : PE X ke (tC (kV kk))) (hv : PE X ve (tC v)) (hd : d.leaf = true) (r : Rep0 k v d) : SE k X (.Dict [some ke] [ve] pos) true (evNew (.dk [(kk, d)])) := by
  refine ⟨fun W tk => PE.weak (pe_disp (pps_cons hk hv pps_nil) rfl rfl (by simp) (by simp)) fun σ H Q h => ?_⟩
  obtain ⟨f, ρ, As, T, st, run⟩ := h
  intro q hq
  refine ⟨upd_same, [(kk, v)], rfl, by simp, ?_⟩
  have e : upd (upd H q (.dK [])) q (.dK (mergeK [] [(kk, v)])) = upd H q (.dK [(kk, v)]) := by
    rw [upd_upd]; rfl
  rw [e]
  obtain ⟨po, rv⟩ := own_alloc (p := true) (o := .dK [(kk, v)]) (d := .dk [(kk, d)]) st hq (fun xs z => by cases z) (.dk (kvs := [(kk, v)]) upd_same rfl (OwnL.cons (A := []) (B := []) (.leaf hd (r.any _)) .nil))
  exact run _ _ As _ po rv

/-! ### what a name owns is changed -/
theorem StOk.mut {i : Nat} {c : Cell} {x : V} {d' : D} {g' : Rg} {A' : List Addr} (st : StOk k f σ ρ H As (un T Tn)) (off : ∀ a, Tn a → ¬ T a) (ei : ρ[i]? = some (some c)) (eo : c.own = true) (ex : σ[i]? = some (some x))
    (same : ∀ a, a ∉ As i → H' a = H a) (there : ∀ a ∈ As i, ∃ o, H' a = some o ∧ ∀ xs, o ≠ .tup xs) (sub : ∀ a ∈ A', a ∈ As i ∨ Tn a) (nod : A'.Nodup) (nw : ∀ a ∈ A', Tn a → f.H0 a = none)
    (o : Own k H' (f.reg g' (ow (setA As i A') T) H') A' x d') : StOk k f σ (ρ.set i (some { c with g := g', d := d' })) H' (setA As i A') T := by
  have hi : i < ρ.length := (List.getElem?_eq_some_iff.mp ei).1
  have dm : ∀ a, H a ≠ none → H' a ≠ none := fun a h => by
    by_cases ha : a ∈ As i
    · obtain ⟨o, e, _⟩ := there a ha
      rw [e]; intro z; cases z
    · rw [same a ha]; exact h
  have up : ∀ a, ow (setA As i A') T a → ow As (un T Tn) a := fun a z => by
    rcases z with ⟨j, z⟩ | z
    · by_cases hj : j = i
      · rw [setA_s hj] at z
        exact (sub a z).elim (fun z => .inl ⟨i, z⟩) fun z => .inr (.inr z)
      · rw [setA_n hj] at z; exact .inl ⟨j, z⟩
    · exact .inr (.inl z)
  have reg : ∀ g, Sub (f.reg g (ow As (un T Tn)) H) (f.reg g (ow (setA As i A') T) H') := fun g a u e => by
    obtain ⟨n, r, h⟩ := Fx.reg_some.mp e
    exact Fx.reg_some.mpr ⟨fun z => n (up a z), r, by rw [same a fun z => n (.inl ⟨i, z⟩)]; exact h⟩
  refine ⟨by simp [st.len], fun j c' e => ?_, fun j h => ?_, fun j j' a h h' => ?_, fun j => ?_, fun j c' e ho a ha => ?_, fun a ha j z => ?_, fun a ha => ?_, fun a h => dm a (st.dom a h), fun a xs h => ?_, fun a xs h => ?_, fun a ha z => st.fi a ha (up a z), fun a h => dm a (st.fin a h), fun j c' e ho => ?_⟩
  · by_cases hj : j = i
    · subst hj
      rw [List.getElem?_set_self hi] at e
      cases e
      refine ⟨x, ex, ?_⟩
      unfold CellOk
      rw [if_pos eo, setA_s rfl]
      exact o
    · rw [List.getElem?_set_ne (Ne.symm hj)] at e
      obtain ⟨v, e1, q⟩ := st.cell j c' e
      refine ⟨v, e1, ?_⟩
      rw [setA_n hj]
      exact q.mono reg fun a ha => same a fun z => hj (st.disj j i a ha z)
  · by_cases hj : j = i
    · subst hj
      have := h _ (List.getElem?_set_self hi)
      rw [eo] at this
      cases this
    · rw [setA_n hj]
      exact st.none_ j fun c e => h c (by rw [List.getElem?_set_ne (Ne.symm hj)]; exact e)
  · by_cases hj : j = i
    · rw [setA_s hj] at h
      by_cases hj' : j' = i
      · rw [hj, hj']
      · rw [setA_n hj'] at h'
        rcases sub a h with z | z
        · rw [hj]; exact (st.disj j' i a h' z).symm
        · exact absurd h' (st.tmp a (.inr z) j')
    · rw [setA_n hj] at h
      by_cases hj' : j' = i
      · rw [setA_s hj'] at h'
        rcases sub a h' with z | z
        · rw [hj']; exact st.disj j i a h z
        · exact absurd h (st.tmp a (.inr z) j)
      · rw [setA_n hj'] at h'
        exact st.disj j j' a h h'
  · by_cases hj : j = i
    · rw [setA_s hj]; exact nod
    · rw [setA_n hj]; exact st.nod j
  · by_cases hj : j = i
    · subst hj
      rw [List.getElem?_set_self hi] at e
      cases e
      rw [setA_s rfl] at ha
      rcases sub a ha with z | z
      · exact st.nw j c ei ho a z
      · exact nw a ha z
    · rw [setA_n hj] at ha
      rw [List.getElem?_set_ne (Ne.symm hj)] at e
      exact st.nw j c' e ho a ha
  · by_cases hj : j = i
    · rw [setA_s hj] at z
      rcases sub a z with y | y
      · exact st.tmp a (.inl ha) i y
      · exact off a y ha
    · rw [setA_n hj] at z; exact st.tmp a (.inl ha) j z
  · obtain ⟨u, e, n⟩ := st.tno a (.inl ha)
    exact ⟨u, by rw [same a (st.tmp a (.inl ha) i)]; exact e, n⟩
  · have h1 := st.tup a xs h
    rw [same a fun z => ?_]
    · exact h1
    · obtain ⟨u, e, n⟩ := st.own_in z
      rw [h1] at e
      cases e
      exact n xs rfl
  · refine st.tupb a xs ?_
    rw [← same a fun z => ?_]
    · exact h
    · obtain ⟨u, e, n⟩ := there a z
      rw [h] at e
      cases e
      exact n xs rfl
  · by_cases hj : j = i
    · subst hj
      rw [List.getElem?_set_self hi] at e
      cases e
      exact st.iov j c ei ho
    · rw [List.getElem?_set_ne (Ne.symm hj)] at e
      exact st.iov j c' e ho
theorem Frm.mut {i : Nat} {A' : List Addr} (fr : Frm H As H1 As1) (same : ∀ a, a ∉ As1 i → H' a = H1 a) (there : ∀ a ∈ As1 i, ∃ o, H' a = some o ∧ ∀ xs, o ≠ .tup xs) (sub : ∀ a ∈ A', a ∈ As1 i ∨ Tn a) (fresh : ∀ a, Tn a → (∃ i, a ∈ As i) ∨ H a = none) : Frm H As H' (setA As1 i A') where
  keep := fun a o n h => by
    rw [same a fun z => ?_]
    · exact fr.keep a o n h
    · rcases fr.own i a z with ⟨j, y⟩ | y
      · exact n j y
      · rw [h] at y; cases y
  own := fun j a h => by
    by_cases hj : j = i
    · rw [setA_s hj] at h
      exact (sub a h).elim (fr.own i a) (fresh a)
    · rw [setA_n hj] at h
      exact fr.own j a h
  dom := fun a h => by
    have := fr.dom a h
    by_cases ha : a ∈ As1 i
    · obtain ⟨o, e, _⟩ := there a ha
      rw [e]; intro z; cases z
    · rw [same a ha]; exact this

/-! ### xs.append(e), xs a name -/
/-- the name's list is changed by h, which may take in what v is -/
def mutL (i : Nat) (v : Val) (h : List D → D → Option (List D)) (ρ : Env) : Option Env := match ρ[i]?, ownV v with
  | some (some c), some g => if c.own then match c.d with
    | .lst l => (h l v.d).map fun l' => ρ.set i (some { c with g := c.g.max g, d := .lst l' })
    | _ => none
    else none
  | _, _ => none
def appD (l : List D) (d : D) : Option (List D) := if l.length < lim then some (l ++ [d]) else none
def evApp (i : Nat) (fa : EvF) : EvS := fun ρ => match ρ[i]? with
  | some (some c) => if c.own then match c.d with
    | .lst _ => bndE (fa ρ) fun v ρ1 => (mutL i v appD ρ1).map .next
    | _ => none
    else none
  | _ => none
theorem own_root {F : Hp} {A : List Addr} {x : V} {l : List D} (h : Own k H F A x (.lst l)) : ∃ a B vs, A = a :: B ∧ x = .ref a ∧ H a = some (.lst vs) ∧ OwnL k H F B vs l := by
  cases h with
  | leaf hl _ => simp [D.leaf] at hl
  | lst ha ol => exact ⟨_, _, _, rfl, rfl, ha, ol⟩
theorem tyV_lst {K : PySem.W.Frag} {a : Addr} {vs : List V} (h : H a = some (.lst vs)) : tyV K "list" (.ref a) H := .inl ⟨rfl, vs, .of h⟩
theorem SS.app {i : Nat} {x : Str} {p' apos cpos pos : Pos} (hv : PE X (.Name x p') (tVar i)) (hs : notStar e = true) (hline : (apos.endLine == cpos.line) = true) (ha : SE k X e pa fa) :
    SS k X (.Expr (.Call (.Attribute (.Name x p') "append" apos) [e] [] cpos) pos) (evApp i fa) := by
  refine ⟨fun W tk => PS.weak (ps_expr (pe_bm PySem.F.plainAttrs_list PySem.F.slot_list_append PySem.F.type_list_append mt_append hv (pa_cons (ha.go W tk) pa_nil (star_cons hs)) rfl (by rw [star_cons hs]; rfl) hline (star_cons hs) rfl) rfl) fun D σ H h => ?_⟩
  obtain ⟨f, ρ, As, T, st, run⟩ := h
  unfold evApp at run
  split at run
  · rename_i c ei
    split at run
    · rename_i hown
      split at run
      · rename_i l0 hd
        obtain ⟨x0, ex, hc⟩ := st.cell i c ei
        have hc' := hc
        unfold CellOk at hc'
        rw [if_pos hown, hd] at hc'
        obtain ⟨a0, B0, vs0, eA, rfl, ha0, ol0⟩ := own_root hc'
        refine ⟨_, ex, tyV_lst ha0, ?_⟩
        refine ⟨f, ρ, As, T, st, run_bndE run fun v ρ1 e1 run1 y H1 As1 Tn1 po1 r1 => ?_⟩
        cases em : mutL i v appD ρ1 with
        | none => rw [em] at run1; exact run1.elim
        | some ρ2 =>
          rw [em] at run1
          unfold mutL at em
          split at em
          · rename_i c1 g1 ei1 eg1
            split at em
            · rename_i hown1
              split at em
              · rename_i l1 hd1
                obtain ⟨l2, el, rfl⟩ := Option.map_eq_some_iff.mp em
                obtain ⟨x1, ex1, hc1⟩ := po1.st.cell i c1 ei1
                rw [ex] at ex1
                cases ex1
                unfold CellOk at hc1
                rw [if_pos hown1, hd1] at hc1
                obtain ⟨a1, B1, vs1, eA1, ea1, ha1, ol1⟩ := own_root hc1
                cases ea1
                unfold appD at el
                split at el
                · rename_i hlen
                  cases el
                  refine ⟨a0, vs1, y, rfl, rfl, ha1, by rw [ol1.len]; exact Nat.lt_of_lt_of_le hlen lim_line, ?_⟩
                  obtain ⟨A2, o2, n2, i2, w2⟩ := vok_own po1.st r1 eg1
                  have nd := po1.st.nod i
                  rw [eA1] at nd
                  have nd' := List.nodup_cons.mp nd
                  have inAs : ∀ z ∈ (a0 :: (B1 ++ A2)), z ∈ As1 i ∨ Tn1 z := fun z hz => by
                    rcases List.mem_cons.mp hz with hz | hz
                    · exact .inl (by rw [eA1, hz]; exact List.mem_cons_self)
                    · rcases List.mem_append.mp hz with hz | hz
                      · exact .inl (by rw [eA1]; exact List.mem_cons_of_mem _ hz)
                      · exact .inr (i2 z hz)
                  have same : ∀ z, z ∉ As1 i → upd H1 a0 (.lst (vs1 ++ [y])) z = H1 z := fun z hz => upd_ne fun e => hz (by rw [eA1, e]; exact List.mem_cons_self)
                  have there : ∀ z ∈ As1 i, ∃ o, upd H1 a0 (.lst (vs1 ++ [y])) z = some o ∧ ∀ xs, o ≠ .tup xs := fun z hz => by
                    by_cases hza : z = a0
                    · rw [hza, upd_same]; exact ⟨_, rfl, fun xs q => by cases q⟩
                    · rw [upd_ne hza]; exact po1.st.own_in hz
                  have a2n : ∀ z ∈ A2, z ≠ a0 ∧ z ∉ B1 := fun z hz => by
                    have := po1.st.tmp z (.inr (i2 z hz)) i
                    rw [eA1] at this
                    exact ⟨fun e => this (by rw [e]; exact List.mem_cons_self), fun q => this (List.mem_cons_of_mem _ q)⟩
                  have ndA : (a0 :: (B1 ++ A2)).Nodup := by
                    refine List.nodup_cons.mpr ⟨fun z => ?_, List.nodup_append.mpr ⟨nd'.2, n2, fun z hz w hw eq => ?_⟩⟩
                    · rcases List.mem_append.mp z with z | z
                      · exact nd'.1 z
                      · exact (a2n _ z).1 rfl
                    · exact (a2n w hw).2 (eq ▸ hz)
                  have regs : ∀ {g g'}, g.le g' = true → Sub (f.reg g (ow As1 (un T Tn1)) H1) (f.reg g' (ow (setA As1 i (a0 :: (B1 ++ A2))) T) (upd H1 a0 (.lst (vs1 ++ [y])))) := fun {g g'} hg z u e => by
                    obtain ⟨n, r, h⟩ := Fx.reg_some.mp (Fx.reg_le hg _ _ e)
                    refine Fx.reg_some.mpr ⟨fun q => n ?_, r, by rw [same z fun q => n (.inl ⟨i, q⟩)]; exact h⟩
                    rcases q with ⟨j, q⟩ | q
                    · by_cases hj : j = i
                      · rw [setA_s hj] at q
                        exact (inAs z q).elim (fun q => .inl ⟨i, q⟩) fun q => .inr (.inr q)
                      · rw [setA_n hj] at q; exact .inl ⟨j, q⟩
                    · exact .inr (.inl q)
                  have own : Own k (upd H1 a0 (.lst (vs1 ++ [y]))) (f.reg (c1.g.max g1) (ow (setA As1 i (a0 :: (B1 ++ A2))) T) (upd H1 a0 (.lst (vs1 ++ [y])))) (a0 :: (B1 ++ A2)) (.ref a0) (.lst (l1 ++ [v.d])) := by
                    refine .lst upd_same (OwnL.app (ol1.mono (regs (Rg.le_max_l _ _)) fun z hz => upd_ne fun e => nd'.1 (e ▸ hz)) ?_)
                    have := OwnL.cons (o2.mono (regs (g := g1) (g' := c1.g.max g1) (Rg.le_max_r _ _)) fun z hz => upd_ne (H := H1) (o := .lst (vs1 ++ [y])) (a2n z hz).1) (OwnL.nil (k := k))
                    rw [List.append_nil] at this
                    exact this
                  have st2 := po1.st.mut (po1.off st) ei1 hown1 ex same there inAs ndA (fun z hz hT => by
                    rcases List.mem_cons.mp hz with hz | hz
                    · exact absurd (by rw [eA1, hz]; exact List.mem_cons_self) (po1.st.tmp z (.inr hT) i)
                    · rcases List.mem_append.mp hz with hz | hz
                      · exact absurd (by rw [eA1]; exact List.mem_cons_of_mem _ hz) (po1.st.tmp z (.inr hT) i)
                      · exact w2 z hz) own
                  exact run1 σ _ _ st2 (po1.fr.mut same there inAs po1.fresh)
                · cases el
              · cases em
            · cases em
          · cases em
      · exact run.elim
    · exact run.elim
  · exact run.elim
end
end PV

/-! PV17: classes, isinstance. -/
namespace PV
open PySem PySem.Spec PyProof.Rows L2

/-- built-in classes that isinstance is asked of -/
inductive Ty where
  | bool | int | str | tuple | list | dict | verr
  deriving DecidableEq
def Ty.s : Ty → String
  | .bool => "bool"
  | .int => "int"
  | .str => "str"
  | .tuple => "tuple"
  | .list => "list"
  | .dict => "dict"
  | .verr => "ValueError"
/-- what a value's class is -/
inductive Bt where
  | non | bool | int | str | tuple | list | dict
def Bt.s : Bt → String
  | .non => "NoneType"
  | .bool => "bool"
  | .int => "int"
  | .str => "str"
  | .tuple => "tuple"
  | .list => "list"
  | .dict => "dict"
def btT : Bt → Ty → Bool
  | .bool, .bool => true
  | .bool, .int => true
  | .int, .int => true
  | .str, .str => true
  | .tuple, .tuple => true
  | .list, .list => true
  | .dict, .dict => true
  | _, _ => false
theorem btT_ok (b : Bt) (t : Ty) : kitB b.s t.s = some (btT b t) := by cases b <;> cases t <;> decide +kernel
inductive Cl where
  | ty (t : Ty) | own (c : Nat)
/-- the text's classes: names, whether errors, their upper classes -/
structure Cs where
  names : List Str
  xs : List Bool
  up : List (List Nat)
def Cs.isx (cs : Cs) (c : Nat) : Bool := cs.xs.getD c false
def Cs.sub (cs : Cs) (a b : Nat) : Bool := (cs.up.getD a []).contains b
def Cs.n (cs : Cs) : Nat := cs.names.length
def Cs.nm (cs : Cs) (c : Nat) : Str := cs.names.getD c Str.empty
def kxOf (K : PySem.W.Frag) (cs : Cs) : Kx := ⟨K, fun c => He.ga K (cs.nm c)⟩
def tys : List Ty := [.bool, .int, .str, .tuple, .list, .dict, .verr]
def bts : List Bt := [.non, .bool, .int, .str, .tuple, .list, .dict]
def clsB (K : PySem.W.Frag) (D : Addr) : Bool := He.eqO (PySem.W.findIn K (.ref D) "__class__") (some (some (.builtin "object.__class__"))) && (He.eqO (PySem.W.specialIn K (.builtin "object.__class__") "__get__") (some (some (.builtin "getset_descriptor.__get__"))) &&
  (decide (PySem.W.takesIn K (.builtin "object.__class__") = some true) && decide (PySem.W.mroIn K D (.type "object") = some true)))
def excB (K : PySem.W.Frag) (D : Addr) : Bool := He.eqO (PySem.W.findIn K (.ref D) "__getattribute__") (some (some (.builtin "BaseException.__getattribute__"))) && (He.eqO (PySem.W.findIn K (.ref D) "__getattr__") (some none) &&
  (decide (PySem.W.subIn K (.ref D) (.type "BaseException") = some true) && (PySem.W.hasDictIn K D && clsB K D)))
theorem clsB_ok {K : PySem.W.Frag} {D : Addr} (h : clsB K D = true) : PySem.W.findIn K (.ref D) "__class__" = some (some (.builtin "object.__class__")) ∧ PySem.W.specialIn K (.builtin "object.__class__") "__get__" = some (some (.builtin "getset_descriptor.__get__")) ∧
    PySem.W.takesIn K (.builtin "object.__class__") = some true ∧ PySem.W.mroIn K D (.type "object") = some true := by
  obtain ⟨h1, h⟩ := He.ba h
  obtain ⟨h2, h⟩ := He.ba h
  obtain ⟨h3, h4⟩ := He.ba h
  exact ⟨He.eqO_ok h1, He.eqO_ok h2, of_decide_eq_true h3, of_decide_eq_true h4⟩
theorem excB_ok {K : PySem.W.Frag} {D : Addr} (h : excB K D = true) : ExcC K D := by
  obtain ⟨h1, h⟩ := He.ba h
  obtain ⟨h2, h⟩ := He.ba h
  obtain ⟨h3, h⟩ := He.ba h
  obtain ⟨h4, h⟩ := He.ba h
  obtain ⟨h5, h6, h7, h8⟩ := clsB_ok h
  exact ⟨He.eqO_ok h1, He.eqO_ok h2, of_decide_eq_true h3, h4, h5, h6, h7, h8⟩
def oneB (K : PySem.W.Frag) (a b : Value) (r : Bool) : Bool := decide (PySem.W.kitOne K a b = some r)
def csB (K : PySem.W.Frag) (cs : Cs) : Bool :=
  (List.range cs.n).all fun x =>
    ((List.range cs.n).all fun y => oneB K (.ref (He.ga K (cs.nm x))) (.ref (He.ga K (cs.nm y))) (cs.sub x y)) &&
    ((tys.all fun t => oneB K (.ref (He.ga K (cs.nm x))) (.type t.s) (cs.isx x && decide (t = .verr))) &&
    ((bts.all fun b => oneB K (.type b.s) (.ref (He.ga K (cs.nm x))) false) &&
    (if cs.isx x then excB K (He.ga K (cs.nm x)) && ((He.Fa.exc (cs.nm x)).ok K && (List.range cs.n).all fun y => if cs.isx y then decide (PySem.W.exmOne K (.ref (He.ga K (cs.nm x))) (.ref (He.ga K (cs.nm y))) = some (cs.sub x y)) else true)
      else (He.Fa.cls (cs.nm x)).ok K && clsB K (He.ga K (cs.nm x)))))
/-- what is known of them -/
structure CsOk (K : PySem.W.Frag) (cs : Cs) : Prop where
  one : ∀ x y, x < cs.n → y < cs.n → PySem.W.kitOne K (.ref (He.ga K (cs.nm x))) (.ref (He.ga K (cs.nm y))) = some (cs.sub x y)
  ty : ∀ x (t : Ty), x < cs.n → PySem.W.kitOne K (.ref (He.ga K (cs.nm x))) (.type t.s) = some (cs.isx x && decide (t = .verr))
  tyO : ∀ (b : Bt) x, x < cs.n → PySem.W.kitOne K (.type b.s) (.ref (He.ga K (cs.nm x))) = some false
  exc : ∀ x, x < cs.n → cs.isx x = true → ExcC K (He.ga K (cs.nm x)) ∧ (He.Fa.exc (cs.nm x)).ok K = true
  exm : ∀ x y, x < cs.n → y < cs.n → cs.isx x = true → cs.isx y = true → PySem.W.exmOne K (.ref (He.ga K (cs.nm x))) (.ref (He.ga K (cs.nm y))) = some (cs.sub x y)
  cls : ∀ x, x < cs.n → cs.isx x = false → Cls K (He.ga K (cs.nm x)) ∧ clsB K (He.ga K (cs.nm x)) = true
theorem csB_ok {K : PySem.W.Frag} {cs : Cs} (h : csB K cs = true) : CsOk K cs := by
  have h0 : ∀ x, x < cs.n → _ := fun x hx => List.all_eq_true.mp h x (List.mem_range.mpr hx)
  refine ⟨fun x y hx hy => ?_, fun x t hx => ?_, fun b x hx => ?_, fun x hx hi => ?_, fun x y hx hy hi hj => ?_, fun x hx hi => ?_⟩
  · obtain ⟨h1, _⟩ := He.ba (h0 x hx)
    exact of_decide_eq_true (List.all_eq_true.mp h1 y (List.mem_range.mpr hy))
  · obtain ⟨_, h1⟩ := He.ba (h0 x hx)
    obtain ⟨h1, _⟩ := He.ba h1
    exact of_decide_eq_true (List.all_eq_true.mp h1 t (by cases t <;> simp [tys]))
  · obtain ⟨_, h1⟩ := He.ba (h0 x hx)
    obtain ⟨_, h1⟩ := He.ba h1
    obtain ⟨h1, _⟩ := He.ba h1
    exact of_decide_eq_true (List.all_eq_true.mp h1 b (by cases b <;> simp [bts]))
  · obtain ⟨_, h1⟩ := He.ba (h0 x hx)
    obtain ⟨_, h1⟩ := He.ba h1
    obtain ⟨_, h1⟩ := He.ba h1
    rw [if_pos hi] at h1
    obtain ⟨h1, h2⟩ := He.ba h1
    obtain ⟨h2, _⟩ := He.ba h2
    exact ⟨excB_ok h1, h2⟩
  · obtain ⟨_, h1⟩ := He.ba (h0 x hx)
    obtain ⟨_, h1⟩ := He.ba h1
    obtain ⟨_, h1⟩ := He.ba h1
    rw [if_pos hi] at h1
    obtain ⟨_, h2⟩ := He.ba h1
    obtain ⟨_, h2⟩ := He.ba h2
    have := List.all_eq_true.mp h2 y (List.mem_range.mpr hy)
    rw [if_pos hj] at this
    exact of_decide_eq_true this
  · obtain ⟨_, h1⟩ := He.ba (h0 x hx)
    obtain ⟨_, h1⟩ := He.ba h1
    obtain ⟨_, h1⟩ := He.ba h1
    rw [if_neg (by rw [hi]; exact Bool.false_ne_true)] at h1
    obtain ⟨h1, h2⟩ := He.ba h1
    exact ⟨He.cls_ok h1, h2⟩

/-! ### isinstance -/
def D.bt : D → Option Bt
  | .non => some .non
  | .bl _ => some .bool
  | .int _ => some .int
  | .str _ => some .str
  | .tup _ => some .tuple
  | .ktup _ => some .tuple
  | .lst _ => some .list
  | .klst _ => some .list
  | .dk _ => some .dict
  | .dt _ => some .dict
  | .ins _ _ => none
  | .exc _ => none
def D.cn : D → Nat
  | .ins c _ => c
  | .exc c => c
  | _ => 0
def isa (cs : Cs) (d : D) (c : Cl) : Option Bool := match d.bt, c with
  | some b, .ty t => some (btT b t)
  | some _, .own y => if y < cs.n then some false else none
  | none, .ty t => if d.cn < cs.n then some (cs.isx d.cn && decide (t = .verr)) else none
  | none, .own y => if d.cn < cs.n ∧ y < cs.n then some (cs.sub d.cn y) else none
def isaAny (cs : Cs) (d : D) : List Cl → Option Bool
  | [] => some false
  | c :: r => match isa cs d c with
    | some true => some true
    | some false => isaAny cs d r
    | none => none
/-- the exceptions among what d may be: they are tracked as such -/
def okX (cs : Cs) (d : D) : Bool := match d with
  | .exc c => cs.isx c && decide (c < cs.n)
  | .ins c _ => !cs.isx c && decide (c < cs.n)
  | _ => true
def tyOf (k : Kx) (d : D) : Value := match d.bt with
  | some b => .type b.s
  | none => .ref (k.C d.cn)
def Cl.v (k : Kx) : Cl → Value
  | .ty t => .type t.s
  | .own c => .ref (k.C c)
section
variable {K : PySem.W.Frag} {cs : Cs} {X : Cx} {pins : List (Addr × Obj)} {σ : L2.St} {H : Hp} {s : Shared}
theorem kit_rep (ok : CsOk X.K cs) {x : V} {u : Value} {d : D} (I : Inv X pins σ H s) (rx : RelV x u) (r : Rep (kxOf X.K cs) H x d) (hd : okX cs d = true) :
    ∃ P : Heap → Prop, PySem.W.KitX X.K u (tyOf (kxOf X.K cs) d) P ∧ P s.heap ∧ u ≠ .builtin "__main__.__loader__#opaque" := by
  have base : ∀ {t : Value}, TyX X.K H x t → ∃ P : Heap → Prop, PySem.W.KitX X.K u t P ∧ P s.heap ∧ u ≠ .builtin "__main__.__loader__#opaque" := fun h => kit_of I rx h
  cases r with
  | non => exact base (.base .non)
  | bl b => exact base (.base (.bl b))
  | int i => exact base (.base (.int i))
  | str x => exact base (.base (.str x))
  | tup h _ => exact base (.base (.tup h))
  | ktup h _ =>
    rename_i a vs l
    rcases h with (h | ⟨o, h⟩) | ⟨o, its, n, h1, h2, _⟩
    · cases h
    · cases h
    · exact base (.kTuple h1 h2)
  | lst h _ => exact base (.base (.lst h))
  | klst h _ =>
    rename_i a vs l
    rcases h with (h | ⟨o, h⟩) | ⟨o, its, n, h1, h2, _⟩
    · exact base (.base (.lst h))
    · exact base (.base (.frz h))
    · exact base (.kList h1 h2)
  | dk h _ _ =>
    rcases h with h | ⟨o, h⟩
    · exact base (.base (.dK h))
    · exact base (.fDict h)
  | dt h _ _ =>
    rcases h with h | ⟨o, h⟩
    · exact base (.base (.dT h))
    · rename_i a kvs l _ _
      cases (show u = Value.ref a from rx)
      obtain ⟨_, _, _, xs, _, ob, es, ep, h1, h2, _⟩ := (show ObjOk X.prog X.w H s.heap a (.frz o (.dT kvs)) from I.hok a _ h)
      exact ⟨_, PySem.W.kitx_dict, ⟨ob, h1, h2.1⟩, fun z => nomatch z⟩
  | ins h _ _ =>
    rename_i a dx fs c l h1 h2
    simp only [okX, Bool.and_eq_true, Bool.not_eq_true', decide_eq_true_eq] at hd
    obtain ⟨c1, c2⟩ := ok.cls c hd.2 hd.1
    obtain ⟨h5, h6, h7, h8⟩ := clsB_ok c2
    exact base (.base (.ins h c1 h5 h6 h7 h8))
  | exc h =>
    rename_i a c
    simp only [okX, Bool.and_eq_true, decide_eq_true_eq] at hd
    obtain ⟨C, _⟩ := ok.exc c hd.2 hd.1
    cases (show u = Value.ref a from rx)
    obtain ⟨⟨oe, hget, hz, vs, hv⟩, _⟩ := (show ObjOk X.prog X.w H s.heap a (ExT (.ref ((kxOf X.K cs).C c)) a) from I.hok a _ h)
    have J : PySem.W.InstAt s.heap a oe (He.ga X.K (cs.nm c)) none := by
      obtain ⟨oc, od, oda, osl⟩ := oe
      obtain ⟨h1, h2⟩ := hz
      dsimp only at h1 h2 hv
      subst h1 h2 hv
      exact ⟨hget, rfl, rfl, trivial⟩
    exact ⟨_, PySem.W.handS_kitx_exc C.hg C.hk C.hs C.hd C.ha C.hn C.ht C.hm, J, fun z => nomatch z⟩
theorem isa_ok (ok : CsOk K cs) {d : D} {c : Cl} {b : Bool} (h : isa cs d c = some b) : PySem.W.kitOne K (tyOf (kxOf K cs) d) (c.v (kxOf K cs)) = some b := by
  unfold isa at h
  unfold tyOf
  cases e : d.bt with
  | some t =>
    rw [e] at h
    cases c with
    | ty u =>
      cases h
      exact kit_ty (btT_ok t u)
    | own y =>
      simp only at h
      split at h
      · rename_i hy
        cases h
        exact ok.tyO t y hy
      · cases h
  | none =>
    rw [e] at h
    cases c with
    | ty u =>
      simp only at h
      split at h
      · rename_i hx
        cases h
        exact ok.ty _ u hx
      · cases h
    | own y =>
      simp only at h
      split at h
      · rename_i hx
        cases h
        exact ok.one _ y hx.1 hx.2
      · cases h
theorem isaAny_ok (ok : CsOk K cs) {d : D} {b : Bool} : ∀ {l : List Cl}, isaAny cs d l = some b → PySem.W.kitAny K (tyOf (kxOf K cs) d) (l.map fun c => c.v (kxOf K cs)) = some b
  | [], h => by cases h; rfl
  | c :: l, h => by
    simp only [isaAny] at h
    rw [List.map_cons]
    split at h
    · rename_i e
      cases h
      exact kitAny_cons (isa_ok ok e) (fun z => by cases z) fun _ => rfl
    · rename_i e
      exact kitAny_cons (isa_ok ok e) (fun _ => isaAny_ok ok h) fun z => by cases z
    · cases h
def Cl.vv (k : Kx) : Cl → V
  | .ty t => .ty t.s
  | .own c => .ref (k.C c)
theorem Cl.rel {k : Kx} {c : Cl} {u : Value} (r : RelV (c.vv k) u) : u = c.v k := by
  cases c with
  | ty t => exact r
  | own c => exact r
theorem Cl.rels {k : Kx} : ∀ {l : List Cl} {us : List Value}, Vals (l.map fun c => c.vv k) us → us = l.map fun c => c.v k
  | [], _, .nil => rfl
  | c :: l, _, .cons r t => by rw [Cl.rel r, Cl.rels t]; rfl
def rIsD (cs : Cs) (K : PySem.W.Frag) : List V → Hp → VK → Prop := fun xs H Q => ∃ (x : V) (d : D) (c : Cl) (b : Bool), xs = [x, c.vv (kxOf K cs)] ∧ Rep (kxOf K cs) H x d ∧ okX cs d = true ∧ isa cs d c = some b ∧ Q (.bl b) H
def rIsDT (cs : Cs) (K : PySem.W.Frag) : List V → Hp → VK → Prop := fun xs H Q => ∃ (x : V) (d : D) (tp : Addr) (l : List Cl) (b : Bool), xs = [x, .ref tp] ∧ H tp = some (.tup (l.map fun c => c.vv (kxOf K cs))) ∧ Rep (kxOf K cs) H x d ∧ okX cs d = true ∧ isaAny cs d l = some b ∧ Q (.bl b) H
theorem call_isD (ok : CsOk X.K cs) : CallR X (.builtin "isinstance") (rIsD cs X.K) := by
  intro pins s σ H xs us Q I r h
  obtain ⟨x, d, c, b, rfl, rx, hd, e, q⟩ := h
  obtain ⟨u1, u2, rfl, r1, r2⟩ := vals2 r
  have e2 := Cl.rel r2
  subst e2
  obtain ⟨P, Z, p, hx⟩ := kit_rep ok I r1 rx hd
  exact PySem.W.kia_one Z I.kIn p (isa_ok ok e) hx fun tk => ⟨.bl b, H, I.tok tk, rfl, q⟩
theorem call_isDT (ok : CsOk X.K cs) : CallR X (.builtin "isinstance") (rIsDT cs X.K) := by
  intro pins s σ H xs us Q I r h
  obtain ⟨x, d, tp, l, b, rfl, hT, rx, hd, e, q⟩ := h
  obtain ⟨u1, u2, rfl, r1, r2⟩ := vals2 r
  cases (show u2 = Value.ref tp from r2)
  obtain ⟨P, Z, p, hx⟩ := kit_rep ok I r1 rx hd
  obtain ⟨_, its, rv, o, h1, h2, n, h3⟩ := (show ObjOk X.prog X.w H s.heap tp (.tup _) from I.hok tp _ hT)
  have e3 := Cl.rels rv
  subst e3
  obtain ⟨oc, od, dt, sl⟩ := o
  simp only at h2 h3
  subst h2 h3
  exact PySem.W.kia_tup Z I.kIn p h1 (isaAny_ok ok e) hx fun tk => ⟨.bl b, H, I.tok tk, rfl, q⟩
end

/-- a class, by its name -/
structure ClN (cs : Cs) (X : Cx) (x : Str) (c : Cl) : Prop where
  pe : ∀ pos, PE X (.Name x pos) (tC (c.vv (kxOf X.K cs)))
theorem ClN.mk_ty {cs : Cs} {X : Cx} {x : Str} (t : Ty) (hg : Gl X x) (hm : X.mg x = none) (hv : bootBuiltins x = some (.type t.s)) (hn : x ≠ "__name__") (hd : (x == ("__debug__" : Str)) = false) : ClN cs X x (.ty t) := ⟨fun pos => pe_bltn (v := .ty t.s) hg hm hv rfl hn hd⟩
theorem ClN.mk_own {cs : Cs} {X : Cx} {x : Str} (c : Nat) (hg : Gl X x) (hm : X.mg x = some (.ref (He.ga X.K (cs.nm c)))) (hd : (x == ("__debug__" : Str)) = false) : ClN cs X x (.own c) := ⟨fun pos => pe_glob (v := .ref (He.ga X.K (cs.nm c))) hg hm rfl hd⟩
def evIsa (cs : Cs) (c : Cl) (fa : EvF) : EvF := fun ρ => bnd (fa ρ) fun v ρ1 => if okX cs v.d then match isa cs v.d c with
  | some b => some (.ok (.ro .loc (.bl b)) ρ1)
  | none => none else none
def evIsaT (cs : Cs) (l : List Cl) (fa : EvF) : EvF := fun ρ => bnd (fa ρ) fun v ρ1 => if okX cs v.d then match isaAny cs v.d l with
  | some b => some (.ok (.ro .loc (.bl b)) ρ1)
  | none => none else none
section
variable {X : Cx} {cs : Cs} {e : Expr} {x : Str} {c : Cl} {fa : EvF} {pa : Bool} {p1 p2 pos : Pos}
theorem SE.isa (ok : CsOk X.K cs) (hg : Gl X "isinstance") (hm : X.mg "isinstance" = none) (hc : ClN cs X x c) (hs : notStar e = true) (ha : SE (kxOf X.K cs) X e pa fa) : SE (kxOf X.K cs) X (.Call (.Name "isinstance" p1) [e, .Name x p2] [] pos) pa (evIsa cs c fa) := by
  refine ⟨fun W tk => PE.weak (pe_callB (call_isD ok) hg hm boot_isinstance (pa_cons (ha.go W tk) (pa_cons (hc.pe p2) pa_nil) (star_cons hs)) (he := star_cons hs)) fun σ H Q h => ?_⟩
  obtain ⟨f, ρ, As, T, st, run⟩ := h
  refine ⟨f, ρ, As, T, st, run_bnd run fun v ρ1 e1 run1 x H1 As1 Tn1 po1 r1 => ?_⟩
  split at run1
  · rename_i hd
    split at run1
    · rename_i b hb
      exact ⟨x, v.d, c, b, rfl, r1.rep, hd, hb, run1 _ H1 As1 no (po1.drop fun _ h => h.elim) ⟨fun _ h => h, .bl b⟩⟩
    · exact run1.elim
  · exact run1.elim
/-- the names of a tuple of classes -/
inductive ClsN (cs : Cs) (X : Cx) : List Expr → List Cl → Prop
  | nil : ClsN cs X [] []
  | cons {x : Str} {c : Cl} {p : Pos} {es : List Expr} {l : List Cl} : ClN cs X x c → ClsN cs X es l → ClsN cs X (.Name x p :: es) (c :: l)
def tCs (l : List V) : TA := fun σ H Q => Q l H
theorem ClsN.args {es : List Expr} {l : List Cl} (h : ClsN cs X es l) : PA X es (tCs (l.map fun c => c.vv (kxOf X.K cs))) := by
  induction h with
  | nil => exact PA.weak pa_nil fun σ H Q q => q
  | cons h t ih => exact PA.weak (pa_cons (h.pe _) ih rfl) fun σ H Q q => q
theorem SE.isaT {es : List Expr} {l : List Cl} {n : Nat} (ok : CsOk X.K cs) (hg : Gl X "isinstance") (hm : X.mg "isinstance" = none) (hc : ClsN cs X es l) (hl : l.length ≤ lim) (hs : notStar e = true) (ha : SE (kxOf X.K cs) X e pa fa) : SE (kxOf X.K cs) X (.Call (.Name "isinstance" p1) [e, .Tuple es n p2] [] pos) pa (evIsaT cs l fa) := by
  refine ⟨fun W tk => PE.weak (pe_callB (call_isDT ok) hg hm boot_isinstance (pa_cons (ha.go W tk) (pa_cons (pe_tup hc.args) pa_nil) (star_cons hs)) (he := star_cons hs)) fun σ H Q h => ?_⟩
  obtain ⟨f, ρ, As, T, st, run⟩ := h
  refine ⟨f, ρ, As, T, st, run_bnd run fun v ρ1 e1 run1 x H1 As1 Tn1 po1 r1 => ?_⟩
  refine ⟨by rw [List.length_map]; exact Nat.le_trans hl lim_line, fun q hq => ?_⟩
  split at run1
  · rename_i hd
    split at run1
    · rename_i b hb
      have po2 := (po1.drop (Tn2 := no) fun _ z => z.elim).alloc (o := .tup (l.map fun c => c.vv (kxOf X.K cs))) hq
      exact ⟨x, v.d, q, l, b, rfl, upd_same, r1.rep.mono (sub_upd hq), hd, hb, run1 _ _ As1 no po2 ⟨fun _ h => h, .bl b⟩⟩
    · exact run1.elim
  · exact run1.elim
end
end PV

/-! PV18: raise, try. -/
namespace PV
open PySem PySem.Spec PyProof.Rows L2

section
variable {K : PySem.W.Frag} {cs : Cs} {k : Kx} {X : Cx} {f : Fx} {σ σ' : L2.St} {ρ ρ' ρ1 ρ2 : Env} {H H' H1 H2 : Hp} {As As' As1 As2 : Nat → List Addr} {T T' Tn Tn1 Tn2 T1 T2 : Addr → Prop} {g : Rg} {p pa pb : Bool} {W : WX}

/-! ### raise C('..') -/
def evRaise (c : Nat) : EvS := fun ρ => some (.exc c ρ)
theorem SS.raise {x m : Str} {c j : Nat} {p1 p2 p3 pos : Pos} (ok : CsOk X.K cs) (hc : X.calm = true) (hn : c < cs.n) (hx : cs.isx c = true) (hg : Gl X x) (hm : X.mg x = some (.ref (He.ga X.K (cs.nm c)))) (hd : (x == ("__debug__" : Str)) = false) :
    SS (kxOf X.K cs) X (.Raise (some (.Call (.Name x p1) [.Constant (.str m) j p2] [] p3)) none pos) (evRaise c) := by
  obtain ⟨_, fx⟩ := ok.exc c hn hx
  obtain ⟨e1, e2, e3, e4⟩ := He.exc_ok fx
  refine ⟨fun W tk => PS.weak (ps_raise hc tk (pmk_own PySem.F.excBase_ValueError e1 hm e2 (raises_own e3 e4) hg hd)) fun D σ H h => ?_⟩
  obtain ⟨f, ρ, As, T, st, run⟩ := h
  exact run σ H As st Frm.rfl'

/-! ### an exception that is kept -/
theorem ext_stable {cls : Value} {a : Addr} {h1 h2 : Heap} : (∃ oe : Obj, h1.get? a = some oe ∧ Zc cls none oe ∧ ∃ vs, oe.data = .fields vs) → (∀ o, h1.get? a = some o → h2.get? a = some o) → ∃ oe : Obj, h2.get? a = some oe ∧ Zc cls none oe ∧ ∃ vs, oe.data = .fields vs :=
  fun ⟨oe, e, z⟩ s => ⟨oe, s oe e, z⟩
/-- it is tracked from here on -/
theorem Inv.track {pins : List (Addr × Obj)} {s : Shared} {a : Addr} {oe : Obj} {cls : Value} (I : Inv X pins σ H s) (na : H a = none) (he : s.heap.get? a = some oe) (hz : Zc cls none oe) (hf : ∃ vs, oe.data = .fields vs) (nL : a ≠ X.env.locals)
    (n0 : X.s_0.heap.get? a = none) (np : ∀ q ∈ X.pn ++ pins, q.1 ≠ a) : Inv X pins σ (upd H a (ExT cls a)) s := by
  have ne : ∀ {b : Addr} {o : HO}, H b = some o → upd H a (ExT cls a) b = some o := fun {b o} e => by
    rw [upd_ne fun z => by rw [z, na] at e; cases e]; exact e
  exact {
    ok := I.ok
    os := I.os
    bare := I.bare
    base := {
      keep := I.base.keep
      slot := I.base.slot
      free := fun b o e n hx => by
        rw [upd_ne fun z => by rw [z, n0] at e; cases e]
        exact I.base.free b o e n hx
      there := I.base.there
      tups := fun b xs e => ne (I.base.tups b xs e)
      frzs := fun b o u e => ne (I.base.frzs b o u e)
      tbls := fun b ps e => by
        obtain ⟨m, q⟩ := I.base.tbls b ps e
        exact ⟨m, ne q⟩ }
    loc := I.loc
    cell := I.cell
    free := by rw [upd_ne (Ne.symm nL)]; exact I.free
    freeC := fun y c e => by
      rw [upd_ne fun z => ?_]
      · exact I.freeC y c e
      · obtain ⟨v, hv⟩ := I.cell y c e
        obtain ⟨oc, hoc, hd⟩ := hv
        obtain ⟨vs, hf⟩ := hf
        rw [z, he] at hoc
        cases hoc
        simp_all
    pin := fun q hq => by
      obtain ⟨h1, h2, h3⟩ := I.pin q hq
      exact ⟨h1, by rw [upd_ne (np q hq)]; exact h2, h3⟩
    hok := fun b o e => by
      by_cases hb : b = a
      · subst hb
        rw [upd_same] at e
        cases e
        exact ⟨⟨oe, he, hz, hf⟩, ⟨oe, he⟩, fun _ _ => ext_stable⟩
      · rw [upd_ne hb] at e
        exact (I.hok b o e).stay (fun _ _ _ q => q) (fun _ q => ne q) fun _ _ q => ne q
    len := I.len }
/-- what 'except C as n: x = n' wishes of an exception of the body: n's slot i, x's slot j -/
def wKept (K : PySem.W.Frag) (c : Value) (i j : Nat) (Wout : WX) (D : Ends) : WX := fun cls d σ H => d = none ∧
  ∃ b, PySem.W.exmOne K cls c = some b ∧ (b = true → ∀ a, H a = none → D.nx (((σ.set i (some (.ref a))).set j (some (.ref a))).set i none) (upd H a (ExT cls a))) ∧ (b = false → Wout cls d σ H)
theorem ps_kept {x n y : Str} {c : Value} {i j : Nat} {body : List Stmt} {np p1 p2 p3 pos pos' : Pos} {tb : WX → TS} {Wout : WX} (hst : X.stack = X.env :: X.outer) (hfm : X.env.frame = some X.env.locals) (hN : X.N.Nodup)
    (hi : X.N[i]? = some n) (hln : X.env.kindOf n = some .local) (hj : X.N[j]? = some y) (hly : X.env.kindOf y = some .local) (hij : i ≠ j) (hc : Names X x c) (hex : X.ex = []) (tk : Takes X Wout)
    (hd1 : (n == ("__debug__" : Str)) = false) (hd2 : (n == ("__classdict__" : Str)) = false)
    (hb : ∀ (W : WX) (pn : List (Addr × Obj)) (xe : Value → Shared → Prop), Takes (X.tr pn xe) W → PassesOwn (model X.prog X.w) X.A X.env xe → PSs (X.tr pn xe) body (tb W)) :
    PS X (.Try body [.ExceptHandler (some (.Name x np)) (some n) [.Assign [.Name y p1] (.Name n p2) p3] pos'] [] [] pos) (fun D σ H => tb (wKept X.K c i j Wout D) D σ H) := by
  constructor
  intro pins s σ H D I h
  have okX := I.ok
  have frA : X.A.frames = some (X.env :: X.outer) := okX.frames.trans (congrArg some hst)
  have bodyRun := (hb (wKept X.K c i j Wout D) (X.pn ++ pins)
    (fun e t1 => wpAny (model X.prog X.w) X.A (noteFrame e X.env)
      (fun _ t2 => wpAny (model X.prog X.w) X.A (setFlight e none)
        (fun _ t3 => wpAny (model X.prog X.w) X.A (handleBy e X.env [.ExceptHandler (some (.Name x np)) (some n) [.Assign [.Name y p1] (.Name n p2) p3] pos'])
          (SP X pins D) X.xe t3) X.xe t2) X.xe t1) ?takes PassesOwn.looking).run [] s σ H D (I.toTry _) h
  case takes =>
    intro u s' air
    obtain ⟨a, B, sI, pins', σ', H', cls, d, rfl, J0, ground, up, sky, na, os, ag, rfl, b, hbm, yes, no_⟩ := air
    have J := J0.ofTry (X := X) okX
    rw [show (X.tr _ _).stack = X.env :: X.outer from hst] at sky
    refine Sky.land Zc.steady frA hfm sky fun h3 fl3 up3 => ?_
    have J3 : Inv X pins σ' H' { s' with heap := h3 } := Inv.landed (X := X) J ground fl3.1 (up.trans up3) os ag
    obtain ⟨oe3, vs3, he3, hz3, hd3⟩ := fl3.there
    have offFrames : a ∉ frs (X.env :: X.outer) := fun hm => by
      obtain ⟨_, o', e', plain⟩ := fl3.2.2.1.mem hm
      rw [he3] at e'
      cases e'
      exact plain _ hd3
    have nL : a ≠ X.env.locals := fun z => offFrames (List.mem_filterMap.mpr ⟨X.env, List.mem_cons_self, hfm.trans (congrArg some z.symm)⟩)
    have nF : a ∉ X.fs := fun hm => by
      obtain ⟨e, he, q⟩ := List.mem_filterMap.mp hm
      exact offFrames (List.mem_filterMap.mpr ⟨e, List.mem_cons_of_mem _ he, q⟩)
    have S3 := J3.suite he3 hd3 na nL nF
    -- nothing of the state ahead stood at a
    have notThere : sI.heap.get? a = none := by
      cases q : sI.heap.get? a with
      | none => rfl
      | some o =>
        have := ground a o q (by rw [show (X.tr _ _).stack = X.env :: X.outer from hst]; exact offFrames)
        rw [fl3.2.1] at this
        cases this
    have n0 : X.s_0.heap.get? a = none := by
      cases q : X.s_0.heap.get? a with
      | none => rfl
      | some o =>
        obtain ⟨o', e'⟩ := J.base.there a o q (by rw [hex]; exact fun z => nomatch z)
        rw [notThere] at e'
        cases e'
    have notPin : ∀ q ∈ X.pn ++ pins, q.1 ≠ a := fun q hq z => by
      have := (J.pin q hq).1
      rw [z, notThere] at this
      cases this
    refine wpAny_handleBy_cons (codeAny_handlers_test ?_) (fun q => by cases q)
    have typ : PySem.W.Looks (model X.prog X.w) h3 (typeOf (.ref a)) cls := fun A Q E t keep q => wpAny_typeOf_ref (keep _ _ he3) (by rw [hz3.1]; exact q)
    have mat := PySem.W.exm_one (M := model X.prog X.w) J3.kIn typ hbm
    obtain ⟨hg, hdbg, hcl⟩ := hc
    have evalC : ∀ {Q : Value → Shared → Prop} {E : Value → Shared → Prop}, Q c { s' with heap := h3 } → wpAny (model X.prog X.w) (X.A.mark (some (.ref a))) (eval (.Name x np) X.env) Q E { s' with heap := h3 } := by
      intro Q E q
      rcases hcl with hm | ⟨hm, hv, hnn⟩
      · exact ld_glob (X := X.suite a ((a, oe3) :: (X.pn ++ pins))) S3 hg hm q hdbg
      · exact ld_blt (X := X.suite a ((a, oe3) :: (X.pn ++ pins))) S3 hg hm hv q hnn hdbg
    refine evalC (mat.here ?_)
    cases b with
    | true =>
      refine codeAny_handlers_suite_as (HandSPX.lands_againZ fl3 fun h4 fl4 up4 => ?_)
      have J4 : Inv X pins σ' H' { s' with heap := h4 } := Inv.landed (X := X) J ground fl4.1 ((up.trans up3).trans up4) os ag
      obtain ⟨oe4, vs4, he4, hz4, hd4⟩ := fl4.there
      have S4 := J4.suite he4 hd4 na nL nF
      refine store_ok (X := X.suite a ((a, oe4) :: (X.pn ++ pins))) (v := .ref a) S4 hN hi (.inl hln) rfl (fun s5 S5 => ?_) (.inr hln)
      have asg : PSs (X.suite a ((a, oe4) :: (X.pn ++ pins))) [.Assign [.Name y p1] (.Name n p2) p3] (tSeq (tAsg (tVar i) (gName j)) tNext) :=
        pss_cons (ps_set (X := X.suite a ((a, oe4) :: (X.pn ++ pins))) hN hj (.inl hly) (pe_var (X := X.suite a ((a, oe4) :: (X.pn ++ pins))) hi (.inl hln) hd1 hd2) rfl (.inr hly)) pss_nil
      have hlt : i < σ'.length := by rw [J4.len]; exact (List.getElem?_eq_some_iff.mp hi).1
      have sufR := asg.run [] s5 (σ'.set i (some (.ref a))) H'
        { nx := fun σ6 H6 => σ6 = (σ'.set i (some (.ref a))).set j (some (.ref a)) ∧ H6 = H', rt := fun _ _ => False, bk := fun _ _ => False, ct := fun _ _ => False }
        S5 ⟨.ref a, List.getElem?_set_self hlt, rfl, rfl⟩
      refine wpAny_mono sufR (fun fl s6 hsp => ?_) (fun _ _ z => False.elim z)
      cases fl with
      | next =>
        obtain ⟨σ6, H6, S6, rfl, rfl⟩ := hsp
        obtain ⟨hget, _, _⟩ := S6.pin (a, oe4) (List.mem_append_left _ List.mem_cons_self)
        have J6 := Inv.track (S6.unsuite okX) na hget hz4 ⟨_, hd4⟩ nL n0 notPin
        exact gone_ok J6 hN hi hln fun s7 J7 => ⟨_, _, J7, yes rfl a na⟩
      | brk => obtain ⟨_, _, _, z⟩ := hsp; exact z.elim
      | cont => obtain ⟨_, _, _, z⟩ := hsp; exact z.elim
      | ret u => obtain ⟨_, _, _, _, _, z⟩ := hsp; exact z.elim
    | false =>
      refine wpAny_handleBy_nil ?_
      obtain ⟨k1, k2, k3, oe, vs, Tr, oT, ts', he, hz, hd, h1, hr⟩ := id fl3
      unfold PySem.passOn
      refine wpAny_bind (wpAny_field he hd h1 ?_)
      rw [if_neg (show ¬ ((Value.ref Tr == Value.none) = true) by simp)]
      have leave : wpAny (model X.prog X.w) X.A (setFlight (.ref a) X.env.frame)
          (fun _ t4 => wpAny (model X.prog X.w) X.A (throw (.ref a) : Sem Flow) (SP X pins D) X.xe t4) X.xe { s' with heap := h3 } := by
        rw [hfm]
        refine HandSPX.setFlight_upZ fl3 fun h4 hh4 up4 => wpAny_throw (tk _ _ ?_)
        refine ⟨a, B, sI, pins, σ', H', cls, none, rfl, J, ground, (up.trans up3).trans up4, ?_, na, os, ag, no_ rfl⟩
        rw [hst]
        exact .inr (.inr hh4)
      first
        | exact wpAny_bind (wpAny_pure (wpAny_bind leave))
        | exact wpAny_bind leave
  refine wpAny_Try_except (wpAny_mono bodyRun (fun fl s1 hsp => ?_) fun _ _ he => he)
  cases fl with
  | next =>
    obtain ⟨σ', H', J', q⟩ := hsp
    exact wpAny_execs_nil ⟨σ', H', J'.ofTry okX, q⟩
  | brk =>
    obtain ⟨σ', H', J', q⟩ := hsp
    exact ⟨σ', H', J'.ofTry okX, q⟩
  | cont =>
    obtain ⟨σ', H', J', q⟩ := hsp
    exact ⟨σ', H', J'.ofTry okX, q⟩
  | ret u =>
    obtain ⟨v, σ', H', J', r, q⟩ := hsp
    exact ⟨v, σ', H', J'.ofTry okX, r, q⟩
end
end PV

/-! PV19: try; names moved and given free. -/
namespace PV
open PySem PySem.Spec PyProof.Rows L2

section
variable {K : PySem.W.Frag} {cs : Cs} {k : Kx} {X : Cx} {f : Fx} {σ σ' : L2.St} {ρ ρ' ρ1 ρ2 : Env} {H H' H1 H2 : Hp} {As As' As1 As2 : Nat → List Addr} {T T' Tn Tn1 Tn2 T1 T2 : Addr → Prop} {g : Rg} {p pa pb : Bool} {W : WX} {pos : Pos}

/-- a name is forgotten -/
theorem StOk.setNone {i : Nat} (st : StOk k f σ ρ H As T) : StOk k f (σ.set i none) (ρ.set i none) H (setA As i []) T := by
  have sub : ∀ a, ow (setA As i []) T a → ow As T a := fun a z => by
    rcases z with ⟨j, z⟩ | z
    · by_cases hj : j = i
      · rw [setA_s hj] at z; cases z
      · rw [setA_n hj] at z; exact .inl ⟨j, z⟩
    · exact .inr z
  have nocell : ∀ {j : Nat} {c : Cell}, (ρ.set i none)[j]? = some (some c) → j ≠ i ∧ ρ[j]? = some (some c) := fun {j c} e => by
    by_cases hj : j = i
    · subst hj
      by_cases hi : j < ρ.length
      · rw [List.getElem?_set_self hi] at e; cases e
      · rw [List.getElem?_eq_none (by simp; omega)] at e; cases e
    · rw [List.getElem?_set_ne (Ne.symm hj)] at e; exact ⟨hj, e⟩
  refine ⟨by simp [st.len], fun j c e => ?_, fun j h => ?_, fun j j' a h h' => ?_, fun j => ?_, fun j c e ho a ha => ?_, fun a ha j z => ?_, st.tno, st.dom, st.tup, st.tupb, fun a ha z => st.fi a ha (sub a z), st.fin, fun j c e ho => ?_⟩
  · obtain ⟨hj, e⟩ := nocell e
    obtain ⟨v, e1, q⟩ := st.cell j c e
    refine ⟨v, by rw [List.getElem?_set_ne (Ne.symm hj)]; exact e1, ?_⟩
    rw [setA_n hj]
    exact q.mono (fun g => reg_drop sub) fun _ _ => rfl
  · by_cases hj : j = i
    · rw [setA_s hj]
    · rw [setA_n hj]
      exact st.none_ j fun c e => h c (by rw [List.getElem?_set_ne (Ne.symm hj)]; exact e)
  · by_cases hj : j = i
    · rw [setA_s hj] at h; cases h
    · by_cases hj' : j' = i
      · rw [setA_s hj'] at h'; cases h'
      · rw [setA_n hj] at h
        rw [setA_n hj'] at h'
        exact st.disj j j' a h h'
  · by_cases hj : j = i
    · rw [setA_s hj]; exact .nil
    · rw [setA_n hj]; exact st.nod j
  · obtain ⟨hj, e⟩ := nocell e
    rw [setA_n hj] at ha
    exact st.nw j c e ho a ha
  · by_cases hj : j = i
    · rw [setA_s hj] at z; cases z
    · rw [setA_n hj] at z; exact st.tmp a ha j z
  · obtain ⟨hj, e⟩ := nocell e
    rw [List.getElem?_set_ne (Ne.symm hj)]
    exact st.iov j c e ho

/-! ### try: body, except C as n: y = n -/
def evTryAs (cs : Cs) (c i j : Nat) (fb : EvS) : EvS := fun ρ => match fb ρ with
  | some (.exc e ρ') => if (decide (e < cs.n) && cs.isx e && decide (j < ρ'.length)) = true then
      if cs.sub e c then some (.next ((ρ'.set j (some ⟨false, false, .loc, .exc e⟩)).set i none)) else some (.exc e ρ')
    else none
  | o => o
theorem SS.tryAs {x n y : Str} {c i j : Nat} {body : List Stmt} {np p1 p2 p3 pos' : Pos} {fb : EvS} (ok : CsOk X.K cs) (hcn : c < cs.n) (hcx : cs.isx c = true) (hst : X.stack = X.env :: X.outer) (hfm : X.env.frame = some X.env.locals) (hN : X.N.Nodup)
    (hi : X.N[i]? = some n) (hln : X.env.kindOf n = some .local) (hj : X.N[j]? = some y) (hly : X.env.kindOf y = some .local) (hij : i ≠ j) (hc : Names X x (.ref (He.ga X.K (cs.nm c)))) (hex : X.ex = [])
    (hd1 : (n == ("__debug__" : Str)) = false) (hd2 : (n == ("__classdict__" : Str)) = false)
    (hb : ∀ (pn : List (Addr × Obj)) (xe : Value → Shared → Prop), PassesOwn (model X.prog X.w) X.A X.env xe → SSs (kxOf X.K cs) (X.tr pn xe) body fb) :
    SS (kxOf X.K cs) X (.Try body [.ExceptHandler (some (.Name x np)) (some n) [.Assign [.Name y p1] (.Name n p2) p3] pos'] [] [] pos) (evTryAs cs c i j fb) := by
  refine ⟨fun W tk => PS.weak (ps_kept hst hfm hN hi hln hj hly hij hc hex tk hd1 hd2 fun W' pn xe tk' hp => (hb pn xe hp).go W' tk') fun D σ H h => ?_⟩
  obtain ⟨f, ρ, As, T, st, run⟩ := h
  refine ⟨f, ρ, As, T, st, ?_⟩
  unfold evTryAs at run
  cases eb : fb ρ with
  | none => rw [eb] at run; exact run
  | some o =>
    rw [eb] at run
    cases o with
    | next ρ1 => exact run
    | ret v ρ1 => exact run
    | exc e ρ1 =>
      simp only at run
      intro σ1 H1 As1 st1 fr1
      refine ⟨rfl, cs.sub e c, ?_⟩
      split at run
      · rename_i he
        simp only [Bool.and_eq_true, decide_eq_true_eq] at he
        obtain ⟨⟨he1, he2⟩, hjl⟩ := he
        refine ⟨ok.exm e c he1 hcn he2 hcx, fun hs a na => ?_, fun hs => ?_⟩
        · rw [if_pos hs] at run
          have fq := st1.free na
          have r : Rep (kxOf X.K cs) (f.reg .loc (ow As1 T) (upd H1 a (ExT (.ref ((kxOf X.K cs).C e)) a))) (.ref a) (.exc e) := .exc (Fx.reg_some.mpr ⟨fq.1, fq.2.1, upd_same⟩)
          have st2 := ((st1.alloc (o := ExT (.ref ((kxOf X.K cs).C e)) a) na).setRo hjl r).setNone (i := i)
          have es : ((σ1.set i (some (.ref a))).set j (some (.ref a))).set i none = (σ1.set j (some (.ref a))).set i none := by
            rw [List.set_comm _ _ hij, List.set_set]
          rw [es]
          exact run _ _ _ st2 (((fr1.tr (Frm.alloc na)).tr Frm.lose).tr Frm.lose)
        · rw [if_neg (by rw [hs]; exact Bool.false_ne_true)] at run
          exact run σ1 H1 As1 st1 fr1
      · exact run.elim

/-! ### try: body, except C: suite -/
def noExc : Option OutS → Option OutS
  | some (.exc _ _) => none
  | o => o
def evTryOnly (cs : Cs) (c : Nat) (fb fs : EvS) : EvS := fun ρ => match fb ρ with
  | some (.exc e ρ') => if (decide (e < cs.n) && cs.isx e) = true then
      if cs.sub e c then noExc (fs ρ') else some (.exc e ρ')
    else none
  | o => o
theorem SS.tryOnly {x : Str} {c : Nat} {body suite : List Stmt} {b₀ : Stmt} {np pos' : Pos} {fb fs : EvS} (ok : CsOk X.K cs) (hcn : c < cs.n) (hcx : cs.isx c = true) (hst : X.stack = X.env :: X.outer) (hfm : X.env.frame = some X.env.locals) (hc : Names X x (.ref (He.ga X.K (cs.nm c))))
    (hb : ∀ (pn : List (Addr × Obj)) (xe : Value → Shared → Prop), PassesOwn (model X.prog X.w) X.A X.env xe → SSs (kxOf X.K cs) (X.tr pn xe) body fb)
    (hsu : ∀ (a : Addr) (pn : List (Addr × Obj)), SSs (kxOf X.K cs) (X.suite a pn) (b₀ :: suite) fs) :
    SS (kxOf X.K cs) X (.Try body [.ExceptHandler (some (.Name x np)) none (b₀ :: suite) pos'] [] [] pos) (evTryOnly cs c fb fs) := by
  refine ⟨fun W tk => PS.weak (ps_try_only (ts := fun _ _ _ => TSv (kxOf X.K cs) (fun _ _ _ _ => False) fs) hst hfm hc tk (fun W' pn xe tk' hp => (hb pn xe hp).go W' tk') fun a oe cls d pn _ _ => (hsu a _).go _ fun u s' air => by
    obtain ⟨_, _, _, _, _, _, _, _, _, _, _, _, _, _, _, _, z⟩ := air
    exact z.elim) fun D σ H h => ?_⟩
  obtain ⟨f, ρ, As, T, st, run⟩ := h
  refine ⟨f, ρ, As, T, st, ?_⟩
  unfold evTryOnly at run
  cases eb : fb ρ with
  | none => rw [eb] at run; exact run
  | some o =>
    rw [eb] at run
    cases o with
    | next ρ1 => exact run
    | ret v ρ1 => exact run
    | exc e ρ1 =>
      simp only at run
      intro σ1 H1 As1 st1 fr1
      refine ⟨cs.sub e c, ?_⟩
      split at run
      · rename_i he
        simp only [Bool.and_eq_true, decide_eq_true_eq] at he
        obtain ⟨he1, he2⟩ := he
        refine ⟨ok.exm e c he1 hcn he2 hcx, fun hs a na => ?_, fun hs => ?_⟩
        · rw [if_pos hs] at run
          refine ⟨f, ρ1, As1, T, st1, ?_⟩
          cases es : fs ρ1 with
          | none => rw [es] at run; exact run.elim
          | some os =>
            rw [es] at run
            cases os with
            | next ρ2 => exact RunS.from (σ := σ) run fr1
            | ret v ρ2 => exact RunS.from (σ := σ) run fr1
            | exc c ρ2 => exact run.elim
        · rw [if_neg (by rw [hs]; exact Bool.false_ne_true)] at run
          exact run σ1 H1 As1 st1 fr1
      · exact run.elim

/-! ### what a name owns is handed on, or given free -/
/-- a name's own thing is moved out -/
def evMv (i : Nat) : EvF := fun ρ => match ρ[i]? with
  | some (some c) => if c.own && !c.io then some (.ok (.tmp c.g c.d) (ρ.set i none)) else none
  | _ => none
theorem own_cell {i : Nat} {c : Cell} (st : StOk k f σ ρ H As T) (e : ρ[i]? = some (some c)) (ho : c.own = true) : ∃ v, σ[i]? = some (some v) ∧ Own k H (f.reg c.g (ow As T) H) (As i) v c.d := by
  obtain ⟨v, e1, q⟩ := st.cell i c e
  unfold CellOk at q
  rw [if_pos ho] at q
  exact ⟨v, e1, q⟩
/-- what a name owned is a temporary now -/
theorem StOk.move {i : Nat} (st : StOk k f σ ρ H As T) : StOk k f σ (ρ.set i none) H (setA As i []) (un T fun a => a ∈ As i) := by
  have up : ∀ a, ow (setA As i []) (un T fun a => a ∈ As i) a → ow As T a := fun a z => by
    rcases z with ⟨j, z⟩ | z | z
    · by_cases hj : j = i
      · rw [setA_s hj] at z; cases z
      · rw [setA_n hj] at z; exact .inl ⟨j, z⟩
    · exact .inr z
    · exact .inl ⟨i, z⟩
  have nocell : ∀ {j : Nat} {c : Cell}, (ρ.set i none)[j]? = some (some c) → j ≠ i ∧ ρ[j]? = some (some c) := fun {j c} e => by
    by_cases hj : j = i
    · subst hj
      by_cases hi : j < ρ.length
      · rw [List.getElem?_set_self hi] at e; cases e
      · rw [List.getElem?_eq_none (by simp; omega)] at e; cases e
    · rw [List.getElem?_set_ne (Ne.symm hj)] at e; exact ⟨hj, e⟩
  refine ⟨by simp [st.len], fun j c e => ?_, fun j h => ?_, fun j j' a h h' => ?_, fun j => ?_, fun j c e ho a ha => ?_, fun a ha j z => ?_, fun a ha => ha.elim (st.tno a) fun z => st.own_in z, st.dom, st.tup, st.tupb, fun a ha z => st.fi a ha (up a z), st.fin, fun j c e ho => ?_⟩
  · obtain ⟨hj, e⟩ := nocell e
    obtain ⟨v, e1, q⟩ := st.cell j c e
    refine ⟨v, e1, ?_⟩
    rw [setA_n hj]
    exact q.mono (fun g => reg_drop up) fun _ _ => rfl
  · by_cases hj : j = i
    · rw [setA_s hj]
    · rw [setA_n hj]
      exact st.none_ j fun c e => h c (by rw [List.getElem?_set_ne (Ne.symm hj)]; exact e)
  · by_cases hj : j = i
    · rw [setA_s hj] at h; cases h
    · by_cases hj' : j' = i
      · rw [setA_s hj'] at h'; cases h'
      · rw [setA_n hj] at h
        rw [setA_n hj'] at h'
        exact st.disj j j' a h h'
  · by_cases hj : j = i
    · rw [setA_s hj]; exact .nil
    · rw [setA_n hj]; exact st.nod j
  · obtain ⟨hj, e⟩ := nocell e
    rw [setA_n hj] at ha
    exact st.nw j c e ho a ha
  · by_cases hj : j = i
    · rw [setA_s hj] at z; cases z
    · rw [setA_n hj] at z
      exact ha.elim (fun ha => st.tmp a ha j z) fun ha => hj (st.disj j i a z ha)
  · obtain ⟨hj, e⟩ := nocell e
    exact st.iov j c e ho
theorem SE.mv {i : Nat} {x : Str} (h : PE X (.Name x pos) (tVar i)) : SE k X (.Name x pos) false (evMv i) := by
  refine ⟨fun W tk => PE.weak h fun σ H Q h => ?_⟩
  obtain ⟨f, ρ, As, T, st, run⟩ := h
  unfold evMv at run
  split at run
  · rename_i c e
    split at run
    · rename_i hc
      simp only [Bool.and_eq_true, Bool.not_eq_true'] at hc
      obtain ⟨v, e1, o⟩ := own_cell st e hc.1
      have st2 := st.move (i := i)
      refine ⟨v, e1, run v H (setA As i []) (fun a => a ∈ As i) ⟨st2, Frm.lose, fun a ha => .inl ⟨i, ha⟩, fun z => by cases z⟩ ⟨As i, ?_, st.nod i, fun _ => Iff.rfl, fun a ha => st.nw i c e hc.2 a ha⟩⟩
      refine o.mono (reg_drop fun a z => ?_) fun _ _ => rfl
      rcases z with ⟨j, z⟩ | z | z
      · by_cases hj : j = i
        · rw [setA_s hj] at z; cases z
        · rw [setA_n hj] at z; exact .inl ⟨j, z⟩
      · exact .inr z
      · exact .inl ⟨i, z⟩
    · exact run.elim
  · exact run.elim
/-- .. is given free: it stays as it is from now on -/
def evFz (i : Nat) : EvF := fun ρ => match ρ[i]? with
  | some (some c) => if c.own && !c.io then some (.ok (.ro c.g c.d) (ρ.set i (some ⟨false, false, c.g, c.d⟩))) else none
  | _ => none
theorem SE.fz {i : Nat} {x : Str} (h : PE X (.Name x pos) (tVar i)) : SE k X (.Name x pos) false (evFz i) := by
  refine ⟨fun W tk => PE.weak h fun σ H Q h => ?_⟩
  obtain ⟨f, ρ, As, T, st, run⟩ := h
  unfold evFz at run
  split at run
  · rename_i c e
    split at run
    · rename_i hc
      simp only [Bool.and_eq_true, Bool.not_eq_true'] at hc
      obtain ⟨v, e1, o⟩ := own_cell st e hc.1
      have up : ∀ a, ow (setA As i []) T a → ow As T a := fun a z => by
        rcases z with ⟨j, z⟩ | z
        · by_cases hj : j = i
          · rw [setA_s hj] at z; cases z
          · rw [setA_n hj] at z; exact .inl ⟨j, z⟩
        · exact .inr z
      have r : Rep k (f.reg c.g (ow (setA As i []) T) H) v c.d := o.frz (reg_drop up) fun a ha u hu => Fx.reg_some.mpr ⟨fun z => ?_, f.inr_new _ (.inl (st.nw i c e hc.2 a ha)), hu⟩
      · have hi : i < ρ.length := (List.getElem?_eq_some_iff.mp e).1
        have st1 := (st.drop (T' := T) fun _ z => z).setNone (i := i)
        have hs : σ.set i (some v) = σ := by
          apply List.ext_getElem?
          intro j
          by_cases hj : j = i
          · subst hj
            rw [List.getElem?_set_self (by rw [← st.len]; exact hi), e1]
          · rw [List.getElem?_set_ne (Ne.symm hj)]
        have st2 : StOk k f σ (ρ.set i (some ⟨false, false, c.g, c.d⟩)) H (setA As i []) T := by
          have := st1.setRo (i := i) (x := v) (d := c.d) (g := c.g) (by simpa using hi) r
          rw [List.set_set, List.set_set, hs] at this
          have ea : setA (setA As i []) i [] = setA As i [] := by
            funext j
            by_cases hj : j = i
            · rw [setA_s hj, setA_s hj]
            · rw [setA_n hj]
          rw [ea] at this
          exact this
        have po := Post.rfl' (p := false) st2
        refine ⟨v, e1, run v H (setA As i []) no ⟨po.st, Frm.lose, fun a ha => ha.elim, fun z => by cases z⟩ ⟨fun _ z => z, by rw [un_no]; exact r⟩⟩
      · rcases z with ⟨j, z⟩ | z
        · by_cases hj : j = i
          · rw [setA_s hj] at z; cases z
          · rw [setA_n hj] at z; exact hj (st.disj j i a z ha)
        · exact st.tmp a z i ha
    · exact run.elim
  · exact run.elim
end
end PV

/-! PV20: what a body knows; the head's facts; a law's end. -/
namespace PV
open PySem PySem.Spec PyProof.Rows L2

/-! ### what a body knows -/
structure Gb where
  cs : Cs
  stg : List (Str × Str)
  free : List Str
abbrev Kn := List (Str × Nat × Fn)
/-- rs: the names as the text's block has them; sc: as the environment has them -/
structure Am (gb : Gb) (kn : Kn) (rs sc : Scope) (N : List Str) (X : Cx) : Prop where
  asc : X.env.scope = sc
  afn : ∀ x, rs.names.lookup x = some .cell → X.fn x = true
  aN : X.N = N
  nd : N.Nodup
  calm : X.calm = true
  pass : PassesOwn (model X.prog X.w) X.A X.env X.xe
  au : X.A.units + 200 < cLine
  cs : CsOk X.K gb.cs
  cls : ∀ i, i < gb.cs.n → X.mg (gb.cs.nm i) = some (.ref (He.ga X.K (gb.cs.nm i)))
  str : ∀ x z, (x, z) ∈ gb.stg → ∃ t, X.mg x = some (.str z t)
  free : ∀ x, x ∈ gb.free → X.mg x = none
  akn : ∀ (i : Nat) (q : Str × Nat × Fn), kn[i]? = some q → Known X (kxOf X.K gb.cs) q.1 q.2.1 q.2.2
/-- .. of a def, not of a comprehension's block -/
structure AmF (gb : Gb) (kn : Kn) (sc : Scope) (N : List Str) (X : Cx) : Prop extends Am gb kn sc sc N X where
  st : X.stack = X.env :: X.outer
  fm : X.env.frame = some X.env.locals
  ex : X.ex = []
def nodb (x : Str) : Bool := !(x == ("__debug__" : Str)) && (!(x == ("__classdict__" : Str)) && decide (x ≠ ("__name__" : Str)))
theorem nodb_ok {x : Str} (h : nodb x = true) : (x == ("__debug__" : Str)) = false ∧ (x == ("__classdict__" : Str)) = false ∧ x ≠ ("__name__" : Str) := by
  simp only [nodb, Bool.and_eq_true, Bool.not_eq_true', decide_eq_true_eq] at h
  exact ⟨h.1, h.2.1, h.2.2⟩
def kLoc : Option NameKind → Bool
  | some .local => true
  | some .cell => true
  | some .free => true
  | _ => false
/-- x is the name at i -/
def isLoc (sc : Scope) (N : List Str) (i : Nat) (x : Str) : Bool := decide (N[i]? = some x) && (kLoc (sc.names.lookup x) && nodb x)
/-- .. and may be set here -/
def isSt (rs sc : Scope) (N : List Str) (i : Nat) (x : Str) : Bool := decide (N[i]? = some x) && ((decide (sc.names.lookup x = some .local) || (decide (sc.names.lookup x = some .cell) && decide (rs.names.lookup x = some .cell))) && nodb x)
/-- x is a name of the module's -/
def isGlo (sc : Scope) (x : Str) : Bool := decide (sc.names.lookup x = some .globalImplicit) && nodb x
section
variable {gb : Gb} {kn : Kn} {rs sc : Scope} {N : List Str} {X : Cx} {x : Str} {i : Nat}
theorem AmF.tr (am : AmF gb kn sc N X) (pn : List (Addr × Obj)) (xe : Value → Shared → Prop) (hp : PassesOwn (model X.prog X.w) X.A X.env xe) : AmF gb kn sc N (X.tr pn xe) where
  asc := am.asc
  afn := am.afn
  aN := am.aN
  nd := am.nd
  calm := am.calm
  pass := hp
  st := am.st
  fm := am.fm
  ex := am.ex
  au := am.au
  cs := am.cs
  cls := am.cls
  str := am.str
  free := am.free
  akn := fun i q h => ⟨(am.akn i q h).ex⟩
theorem Am.loc (am : Am gb kn rs sc N X) (h : isLoc sc N i x = true) : X.N[i]? = some x ∧ Vis X.env.scope x ∧ nodb x = true := by
  simp only [isLoc, Bool.and_eq_true, decide_eq_true_eq] at h
  rw [am.aN]
  refine ⟨h.1, ?_, h.2.2⟩
  unfold Vis
  rw [am.asc]
  cases e : sc.names.lookup x with
  | none => rw [e] at h; exact absurd h.2.1 (by simp [kLoc])
  | some kd =>
    rw [e] at h
    cases kd with
    | «local» => exact .inl rfl
    | cell => exact .inr (.inl rfl)
    | free => exact .inr (.inr rfl)
    | globalExplicit => exact absurd h.2.1 (by simp [kLoc])
    | globalImplicit => exact absurd h.2.1 (by simp [kLoc])
theorem Am.sto (am : Am gb kn rs sc N X) (h : isSt rs sc N i x = true) : X.N[i]? = some x ∧ L2.Loc X.env.scope x ∧ nodb x = true ∧ (X.fn x = true ∨ X.env.scope.names.lookup x = some .local) := by
  simp only [isSt, Bool.and_eq_true, Bool.or_eq_true, decide_eq_true_eq] at h
  rw [am.aN]
  unfold L2.Loc
  rw [am.asc]
  obtain ⟨h1, h2, h3⟩ := h
  rcases h2 with h2 | ⟨h2, h4⟩
  · exact ⟨h1, .inl h2, h3, .inr h2⟩
  · exact ⟨h1, .inr h2, h3, .inl (am.afn x h4)⟩
theorem Am.gl (am : Am gb kn rs sc N X) (h : isGlo sc x = true) : Gl X x ∧ nodb x = true := by
  simp only [isGlo, Bool.and_eq_true, decide_eq_true_eq] at h
  refine ⟨?_, h.2⟩
  have : X.env.scope.names.lookup x = some .globalImplicit := by rw [am.asc]; exact h.1
  exact this
theorem Am.v (am : Am gb kn rs sc N X) (h : isLoc sc N i x = true) (pos : Pos) : PE X (.Name x pos) (tVar i) := by
  obtain ⟨h1, h2, h3⟩ := am.loc h
  exact pe_var h1 h2 (nodb_ok h3).1 (nodb_ok h3).2.1
theorem Am.t (am : Am gb kn rs sc N X) (h : isSt rs sc N i x = true) (pos : Pos) : PG X (.Name x pos) (gName i) := by
  obtain ⟨h1, h2, h3, h4⟩ := am.sto h
  exact pg_name (by rw [am.aN]; exact am.nd) h1 h2 h4
theorem Am.put {k : Kx} {own p : Bool} {e : Expr} {pos pos' : Pos} {fa : EvF} (am : Am gb kn rs sc N X) (h : isSt rs sc N i x = true) (hc : notComp e = true) (ha : SE k X e p fa) : SS k X (.Assign [.Name x pos'] e pos) (evSet own i fa) := by
  obtain ⟨h1, h2, h3, h4⟩ := am.sto h
  exact SS.set (fun he => ps_set (by rw [am.aN]; exact am.nd) h1 h2 he (swaps_no hc) h4) ha
theorem Am.fr (am : Am gb kn rs sc N X) (h : isGlo sc x = true) (j : Nat) (hj : gb.free[j]? = some x) : Gl X x ∧ X.mg x = none ∧ (x == ("__debug__" : Str)) = false ∧ x ≠ ("__name__" : Str) := by
  obtain ⟨h1, h2⟩ := am.gl h
  exact ⟨h1, am.free x (List.mem_of_getElem? hj), (nodb_ok h2).1, (nodb_ok h2).2.2⟩
theorem Am.bf {k : Kx} {e : Expr} {es : List Expr} {p pos : Pos} {pa : Bool} {fs : Env → Ev (List Val)} (am : Am gb kn rs sc N X) (hK : k.K = X.K) (b : Bf) (h : isGlo sc b.name = true) (j : Nat) (hj : gb.free[j]? = some b.name) (hs : noStars (e :: es) = true) (ha : SA k X (e :: es) pa fs) : SE k X (.Call (.Name b.name p) (e :: es) [] pos) pa (evBi (bf b) fs) := by
  obtain ⟨h1, h2, _⟩ := am.fr h j hj
  exact SE.bf hK am.calm b h1 h2 hs ha
theorem Am.call {k : Kx} {e : Expr} {es : List Expr} {p pos : Pos} {pa : Bool} {fs : Env → Ev (List Val)} {n : Nat} {F : Fn} (am : Am gb kn rs sc N X) (hk : k = kxOf X.K gb.cs) (j : Nat) (hj : kn[j]? = some (x, n, F)) (h : isGlo sc x = true) (hs : noStars (e :: es) = true) (ha : SA k X (e :: es) pa fs) : SE k X (.Call (.Name x p) (e :: es) [] pos) pa (evCall n F fs) := by
  subst hk
  obtain ⟨h1, h2⟩ := am.gl h
  exact SE.call (am.akn j _ hj) h1 (nodb_ok h2).1 hs ha
theorem Am.range1 {k : Kx} {tg a : Expr} {p pos : Pos} {pa : Bool} {fs : Env → Ev (List Val)} (am : Am gb kn rs sc N X) (h : isGlo sc "range" = true) (j : Nat) (hj : gb.free[j]? = some "range") (hs : notStar a = true) (ha : SA k X [a] pa fs) : SI k X tg (.Call (.Name "range" p) [a] [] pos) pa (evRng1 fs) := by
  obtain ⟨h1, h2, _⟩ := am.fr h j hj
  exact SI.range1 h1 h2 hs ha
theorem Am.range2 {k : Kx} {tg a b : Expr} {p pos : Pos} {pa : Bool} {fs : Env → Ev (List Val)} (am : Am gb kn rs sc N X) (h : isGlo sc "range" = true) (j : Nat) (hj : gb.free[j]? = some "range") (hs : notStar a = true) (hs' : notStar b = true) (ha : SA k X [a, b] pa fs) : SI k X tg (.Call (.Name "range" p) [a, b] [] pos) pa (evRng2 fs) := by
  obtain ⟨h1, h2, _⟩ := am.fr h j hj
  exact SI.range2 h1 h2 hs hs' ha
theorem Am.gstr {k : Kx} {z : Str} {pos : Pos} (am : Am gb kn rs sc N X) (j : Nat) (hj : gb.stg[j]? = some (x, z)) (h : isGlo sc x = true) : SE k X (.Name x pos) true (evC (.str z)) := by
  obtain ⟨h1, h2⟩ := am.gl h
  obtain ⟨t, ht⟩ := am.str x z (List.mem_of_getElem? hj)
  exact SE.gstr h1 ht (nodb_ok h2).1
theorem Am.clO (am : Am gb kn rs sc N X) (c : Nat) (hc : c < gb.cs.n) (hx : gb.cs.nm c = x) (h : isGlo sc x = true) : ClN gb.cs X x (.own c) := by
  obtain ⟨h1, h2⟩ := am.gl h
  exact ClN.mk_own c h1 (by rw [← hx]; exact am.cls c hc) (nodb_ok h2).1
theorem Am.clT (am : Am gb kn rs sc N X) (t : Ty) (j : Nat) (hj : gb.free[j]? = some x) (h : isGlo sc x = true) (hv : bootBuiltins x = some (.type t.s)) : ClN gb.cs X x (.ty t) := by
  obtain ⟨h1, h2, h3, h4⟩ := am.fr h j hj
  exact ClN.mk_ty t h1 h2 hv h4 h3
theorem Am.isa {e : Expr} {c : Cl} {fa : EvF} {pa : Bool} {p1 p2 pos : Pos} (am : Am gb kn rs sc N X) (h : isGlo sc "isinstance" = true) (j : Nat) (hj : gb.free[j]? = some "isinstance") (hc : ClN gb.cs X x c) (hs : notStar e = true) (ha : SE (kxOf X.K gb.cs) X e pa fa) :
    SE (kxOf X.K gb.cs) X (.Call (.Name "isinstance" p1) [e, .Name x p2] [] pos) pa (evIsa gb.cs c fa) := by
  obtain ⟨h1, h2, _⟩ := am.fr h j hj
  exact SE.isa am.cs h1 h2 hc hs ha
theorem Am.isaT {e : Expr} {es : List Expr} {l : List Cl} {n : Nat} {fa : EvF} {pa : Bool} {p1 p2 pos : Pos} (am : Am gb kn rs sc N X) (h : isGlo sc "isinstance" = true) (j : Nat) (hj : gb.free[j]? = some "isinstance") (hc : ClsN gb.cs X es l) (hl : l.length ≤ lim) (hs : notStar e = true) (ha : SE (kxOf X.K gb.cs) X e pa fa) :
    SE (kxOf X.K gb.cs) X (.Call (.Name "isinstance" p1) [e, .Tuple es n p2] [] pos) pa (evIsaT gb.cs l fa) := by
  obtain ⟨h1, h2, _⟩ := am.fr h j hj
  exact SE.isaT am.cs h1 h2 hc hl hs ha
theorem Am.raise {m : Str} {c j : Nat} {p1 p2 p3 pos : Pos} (am : Am gb kn rs sc N X) (hn : c < gb.cs.n) (hx : gb.cs.isx c = true) (e : gb.cs.nm c = x) (h : isGlo sc x = true) :
    SS (kxOf X.K gb.cs) X (.Raise (some (.Call (.Name x p1) [.Constant (.str m) j p2] [] p3)) none pos) (evRaise c) := by
  obtain ⟨h1, h2⟩ := am.gl h
  exact SS.raise am.cs am.calm hn hx h1 (by rw [← e]; exact am.cls c hn) (nodb_ok h2).1
theorem Am.names (am : Am gb kn rs sc N X) (c : Nat) (hn : c < gb.cs.n) (e : gb.cs.nm c = x) (h : isGlo sc x = true) : Names X x (.ref (He.ga X.K (gb.cs.nm c))) := by
  obtain ⟨h1, h2⟩ := am.gl h
  exact ⟨h1, (nodb_ok h2).1, .inl (by rw [← e]; exact am.cls c hn)⟩
/-- x is the plain local name at i -/
def isLL (sc : Scope) (N : List Str) (i : Nat) (x : Str) : Bool := decide (N[i]? = some x) && (decide (sc.names.lookup x = some .local) && nodb x)
theorem Am.ll (am : Am gb kn rs sc N X) (h : isLL sc N i x = true) : X.N[i]? = some x ∧ X.env.kindOf x = some .local ∧ nodb x = true := by
  simp only [isLL, Bool.and_eq_true, decide_eq_true_eq] at h
  refine ⟨by rw [am.aN]; exact h.1, ?_, h.2.2⟩
  have : X.env.scope.names.lookup x = some .local := by rw [am.asc]; exact h.2.1
  exact this
theorem AmF.tryAs {n y : Str} {c i j : Nat} {body : List Stmt} {np p1 p2 p3 pos pos' : Pos} {fb : EvS} (am : AmF gb kn sc N X) (hn : c < gb.cs.n) (hx : gb.cs.isx c = true) (e : gb.cs.nm c = x) (h : isGlo sc x = true) (h1 : isLL sc N i n = true) (h2 : isLL sc N j y = true) (hij : i ≠ j)
    (hb : ∀ X', AmF gb kn sc N X' → X'.K = X.K → SSs (kxOf X.K gb.cs) X' body fb) :
    SS (kxOf X.K gb.cs) X (.Try body [.ExceptHandler (some (.Name x np)) (some n) [.Assign [.Name y p1] (.Name n p2) p3] pos'] [] [] pos) (evTryAs gb.cs c i j fb) := by
  obtain ⟨a1, a2, a3⟩ := am.ll h1
  obtain ⟨b1, b2, b3⟩ := am.ll h2
  exact SS.tryAs am.cs hn hx am.st am.fm (by rw [am.aN]; exact am.nd) a1 a2 b1 b2 hij (am.names c hn e h) am.ex (nodb_ok a3).1 (nodb_ok a3).2.1 fun pn xe hp => hb _ (am.tr pn xe hp) rfl
theorem AmF.tryOnly {c : Nat} {body suite : List Stmt} {b₀ : Stmt} {np pos pos' : Pos} {fb fs : EvS} (am : AmF gb kn sc N X) (hn : c < gb.cs.n) (hx : gb.cs.isx c = true) (e : gb.cs.nm c = x) (h : isGlo sc x = true)
    (hb : ∀ X', AmF gb kn sc N X' → X'.K = X.K → SSs (kxOf X.K gb.cs) X' body fb) (hs : ∀ a pn, SSs (kxOf X.K gb.cs) (X.suite a pn) (b₀ :: suite) fs) :
    SS (kxOf X.K gb.cs) X (.Try body [.ExceptHandler (some (.Name x np)) none (b₀ :: suite) pos'] [] [] pos) (evTryOnly gb.cs c fb fs) :=
  SS.tryOnly am.cs hn hx am.st am.fm (am.names c hn e h) (fun pn xe hp => hb _ (am.tr pn xe hp) rfl) hs
/-- a name set in an except suite -/
theorem AmF.sput {k : Kx} {own p : Bool} {e : Expr} {pos pos' : Pos} {fa : EvF} {a : Addr} {pn : List (Addr × Obj)} (am : AmF gb kn sc N X) (h : isSt sc sc N i x = true) (hc : notComp e = true) (ha : SE k (X.suite a pn) e p fa) : SS k (X.suite a pn) (.Assign [.Name x pos'] e pos) (evSet own i fa) := by
  obtain ⟨h1, h2, h3, h4⟩ := am.toAm.sto h
  exact SS.set (fun he => ps_set (X := X.suite a pn) (by show X.N.Nodup; rw [am.aN]; exact am.nd) h1 h2 he (swaps_no hc) h4) ha
theorem Am.for_ {k : Kx} {tgE iter : Expr} {body : List Stmt} {pos : Pos} {tg : Tg} {p : Bool} {fi : Env → Ev (Rg × List D)} {fb : EvS} (am : Am gb kn rs sc N X) (hk : k.K = X.K) (hn : notSetI iter = true) (hi : SI k X tgE iter p fi) (hg : PG X tgE (tgR X.K tg)) (hb : SSs k X body fb) : SS k X (.For tgE iter body [] pos) (evFor tg fi fb) :=
  SS.for hk am.pass am.calm hn hi hg hb
theorem Am.while_ {k : Kx} {c : Expr} {body : List Stmt} {pos : Pos} {p : Bool} {fc : EvF} {fb : EvS} (am : Am gb kn rs sc N X) (hc : ST k X c p fc) (hb : SSs k X body fb) : SS k X (.While c body [] pos) (evWhile fc fb) := SS.while am.pass hc hb
end

/-! ### the head -/
def obsX (cs : Cs) (fa : List He.Fa) (fn : List He.DefD) (K : PySem.W.Frag) : Bool × He.AlD := (csB K cs, He.obsD fa fn K)
def obsXG (n : Nat) (cs : Cs) (fa : List He.Fa) (fn : List He.DefD) (g : Addr → Option Obj) : Bool × He.AlD := obsX cs fa fn (He.frG g (He.asD g n))
def hookX (n : Nat) (cs : Cs) (fa : List He.Fa) (fn : List He.DefD) : PySem.W.Hook where
  α := Bool × He.AlD
  obs := fun s => obsXG n cs fa fn s.heap.get?
  val := fun _ => (true, He.valD fn)
  says := fun _ h => ∃ K : PySem.W.Frag, K.In h ∧ csB K cs = true ∧ He.SaysD fa fn K
  of := fun _ _ e => ⟨_, He.frG_in, congrArg Prod.fst e, congrArg Prod.snd e⟩
  keeps := fun _ _ _ ⟨K, hK, c⟩ k => ⟨K, PySem.W.Frag.In.keeps hK k, c⟩
theorem obsXG_eq {n : Nat} {cs : Cs} {fa : List He.Fa} {fn : List He.DefD} {g : Addr → Option Obj} {s : Shared} (h : ∀ a, g a = s.heap.get? a) : obsXG n cs fa fn g = (hookX n cs fa fn).obs s := by
  have e : g = s.heap.get? := funext h
  rw [e] <;> rfl

/-! ### a law's end -/
/-- the script, as the law finds it -/
def scriptE (ns : List Int) : Env := [some ⟨false, false, .par, .klst (ns.map .int)⟩]
def Good (F : Fn) (ns : List Int) : Prop := ∃ ρ g, F (scriptE ns) = some (.ret (.ro g (.bl true)) ρ)
theorem reps_ints {k : Kx} {F : Hp} : ∀ ns : List Int, RepL k F (ns.map V.int) (ns.map D.int)
  | [] => .nil
  | i :: r => .cons (.int i) (reps_ints r)
theorem sp_law {k : Kx} {F : Fn} {ns : List Int} {H : Hp} {a : Addr} (hS : SqL k.K H a (ns.map V.int)) (hg : Good F ns) : spF k 1 F [.ref a] H (fun v _ => v = .bl true) fun _ _ _ => False := by
  obtain ⟨ρ, g, e⟩ := hg
  refine ⟨rfl, ⟨H, no, fun _ => True, fun _ => none⟩, scriptE ns, fun _ => [], rfl, fun i v e => (by cases e), ?_, ?_⟩
  · refine (call_in (vs := [.ro .par (.klst (ns.map .int))]) (xs := [.ref a]) (fun _ => True) (.cons (.klst (Sub.sqL (fun b o e => ?_) hS) (reps_ints ns)) .nil))
    exact Fx.reg_some.mpr ⟨fun z => z.elim, Or.inr (Or.inr trivial), e⟩
  · rw [e]
    intro x H' As' Tn st fr fresh r
    exact rep_bl r.rep
end PV

/-! PV21: defs by their bodies. -/
namespace PV
open PySem PySem.Spec PyProof.Rows L2

structure Lw (gb : Gb) (K : PySem.W.Frag) (mg : Str → Option Value) : Prop where
  cs : CsOk K gb.cs
  cls : ∀ i, i < gb.cs.n → mg (gb.cs.nm i) = some (.ref (He.ga K (gb.cs.nm i)))
  stg : ∀ x z, (x, z) ∈ gb.stg → ∃ t, mg x = some (.str z t)
  free : ∀ x, x ∈ gb.free → mg x = none
structure Ok1 (gb : Gb) (P : Program) (w : World) (K : PySem.W.Frag) (mg : Str → Option Value) (base : Heap) (x : Str) (n : Nat) (F : Fn) (j : Nat) : Prop where
  ex : ∃ (fa : Addr) (fd : FuncData) (ps : List Str), ps.length = n ∧ FnOk P w K mg base (L2.CX P w) j fa fd ps (spF (kxOf K gb.cs) n F) ∧ mg x = some (.ref fa) ∧ PySem.W.keepIn K (.ref fa) = true ∧ Binds K fd ps []
def KnOk (gb : Gb) (P : Program) (w : World) (K : PySem.W.Frag) (mg : Str → Option Value) (base : Heap) (j : Nat) : Kn → Prop
  | [] => True
  | q :: r => (∃ i, i ≤ j ∧ Ok1 gb P w K mg base q.1 q.2.1 q.2.2 i) ∧ KnOk gb P w K mg base j r
section
variable {gb : Gb} {P : Program} {w : World} {K : PySem.W.Frag} {mg : Str → Option Value} {base : Heap} {x qual : Str} {params : Arguments} {body : List Stmt} {scope : Scope} {fa : Addr} {fd : FuncData} {N ps : List Str} {j : Nat} {ev : EvS} {kn : Kn}
theorem KnOk.at (h : KnOk gb P w K mg base j kn) : ∀ {i : Nat} {q : Str × Nat × Fn}, kn[i]? = some q → ∃ i, i ≤ j ∧ Ok1 gb P w K mg base q.1 q.2.1 q.2.2 i := by
  induction kn with
  | nil => intro i q e; cases e
  | cons p r ih =>
    intro i q e
    cases i with
    | zero => cases e; exact h.1
    | succ i => exact ih h.2 e
theorem mkFn (lw : Lw gb K mg) (F : FunD K x qual params body scope [] [] fa fd) (S : FnScope N ps scope) (hk : KnOk gb P w K mg base j kn) (hb : ∀ X : Cx, AmF gb kn scope N X → SSs (kxOf X.K gb.cs) X body ev) :
    FnOk P w K mg base (L2.CX P w) (j + 1) fa fd ps (spF (kxOf K gb.cs) ps.length (fnD ps.length N.length ev)) := by
  refine fn_ok F S fun cdv A outer s H E hr => hb (cxOf (L2.CX P w) P w K mg base N qual scope fa cdv A outer s H E) ?_
  exact {
    asc := rfl
    afn := fun _ _ => rfl
    aN := rfl
    nd := S.nd
    calm := rfl
    pass := passes_of rfl
    st := rfl
    fm := rfl
    ex := rfl
    au := by
      have := hr.un
      show (A.deeper _).units + 200 < cLine
      omega
    cs := lw.cs
    cls := lw.cls
    str := lw.stg
    free := lw.free
    akn := fun i q e => by
      obtain ⟨j', hj, ⟨fa', fd', ps', h1, h2, h3, h4, h5⟩⟩ := hk.at e
      exact ⟨fa', fd', ps', j', h1, h2, hr.mono hj, h3, h4, h5⟩ }
abbrev BindOk (x qual : Str) (params : Arguments) (body : List Stmt) (scope : Scope) (ps : List Str) : Prop := ∀ (kV doc pm : Value) (an : Option Addr) (cdv ct : Value) (us : List Value), us.length = ps.length → bindArgs (PySem.W.fnOf x qual params body scope .none kV doc pm an cdv ct) ⟨us, []⟩ = pure (ps.zip us)
theorem mkOk (lw : Lw gb K mg) (F : ∃ fd, FunD K x qual params body scope [] [] fa fd) (hm : mg x = some (.ref fa)) (hbd : BindOk x qual params body scope ps) (S : FnScope N ps scope) (hk : KnOk gb P w K mg base j kn) (hb : ∀ X : Cx, AmF gb kn scope N X → SSs (kxOf X.K gb.cs) X body ev) :
    Ok1 gb P w K mg base x ps.length (fnD ps.length N.length ev) (j + 1) := by
  obtain ⟨fd, F⟩ := F
  exact ⟨fa, fd, ps, rfl, mkFn lw F S hk hb, hm, F.kp, F.bindsN hbd⟩
end
/-- the names' facts -/
def faOf (gb : Gb) (fs : List Str) : List He.Fa := (gb.cs.names.map fun x => He.Fa.glo x) ++ (gb.stg.map fun q => He.Fa.str q.1 q.2) ++ (gb.free.map fun x => He.Fa.free x) ++ fs.map fun x => He.Fa.glo x
section
variable {gb : Gb} {K : PySem.W.Frag} {mg : Str → Option Value} {h : Heap} {fs : List Str} {fn : List He.DefD}
theorem fact_mem (c : He.SaysD (faOf gb fs) fn K) {f : He.Fa} (hf : f ∈ faOf gb fs) : f.ok K = true := by
  obtain ⟨i, hi⟩ := List.getElem?_of_mem hf
  exact c.fact i hi
theorem mkLw (X : K.In h) (G : h.Ns mainGlobals mg) (hc : csB K gb.cs = true) (c : He.SaysD (faOf gb fs) fn K) : Lw gb K mg where
  cs := csB_ok hc
  cls := fun i hi => by
    refine He.glo_ok X G (fact_mem c ?_)
    have e : gb.cs.nm i = gb.cs.names[i]'hi := by
      unfold Cs.nm
      rw [List.getD_eq_getElem?_getD, List.getElem?_eq_getElem hi]; rfl
    rw [e]
    exact List.mem_append_left _ (List.mem_append_left _ (List.mem_append_left _ (List.mem_map.mpr ⟨_, List.getElem_mem hi, rfl⟩)))
  stg := fun x z hz => He.str_ok X G (fact_mem c (List.mem_append_left _ (List.mem_append_left _ (List.mem_append_right _ (List.mem_map.mpr ⟨(x, z), hz, rfl⟩)))))
  free := fun x hx => He.free_ok X G (fact_mem c (List.mem_append_left _ (List.mem_append_right _ (List.mem_map.mpr ⟨x, hx, rfl⟩))))
theorem glo_mem (X : K.In h) (G : h.Ns mainGlobals mg) (c : He.SaysD (faOf gb fs) fn K) (i : Nat) {x : Str} (hx : fs[i]? = some x) : mg x = some (.ref (He.ga K x)) :=
  He.glo_ok X G (fact_mem c (List.mem_append_right _ (List.mem_map.mpr ⟨x, List.mem_of_getElem? hx, rfl⟩)))
end
theorem cx_end {P : Program} {w : World} (H : Hp) (s : Shared) (e : Value) (s' : Shared) (h : L2.CX P w [] H s (fun _ _ _ => False) e s') : False := by
  obtain ⟨_, _, _, _, _, _, _, _, _, _, _, _, z⟩ := h
  exact z
end PV
namespace PV
open PySem PySem.Spec PyProof.Rows L2
/-- what lets nothing out, told without exceptions -/
theorem fn_noX {P : Program} {w : World} {K : PySem.W.Frag} {mg : Str → Option Value} {base : Heap} {k : Nat} {f : Addr} {fd : FuncData} {ps : List Str} {sp : Sp} (F : FnOk P w K mg base (L2.CX P w) k f fd ps sp) :
    FnOk P w K mg base CX0 k f fd ps (fun vs H Q _ => sp vs H Q fun _ _ _ => False) := by
  refine ⟨fun vs H Q E q => F.len vs H Q _ q, fun A outer s H args us vs Q E hr he hb hv hs => codeAny_mono (F.run A outer s H args us vs Q _ hr he hb hv hs) fun r s' z => ?_⟩
  cases r with
  | error e =>
    obtain ⟨_, _, _, _, _, _, _, _, _, _, _, _, q⟩ := z
    exact q.elim
  | ok fl => cases fl <;> exact z
end PV

/-! PV22: the readings, step by step. -/
namespace PV
open PySem PySem.Spec PyProof.Rows L2

def lcC (g : Rg) (d : D) : Cell := ⟨false, false, g, d⟩
def ocC (g : Rg) (d : D) : Cell := ⟨true, false, g, d⟩
def retD : Option D → Env → Ev Val
  | some d, ρ => some (.ok (.ro .loc d) ρ)
  | none, _ => none
def retV : Option Val → Env → Ev Val
  | some v, ρ => some (.ok v ρ)
  | none, _ => none
section
variable {ρ : Env} {d e : D} {g g' : Rg} {v w : Val} {fa fb fc : EvF} {b pb : Bool} {i : Nat}
theorem retD_some : retD (some d) ρ = some (.ok (.ro .loc d) ρ) := rfl
theorem retD_none : retD none ρ = none := rfl
theorem retV_some : retV (some v) ρ = some (.ok v ρ) := rfl
theorem retV_none : retV none ρ = none := rfl
theorem bnd_none {α β : Type} {k : α → Env → Ev β} : bnd none k = none := rfl
theorem bnd_exc {α β : Type} {c : Nat} {k : α → Env → Ev β} : bnd (some (.exc c ρ)) k = some (.exc c ρ) := rfl
theorem d_ro : (Val.ro g d).d = d := rfl
theorem d_tmp : (Val.tmp g d).d = d := rfl
theorem d_bor : (Val.bor i g d).d = d := rfl
theorem evC_eq : evC d ρ = some (.ok (.ro .loc d) ρ) := rfl
/-! names -/
def rdV (i : Nat) (ρ : Env) : Option (Option Cell) → Ev Val
  | some (some c) => some (.ok (if c.own then .bor i c.g c.d else .ro c.g c.d) ρ)
  | _ => none
theorem evVar_eq : evVar i ρ = rdV i ρ ρ[i]? := by
  unfold evVar rdV
  rcases ρ[i]? with _ | _ | c <;> rfl
theorem rdV_lc : rdV i ρ (some (some (lcC g d))) = some (.ok (.ro g d) ρ) := rfl
theorem rdV_oc : rdV i ρ (some (some (ocC g d))) = some (.ok (.bor i g d) ρ) := rfl
/-! two operands -/
def k2b (op : D → D → Option D) (pb : Bool) (v w : Val) (ρ : Env) : Ev Val := if v.isBor && !pb then none else retD (op v.d w.d) ρ
def k2a (op : D → D → Option D) (pb : Bool) (fb : EvF) (v : Val) (ρ : Env) : Ev Val := bnd (fb ρ) (k2b op pb v)
variable {op : D → D → Option D}
theorem evOp2_eq : evOp2 op pb fa fb ρ = bnd (fa ρ) (k2a op pb fb) := by
  unfold evOp2 k2a k2b
  congr 1; funext v ρ1; congr 1; funext w ρ2
  split
  · rfl
  · cases op v.d w.d <;> rfl
theorem k2a_eq : k2a op pb fb v ρ = bnd (fb ρ) (k2b op pb v) := rfl
theorem k2b_ro : k2b op pb (.ro g d) w ρ = retD (op d w.d) ρ := rfl
theorem k2b_tmp : k2b op pb (.tmp g d) w ρ = retD (op d w.d) ρ := rfl
theorem k2b_bor : k2b op true (.bor i g d) w ρ = retD (op d w.d) ρ := rfl
def k1 (op : D → Option D) (v : Val) (ρ : Env) : Ev Val := retD (op v.d) ρ
theorem evOp1_eq {op : D → Option D} : evOp1 op fa ρ = bnd (fa ρ) (k1 op) := by
  unfold evOp1 k1
  congr 1; funext v ρ1
  cases op v.d <;> rfl
theorem k1_eq {op : D → Option D} : k1 op v ρ = retD (op v.d) ρ := rfl
/-! + -/
def kab (pb : Bool) (v w : Val) (ρ : Env) : Ev Val := if v.isBor && !pb then none else retV (addV v w) ρ
def kaa (pb : Bool) (fb : EvF) (v : Val) (ρ : Env) : Ev Val := bnd (fb ρ) (kab pb v)
theorem evAdd_eq : evAdd pb fa fb ρ = bnd (fa ρ) (kaa pb fb) := by
  unfold evAdd kaa kab
  congr 1; funext v ρ1; congr 1; funext w ρ2
  split
  · rfl
  · cases addV v w <;> rfl
theorem kaa_eq : kaa pb fb v ρ = bnd (fb ρ) (kab pb v) := rfl
theorem kab_ro : kab pb (.ro g d) w ρ = retV (addV (.ro g d) w) ρ := rfl
theorem kab_tmp : kab pb (.tmp g d) w ρ = retV (addV (.tmp g d) w) ρ := rfl
theorem kab_bor : kab true (.bor i g d) w ρ = retV (addV (.bor i g d) w) ρ := rfl
theorem addV_int {x y : Int} : addV (.ro g (.int x)) (.ro g' (.int y)) = some (.ro .loc (.int (x + y))) := rfl
theorem addV_str {x y : Str} : addV (.ro g (.str x)) (.ro g' (.str y)) = if x.length + y.length ≤ lim then some (.ro .loc (.str (x ++ y))) else none := by
  unfold addV bop
  simp only [d_ro]
  split <;> rfl
/-! chains -/
def kcd (o' : COp) (w z : Val) (ρ : Env) : Ev Val := retD (cop' o' w.d z.d) ρ
def kcc (o' : COp) (fc : EvF) (w : Val) (ρ : Env) : Option Bool → Ev Val
  | some false => some (.ok (.ro .loc (.bl false)) ρ)
  | some true => bnd (fc ρ) (kcd o' w)
  | none => none
def kcb (o o' : COp) (pb pc : Bool) (fc : EvF) (v w : Val) (ρ : Env) : Ev Val := if (v.isBor && !pb) || (w.isBor && !pc) then none else kcc o' fc w ρ (cop o v.d w.d)
def kca (o o' : COp) (pb pc : Bool) (fb fc : EvF) (v : Val) (ρ : Env) : Ev Val := bnd (fb ρ) (kcb o o' pb pc fc v)
variable {o o' : COp} {pc : Bool}
theorem evChain_eq : evChain o o' pb pc fa fb fc ρ = bnd (fa ρ) (kca o o' pb pc fb fc) := by
  unfold evChain kca kcb
  congr 1; funext v ρ1; congr 1; funext w ρ2
  split
  · rfl
  · rcases cop o v.d w.d with _ | _ | _
    · rfl
    · rfl
    · simp only [kcc]
      congr 1; funext z ρ3
      unfold kcd cop'
      cases cop o' w.d z.d <;> rfl
theorem kca_eq : kca o o' pb pc fb fc v ρ = bnd (fb ρ) (kcb o o' pb pc fc v) := rfl
theorem kcb_ro : kcb o o' pb pc fc (.ro g d) (.ro g' e) ρ = kcc o' fc (.ro g' e) ρ (cop o d e) := rfl
theorem kcc_some : kcc o' fc w ρ (some b) = if b = true then bnd (fc ρ) (kcd o' w) else some (.ok (.ro .loc (.bl false)) ρ) := by cases b <;> rfl
theorem kcd_eq : kcd o' w v ρ = retD (cop' o' w.d v.d) ρ := rfl
theorem cop'_eq {x y : D} : cop' o x y = (cop o x y).map D.bl := rfl
/-! and, or, not -/
def kAnd (fb : EvF) (v : Val) (ρ : Env) : Ev Val := match v.d with
  | .bl b => if b = true then fb ρ else some (.ok (.ro .loc (.bl false)) ρ)
  | _ => none
def kOr (fb : EvF) (v : Val) (ρ : Env) : Ev Val := match v.d with
  | .bl b => if b = true then some (.ok (.ro .loc (.bl true)) ρ) else fb ρ
  | _ => none
theorem evAnd_eq : evAnd fa fb ρ = bnd (fa ρ) (kAnd fb) := by
  unfold evAnd kAnd
  congr 1; funext v ρ1
  cases v.d with
  | bl b => cases b <;> rfl
  | _ => rfl
theorem evOr_eq : evOr fa fb ρ = bnd (fa ρ) (kOr fb) := by
  unfold evOr kOr
  congr 1; funext v ρ1
  cases v.d with
  | bl b => cases b <;> rfl
  | _ => rfl
theorem kAnd_eq : kAnd fb (.ro g (.bl b)) ρ = if b = true then fb ρ else some (.ok (.ro .loc (.bl false)) ρ) := rfl
theorem kOr_eq : kOr fb (.ro g (.bl b)) ρ = if b = true then some (.ok (.ro .loc (.bl true)) ρ) else fb ρ := rfl
theorem notD_eq : notD (.bl b) = some (.bl (!b)) := rfl
/-! lists of arguments -/
variable {vs : List Val} {fs : Env → Ev (List Val)}
def kCons2 (pr : Bool) (v : Val) (vs : List Val) (ρ : Env) : Ev (List Val) := if v.isBor && !pr then none else some (.ok (v :: vs) ρ)
def kCons (pr : Bool) (fr : Env → Ev (List Val)) (v : Val) (ρ : Env) : Ev (List Val) := bnd (fr ρ) (kCons2 pr v)
theorem evNil_eq : evNil ρ = some (.ok [] ρ) := rfl
theorem evCons_eq : evCons pb fa fs ρ = bnd (fa ρ) (kCons pb fs) := rfl
theorem kCons_eq : kCons pb fs v ρ = bnd (fs ρ) (kCons2 pb v) := rfl
theorem kCons2_ro : kCons2 pb (.ro g d) vs ρ = some (.ok (.ro g d :: vs) ρ) := rfl
theorem kCons2_tmp : kCons2 pb (.tmp g d) vs ρ = some (.ok (.tmp g d :: vs) ρ) := rfl
theorem kCons2_bor : kCons2 true (.bor i g d) vs ρ = some (.ok (.bor i g d :: vs) ρ) := rfl
def tupR (ρ : Env) : Option (Rg × List D) → Ev Val
  | some (g, ds) => if ds.length ≤ lim then some (.ok (.ro g (.tup ds)) ρ) else none
  | none => none
def kTup (vs : List Val) (ρ : Env) : Ev Val := tupR ρ (frzAll vs)
theorem evTup_eq : evTup fs ρ = bnd (fs ρ) kTup := by
  unfold evTup kTup tupR
  congr 1
theorem kTup_eq : kTup vs ρ = tupR ρ (frzAll vs) := rfl
theorem tupR_some {ds : List D} : tupR ρ (some (g, ds)) = if ds.length ≤ lim then some (.ok (.ro g (.tup ds)) ρ) else none := rfl
def kLst (vs : List Val) (ρ : Env) : Ev Val := if vs.length ≤ lim then retV (mkLst vs) ρ else none
theorem evLst_eq : evLst fs ρ = bnd (fs ρ) kLst := by
  unfold evLst kLst
  congr 1; funext vs ρ1
  split
  · cases mkLst vs <;> rfl
  · rfl
theorem kLst_eq : kLst vs ρ = if vs.length ≤ lim then retV (mkLst vs) ρ else none := rfl
/-! subscripts, slices -/
def ksb (pb : Bool) (v w : Val) (ρ : Env) : Ev Val := if v.isBor && !pb then none else retV (subV v w.d) ρ
def ksa (pb : Bool) (fb : EvF) (v : Val) (ρ : Env) : Ev Val := bnd (fb ρ) (ksb pb v)
theorem evSub_eq : evSub pb fa fb ρ = bnd (fa ρ) (ksa pb fb) := by
  unfold evSub ksa ksb
  congr 1; funext v ρ1; congr 1; funext w ρ2
  split
  · rfl
  · cases subV v w.d <;> rfl
theorem ksa_eq : ksa pb fb v ρ = bnd (fb ρ) (ksb pb v) := rfl
theorem ksb_ro : ksb pb (.ro g d) w ρ = retV (subV (.ro g d) w.d) ρ := rfl
theorem ksb_tmp : ksb pb (.tmp g d) w ρ = retV (subV (.tmp g d) w.d) ρ := rfl
theorem ksb_bor : ksb true (.bor i g d) w ρ = retV (subV (.bor i g d) w.d) ρ := rfl
variable {fl fh : Env → Ev (Option Int)} {lo hi : Option Int}
def klc (v : Val) (lo hi : Option Int) (ρ : Env) : Ev Val := retV (slV v lo hi) ρ
def klb (v : Val) (fh : Env → Ev (Option Int)) (lo : Option Int) (ρ : Env) : Ev Val := bnd (fh ρ) (klc v lo)
def kla (fl fh : Env → Ev (Option Int)) (v : Val) (ρ : Env) : Ev Val := bnd (fl ρ) (klb v fh)
theorem evSlc_eq : evSlc fa fl fh ρ = bnd (fa ρ) (kla fl fh) := by
  unfold evSlc kla klb klc
  congr 1; funext v ρ1; congr 1; funext lo ρ2; congr 1; funext hi ρ3
  cases slV v lo hi <;> rfl
theorem kla_eq : kla fl fh v ρ = bnd (fl ρ) (klb v fh) := rfl
theorem klb_eq : klb v fh lo ρ = bnd (fh ρ) (klc v lo) := rfl
theorem klc_eq : klc v lo hi ρ = retV (slV v lo hi) ρ := rfl
theorem evNo_eq : evNo ρ = some (.ok none ρ) := rfl
def kInt (v : Val) (ρ : Env) : Ev (Option Int) := match v.d with
  | .int i => some (.ok (some i) ρ)
  | _ => none
theorem evInt_eq : evInt fa ρ = bnd (fa ρ) kInt := rfl
theorem kInt_eq {x : Int} : kInt (.ro g (.int x)) ρ = some (.ok (some x) ρ) := rfl
/-! built-in functions, isinstance -/
def kBi (op : List D → Option D) (vs : List Val) (ρ : Env) : Ev Val := retD (op (vs.map Val.d)) ρ
theorem evBi_eq {op : List D → Option D} : evBi op fs ρ = bnd (fs ρ) (kBi op) := by
  unfold evBi kBi
  congr 1; funext vs ρ1
  cases op (vs.map Val.d) <;> rfl
theorem kBi_eq {op : List D → Option D} : kBi op vs ρ = retD (op (vs.map Val.d)) ρ := rfl
def kIsa (cs : Cs) (c : Cl) (v : Val) (ρ : Env) : Ev Val := if okX cs v.d then retD ((isa cs v.d c).map D.bl) ρ else none
def kIsaT (cs : Cs) (l : List Cl) (v : Val) (ρ : Env) : Ev Val := if okX cs v.d then retD ((isaAny cs v.d l).map D.bl) ρ else none
theorem evIsa_eq {cs : Cs} {c : Cl} : evIsa cs c fa ρ = bnd (fa ρ) (kIsa cs c) := by
  unfold evIsa kIsa
  congr 1; funext v ρ1
  split
  · cases isa cs v.d c <;> rfl
  · rfl
theorem evIsaT_eq {cs : Cs} {l : List Cl} : evIsaT cs l fa ρ = bnd (fa ρ) (kIsaT cs l) := by
  unfold evIsaT kIsaT
  congr 1; funext v ρ1
  split
  · cases isaAny cs v.d l <;> rfl
  · rfl
theorem kIsa_eq {cs : Cs} {c : Cl} : kIsa cs c v ρ = if okX cs v.d then retD ((isa cs v.d c).map D.bl) ρ else none := rfl
theorem kIsaT_eq {cs : Cs} {l : List Cl} : kIsaT cs l v ρ = if okX cs v.d then retD ((isaAny cs v.d l).map D.bl) ρ else none := rfl
theorem evNew_eq : evNew d ρ = some (.ok (.tmp .loc d) ρ) := rfl
/-! calls -/
inductive Oc where
  | ret (v : Val) | exc (c : Nat)
def outV : Option OutF → Option Oc
  | some (.ret v _) => some (.ret v)
  | some (.exc c _) => some (.exc c)
  | none => none
def roD (ds : List D) : Env := ds.map fun d => some (lcC .par d)
/-- what a def comes to at plain arguments -/
def run (F : Fn) (ds : List D) : Option Oc := outV (F (roD ds))
def kRet (vs : List Val) (ρ : Env) : Option Oc → Ev Val
  | some (.ret v) => retV (bkV vs v) ρ
  | some (.exc c) => some (.exc c ρ)
  | none => none
def kCall (n : Nat) (F : Fn) (vs : List Val) (ρ : Env) : Ev Val := if vs.length = n then kRet vs ρ (run F (vs.map Val.d)) else none
variable {n m : Nat} {F : Fn}
theorem roEnv_eq : roEnv vs = roD (vs.map Val.d) := by
  unfold roEnv roD
  rw [List.map_map]; rfl
theorem evCall_eq : evCall n F fs ρ = bnd (fs ρ) (kCall n F) := by
  unfold evCall kCall run
  congr 1; funext vs ρ1
  split
  · rw [roEnv_eq]
    rcases F (roD (vs.map Val.d)) with _ | ⟨v, ρ'⟩ | ⟨c, ρ'⟩
    · rfl
    · simp only [outV, kRet]
      cases bkV vs v <;> rfl
    · rfl
  · rfl
theorem kCall_eq : kCall n F vs ρ = if vs.length = n then kRet vs ρ (run F (vs.map Val.d)) else none := rfl
theorem kRet_ret : kRet vs ρ (some (.ret v)) = retV (bkV vs v) ρ := rfl
theorem kRet_exc {c : Nat} : kRet vs ρ (some (.exc c)) = some (.exc c ρ) := rfl
theorem bkV_flat (h : d.flat = true) : bkV vs (.ro g d) = some (.ro .loc d) := by
  show (bkG vs g d).map (fun g => Val.ro g d) = _
  unfold bkG
  rw [if_pos (.inr h)]; rfl
theorem bkV_loc : bkV vs (.ro .loc d) = some (.ro .loc d) := rfl
theorem bkV_tmp : bkV vs (.tmp .loc d) = some (.tmp .loc d) := rfl
theorem bkV_int {x : Int} : bkV vs (.ro g (.int x)) = some (.ro .loc (.int x)) := bkV_flat rfl
theorem bkV_str {x : Str} : bkV vs (.ro g (.str x)) = some (.ro .loc (.str x)) := bkV_flat rfl
theorem bkV_bl : bkV vs (.ro g (.bl b)) = some (.ro .loc (.bl b)) := bkV_flat rfl
theorem bkV_non : bkV vs (.ro g .non) = some (.ro .loc .non) := bkV_flat rfl
/-! statements -/
variable {sa sb : EvS} {ρ' : Env} {c : Nat}
theorem evSeq_eq : evSeq sa sb ρ = bndS (sa ρ) sb := rfl
theorem bndS_next : bndS (some (.next ρ)) sb = sb ρ := rfl
theorem bndS_ret : bndS (some (.ret v ρ)) sb = some (.ret v ρ) := rfl
theorem bndS_exc : bndS (some (.exc c ρ)) sb = some (.exc c ρ) := rfl
theorem bndS_none : bndS none sb = none := rfl
theorem evPass_eq : evPass ρ = some (.next ρ) := rfl
variable {kk : Val → EvS}
theorem bndE_ok : bndE (some (.ok v ρ)) kk = kk v ρ := rfl
theorem bndE_exc : bndE (some (.exc c ρ)) kk = some (.exc c ρ) := rfl
theorem bndE_none : bndE none kk = none := rfl
def kExpr (v : Val) (ρ : Env) : Option OutS := some (.next ρ)
theorem evExpr_eq : evExpr fa ρ = bndE (fa ρ) kExpr := rfl
theorem kExpr_eq : kExpr v ρ = some (.next ρ) := rfl
def kRetS (v : Val) (ρ : Env) : Option OutS := some (.ret v ρ)
theorem evRet_eq : evRet fa ρ = bndE (fa ρ) kRetS := rfl
theorem kRetS_eq : kRetS v ρ = some (.ret v ρ) := rfl
theorem evRetN_eq : evRetN ρ = some (.ret (.ro .loc .non) ρ) := rfl
def kIf (sa sb : EvS) (v : Val) (ρ : Env) : Option OutS := match v.d with
  | .bl b => if b = true then sa ρ else sb ρ
  | _ => none
theorem evIf_eq : evIf fa sa sb ρ = bndE (fa ρ) (kIf sa sb) := by
  unfold evIf kIf
  congr 1; funext v ρ1
  cases v.d with
  | bl b => cases b <;> rfl
  | _ => rfl
theorem kIf_eq : kIf sa sb (.ro g (.bl b)) ρ = if b = true then sa ρ else sb ρ := rfl
def setR (i : Nat) (ρ : Env) : Option Cell → Option OutS
  | some c => if i < ρ.length then some (.next (ρ.set i (some c))) else none
  | none => none
def kSet (own : Bool) (i : Nat) (v : Val) (ρ : Env) : Option OutS := setR i ρ (cellOf own v)
theorem evSet_eq : evSet b i fa ρ = bndE (fa ρ) (kSet b i) := by
  unfold evSet kSet setR
  congr 1
theorem kSet_eq : kSet b i v ρ = setR i ρ (cellOf b v) := rfl
theorem setR_some {x : Cell} : setR i ρ (some x) = if i < ρ.length then some (.next (ρ.set i (some x))) else none := rfl
theorem cellOf_ro : cellOf b (.ro g d) = some (lcC (effG g d) d) := by cases b <;> rfl
theorem cellOf_tmpF : cellOf false (.tmp g d) = some (lcC (effG g d) d) := rfl
theorem cellOf_tmpT : cellOf true (.tmp g d) = some (ocC g d) := rfl
theorem effG_loc : effG .loc d = .loc := by unfold effG; split <;> rfl
theorem effG_int {x : Int} : effG g (.int x) = .loc := rfl
theorem effG_str {x : Str} : effG g (.str x) = .loc := rfl
theorem effG_bl : effG g (.bl b) = .loc := rfl
theorem effG_non : effG g .non = .loc := rfl
def kFor (tg : Tg) (sb : EvS) (gi : Rg × List D) (ρ : Env) : Option OutS := forD tg sb gi.1 gi.2 ρ
variable {fi : Env → Ev (Rg × List D)} {tg : Tg} {l : List D}
theorem evFor_eq : evFor tg fi sb ρ = bndI (fi ρ) (kFor tg sb) := rfl
theorem bndI_ok {gi : Rg × List D} {kg : Rg × List D → EvS} : bndI (some (.ok gi ρ)) kg = kg gi ρ := rfl
theorem bndI_exc {kg : Rg × List D → EvS} : bndI (some (.exc c ρ)) kg = some (.exc c ρ) := rfl
theorem kFor_eq : kFor tg sb (g, l) ρ = forD tg sb g l ρ := rfl
theorem forD_nil : forD tg sb g [] ρ = some (.next ρ) := rfl
theorem forD_cons1 (h : i < ρ.length) : forD (.one i) sb g (d :: l) ρ = bndS (sb (ρ.set i (some (lcC (effG g d) d)))) (forD (.one i) sb g l) := by
  show (match evTg (.one i) g d ρ with
    | some ρ1 => bndS (sb ρ1) (forD (.one i) sb g l)
    | none => none) = _
  have e : evTg (.one i) g d ρ = some (ρ.set i (some (lcC (effG g d) d))) := if_pos h
  rw [e]
def kIter (v : Val) (ρ : Env) : Ev (Rg × List D) := match v.d with
  | .str z => some (.ok (.loc, chars z) ρ)
  | d => if v.isBor then none else match items d with
    | some l => match seqG v l with
      | some (_, g) => some (.ok (g, l) ρ)
      | none => none
    | none => none
theorem evIter_eq : evIter fa ρ = bnd (fa ρ) kIter := rfl
theorem kIter_str {z : Str} : kIter (.ro g (.str z)) ρ = some (.ok (.loc, chars z) ρ) := rfl
def kRng1 (vs : List Val) (ρ : Env) : Ev (Rg × List D) := match vs.map Val.d with
  | [.int j] => if small62 j then some (.ok (.loc, rangeD 0 j.toNat) ρ) else none
  | _ => none
def kRng2 (vs : List Val) (ρ : Env) : Ev (Rg × List D) := match vs.map Val.d with
  | [.int i, .int j] => if small62 i && small62 j then some (.ok (.loc, rangeD i (j - i).toNat) ρ) else none
  | _ => none
theorem evRng1_eq : evRng1 fs ρ = bnd (fs ρ) kRng1 := rfl
theorem evRng2_eq : evRng2 fs ρ = bnd (fs ρ) kRng2 := rfl
theorem kRng1_eq {x : Int} : kRng1 [.ro g (.int x)] ρ = if small62 x then some (.ok (.loc, rangeD 0 x.toNat) ρ) else none := rfl
theorem kRng2_eq {x y : Int} : kRng2 [.ro g (.int x), .ro g' (.int y)] ρ = if small62 x && small62 y then some (.ok (.loc, rangeD x (y - x).toNat) ρ) else none := rfl
theorem evRaise_eq : evRaise c ρ = some (.exc c ρ) := rfl
def kTry (cs : Cs) (c i j : Nat) : Option OutS → Option OutS
  | some (.exc e ρ') => if (decide (e < cs.n) && cs.isx e && decide (j < ρ'.length)) = true then
      if cs.sub e c then some (.next ((ρ'.set j (some (lcC .loc (.exc e)))).set i none)) else some (.exc e ρ')
    else none
  | o => o
theorem evTryAs_eq {cs : Cs} {j : Nat} : evTryAs cs c i j sa ρ = kTry cs c i j (sa ρ) := by
  unfold evTryAs kTry
  rcases sa ρ with _ | _ | _ | _ <;> rfl
theorem kTry_next {cs : Cs} {j : Nat} : kTry cs c i j (some (.next ρ)) = some (.next ρ) := rfl
theorem kTry_exc {cs : Cs} {j e : Nat} : kTry cs c i j (some (.exc e ρ)) = if (decide (e < cs.n) && cs.isx e && decide (j < ρ.length)) = true then
      if cs.sub e c then some (.next ((ρ.set j (some (lcC .loc (.exc e)))).set i none)) else some (.exc e ρ)
    else none := rfl
/-! xs.append(e) -/
def mutR (i : Nat) (v : Val) (h : List D → D → Option (List D)) (ρ : Env) : Option (Option Cell) → Option Rg → Option OutS
  | some (some c), some g => if c.own then match c.d with
    | .lst l => (h l v.d).map fun l' => .next (ρ.set i (some { c with g := c.g.max g, d := .lst l' }))
    | _ => none
    else none
  | _, _ => none
def kApp (i : Nat) (v : Val) (ρ : Env) : Option OutS := mutR i v appD ρ ρ[i]? (ownV v)
def appR (i : Nat) (fa : EvF) (ρ : Env) : Option (Option Cell) → Option OutS
  | some (some c) => if c.own then match c.d with
    | .lst _ => bndE (fa ρ) (kApp i)
    | _ => none
    else none
  | _ => none
theorem evApp_eq : evApp i fa ρ = appR i fa ρ ρ[i]? := by
  unfold evApp appR
  rcases ρ[i]? with _ | _ | c
  · rfl
  · rfl
  · obtain ⟨own, io, g, d⟩ := c
    cases own with
    | false => rfl
    | true =>
      cases d with
      | lst l0 =>
        refine congrArg (bndE (fa ρ)) (funext fun v => funext fun ρ1 => ?_)
        unfold kApp mutR mutL
        rcases ρ1[i]? with _ | _ | c1
        · rfl
        · rfl
        · cases ownV v with
          | none => rfl
          | some g =>
            obtain ⟨own, io, g1, d⟩ := c1
            cases own with
            | false => rfl
            | true =>
              cases d with
              | lst l1 =>
                show Option.map OutS.next (Option.map _ (appD l1 v.d)) = Option.map _ (appD l1 v.d)
                rw [Option.map_map]; rfl
              | _ => rfl
      | _ => rfl
theorem appR_oc : appR i fa ρ (some (some (ocC g (.lst l)))) = bndE (fa ρ) (kApp i) := rfl
theorem kApp_eq : kApp i v ρ = mutR i v appD ρ ρ[i]? (ownV v) := rfl
theorem mutR_oc {h : List D → D → Option (List D)} : mutR i v h ρ (some (some (ocC g (.lst l)))) (some g') = (h l v.d).map fun l' => .next (ρ.set i (some (ocC (g.max g') (.lst l')))) := rfl
theorem appD_eq (h : l.length < lim) : appD l d = some (l ++ [d]) := if_pos h
/-! a def -/
def fnR (ρ' : Env) (v : Val) : Option Oc := (finV ρ' v).map .ret
def outS : Option OutS → Option Oc
  | none => none
  | some (.next _) => some (.ret (.ro .loc .non))
  | some (.ret v ρ') => fnR ρ' v
  | some (.exc c _) => some (.exc c)
theorem run_fnD {ds : List D} : run (fnD n m sa) ds = outS (sa (roD ds ++ List.replicate (m - n) none)) := by
  unfold run fnD outS fnR
  rcases sa (roD ds ++ List.replicate (m - n) none) with _ | ρ1 | ⟨v, ρ1⟩ | ⟨c, ρ1⟩
  · rfl
  · rfl
  · simp only
    cases finV ρ1 v <;> rfl
  · rfl
theorem outS_next : outS (some (.next ρ)) = some (.ret (.ro .loc .non)) := rfl
theorem outS_ret : outS (some (.ret v ρ)) = fnR ρ v := rfl
theorem outS_exc : outS (some (.exc c ρ)) = some (.exc c) := rfl
theorem fnR_ro : fnR ρ (.ro g d) = some (.ret (.ro g d)) := rfl
theorem fnR_tmp : fnR ρ (.tmp g d) = some (.ret (.tmp g d)) := rfl
theorem roD_nil : roD [] = [] := rfl
theorem roD_cons {ds : List D} : roD (d :: ds) = some (lcC .par d) :: roD ds := rfl
theorem good_of {F : Fn} {ns : List Int} (h : ∃ g, run F [.klst (ns.map .int)] = some (.ret (.ro g (.bl true)))) : Good F ns := by
  obtain ⟨g, h⟩ := h
  unfold run outV at h
  have e : roD [.klst (ns.map .int)] = scriptE ns := rfl
  rw [e] at h
  unfold Good
  rcases hF : F (scriptE ns) with _ | ⟨v, ρ'⟩ | ⟨c, ρ'⟩
  · rw [hF] at h; cases h
  · rw [hF] at h; cases h; exact ⟨ρ', g, rfl⟩
  · rw [hF] at h; cases h
end
end PV

/-! PV23: the operators at plain values. -/
namespace PV
open PySem PySem.Spec PyProof.Rows L2
section
variable {i j : Int} {x y z : Str} {b c : Bool} {l : List D} {d e : D}
theorem outS_none : outS none = none := rfl
theorem ord_one {n : Nat} : bf .ord [.str ⟨#[n]⟩] = some (.int (n : Nat)) := rfl
theorem bop_add : bop .add (.int i) (.int j) = some (.int (i + j)) := rfl
theorem bop_sub : bop .sub (.int i) (.int j) = some (.int (i - j)) := rfl
theorem bop_mul : bop .mul (.int i) (.int j) = if (small i || small j || (wide i && wide j)) = true then some (.int (i * j)) else none := rfl
theorem bop_mulS : bop .mul (.str z) (.int i) = if 0 ≤ i ∧ i ≤ lim ∧ z.length * i.toNat ≤ lim then some (.str (repS z i)) else none := rfl
theorem bop_fdiv : bop .fdiv (.int i) (.int j) = if 0 < j ∧ wide j = true then some (.int (i / j)) else none := rfl
theorem bop_mod : bop .mod (.int i) (.int j) = if 0 < j then some (.int (i % j)) else none := rfl
theorem bop_pow : bop .pow (.int i) (.int j) = if 0 ≤ j ∧ j ≤ 1000000 ∧ i.natAbs < 2 ^ 64 then some (.int (i ^ j.toNat)) else none := rfl
theorem nop_int : nop (.int i) = some (.int (-i)) := rfl
theorem mul_l (h : small i = true) : bop .mul (.int i) (.int j) = some (.int (i * j)) := by rw [bop_mul, h]; rfl
theorem mul_r (h : small j = true) : bop .mul (.int i) (.int j) = some (.int (i * j)) := by rw [bop_mul, h, Bool.or_true]; rfl
theorem mul_w (h : wide i = true) (h' : wide j = true) : bop .mul (.int i) (.int j) = some (.int (i * j)) := by rw [bop_mul, h, h', Bool.and_true, Bool.or_true]; rfl
theorem fdiv_ok (h : 0 < j) (h' : wide j = true) : bop .fdiv (.int i) (.int j) = some (.int (i / j)) := if_pos ⟨h, h'⟩
theorem mod_ok (h : 0 < j) : bop .mod (.int i) (.int j) = some (.int (i % j)) := if_pos h
theorem pow_ok (h : 0 ≤ j) (h1 : j ≤ 1000000) (h2 : i.natAbs < 2 ^ 64) : bop .pow (.int i) (.int j) = some (.int (i ^ j.toNat)) := if_pos ⟨h, h1, h2⟩
theorem small_of (h : -(2 ^ 64) < i) (h' : i < 2 ^ 64) : small i = true := by
  unfold small
  rw [decide_eq_true h, decide_eq_true h']; rfl
theorem wide_of {n : Nat} (h : i.natAbs < 2 ^ n) (hn : n ≤ 4000) : wide i = true := by
  unfold wide
  exact decide_eq_true (Nat.lt_of_lt_of_le h (Nat.pow_le_pow_right (by decide) hn))
theorem cop_lt : cop .lt (.int i) (.int j) = some (decide (i < j)) := rfl
theorem cop_le : cop .le (.int i) (.int j) = some (decide (i ≤ j)) := rfl
theorem cop_gt : cop .gt (.int i) (.int j) = some (decide (j < i)) := rfl
theorem cop_ge : cop .ge (.int i) (.int j) = some (decide (j ≤ i)) := rfl
theorem cop_eqI : cop .eq (.int i) (.int j) = some (decide (i = j)) := rfl
theorem cop_eqS : cop .eq (.str x) (.str y) = some (decide (x = y)) := rfl
theorem cop_eqB : cop .eq (.bl b) (.bl c) = some (decide (b = c)) := rfl
theorem cop_neI : cop .ne (.int i) (.int j) = some (!decide (i = j)) := rfl
theorem cop_neS : cop .ne (.str x) (.str y) = some (!decide (x = y)) := rfl
theorem cop_neB : cop .ne (.bl b) (.bl c) = some (!decide (b = c)) := rfl
theorem cop_is : cop .is_ d .non = some d.isNon := rfl
theorem cop_isn : cop .isn d .non = some (!d.isNon) := rfl
theorem isNon_non : D.non.isNon = true := rfl
theorem isNon_int : (D.int i).isNon = false := rfl
theorem isNon_str : (D.str x).isNon = false := rfl
theorem isNon_bl : (D.bl b).isNon = false := rfl
theorem isNon_lst : (D.lst l).isNon = false := rfl
theorem isNon_tup : (D.tup l).isNon = false := rfl
theorem isNon_exc {n : Nat} : (D.exc n).isNon = false := rfl
theorem map_some' {α β : Type} {f : α → β} {a : α} : (some a).map f = some (f a) := rfl
theorem bf_lenS : bf .len [.str z] = if z.length ≤ lim then some (.int z.length) else none := rfl
theorem bf_lenK : bf .len [.klst l] = some (.int l.length) := rfl
theorem bf_lenL : bf .len [.lst l] = some (.int l.length) := rfl
theorem bf_lenT : bf .len [.tup l] = some (.int l.length) := rfl
theorem bf_abs : bf .abs [.int i] = some (.int (if i < 0 then -i else i)) := rfl
theorem bf_max : bf .max [.int i, .int j] = some (.int (if j > i then j else i)) := rfl
theorem bf_min : bf .min [.int i, .int j] = some (.int (if j < i then j else i)) := rfl
theorem bf_ord : bf .ord [.str x] = if x.length = 1 then some (.int (x.cps.getD 0 0 : Nat)) else none := rfl
theorem bf_intI : bf .int [.int i] = some (.int i) := rfl
theorem bf_intS : bf .int [.str x] = if x.length ≤ 640 then (PySem.intText? x).map .int else none := rfl
theorem bf_str : bf .str [.int i] = if i.natAbs < 2 ^ 1900 then some (.str (strI i)) else none := rfl
theorem sub_klst {g : Rg} : subV (.ro g (.klst l)) (.int i) = (atI l i).map (.ro g) := by
  show (atI l i).map (elemV (.ro g (.klst l))) = _
  congr 1
theorem sub_lst {g : Rg} : subV (.ro g (.lst l)) (.int i) = (atI l i).map (.ro g) := by
  show (atI l i).map (elemV (.ro g (.lst l))) = _
  congr 1; funext d; unfold elemV; split <;> rfl
theorem sub_tup {g : Rg} : subV (.ro g (.tup l)) (.int i) = (atI l i).map (.ro g) := by
  show (atI l i).map (elemV (.ro g (.tup l))) = _
  congr 1
theorem sub_str {g : Rg} : subV (.ro g (.str z)) (.int i) = if z.length ≤ lim then (atI z.cps.toList i).map fun c => .ro .loc (.str ⟨#[c]⟩) else none := rfl
theorem sub_tmp {g : Rg} (h : d.leaf = true) : elemV (.tmp g (.lst l)) d = .ro g d := by unfold elemV; rw [h, Bool.or_true]; rfl
theorem sl_str {g : Rg} {lo hi : Option Int} : slV (.ro g (.str z)) lo hi = if z.length ≤ lim then some (.ro .loc (.str (cutS z lo hi))) else none := rfl
theorem at_nn {α : Type} {l : List α} (h : 0 ≤ i) : atI l i = l[i.toNat]? := by
  unfold atI ixN
  rw [if_pos h]
  split
  · rfl
  · rename_i h2
    rw [List.getElem?_eq_none (by omega)]; rfl
theorem at_get {α : Type} {l : List α} (h : 0 ≤ i) {a : α} (e : l[i.toNat]? = some a) : atI l i = some a := (at_nn h).trans e
end
end PV

/-! PV24: list comprehensions. -/
namespace PV
open PySem PySem.Spec PyProof.Rows L2

section
variable {k : Kx} {X : Cx} {f f' : Fx} {σ σ' : L2.St} {ρ ρ' ρ1 ρ2 : Env} {H H' H1 H2 : Hp} {As As' As1 As2 : Nat → List Addr} {T T' Tn Tn1 Tn2 T1 T2 : Addr → Prop} {g : Rg} {p pa pb : Bool} {W : WX}

/-- what is held is changed -/
theorem StOk.updT {D : Addr} {o : HO} (st : StOk k f σ ρ H As T) (hD : T D) (ho : ∀ xs, o ≠ .tup xs) : StOk k f σ ρ (upd H D o) As T := by
  have ne : ∀ a, a ≠ D → upd H D o a = H a := fun a h => upd_ne h
  have dm : ∀ a, H a ≠ none → upd H D o a ≠ none := fun a h => by
    by_cases ha : a = D
    · rw [ha, upd_same]; intro z; cases z
    · rw [ne a ha]; exact h
  have reg : ∀ g, Sub (f.reg g (ow As T) H) (f.reg g (ow As T) (upd H D o)) := fun g a u e => by
    obtain ⟨n, i, h⟩ := Fx.reg_some.mp e
    exact Fx.reg_some.mpr ⟨n, i, by rw [ne a fun z => n (.inr (z ▸ hD))]; exact h⟩
  exact {
    len := st.len
    cell := fun i c e => by
      obtain ⟨v, h1, h2⟩ := st.cell i c e
      exact ⟨v, h1, h2.mono reg fun a ha => ne a fun z => st.tmp a (z ▸ hD) i ha⟩
    none_ := st.none_
    disj := st.disj
    nod := st.nod
    nw := st.nw
    tmp := st.tmp
    tno := fun a ha => by
      by_cases h : a = D
      · exact ⟨o, by rw [h, upd_same], ho⟩
      · rw [ne a h]; exact st.tno a ha
    dom := fun a h => dm a (st.dom a h)
    tup := fun a xs h => by
      have h1 := st.tup a xs h
      rw [ne a fun z => ?_]
      · exact h1
      · obtain ⟨u, e, n⟩ := st.tno D hD
        rw [z, e] at h1
        cases h1
        exact n xs rfl
    tupb := fun a xs h => by
      by_cases ha : a = D
      · rw [ha, upd_same] at h
        cases h
        exact absurd rfl (ho xs)
      · rw [ne a ha] at h; exact st.tupb a xs h
    fi := st.fi
    fin := fun a h => dm a (st.fin a h)
    iov := st.iov }
theorem VOk.updT {D : Addr} {o : HO} {x : V} {v : Val} (h : VOk k f H As T Tn x v) (hD : T D) (nD : ¬ Tn D) (nA : ∀ i, D ∉ As i) : VOk k f (upd H D o) As T Tn x v := by
  have reg : ∀ g, Sub (f.reg g (ow As T) H) (f.reg g (ow As T) (upd H D o)) := fun g a u e => by
    obtain ⟨n, i, h⟩ := Fx.reg_some.mp e
    have hne : a ≠ D := fun z => n (.inr (by rw [z]; exact hD))
    exact Fx.reg_some.mpr ⟨n, i, by rw [upd_ne hne]; exact h⟩
  cases v with
  | tmp g d =>
    obtain ⟨A, o1, n, ea, nw⟩ := h
    exact ⟨A, o1.mono (reg g) fun a ha => upd_ne fun z => nD (by rw [← z]; exact (ea a).mpr ha), n, ea, nw⟩
  | ro g d => exact ⟨h.1, h.2.mono (reg g)⟩
  | bor i g d =>
    obtain ⟨n, A, o1, q⟩ := h
    exact ⟨n, A, o1.mono (reg g) fun a ha => upd_ne fun z => nA i (by rw [← z]; exact q.subset ha), q⟩
theorem VsOk.updT {D : Addr} {o : HO} {xs : List V} {vs : List Val} (h : VsOk k f H As T Tn xs vs) (hD : T D) (nD : ¬ Tn D) (nA : ∀ i, D ∉ As i) : VsOk k f (upd H D o) As T Tn xs vs := by
  induction h with
  | nil n => exact .nil n
  | cons h t e d ih => exact .cons (h.updT hD (fun z => nD ((e D).mpr (.inl z))) nA) (ih fun z => nD ((e D).mpr (.inr z))) e d
/-- nothing changed, more is there -/
theorem VOk.grow {x : V} {v : Val} (h : VOk k f H As T Tn x v) (st : StOk k f σ ρ H As T) (hT : ∀ a, Tn a → T a) (sub : Sub H H') (fresh : ∀ a, T' a → H a = none) : VOk k f H' As (un T T') Tn x v := by
  have reg : ∀ g, Sub (f.reg g (ow As T) H) (f.reg g (ow As (un T T')) H') := fun g a u e => by
    obtain ⟨n, i, h⟩ := Fx.reg_some.mp e
    refine Fx.reg_some.mpr ⟨fun z => ?_, i, sub _ _ h⟩
    rcases z with z | z | z
    · exact n (.inl z)
    · exact n (.inr z)
    · rw [fresh a z] at h; cases h
  cases v with
  | tmp g d =>
    obtain ⟨A, o1, n, ea, nw⟩ := h
    refine ⟨A, o1.mono (reg g) fun a ha => ?_, n, ea, nw⟩
    obtain ⟨u, hu, _⟩ := o1.at a ha
    rw [hu]; exact sub _ _ hu
  | ro g d => exact ⟨h.1, h.2.mono (reg g)⟩
  | bor i g d =>
    obtain ⟨n, A, o1, q⟩ := h
    refine ⟨n, A, o1.mono (reg g) fun a ha => ?_, q⟩
    obtain ⟨u, hu, _⟩ := o1.at a ha
    rw [hu]; exact sub _ _ hu
theorem VsOk.grow {xs : List V} {vs : List Val} (h : VsOk k f H As T Tn xs vs) (st : StOk k f σ ρ H As T) (hT : ∀ a, Tn a → T a) (sub : Sub H H') (fresh : ∀ a, T' a → H a = none) : VsOk k f H' As (un T T') Tn xs vs := by
  induction h with
  | nil n => exact .nil n
  | cons h t e d ih => exact .cons (h.grow st (fun a z => hT a ((e a).mpr (.inl z))) sub fresh) (ih fun a z => hT a ((e a).mpr (.inr z))) e d
theorem VsOk.snoc {xs : List V} {vs : List Val} {x : V} {v : Val} (h : VsOk k f H As T Tn xs vs) (r : VOk k f H As T Tn1 x v) (d : ∀ a, Tn a → ¬ Tn1 a) : VsOk k f H As T (fun a => Tn a ∨ Tn1 a) (xs ++ [x]) (vs ++ [v]) := by
  induction h with
  | nil n => exact .cons (Tn2 := no) r (.nil fun _ z => z) (fun a => ⟨fun z => z.elim (fun z => absurd z (n a)) .inl, fun z => z.elim .inr fun z => z.elim⟩) fun _ _ z => z
  | cons h t e d' ih =>
    refine .cons h (ih fun a z => d a ((e a).mpr (.inr z))) (fun a => ?_) fun a z1 z2 => ?_
    · constructor
      · rintro (z | z)
        · exact ((e a).mp z).imp id .inl
        · exact .inr (.inr z)
      · rintro (z | z | z)
        · exact .inl ((e a).mpr (.inl z))
        · exact .inl ((e a).mpr (.inr z))
        · exact .inr z
    · rcases z2 with z2 | z2
      · exact d' a z1 z2
      · exact d a ((e a).mpr (.inl z1)) z2
/-- the values xs that stand in the list at D -/
theorem mk_lst2 {D : Addr} {xs : List V} {vs : List Val} {v : Val} (st : StOk k f σ ρ H As (un T (fun a => a = D ∨ Tn a))) (off : ∀ a, (a = D ∨ Tn a) → ¬ T a) (hD : H D = some (.lst xs)) (nD : ¬ Tn D) (h0 : f.H0 D = none)
    (r : VsOk k f H As (un T (fun a => a = D ∨ Tn a)) Tn xs vs) (e : mkLst vs = some v) :
    ∃ Tn', (∀ a, Tn' a → a = D ∨ Tn a) ∧ VOk k f H As (un T Tn') Tn' (.ref D) v := by
  unfold mkLst at e
  split at e
  · rename_i g ds eo
    cases e
    obtain ⟨A, o, n, i, w⟩ := vsok_own st r eo
    have nq : D ∉ A := fun z => nD (i D z)
    refine ⟨fun a => a = D ∨ a ∈ A, fun a z => z.imp id (i a), D :: A, ?_, List.nodup_cons.mpr ⟨nq, n⟩, fun a => by simp, fun a ha => ?_⟩
    · exact .lst hD (o.mono (reg_drop fun a z => z.imp id fun z => z.imp id fun z => z.imp id (i a)) fun _ _ => rfl)
    · rcases List.mem_cons.mp ha with ha | ha
      · rw [ha]; exact h0
      · exact w a ha
  · split at e
    · rename_i g ds ef
      cases e
      have rl := vsok_frz st off r (fun _ z => .inr z) ef
      refine ⟨no, fun _ z => z.elim, fun _ z => z, ?_⟩
      have fr : f.reg g (ow As (un T no)) H D = some (.lst xs) := Fx.reg_some.mpr ⟨fun z => ?_, f.inr_new g (.inl h0), hD⟩
      · exact .lst fr (rl.mono (reg_drop fun a z => z.imp id fun z => z.elim id fun z => z.elim))
      · rcases z with ⟨j, z⟩ | z | z
        · exact st.tmp D (.inr (.inl rfl)) j z
        · exact off D (.inl rfl) z
        · exact z
    · cases e

/-! ### the block's own names -/
theorem setA_nil {i : Nat} (h : As i = []) : setA As i [] = As := by
  funext j
  by_cases hj : j = i
  · rw [setA_s hj, hj, h]
  · rw [setA_n hj]
theorem wipe_get {σ : L2.St} : ∀ {vs : List Nat} {j : Nat}, (wipe σ vs)[j]? = if j ∈ vs then (if j < σ.length then some none else none) else σ[j]?
  | [], j => by simp [wipe]
  | v :: vs, j => by
    unfold wipe
    by_cases hj : j = v
    · subst hj
      rw [if_pos List.mem_cons_self]
      by_cases hl : j < σ.length
      · rw [List.getElem?_set_self (by rw [wipe_length]; exact hl), if_pos hl]
      · rw [List.getElem?_eq_none (by rw [List.length_set, wipe_length]; omega), if_neg hl]
    · rw [List.getElem?_set_ne (Ne.symm hj), wipe_get]
      by_cases hm : j ∈ vs
      · rw [if_pos hm, if_pos (List.mem_cons_of_mem _ hm)]
      · rw [if_neg hm, if_neg (by simp [hj, hm])]
theorem wipe_set {σ : L2.St} {vs : List Nat} {i : Nat} {a : Option V} (h : i ∈ vs) : wipe (σ.set i a) vs = wipe σ vs := by
  apply List.ext_getElem?
  intro j
  rw [wipe_get, wipe_get, List.length_set]
  by_cases hj : j ∈ vs
  · rw [if_pos hj, if_pos hj]
  · rw [if_neg hj, if_neg hj, List.getElem?_set_ne fun z => hj (by rw [← z]; exact h)]
theorem wipe_wipe {σ : L2.St} {vs : List Nat} : wipe (wipe σ vs) vs = wipe σ vs := by
  apply List.ext_getElem?
  intro j
  rw [wipe_get, wipe_get, wipe_length]
  by_cases hj : j ∈ vs
  · rw [if_pos hj, if_pos hj]
  · rw [if_neg hj, if_neg hj]
    first | done | rw [wipe_get, if_neg hj]
def wipeE (ρ : Env) : List Nat → Env
  | [] => ρ
  | v :: vs => (wipeE ρ vs).set v none
def noOwn (ρ : Env) (vs : List Nat) : Bool := vs.all fun i => match ρ[i]? with
  | some (some c) => !c.own
  | _ => true
theorem noOwn_nil (st : StOk k f σ ρ H As T) {vs : List Nat} (h : noOwn ρ vs = true) : ∀ i ∈ vs, As i = [] := fun i hi => st.none_ i fun c e => by
  have := List.all_eq_true.mp h i hi
  rw [e] at this
  simpa using this
theorem StOk.wipe (st : StOk k f σ ρ H As T) : ∀ {vs : List Nat}, (∀ i ∈ vs, As i = []) → StOk k f (L2.wipe σ vs) (wipeE ρ vs) H As T
  | [], _ => st
  | v :: vs, h => by
    have := (StOk.wipe st fun i hi => h i (List.mem_cons_of_mem _ hi)).setNone (i := v)
    rw [setA_nil (h v List.mem_cons_self)] at this
    exact this
def tgI : Tg → List Nat
  | .one i => [i]
  | .many is => is
theorem setM_same {vs : List Nat} : ∀ {is : List Nat} {xs : List V} {l : List D} {σ : L2.St} {ρ ρ1 : Env} {Q : L2.St → Hp → Prop}, StOk k f σ ρ H As T → RepL k (f.reg g (ow As T) H) xs l → setM is g l ρ = some ρ1 → (∀ i ∈ is, As i = [] ∧ i ∈ vs) →
    (∀ σ2, StOk k f σ2 ρ1 H As T → L2.wipe σ2 vs = L2.wipe σ vs → Q σ2 H) → gMany is xs σ H Q
  | [], _, _, σ, ρ, ρ1, Q, st, .nil, e, _, q => by
    cases e
    exact ⟨rfl, q σ st rfl⟩
  | [], _, _, _, _, _, _, _, .cons _ _, e, _, _ => by cases e
  | i :: is, _, _, _, _, _, _, _, .nil, e, _, _ => by cases e
  | i :: is, _, _, σ, ρ, ρ1, Q, st, .cons (v := x) (vs := xs) (d := d) (l := l) r t, e, hn, q => by
    simp only [setM] at e
    obtain ⟨ρ0, e0, e1⟩ := Option.bind_eq_some_iff.mp e
    have hi := hn i List.mem_cons_self
    have st1 := setC_ok st r e0
    rw [setA_nil hi.1] at st1
    refine ⟨x, xs, rfl, ?_⟩
    show gMany is xs (σ.set i (some x)) H Q
    exact setM_same st1 t e1 (fun j hj => hn j (List.mem_cons_of_mem _ hj)) fun σ2 st2 hw => q σ2 st2 (hw.trans (wipe_set hi.2))
theorem tg_same {vs : List Nat} {tg : Tg} {x : V} {d : D} {Q : L2.St → Hp → Prop} (st : StOk k f σ ρ H As T) (r : Rep k (f.reg g (ow As T) H) x d) (e : evTg tg g d ρ = some ρ1) (hn : ∀ i ∈ tgI tg, As i = [] ∧ i ∈ vs)
    (q : ∀ σ2, StOk k f σ2 ρ1 H As T → L2.wipe σ2 vs = L2.wipe σ vs → Q σ2 H) : tgR k.K tg x σ H Q := by
  cases tg with
  | one i =>
    have hi := hn i List.mem_cons_self
    have st1 := setC_ok st r e
    rw [setA_nil hi.1] at st1
    exact q _ st1 (wipe_set hi.2)
  | many is =>
    cases r <;> simp only [evTg] at e <;> (try contradiction)
    · rename_i a vs' l h hr
      exact ⟨a, vs', rfl, .inl (.inl (Fx.reg_sub _ _ h)), by rw [hr.len, setM_len e], setM_same st hr e hn q⟩
    · rename_i a vs' l h hr
      exact ⟨a, vs', rfl, h.elim (fun z => by rcases z with z | ⟨o, z⟩ <;> cases z) .inr, by rw [hr.len, setM_len e], setM_same st hr e hn q⟩

/-! ### [fe for tg in fi if ft] -/
abbrev noW : WX := fun _ _ _ _ => False
theorem takes_no {X : Cx} : Takes X noW := fun u s' air => by
  obtain ⟨_, _, _, _, _, _, _, _, _, _, _, _, _, _, _, _, z⟩ := air
  exact z.elim
def tF (k : Kx) : Option EvF → TT
  | none => tYes
  | some f => TTv k noW true f
structure SF (k : Kx) (X : Cx) (ifs : List Expr) (ft : Option EvF) : Prop where
  go : PTs X ifs (tF k ft)
theorem SF.nil : SF k X [] none := ⟨pts_nil⟩
theorem SF.one {c : Expr} {fc : EvF} (h : ST k X c true fc) : SF k X [c] (some fc) := ⟨pts_one (h.go _ takes_no)⟩
def tstD (ft : Option EvF) (ρ : Env) : Option Bool := match ft with
  | none => some true
  | some f => match f ρ with
    | some (.ok v _) => (match v.d with
      | .bl b => some b
      | _ => none)
    | _ => none
def lcD (tg : Tg) (ft : Option EvF) (fe : EvF) (g : Rg) : List D → Env → List Val → Option (List Val)
  | [], _, acc => some acc
  | d :: ds, ρ, acc => match evTg tg g d ρ with
    | some ρ1 => match tstD ft ρ1 with
      | some true => match fe ρ1 with
        | some (.ok v _) => lcD tg ft fe g ds ρ (acc ++ [v])
        | _ => none
      | some false => lcD tg ft fe g ds ρ acc
      | none => none
    | none => none
def evLc (tg : Tg) (vs : List Nat) (fi : Env → Ev (Rg × List D)) (ft : Option EvF) (fe : EvF) : EvF := fun ρ => bnd (fi ρ) fun gi ρ1 => if (noOwn ρ1 vs && decide (gi.2.length ≤ lim)) = true then
    match (lcD tg ft fe gi.1 gi.2 (wipeE ρ1 vs) []).bind mkLst with
    | some v => some (.ok v ρ1)
    | none => none
  else none
/-- a pure reckoning, with nothing let out -/
theorem run_pure {α β : Type} {R : Hp → (Nat → List Addr) → (Addr → Prop) → (Addr → Prop) → β → α → Prop} {a : α} {ρ2 : Env} {Q : β → Hp → Prop} (h : ∀ x H' Tn, StOk k f σ ρ H' As (un T Tn) → Sub H H' → (∀ a, Tn a → H a = none) → R H' As (un T Tn) Tn x a → Q x H') :
    Run R k noW f σ ρ H As T true (some (.ok a ρ2)) Q := fun x H' As' Tn po r => by
  obtain ⟨e1, e2, s⟩ := po.pure rfl
  subst e1 e2
  exact h x H' Tn po.st s (fun a ha => (po.fresh a ha).elim (fun ⟨i, z⟩ => absurd z (po.st.tmp a (.inr ha) i)) id) r
theorem tst_core {ft : Option EvF} {b : Bool} {Q : Bool → Hp → Prop} (st : StOk k f σ ρ H As T) (e : tstD ft ρ = some b) (q : ∀ H', StOk k f σ ρ H' As T → Sub H H' → Q b H') : tF k ft σ H Q := by
  cases ft with
  | none =>
    cases e
    exact q H st fun _ _ h => h
  | some fc =>
    unfold tstD at e
    simp only at e
    split at e
    · rename_i v ρ2 ev
      split at e
      · rename_i b' hv
        cases e
        refine ⟨f, ρ, As, T, st, ?_⟩
        rw [ev]
        refine run_pure fun x H' Tn st' sub _ r => ?_
        have rr := r.rep
        rw [hv] at rr
        exact ⟨b, rep_bl rr, q H' (st'.drop fun _ z => .inl z) sub⟩
      · cases e
    · cases e

/-- what stands at each turn -/
structure LcI (k : Kx) (f : Fx) (σw : L2.St) (ρw : Env) (H1 : Hp) (As : Nat → List Addr) (T : Addr → Prop) (Dd : Addr) (H2 : Hp) (xs : List V) (vs : List Val) (Ta : Addr → Prop) : Prop where
  st : StOk k f σw ρw H2 As (un T (fun a => a = Dd ∨ Ta a))
  sub : ∀ a o, H1 a = some o → H2 a = some o
  hD : H2 Dd = some (.lst xs)
  vok : VsOk k f H2 As (un T (fun a => a = Dd ∨ Ta a)) Ta xs vs
  new : ∀ a, Ta a → H1 a = none
  nD : ¬ Ta Dd
theorem LcI.step {σw : L2.St} {ρw : Env} {Dd : Addr} {xs : List V} {vs : List Val} {Ta : Addr → Prop} (I : LcI k f σw ρw H1 As T Dd H2 xs vs Ta) {ρ3 : Env} {σ3 : L2.St} {y : V} {v : Val} (sub : Sub H2 H') (st' : StOk k f σ3 ρ3 H' As (un (un T (fun a => a = Dd ∨ Ta a)) Tn)) (fresh : ∀ a, Tn a → H2 a = none)
    (r : VOk k f H' As (un (un T (fun a => a = Dd ∨ Ta a)) Tn) Tn y v) (hn1 : H1 Dd = none) : LcI k f σw ρw H1 As T Dd (upd H' Dd (.lst (xs ++ [y]))) (xs ++ [y]) (vs ++ [v]) (fun a => Ta a ∨ Tn a) := by
  have nDn : ¬ Tn Dd := fun z => by
    have := fresh Dd z
    rw [I.hD] at this; cases this
  have st1 : StOk k f σw ρw H' As (un (un T (fun a => a = Dd ∨ Ta a)) Tn) := I.st.grow sub st'.tupb fun a ha => ⟨fresh a ha, st'.tno a (.inr ha)⟩
  have eT : (un (un T (fun a => a = Dd ∨ Ta a)) Tn) = (un T (fun a => a = Dd ∨ (Ta a ∨ Tn a))) := by
    funext a
    refine propext ⟨fun z => ?_, fun z => ?_⟩
    · rcases z with (z | z | z) | z
      · exact .inl z
      · exact .inr (.inl z)
      · exact .inr (.inr (.inl z))
      · exact .inr (.inr (.inr z))
    · rcases z with z | z | z | z
      · exact .inl (.inl z)
      · exact .inl (.inr (.inl z))
      · exact .inl (.inr (.inr z))
      · exact .inr z
  have nA : ∀ i, Dd ∉ As i := fun i => I.st.tmp Dd (.inr (.inl rfl)) i
  have v1 := (I.vok.grow I.st (fun a z => .inr (.inr z)) sub fresh).snoc r fun a z1 z2 => by
    obtain ⟨o, ho, _⟩ := I.st.tno a (.inr (.inr z1))
    rw [fresh a z2] at ho; cases ho
  rw [eT] at st1 v1
  have nT : ¬ (Ta Dd ∨ Tn Dd) := fun z => z.elim I.nD nDn
  exact {
    st := st1.updT (.inr (.inl rfl)) fun ys z => by cases z
    sub := fun a o e => by
      rw [upd_ne fun z => by rw [z, hn1] at e; cases e]
      exact sub a o (I.sub a o e)
    hD := upd_same
    vok := v1.updT (.inr (.inl rfl)) nT nA
    new := fun a z => z.elim (I.new a) fun z => by
      cases e : H1 a with
      | none => rfl
      | some o =>
        have := I.sub a o e
        rw [fresh a z] at this; cases this
    nD := nT }
theorem lc_imp {own : List Nat} {tg : Tg} {fi : Env → Ev (Rg × List D)} {ft : Option EvF} {fe : EvF} (hv : ∀ i ∈ tgI tg, i ∈ own) {σ : L2.St} {H : Hp} {Q : VK} (h : TEv k W pa (evLc tg own fi ft fe) σ H Q) :
    tLc (TIv k W pa fi) (tgR k.K tg) (tF k ft) (TEv k noW true fe) own σ H Q := by
  obtain ⟨f, ρ, As, T, st, run⟩ := h
  refine ⟨f, ρ, As, T, st, run_bnd run fun gi ρ1 e1 run1 J H1 As1 Tn1 po hJ => ?_⟩
  obtain ⟨g, l⟩ := gi
  split at run1
  · rename_i hok
    simp only [Bool.and_eq_true, decide_eq_true_eq] at hok
    obtain ⟨hno, hlen⟩ := hok
    have hnil := noOwn_nil po.st hno
    cases ev : (lcD tg ft fe g l (wipeE ρ1 own) []).bind mkLst with
    | none => rw [ev] at run1; exact run1.elim
    | some v =>
      rw [ev] at run1
      obtain ⟨vals, el, em⟩ := Option.bind_eq_some_iff.mp ev
      intro Dd hDd
      have stw := po.st.wipe hnil
      refine ⟨fun i m H2 => m + i = l.length ∧ ∃ xs vs Ta, LcI k f (L2.wipe σ own) (wipeE ρ1 own) H1 As1 (un T Tn1) Dd H2 xs vs Ta ∧ lcD tg ft fe g (l.drop i) (wipeE ρ1 own) vs = some vals ∧ xs.length ≤ i, ⟨l.length, by omega, [], [], no, ?_, el, by simp⟩, ?_⟩
      · have eT : (fun a => a = Dd ∨ no a) = (fun a => a = Dd) := by
          funext a
          exact propext ⟨fun z => z.elim id fun z => z.elim, .inl⟩
        refine ⟨?_, fun a o e => sub_upd hDd _ _ e, upd_same, .nil fun _ z => z, fun _ z => z.elim, fun z => z⟩
        rw [eT]
        exact stw.allocT hDd fun ys z => by cases z
      · rintro i m H2 ⟨hm, xs, vs, Ta, I, elc, hxs⟩
        have frI : Frm H1 As1 H2 As1 := ⟨fun a o _ e => I.sub a o e, fun j a h => .inl ⟨j, h⟩, fun a h z => by
          cases e : H1 a with
          | none => exact h e
          | some o => rw [I.sub a o e] at z; cases z⟩
        obtain ⟨hgo, hstop⟩ := hJ _ _ H2 As1 (fun a => a = Dd ∨ Ta a) I.st frI fun a z => .inr (z.elim (fun z => by rw [z]; exact hDd) (I.new a))
        by_cases hlt : i < l.length
        · have ei : l[i]? = some l[i] := List.getElem?_eq_getElem hlt
          obtain ⟨h1, h2⟩ := hgo i _ ei
          rw [List.drop_eq_getElem_cons hlt] at elc
          refine .inr ⟨h1, fun H3 => ∃ xs vs Ta, LcI k f (L2.wipe σ own) (wipeE ρ1 own) H1 As1 (un T Tn1) Dd H3 xs vs Ta ∧ lcD tg ft fe g (l.drop (i + 1)) (wipeE ρ1 own) vs = some vals ∧ xs.length ≤ i + 1, ?_, ?_⟩
          · rintro H3 ⟨xs', vs', Ta', I', e', hx'⟩
            exact ⟨m - 1, by omega, by omega, xs', vs', Ta', I', e', hx'⟩
          · intro x H3 hy
            obtain ⟨st3, fr3, sub3, r3⟩ := h2 x H3 hy
            simp only [lcD] at elc
            cases et : evTg tg g l[i] (wipeE ρ1 own) with
            | none => rw [et] at elc; cases elc
            | some ρ3 =>
              rw [et] at elc
              simp only at elc
              refine tg_same (vs := own) st3 r3 et (fun j hj => ⟨hnil j (hv j hj), hv j hj⟩) fun σ4 st4 hw => ⟨?_, ?_⟩
              · rw [hw, wipe_wipe]
              · cases ett : tstD ft ρ3 with
                | none => rw [ett] at elc; cases elc
                | some b =>
                  rw [ett] at elc
                  refine tst_core st4 ett fun H4 st5 sub4 => ?_
                  have sub24 : Sub H2 H4 := sub3.tr sub4
                  cases b with
                  | false =>
                    rw [if_neg Bool.false_ne_true]
                    refine ⟨xs, vs, Ta, ⟨?_, fun a o e => sub24 a o (I.sub a o e), sub24 _ _ I.hD, ?_, I.new, I.nD⟩, elc, by omega⟩
                    · have := I.st.grow (Tn := no) sub24 st5.tupb fun a z => z.elim
                      rw [un_no] at this; exact this
                    · have := I.vok.grow (T' := no) I.st (fun a z => .inr (.inr z)) sub24 fun a z => z.elim
                      rw [un_no] at this; exact this
                  | true =>
                    rw [if_pos rfl]
                    simp only at elc
                    cases ee : fe ρ3 with
                    | none => rw [ee] at elc; cases elc
                    | some oe =>
                      rw [ee] at elc
                      cases oe with
                      | exc c ρ4 => cases elc
                      | ok v4 ρ4 =>
                        simp only at elc
                        refine ⟨f, ρ3, As1, _, st5, ?_⟩
                        rw [ee]
                        refine run_pure fun y H5 Tn5 st6 sub5 fresh5 r5 => ?_
                        have sub25 : Sub H2 H5 := sub24.tr sub5
                        refine ⟨xs, sub25 _ _ I.hD, ?_, ?_⟩
                        · have : lim = 1000000 := rfl
                          have := lim_line
                          omega
                        · refine ⟨xs ++ [y], vs ++ [v4], fun a => Ta a ∨ Tn5 a, I.step sub25 st6 (fun a z => ?_) r5 hDd, elc, by simp; omega⟩
                          cases e : H2 a with
                          | none => rfl
                          | some o =>
                            have := sub24 a o e
                            rw [fresh5 a z] at this; cases this
        · have ei : i = l.length := by omega
          subst ei
          rw [List.drop_eq_nil_of_le (Nat.le_refl _)] at elc
          cases elc
          refine .inl ⟨hstop, ?_⟩
          have st7 : StOk k f σ ρ1 H2 As1 (un (un T Tn1) (fun a => a = Dd ∨ Ta a)) := po.st.grow I.sub I.st.tupb fun a z => ⟨z.elim (fun z => by rw [z]; exact hDd) (I.new a), I.st.tno a (.inr z)⟩
          have h0 : f.H0 Dd = none := by
            cases e : f.H0 Dd with
            | none => rfl
            | some o => exact absurd hDd (po.st.dom Dd (by rw [e]; intro z; cases z))
          obtain ⟨Tn', hT', r'⟩ := mk_lst2 st7 (fun a z y => by
            rcases z with z | z
            · rw [z] at y; exact po.st.tin Dd y hDd
            · exact po.st.tin a y (I.new a z)) I.hD I.nD h0 I.vok em
          have st8 : StOk k f σ ρ1 H2 As1 (un (un T Tn1) Tn') := st7.drop fun a z => z.imp id (hT' a)
          refine run1 (.ref Dd) H2 As1 Tn' ⟨st8.drop fun a z => z.elim (fun z => .inl (.inl z)) .inr, po.fr.tr frI, fun a z => .inr (po.fr.none' ((hT' a z).elim (fun z => by rw [z]; exact hDd) (I.new a))), fun hp => ⟨(po.pure hp).1, (po.pure hp).2.1, (po.pure hp).2.2.tr I.sub⟩⟩ ?_
          exact r'.drop fun a z => z.elim (fun z => .inl (.inl z)) .inr
  · exact run1.elim
theorem SE.lc {elt tgE iter : Expr} {ifs : List Expr} {scope : Scope} {own : List (Str × Nat)} {pos : Pos} {tg : Tg} {fi : Env → Ev (Rg × List D)} {ft : Option EvF} {fe : EvF} (hc : X.calm = true) (hN : X.N.Nodup) (ok : BlkOk X.N X.env.scope scope own) (hv : ∀ i ∈ tgI tg, i ∈ own.map (·.2)) (hn : notSetI iter = true)
    (hi : SI k X tgE iter pa fi)
    (hb : ∀ (s : Shared) (H : Hp) (C : Addr) (cl : List (Str × Addr)) (fp : List Addr), PG (X.blk s H scope (compEnvC scope cl C X.env) fp) tgE (tgR k.K tg) ∧ SF k (X.blk s H scope (compEnvC scope cl C X.env) fp) ifs ft ∧ SE k (X.blk s H scope (compEnvC scope cl C X.env) fp) elt true fe) :
    SE k X (.ListComp elt [⟨tgE, iter, ifs, 0⟩] scope pos) pa (evLc tg (own.map (·.2)) fi ft fe) :=
  ⟨fun W tk => PE.weak (pe_lc (g := tgR k.K tg) (tt := tF k ft) (te := TEv k noW true fe) hc hN (hi.go W tk) ok (fun s H C cl fp => (hb s H C cl fp).1) (fun s H C cl fp => (hb s H C cl fp).2.1.go) (fun s H C cl fp => (hb s H C cl fp).2.2.go _ takes_no) (folded_no hn)) fun σ H Q h => lc_imp hv h⟩
/-- x = [..], x a plain local name -/
theorem SS.setLc {o : Bool} {i : Nat} {y : Str} {py spos : Pos} {elt tgE iter : Expr} {ifs : List Expr} {scope : Scope} {own : List (Str × Nat)} {pos : Pos} {tg : Tg} {fi : Env → Ev (Rg × List D)} {ft : Option EvF} {fe : EvF} (hc : X.calm = true) (hN : X.N.Nodup) (hy : X.N[i]? = some y) (hyl : X.env.scope.names.lookup y = some .local)
    (hsw : swapsWith (.ListComp elt [⟨tgE, iter, ifs, 0⟩] scope pos) (some (.Name y py)) spos.line X.env = pure true) (ok : BlkOk X.N X.env.scope scope own) (hv : ∀ i ∈ tgI tg, i ∈ own.map (·.2)) (hn : notSetI iter = true)
    (hi : SI k X tgE iter pa fi)
    (hb : ∀ (s : Shared) (H : Hp) (C : Addr) (cl : List (Str × Addr)) (fp : List Addr), PG (X.blk s H scope (compEnvC scope cl C X.env) fp) tgE (tgR k.K tg) ∧ SF k (X.blk s H scope (compEnvC scope cl C X.env) fp) ifs ft ∧ SE k (X.blk s H scope (compEnvC scope cl C X.env) fp) elt true fe) :
    SS k X (.Assign [.Name y py] (.ListComp elt [⟨tgE, iter, ifs, 0⟩] scope pos) spos) (evSet o i (evLc tg (own.map (·.2)) fi ft fe)) := by
  refine ⟨fun W tk => PS.weak (ps_setLc (g := tgR k.K tg) (tt := tF k ft) (te := TEv k noW true fe) hc hN hy hyl hsw (hi.go W tk) ok (fun s H C cl fp => (hb s H C cl fp).1) (fun s H C cl fp => (hb s H C cl fp).2.1.go) (fun s H C cl fp => (hb s H C cl fp).2.2.go _ takes_no) (folded_no hn)) fun D σ H h => ?_⟩
  obtain ⟨f, ρ, As, T, st, run⟩ := h
  refine lc_imp hv ⟨f, ρ, As, T, st, run_bndE run fun v ρ1 e1 run1 x H1 As1 Tn1 po1 r1 => ?_⟩
  cases ec : cellOf o v with
  | none => simp only [ec] at run1; exact run1.elim
  | some c =>
    simp only [ec] at run1
    split at run1
    · rename_i hi
      obtain ⟨As2, st2, fr2⟩ := set_cell st po1 r1 hi ec
      exact run1 _ H1 As2 st2 fr2
    · exact run1.elim
end
end PV

/-! PV25: comprehensions among what a body knows; list(..), join, split, range with a step. -/
namespace PV
open PySem PySem.Spec PyProof.Rows L2

section
variable {gb : Gb} {kn : Kn} {rs sc : Scope} {N : List Str} {X : Cx} {x : Str} {i : Nat} {k : Kx} {pa pb : Bool}
theorem Am.blk (am : Am gb kn rs sc N X) (scope : Scope) (s : Shared) (H : Hp) (C : Addr) (cl : List (Str × Addr)) (fp : List Addr) : Am gb kn scope (relS scope sc) N (X.blk s H scope (compEnvC scope cl C X.env) fp) where
  asc := by rw [← am.asc]; rfl
  afn := fun x h => by
    show (scope.names.lookup x == some .cell) = true
    rw [h]; rfl
  aN := am.aN
  nd := am.nd
  calm := am.calm
  pass := PySem.PassesOwn.never
  au := am.au
  cs := am.cs
  cls := am.cls
  str := am.str
  free := am.free
  akn := fun i q h => ⟨(am.akn i q h).ex⟩
theorem Am.blkOk (am : Am gb kn rs sc N X) {scope : Scope} {own : List (Str × Nat)} (h : blkC N sc scope own = true) : BlkOk X.N X.env.scope scope own := by
  rw [am.aN, am.asc]
  exact blkOk_by h
theorem Am.lc {elt tgE iter : Expr} {ifs : List Expr} {scope : Scope} {pos : Pos} {tg : Tg} {fi : Env → Ev (Rg × List D)} {ft : Option EvF} {fe : EvF} (am : Am gb kn rs sc N X) (own : List (Str × Nat)) (ok : blkC N sc scope own = true) (hv : ∀ i ∈ tgI tg, i ∈ own.map (·.2)) (hn : notSetI iter = true)
    (hi : SI (kxOf X.K gb.cs) X tgE iter pa fi) (hb : ∀ X' : Cx, Am gb kn scope (relS scope sc) N X' → X'.K = X.K → PG X' tgE (tgR X.K tg) ∧ SF (kxOf X.K gb.cs) X' ifs ft ∧ SE (kxOf X.K gb.cs) X' elt true fe) :
    SE (kxOf X.K gb.cs) X (.ListComp elt [⟨tgE, iter, ifs, 0⟩] scope pos) pa (evLc tg (own.map (·.2)) fi ft fe) :=
  SE.lc am.calm (by rw [am.aN]; exact am.nd) (am.blkOk ok) hv hn hi fun s H C cl fp => hb _ (am.blk scope s H C cl fp) rfl
/-- x is no name of the block's own -/
def noOwnN (scope : Scope) (y : Str) : Bool := !(scope.names.any fun (n, k) => n == y && (k == .local || k == .cell))
theorem AmF.setLc {o : Bool} {y : Str} {py spos : Pos} {elt tgE iter : Expr} {ifs : List Expr} {scope : Scope} {pos : Pos} {tg : Tg} {fi : Env → Ev (Rg × List D)} {ft : Option EvF} {fe : EvF} (am : AmF gb kn sc N X) (own : List (Str × Nat)) (h : isLL sc N i y = true) (hl : (py.line == pos.line) = true) (hown : noOwnN scope y = true)
    (ok : blkC N sc scope own = true) (hv : ∀ i ∈ tgI tg, i ∈ own.map (·.2)) (hn : notSetI iter = true)
    (hi : SI (kxOf X.K gb.cs) X tgE iter pa fi) (hb : ∀ X' : Cx, Am gb kn scope (relS scope sc) N X' → X'.K = X.K → PG X' tgE (tgR X.K tg) ∧ SF (kxOf X.K gb.cs) X' ifs ft ∧ SE (kxOf X.K gb.cs) X' elt true fe) (hk : X.env.scope.kind = .function) :
    SS (kxOf X.K gb.cs) X (.Assign [.Name y py] (.ListComp elt [⟨tgE, iter, ifs, 0⟩] scope pos) spos) (evSet o i (evLc tg (own.map (·.2)) fi ft fe)) := by
  obtain ⟨h1, h2, h3⟩ := am.toAm.ll h
  exact SS.setLc am.calm (by rw [am.aN]; exact am.nd) h1 h2 (sw_true hk h2 hl (by simpa [noOwnN] using hown)) (am.blkOk ok) hv hn hi fun s H C cl fp => hb _ (am.blk scope s H C cl fp) rfl
/-- x = [..], x a name that some block captures -/
theorem Am.putLc {own p : Bool} {elt : Expr} {gs : List Comprehension} {scope : Scope} {pos pos' cpos : Pos} {fa : EvF} (am : Am gb kn rs sc N X) (h : isSt rs sc N i x = true) (hc : decide (sc.names.lookup x = some .cell) = true) (ha : SE k X (.ListComp elt gs scope cpos) p fa) : SS k X (.Assign [.Name x pos'] (.ListComp elt gs scope cpos) pos) (evSet own i fa) := by
  obtain ⟨h1, h2, h3, h4⟩ := am.sto h
  have hsw : swapsWith (.ListComp elt gs scope cpos) (some (.Name x pos')) pos.line X.env = pure false := by
    have ky : X.env.kindOf x = some .cell := by
      show X.env.scope.names.lookup x = some .cell
      rw [am.asc]; exact of_decide_eq_true hc
    unfold swapsWith
    simp only [ky]
    cases X.env.blockKind == .function <;> rfl
  exact SS.set (fun he => ps_set (by rw [am.aN]; exact am.nd) h1 h2 he hsw h4) ha
end

section
variable {X : Cx} {f f' : Fx} {σ σ' : L2.St} {ρ ρ' ρ1 ρ2 : Env} {H H' H1 H2 : Hp} {As As' As1 As2 : Nat → List Addr} {T T' Tn Tn1 Tn2 T1 T2 : Addr → Prop} {g : Rg} {k : Kx} {p pa pb : Bool} {W : WX} {a b e o : Expr} {fa fb fo : EvF} {pos p' apos cpos : Pos}
/-! ### list(xs) -/
def evList (fa : EvF) : EvF := fun ρ => bnd (fa ρ) fun v ρ1 => match items v.d with
  | some l => match seqG v l with
    | some (b, g) => some (.ok (newL b g l) ρ1)
    | none => none
  | none => none
theorem SE.list (hK : k.K = X.K) (hg : Gl X "list") (hm : X.mg "list" = none) (hs : notStar e = true) (ha : SE k X e pa fa) : SE k X (.Call (.Name "list" p') [e] [] pos) pa (evList fa) := by
  refine ⟨fun W tk => PE.weak (pe_callTy call_list_of hg hm (by decide +kernel) (pa_cons (ha.go W tk) pa_nil (star_cons hs)) (he := star_cons hs)) fun σ H Q h => ?_⟩
  obtain ⟨f, ρ, As, T, st, run⟩ := h
  refine ⟨f, ρ, As, T, st, run_bnd run fun v ρ1 e1 run1 x H1 As1 Tn1 po1 r1 => ?_⟩
  cases ei : items v.d with
  | none => rw [ei] at run1; exact run1.elim
  | some l =>
    rw [ei] at run1
    simp only at run1
    cases eg : seqG v l with
    | none => rw [eg] at run1; exact run1.elim
    | some bg =>
      obtain ⟨b, g⟩ := bg
      rw [eg] at run1
      obtain ⟨a0, vs, rfl, hq, hr, hb⟩ := seq_view po1.st r1 ei eg
      have hsq : SqL X.K H1 a0 vs ∨ SqT X.K H1 a0 vs := by
        rw [← hK]
        cases ed : v.d with
        | lst l0 => rw [ed] at hq; exact .inl (.of hq)
        | klst l0 => rw [ed] at hq; exact .inl hq
        | tup l0 => rw [ed] at hq; exact .inr (.of hq)
        | ktup l0 =>
          rw [ed] at hq
          exact .inr (hq.elim (fun z => by rcases z with z | ⟨o, z⟩ <;> cases z) .inr)
        | non => rw [ed] at ei; cases ei
        | bl _ => rw [ed] at ei; cases ei
        | int _ => rw [ed] at ei; cases ei
        | str _ => rw [ed] at ei; cases ei
        | dk _ => rw [ed] at ei; cases ei
        | dt _ => rw [ed] at ei; cases ei
        | ins _ _ => rw [ed] at ei; cases ei
        | exc _ => rw [ed] at ei; cases ei
      refine ⟨a0, vs, rfl, hsq, fun q hq' => ?_⟩
      obtain ⟨Tn, po5, r5⟩ := new_list st po1 (hr.mono (reg_drop fun a z => z.elim .inl fun z => .inr (.inl z))) hb hq'
      exact run1 _ _ As1 Tn po5 r5

/-! ### texts -/
def evJoin (fo fa : EvF) : EvF := fun ρ => bnd (fo ρ) fun v ρ1 => match v.d with
  | .str a => bnd (fa ρ1) fun w ρ2 => match (litems w.d).bind strsOf with
    | some ys => if (ys.map (·.length)).sum + ys.length * a.length ≤ lim then some (.ok (.ro .loc (.str (Txt.join a ys))) ρ2) else none
    | none => none
  | _ => none
theorem SE.join (hK : k.K = X.K) (hbase : attributeBase o "join" X.env (eval o X.env) = eval o X.env) (hline : (apos.endLine == cpos.line) = true) (hs : notStar e = true) (ho : SE k X o pa fo) (ha : SE k X e pb fa) :
    SE k X (.Call (.Attribute o "join" apos) [e] [] cpos) (pa && pb) (evJoin fo fa) := by
  refine ⟨fun W tk => PE.weak (pe_bm PySem.F.plainAttrs_str PySem.F.slot_str_join PySem.F.type_str_join mt_join (ho.go W tk) (pa_cons (ha.go W tk) pa_nil (star_cons hs)) hbase (by rw [star_cons hs]; rfl) hline (star_cons hs) rfl) fun σ H Q h => ?_⟩
  obtain ⟨f, ρ, As, T, st, run⟩ := h
  refine ⟨f, ρ, As, T, st, run_bnd run fun v ρ1 e1 run1 x H1 As1 Tn1 po1 r1 => ?_⟩
  split at run1
  · rename_i a hv
    have hx := rep_str (hv ▸ r1.rep)
    subst hx
    refine ⟨rfl, f, ρ1, As1, _, po1.st, run_next run1 po1 fun w ρ2 e2 run2 y H2 As2 Tn2 po2 r2 => ?_⟩
    cases ey : (litems w.d).bind strsOf with
    | none => rw [ey] at run2; exact run2.elim
    | some ys =>
      rw [ey] at run2
      simp only at run2
      split at run2
      · rename_i hz
        obtain ⟨l, h1, h2⟩ := Option.bind_eq_some_iff.mp ey
        obtain ⟨a0, vs, rfl, hq, hr⟩ := litems_rep r2.rep h1
        rw [strsOf_rep hr h2, hK] at hq
        exact ⟨a, a0, ys, rfl, rfl, .inl hq, Nat.le_trans hz (by decide), run2 _ H2 As2 no ((po1.tr po2).drop fun _ z => z.elim) ⟨fun _ z => z, .str _⟩⟩
      · exact run2.elim
  · exact run1.elim
def evSplit (fo fa : EvF) : EvF := fun ρ => bnd (fo ρ) fun v ρ1 => match v.d with
  | .str a => bnd (fa ρ1) fun w ρ2 => match w.d with
    | .str b => if b.length ≠ 0 ∧ a.length ≤ lim then some (.ok (.tmp .loc (.lst ((Txt.split a b).map .str))) ρ2) else none
    | _ => none
  | _ => none
theorem SE.split (hbase : attributeBase o "split" X.env (eval o X.env) = eval o X.env) (hline : (apos.endLine == cpos.line) = true) (hs : notStar e = true) (ho : SE k X o pa fo) (ha : SE k X e pb fa) :
    SE k X (.Call (.Attribute o "split" apos) [e] [] cpos) (pa && pb) (evSplit fo fa) := by
  refine ⟨fun W tk => PE.weak (pe_bm PySem.F.plainAttrs_str PySem.F.slot_str_split PySem.F.type_str_split mt_split (ho.go W tk) (pa_cons (ha.go W tk) pa_nil (star_cons hs)) hbase (by rw [star_cons hs]; rfl) hline (star_cons hs) rfl) fun σ H Q h => ?_⟩
  obtain ⟨f, ρ, As, T, st, run⟩ := h
  refine ⟨f, ρ, As, T, st, run_bnd run fun v ρ1 e1 run1 x H1 As1 Tn1 po1 r1 => ?_⟩
  split at run1
  · rename_i a hv
    have hx := rep_str (hv ▸ r1.rep)
    subst hx
    refine ⟨rfl, f, ρ1, As1, _, po1.st, run_next run1 po1 fun w ρ2 e2 run2 y H2 As2 Tn2 po2 r2 => ?_⟩
    split at run2
    · rename_i b hw
      split at run2
      · rename_i hz
        have hy := rep_str (hw ▸ r2.rep)
        subst hy
        have hz2 : a.length + 2 ≤ sizeLine := by
          have h2 := hz.2
          have h3 : lim = 1000000 := rfl
          have h4 : 2000000 ≤ sizeLine := by decide
          omega
        refine ⟨a, b, rfl, rfl, by simpa using hz.1, hz2, fun q hq => ?_⟩
        have rl : RepL k (f.reg .loc (ow As2 T) H2) ((Txt.split a b).map V.str) ((Txt.split a b).map D.str) := by
          generalize Txt.split a b = ys
          induction ys with
          | nil => exact .nil
          | cons y ys ih => exact .cons (.str y) ih
        obtain ⟨Tn, po5, r5⟩ := new_list (b := true) st (po1.tr po2) rl (fun _ => List.all_eq_true.mpr fun d hd => by
          obtain ⟨y, _, rfl⟩ := List.mem_map.mp hd
          rfl) hq
        exact run2 _ _ As2 Tn po5 r5
      · exact run2.elim
    · exact run2.elim
  · exact run1.elim

/-! ### range(i, j, c) -/
def stepD (lo c : Int) (n : Nat) : List D := (List.range n).map fun (i : Nat) => .int (lo + (i : Int) * c)
theorem iter_step {lo c : Int} {n : Nat} : IterOk k f H As T (Itc lo c n) (.loc, stepD lo c n) := by
  intro σ' ρ' H' As' T' st' fr fresh
  refine ⟨fun i d hd => ?_, by show n ≤ (stepD lo c n).length; simp [stepD]⟩
  have hi : i < n := by
    have := (List.getElem?_eq_some_iff.mp hd).1
    simpa [stepD] using this
  refine ⟨hi, fun x H'' hy => ?_⟩
  obtain ⟨rfl, rfl⟩ := hy
  have : d = .int (lo + i * c) := by
    unfold stepD at hd
    rw [List.getElem?_map, List.getElem?_range hi] at hd
    simpa using hd.symm
  subst this
  exact ⟨st', Frm.rfl', fun _ _ h => h, .int _⟩
def evRng3 (fs : Env → Ev (List Val)) : Env → Ev (Rg × List D) := fun ρ => bnd (fs ρ) fun vs ρ1 => match vs.map Val.d with
  | [.int i, .int j, .int c] => if (Builtin.Range.small i j c && decide (c ≠ 0 ∧ c.natAbs < 1073741824 ∧ 0 ≤ Builtin.Range.rangeSize i j c)) = true then some (.ok (.loc, stepD i c (Builtin.Range.rangeSize i j c).toNat) ρ1) else none
  | _ => none
theorem SI.range3 {tg a b c : Expr} {fs : Env → Ev (List Val)} (hg : Gl X "range") (hm : X.mg "range" = none) (hs : noStars [a, b, c] = true) (ha : SA k X [a, b, c] pa fs) : SI k X tg (.Call (.Name "range" p') [a, b, c] [] pos) pa (evRng3 fs) := by
  have hs' : notStar a = true ∧ noStars [b, c] = true := by simpa [noStars] using hs
  refine ⟨fun W tk => PI.weak (pi_range3 hg hm (ha.go W tk) (star_cons hs'.1) (star_any hs'.2)) fun σ H Q h => ?_⟩
  obtain ⟨f, ρ, As, T, st, run⟩ := h
  refine ⟨f, ρ, As, T, st, run_bnd run fun vs ρ1 e1 run1 xs H1 As1 Tn1 po r => ?_⟩
  have rr := vsok_rep r
  split at run1
  · rename_i i j c hj
    rw [hj] at rr
    cases rr with
    | cons rx rr =>
      obtain ⟨y, z, rfl, ry, rz⟩ := repl2 rr
      split at run1
      · rename_i hb
        simp only [Bool.and_eq_true, decide_eq_true_eq] at hb
        exact ⟨i, j, c, _, by rw [rep_int rx, rep_int ry, rep_int rz], ⟨hb.2.1, hb.2.2.1, hb.1, (Int.toNat_of_nonneg hb.2.2.2).symm⟩, run1 _ H1 As1 no (po.drop fun _ z => z.elim) iter_step⟩
      · exact run1.elim
  · exact run1.elim
end
section
variable {gb : Gb} {kn : Kn} {rs sc : Scope} {N : List Str} {X : Cx} {k : Kx} {pa : Bool}
theorem Am.list {e : Expr} {p pos : Pos} {fa : EvF} (am : Am gb kn rs sc N X) (hK : k.K = X.K) (h : isGlo sc "list" = true) (j : Nat) (hj : gb.free[j]? = some "list") (hs : notStar e = true) (ha : SE k X e pa fa) : SE k X (.Call (.Name "list" p) [e] [] pos) pa (evList fa) := by
  obtain ⟨h1, h2, _⟩ := am.fr h j hj
  exact SE.list hK h1 h2 hs ha
theorem Am.range3 {tg a b c : Expr} {p pos : Pos} {fs : Env → Ev (List Val)} (am : Am gb kn rs sc N X) (h : isGlo sc "range" = true) (j : Nat) (hj : gb.free[j]? = some "range") (hs : noStars [a, b, c] = true) (ha : SA k X [a, b, c] pa fs) : SI k X tg (.Call (.Name "range" p) [a, b, c] [] pos) pa (evRng3 fs) := by
  obtain ⟨h1, h2, _⟩ := am.fr h j hj
  exact SI.range3 h1 h2 hs ha
end
end PV

/-! PV26: more steps of the readings. -/
namespace PV
open PySem PySem.Spec PyProof.Rows L2
section
variable {ρ : Env} {d e : D} {g g' : Rg} {v w : Val} {fa fb fo : EvF} {b pb : Bool} {i : Nat} {l : List D} {fi : Env → Ev (Rg × List D)} {fs : Env → Ev (List Val)} {tg : Tg} {vs : List Nat} {ft : Option EvF} {fe : EvF}
def kLc (tg : Tg) (vs : List Nat) (ft : Option EvF) (fe : EvF) (gi : Rg × List D) (ρ : Env) : Ev Val := if (noOwn ρ vs && decide (gi.2.length ≤ lim)) = true then retV ((lcD tg ft fe gi.1 gi.2 (wipeE ρ vs) []).bind mkLst) ρ else none
theorem evLc_eq : evLc tg vs fi ft fe ρ = bnd (fi ρ) (kLc tg vs ft fe) := by
  unfold evLc kLc
  congr 1; funext gi ρ1
  split
  · cases (lcD tg ft fe gi.1 gi.2 (wipeE ρ1 vs) []).bind mkLst <;> rfl
  · rfl
theorem kLc_eq : kLc tg vs ft fe (g, l) ρ = if (noOwn ρ vs && decide (l.length ≤ lim)) = true then retV ((lcD tg ft fe g l (wipeE ρ vs) []).bind mkLst) ρ else none := rfl
/-- every item gives its value -/
theorem lcD_map {i : Nat} {h : D → Val} : ∀ {l : List D} {acc : List Val}, i < ρ.length → (∀ d ∈ l, ∃ ρ', fe (ρ.set i (some (lcC (effG g d) d))) = some (.ok (h d) ρ')) → lcD (.one i) none fe g l ρ acc = some (acc ++ l.map h)
  | [], acc, _, _ => by simp [lcD]
  | d :: l, acc, hi, hh => by
    obtain ⟨ρ', e⟩ := hh d List.mem_cons_self
    have et : evTg (.one i) g d ρ = some (ρ.set i (some (lcC (effG g d) d))) := if_pos hi
    unfold lcD
    rw [et]
    simp only [tstD]
    rw [e]
    simp only
    rw [lcD_map (l := l) (acc := acc ++ [h d]) hi fun d hd => hh d (List.mem_cons_of_mem _ hd)]
    simp
theorem lcD_map2 {α : Type} {i : Nat} {f : α → D} {h : α → Val} : ∀ {xs : List α} {acc : List Val}, i < ρ.length → (∀ x ∈ xs, ∃ ρ', fe (ρ.set i (some (lcC (effG g (f x)) (f x)))) = some (.ok (h x) ρ')) → lcD (.one i) none fe g (xs.map f) ρ acc = some (acc ++ xs.map h)
  | [], acc, _, _ => by simp [lcD]
  | x :: xs, acc, hi, hh => by
    obtain ⟨ρ', e⟩ := hh x List.mem_cons_self
    have et : evTg (.one i) g (f x) ρ = some (ρ.set i (some (lcC (effG g (f x)) (f x)))) := if_pos hi
    rw [List.map_cons]
    unfold lcD
    rw [et]
    simp only [tstD]
    rw [e]
    simp only
    rw [lcD_map2 (xs := xs) (acc := acc ++ [h x]) hi fun x hx => hh x (List.mem_cons_of_mem _ hx)]
    simp
/-- a list made of plain values -/
theorem ownAll_leaf : ∀ {l : List D}, (∀ d ∈ l, d.leaf = true) → ownAll (l.map (.ro .loc)) = some (.loc, l)
  | [], _ => rfl
  | d :: l, h => by
    have h1 : ownV (.ro .loc d) = some .loc := by
      show (if d.leaf = true then some (effG .loc d) else none) = some .loc
      rw [if_pos (h d List.mem_cons_self), effG_loc]
    rw [List.map_cons]
    unfold ownAll
    rw [h1, ownAll_leaf fun d hd => h d (List.mem_cons_of_mem _ hd)]
    rfl
theorem mkLst_leaf {l : List D} (h : ∀ d ∈ l, d.leaf = true) : mkLst (l.map (.ro .loc)) = some (.tmp .loc (.lst l)) := by
  unfold mkLst
  rw [ownAll_leaf h]
theorem mkLst_map {α : Type} {xs : List α} {f : α → D} (h : ∀ x ∈ xs, (f x).leaf = true) : mkLst (xs.map fun x => .ro .loc (f x)) = some (.tmp .loc (.lst (xs.map f))) := by
  have e : (xs.map fun x => Val.ro .loc (f x)) = (xs.map f).map (.ro .loc) := by rw [List.map_map]; rfl
  rw [e]
  refine mkLst_leaf fun d hd => ?_
  obtain ⟨x, hx, rfl⟩ := List.mem_map.mp hd
  exact h x hx
theorem whD_true {fc : EvF} {fb : EvS} {n : Nat} {ρ1 : Env} (h : fc ρ = some (.ok (.ro g (.bl true)) ρ1)) : whD fc fb (n + 1) ρ = bndS (fb ρ1) (whD fc fb n) := by
  simp only [whD]
  rw [h]; rfl
theorem whD_false {fc : EvF} {fb : EvS} {n : Nat} {ρ1 : Env} (h : fc ρ = some (.ok (.ro g (.bl false)) ρ1)) : whD fc fb (n + 1) ρ = some (.next ρ1) := by
  simp only [whD]
  rw [h]; rfl
def kList (v : Val) (ρ : Env) : Ev Val := match items v.d with
  | some l => match seqG v l with
    | some (b, g) => some (.ok (newL b g l) ρ)
    | none => none
  | none => none
theorem evList_eq : evList fa ρ = bnd (fa ρ) kList := rfl
def kJoin2 (a : Str) (w : Val) (ρ : Env) : Ev Val := match (litems w.d).bind strsOf with
  | some ys => if (ys.map fun (y : Str) => y.length).sum + ys.length * a.length ≤ lim then some (.ok (.ro .loc (.str (Txt.join a ys))) ρ) else none
  | none => none
def kJoin (fa : EvF) (v : Val) (ρ : Env) : Ev Val := match v.d with
  | .str a => bnd (fa ρ) (kJoin2 a)
  | _ => none
theorem evJoin_eq : evJoin fo fa ρ = bnd (fo ρ) (kJoin fa) := rfl
theorem kJoin_eq {a : Str} : kJoin fa (.ro g (.str a)) ρ = bnd (fa ρ) (kJoin2 a) := rfl
theorem kJoin2_eq {a : Str} {ys : List Str} (h : w.d = .lst (ys.map .str)) (hz : (ys.map fun (y : Str) => y.length).sum + ys.length * a.length ≤ lim) : kJoin2 a w ρ = some (.ok (.ro .loc (.str (Txt.join a ys))) ρ) := by
  have e : (litems w.d).bind strsOf = some ys := by
    rw [h]
    exact strsOf_map ys
  unfold kJoin2
  rw [e]
  exact if_pos hz
def kSplit2 (a : Str) (w : Val) (ρ : Env) : Ev Val := match w.d with
  | .str b => if b.length ≠ 0 ∧ a.length ≤ lim then some (.ok (.tmp .loc (.lst ((Txt.split a b).map .str))) ρ) else none
  | _ => none
def kSplit (fa : EvF) (v : Val) (ρ : Env) : Ev Val := match v.d with
  | .str a => bnd (fa ρ) (kSplit2 a)
  | _ => none
theorem evSplit_eq : evSplit fo fa ρ = bnd (fo ρ) (kSplit fa) := rfl
theorem kSplit_eq {a : Str} : kSplit fa (.ro g (.str a)) ρ = bnd (fa ρ) (kSplit2 a) := rfl
theorem kSplit2_eq {a b : Str} : kSplit2 a (.ro g (.str b)) ρ = if b.length ≠ 0 ∧ a.length ≤ lim then some (.ok (.tmp .loc (.lst ((Txt.split a b).map .str))) ρ) else none := rfl
theorem kIter_lst (h : l.all D.leaf = true) : kIter (.ro .loc (.lst l)) ρ = some (.ok (.loc, l) ρ) := by
  unfold kIter
  simp only [Val.d, Val.isBor, items]
  unfold seqG
  rw [if_pos h]
  simp only [Val.rg, effL]
  rw [ite_self]
  rfl
theorem kIter_lstT (h : l.all D.leaf = true) : kIter (.tmp .loc (.lst l)) ρ = some (.ok (.loc, l) ρ) := by
  unfold kIter
  simp only [Val.d, Val.isBor, items]
  unfold seqG
  rw [if_pos h]
  simp only [Val.rg, effL]
  rw [ite_self]
  rfl
theorem kIter_tup {g : Rg} (h : l.all D.flat = true) (h' : l.all D.leaf = true) : kIter (.ro g (.tup l)) ρ = some (.ok (.loc, l) ρ) := by
  unfold kIter
  simp only [Val.d, Val.isBor, items]
  unfold seqG
  rw [if_pos h']
  simp only [Val.rg, effL, h, if_true]
  simp
theorem all2_refl {f : D → D → Bool} : ∀ {l : List D}, (∀ d ∈ l, f d d = true) → all2 f l l = true
  | [], _ => rfl
  | d :: l, h => by
    show (f d d && all2 f l l) = true
    rw [h d List.mem_cons_self, all2_refl fun e he => h e (List.mem_cons_of_mem _ he)]; rfl
theorem beqD_refl : ∀ (n : Nat) (d : D), dataB n d = true → beqD n d d = true
  | _, .non, _ => by simp [beqD]
  | _, .bl b, _ => by simp [beqD]
  | _, .int i, _ => by simp [beqD]
  | _, .str x, _ => by simp [beqD]
  | n + 1, .tup l, h => by
    simp only [dataB, List.all_eq_true] at h
    simp only [beqD]
    exact all2_refl fun d hd => beqD_refl n d (h d hd)
  | n + 1, .lst l, h => by
    simp only [dataB, List.all_eq_true] at h
    simp only [beqD]
    exact all2_refl fun d hd => beqD_refl n d (h d hd)
  | 0, .tup l, h => by simp [dataB] at h
  | 0, .lst l, h => by simp [dataB] at h
  | n, .ktup l, h => by cases n <;> simp [dataB] at h
  | n, .klst l, h => by cases n <;> simp [dataB] at h
  | n, .dk l, h => by cases n <;> simp [dataB] at h
  | n, .dt l, h => by cases n <;> simp [dataB] at h
  | n, .ins c l, h => by cases n <;> simp [dataB] at h
  | n, .exc c, h => by cases n <;> simp [dataB] at h
theorem eqD_lst {l : List D} (h : dataB dep (.lst l) = true) : eqD (.lst l) (.lst l) = some true := by
  show (if (dataB dep (.lst l) && dataB dep (.lst l)) = true then some (beqD dep (.lst l) (.lst l)) else none) = some true
  rw [h, beqD_refl _ _ h]
  rfl
theorem kList_own {i : Nat} {l : List D} (h : l.all D.leaf = true) : kList (.bor i .loc (.lst l)) ρ = some (.ok (.tmp .loc (.lst l)) ρ) := by
  unfold kList
  simp only [Val.d, items]
  unfold seqG
  rw [if_pos h]
  simp only [Val.rg, effL]
  rw [ite_self]
  rfl
theorem sub_bor {i : Nat} {l : List D} {j : Int} (h : atI l j = some d) (hd : d.leaf = true) : subV (.bor i .loc (.lst l)) (.int j) = some (.ro .loc d) := by
  show (atI l j).map (elemV (.bor i .loc (.lst l))) = _
  rw [h]
  show some (elemV (.bor i .loc (.lst l)) d) = _
  unfold elemV
  rw [hd, Bool.or_true]
  rfl
def kRng3 (vs : List Val) (ρ : Env) : Ev (Rg × List D) := match vs.map Val.d with
  | [.int i, .int j, .int c] => if (Builtin.Range.small i j c && decide (c ≠ 0 ∧ c.natAbs < 1073741824 ∧ 0 ≤ Builtin.Range.rangeSize i j c)) = true then some (.ok (.loc, stepD i c (Builtin.Range.rangeSize i j c).toNat) ρ) else none
  | _ => none
theorem evRng3_eq : evRng3 fs ρ = bnd (fs ρ) kRng3 := rfl
theorem kRng3_eq {g' : Rg} {g'' : Rg} {x y z : Int} : kRng3 [.ro g (.int x), .ro g' (.int y), .ro g'' (.int z)] ρ = if (Builtin.Range.small x y z && decide (z ≠ 0 ∧ z.natAbs < 1073741824 ∧ 0 ≤ Builtin.Range.rangeSize x y z)) = true then some (.ok (.loc, stepD x z (Builtin.Range.rangeSize x y z).toNat) ρ) else none := rfl
end
end PV

namespace K75
open PySem PySem.Spec PyProof.Rows L2 PV

def gb : Gb := ⟨⟨["HaulError", "NoBox", "NoText"], [true, true, true], [[0], [1, 0], [2, 0]]⟩, [("FIGURES", "0123456789")], ["abs", "bool", "int", "isinstance", "len", "list", "max", "min", "range", "str", "tuple"]⟩
def top (i : Nat) : Stmt := PySem.Challenge.pw_haulway_k75_places_and_bodies.main.body.getD i (.Pass ⟨0, 0, 0, 0⟩)

/-! ### box -/
abbrev st_box : Stmt := top 5
abbrev N_box : List Str := ["left", "low", "right", "high"]
noncomputable def ev_box : EvS :=
  evSeq (evIf (evOr (evOp2 (cop' .ge) true (evVar 0) (evVar 2)) (evOp2 (cop' .ge) true (evVar 1) (evVar 3)))
 (evSeq (evRaise 1)
    (evPass))
 (evPass))
    (evSeq (evRet (evTup (evCons true (evVar 0) (evCons true (evVar 1) (evCons true (evVar 2) (evCons true (evVar 3) (evNil)))))))
    (evPass))
noncomputable def fn_box : Fn := fnD 4 4 ev_box
noncomputable def kn_box : Kn := []
theorem body_box {X : Cx} (am : AmF gb kn_box (defScope st_box) N_box X) : SSs (kxOf X.K gb.cs) X (defBody st_box) ev_box := by
  have v3 := am.v (i := 3) (x := "high") (by decide +kernel)
  have v2 := am.v (i := 2) (x := "right") (by decide +kernel)
  have v1 := am.v (i := 1) (x := "low") (by decide +kernel)
  have v0 := am.v (i := 0) (x := "left") (by decide +kernel)
  have g_NoBox := (by decide +kernel : isGlo (defScope st_box) "NoBox" = true)
  exact SSs.cons (SS.ite (SW.st (SW.or (ST.cmp rfl am.au .ge rfl (SE.var (v0 _)) (SE.var (v2 _))) (SW.or1 (ST.cmp rfl am.au .ge rfl (SE.var (v1 _)) (SE.var (v3 _))))))
 (SSs.cons (am.raise (c := 1) (by decide) rfl rfl g_NoBox)
    (SSs.nil))
 (SSs.nil))
    (SSs.cons (SS.ret (SE.tup (SA.cons rfl (SE.var (v0 _)) (SA.cons rfl (SE.var (v1 _)) (SA.cons rfl (SE.var (v2 _)) (SA.cons rfl (SE.var (v3 _)) (SA.nil)))))))
    (SSs.nil))
theorem sc_box : FnScope N_box ["left", "low", "right", "high"] (defScope st_box) := ⟨rfl, rfl, rfl, by decide +kernel, rfl, by decide +kernel, by decide +kernel⟩
theorem bd_box : BindOk "box" "box" (defArgs st_box) (defBody st_box) (defScope st_box) ["left", "low", "right", "high"] := fun _ _ _ _ _ _ us hl => match us, hl with | [_, _, _, _], _ => rfl
def d_box : He.DefD := ⟨("box", none), "box", "box", defArgs st_box, defBody st_box, defScope st_box, [], []⟩
theorem ok_box {P : Program} {w : World} {K : PySem.W.Frag} {mg : Str → Option Value} {base : Heap} (lw : Lw gb K mg) (F : ∃ fd, FunD K "box" "box" (defArgs st_box) (defBody st_box) (defScope st_box) [] [] (He.ga K "box") fd) (hm : mg "box" = some (.ref (He.ga K "box"))) (hk : KnOk gb P w K mg base 0 kn_box) : Ok1 gb P w K mg base "box" 4 fn_box 1 :=
  mkOk lw F hm bd_box sc_box hk fun X am => body_box am

/-! ### read_number -/
abbrev st_read_number : Stmt := top 8
abbrev N_read_number : List Str := ["text", "figures", "sign"]
noncomputable def lb_read_number_1 : EvS :=
  evSeq (evIf (evOp2 (cop' .nin) true (evVar 2) (evC (.str "0123456789")))
 (evSeq (evRaise 2)
    (evPass))
 (evPass))
    (evPass)
theorem lb_read_number_1_q {ρ : PV.Env} : lb_read_number_1 ρ = (evSeq (evIf (evOp2 (cop' .nin) true (evVar 2) (evC (.str "0123456789")))
 (evSeq (evRaise 2)
    (evPass))
 (evPass))
    (evPass)) ρ := rfl
noncomputable def ev_read_number : EvS :=
  evSeq (evIf (evOp1 notD (evIsa gb.cs (.ty .str) (evVar 0)))
 (evSeq (evRaise 2)
    (evPass))
 (evPass))
    (evSeq (evSet false 1 (evVar 0))
    (evSeq (evIf (evOp2 (cop' .eq) true (evSlc (evVar 0) (evNo) (evInt (evC (.int 1)))) (evC (.str "-")))
 (evSeq (evSet false 1 (evSlc (evVar 0) (evInt (evC (.int 1))) (evNo)))
    (evPass))
 (evPass))
    (evSeq (evIf (evOp1 notD (evChain .le .le true true (evC (.int 1)) (evBi (bf .len) (evCons true (evVar 1) (evNil))) (evC (.int 60))))
 (evSeq (evRaise 2)
    (evPass))
 (evPass))
    (evSeq (evFor (.one 2) (evIter (evVar 1))
 (lb_read_number_1))
    (evSeq (evIf (evAnd (evOp2 (cop' .eq) true (evSub true (evVar 1) (evC (.int 0))) (evC (.str "0"))) (evOp2 (cop' .ne) true (evVar 0) (evC (.str "0"))))
 (evSeq (evRaise 2)
    (evPass))
 (evPass))
    (evSeq (evRet (evBi (bf .int) (evCons true (evVar 0) (evNil))))
    (evPass)))))))
noncomputable def fn_read_number : Fn := fnD 1 3 ev_read_number
noncomputable def kn_read_number : Kn := []
theorem body_read_number {X : Cx} (am : AmF gb kn_read_number (defScope st_read_number) N_read_number X) : SSs (kxOf X.K gb.cs) X (defBody st_read_number) ev_read_number := by
  have v0 := am.v (i := 0) (x := "text") (by decide +kernel)
  have g_int := (by decide +kernel : isGlo (defScope st_read_number) "int" = true)
  have v1 := am.v (i := 1) (x := "figures") (by decide +kernel)
  have g_NoText := (by decide +kernel : isGlo (defScope st_read_number) "NoText" = true)
  have l2 := (by decide +kernel : isSt (defScope st_read_number) (defScope st_read_number) N_read_number 2 "sign" = true)
  have v2 := am.v (i := 2) (x := "sign") (by decide +kernel)
  have g_FIGURES := (by decide +kernel : isGlo (defScope st_read_number) "FIGURES" = true)
  have g_len := (by decide +kernel : isGlo (defScope st_read_number) "len" = true)
  have l1 := (by decide +kernel : isSt (defScope st_read_number) (defScope st_read_number) N_read_number 1 "figures" = true)
  have g_str := (by decide +kernel : isGlo (defScope st_read_number) "str" = true)
  have g_isinstance := (by decide +kernel : isGlo (defScope st_read_number) "isinstance" = true)
  exact SSs.cons (SS.ite (ST.not (SE.test (am.isa g_isinstance 3 rfl (am.clT .str 9 rfl g_str (by decide +kernel)) rfl (SE.var (v0 _))) (fun _ => rfl)))
 (SSs.cons (am.raise (c := 2) (by decide) rfl rfl g_NoText)
    (SSs.nil))
 (SSs.nil))
    (SSs.cons (am.put (own := false) l1 rfl (SE.var (v0 _)))
    (SSs.cons (SS.ite (ST.cmp rfl am.au .eq rfl (SE.slc rfl (SE.var (v0 _)) (SO.none) (SO.some (SE.int))) (SE.str))
 (SSs.cons (am.put (own := false) l1 rfl (SE.slc rfl (SE.var (v0 _)) (SO.some (SE.int)) (SO.none)))
    (SSs.nil))
 (SSs.nil))
    (SSs.cons (SS.ite (ST.not (ST.chain rfl am.au .le .le rfl (SE.int) (am.bf rfl .len g_len 4 rfl rfl (SA.cons rfl (SE.var (v1 _)) (SA.nil))) (SE.int)))
 (SSs.cons (am.raise (c := 2) (by decide) rfl rfl g_NoText)
    (SSs.nil))
 (SSs.nil))
    (SSs.cons (am.for_ (tg := .one 2) rfl rfl (SI.seq rfl (SE.var (v1 _))) (am.t l2 _)
 (SSs.cons (SS.ite (ST.cmp rfl am.au .nin rfl (SE.var (v2 _)) (am.gstr 0 rfl g_FIGURES))
 (SSs.cons (am.raise (c := 2) (by decide) rfl rfl g_NoText)
    (SSs.nil))
 (SSs.nil))
    (SSs.nil)))
    (SSs.cons (SS.ite (SW.st (SW.and (ST.cmp rfl am.au .eq rfl (SE.sub rfl am.au rfl (SE.var (v1 _)) (SE.int)) (SE.str)) (SW.and1 (ST.cmp rfl am.au .ne rfl (SE.var (v0 _)) (SE.str)))))
 (SSs.cons (am.raise (c := 2) (by decide) rfl rfl g_NoText)
    (SSs.nil))
 (SSs.nil))
    (SSs.cons (SS.ret (am.bf rfl .int g_int 2 rfl rfl (SA.cons rfl (SE.var (v0 _)) (SA.nil))))
    (SSs.nil)))))))
theorem sc_read_number : FnScope N_read_number ["text"] (defScope st_read_number) := ⟨rfl, rfl, rfl, by decide +kernel, rfl, by decide +kernel, by decide +kernel⟩
theorem bd_read_number : BindOk "read_number" "read_number" (defArgs st_read_number) (defBody st_read_number) (defScope st_read_number) ["text"] := fun _ _ _ _ _ _ us hl => match us, hl with | [_], _ => rfl
def d_read_number : He.DefD := ⟨("read_number", none), "read_number", "read_number", defArgs st_read_number, defBody st_read_number, defScope st_read_number, [], []⟩
theorem ok_read_number {P : Program} {w : World} {K : PySem.W.Frag} {mg : Str → Option Value} {base : Heap} (lw : Lw gb K mg) (F : ∃ fd, FunD K "read_number" "read_number" (defArgs st_read_number) (defBody st_read_number) (defScope st_read_number) [] [] (He.ga K "read_number") fd) (hm : mg "read_number" = some (.ref (He.ga K "read_number"))) (hk : KnOk gb P w K mg base 0 kn_read_number) : Ok1 gb P w K mg base "read_number" 1 fn_read_number 1 :=
  mkOk lw F hm bd_read_number sc_read_number hk fun X am => body_read_number am

/-! ### read_numbers -/
abbrev st_read_numbers : Stmt := top 9
abbrev N_read_numbers : List Str := ["text", "many", "words", "word"]
noncomputable def ev_read_numbers : EvS :=
  evSeq (evIf (evOp1 notD (evIsa gb.cs (.ty .str) (evVar 0)))
 (evSeq (evRaise 2)
    (evPass))
 (evPass))
    (evSeq (evSet false 2 (evSplit (evVar 0) (evC (.str ","))))
    (evSeq (evIf (evOp2 (cop' .ne) true (evBi (bf .len) (evCons true (evVar 2) (evNil))) (evVar 1))
 (evSeq (evRaise 2)
    (evPass))
 (evPass))
    (evSeq (evRet (evLc (.one 3) [3] (evIter (evVar 2)) none (evCall 1 fn_read_number (evCons true (evVar 3) (evNil)))))
    (evPass))))
noncomputable def fn_read_numbers : Fn := fnD 2 4 ev_read_numbers
noncomputable def kn_read_numbers : Kn := [("read_number", 1, fn_read_number)]
theorem body_read_numbers {X : Cx} (am : AmF gb kn_read_numbers (defScope st_read_numbers) N_read_numbers X) : SSs (kxOf X.K gb.cs) X (defBody st_read_numbers) ev_read_numbers := by
  have v2 := am.v (i := 2) (x := "words") (by decide +kernel)
  have g_len := (by decide +kernel : isGlo (defScope st_read_numbers) "len" = true)
  have v1 := am.v (i := 1) (x := "many") (by decide +kernel)
  have g_NoText := (by decide +kernel : isGlo (defScope st_read_numbers) "NoText" = true)
  have l2 := (by decide +kernel : isSt (defScope st_read_numbers) (defScope st_read_numbers) N_read_numbers 2 "words" = true)
  have v0 := am.v (i := 0) (x := "text") (by decide +kernel)
  have g_str := (by decide +kernel : isGlo (defScope st_read_numbers) "str" = true)
  have g_isinstance := (by decide +kernel : isGlo (defScope st_read_numbers) "isinstance" = true)
  exact SSs.cons (SS.ite (ST.not (SE.test (am.isa g_isinstance 3 rfl (am.clT .str 9 rfl g_str (by decide +kernel)) rfl (SE.var (v0 _))) (fun _ => rfl)))
 (SSs.cons (am.raise (c := 2) (by decide) rfl rfl g_NoText)
    (SSs.nil))
 (SSs.nil))
    (SSs.cons (am.put (own := false) l2 rfl (SE.split rfl rfl rfl (SE.var (v0 _)) (SE.str)))
    (SSs.cons (SS.ite (ST.cmp rfl am.au .ne rfl (am.bf rfl .len g_len 4 rfl rfl (SA.cons rfl (SE.var (v2 _)) (SA.nil))) (SE.var (v1 _)))
 (SSs.cons (am.raise (c := 2) (by decide) rfl rfl g_NoText)
    (SSs.nil))
 (SSs.nil))
    (SSs.cons (SS.ret (am.lc [("word", 3)] (by decide +kernel) (by decide) rfl (SI.seq rfl (SE.var (v2 _))) (fun Xam1 am1 hK1 => by (rw [← hK1]; exact ⟨am1.t (by decide +kernel) _, SF.nil, am1.call rfl 0 rfl (by decide +kernel) rfl (SA.cons rfl (SE.var (am1.v (i := 3) (by decide +kernel) _)) (SA.nil))⟩))))
    (SSs.nil))))
theorem sc_read_numbers : FnScope N_read_numbers ["text", "many"] (defScope st_read_numbers) := ⟨rfl, rfl, rfl, by decide +kernel, rfl, by decide +kernel, by decide +kernel⟩
theorem bd_read_numbers : BindOk "read_numbers" "read_numbers" (defArgs st_read_numbers) (defBody st_read_numbers) (defScope st_read_numbers) ["text", "many"] := fun _ _ _ _ _ _ us hl => match us, hl with | [_, _], _ => rfl
def d_read_numbers : He.DefD := ⟨("read_numbers", none), "read_numbers", "read_numbers", defArgs st_read_numbers, defBody st_read_numbers, defScope st_read_numbers, [], []⟩
theorem ok_read_numbers {P : Program} {w : World} {K : PySem.W.Frag} {mg : Str → Option Value} {base : Heap} (lw : Lw gb K mg) (F : ∃ fd, FunD K "read_numbers" "read_numbers" (defArgs st_read_numbers) (defBody st_read_numbers) (defScope st_read_numbers) [] [] (He.ga K "read_numbers") fd) (hm : mg "read_numbers" = some (.ref (He.ga K "read_numbers"))) (hk : KnOk gb P w K mg base 1 kn_read_numbers) : Ok1 gb P w K mg base "read_numbers" 2 fn_read_numbers 2 :=
  mkOk lw F hm bd_read_numbers sc_read_numbers hk fun X am => body_read_numbers am

/-! ### read_place -/
abbrev st_read_place : Stmt := top 10
abbrev N_read_place : List Str := ["text", "numbers"]
noncomputable def ev_read_place : EvS :=
  evSeq (evSet false 1 (evCall 2 fn_read_numbers (evCons true (evVar 0) (evCons true (evC (.int 2)) (evNil)))))
    (evSeq (evRet (evTup (evCons true (evSub true (evVar 1) (evC (.int 0))) (evCons true (evSub true (evVar 1) (evC (.int 1))) (evNil)))))
    (evPass))
noncomputable def fn_read_place : Fn := fnD 1 2 ev_read_place
noncomputable def kn_read_place : Kn := [("read_numbers", 2, fn_read_numbers)]
theorem body_read_place {X : Cx} (am : AmF gb kn_read_place (defScope st_read_place) N_read_place X) : SSs (kxOf X.K gb.cs) X (defBody st_read_place) ev_read_place := by
  have v1 := am.v (i := 1) (x := "numbers") (by decide +kernel)
  have l1 := (by decide +kernel : isSt (defScope st_read_place) (defScope st_read_place) N_read_place 1 "numbers" = true)
  have v0 := am.v (i := 0) (x := "text") (by decide +kernel)
  have g_read_numbers := (by decide +kernel : isGlo (defScope st_read_place) "read_numbers" = true)
  exact SSs.cons (am.put (own := false) l1 rfl (am.call rfl 0 rfl g_read_numbers rfl (SA.cons rfl (SE.var (v0 _)) (SA.cons rfl (SE.int) (SA.nil)))))
    (SSs.cons (SS.ret (SE.tup (SA.cons rfl (SE.sub rfl am.au rfl (SE.var (v1 _)) (SE.int)) (SA.cons rfl (SE.sub rfl am.au rfl (SE.var (v1 _)) (SE.int)) (SA.nil)))))
    (SSs.nil))
theorem sc_read_place : FnScope N_read_place ["text"] (defScope st_read_place) := ⟨rfl, rfl, rfl, by decide +kernel, rfl, by decide +kernel, by decide +kernel⟩
theorem bd_read_place : BindOk "read_place" "read_place" (defArgs st_read_place) (defBody st_read_place) (defScope st_read_place) ["text"] := fun _ _ _ _ _ _ us hl => match us, hl with | [_], _ => rfl
def d_read_place : He.DefD := ⟨("read_place", none), "read_place", "read_place", defArgs st_read_place, defBody st_read_place, defScope st_read_place, [], []⟩
theorem ok_read_place {P : Program} {w : World} {K : PySem.W.Frag} {mg : Str → Option Value} {base : Heap} (lw : Lw gb K mg) (F : ∃ fd, FunD K "read_place" "read_place" (defArgs st_read_place) (defBody st_read_place) (defScope st_read_place) [] [] (He.ga K "read_place") fd) (hm : mg "read_place" = some (.ref (He.ga K "read_place"))) (hk : KnOk gb P w K mg base 2 kn_read_place) : Ok1 gb P w K mg base "read_place" 1 fn_read_place 3 :=
  mkOk lw F hm bd_read_place sc_read_place hk fun X am => body_read_place am

/-! ### read_body -/
abbrev st_read_body : Stmt := top 11
abbrev N_read_body : List Str := ["text", "fours", "word", "four"]
noncomputable def ev_read_body : EvS :=
  evSeq (evIf (evOp1 notD (evIsa gb.cs (.ty .str) (evVar 0)))
 (evSeq (evRaise 2)
    (evPass))
 (evPass))
    (evSeq (evSet false 1 (evLc (.one 2) [2] (evIter (evSplit (evVar 0) (evC (.str "+")))) none (evCall 2 fn_read_numbers (evCons true (evVar 2) (evCons true (evC (.int 4)) (evNil))))))
    (evSeq (evRet (evLc (.one 3) [3] (evIter (evVar 1)) none (evCall 4 fn_box (evCons true (evSub true (evVar 3) (evC (.int 0))) (evCons true (evSub true (evVar 3) (evC (.int 1))) (evCons true (evSub true (evVar 3) (evC (.int 2))) (evCons true (evSub true (evVar 3) (evC (.int 3))) (evNil))))))))
    (evPass)))
noncomputable def fn_read_body : Fn := fnD 1 4 ev_read_body
noncomputable def kn_read_body : Kn := [("box", 4, fn_box), ("read_numbers", 2, fn_read_numbers)]
theorem body_read_body {X : Cx} (am : AmF gb kn_read_body (defScope st_read_body) N_read_body X) : SSs (kxOf X.K gb.cs) X (defBody st_read_body) ev_read_body := by
  have v1 := am.v (i := 1) (x := "fours") (by decide +kernel)
  have q1 := (by decide +kernel : isLL (defScope st_read_body) N_read_body 1 "fours" = true)
  have v0 := am.v (i := 0) (x := "text") (by decide +kernel)
  have g_str := (by decide +kernel : isGlo (defScope st_read_body) "str" = true)
  have g_isinstance := (by decide +kernel : isGlo (defScope st_read_body) "isinstance" = true)
  have g_NoText := (by decide +kernel : isGlo (defScope st_read_body) "NoText" = true)
  exact SSs.cons (SS.ite (ST.not (SE.test (am.isa g_isinstance 3 rfl (am.clT .str 9 rfl g_str (by decide +kernel)) rfl (SE.var (v0 _))) (fun _ => rfl)))
 (SSs.cons (am.raise (c := 2) (by decide) rfl rfl g_NoText)
    (SSs.nil))
 (SSs.nil))
    (SSs.cons (am.setLc (o := false) [("word", 2)] q1 rfl (by decide +kernel) (by decide +kernel) (by decide) rfl (SI.seq rfl (SE.split rfl rfl rfl (SE.var (v0 _)) (SE.str))) (fun Xam3 am3 hK3 => by (rw [← hK3]; exact ⟨am3.t (by decide +kernel) _, SF.nil, am3.call rfl 1 rfl (by decide +kernel) rfl (SA.cons rfl (SE.var (am3.v (i := 2) (by decide +kernel) _)) (SA.cons rfl (SE.int) (SA.nil)))⟩)) (by rw [am.asc]; rfl))
    (SSs.cons (SS.ret (am.lc [("four", 3)] (by decide +kernel) (by decide) rfl (SI.seq rfl (SE.var (v1 _))) (fun Xam2 am2 hK2 => by (rw [← hK2]; exact ⟨am2.t (by decide +kernel) _, SF.nil, am2.call rfl 0 rfl (by decide +kernel) rfl (SA.cons rfl (SE.sub rfl am2.au rfl (SE.var (am2.v (i := 3) (by decide +kernel) _)) (SE.int)) (SA.cons rfl (SE.sub rfl am2.au rfl (SE.var (am2.v (i := 3) (by decide +kernel) _)) (SE.int)) (SA.cons rfl (SE.sub rfl am2.au rfl (SE.var (am2.v (i := 3) (by decide +kernel) _)) (SE.int)) (SA.cons rfl (SE.sub rfl am2.au rfl (SE.var (am2.v (i := 3) (by decide +kernel) _)) (SE.int)) (SA.nil)))))⟩))))
    (SSs.nil)))
theorem sc_read_body : FnScope N_read_body ["text"] (defScope st_read_body) := ⟨rfl, rfl, rfl, by decide +kernel, rfl, by decide +kernel, by decide +kernel⟩
theorem bd_read_body : BindOk "read_body" "read_body" (defArgs st_read_body) (defBody st_read_body) (defScope st_read_body) ["text"] := fun _ _ _ _ _ _ us hl => match us, hl with | [_], _ => rfl
def d_read_body : He.DefD := ⟨("read_body", none), "read_body", "read_body", defArgs st_read_body, defBody st_read_body, defScope st_read_body, [], []⟩
theorem ok_read_body {P : Program} {w : World} {K : PySem.W.Frag} {mg : Str → Option Value} {base : Heap} (lw : Lw gb K mg) (F : ∃ fd, FunD K "read_body" "read_body" (defArgs st_read_body) (defBody st_read_body) (defScope st_read_body) [] [] (He.ga K "read_body") fd) (hm : mg "read_body" = some (.ref (He.ga K "read_body"))) (hk : KnOk gb P w K mg base 2 kn_read_body) : Ok1 gb P w K mg base "read_body" 1 fn_read_body 3 :=
  mkOk lw F hm bd_read_body sc_read_body hk fun X am => body_read_body am

/-! ### show_place -/
abbrev st_show_place : Stmt := top 12
abbrev N_show_place : List Str := ["place"]
noncomputable def ev_show_place : EvS :=
  evSeq (evRet (evAdd true (evAdd true (evBi (bf .str) (evCons true (evSub true (evVar 0) (evC (.int 0))) (evNil))) (evC (.str ","))) (evBi (bf .str) (evCons true (evSub true (evVar 0) (evC (.int 1))) (evNil)))))
    (evPass)
noncomputable def fn_show_place : Fn := fnD 1 1 ev_show_place
noncomputable def kn_show_place : Kn := []
theorem body_show_place {X : Cx} (am : AmF gb kn_show_place (defScope st_show_place) N_show_place X) : SSs (kxOf X.K gb.cs) X (defBody st_show_place) ev_show_place := by
  have v0 := am.v (i := 0) (x := "place") (by decide +kernel)
  have g_str := (by decide +kernel : isGlo (defScope st_show_place) "str" = true)
  exact SSs.cons (SS.ret (SE.add (SE.add (am.bf rfl .str g_str 9 rfl rfl (SA.cons rfl (SE.sub rfl am.au rfl (SE.var (v0 _)) (SE.int)) (SA.nil))) (SE.str)) (am.bf rfl .str g_str 9 rfl rfl (SA.cons rfl (SE.sub rfl am.au rfl (SE.var (v0 _)) (SE.int)) (SA.nil)))))
    (SSs.nil)
theorem sc_show_place : FnScope N_show_place ["place"] (defScope st_show_place) := ⟨rfl, rfl, rfl, by decide +kernel, rfl, by decide +kernel, by decide +kernel⟩
theorem bd_show_place : BindOk "show_place" "show_place" (defArgs st_show_place) (defBody st_show_place) (defScope st_show_place) ["place"] := fun _ _ _ _ _ _ us hl => match us, hl with | [_], _ => rfl
def d_show_place : He.DefD := ⟨("show_place", none), "show_place", "show_place", defArgs st_show_place, defBody st_show_place, defScope st_show_place, [], []⟩
theorem ok_show_place {P : Program} {w : World} {K : PySem.W.Frag} {mg : Str → Option Value} {base : Heap} (lw : Lw gb K mg) (F : ∃ fd, FunD K "show_place" "show_place" (defArgs st_show_place) (defBody st_show_place) (defScope st_show_place) [] [] (He.ga K "show_place") fd) (hm : mg "show_place" = some (.ref (He.ga K "show_place"))) (hk : KnOk gb P w K mg base 0 kn_show_place) : Ok1 gb P w K mg base "show_place" 1 fn_show_place 1 :=
  mkOk lw F hm bd_show_place sc_show_place hk fun X am => body_show_place am

/-! ### show_box -/
abbrev st_show_box : Stmt := top 13
abbrev N_show_box : List Str := ["one", "side"]
noncomputable def ev_show_box : EvS :=
  evSeq (evRet (evJoin (evC (.str ",")) (evLc (.one 1) [1] (evIter (evVar 0)) none (evBi (bf .str) (evCons true (evVar 1) (evNil))))))
    (evPass)
noncomputable def fn_show_box : Fn := fnD 1 2 ev_show_box
noncomputable def kn_show_box : Kn := []
theorem body_show_box {X : Cx} (am : AmF gb kn_show_box (defScope st_show_box) N_show_box X) : SSs (kxOf X.K gb.cs) X (defBody st_show_box) ev_show_box := by
  have v0 := am.v (i := 0) (x := "one") (by decide +kernel)
  exact SSs.cons (SS.ret (SE.join rfl rfl rfl rfl (SE.str) (am.lc [("side", 1)] (by decide +kernel) (by decide) rfl (SI.seq rfl (SE.var (v0 _))) (fun Xam4 am4 hK4 => by (rw [← hK4]; exact ⟨am4.t (by decide +kernel) _, SF.nil, am4.bf rfl .str (by decide +kernel) 9 rfl rfl (SA.cons rfl (SE.var (am4.v (i := 1) (by decide +kernel) _)) (SA.nil))⟩)))))
    (SSs.nil)
theorem sc_show_box : FnScope N_show_box ["one"] (defScope st_show_box) := ⟨rfl, rfl, rfl, by decide +kernel, rfl, by decide +kernel, by decide +kernel⟩
theorem bd_show_box : BindOk "show_box" "show_box" (defArgs st_show_box) (defBody st_show_box) (defScope st_show_box) ["one"] := fun _ _ _ _ _ _ us hl => match us, hl with | [_], _ => rfl
def d_show_box : He.DefD := ⟨("show_box", none), "show_box", "show_box", defArgs st_show_box, defBody st_show_box, defScope st_show_box, [], []⟩
theorem ok_show_box {P : Program} {w : World} {K : PySem.W.Frag} {mg : Str → Option Value} {base : Heap} (lw : Lw gb K mg) (F : ∃ fd, FunD K "show_box" "show_box" (defArgs st_show_box) (defBody st_show_box) (defScope st_show_box) [] [] (He.ga K "show_box") fd) (hm : mg "show_box" = some (.ref (He.ga K "show_box"))) (hk : KnOk gb P w K mg base 0 kn_show_box) : Ok1 gb P w K mg base "show_box" 1 fn_show_box 1 :=
  mkOk lw F hm bd_show_box sc_show_box hk fun X am => body_show_box am

/-! ### show_body -/
abbrev st_show_body : Stmt := top 14
abbrev N_show_body : List Str := ["boxes", "one"]
noncomputable def ev_show_body : EvS :=
  evSeq (evRet (evJoin (evC (.str "+")) (evLc (.one 1) [1] (evIter (evVar 0)) none (evCall 1 fn_show_box (evCons true (evVar 1) (evNil))))))
    (evPass)
noncomputable def fn_show_body : Fn := fnD 1 2 ev_show_body
noncomputable def kn_show_body : Kn := [("show_box", 1, fn_show_box)]
theorem body_show_body {X : Cx} (am : AmF gb kn_show_body (defScope st_show_body) N_show_body X) : SSs (kxOf X.K gb.cs) X (defBody st_show_body) ev_show_body := by
  have v0 := am.v (i := 0) (x := "boxes") (by decide +kernel)
  exact SSs.cons (SS.ret (SE.join rfl rfl rfl rfl (SE.str) (am.lc [("one", 1)] (by decide +kernel) (by decide) rfl (SI.seq rfl (SE.var (v0 _))) (fun Xam5 am5 hK5 => by (rw [← hK5]; exact ⟨am5.t (by decide +kernel) _, SF.nil, am5.call rfl 0 rfl (by decide +kernel) rfl (SA.cons rfl (SE.var (am5.v (i := 1) (by decide +kernel) _)) (SA.nil))⟩)))))
    (SSs.nil)
theorem sc_show_body : FnScope N_show_body ["boxes"] (defScope st_show_body) := ⟨rfl, rfl, rfl, by decide +kernel, rfl, by decide +kernel, by decide +kernel⟩
theorem bd_show_body : BindOk "show_body" "show_body" (defArgs st_show_body) (defBody st_show_body) (defScope st_show_body) ["boxes"] := fun _ _ _ _ _ _ us hl => match us, hl with | [_], _ => rfl
def d_show_body : He.DefD := ⟨("show_body", none), "show_body", "show_body", defArgs st_show_body, defBody st_show_body, defScope st_show_body, [], []⟩
theorem ok_show_body {P : Program} {w : World} {K : PySem.W.Frag} {mg : Str → Option Value} {base : Heap} (lw : Lw gb K mg) (F : ∃ fd, FunD K "show_body" "show_body" (defArgs st_show_body) (defBody st_show_body) (defScope st_show_body) [] [] (He.ga K "show_body") fd) (hm : mg "show_body" = some (.ref (He.ga K "show_body"))) (hk : KnOk gb P w K mg base 1 kn_show_body) : Ok1 gb P w K mg base "show_body" 1 fn_show_body 2 :=
  mkOk lw F hm bd_show_body sc_show_body hk fun X am => body_show_body am

/-! ### _law_cell -/
abbrev st__law_cell : Stmt := top 16
abbrev N__law_cell : List Str := ["_law_script", "_law_k", "_law_number"]
noncomputable def ev__law_cell : EvS :=
  evSeq (evSet false 2 (evAdd true (evAdd true (evOp2 (bop .mul) true (evOp2 (bop .mul) true (evVar 1) (evVar 1)) (evC (.int 104729))) (evOp2 (bop .mul) true (evVar 1) (evC (.int 7919)))) (evC (.int 11))))
    (evSeq (evIf (evOp2 (cop' .lt) true (evVar 1) (evBi (bf .len) (evCons true (evVar 0) (evNil))))
 (evSeq (evSet false 2 (evSub true (evVar 0) (evVar 1)))
    (evPass))
 (evSeq (evIf (evOp2 (cop' .gt) true (evBi (bf .len) (evCons true (evVar 0) (evNil))) (evC (.int 0)))
 (evSeq (evSet false 2 (evAdd true (evVar 2) (evOp2 (bop .mul) true (evOp2 (bop .mod) true (evSub true (evVar 0) (evOp2 (bop .mod) true (evOp2 (bop .mul) true (evVar 1) (evVar 1)) (evBi (bf .len) (evCons true (evVar 0) (evNil))))) (evC (.int 2147483647))) (evC (.int 48271)))))
    (evPass))
 (evPass))
    (evPass)))
    (evSeq (evRet (evOp2 (bop .mod) true (evVar 2) (evOp2 (bop .pow) true (evC (.int 10)) (evC (.int 60)))))
    (evPass)))
noncomputable def fn__law_cell : Fn := fnD 2 3 ev__law_cell
noncomputable def kn__law_cell : Kn := []
theorem body__law_cell {X : Cx} (am : AmF gb kn__law_cell (defScope st__law_cell) N__law_cell X) : SSs (kxOf X.K gb.cs) X (defBody st__law_cell) ev__law_cell := by
  have v2 := am.v (i := 2) (x := "_law_number") (by decide +kernel)
  have v1 := am.v (i := 1) (x := "_law_k") (by decide +kernel)
  have v0 := am.v (i := 0) (x := "_law_script") (by decide +kernel)
  have g_len := (by decide +kernel : isGlo (defScope st__law_cell) "len" = true)
  have l2 := (by decide +kernel : isSt (defScope st__law_cell) (defScope st__law_cell) N__law_cell 2 "_law_number" = true)
  exact SSs.cons (am.put (own := false) l2 rfl (SE.add (SE.add (SE.bin .mul (SE.bin .mul (SE.var (v1 _)) (SE.var (v1 _))) (SE.int)) (SE.bin .mul (SE.var (v1 _)) (SE.int))) (SE.int)))
    (SSs.cons (SS.ite (ST.cmp rfl am.au .lt rfl (SE.var (v1 _)) (am.bf rfl .len g_len 4 rfl rfl (SA.cons rfl (SE.var (v0 _)) (SA.nil))))
 (SSs.cons (am.put (own := false) l2 rfl (SE.sub rfl am.au rfl (SE.var (v0 _)) (SE.var (v1 _))))
    (SSs.nil))
 (SSs.cons (SS.ite (ST.cmp rfl am.au .gt rfl (am.bf rfl .len g_len 4 rfl rfl (SA.cons rfl (SE.var (v0 _)) (SA.nil))) (SE.int))
 (SSs.cons (am.put (own := false) l2 rfl (SE.add (SE.var (v2 _)) (SE.bin .mul (SE.bin .mod (SE.sub rfl am.au rfl (SE.var (v0 _)) (SE.bin .mod (SE.bin .mul (SE.var (v1 _)) (SE.var (v1 _))) (am.bf rfl .len g_len 4 rfl rfl (SA.cons rfl (SE.var (v0 _)) (SA.nil))))) (SE.int)) (SE.int))))
    (SSs.nil))
 (SSs.nil))
    (SSs.nil)))
    (SSs.cons (SS.ret (SE.bin .mod (SE.var (v2 _)) (SE.bin .pow (SE.int) (SE.int))))
    (SSs.nil)))
theorem sc__law_cell : FnScope N__law_cell ["_law_script", "_law_k"] (defScope st__law_cell) := ⟨rfl, rfl, rfl, by decide +kernel, rfl, by decide +kernel, by decide +kernel⟩
theorem bd__law_cell : BindOk "_law_cell" "_law_cell" (defArgs st__law_cell) (defBody st__law_cell) (defScope st__law_cell) ["_law_script", "_law_k"] := fun _ _ _ _ _ _ us hl => match us, hl with | [_, _], _ => rfl
def d__law_cell : He.DefD := ⟨("_law_cell", none), "_law_cell", "_law_cell", defArgs st__law_cell, defBody st__law_cell, defScope st__law_cell, [], []⟩
theorem ok__law_cell {P : Program} {w : World} {K : PySem.W.Frag} {mg : Str → Option Value} {base : Heap} (lw : Lw gb K mg) (F : ∃ fd, FunD K "_law_cell" "_law_cell" (defArgs st__law_cell) (defBody st__law_cell) (defScope st__law_cell) [] [] (He.ga K "_law_cell") fd) (hm : mg "_law_cell" = some (.ref (He.ga K "_law_cell"))) (hk : KnOk gb P w K mg base 0 kn__law_cell) : Ok1 gb P w K mg base "_law_cell" 2 fn__law_cell 1 :=
  mkOk lw F hm bd__law_cell sc__law_cell hk fun X am => body__law_cell am

/-! ### _law_whole -/
abbrev st__law_whole : Stmt := top 17
abbrev N__law_whole : List Str := ["_law_found"]
noncomputable def ev__law_whole : EvS :=
  evSeq (evRet (evAnd (evIsa gb.cs (.ty .int) (evVar 0)) (evOp1 notD (evIsa gb.cs (.ty .bool) (evVar 0)))))
    (evPass)
noncomputable def fn__law_whole : Fn := fnD 1 1 ev__law_whole
noncomputable def kn__law_whole : Kn := []
theorem body__law_whole {X : Cx} (am : AmF gb kn__law_whole (defScope st__law_whole) N__law_whole X) : SSs (kxOf X.K gb.cs) X (defBody st__law_whole) ev__law_whole := by
  have v0 := am.v (i := 0) (x := "_law_found") (by decide +kernel)
  have g_int := (by decide +kernel : isGlo (defScope st__law_whole) "int" = true)
  have g_isinstance := (by decide +kernel : isGlo (defScope st__law_whole) "isinstance" = true)
  have g_bool := (by decide +kernel : isGlo (defScope st__law_whole) "bool" = true)
  exact SSs.cons (SS.ret (SE.and (am.isa g_isinstance 3 rfl (am.clT .int 2 rfl g_int (by decide +kernel)) rfl (SE.var (v0 _))) (SE.one (SE.not (am.isa g_isinstance 3 rfl (am.clT .bool 1 rfl g_bool (by decide +kernel)) rfl (SE.var (v0 _)))))))
    (SSs.nil)
theorem sc__law_whole : FnScope N__law_whole ["_law_found"] (defScope st__law_whole) := ⟨rfl, rfl, rfl, by decide +kernel, rfl, by decide +kernel, by decide +kernel⟩
theorem bd__law_whole : BindOk "_law_whole" "_law_whole" (defArgs st__law_whole) (defBody st__law_whole) (defScope st__law_whole) ["_law_found"] := fun _ _ _ _ _ _ us hl => match us, hl with | [_], _ => rfl
def d__law_whole : He.DefD := ⟨("_law_whole", none), "_law_whole", "_law_whole", defArgs st__law_whole, defBody st__law_whole, defScope st__law_whole, [], []⟩
theorem ok__law_whole {P : Program} {w : World} {K : PySem.W.Frag} {mg : Str → Option Value} {base : Heap} (lw : Lw gb K mg) (F : ∃ fd, FunD K "_law_whole" "_law_whole" (defArgs st__law_whole) (defBody st__law_whole) (defScope st__law_whole) [] [] (He.ga K "_law_whole") fd) (hm : mg "_law_whole" = some (.ref (He.ga K "_law_whole"))) (hk : KnOk gb P w K mg base 0 kn__law_whole) : Ok1 gb P w K mg base "_law_whole" 1 fn__law_whole 1 :=
  mkOk lw F hm bd__law_whole sc__law_whole hk fun X am => body__law_whole am

/-! ### _law_side -/
abbrev st__law_side : Stmt := top 18
abbrev N__law_side : List Str := ["_law_cell_here"]
noncomputable def ev__law_side : EvS :=
  evSeq (evIf (evOp2 (cop' .eq) true (evOp2 (bop .mod) true (evVar 0) (evC (.int 2))) (evC (.int 0)))
 (evSeq (evRet (evOp2 (bop .sub) true (evOp2 (bop .mod) true (evOp2 (bop .fdiv) true (evVar 0) (evC (.int 2))) (evC (.int 9))) (evC (.int 4))))
    (evPass))
 (evPass))
    (evSeq (evRet (evOp2 (bop .sub) true (evOp2 (bop .mod) true (evOp2 (bop .fdiv) true (evVar 0) (evC (.int 2))) (evOp2 (bop .pow) true (evC (.int 10)) (evC (.int 60)))) (evOp2 (bop .mul) true (evC (.int 5)) (evOp2 (bop .pow) true (evC (.int 10)) (evC (.int 59))))))
    (evPass))
noncomputable def fn__law_side : Fn := fnD 1 1 ev__law_side
noncomputable def kn__law_side : Kn := []
theorem body__law_side {X : Cx} (am : AmF gb kn__law_side (defScope st__law_side) N__law_side X) : SSs (kxOf X.K gb.cs) X (defBody st__law_side) ev__law_side := by
  have v0 := am.v (i := 0) (x := "_law_cell_here") (by decide +kernel)
  exact SSs.cons (SS.ite (ST.cmp rfl am.au .eq rfl (SE.bin .mod (SE.var (v0 _)) (SE.int)) (SE.int))
 (SSs.cons (SS.ret (SE.bin .sub (SE.bin .mod (SE.bin .fdiv (SE.var (v0 _)) (SE.int)) (SE.int)) (SE.int)))
    (SSs.nil))
 (SSs.nil))
    (SSs.cons (SS.ret (SE.bin .sub (SE.bin .mod (SE.bin .fdiv (SE.var (v0 _)) (SE.int)) (SE.bin .pow (SE.int) (SE.int))) (SE.bin .mul (SE.int) (SE.bin .pow (SE.int) (SE.int)))))
    (SSs.nil))
theorem sc__law_side : FnScope N__law_side ["_law_cell_here"] (defScope st__law_side) := ⟨rfl, rfl, rfl, by decide +kernel, rfl, by decide +kernel, by decide +kernel⟩
theorem bd__law_side : BindOk "_law_side" "_law_side" (defArgs st__law_side) (defBody st__law_side) (defScope st__law_side) ["_law_cell_here"] := fun _ _ _ _ _ _ us hl => match us, hl with | [_], _ => rfl
def d__law_side : He.DefD := ⟨("_law_side", none), "_law_side", "_law_side", defArgs st__law_side, defBody st__law_side, defScope st__law_side, [], []⟩
theorem ok__law_side {P : Program} {w : World} {K : PySem.W.Frag} {mg : Str → Option Value} {base : Heap} (lw : Lw gb K mg) (F : ∃ fd, FunD K "_law_side" "_law_side" (defArgs st__law_side) (defBody st__law_side) (defScope st__law_side) [] [] (He.ga K "_law_side") fd) (hm : mg "_law_side" = some (.ref (He.ga K "_law_side"))) (hk : KnOk gb P w K mg base 0 kn__law_side) : Ok1 gb P w K mg base "_law_side" 1 fn__law_side 1 :=
  mkOk lw F hm bd__law_side sc__law_side hk fun X am => body__law_side am

/-! ### _law_size -/
abbrev st__law_size : Stmt := top 19
abbrev N__law_size : List Str := ["_law_cell_here"]
noncomputable def ev__law_size : EvS :=
  evSeq (evIf (evOp2 (cop' .eq) true (evOp2 (bop .mod) true (evVar 0) (evC (.int 2))) (evC (.int 0)))
 (evSeq (evRet (evAdd true (evC (.int 1)) (evOp2 (bop .mod) true (evOp2 (bop .fdiv) true (evVar 0) (evC (.int 2))) (evC (.int 7)))))
    (evPass))
 (evPass))
    (evSeq (evRet (evAdd true (evC (.int 1)) (evOp2 (bop .mod) true (evOp2 (bop .fdiv) true (evVar 0) (evC (.int 2))) (evOp2 (bop .mul) true (evC (.int 4)) (evOp2 (bop .pow) true (evC (.int 10)) (evC (.int 59)))))))
    (evPass))
noncomputable def fn__law_size : Fn := fnD 1 1 ev__law_size
noncomputable def kn__law_size : Kn := []
theorem body__law_size {X : Cx} (am : AmF gb kn__law_size (defScope st__law_size) N__law_size X) : SSs (kxOf X.K gb.cs) X (defBody st__law_size) ev__law_size := by
  have v0 := am.v (i := 0) (x := "_law_cell_here") (by decide +kernel)
  exact SSs.cons (SS.ite (ST.cmp rfl am.au .eq rfl (SE.bin .mod (SE.var (v0 _)) (SE.int)) (SE.int))
 (SSs.cons (SS.ret (SE.add (SE.int) (SE.bin .mod (SE.bin .fdiv (SE.var (v0 _)) (SE.int)) (SE.int))))
    (SSs.nil))
 (SSs.nil))
    (SSs.cons (SS.ret (SE.add (SE.int) (SE.bin .mod (SE.bin .fdiv (SE.var (v0 _)) (SE.int)) (SE.bin .mul (SE.int) (SE.bin .pow (SE.int) (SE.int))))))
    (SSs.nil))
theorem sc__law_size : FnScope N__law_size ["_law_cell_here"] (defScope st__law_size) := ⟨rfl, rfl, rfl, by decide +kernel, rfl, by decide +kernel, by decide +kernel⟩
theorem bd__law_size : BindOk "_law_size" "_law_size" (defArgs st__law_size) (defBody st__law_size) (defScope st__law_size) ["_law_cell_here"] := fun _ _ _ _ _ _ us hl => match us, hl with | [_], _ => rfl
def d__law_size : He.DefD := ⟨("_law_size", none), "_law_size", "_law_size", defArgs st__law_size, defBody st__law_size, defScope st__law_size, [], []⟩
theorem ok__law_size {P : Program} {w : World} {K : PySem.W.Frag} {mg : Str → Option Value} {base : Heap} (lw : Lw gb K mg) (F : ∃ fd, FunD K "_law_size" "_law_size" (defArgs st__law_size) (defBody st__law_size) (defScope st__law_size) [] [] (He.ga K "_law_size") fd) (hm : mg "_law_size" = some (.ref (He.ga K "_law_size"))) (hk : KnOk gb P w K mg base 0 kn__law_size) : Ok1 gb P w K mg base "_law_size" 1 fn__law_size 1 :=
  mkOk lw F hm bd__law_size sc__law_size hk fun X am => body__law_size am

/-! ### _law_figures -/
abbrev st__law_figures : Stmt := top 20
abbrev N__law_figures : List Str := ["_law_number", "_law_left", "_law_word"]
noncomputable def lb__law_figures_1 : EvS :=
  evSeq (evSet false 2 (evAdd true (evSub true (evC (.str "0123456789")) (evOp2 (bop .mod) true (evVar 1) (evC (.int 10)))) (evVar 2)))
    (evSeq (evSet false 1 (evOp2 (bop .fdiv) true (evVar 1) (evC (.int 10))))
    (evPass))
theorem lb__law_figures_1_q {ρ : PV.Env} : lb__law_figures_1 ρ = (evSeq (evSet false 2 (evAdd true (evSub true (evC (.str "0123456789")) (evOp2 (bop .mod) true (evVar 1) (evC (.int 10)))) (evVar 2)))
    (evSeq (evSet false 1 (evOp2 (bop .fdiv) true (evVar 1) (evC (.int 10))))
    (evPass))) ρ := rfl
noncomputable def ev__law_figures : EvS :=
  evSeq (evSet false 1 (evBi (bf .abs) (evCons true (evVar 0) (evNil))))
    (evSeq (evSet false 2 (evC (.str "")))
    (evSeq (evWhile (evOr (evOp2 (cop' .gt) true (evVar 1) (evC (.int 0))) (evOp2 (cop' .eq) true (evVar 2) (evC (.str ""))))
 (lb__law_figures_1))
    (evSeq (evIf (evOp2 (cop' .lt) true (evVar 0) (evC (.int 0)))
 (evSeq (evRet (evAdd true (evC (.str "-")) (evVar 2)))
    (evPass))
 (evPass))
    (evSeq (evRet (evVar 2))
    (evPass)))))
noncomputable def fn__law_figures : Fn := fnD 1 3 ev__law_figures
noncomputable def kn__law_figures : Kn := []
theorem body__law_figures {X : Cx} (am : AmF gb kn__law_figures (defScope st__law_figures) N__law_figures X) : SSs (kxOf X.K gb.cs) X (defBody st__law_figures) ev__law_figures := by
  have v2 := am.v (i := 2) (x := "_law_word") (by decide +kernel)
  have v0 := am.v (i := 0) (x := "_law_number") (by decide +kernel)
  have v1 := am.v (i := 1) (x := "_law_left") (by decide +kernel)
  have l1 := (by decide +kernel : isSt (defScope st__law_figures) (defScope st__law_figures) N__law_figures 1 "_law_left" = true)
  have l2 := (by decide +kernel : isSt (defScope st__law_figures) (defScope st__law_figures) N__law_figures 2 "_law_word" = true)
  have g_abs := (by decide +kernel : isGlo (defScope st__law_figures) "abs" = true)
  exact SSs.cons (am.put (own := false) l1 rfl (am.bf rfl .abs g_abs 0 rfl rfl (SA.cons rfl (SE.var (v0 _)) (SA.nil))))
    (SSs.cons (am.put (own := false) l2 rfl (SE.str))
    (SSs.cons (am.while_ (SW.st (SW.or (ST.cmp rfl am.au .gt rfl (SE.var (v1 _)) (SE.int)) (SW.or1 (ST.cmp rfl am.au .eq rfl (SE.var (v2 _)) (SE.str)))))
 (SSs.cons (am.put (own := false) l2 rfl (SE.add (SE.sub rfl am.au rfl (SE.str) (SE.bin .mod (SE.var (v1 _)) (SE.int))) (SE.var (v2 _))))
    (SSs.cons (am.put (own := false) l1 rfl (SE.bin .fdiv (SE.var (v1 _)) (SE.int)))
    (SSs.nil))))
    (SSs.cons (SS.ite (ST.cmp rfl am.au .lt rfl (SE.var (v0 _)) (SE.int))
 (SSs.cons (SS.ret (SE.add (SE.str) (SE.var (v2 _))))
    (SSs.nil))
 (SSs.nil))
    (SSs.cons (SS.ret (SE.var (v2 _)))
    (SSs.nil)))))
theorem sc__law_figures : FnScope N__law_figures ["_law_number"] (defScope st__law_figures) := ⟨rfl, rfl, rfl, by decide +kernel, rfl, by decide +kernel, by decide +kernel⟩
theorem bd__law_figures : BindOk "_law_figures" "_law_figures" (defArgs st__law_figures) (defBody st__law_figures) (defScope st__law_figures) ["_law_number"] := fun _ _ _ _ _ _ us hl => match us, hl with | [_], _ => rfl
def d__law_figures : He.DefD := ⟨("_law_figures", none), "_law_figures", "_law_figures", defArgs st__law_figures, defBody st__law_figures, defScope st__law_figures, [], []⟩
theorem ok__law_figures {P : Program} {w : World} {K : PySem.W.Frag} {mg : Str → Option Value} {base : Heap} (lw : Lw gb K mg) (F : ∃ fd, FunD K "_law_figures" "_law_figures" (defArgs st__law_figures) (defBody st__law_figures) (defScope st__law_figures) [] [] (He.ga K "_law_figures") fd) (hm : mg "_law_figures" = some (.ref (He.ga K "_law_figures"))) (hk : KnOk gb P w K mg base 0 kn__law_figures) : Ok1 gb P w K mg base "_law_figures" 1 fn__law_figures 1 :=
  mkOk lw F hm bd__law_figures sc__law_figures hk fun X am => body__law_figures am

/-! ### _law_whole_ones -/
abbrev st__law_whole_ones : Stmt := top 21
abbrev N__law_whole_ones : List Str := ["_law_found", "_law_due", "_law_k"]
noncomputable def lb__law_whole_ones_1 : EvS :=
  evSeq (evIf (evOr (evOp1 notD (evCall 1 fn__law_whole (evCons true (evSub true (evVar 0) (evVar 2)) (evNil)))) (evOp2 (cop' .ne) true (evSub true (evVar 0) (evVar 2)) (evSub true (evVar 1) (evVar 2))))
 (evSeq (evRet (evC (.bl false)))
    (evPass))
 (evPass))
    (evPass)
theorem lb__law_whole_ones_1_q {ρ : PV.Env} : lb__law_whole_ones_1 ρ = (evSeq (evIf (evOr (evOp1 notD (evCall 1 fn__law_whole (evCons true (evSub true (evVar 0) (evVar 2)) (evNil)))) (evOp2 (cop' .ne) true (evSub true (evVar 0) (evVar 2)) (evSub true (evVar 1) (evVar 2))))
 (evSeq (evRet (evC (.bl false)))
    (evPass))
 (evPass))
    (evPass)) ρ := rfl
noncomputable def ev__law_whole_ones : EvS :=
  evSeq (evIf (evOr (evOp1 notD (evIsa gb.cs (.ty .tuple) (evVar 0))) (evOp2 (cop' .ne) true (evBi (bf .len) (evCons true (evVar 0) (evNil))) (evBi (bf .len) (evCons true (evVar 1) (evNil)))))
 (evSeq (evRet (evC (.bl false)))
    (evPass))
 (evPass))
    (evSeq (evFor (.one 2) (evRng1 (evCons true (evBi (bf .len) (evCons true (evVar 1) (evNil))) (evNil)))
 (lb__law_whole_ones_1))
    (evSeq (evRet (evC (.bl true)))
    (evPass)))
noncomputable def fn__law_whole_ones : Fn := fnD 2 3 ev__law_whole_ones
noncomputable def kn__law_whole_ones : Kn := [("_law_whole", 1, fn__law_whole)]
theorem body__law_whole_ones {X : Cx} (am : AmF gb kn__law_whole_ones (defScope st__law_whole_ones) N__law_whole_ones X) : SSs (kxOf X.K gb.cs) X (defBody st__law_whole_ones) ev__law_whole_ones := by
  have v1 := am.v (i := 1) (x := "_law_due") (by decide +kernel)
  have g_len := (by decide +kernel : isGlo (defScope st__law_whole_ones) "len" = true)
  have g_range := (by decide +kernel : isGlo (defScope st__law_whole_ones) "range" = true)
  have l2 := (by decide +kernel : isSt (defScope st__law_whole_ones) (defScope st__law_whole_ones) N__law_whole_ones 2 "_law_k" = true)
  have v0 := am.v (i := 0) (x := "_law_found") (by decide +kernel)
  have v2 := am.v (i := 2) (x := "_law_k") (by decide +kernel)
  have g__law_whole := (by decide +kernel : isGlo (defScope st__law_whole_ones) "_law_whole" = true)
  have g_tuple := (by decide +kernel : isGlo (defScope st__law_whole_ones) "tuple" = true)
  have g_isinstance := (by decide +kernel : isGlo (defScope st__law_whole_ones) "isinstance" = true)
  exact SSs.cons (SS.ite (SW.st (SW.or (ST.not (SE.test (am.isa g_isinstance 3 rfl (am.clT .tuple 10 rfl g_tuple (by decide +kernel)) rfl (SE.var (v0 _))) (fun _ => rfl))) (SW.or1 (ST.cmp rfl am.au .ne rfl (am.bf rfl .len g_len 4 rfl rfl (SA.cons rfl (SE.var (v0 _)) (SA.nil))) (am.bf rfl .len g_len 4 rfl rfl (SA.cons rfl (SE.var (v1 _)) (SA.nil)))))))
 (SSs.cons (SS.ret (SE.bl))
    (SSs.nil))
 (SSs.nil))
    (SSs.cons (am.for_ (tg := .one 2) rfl rfl (am.range1 g_range 8 rfl rfl (SA.cons rfl (am.bf rfl .len g_len 4 rfl rfl (SA.cons rfl (SE.var (v1 _)) (SA.nil))) (SA.nil))) (am.t l2 _)
 (SSs.cons (SS.ite (SW.st (SW.or (ST.not (SE.test (am.call rfl 0 rfl g__law_whole rfl (SA.cons rfl (SE.sub rfl am.au rfl (SE.var (v0 _)) (SE.var (v2 _))) (SA.nil))) (fun _ => rfl))) (SW.or1 (ST.cmp rfl am.au .ne rfl (SE.sub rfl am.au rfl (SE.var (v0 _)) (SE.var (v2 _))) (SE.sub rfl am.au rfl (SE.var (v1 _)) (SE.var (v2 _)))))))
 (SSs.cons (SS.ret (SE.bl))
    (SSs.nil))
 (SSs.nil))
    (SSs.nil)))
    (SSs.cons (SS.ret (SE.bl))
    (SSs.nil)))
theorem sc__law_whole_ones : FnScope N__law_whole_ones ["_law_found", "_law_due"] (defScope st__law_whole_ones) := ⟨rfl, rfl, rfl, by decide +kernel, rfl, by decide +kernel, by decide +kernel⟩
theorem bd__law_whole_ones : BindOk "_law_whole_ones" "_law_whole_ones" (defArgs st__law_whole_ones) (defBody st__law_whole_ones) (defScope st__law_whole_ones) ["_law_found", "_law_due"] := fun _ _ _ _ _ _ us hl => match us, hl with | [_, _], _ => rfl
def d__law_whole_ones : He.DefD := ⟨("_law_whole_ones", none), "_law_whole_ones", "_law_whole_ones", defArgs st__law_whole_ones, defBody st__law_whole_ones, defScope st__law_whole_ones, [], []⟩
theorem ok__law_whole_ones {P : Program} {w : World} {K : PySem.W.Frag} {mg : Str → Option Value} {base : Heap} (lw : Lw gb K mg) (F : ∃ fd, FunD K "_law_whole_ones" "_law_whole_ones" (defArgs st__law_whole_ones) (defBody st__law_whole_ones) (defScope st__law_whole_ones) [] [] (He.ga K "_law_whole_ones") fd) (hm : mg "_law_whole_ones" = some (.ref (He.ga K "_law_whole_ones"))) (hk : KnOk gb P w K mg base 1 kn__law_whole_ones) : Ok1 gb P w K mg base "_law_whole_ones" 2 fn__law_whole_ones 2 :=
  mkOk lw F hm bd__law_whole_ones sc__law_whole_ones hk fun X am => body__law_whole_ones am

/-! ### _law_place_right -/
abbrev st__law_place_right : Stmt := top 22
abbrev N__law_place_right : List Str := ["_law_spot", "_law_due", "_law_told"]
noncomputable def ev__law_place_right : EvS :=
  evSeq (evSet false 1 (evAdd true (evAdd true (evCall 1 fn__law_figures (evCons true (evSub true (evVar 0) (evC (.int 0))) (evNil))) (evC (.str ","))) (evCall 1 fn__law_figures (evCons true (evSub true (evVar 0) (evC (.int 1))) (evNil)))))
    (evSeq (evSet false 2 (evCall 1 fn_show_place (evCons true (evVar 0) (evNil))))
    (evSeq (evRet (evAnd (evIsa gb.cs (.ty .str) (evVar 2)) (evAnd (evOp2 (cop' .eq) true (evVar 2) (evVar 1)) (evCall 2 fn__law_whole_ones (evCons true (evCall 1 fn_read_place (evCons true (evVar 1) (evNil))) (evCons true (evVar 0) (evNil)))))))
    (evPass)))
noncomputable def fn__law_place_right : Fn := fnD 1 3 ev__law_place_right
noncomputable def kn__law_place_right : Kn := [("_law_whole_ones", 2, fn__law_whole_ones), ("read_place", 1, fn_read_place), ("show_place", 1, fn_show_place), ("_law_figures", 1, fn__law_figures)]
theorem body__law_place_right {X : Cx} (am : AmF gb kn__law_place_right (defScope st__law_place_right) N__law_place_right X) : SSs (kxOf X.K gb.cs) X (defBody st__law_place_right) ev__law_place_right := by
  have v2 := am.v (i := 2) (x := "_law_told") (by decide +kernel)
  have g_str := (by decide +kernel : isGlo (defScope st__law_place_right) "str" = true)
  have g_isinstance := (by decide +kernel : isGlo (defScope st__law_place_right) "isinstance" = true)
  have v1 := am.v (i := 1) (x := "_law_due") (by decide +kernel)
  have v0 := am.v (i := 0) (x := "_law_spot") (by decide +kernel)
  have g_read_place := (by decide +kernel : isGlo (defScope st__law_place_right) "read_place" = true)
  have g__law_whole_ones := (by decide +kernel : isGlo (defScope st__law_place_right) "_law_whole_ones" = true)
  have l2 := (by decide +kernel : isSt (defScope st__law_place_right) (defScope st__law_place_right) N__law_place_right 2 "_law_told" = true)
  have g_show_place := (by decide +kernel : isGlo (defScope st__law_place_right) "show_place" = true)
  have l1 := (by decide +kernel : isSt (defScope st__law_place_right) (defScope st__law_place_right) N__law_place_right 1 "_law_due" = true)
  have g__law_figures := (by decide +kernel : isGlo (defScope st__law_place_right) "_law_figures" = true)
  exact SSs.cons (am.put (own := false) l1 rfl (SE.add (SE.add (am.call rfl 3 rfl g__law_figures rfl (SA.cons rfl (SE.sub rfl am.au rfl (SE.var (v0 _)) (SE.int)) (SA.nil))) (SE.str)) (am.call rfl 3 rfl g__law_figures rfl (SA.cons rfl (SE.sub rfl am.au rfl (SE.var (v0 _)) (SE.int)) (SA.nil)))))
    (SSs.cons (am.put (own := false) l2 rfl (am.call rfl 2 rfl g_show_place rfl (SA.cons rfl (SE.var (v0 _)) (SA.nil))))
    (SSs.cons (SS.ret (SE.and (am.isa g_isinstance 3 rfl (am.clT .str 9 rfl g_str (by decide +kernel)) rfl (SE.var (v2 _))) (SE.and (SE.cmp rfl am.au .eq rfl (SE.var (v2 _)) (SE.var (v1 _))) (SE.one (am.call rfl 0 rfl g__law_whole_ones rfl (SA.cons rfl (am.call rfl 1 rfl g_read_place rfl (SA.cons rfl (SE.var (v1 _)) (SA.nil))) (SA.cons rfl (SE.var (v0 _)) (SA.nil))))))))
    (SSs.nil)))
theorem sc__law_place_right : FnScope N__law_place_right ["_law_spot"] (defScope st__law_place_right) := ⟨rfl, rfl, rfl, by decide +kernel, rfl, by decide +kernel, by decide +kernel⟩
theorem bd__law_place_right : BindOk "_law_place_right" "_law_place_right" (defArgs st__law_place_right) (defBody st__law_place_right) (defScope st__law_place_right) ["_law_spot"] := fun _ _ _ _ _ _ us hl => match us, hl with | [_], _ => rfl
def d__law_place_right : He.DefD := ⟨("_law_place_right", none), "_law_place_right", "_law_place_right", defArgs st__law_place_right, defBody st__law_place_right, defScope st__law_place_right, [], []⟩
theorem ok__law_place_right {P : Program} {w : World} {K : PySem.W.Frag} {mg : Str → Option Value} {base : Heap} (lw : Lw gb K mg) (F : ∃ fd, FunD K "_law_place_right" "_law_place_right" (defArgs st__law_place_right) (defBody st__law_place_right) (defScope st__law_place_right) [] [] (He.ga K "_law_place_right") fd) (hm : mg "_law_place_right" = some (.ref (He.ga K "_law_place_right"))) (hk : KnOk gb P w K mg base 3 kn__law_place_right) : Ok1 gb P w K mg base "_law_place_right" 1 fn__law_place_right 4 :=
  mkOk lw F hm bd__law_place_right sc__law_place_right hk fun X am => body__law_place_right am

/-! ### law -/
abbrev st_law : Stmt := top 23
abbrev N_law : List Str := ["_law_script", "_law_spot", "_law_boxes", "_law_words", "_law_at", "_law_left", "_law_low", "_law_right", "_law_high", "_law_side_here", "_law_due", "_law_handed", "_law_told", "_law_found", "_law_k"]
noncomputable def lb_law_1 : EvS :=
  evSeq (evIf (evOp1 notD (evCall 2 fn__law_whole_ones (evCons true (evSub true (evVar 13) (evVar 14)) (evCons true (evSub true (evVar 2) (evVar 14)) (evNil)))))
 (evSeq (evRet (evC (.bl false)))
    (evPass))
 (evPass))
    (evPass)
theorem lb_law_1_q {ρ : PV.Env} : lb_law_1 ρ = (evSeq (evIf (evOp1 notD (evCall 2 fn__law_whole_ones (evCons true (evSub true (evVar 13) (evVar 14)) (evCons true (evSub true (evVar 2) (evVar 14)) (evNil)))))
 (evSeq (evRet (evC (.bl false)))
    (evPass))
 (evPass))
    (evPass)) ρ := rfl
noncomputable def lb_law_2 : EvS :=
  evSeq (evSet false 5 (evCall 1 fn__law_side (evCons true (evOp2 (bop .fdiv) true (evCall 2 fn__law_cell (evCons true (evVar 0) (evCons true (evVar 4) (evNil)))) (evC (.int 3))) (evNil))))
    (evSeq (evSet false 6 (evCall 1 fn__law_side (evCons true (evOp2 (bop .fdiv) true (evCall 2 fn__law_cell (evCons true (evVar 0) (evCons true (evAdd true (evVar 4) (evC (.int 1))) (evNil)))) (evC (.int 3))) (evNil))))
    (evSeq (evSet false 7 (evAdd true (evVar 5) (evCall 1 fn__law_size (evCons true (evOp2 (bop .fdiv) true (evCall 2 fn__law_cell (evCons true (evVar 0) (evCons true (evVar 4) (evNil)))) (evC (.int 7))) (evNil)))))
    (evSeq (evSet false 8 (evAdd true (evVar 6) (evCall 1 fn__law_size (evCons true (evOp2 (bop .fdiv) true (evCall 2 fn__law_cell (evCons true (evVar 0) (evCons true (evAdd true (evVar 4) (evC (.int 1))) (evNil)))) (evC (.int 7))) (evNil)))))
    (evSeq (evApp 2 (evTup (evCons true (evVar 5) (evCons true (evVar 6) (evCons true (evVar 7) (evCons true (evVar 8) (evNil)))))))
    (evSeq (evApp 3 (evJoin (evC (.str ",")) (evLc (.one 9) [9] (evIter (evSub true (evVar 2) (evOp1 nop (evC (.int 1))))) none (evCall 1 fn__law_figures (evCons true (evVar 9) (evNil))))))
    (evPass))))))
theorem lb_law_2_q {ρ : PV.Env} : lb_law_2 ρ = (evSeq (evSet false 5 (evCall 1 fn__law_side (evCons true (evOp2 (bop .fdiv) true (evCall 2 fn__law_cell (evCons true (evVar 0) (evCons true (evVar 4) (evNil)))) (evC (.int 3))) (evNil))))
    (evSeq (evSet false 6 (evCall 1 fn__law_side (evCons true (evOp2 (bop .fdiv) true (evCall 2 fn__law_cell (evCons true (evVar 0) (evCons true (evAdd true (evVar 4) (evC (.int 1))) (evNil)))) (evC (.int 3))) (evNil))))
    (evSeq (evSet false 7 (evAdd true (evVar 5) (evCall 1 fn__law_size (evCons true (evOp2 (bop .fdiv) true (evCall 2 fn__law_cell (evCons true (evVar 0) (evCons true (evVar 4) (evNil)))) (evC (.int 7))) (evNil)))))
    (evSeq (evSet false 8 (evAdd true (evVar 6) (evCall 1 fn__law_size (evCons true (evOp2 (bop .fdiv) true (evCall 2 fn__law_cell (evCons true (evVar 0) (evCons true (evAdd true (evVar 4) (evC (.int 1))) (evNil)))) (evC (.int 7))) (evNil)))))
    (evSeq (evApp 2 (evTup (evCons true (evVar 5) (evCons true (evVar 6) (evCons true (evVar 7) (evCons true (evVar 8) (evNil)))))))
    (evSeq (evApp 3 (evJoin (evC (.str ",")) (evLc (.one 9) [9] (evIter (evSub true (evVar 2) (evOp1 nop (evC (.int 1))))) none (evCall 1 fn__law_figures (evCons true (evVar 9) (evNil))))))
    (evPass))))))) ρ := rfl
noncomputable def ev_law : EvS :=
  evSeq (evSet false 1 (evTup (evCons true (evCall 1 fn__law_side (evCons true (evCall 2 fn__law_cell (evCons true (evVar 0) (evCons true (evC (.int 0)) (evNil)))) (evNil))) (evCons true (evCall 1 fn__law_side (evCons true (evCall 2 fn__law_cell (evCons true (evVar 0) (evCons true (evC (.int 1)) (evNil)))) (evNil))) (evNil)))))
    (evSeq (evIf (evOp1 notD (evCall 1 fn__law_place_right (evCons true (evVar 1) (evNil))))
 (evSeq (evRet (evC (.bl false)))
    (evPass))
 (evPass))
    (evSeq (evSet true 2 (evLst (evNil)))
    (evSeq (evSet true 3 (evLst (evNil)))
    (evSeq (evFor (.one 4) (evRng3 (evCons true (evC (.int 2)) (evCons true (evBi (bf .max) (evCons true (evC (.int 4)) (evCons true (evBi (bf .min) (evCons true (evBi (bf .len) (evCons true (evVar 0) (evNil))) (evCons true (evC (.int 62)) (evNil)))) (evNil)))) (evCons true (evC (.int 2)) (evNil)))))
 (lb_law_2))
    (evSeq (evSet false 10 (evJoin (evC (.str "+")) (evVar 3)))
    (evSeq (evSet false 11 (evList (evVar 2)))
    (evSeq (evSet false 12 (evCall 1 fn_show_body (evCons true (evVar 11) (evNil))))
    (evSeq (evIf (evOr (evOp2 (cop' .ne) true (evVar 11) (evVar 2)) (evOr (evOp1 notD (evIsa gb.cs (.ty .str) (evVar 12))) (evOp2 (cop' .ne) true (evVar 12) (evVar 10))))
 (evSeq (evRet (evC (.bl false)))
    (evPass))
 (evPass))
    (evSeq (evSet false 13 (evCall 1 fn_read_body (evCons true (evVar 10) (evNil))))
    (evSeq (evIf (evOr (evOp1 notD (evIsa gb.cs (.ty .list) (evVar 13))) (evOp2 (cop' .ne) true (evBi (bf .len) (evCons true (evVar 13) (evNil))) (evBi (bf .len) (evCons true (evVar 2) (evNil)))))
 (evSeq (evRet (evC (.bl false)))
    (evPass))
 (evPass))
    (evSeq (evFor (.one 14) (evRng1 (evCons true (evBi (bf .len) (evCons true (evVar 2) (evNil))) (evNil)))
 (lb_law_1))
    (evSeq (evRet (evC (.bl true)))
    (evPass)))))))))))))
noncomputable def fn_law : Fn := fnD 1 15 ev_law
noncomputable def kn_law : Kn := [("_law_whole_ones", 2, fn__law_whole_ones), ("read_body", 1, fn_read_body), ("show_body", 1, fn_show_body), ("_law_figures", 1, fn__law_figures), ("_law_size", 1, fn__law_size), ("_law_cell", 2, fn__law_cell), ("_law_side", 1, fn__law_side), ("_law_place_right", 1, fn__law_place_right)]
theorem body_law {X : Cx} (am : AmF gb kn_law (defScope st_law) N_law X) : SSs (kxOf X.K gb.cs) X (defBody st_law) ev_law := by
  have v2 := am.v (i := 2) (x := "_law_boxes") (by decide +kernel)
  have g_len := (by decide +kernel : isGlo (defScope st_law) "len" = true)
  have g_range := (by decide +kernel : isGlo (defScope st_law) "range" = true)
  have l14 := (by decide +kernel : isSt (defScope st_law) (defScope st_law) N_law 14 "_law_k" = true)
  have v14 := am.v (i := 14) (x := "_law_k") (by decide +kernel)
  have v13 := am.v (i := 13) (x := "_law_found") (by decide +kernel)
  have g__law_whole_ones := (by decide +kernel : isGlo (defScope st_law) "_law_whole_ones" = true)
  have g_list := (by decide +kernel : isGlo (defScope st_law) "list" = true)
  have g_isinstance := (by decide +kernel : isGlo (defScope st_law) "isinstance" = true)
  have l13 := (by decide +kernel : isSt (defScope st_law) (defScope st_law) N_law 13 "_law_found" = true)
  have v10 := am.v (i := 10) (x := "_law_due") (by decide +kernel)
  have g_read_body := (by decide +kernel : isGlo (defScope st_law) "read_body" = true)
  have v11 := am.v (i := 11) (x := "_law_handed") (by decide +kernel)
  have v12 := am.v (i := 12) (x := "_law_told") (by decide +kernel)
  have g_str := (by decide +kernel : isGlo (defScope st_law) "str" = true)
  have l12 := (by decide +kernel : isSt (defScope st_law) (defScope st_law) N_law 12 "_law_told" = true)
  have g_show_body := (by decide +kernel : isGlo (defScope st_law) "show_body" = true)
  have l11 := (by decide +kernel : isSt (defScope st_law) (defScope st_law) N_law 11 "_law_handed" = true)
  have l10 := (by decide +kernel : isSt (defScope st_law) (defScope st_law) N_law 10 "_law_due" = true)
  have v3 := am.v (i := 3) (x := "_law_words") (by decide +kernel)
  have v0 := am.v (i := 0) (x := "_law_script") (by decide +kernel)
  have g_min := (by decide +kernel : isGlo (defScope st_law) "min" = true)
  have g_max := (by decide +kernel : isGlo (defScope st_law) "max" = true)
  have l4 := (by decide +kernel : isSt (defScope st_law) (defScope st_law) N_law 4 "_law_at" = true)
  have v8 := am.v (i := 8) (x := "_law_high") (by decide +kernel)
  have v7 := am.v (i := 7) (x := "_law_right") (by decide +kernel)
  have v6 := am.v (i := 6) (x := "_law_low") (by decide +kernel)
  have v5 := am.v (i := 5) (x := "_law_left") (by decide +kernel)
  have l8 := (by decide +kernel : isSt (defScope st_law) (defScope st_law) N_law 8 "_law_high" = true)
  have v4 := am.v (i := 4) (x := "_law_at") (by decide +kernel)
  have g__law_cell := (by decide +kernel : isGlo (defScope st_law) "_law_cell" = true)
  have g__law_size := (by decide +kernel : isGlo (defScope st_law) "_law_size" = true)
  have l7 := (by decide +kernel : isSt (defScope st_law) (defScope st_law) N_law 7 "_law_right" = true)
  have l6 := (by decide +kernel : isSt (defScope st_law) (defScope st_law) N_law 6 "_law_low" = true)
  have g__law_side := (by decide +kernel : isGlo (defScope st_law) "_law_side" = true)
  have l5 := (by decide +kernel : isSt (defScope st_law) (defScope st_law) N_law 5 "_law_left" = true)
  have l3 := (by decide +kernel : isSt (defScope st_law) (defScope st_law) N_law 3 "_law_words" = true)
  have l2 := (by decide +kernel : isSt (defScope st_law) (defScope st_law) N_law 2 "_law_boxes" = true)
  have v1 := am.v (i := 1) (x := "_law_spot") (by decide +kernel)
  have g__law_place_right := (by decide +kernel : isGlo (defScope st_law) "_law_place_right" = true)
  have l1 := (by decide +kernel : isSt (defScope st_law) (defScope st_law) N_law 1 "_law_spot" = true)
  exact SSs.cons (am.put (own := false) l1 rfl (SE.tup (SA.cons rfl (am.call rfl 6 rfl g__law_side rfl (SA.cons rfl (am.call rfl 5 rfl g__law_cell rfl (SA.cons rfl (SE.var (v0 _)) (SA.cons rfl (SE.int) (SA.nil)))) (SA.nil))) (SA.cons rfl (am.call rfl 6 rfl g__law_side rfl (SA.cons rfl (am.call rfl 5 rfl g__law_cell rfl (SA.cons rfl (SE.var (v0 _)) (SA.cons rfl (SE.int) (SA.nil)))) (SA.nil))) (SA.nil)))))
    (SSs.cons (SS.ite (ST.not (SE.test (am.call rfl 7 rfl g__law_place_right rfl (SA.cons rfl (SE.var (v1 _)) (SA.nil))) (fun _ => rfl)))
 (SSs.cons (SS.ret (SE.bl))
    (SSs.nil))
 (SSs.nil))
    (SSs.cons (am.put (own := true) l2 rfl (SE.lst (SA.nil)))
    (SSs.cons (am.put (own := true) l3 rfl (SE.lst (SA.nil)))
    (SSs.cons (am.for_ (tg := .one 4) rfl rfl (am.range3 g_range 8 rfl rfl (SA.cons rfl (SE.int) (SA.cons rfl (am.bf rfl .max g_max 6 rfl rfl (SA.cons rfl (SE.int) (SA.cons rfl (am.bf rfl .min g_min 7 rfl rfl (SA.cons rfl (am.bf rfl .len g_len 4 rfl rfl (SA.cons rfl (SE.var (v0 _)) (SA.nil))) (SA.cons rfl (SE.int) (SA.nil)))) (SA.nil)))) (SA.cons rfl (SE.int) (SA.nil))))) (am.t l4 _)
 (SSs.cons (am.put (own := false) l5 rfl (am.call rfl 6 rfl g__law_side rfl (SA.cons rfl (SE.bin .fdiv (am.call rfl 5 rfl g__law_cell rfl (SA.cons rfl (SE.var (v0 _)) (SA.cons rfl (SE.var (v4 _)) (SA.nil)))) (SE.int)) (SA.nil))))
    (SSs.cons (am.put (own := false) l6 rfl (am.call rfl 6 rfl g__law_side rfl (SA.cons rfl (SE.bin .fdiv (am.call rfl 5 rfl g__law_cell rfl (SA.cons rfl (SE.var (v0 _)) (SA.cons rfl (SE.add (SE.var (v4 _)) (SE.int)) (SA.nil)))) (SE.int)) (SA.nil))))
    (SSs.cons (am.put (own := false) l7 rfl (SE.add (SE.var (v5 _)) (am.call rfl 4 rfl g__law_size rfl (SA.cons rfl (SE.bin .fdiv (am.call rfl 5 rfl g__law_cell rfl (SA.cons rfl (SE.var (v0 _)) (SA.cons rfl (SE.var (v4 _)) (SA.nil)))) (SE.int)) (SA.nil)))))
    (SSs.cons (am.put (own := false) l8 rfl (SE.add (SE.var (v6 _)) (am.call rfl 4 rfl g__law_size rfl (SA.cons rfl (SE.bin .fdiv (am.call rfl 5 rfl g__law_cell rfl (SA.cons rfl (SE.var (v0 _)) (SA.cons rfl (SE.add (SE.var (v4 _)) (SE.int)) (SA.nil)))) (SE.int)) (SA.nil)))))
    (SSs.cons (SS.app (v2 _) rfl rfl (SE.tup (SA.cons rfl (SE.var (v5 _)) (SA.cons rfl (SE.var (v6 _)) (SA.cons rfl (SE.var (v7 _)) (SA.cons rfl (SE.var (v8 _)) (SA.nil)))))))
    (SSs.cons (SS.app (v3 _) rfl rfl (SE.join rfl rfl rfl rfl (SE.str) (am.lc [("_law_side_here", 9)] (by decide +kernel) (by decide) rfl (SI.seq rfl (SE.sub rfl am.au rfl (SE.var (v2 _)) (SE.neg (SE.int)))) (fun Xam6 am6 hK6 => by (rw [← hK6]; exact ⟨am6.t (by decide +kernel) _, SF.nil, am6.call rfl 3 rfl (by decide +kernel) rfl (SA.cons rfl (SE.var (am6.v (i := 9) (by decide +kernel) _)) (SA.nil))⟩)))))
    (SSs.nil))))))))
    (SSs.cons (am.put (own := false) l10 rfl (SE.join rfl rfl rfl rfl (SE.str) (SE.var (v3 _))))
    (SSs.cons (am.put (own := false) l11 rfl (am.list rfl g_list 5 rfl rfl (SE.var (v2 _))))
    (SSs.cons (am.put (own := false) l12 rfl (am.call rfl 2 rfl g_show_body rfl (SA.cons rfl (SE.var (v11 _)) (SA.nil))))
    (SSs.cons (SS.ite (SW.st (SW.or (ST.cmp rfl am.au .ne rfl (SE.var (v11 _)) (SE.var (v2 _))) (SW.or (ST.not (SE.test (am.isa g_isinstance 3 rfl (am.clT .str 9 rfl g_str (by decide +kernel)) rfl (SE.var (v12 _))) (fun _ => rfl))) (SW.or1 (ST.cmp rfl am.au .ne rfl (SE.var (v12 _)) (SE.var (v10 _)))))))
 (SSs.cons (SS.ret (SE.bl))
    (SSs.nil))
 (SSs.nil))
    (SSs.cons (am.put (own := false) l13 rfl (am.call rfl 1 rfl g_read_body rfl (SA.cons rfl (SE.var (v10 _)) (SA.nil))))
    (SSs.cons (SS.ite (SW.st (SW.or (ST.not (SE.test (am.isa g_isinstance 3 rfl (am.clT .list 5 rfl g_list (by decide +kernel)) rfl (SE.var (v13 _))) (fun _ => rfl))) (SW.or1 (ST.cmp rfl am.au .ne rfl (am.bf rfl .len g_len 4 rfl rfl (SA.cons rfl (SE.var (v13 _)) (SA.nil))) (am.bf rfl .len g_len 4 rfl rfl (SA.cons rfl (SE.var (v2 _)) (SA.nil)))))))
 (SSs.cons (SS.ret (SE.bl))
    (SSs.nil))
 (SSs.nil))
    (SSs.cons (am.for_ (tg := .one 14) rfl rfl (am.range1 g_range 8 rfl rfl (SA.cons rfl (am.bf rfl .len g_len 4 rfl rfl (SA.cons rfl (SE.var (v2 _)) (SA.nil))) (SA.nil))) (am.t l14 _)
 (SSs.cons (SS.ite (ST.not (SE.test (am.call rfl 0 rfl g__law_whole_ones rfl (SA.cons rfl (SE.sub rfl am.au rfl (SE.var (v13 _)) (SE.var (v14 _))) (SA.cons rfl (SE.sub rfl am.au rfl (SE.var (v2 _)) (SE.var (v14 _))) (SA.nil)))) (fun _ => rfl)))
 (SSs.cons (SS.ret (SE.bl))
    (SSs.nil))
 (SSs.nil))
    (SSs.nil)))
    (SSs.cons (SS.ret (SE.bl))
    (SSs.nil)))))))))))))
theorem sc_law : FnScope N_law ["_law_script"] (defScope st_law) := ⟨rfl, rfl, rfl, by decide +kernel, rfl, by decide +kernel, by decide +kernel⟩
theorem bd_law : BindOk "law" "law" (defArgs st_law) (defBody st_law) (defScope st_law) ["_law_script"] := fun _ _ _ _ _ _ us hl => match us, hl with | [_], _ => rfl
def d_law : He.DefD := ⟨("law", none), "law", "law", defArgs st_law, defBody st_law, defScope st_law, [], []⟩
theorem ok_law {P : Program} {w : World} {K : PySem.W.Frag} {mg : Str → Option Value} {base : Heap} (lw : Lw gb K mg) (F : ∃ fd, FunD K "law" "law" (defArgs st_law) (defBody st_law) (defScope st_law) [] [] (He.ga K "law") fd) (hm : mg "law" = some (.ref (He.ga K "law"))) (hk : KnOk gb P w K mg base 4 kn_law) : Ok1 gb P w K mg base "law" 1 fn_law 5 :=
  mkOk lw F hm bd_law sc_law hk fun X am => body_law am

/-! ### the end -/
def fns : List He.DefD := [d_box, d_read_number, d_read_numbers, d_read_place, d_read_body, d_show_place, d_show_box, d_show_body, d__law_cell, d__law_whole, d__law_side, d__law_size, d__law_figures, d__law_whole_ones, d__law_place_right, d_law]
def fs : List Str := ["box", "read_number", "read_numbers", "read_place", "read_body", "show_place", "show_box", "show_body", "_law_cell", "_law_whole", "_law_side", "_law_size", "_law_figures", "_law_whole_ones", "_law_place_right", "law"]
theorem all_ok {P : Program} {w : World} {K : PySem.W.Frag} {h : Heap} {mg : Str → Option Value} (X : K.In h) (G : h.Ns mainGlobals mg) (hc : csB K gb.cs = true) (c : He.SaysD (faOf gb fs) fns K) (fd : FuncData) (FL : FunD K "law" "law" (defArgs st_law) (defBody st_law) (defScope st_law) [] [] (He.ga K "law") fd) (base : Heap) :
    FnOk P w K mg base (L2.CX P w) 5 (He.ga K "law") fd ["_law_script"] (spF (kxOf K gb.cs) 1 fn_law) := by
  have lw := mkLw X G hc c
  have o_box := ok_box (P := P) (w := w) (base := base) lw (c.def_ 0 (d := d_box) rfl) (glo_mem X G c 0 (x := "box") rfl) trivial
  have o_read_number := ok_read_number (P := P) (w := w) (base := base) lw (c.def_ 1 (d := d_read_number) rfl) (glo_mem X G c 1 (x := "read_number") rfl) trivial
  have o_read_numbers := ok_read_numbers (P := P) (w := w) (base := base) lw (c.def_ 2 (d := d_read_numbers) rfl) (glo_mem X G c 2 (x := "read_numbers") rfl) ⟨⟨_, by decide, o_read_number⟩, trivial⟩
  have o_read_place := ok_read_place (P := P) (w := w) (base := base) lw (c.def_ 3 (d := d_read_place) rfl) (glo_mem X G c 3 (x := "read_place") rfl) ⟨⟨_, by decide, o_read_numbers⟩, trivial⟩
  have o_read_body := ok_read_body (P := P) (w := w) (base := base) lw (c.def_ 4 (d := d_read_body) rfl) (glo_mem X G c 4 (x := "read_body") rfl) ⟨⟨_, by decide, o_box⟩, ⟨⟨_, by decide, o_read_numbers⟩, trivial⟩⟩
  have o_show_place := ok_show_place (P := P) (w := w) (base := base) lw (c.def_ 5 (d := d_show_place) rfl) (glo_mem X G c 5 (x := "show_place") rfl) trivial
  have o_show_box := ok_show_box (P := P) (w := w) (base := base) lw (c.def_ 6 (d := d_show_box) rfl) (glo_mem X G c 6 (x := "show_box") rfl) trivial
  have o_show_body := ok_show_body (P := P) (w := w) (base := base) lw (c.def_ 7 (d := d_show_body) rfl) (glo_mem X G c 7 (x := "show_body") rfl) ⟨⟨_, by decide, o_show_box⟩, trivial⟩
  have o__law_cell := ok__law_cell (P := P) (w := w) (base := base) lw (c.def_ 8 (d := d__law_cell) rfl) (glo_mem X G c 8 (x := "_law_cell") rfl) trivial
  have o__law_whole := ok__law_whole (P := P) (w := w) (base := base) lw (c.def_ 9 (d := d__law_whole) rfl) (glo_mem X G c 9 (x := "_law_whole") rfl) trivial
  have o__law_side := ok__law_side (P := P) (w := w) (base := base) lw (c.def_ 10 (d := d__law_side) rfl) (glo_mem X G c 10 (x := "_law_side") rfl) trivial
  have o__law_size := ok__law_size (P := P) (w := w) (base := base) lw (c.def_ 11 (d := d__law_size) rfl) (glo_mem X G c 11 (x := "_law_size") rfl) trivial
  have o__law_figures := ok__law_figures (P := P) (w := w) (base := base) lw (c.def_ 12 (d := d__law_figures) rfl) (glo_mem X G c 12 (x := "_law_figures") rfl) trivial
  have o__law_whole_ones := ok__law_whole_ones (P := P) (w := w) (base := base) lw (c.def_ 13 (d := d__law_whole_ones) rfl) (glo_mem X G c 13 (x := "_law_whole_ones") rfl) ⟨⟨_, by decide, o__law_whole⟩, trivial⟩
  have o__law_place_right := ok__law_place_right (P := P) (w := w) (base := base) lw (c.def_ 14 (d := d__law_place_right) rfl) (glo_mem X G c 14 (x := "_law_place_right") rfl) ⟨⟨_, by decide, o__law_whole_ones⟩, ⟨⟨_, by decide, o_read_place⟩, ⟨⟨_, by decide, o_show_place⟩, ⟨⟨_, by decide, o__law_figures⟩, trivial⟩⟩⟩⟩
  exact mkFn lw FL sc_law (kn := kn_law) ⟨⟨_, by decide, o__law_whole_ones⟩, ⟨⟨_, by decide, o_read_body⟩, ⟨⟨_, by decide, o_show_body⟩, ⟨⟨_, by decide, o__law_figures⟩, ⟨⟨_, by decide, o__law_size⟩, ⟨⟨_, by decide, o__law_cell⟩, ⟨⟨_, by decide, o__law_side⟩, ⟨⟨_, by decide, o__law_place_right⟩, trivial⟩⟩⟩⟩⟩⟩⟩⟩ fun X am => body_law am
abbrev R : PySem.W.OpenRow := PySem.W.OpenLaw.row PySem.Challenge.rw_haulway_k75_places_and_bodies
abbrev hk : PySem.W.Hook := hookX 5 gb.cs (faOf gb fs) fns
def ob (s : PySem.W.SharedT) : Bool × He.AlD := obsXG 5 gb.cs (faOf gb fs) fns (HandSHeadRun.getT s)
theorem ob_eq (s : PySem.W.SharedT) : ob s = hk.obs s.abs := obsXG_eq (HandSHeadRun.getT_eq s)
def names0 : List Str := ["HaulError", "NoBox", "NoText", "FIGURES", "box", "read_number", "read_numbers", "read_place", "read_body", "show_place", "show_box", "show_body", "_law_cell", "_law_whole", "_law_side", "_law_size", "_law_figures", "_law_whole_ones", "_law_place_right"]
def names : List Str := names0
theorem topRun (w : World) : HandSHeadRun.RunEq R (PySem.W.view R.prog [23]) hk ob 6000 names w := by
  intro os
  kernel_rfl
end K75
open PySem PySem.W PySem.Calls PyProof.Rows
theorem law_of (good : ∀ ns : List Int, ns.length ≤ 63 → PV.Good K75.fn_law ns) : PySem.Challenge.rw_haulway_k75_places_and_bodies.Holds := by
  w_on; o_law
  refine HandSHeadRun.head_any (r := OpenLaw.row PySem.Challenge.rw_haulway_k75_places_and_bodies) (q := view (OpenLaw.row PySem.Challenge.rw_haulway_k75_places_and_bodies).prog [23]) (H := K75.hk) (ob := K75.ob) (M := 6000) (loose := K75.names) (d := HandSHeadRun.topDef (OpenLaw.row PySem.Challenge.rw_haulway_k75_places_and_bodies).prog 23) (kwd := []) K75.ob_eq
    (by kernel_rfl) (fun s => by kernel_rfl) K75.topRun (by kernel_rfl) (by kernel_rfl) (by kernel_rfl) (by rfl) (by first | assumption | decide +kernel) (by decide +kernel) ⟨rfl, rfl, rfl, rfl, rfl, by decide +kernel⟩ ?hw ?hc
  case hw => w_witness2
  case hc =>
    refine L2.walk_ofE (l := PySem.Challenge.rw_haulway_k75_places_and_bodies) (n := 63) (k := 5) (x := "_law_script") (CX := L2.CX0) rfl (by decide) (by kernel_rfl) ⟨rfl, by decide, by decide⟩ ?F (fun _ _ _ _ z => z)
    intro w mg fa h Y G hmg0
    obtain ⟨K, KX, hc, c⟩ := Y
    have hmg : mg ("law" : PySem.Str) = some (.ref fa) := by
      have e : (HandSHeadRun.topDef (OpenLaw.row PySem.Challenge.rw_haulway_k75_places_and_bodies).prog 23).name = ("law" : PySem.Str) := by kernel_rfl
      rw [← e]
      exact hmg0
    obtain ⟨fd, F⟩ := c.def_ 15 (d := K75.d_law) rfl
    have e := hmg.symm.trans (PV.glo_mem KX G c 15 (x := "law") rfl)
    cases e
    have bb := L2.FunD.bindsA (ps := ["_law_script"]) F K75.bd_law
    exact ⟨K, fd, fun vs H Q _ => PV.spF (PV.kxOf K K75.gb.cs) 1 K75.fn_law vs H Q fun _ _ _ => False, KX, fun s v => bb s [v] rfl, fun H a ns hl _ hS => PV.sp_law hS (good ns hl), fun base _ _ => PV.fn_noX (K75.all_ok KX G hc c fd F base)⟩


namespace K75
open PySem PySem.Spec PyProof.Rows L2 PV
theorem cell_run (ns : List Int) (k : Nat) (hk : k < 64) : ∃ c : Int, 0 ≤ c ∧ c < 10 ^ 60 ∧ run fn__law_cell [.klst (ns.map .int), .int k] = some (.ret (.ro .loc (.int c))) := by
  have s1 : small (k : Int) = true := small_of (by omega) (by omega)
  have m1 : small 104729 = true := by decide
  have m2 : small 7919 = true := by decide
  have m3 : small 48271 = true := by decide
  have p1 : bop .pow (.int 10) (.int 60) = some (.int (10 ^ 60)) := pow_ok (by decide) (by decide) (by decide)
  have q1 : ∀ x : Int, bop .mod (.int x) (.int (10 ^ 60)) = some (.int (x % 10 ^ 60)) := fun x => mod_ok (by decide)
  have q2 : ∀ x : Int, bop .mod (.int x) (.int 2147483647) = some (.int (x % 2147483647)) := fun x => mod_ok (by decide)
  have r1 : ∀ x : Int, 0 ≤ x % 10 ^ 60 ∧ x % 10 ^ 60 < 10 ^ 60 := fun x => ⟨Int.emod_nonneg _ (by decide), Int.emod_lt_of_pos _ (by decide)⟩
  unfold fn__law_cell
  rw [run_fnD]
  by_cases h : (k : Int) < (ns.length : Int)
  · have e : atI (ns.map D.int) (k : Int) = some (.int (ns[k]'(by omega))) := at_get (by omega) (by simp)
    refine ⟨(ns[k]'(by omega)) % 10 ^ 60, (r1 _).1, (r1 _).2, ?_⟩
    simp -implicitDefEqProofs only [retD_some, retD_none, retV_some, retV_none, bnd_ok, bnd_none, bnd_exc, d_ro, d_tmp, d_bor, evC_eq, evVar_eq, rdV_lc, rdV_oc, evOp2_eq, k2a_eq, k2b_ro, k2b_tmp, k2b_bor, evOp1_eq, k1_eq, evAdd_eq, kaa_eq, kab_ro, kab_tmp, kab_bor, addV_int, addV_str, evChain_eq, kca_eq, kcb_ro, kcc_some, kcd_eq, cop'_eq, evAnd_eq, evOr_eq, kAnd_eq, kOr_eq, notD_eq, evNil_eq, evCons_eq, kCons_eq, kCons2_ro, kCons2_tmp, kCons2_bor, evTup_eq, kTup_eq, tupR_some, evLst_eq, kLst_eq, evSub_eq, ksa_eq, ksb_ro, ksb_tmp, ksb_bor, evSlc_eq, kla_eq, klb_eq, klc_eq, evNo_eq, evInt_eq, kInt_eq, evBi_eq, kBi_eq, evIsa_eq, evIsaT_eq, kIsa_eq, kIsaT_eq, evNew_eq, evCall_eq, kCall_eq, kRet_ret, kRet_exc, bkV_loc, bkV_tmp, bkV_int, bkV_str, bkV_bl, bkV_non, evSeq_eq, bndS_next, bndS_ret, bndS_exc, bndS_none, evPass_eq, bndE_ok, bndE_exc, bndE_none, evExpr_eq, kExpr_eq, evRet_eq, kRetS_eq, evRetN_eq, evIf_eq, kIf_eq, evSet_eq, kSet_eq, setR_some, cellOf_ro, cellOf_tmpF, cellOf_tmpT, effG_loc, effG_int, effG_str, effG_bl, effG_non, evFor_eq, bndI_ok, bndI_exc, kFor_eq, forD_nil, evIter_eq, kIter_str, evRng1_eq, evRng2_eq, kRng1_eq, kRng2_eq, evRaise_eq, evTryAs_eq, kTry_next, kTry_exc, evApp_eq, appR_oc, kApp_eq, mutR_oc, outS_next, outS_ret, outS_exc, fnR_ro, fnR_tmp, roD_nil, roD_cons, List.getElem?_cons_zero, List.getElem?_cons_succ, List.set_cons_zero, List.set_cons_succ, List.length_cons, List.length_nil, List.map_cons, List.map_nil, List.cons_append, List.nil_append, List.replicate_zero, List.replicate_succ, outS_none, evLc_eq, kLc_eq, evList_eq, evJoin_eq, kJoin_eq, evSplit_eq, kSplit_eq, kSplit2_eq, evRng3_eq, Nat.reduceLT, Nat.reduceAdd, Nat.reduceSub, if_true, if_false, Bool.false_eq_true, decide_true, decide_false, Bool.not_true, Bool.not_false, Bool.true_and, Bool.and_true, Bool.false_and, Bool.and_false, map_some', List.length_map, ev__law_cell, mul_l s1, mul_r m1, mul_r m2, bop_add, bf_lenK, cop_lt, List.length_map, map_some', decide_eq_true h, if_true, sub_klst, e, p1, q1, Nat.reduceLT, Nat.reduceAdd]
  · have e0 : ∀ (hn : 0 < (ns.length : Int)), ∃ y : Int, atI (ns.map D.int) ((k : Int) * k % ns.length) = some (.int y) := fun hn => by
      have h1 : 0 ≤ (k : Int) * k % ns.length := Int.emod_nonneg _ (by omega)
      have h2 : (k : Int) * k % ns.length < ns.length := Int.emod_lt_of_pos _ hn
      have h3 : ((k : Int) * k % ns.length).toNat < ns.length := by omega
      exact ⟨ns[((k : Int) * k % ns.length).toNat], at_get h1 (by rw [List.getElem?_map, List.getElem?_eq_getElem h3]; rfl)⟩
    by_cases hn : 0 < (ns.length : Int)
    · obtain ⟨y, e⟩ := e0 hn
      refine ⟨((k : Int) * k * 104729 + k * 7919 + 11 + y % 2147483647 * 48271) % 10 ^ 60, (r1 _).1, (r1 _).2, ?_⟩
      simp -implicitDefEqProofs only [retD_some, retD_none, retV_some, retV_none, bnd_ok, bnd_none, bnd_exc, d_ro, d_tmp, d_bor, evC_eq, evVar_eq, rdV_lc, rdV_oc, evOp2_eq, k2a_eq, k2b_ro, k2b_tmp, k2b_bor, evOp1_eq, k1_eq, evAdd_eq, kaa_eq, kab_ro, kab_tmp, kab_bor, addV_int, addV_str, evChain_eq, kca_eq, kcb_ro, kcc_some, kcd_eq, cop'_eq, evAnd_eq, evOr_eq, kAnd_eq, kOr_eq, notD_eq, evNil_eq, evCons_eq, kCons_eq, kCons2_ro, kCons2_tmp, kCons2_bor, evTup_eq, kTup_eq, tupR_some, evLst_eq, kLst_eq, evSub_eq, ksa_eq, ksb_ro, ksb_tmp, ksb_bor, evSlc_eq, kla_eq, klb_eq, klc_eq, evNo_eq, evInt_eq, kInt_eq, evBi_eq, kBi_eq, evIsa_eq, evIsaT_eq, kIsa_eq, kIsaT_eq, evNew_eq, evCall_eq, kCall_eq, kRet_ret, kRet_exc, bkV_loc, bkV_tmp, bkV_int, bkV_str, bkV_bl, bkV_non, evSeq_eq, bndS_next, bndS_ret, bndS_exc, bndS_none, evPass_eq, bndE_ok, bndE_exc, bndE_none, evExpr_eq, kExpr_eq, evRet_eq, kRetS_eq, evRetN_eq, evIf_eq, kIf_eq, evSet_eq, kSet_eq, setR_some, cellOf_ro, cellOf_tmpF, cellOf_tmpT, effG_loc, effG_int, effG_str, effG_bl, effG_non, evFor_eq, bndI_ok, bndI_exc, kFor_eq, forD_nil, evIter_eq, kIter_str, evRng1_eq, evRng2_eq, kRng1_eq, kRng2_eq, evRaise_eq, evTryAs_eq, kTry_next, kTry_exc, evApp_eq, appR_oc, kApp_eq, mutR_oc, outS_next, outS_ret, outS_exc, fnR_ro, fnR_tmp, roD_nil, roD_cons, List.getElem?_cons_zero, List.getElem?_cons_succ, List.set_cons_zero, List.set_cons_succ, List.length_cons, List.length_nil, List.map_cons, List.map_nil, List.cons_append, List.nil_append, List.replicate_zero, List.replicate_succ, outS_none, evLc_eq, kLc_eq, evList_eq, evJoin_eq, kJoin_eq, evSplit_eq, kSplit_eq, kSplit2_eq, evRng3_eq, Nat.reduceLT, Nat.reduceAdd, Nat.reduceSub, if_true, if_false, Bool.false_eq_true, decide_true, decide_false, Bool.not_true, Bool.not_false, Bool.true_and, Bool.and_true, Bool.false_and, Bool.and_false, map_some', List.length_map, ev__law_cell, mul_l s1, mul_r m1, mul_r m2, mul_r m3, bop_add, bf_lenK, cop_lt, cop_gt, List.length_map, map_some', decide_eq_false h, decide_eq_true hn, if_true, if_false, Bool.false_eq_true, sub_klst, mod_ok hn, e, p1, q1, q2, Nat.reduceLT, Nat.reduceAdd]
    · refine ⟨((k : Int) * k * 104729 + k * 7919 + 11) % 10 ^ 60, (r1 _).1, (r1 _).2, ?_⟩
      simp -implicitDefEqProofs only [retD_some, retD_none, retV_some, retV_none, bnd_ok, bnd_none, bnd_exc, d_ro, d_tmp, d_bor, evC_eq, evVar_eq, rdV_lc, rdV_oc, evOp2_eq, k2a_eq, k2b_ro, k2b_tmp, k2b_bor, evOp1_eq, k1_eq, evAdd_eq, kaa_eq, kab_ro, kab_tmp, kab_bor, addV_int, addV_str, evChain_eq, kca_eq, kcb_ro, kcc_some, kcd_eq, cop'_eq, evAnd_eq, evOr_eq, kAnd_eq, kOr_eq, notD_eq, evNil_eq, evCons_eq, kCons_eq, kCons2_ro, kCons2_tmp, kCons2_bor, evTup_eq, kTup_eq, tupR_some, evLst_eq, kLst_eq, evSub_eq, ksa_eq, ksb_ro, ksb_tmp, ksb_bor, evSlc_eq, kla_eq, klb_eq, klc_eq, evNo_eq, evInt_eq, kInt_eq, evBi_eq, kBi_eq, evIsa_eq, evIsaT_eq, kIsa_eq, kIsaT_eq, evNew_eq, evCall_eq, kCall_eq, kRet_ret, kRet_exc, bkV_loc, bkV_tmp, bkV_int, bkV_str, bkV_bl, bkV_non, evSeq_eq, bndS_next, bndS_ret, bndS_exc, bndS_none, evPass_eq, bndE_ok, bndE_exc, bndE_none, evExpr_eq, kExpr_eq, evRet_eq, kRetS_eq, evRetN_eq, evIf_eq, kIf_eq, evSet_eq, kSet_eq, setR_some, cellOf_ro, cellOf_tmpF, cellOf_tmpT, effG_loc, effG_int, effG_str, effG_bl, effG_non, evFor_eq, bndI_ok, bndI_exc, kFor_eq, forD_nil, evIter_eq, kIter_str, evRng1_eq, evRng2_eq, kRng1_eq, kRng2_eq, evRaise_eq, evTryAs_eq, kTry_next, kTry_exc, evApp_eq, appR_oc, kApp_eq, mutR_oc, outS_next, outS_ret, outS_exc, fnR_ro, fnR_tmp, roD_nil, roD_cons, List.getElem?_cons_zero, List.getElem?_cons_succ, List.set_cons_zero, List.set_cons_succ, List.length_cons, List.length_nil, List.map_cons, List.map_nil, List.cons_append, List.nil_append, List.replicate_zero, List.replicate_succ, outS_none, evLc_eq, kLc_eq, evList_eq, evJoin_eq, kJoin_eq, evSplit_eq, kSplit_eq, kSplit2_eq, evRng3_eq, Nat.reduceLT, Nat.reduceAdd, Nat.reduceSub, if_true, if_false, Bool.false_eq_true, decide_true, decide_false, Bool.not_true, Bool.not_false, Bool.true_and, Bool.and_true, Bool.false_and, Bool.and_false, map_some', List.length_map, ev__law_cell, mul_l s1, mul_r m1, mul_r m2, mul_r m3, bop_add, bf_lenK, cop_lt, cop_gt, List.length_map, map_some', decide_eq_false h, decide_eq_false hn, if_true, if_false, Bool.false_eq_true, sub_klst, p1, q1, q2, Nat.reduceLT, Nat.reduceAdd]

/-! ### texts of figures -/
def isDig (c : Nat) : Bool := decide (48 ≤ c) && decide (c ≤ 57)
def fig (z : Str) : Str := if cutS z none (some 1) = ("-" : Str) then cutS z (some 1) none else z
theorem cut_le (z : Str) (lo hi : Option Int) : (cutS z lo hi).length ≤ z.length := by
  unfold cutS
  show (List.toArray _).size ≤ z.cps.size
  rw [List.size_toArray, List.length_take, List.length_drop, Array.length_toList]
  omega
theorem fig_le (z : Str) : (fig z).length ≤ z.length := by
  unfold fig
  split
  · exact cut_le _ _ _
  · exact Nat.le_refl _
theorem figs_mem (c : Nat) : decide (c ∈ ("0123456789" : Str).cps.toList) = isDig c := by
  have e : ("0123456789" : Str).cps.toList = [48, 49, 50, 51, 52, 53, 54, 55, 56, 57] := by decide +kernel
  rw [e]
  unfold isDig
  rw [Bool.eq_iff_iff]
  simp
  omega
theorem nin_one (c : Nat) : cop .nin (.str ⟨#[c]⟩) (.str "0123456789") = some (!isDig c) := by
  rw [← figs_mem]; rfl
theorem loopR : ∀ (cs : List Nat) (e0 e1 x : Option Cell), ∃ x', forD (.one 2) lb_read_number_1 .loc (cs.map fun c => .str ⟨#[c]⟩) [e0, e1, x] = if cs.all isDig = true then some (.next [e0, e1, x']) else some (.exc 2 [e0, e1, x'])
  | [], e0, e1, x => ⟨x, rfl⟩
  | c :: cs, e0, e1, x => by
    rw [List.map_cons, forD_cons1 (by simp)]
    cases h : isDig c with
    | true =>
      obtain ⟨x', ih⟩ := loopR cs e0 e1 (some (lcC .loc (.str ⟨#[c]⟩)))
      refine ⟨x', ?_⟩
      rw [List.all_cons, h, Bool.true_and, ← ih]
      simp -implicitDefEqProofs only [retD_some, retD_none, retV_some, retV_none, bnd_ok, bnd_none, bnd_exc, d_ro, d_tmp, d_bor, evC_eq, evVar_eq, rdV_lc, rdV_oc, evOp2_eq, k2a_eq, k2b_ro, k2b_tmp, k2b_bor, evOp1_eq, k1_eq, evAdd_eq, kaa_eq, kab_ro, kab_tmp, kab_bor, addV_int, addV_str, evChain_eq, kca_eq, kcb_ro, kcc_some, kcd_eq, cop'_eq, evAnd_eq, evOr_eq, kAnd_eq, kOr_eq, notD_eq, evNil_eq, evCons_eq, kCons_eq, kCons2_ro, kCons2_tmp, kCons2_bor, evTup_eq, kTup_eq, tupR_some, evLst_eq, kLst_eq, evSub_eq, ksa_eq, ksb_ro, ksb_tmp, ksb_bor, evSlc_eq, kla_eq, klb_eq, klc_eq, evNo_eq, evInt_eq, kInt_eq, evBi_eq, kBi_eq, evIsa_eq, evIsaT_eq, kIsa_eq, kIsaT_eq, evNew_eq, evCall_eq, kCall_eq, kRet_ret, kRet_exc, bkV_loc, bkV_tmp, bkV_int, bkV_str, bkV_bl, bkV_non, evSeq_eq, bndS_next, bndS_ret, bndS_exc, bndS_none, evPass_eq, bndE_ok, bndE_exc, bndE_none, evExpr_eq, kExpr_eq, evRet_eq, kRetS_eq, evRetN_eq, evIf_eq, kIf_eq, evSet_eq, kSet_eq, setR_some, cellOf_ro, cellOf_tmpF, cellOf_tmpT, effG_loc, effG_int, effG_str, effG_bl, effG_non, evFor_eq, bndI_ok, bndI_exc, kFor_eq, forD_nil, evIter_eq, kIter_str, evRng1_eq, evRng2_eq, kRng1_eq, kRng2_eq, evRaise_eq, evTryAs_eq, kTry_next, kTry_exc, evApp_eq, appR_oc, kApp_eq, mutR_oc, outS_next, outS_ret, outS_exc, fnR_ro, fnR_tmp, roD_nil, roD_cons, List.getElem?_cons_zero, List.getElem?_cons_succ, List.set_cons_zero, List.set_cons_succ, List.length_cons, List.length_nil, List.map_cons, List.map_nil, List.cons_append, List.nil_append, List.replicate_zero, List.replicate_succ, outS_none, evLc_eq, kLc_eq, evList_eq, evJoin_eq, kJoin_eq, evSplit_eq, kSplit_eq, kSplit2_eq, evRng3_eq, Nat.reduceLT, Nat.reduceAdd, Nat.reduceSub, if_true, if_false, Bool.false_eq_true, decide_true, decide_false, Bool.not_true, Bool.not_false, Bool.true_and, Bool.and_true, Bool.false_and, Bool.and_false, map_some', List.length_map, lb_read_number_1, nin_one, h]
    | false =>
      refine ⟨some (lcC .loc (.str ⟨#[c]⟩)), ?_⟩
      rw [List.all_cons, h, Bool.false_and]
      simp -implicitDefEqProofs only [retD_some, retD_none, retV_some, retV_none, bnd_ok, bnd_none, bnd_exc, d_ro, d_tmp, d_bor, evC_eq, evVar_eq, rdV_lc, rdV_oc, evOp2_eq, k2a_eq, k2b_ro, k2b_tmp, k2b_bor, evOp1_eq, k1_eq, evAdd_eq, kaa_eq, kab_ro, kab_tmp, kab_bor, addV_int, addV_str, evChain_eq, kca_eq, kcb_ro, kcc_some, kcd_eq, cop'_eq, evAnd_eq, evOr_eq, kAnd_eq, kOr_eq, notD_eq, evNil_eq, evCons_eq, kCons_eq, kCons2_ro, kCons2_tmp, kCons2_bor, evTup_eq, kTup_eq, tupR_some, evLst_eq, kLst_eq, evSub_eq, ksa_eq, ksb_ro, ksb_tmp, ksb_bor, evSlc_eq, kla_eq, klb_eq, klc_eq, evNo_eq, evInt_eq, kInt_eq, evBi_eq, kBi_eq, evIsa_eq, evIsaT_eq, kIsa_eq, kIsaT_eq, evNew_eq, evCall_eq, kCall_eq, kRet_ret, kRet_exc, bkV_loc, bkV_tmp, bkV_int, bkV_str, bkV_bl, bkV_non, evSeq_eq, bndS_next, bndS_ret, bndS_exc, bndS_none, evPass_eq, bndE_ok, bndE_exc, bndE_none, evExpr_eq, kExpr_eq, evRet_eq, kRetS_eq, evRetN_eq, evIf_eq, kIf_eq, evSet_eq, kSet_eq, setR_some, cellOf_ro, cellOf_tmpF, cellOf_tmpT, effG_loc, effG_int, effG_str, effG_bl, effG_non, evFor_eq, bndI_ok, bndI_exc, kFor_eq, forD_nil, evIter_eq, kIter_str, evRng1_eq, evRng2_eq, kRng1_eq, kRng2_eq, evRaise_eq, evTryAs_eq, kTry_next, kTry_exc, evApp_eq, appR_oc, kApp_eq, mutR_oc, outS_next, outS_ret, outS_exc, fnR_ro, fnR_tmp, roD_nil, roD_cons, List.getElem?_cons_zero, List.getElem?_cons_succ, List.set_cons_zero, List.set_cons_succ, List.length_cons, List.length_nil, List.map_cons, List.map_nil, List.cons_append, List.nil_append, List.replicate_zero, List.replicate_succ, outS_none, evLc_eq, kLc_eq, evList_eq, evJoin_eq, kJoin_eq, evSplit_eq, kSplit_eq, kSplit2_eq, evRng3_eq, Nat.reduceLT, Nat.reduceAdd, Nat.reduceSub, if_true, if_false, Bool.false_eq_true, decide_true, decide_false, Bool.not_true, Bool.not_false, Bool.true_and, Bool.and_true, Bool.false_and, Bool.and_false, map_some', List.length_map, lb_read_number_1, nin_one, h]
/-- nought ahead -/
def lead (z : Str) : Bool := decide ((fig z).cps.toList.head? = some 48) && !decide (z = ("0" : Str))
theorem okx (z : Str) : okX gb.cs (.str z) = true := rfl
theorem isa_s (z : Str) : isa gb.cs (.str z) (.ty .str) = some true := rfl
theorem at_zero (w : Str) (h : 1 ≤ w.length) : ∃ c, w.cps.toList.head? = some c ∧ atI w.cps.toList 0 = some c := by
  have hl : w.cps.toList.length = w.length := Array.length_toList
  cases e : w.cps.toList with
  | nil => rw [e] at hl; simp at hl; omega
  | cons c r => exact ⟨c, rfl, by rw [at_nn (by decide)]; rfl⟩
theorem one_eq (c : Nat) : decide ((⟨#[c]⟩ : Str) = ("0" : Str)) = decide (c = 48) := by
  have e : ("0" : Str) = ⟨#[48]⟩ := by decide +kernel
  rw [e]
  rw [Bool.eq_iff_iff]
  simp
def rd (z : Str) : Option Oc := if 1 ≤ (fig z).length ∧ (fig z).length ≤ 60 then
    if (fig z).cps.toList.all isDig = true then if lead z = true then some (.exc 2) else (PySem.intText? z).map fun n => .ret (.ro .loc (.int n)) else some (.exc 2)
  else some (.exc 2)
theorem read_run (z : Str) (hz : z.length ≤ 640) : run fn_read_number [.str z] = rd z := by
  have hl : z.length ≤ lim := Nat.le_trans hz (by decide)
  have hf := fig_le z
  have hl2 : (fig z).length ≤ lim := Nat.le_trans hf hl
  have hl3 : (cutS z (some 1) none).length ≤ lim := Nat.le_trans (cut_le _ _ _) hl
  unfold fn_read_number
  rw [run_fnD]
  obtain ⟨x', hloop⟩ := loopR (fig z).cps.toList (some (lcC .par (.str z))) (some (lcC .loc (.str (fig z)))) none
  have hch : chars (fig z) = (fig z).cps.toList.map fun c => .str ⟨#[c]⟩ := rfl
  have main : outS (ev_read_number (roD [.str z] ++ List.replicate (3 - 1) none)) = outS (evSeq (evIf (evOp1 notD (evChain .le .le true true (evC (.int 1)) (evBi (bf .len) (evCons true (evVar 1) (evNil))) (evC (.int 60)))) (evSeq (evRaise 2) (evPass)) (evPass)) (evSeq (evFor (.one 2) (evIter (evVar 1)) lb_read_number_1) (evSeq (evIf (evAnd (evOp2 (cop' .eq) true (evSub true (evVar 1) (evC (.int 0))) (evC (.str "0"))) (evOp2 (cop' .ne) true (evVar 0) (evC (.str "0")))) (evSeq (evRaise 2) (evPass)) (evPass)) (evSeq (evRet (evBi (bf .int) (evCons true (evVar 0) (evNil)))) (evPass)))) [some (lcC .par (.str z)), some (lcC .loc (.str (fig z))), none]) := by
    by_cases h : cutS z none (some 1) = ("-" : Str)
    · have e : cutS z (some 1) none = fig z := (if_pos h).symm
      simp -implicitDefEqProofs only [retD_some, retD_none, retV_some, retV_none, bnd_ok, bnd_none, bnd_exc, d_ro, d_tmp, d_bor, evC_eq, evVar_eq, rdV_lc, rdV_oc, evOp2_eq, k2a_eq, k2b_ro, k2b_tmp, k2b_bor, evOp1_eq, k1_eq, evAdd_eq, kaa_eq, kab_ro, kab_tmp, kab_bor, addV_int, addV_str, evChain_eq, kca_eq, kcb_ro, kcc_some, kcd_eq, cop'_eq, evAnd_eq, evOr_eq, kAnd_eq, kOr_eq, notD_eq, evNil_eq, evCons_eq, kCons_eq, kCons2_ro, kCons2_tmp, kCons2_bor, evTup_eq, kTup_eq, tupR_some, evLst_eq, kLst_eq, evSub_eq, ksa_eq, ksb_ro, ksb_tmp, ksb_bor, evSlc_eq, kla_eq, klb_eq, klc_eq, evNo_eq, evInt_eq, kInt_eq, evBi_eq, kBi_eq, evIsa_eq, evIsaT_eq, kIsa_eq, kIsaT_eq, evNew_eq, evCall_eq, kCall_eq, kRet_ret, kRet_exc, bkV_loc, bkV_tmp, bkV_int, bkV_str, bkV_bl, bkV_non, evSeq_eq, bndS_next, bndS_ret, bndS_exc, bndS_none, evPass_eq, bndE_ok, bndE_exc, bndE_none, evExpr_eq, kExpr_eq, evRet_eq, kRetS_eq, evRetN_eq, evIf_eq, kIf_eq, evSet_eq, kSet_eq, setR_some, cellOf_ro, cellOf_tmpF, cellOf_tmpT, effG_loc, effG_int, effG_str, effG_bl, effG_non, evFor_eq, bndI_ok, bndI_exc, kFor_eq, forD_nil, evIter_eq, kIter_str, evRng1_eq, evRng2_eq, kRng1_eq, kRng2_eq, evRaise_eq, evTryAs_eq, kTry_next, kTry_exc, evApp_eq, appR_oc, kApp_eq, mutR_oc, outS_next, outS_ret, outS_exc, fnR_ro, fnR_tmp, roD_nil, roD_cons, List.getElem?_cons_zero, List.getElem?_cons_succ, List.set_cons_zero, List.set_cons_succ, List.length_cons, List.length_nil, List.map_cons, List.map_nil, List.cons_append, List.nil_append, List.replicate_zero, List.replicate_succ, outS_none, evLc_eq, kLc_eq, evList_eq, evJoin_eq, kJoin_eq, evSplit_eq, kSplit_eq, kSplit2_eq, evRng3_eq, Nat.reduceLT, Nat.reduceAdd, Nat.reduceSub, if_true, if_false, Bool.false_eq_true, decide_true, decide_false, Bool.not_true, Bool.not_false, Bool.true_and, Bool.and_true, Bool.false_and, Bool.and_false, map_some', List.length_map, ev_read_number, okx, isa_s, PV.sl_str, if_pos hl, if_pos hl3, cop_eqS, decide_eq_true h, e]
    · have e : fig z = z := if_neg h
      simp -implicitDefEqProofs only [retD_some, retD_none, retV_some, retV_none, bnd_ok, bnd_none, bnd_exc, d_ro, d_tmp, d_bor, evC_eq, evVar_eq, rdV_lc, rdV_oc, evOp2_eq, k2a_eq, k2b_ro, k2b_tmp, k2b_bor, evOp1_eq, k1_eq, evAdd_eq, kaa_eq, kab_ro, kab_tmp, kab_bor, addV_int, addV_str, evChain_eq, kca_eq, kcb_ro, kcc_some, kcd_eq, cop'_eq, evAnd_eq, evOr_eq, kAnd_eq, kOr_eq, notD_eq, evNil_eq, evCons_eq, kCons_eq, kCons2_ro, kCons2_tmp, kCons2_bor, evTup_eq, kTup_eq, tupR_some, evLst_eq, kLst_eq, evSub_eq, ksa_eq, ksb_ro, ksb_tmp, ksb_bor, evSlc_eq, kla_eq, klb_eq, klc_eq, evNo_eq, evInt_eq, kInt_eq, evBi_eq, kBi_eq, evIsa_eq, evIsaT_eq, kIsa_eq, kIsaT_eq, evNew_eq, evCall_eq, kCall_eq, kRet_ret, kRet_exc, bkV_loc, bkV_tmp, bkV_int, bkV_str, bkV_bl, bkV_non, evSeq_eq, bndS_next, bndS_ret, bndS_exc, bndS_none, evPass_eq, bndE_ok, bndE_exc, bndE_none, evExpr_eq, kExpr_eq, evRet_eq, kRetS_eq, evRetN_eq, evIf_eq, kIf_eq, evSet_eq, kSet_eq, setR_some, cellOf_ro, cellOf_tmpF, cellOf_tmpT, effG_loc, effG_int, effG_str, effG_bl, effG_non, evFor_eq, bndI_ok, bndI_exc, kFor_eq, forD_nil, evIter_eq, kIter_str, evRng1_eq, evRng2_eq, kRng1_eq, kRng2_eq, evRaise_eq, evTryAs_eq, kTry_next, kTry_exc, evApp_eq, appR_oc, kApp_eq, mutR_oc, outS_next, outS_ret, outS_exc, fnR_ro, fnR_tmp, roD_nil, roD_cons, List.getElem?_cons_zero, List.getElem?_cons_succ, List.set_cons_zero, List.set_cons_succ, List.length_cons, List.length_nil, List.map_cons, List.map_nil, List.cons_append, List.nil_append, List.replicate_zero, List.replicate_succ, outS_none, evLc_eq, kLc_eq, evList_eq, evJoin_eq, kJoin_eq, evSplit_eq, kSplit_eq, kSplit2_eq, evRng3_eq, Nat.reduceLT, Nat.reduceAdd, Nat.reduceSub, if_true, if_false, Bool.false_eq_true, decide_true, decide_false, Bool.not_true, Bool.not_false, Bool.true_and, Bool.and_true, Bool.false_and, Bool.and_false, map_some', List.length_map, ev_read_number, okx, isa_s, PV.sl_str, if_pos hl, if_pos hl3, cop_eqS, decide_eq_false h, e]
  rw [main]
  unfold rd
  by_cases h1 : 1 ≤ (fig z).length
  · by_cases h2 : (fig z).length ≤ 60
    · rw [if_pos ⟨h1, h2⟩]
      by_cases h3 : (fig z).cps.toList.all isDig = true
      · rw [if_pos h3]
        rw [if_pos h3] at hloop
        obtain ⟨c, hc, hat⟩ := at_zero (fig z) h1
        have hlead : lead z = (decide (c = 48) && !decide (z = ("0" : Str))) := by
          unfold lead
          rw [hc]; simp
        have ones := decide_eq_true (show (1 : Int) ≤ ((fig z).length : Int) by omega)
        have sixty := decide_eq_true (show ((fig z).length : Int) ≤ 60 by omega)
        rw [hlead]
        cases h4 : decide (c = 48) with
        | true =>
          cases h5 : decide (z = ("0" : Str)) with
          | true =>
            cases h6 : PySem.intText? z <;> simp -implicitDefEqProofs only [retD_some, retD_none, retV_some, retV_none, bnd_ok, bnd_none, bnd_exc, d_ro, d_tmp, d_bor, evC_eq, evVar_eq, rdV_lc, rdV_oc, evOp2_eq, k2a_eq, k2b_ro, k2b_tmp, k2b_bor, evOp1_eq, k1_eq, evAdd_eq, kaa_eq, kab_ro, kab_tmp, kab_bor, addV_int, addV_str, evChain_eq, kca_eq, kcb_ro, kcc_some, kcd_eq, cop'_eq, evAnd_eq, evOr_eq, kAnd_eq, kOr_eq, notD_eq, evNil_eq, evCons_eq, kCons_eq, kCons2_ro, kCons2_tmp, kCons2_bor, evTup_eq, kTup_eq, tupR_some, evLst_eq, kLst_eq, evSub_eq, ksa_eq, ksb_ro, ksb_tmp, ksb_bor, evSlc_eq, kla_eq, klb_eq, klc_eq, evNo_eq, evInt_eq, kInt_eq, evBi_eq, kBi_eq, evIsa_eq, evIsaT_eq, kIsa_eq, kIsaT_eq, evNew_eq, evCall_eq, kCall_eq, kRet_ret, kRet_exc, bkV_loc, bkV_tmp, bkV_int, bkV_str, bkV_bl, bkV_non, evSeq_eq, bndS_next, bndS_ret, bndS_exc, bndS_none, evPass_eq, bndE_ok, bndE_exc, bndE_none, evExpr_eq, kExpr_eq, evRet_eq, kRetS_eq, evRetN_eq, evIf_eq, kIf_eq, evSet_eq, kSet_eq, setR_some, cellOf_ro, cellOf_tmpF, cellOf_tmpT, effG_loc, effG_int, effG_str, effG_bl, effG_non, evFor_eq, bndI_ok, bndI_exc, kFor_eq, forD_nil, evIter_eq, kIter_str, evRng1_eq, evRng2_eq, kRng1_eq, kRng2_eq, evRaise_eq, evTryAs_eq, kTry_next, kTry_exc, evApp_eq, appR_oc, kApp_eq, mutR_oc, outS_next, outS_ret, outS_exc, fnR_ro, fnR_tmp, roD_nil, roD_cons, List.getElem?_cons_zero, List.getElem?_cons_succ, List.set_cons_zero, List.set_cons_succ, List.length_cons, List.length_nil, List.map_cons, List.map_nil, List.cons_append, List.nil_append, List.replicate_zero, List.replicate_succ, outS_none, evLc_eq, kLc_eq, evList_eq, evJoin_eq, kJoin_eq, evSplit_eq, kSplit_eq, kSplit2_eq, evRng3_eq, Nat.reduceLT, Nat.reduceAdd, Nat.reduceSub, if_true, if_false, Bool.false_eq_true, decide_true, decide_false, Bool.not_true, Bool.not_false, Bool.true_and, Bool.and_true, Bool.false_and, Bool.and_false, map_some', List.length_map, bf_lenS, if_pos hl2, cop_le, ones, sixty, hch, hloop, sub_str, hat, cop_eqS, one_eq, cop_neS, bf_intS, if_pos hz, h4, h5, h6, Option.map_none]
          | false =>
            simp -implicitDefEqProofs only [retD_some, retD_none, retV_some, retV_none, bnd_ok, bnd_none, bnd_exc, d_ro, d_tmp, d_bor, evC_eq, evVar_eq, rdV_lc, rdV_oc, evOp2_eq, k2a_eq, k2b_ro, k2b_tmp, k2b_bor, evOp1_eq, k1_eq, evAdd_eq, kaa_eq, kab_ro, kab_tmp, kab_bor, addV_int, addV_str, evChain_eq, kca_eq, kcb_ro, kcc_some, kcd_eq, cop'_eq, evAnd_eq, evOr_eq, kAnd_eq, kOr_eq, notD_eq, evNil_eq, evCons_eq, kCons_eq, kCons2_ro, kCons2_tmp, kCons2_bor, evTup_eq, kTup_eq, tupR_some, evLst_eq, kLst_eq, evSub_eq, ksa_eq, ksb_ro, ksb_tmp, ksb_bor, evSlc_eq, kla_eq, klb_eq, klc_eq, evNo_eq, evInt_eq, kInt_eq, evBi_eq, kBi_eq, evIsa_eq, evIsaT_eq, kIsa_eq, kIsaT_eq, evNew_eq, evCall_eq, kCall_eq, kRet_ret, kRet_exc, bkV_loc, bkV_tmp, bkV_int, bkV_str, bkV_bl, bkV_non, evSeq_eq, bndS_next, bndS_ret, bndS_exc, bndS_none, evPass_eq, bndE_ok, bndE_exc, bndE_none, evExpr_eq, kExpr_eq, evRet_eq, kRetS_eq, evRetN_eq, evIf_eq, kIf_eq, evSet_eq, kSet_eq, setR_some, cellOf_ro, cellOf_tmpF, cellOf_tmpT, effG_loc, effG_int, effG_str, effG_bl, effG_non, evFor_eq, bndI_ok, bndI_exc, kFor_eq, forD_nil, evIter_eq, kIter_str, evRng1_eq, evRng2_eq, kRng1_eq, kRng2_eq, evRaise_eq, evTryAs_eq, kTry_next, kTry_exc, evApp_eq, appR_oc, kApp_eq, mutR_oc, outS_next, outS_ret, outS_exc, fnR_ro, fnR_tmp, roD_nil, roD_cons, List.getElem?_cons_zero, List.getElem?_cons_succ, List.set_cons_zero, List.set_cons_succ, List.length_cons, List.length_nil, List.map_cons, List.map_nil, List.cons_append, List.nil_append, List.replicate_zero, List.replicate_succ, outS_none, evLc_eq, kLc_eq, evList_eq, evJoin_eq, kJoin_eq, evSplit_eq, kSplit_eq, kSplit2_eq, evRng3_eq, Nat.reduceLT, Nat.reduceAdd, Nat.reduceSub, if_true, if_false, Bool.false_eq_true, decide_true, decide_false, Bool.not_true, Bool.not_false, Bool.true_and, Bool.and_true, Bool.false_and, Bool.and_false, map_some', List.length_map, bf_lenS, if_pos hl2, cop_le, ones, sixty, hch, hloop, sub_str, hat, cop_eqS, one_eq, cop_neS, bf_intS, if_pos hz, h4, h5]
        | false =>
          cases h6 : PySem.intText? z <;> simp -implicitDefEqProofs only [retD_some, retD_none, retV_some, retV_none, bnd_ok, bnd_none, bnd_exc, d_ro, d_tmp, d_bor, evC_eq, evVar_eq, rdV_lc, rdV_oc, evOp2_eq, k2a_eq, k2b_ro, k2b_tmp, k2b_bor, evOp1_eq, k1_eq, evAdd_eq, kaa_eq, kab_ro, kab_tmp, kab_bor, addV_int, addV_str, evChain_eq, kca_eq, kcb_ro, kcc_some, kcd_eq, cop'_eq, evAnd_eq, evOr_eq, kAnd_eq, kOr_eq, notD_eq, evNil_eq, evCons_eq, kCons_eq, kCons2_ro, kCons2_tmp, kCons2_bor, evTup_eq, kTup_eq, tupR_some, evLst_eq, kLst_eq, evSub_eq, ksa_eq, ksb_ro, ksb_tmp, ksb_bor, evSlc_eq, kla_eq, klb_eq, klc_eq, evNo_eq, evInt_eq, kInt_eq, evBi_eq, kBi_eq, evIsa_eq, evIsaT_eq, kIsa_eq, kIsaT_eq, evNew_eq, evCall_eq, kCall_eq, kRet_ret, kRet_exc, bkV_loc, bkV_tmp, bkV_int, bkV_str, bkV_bl, bkV_non, evSeq_eq, bndS_next, bndS_ret, bndS_exc, bndS_none, evPass_eq, bndE_ok, bndE_exc, bndE_none, evExpr_eq, kExpr_eq, evRet_eq, kRetS_eq, evRetN_eq, evIf_eq, kIf_eq, evSet_eq, kSet_eq, setR_some, cellOf_ro, cellOf_tmpF, cellOf_tmpT, effG_loc, effG_int, effG_str, effG_bl, effG_non, evFor_eq, bndI_ok, bndI_exc, kFor_eq, forD_nil, evIter_eq, kIter_str, evRng1_eq, evRng2_eq, kRng1_eq, kRng2_eq, evRaise_eq, evTryAs_eq, kTry_next, kTry_exc, evApp_eq, appR_oc, kApp_eq, mutR_oc, outS_next, outS_ret, outS_exc, fnR_ro, fnR_tmp, roD_nil, roD_cons, List.getElem?_cons_zero, List.getElem?_cons_succ, List.set_cons_zero, List.set_cons_succ, List.length_cons, List.length_nil, List.map_cons, List.map_nil, List.cons_append, List.nil_append, List.replicate_zero, List.replicate_succ, outS_none, evLc_eq, kLc_eq, evList_eq, evJoin_eq, kJoin_eq, evSplit_eq, kSplit_eq, kSplit2_eq, evRng3_eq, Nat.reduceLT, Nat.reduceAdd, Nat.reduceSub, if_true, if_false, Bool.false_eq_true, decide_true, decide_false, Bool.not_true, Bool.not_false, Bool.true_and, Bool.and_true, Bool.false_and, Bool.and_false, map_some', List.length_map, bf_lenS, if_pos hl2, cop_le, ones, sixty, hch, hloop, sub_str, hat, cop_eqS, one_eq, cop_neS, bf_intS, if_pos hz, h4, h6, Option.map_none]
      · rw [if_neg h3]
        rw [if_neg h3] at hloop
        simp -implicitDefEqProofs only [retD_some, retD_none, retV_some, retV_none, bnd_ok, bnd_none, bnd_exc, d_ro, d_tmp, d_bor, evC_eq, evVar_eq, rdV_lc, rdV_oc, evOp2_eq, k2a_eq, k2b_ro, k2b_tmp, k2b_bor, evOp1_eq, k1_eq, evAdd_eq, kaa_eq, kab_ro, kab_tmp, kab_bor, addV_int, addV_str, evChain_eq, kca_eq, kcb_ro, kcc_some, kcd_eq, cop'_eq, evAnd_eq, evOr_eq, kAnd_eq, kOr_eq, notD_eq, evNil_eq, evCons_eq, kCons_eq, kCons2_ro, kCons2_tmp, kCons2_bor, evTup_eq, kTup_eq, tupR_some, evLst_eq, kLst_eq, evSub_eq, ksa_eq, ksb_ro, ksb_tmp, ksb_bor, evSlc_eq, kla_eq, klb_eq, klc_eq, evNo_eq, evInt_eq, kInt_eq, evBi_eq, kBi_eq, evIsa_eq, evIsaT_eq, kIsa_eq, kIsaT_eq, evNew_eq, evCall_eq, kCall_eq, kRet_ret, kRet_exc, bkV_loc, bkV_tmp, bkV_int, bkV_str, bkV_bl, bkV_non, evSeq_eq, bndS_next, bndS_ret, bndS_exc, bndS_none, evPass_eq, bndE_ok, bndE_exc, bndE_none, evExpr_eq, kExpr_eq, evRet_eq, kRetS_eq, evRetN_eq, evIf_eq, kIf_eq, evSet_eq, kSet_eq, setR_some, cellOf_ro, cellOf_tmpF, cellOf_tmpT, effG_loc, effG_int, effG_str, effG_bl, effG_non, evFor_eq, bndI_ok, bndI_exc, kFor_eq, forD_nil, evIter_eq, kIter_str, evRng1_eq, evRng2_eq, kRng1_eq, kRng2_eq, evRaise_eq, evTryAs_eq, kTry_next, kTry_exc, evApp_eq, appR_oc, kApp_eq, mutR_oc, outS_next, outS_ret, outS_exc, fnR_ro, fnR_tmp, roD_nil, roD_cons, List.getElem?_cons_zero, List.getElem?_cons_succ, List.set_cons_zero, List.set_cons_succ, List.length_cons, List.length_nil, List.map_cons, List.map_nil, List.cons_append, List.nil_append, List.replicate_zero, List.replicate_succ, outS_none, evLc_eq, kLc_eq, evList_eq, evJoin_eq, kJoin_eq, evSplit_eq, kSplit_eq, kSplit2_eq, evRng3_eq, Nat.reduceLT, Nat.reduceAdd, Nat.reduceSub, if_true, if_false, Bool.false_eq_true, decide_true, decide_false, Bool.not_true, Bool.not_false, Bool.true_and, Bool.and_true, Bool.false_and, Bool.and_false, map_some', List.length_map, bf_lenS, if_pos hl2, cop_le, decide_eq_true (show (1 : Int) ≤ ((fig z).length : Int) by omega), decide_eq_true (show ((fig z).length : Int) ≤ 60 by omega), hch, hloop]
    · rw [if_neg fun q => h2 q.2]
      simp -implicitDefEqProofs only [retD_some, retD_none, retV_some, retV_none, bnd_ok, bnd_none, bnd_exc, d_ro, d_tmp, d_bor, evC_eq, evVar_eq, rdV_lc, rdV_oc, evOp2_eq, k2a_eq, k2b_ro, k2b_tmp, k2b_bor, evOp1_eq, k1_eq, evAdd_eq, kaa_eq, kab_ro, kab_tmp, kab_bor, addV_int, addV_str, evChain_eq, kca_eq, kcb_ro, kcc_some, kcd_eq, cop'_eq, evAnd_eq, evOr_eq, kAnd_eq, kOr_eq, notD_eq, evNil_eq, evCons_eq, kCons_eq, kCons2_ro, kCons2_tmp, kCons2_bor, evTup_eq, kTup_eq, tupR_some, evLst_eq, kLst_eq, evSub_eq, ksa_eq, ksb_ro, ksb_tmp, ksb_bor, evSlc_eq, kla_eq, klb_eq, klc_eq, evNo_eq, evInt_eq, kInt_eq, evBi_eq, kBi_eq, evIsa_eq, evIsaT_eq, kIsa_eq, kIsaT_eq, evNew_eq, evCall_eq, kCall_eq, kRet_ret, kRet_exc, bkV_loc, bkV_tmp, bkV_int, bkV_str, bkV_bl, bkV_non, evSeq_eq, bndS_next, bndS_ret, bndS_exc, bndS_none, evPass_eq, bndE_ok, bndE_exc, bndE_none, evExpr_eq, kExpr_eq, evRet_eq, kRetS_eq, evRetN_eq, evIf_eq, kIf_eq, evSet_eq, kSet_eq, setR_some, cellOf_ro, cellOf_tmpF, cellOf_tmpT, effG_loc, effG_int, effG_str, effG_bl, effG_non, evFor_eq, bndI_ok, bndI_exc, kFor_eq, forD_nil, evIter_eq, kIter_str, evRng1_eq, evRng2_eq, kRng1_eq, kRng2_eq, evRaise_eq, evTryAs_eq, kTry_next, kTry_exc, evApp_eq, appR_oc, kApp_eq, mutR_oc, outS_next, outS_ret, outS_exc, fnR_ro, fnR_tmp, roD_nil, roD_cons, List.getElem?_cons_zero, List.getElem?_cons_succ, List.set_cons_zero, List.set_cons_succ, List.length_cons, List.length_nil, List.map_cons, List.map_nil, List.cons_append, List.nil_append, List.replicate_zero, List.replicate_succ, outS_none, evLc_eq, kLc_eq, evList_eq, evJoin_eq, kJoin_eq, evSplit_eq, kSplit_eq, kSplit2_eq, evRng3_eq, Nat.reduceLT, Nat.reduceAdd, Nat.reduceSub, if_true, if_false, Bool.false_eq_true, decide_true, decide_false, Bool.not_true, Bool.not_false, Bool.true_and, Bool.and_true, Bool.false_and, Bool.and_false, map_some', List.length_map, bf_lenS, if_pos hl2, cop_le, decide_eq_true (show (1 : Int) ≤ ((fig z).length : Int) by omega), decide_eq_false (show ¬ ((fig z).length : Int) ≤ 60 by omega)]
  · rw [if_neg fun q => h1 q.1]
    simp -implicitDefEqProofs only [retD_some, retD_none, retV_some, retV_none, bnd_ok, bnd_none, bnd_exc, d_ro, d_tmp, d_bor, evC_eq, evVar_eq, rdV_lc, rdV_oc, evOp2_eq, k2a_eq, k2b_ro, k2b_tmp, k2b_bor, evOp1_eq, k1_eq, evAdd_eq, kaa_eq, kab_ro, kab_tmp, kab_bor, addV_int, addV_str, evChain_eq, kca_eq, kcb_ro, kcc_some, kcd_eq, cop'_eq, evAnd_eq, evOr_eq, kAnd_eq, kOr_eq, notD_eq, evNil_eq, evCons_eq, kCons_eq, kCons2_ro, kCons2_tmp, kCons2_bor, evTup_eq, kTup_eq, tupR_some, evLst_eq, kLst_eq, evSub_eq, ksa_eq, ksb_ro, ksb_tmp, ksb_bor, evSlc_eq, kla_eq, klb_eq, klc_eq, evNo_eq, evInt_eq, kInt_eq, evBi_eq, kBi_eq, evIsa_eq, evIsaT_eq, kIsa_eq, kIsaT_eq, evNew_eq, evCall_eq, kCall_eq, kRet_ret, kRet_exc, bkV_loc, bkV_tmp, bkV_int, bkV_str, bkV_bl, bkV_non, evSeq_eq, bndS_next, bndS_ret, bndS_exc, bndS_none, evPass_eq, bndE_ok, bndE_exc, bndE_none, evExpr_eq, kExpr_eq, evRet_eq, kRetS_eq, evRetN_eq, evIf_eq, kIf_eq, evSet_eq, kSet_eq, setR_some, cellOf_ro, cellOf_tmpF, cellOf_tmpT, effG_loc, effG_int, effG_str, effG_bl, effG_non, evFor_eq, bndI_ok, bndI_exc, kFor_eq, forD_nil, evIter_eq, kIter_str, evRng1_eq, evRng2_eq, kRng1_eq, kRng2_eq, evRaise_eq, evTryAs_eq, kTry_next, kTry_exc, evApp_eq, appR_oc, kApp_eq, mutR_oc, outS_next, outS_ret, outS_exc, fnR_ro, fnR_tmp, roD_nil, roD_cons, List.getElem?_cons_zero, List.getElem?_cons_succ, List.set_cons_zero, List.set_cons_succ, List.length_cons, List.length_nil, List.map_cons, List.map_nil, List.cons_append, List.nil_append, List.replicate_zero, List.replicate_succ, outS_none, evLc_eq, kLc_eq, evList_eq, evJoin_eq, kJoin_eq, evSplit_eq, kSplit_eq, kSplit2_eq, evRng3_eq, Nat.reduceLT, Nat.reduceAdd, Nat.reduceSub, if_true, if_false, Bool.false_eq_true, decide_true, decide_false, Bool.not_true, Bool.not_false, Bool.true_and, Bool.and_true, Bool.false_and, Bool.and_false, map_some', List.length_map, bf_lenS, if_pos hl2, cop_le, decide_eq_false (show ¬ (1 : Int) ≤ ((fig z).length : Int) by omega)]

def neg (z : Str) : Bool := decide (cutS z none (some 1) = ("-" : Str))
theorem str_empty {w : Str} : w = ("" : Str) ↔ w.length = 0 := by
  have e : ("" : Str) = ⟨#[]⟩ := by decide +kernel
  rw [e]
  obtain ⟨c⟩ := w
  constructor
  · intro h; cases h; rfl
  · intro h
    have : c = #[] := Array.eq_empty_of_size_eq_zero h
    rw [this]
theorem dash : ("-" : Str) = ⟨#[45]⟩ := by decide +kernel
theorem neg_split {z : Str} (h : neg z = true) : ∃ r, z.cps.toList = 45 :: r ∧ (fig z).cps.toList = r := by
  have h0 : cutS z none (some 1) = ("-" : Str) := of_decide_eq_true h
  have hf : fig z = cutS z (some 1) none := if_pos h0
  have hl : z.cps.toList.length = z.length := Array.length_toList
  rw [dash] at h0
  unfold cutS at h0 hf
  rw [HT.sIx_none, show (some (1 : Int)) = some ((1 : Nat) : Int) from rfl, HT.sIx_nat, Nat.sub_zero, List.drop_zero] at h0
  rw [HT.sIx_none, show (some (1 : Int)) = some ((1 : Nat) : Int) from rfl, HT.sIx_nat] at hf
  have h1 : z.cps.toList.take (min 1 z.length) = [45] := by
    have := congrArg (fun s : Str => s.cps.toList) h0
    simpa using this
  rw [hf]
  show ∃ r, z.cps.toList = 45 :: r ∧ (List.toArray _).toList = r
  cases e : z.cps.toList with
  | nil => rw [e] at h1; simp at h1
  | cons c r =>
    rw [e] at h1 hl
    have hz : 1 ≤ z.length := by rw [← hl]; simp
    rw [Nat.min_eq_left hz] at h1
    simp at h1
    subst h1
    refine ⟨r, rfl, ?_⟩
    rw [Nat.min_eq_left hz]
    show List.take _ r = r
    rw [← hl]
    simp
theorem all_dig {cs : List Nat} (h : cs.all isDig = true) : PySem.NumText.AllDigits cs := fun c hc => by
  have := List.all_eq_true.mp h c hc
  unfold isDig at this
  simp only [Bool.and_eq_true, decide_eq_true_eq] at this
  exact this
theorem str_len {i : Int} {k : Nat} (h0 : 0 ≤ i) (hk : 0 < k) (h : i < 10 ^ k) : (strI i).length ≤ k := PyProof.Rows.toString_length_le h0 hk h
theorem app_len (x y : Str) : (x ++ y).length = x.length + y.length := by
  show (x.cps ++ y.cps).size = _
  rw [Array.size_append]; rfl
theorem nat_le_lim {n : Nat} (h : n ≤ 1000) : n ≤ lim := Nat.le_trans h (by decide)
theorem mulS_ok {z : Str} {i : Int} (h0 : 0 ≤ i) (h1 : i ≤ 100) (h2 : z.length = 1) : bop .mul (.str z) (.int i) = some (.str (repS z i)) := by
  have hl : (lim : Int) = 1000000 := rfl
  have h3 : z.length * i.toNat ≤ lim := by
    rw [h2, Nat.one_mul]
    exact nat_le_lim (by omega)
  exact if_pos ⟨h0, by omega, h3⟩
theorem addV_ok {g g' : Rg} {x y : Str} (h : x.length ≤ 200) (h' : y.length ≤ 200) : addV (.ro g (.str x)) (.ro g' (.str y)) = some (.ro .loc (.str (x ++ y))) := by
  rw [addV_str, if_pos (nat_le_lim (by omega))]

/-! ### numbers as texts -/
theorem tl_nn (n : Nat) : (strI (n : Int)).cps.toList = TL.numL n := TL.tl_num n
theorem tl_neg {n : Int} (h : n < 0) : (strI n).cps.toList = 45 :: TL.numL n.natAbs := by
  have e1 : (strI n).cps.toList = (Str.ofString (toString n)).cps.toList := rfl
  have e2 : (0 - n) = ((n.natAbs : Nat) : Int) := by omega
  rw [e1, PyProof.Rows.toString_neg h, PySem.Str.ofString_eq_toList]
  have e3 := TL.tl_num n.natAbs
  rw [show TL.tl (Str.ofString (toString ((n.natAbs : Nat) : Int))) = (Str.ofString (toString ((n.natAbs : Nat) : Int))).cps.toList from rfl, PySem.Str.ofString_eq_toList, ← e2] at e3
  rw [String.toList_append, List.map_append]
  rw [List.toList_toArray] at e3 ⊢
  rw [e3]
  rfl
theorem tl_pos {n : Int} (h : 0 ≤ n) : (strI n).cps.toList = TL.numL n.natAbs := by
  have e : n = ((n.natAbs : Nat) : Int) := by omega
  rw [e, tl_nn, ← e]
theorem num_head {n : Nat} : ∀ (h : 0 < n), ∃ c r, TL.numL n = c :: r ∧ c ≠ 48 := by
  induction n using Nat.strongRecOn with
  | _ n ih =>
    intro h
    by_cases hl : n < 10
    · exact ⟨48 + n, [], TL.numL_lt hl, by omega⟩
    · obtain ⟨c, r, e, hc⟩ := ih (n / 10) (by omega) (by omega)
      exact ⟨c, r ++ [48 + n % 10], by rw [TL.numL_step (by omega), e]; rfl, hc⟩
theorem num_all (n : Nat) : (TL.numL n).all isDig = true := List.all_eq_true.mpr fun c hc => by
  have := TL.numL_digits n c hc
  unfold isDig
  rw [decide_eq_true this.1, decide_eq_true this.2]; rfl
theorem len_list (z : Str) : z.length = z.cps.toList.length := (Array.length_toList).symm
/-- a text and its signs -/
theorem fig_neg {z : Str} {r : List Nat} (h : z.cps.toList = 45 :: r) : neg z = true ∧ (fig z).cps.toList = r := by
  have hn : neg z = true := by
    unfold neg
    refine decide_eq_true ?_
    rw [dash]
    unfold cutS
    rw [HT.sIx_none, show (some (1 : Int)) = some ((1 : Nat) : Int) from rfl, HT.sIx_nat, len_list, h]
    simp
  obtain ⟨r', e1, e2⟩ := neg_split hn
  rw [h] at e1
  cases e1
  exact ⟨hn, e2⟩
theorem fig_pos {z : Str} {c : Nat} {r : List Nat} (h : z.cps.toList = c :: r) (hc : c ≠ 45) : fig z = z := by
  unfold fig
  refine if_neg fun q => ?_
  have : neg z = true := decide_eq_true q
  obtain ⟨r', e1, _⟩ := neg_split this
  rw [h] at e1
  cases e1
  exact hc rfl
theorem rd_dec {n : Int} (h1 : n.natAbs < 10 ^ 60) : rd (strI n) = some (.ret (.ro .loc (.int n))) := by
  have hl := TL.numL_len (n := n.natAbs) (k := 60) (by decide) h1
  have hne := TL.numL_ne n.natAbs
  have hl1 : 1 ≤ (TL.numL n.natAbs).length := by
    cases e : TL.numL n.natAbs with
    | nil => exact absurd e hne
    | cons c r => simp
  by_cases h0 : n < 0
  · have e1 := tl_neg h0
    obtain ⟨_, e2⟩ := fig_neg e1
    have el : (fig (strI n)).length = (TL.numL n.natAbs).length := by rw [len_list, e2]
    obtain ⟨c, r, e3, hc⟩ := num_head (n := n.natAbs) (by omega)
    have hld : lead (strI n) = false := by
      unfold lead
      rw [e2, e3]
      show (decide (some c = some 48) && _) = false
      rw [decide_eq_false (by simpa using hc), Bool.false_and]
    unfold rd
    rw [if_pos ⟨by omega, by omega⟩, e2, if_pos (num_all _), hld, if_neg (by simp)]
    rw [PySem.intText_neg e1 (TL.numL_digits _) hne (by rw [len_list, e1, List.length_cons]; omega)]
    show some (Oc.ret (.ro .loc (.int (-((PySem.NumText.digitsVal (TL.numL n.natAbs) : Nat) : Int))))) = _
    rw [TL.numL_val]
    congr 4
    omega
  · have e1 := tl_pos (show 0 ≤ n by omega)
    have hf : fig (strI n) = strI n := by
      cases e : TL.numL n.natAbs with
      | nil => exact absurd e hne
      | cons c r =>
        have := TL.numL_digits n.natAbs c (by rw [e]; exact List.mem_cons_self)
        exact fig_pos (e1.trans e) (by omega)
    have el : (fig (strI n)).length = (TL.numL n.natAbs).length := by rw [hf, len_list, e1]
    have hld : lead (strI n) = false := by
      unfold lead
      rw [hf, e1]
      by_cases hz : n = 0
      · have : strI n = ("0" : Str) := by rw [hz]; decide +kernel
        rw [decide_eq_true this, Bool.not_true, Bool.and_false]
      · obtain ⟨c, r, e3, hc⟩ := num_head (n := n.natAbs) (by omega)
        rw [e3]
        show (decide (some c = some 48) && _) = false
        rw [decide_eq_false (by simpa using hc), Bool.false_and]
    unfold rd
    rw [if_pos ⟨by omega, by omega⟩, hf, e1, if_pos (num_all _), hld, if_neg (by simp)]
    have e4 := PySem.intText_digits (x := strI n) (by rw [e1]; exact TL.numL_digits _) (by rw [e1]; exact hne) (by rw [len_list, e1]; omega)
    rw [e4, e1]
    show some (Oc.ret (.ro .loc (.int ((PySem.NumText.digitsVal (TL.numL n.natAbs) : Nat) : Int)))) = _
    rw [TL.numL_val]
    congr 4
    omega
theorem dec_len {n : Int} (h : n.natAbs < 10 ^ 60) : (strI n).length ≤ 61 := by
  have hl := TL.numL_len (n := n.natAbs) (k := 60) (by decide) h
  rw [len_list]
  by_cases h0 : n < 0
  · rw [tl_neg h0, List.length_cons]; omega
  · rw [tl_pos (by omega)]; omega
theorem read_dec {n : Int} (h : n.natAbs < 10 ^ 60) : run fn_read_number [.str (strI n)] = some (.ret (.ro .loc (.int n))) :=
  (read_run _ (Nat.le_trans (dec_len h) (by decide))).trans (rd_dec h)
/-- no comma, no + in it -/
theorem dec_free {n : Int} {s : Nat} (h : s < 45 ∨ 57 < s) : s ∉ (strI n).cps.toList := by
  by_cases h0 : n < 0
  · rw [tl_neg h0]
    intro z
    rcases List.mem_cons.mp z with z | z
    · omega
    · exact TL.numL_free (by omega) z
  · rw [tl_pos (by omega)]
    exact TL.numL_free (by omega)

/-! ### the law's own figures -/
def cF : EvF := evOr (evOp2 (cop' .gt) true (evVar 1) (evC (.int 0))) (evOp2 (cop' .eq) true (evVar 2) (evC (.str "")))
theorem dig_at : ∀ k : Fin 10, ("0123456789" : Str).cps.toList[k.val]? = some (48 + k.val) := by decide +kernel
theorem tenS : ("0123456789" : Str).length ≤ lim := by decide +kernel
theorem empty_list : ("" : Str).cps.toList = [] := by decide +kernel
theorem loopF : ∀ (m : Nat) (w : Str) (e0 : Option Cell), (0 < m ∨ w = ("" : Str)) → w.length + (TL.numL m).length ≤ 150 → ∃ fuel r, whD cF lb__law_figures_1 fuel [e0, some (lcC .loc (.int (m : Nat))), some (lcC .loc (.str w))] = some (.next [e0, some (lcC .loc (.int 0)), some (lcC .loc (.str r))]) ∧ r.cps.toList = TL.numL m ++ w.cps.toList := by
  intro m
  induction m using Nat.strongRecOn with
  | _ m ih =>
    intro w e0 hc hl
    have hcond : cF [e0, some (lcC .loc (.int (m : Nat))), some (lcC .loc (.str w))] = some (.ok (.ro .loc (.bl true)) [e0, some (lcC .loc (.int (m : Nat))), some (lcC .loc (.str w))]) := by
      unfold cF
      by_cases hm : 0 < m
      · simp -implicitDefEqProofs only [retD_some, retD_none, retV_some, retV_none, bnd_ok, bnd_none, bnd_exc, d_ro, d_tmp, d_bor, evC_eq, evVar_eq, rdV_lc, rdV_oc, evOp2_eq, k2a_eq, k2b_ro, k2b_tmp, k2b_bor, evOp1_eq, k1_eq, evAdd_eq, kaa_eq, kab_ro, kab_tmp, kab_bor, addV_int, addV_str, evChain_eq, kca_eq, kcb_ro, kcc_some, kcd_eq, cop'_eq, evAnd_eq, evOr_eq, kAnd_eq, kOr_eq, notD_eq, evNil_eq, evCons_eq, kCons_eq, kCons2_ro, kCons2_tmp, kCons2_bor, evTup_eq, kTup_eq, tupR_some, evLst_eq, kLst_eq, evSub_eq, ksa_eq, ksb_ro, ksb_tmp, ksb_bor, evSlc_eq, kla_eq, klb_eq, klc_eq, evNo_eq, evInt_eq, kInt_eq, evBi_eq, kBi_eq, evIsa_eq, evIsaT_eq, kIsa_eq, kIsaT_eq, evNew_eq, evCall_eq, kCall_eq, kRet_ret, kRet_exc, bkV_loc, bkV_tmp, bkV_int, bkV_str, bkV_bl, bkV_non, evSeq_eq, bndS_next, bndS_ret, bndS_exc, bndS_none, evPass_eq, bndE_ok, bndE_exc, bndE_none, evExpr_eq, kExpr_eq, evRet_eq, kRetS_eq, evRetN_eq, evIf_eq, kIf_eq, evSet_eq, kSet_eq, setR_some, cellOf_ro, cellOf_tmpF, cellOf_tmpT, effG_loc, effG_int, effG_str, effG_bl, effG_non, evFor_eq, bndI_ok, bndI_exc, kFor_eq, forD_nil, evIter_eq, kIter_str, evRng1_eq, evRng2_eq, kRng1_eq, kRng2_eq, evRaise_eq, evTryAs_eq, kTry_next, kTry_exc, evApp_eq, appR_oc, kApp_eq, mutR_oc, outS_next, outS_ret, outS_exc, fnR_ro, fnR_tmp, roD_nil, roD_cons, List.getElem?_cons_zero, List.getElem?_cons_succ, List.set_cons_zero, List.set_cons_succ, List.length_cons, List.length_nil, List.map_cons, List.map_nil, List.cons_append, List.nil_append, List.replicate_zero, List.replicate_succ, outS_none, evLc_eq, kLc_eq, evList_eq, evJoin_eq, kJoin_eq, evSplit_eq, kSplit_eq, kSplit2_eq, evRng3_eq, Nat.reduceLT, Nat.reduceAdd, Nat.reduceSub, if_true, if_false, Bool.false_eq_true, decide_true, decide_false, Bool.not_true, Bool.not_false, Bool.true_and, Bool.and_true, Bool.false_and, Bool.and_false, map_some', List.length_map, cop_gt, decide_eq_true (show (0 : Int) < (m : Int) by omega)]
      · have hw : w = ("" : Str) := hc.resolve_left hm
        simp -implicitDefEqProofs only [retD_some, retD_none, retV_some, retV_none, bnd_ok, bnd_none, bnd_exc, d_ro, d_tmp, d_bor, evC_eq, evVar_eq, rdV_lc, rdV_oc, evOp2_eq, k2a_eq, k2b_ro, k2b_tmp, k2b_bor, evOp1_eq, k1_eq, evAdd_eq, kaa_eq, kab_ro, kab_tmp, kab_bor, addV_int, addV_str, evChain_eq, kca_eq, kcb_ro, kcc_some, kcd_eq, cop'_eq, evAnd_eq, evOr_eq, kAnd_eq, kOr_eq, notD_eq, evNil_eq, evCons_eq, kCons_eq, kCons2_ro, kCons2_tmp, kCons2_bor, evTup_eq, kTup_eq, tupR_some, evLst_eq, kLst_eq, evSub_eq, ksa_eq, ksb_ro, ksb_tmp, ksb_bor, evSlc_eq, kla_eq, klb_eq, klc_eq, evNo_eq, evInt_eq, kInt_eq, evBi_eq, kBi_eq, evIsa_eq, evIsaT_eq, kIsa_eq, kIsaT_eq, evNew_eq, evCall_eq, kCall_eq, kRet_ret, kRet_exc, bkV_loc, bkV_tmp, bkV_int, bkV_str, bkV_bl, bkV_non, evSeq_eq, bndS_next, bndS_ret, bndS_exc, bndS_none, evPass_eq, bndE_ok, bndE_exc, bndE_none, evExpr_eq, kExpr_eq, evRet_eq, kRetS_eq, evRetN_eq, evIf_eq, kIf_eq, evSet_eq, kSet_eq, setR_some, cellOf_ro, cellOf_tmpF, cellOf_tmpT, effG_loc, effG_int, effG_str, effG_bl, effG_non, evFor_eq, bndI_ok, bndI_exc, kFor_eq, forD_nil, evIter_eq, kIter_str, evRng1_eq, evRng2_eq, kRng1_eq, kRng2_eq, evRaise_eq, evTryAs_eq, kTry_next, kTry_exc, evApp_eq, appR_oc, kApp_eq, mutR_oc, outS_next, outS_ret, outS_exc, fnR_ro, fnR_tmp, roD_nil, roD_cons, List.getElem?_cons_zero, List.getElem?_cons_succ, List.set_cons_zero, List.set_cons_succ, List.length_cons, List.length_nil, List.map_cons, List.map_nil, List.cons_append, List.nil_append, List.replicate_zero, List.replicate_succ, outS_none, evLc_eq, kLc_eq, evList_eq, evJoin_eq, kJoin_eq, evSplit_eq, kSplit_eq, kSplit2_eq, evRng3_eq, Nat.reduceLT, Nat.reduceAdd, Nat.reduceSub, if_true, if_false, Bool.false_eq_true, decide_true, decide_false, Bool.not_true, Bool.not_false, Bool.true_and, Bool.and_true, Bool.false_and, Bool.and_false, map_some', List.length_map, cop_gt, decide_eq_false (show ¬ (0 : Int) < (m : Int) by omega), cop_eqS, decide_eq_true hw]
    have q10 : bop .mod (.int (m : Nat)) (.int 10) = some (.int ((m % 10 : Nat) : Int)) := by
      rw [mod_ok (by decide)]; rfl
    have f10 : bop .fdiv (.int (m : Nat)) (.int 10) = some (.int ((m / 10 : Nat) : Int)) := by
      rw [fdiv_ok (by decide) (wide_of (n := 4) (by decide) (by decide))]; rfl
    have hd : atI ("0123456789" : Str).cps.toList ((m % 10 : Nat) : Int) = some (48 + m % 10) := at_get (by omega) (by
      rw [Int.toNat_natCast]
      exact dig_at ⟨m % 10, Nat.mod_lt _ (by decide)⟩)
    have ad : addV (.ro .loc (.str ⟨#[48 + m % 10]⟩)) (.ro .loc (.str w)) = some (.ro .loc (.str (⟨#[48 + m % 10]⟩ ++ w))) := addV_ok (by show 1 ≤ 200; omega) (by omega)
    have hbody : lb__law_figures_1 [e0, some (lcC .loc (.int (m : Nat))), some (lcC .loc (.str w))] = some (.next [e0, some (lcC .loc (.int ((m / 10 : Nat) : Int))), some (lcC .loc (.str (⟨#[48 + m % 10]⟩ ++ w)))]) := by
      simp -implicitDefEqProofs only [retD_some, retD_none, retV_some, retV_none, bnd_ok, bnd_none, bnd_exc, d_ro, d_tmp, d_bor, evC_eq, evVar_eq, rdV_lc, rdV_oc, evOp2_eq, k2a_eq, k2b_ro, k2b_tmp, k2b_bor, evOp1_eq, k1_eq, evAdd_eq, kaa_eq, kab_ro, kab_tmp, kab_bor, addV_int, evChain_eq, kca_eq, kcb_ro, kcc_some, kcd_eq, cop'_eq, evAnd_eq, evOr_eq, kAnd_eq, kOr_eq, notD_eq, evNil_eq, evCons_eq, kCons_eq, kCons2_ro, kCons2_tmp, kCons2_bor, evTup_eq, kTup_eq, tupR_some, evLst_eq, kLst_eq, evSub_eq, ksa_eq, ksb_ro, ksb_tmp, ksb_bor, evSlc_eq, kla_eq, klb_eq, klc_eq, evNo_eq, evInt_eq, kInt_eq, evBi_eq, kBi_eq, evIsa_eq, evIsaT_eq, kIsa_eq, kIsaT_eq, evNew_eq, evCall_eq, kCall_eq, kRet_ret, kRet_exc, bkV_loc, bkV_tmp, bkV_int, bkV_str, bkV_bl, bkV_non, evSeq_eq, bndS_next, bndS_ret, bndS_exc, bndS_none, evPass_eq, bndE_ok, bndE_exc, bndE_none, evExpr_eq, kExpr_eq, evRet_eq, kRetS_eq, evRetN_eq, evIf_eq, kIf_eq, evSet_eq, kSet_eq, setR_some, cellOf_ro, cellOf_tmpF, cellOf_tmpT, effG_loc, effG_int, effG_str, effG_bl, effG_non, evFor_eq, bndI_ok, bndI_exc, kFor_eq, forD_nil, evIter_eq, kIter_str, evRng1_eq, evRng2_eq, kRng1_eq, kRng2_eq, evRaise_eq, evTryAs_eq, kTry_next, kTry_exc, evApp_eq, appR_oc, kApp_eq, mutR_oc, outS_next, outS_ret, outS_exc, fnR_ro, fnR_tmp, roD_nil, roD_cons, List.getElem?_cons_zero, List.getElem?_cons_succ, List.set_cons_zero, List.set_cons_succ, List.length_cons, List.length_nil, List.map_cons, List.map_nil, List.cons_append, List.nil_append, List.replicate_zero, List.replicate_succ, outS_none, evLc_eq, kLc_eq, evList_eq, evJoin_eq, kJoin_eq, evSplit_eq, kSplit_eq, kSplit2_eq, evRng3_eq, Nat.reduceLT, Nat.reduceAdd, Nat.reduceSub, if_true, if_false, Bool.false_eq_true, decide_true, decide_false, Bool.not_true, Bool.not_false, Bool.true_and, Bool.and_true, Bool.false_and, Bool.and_false, map_some', List.length_map, lb__law_figures_1_q, q10, sub_str, if_pos tenS, hd, ad, f10]
    have tlw : (⟨#[48 + m % 10]⟩ ++ w : Str).cps.toList = (48 + m % 10) :: w.cps.toList := by
      show (#[48 + m % 10] ++ w.cps).toList = _
      rw [Array.toList_append]; rfl
    by_cases h10 : m < 10
    · have e10 : m / 10 = 0 := by omega
      rw [e10] at hbody
      have hstop : cF [e0, some (lcC .loc (.int ((0 : Nat) : Int))), some (lcC .loc (.str (⟨#[48 + m % 10]⟩ ++ w)))] = some (.ok (.ro .loc (.bl false)) [e0, some (lcC .loc (.int ((0 : Nat) : Int))), some (lcC .loc (.str (⟨#[48 + m % 10]⟩ ++ w)))]) := by
        unfold cF
        have hne : ¬ (⟨#[48 + m % 10]⟩ ++ w : Str) = ("" : Str) := fun q => by
          have := congrArg (fun s : Str => s.cps.toList) q
          simp only [tlw, empty_list] at this
          cases this
        simp -implicitDefEqProofs only [retD_some, retD_none, retV_some, retV_none, bnd_ok, bnd_none, bnd_exc, d_ro, d_tmp, d_bor, evC_eq, evVar_eq, rdV_lc, rdV_oc, evOp2_eq, k2a_eq, k2b_ro, k2b_tmp, k2b_bor, evOp1_eq, k1_eq, evAdd_eq, kaa_eq, kab_ro, kab_tmp, kab_bor, addV_int, addV_str, evChain_eq, kca_eq, kcb_ro, kcc_some, kcd_eq, cop'_eq, evAnd_eq, evOr_eq, kAnd_eq, kOr_eq, notD_eq, evNil_eq, evCons_eq, kCons_eq, kCons2_ro, kCons2_tmp, kCons2_bor, evTup_eq, kTup_eq, tupR_some, evLst_eq, kLst_eq, evSub_eq, ksa_eq, ksb_ro, ksb_tmp, ksb_bor, evSlc_eq, kla_eq, klb_eq, klc_eq, evNo_eq, evInt_eq, kInt_eq, evBi_eq, kBi_eq, evIsa_eq, evIsaT_eq, kIsa_eq, kIsaT_eq, evNew_eq, evCall_eq, kCall_eq, kRet_ret, kRet_exc, bkV_loc, bkV_tmp, bkV_int, bkV_str, bkV_bl, bkV_non, evSeq_eq, bndS_next, bndS_ret, bndS_exc, bndS_none, evPass_eq, bndE_ok, bndE_exc, bndE_none, evExpr_eq, kExpr_eq, evRet_eq, kRetS_eq, evRetN_eq, evIf_eq, kIf_eq, evSet_eq, kSet_eq, setR_some, cellOf_ro, cellOf_tmpF, cellOf_tmpT, effG_loc, effG_int, effG_str, effG_bl, effG_non, evFor_eq, bndI_ok, bndI_exc, kFor_eq, forD_nil, evIter_eq, kIter_str, evRng1_eq, evRng2_eq, kRng1_eq, kRng2_eq, evRaise_eq, evTryAs_eq, kTry_next, kTry_exc, evApp_eq, appR_oc, kApp_eq, mutR_oc, outS_next, outS_ret, outS_exc, fnR_ro, fnR_tmp, roD_nil, roD_cons, List.getElem?_cons_zero, List.getElem?_cons_succ, List.set_cons_zero, List.set_cons_succ, List.length_cons, List.length_nil, List.map_cons, List.map_nil, List.cons_append, List.nil_append, List.replicate_zero, List.replicate_succ, outS_none, evLc_eq, kLc_eq, evList_eq, evJoin_eq, kJoin_eq, evSplit_eq, kSplit_eq, kSplit2_eq, evRng3_eq, Nat.reduceLT, Nat.reduceAdd, Nat.reduceSub, if_true, if_false, Bool.false_eq_true, decide_true, decide_false, Bool.not_true, Bool.not_false, Bool.true_and, Bool.and_true, Bool.false_and, Bool.and_false, map_some', List.length_map, cop_gt, decide_eq_false (show ¬ (0 : Int) < ((0 : Nat) : Int) by omega), cop_eqS, decide_eq_false hne]
      refine ⟨2, ⟨#[48 + m % 10]⟩ ++ w, ?_, ?_⟩
      · rw [whD_true hcond, hbody, bndS_next, whD_false hstop]; rfl
      · rw [tlw, TL.numL_lt h10]
        have : m % 10 = m := by omega
        rw [this]; rfl
    · have hs := TL.numL_step (n := m) (by omega)
      obtain ⟨fu, r, hr, er⟩ := ih (m / 10) (by omega) (⟨#[48 + m % 10]⟩ ++ w) e0 (.inl (by omega)) (by
        rw [hs, List.length_append] at hl
        rw [len_list, tlw, List.length_cons, ← len_list]
        simp at hl
        omega)
      refine ⟨fu + 1, r, ?_, ?_⟩
      · rw [whD_true hcond, hbody, bndS_next, hr]
      · rw [er, tlw, hs, List.append_assoc]; rfl
theorem figures_run {n : Int} (h : n.natAbs < 10 ^ 60) : run fn__law_figures [.int n] = some (.ret (.ro .loc (.str (strI n)))) := by
  have hl := TL.numL_len (n := n.natAbs) (k := 60) (by decide) h
  have l0 : ("" : Str).length = 0 := by decide +kernel
  obtain ⟨fu, r, hw, er⟩ := loopF n.natAbs "" (some (lcC .par (.int n))) (.inr rfl) (by omega)
  rw [empty_list, List.append_nil] at er
  have hwh := evWhile_of hw
  have ha : (if n < 0 then -n else n) = ((n.natAbs : Nat) : Int) := by split <;> omega
  have hcF : (evOr (evOp2 (cop' .gt) true (evVar 1) (evC (.int 0))) (evOp2 (cop' .eq) true (evVar 2) (evC (.str "")))) = cF := rfl
  have hrl : r.length ≤ 60 := by rw [len_list, er]; exact hl
  have ld : ("-" : Str).length = 1 := by decide +kernel
  unfold fn__law_figures
  rw [run_fnD]
  by_cases h0 : n < 0
  · have ad := addV_ok (g := .loc) (g' := .loc) (x := ("-" : Str)) (y := r) (by omega) (by omega)
    have e : ("-" : Str) ++ r = strI n := TL.ext_tl (by
      rw [TL.tl_append]
      show ("-" : Str).cps.toList ++ r.cps.toList = (strI n).cps.toList
      rw [tl_neg h0, er, dash]; rfl)
    rw [e] at ad
    simp -implicitDefEqProofs only [retD_some, retD_none, retV_some, retV_none, bnd_ok, bnd_none, bnd_exc, d_ro, d_tmp, d_bor, evC_eq, evVar_eq, rdV_lc, rdV_oc, evOp2_eq, k2a_eq, k2b_ro, k2b_tmp, k2b_bor, evOp1_eq, k1_eq, evAdd_eq, kaa_eq, kab_ro, kab_tmp, kab_bor, addV_int, evChain_eq, kca_eq, kcb_ro, kcc_some, kcd_eq, cop'_eq, evAnd_eq, evOr_eq, kAnd_eq, kOr_eq, notD_eq, evNil_eq, evCons_eq, kCons_eq, kCons2_ro, kCons2_tmp, kCons2_bor, evTup_eq, kTup_eq, tupR_some, evLst_eq, kLst_eq, evSub_eq, ksa_eq, ksb_ro, ksb_tmp, ksb_bor, evSlc_eq, kla_eq, klb_eq, klc_eq, evNo_eq, evInt_eq, kInt_eq, evBi_eq, kBi_eq, evIsa_eq, evIsaT_eq, kIsa_eq, kIsaT_eq, evNew_eq, evCall_eq, kCall_eq, kRet_ret, kRet_exc, bkV_loc, bkV_tmp, bkV_int, bkV_str, bkV_bl, bkV_non, evSeq_eq, bndS_next, bndS_ret, bndS_exc, bndS_none, evPass_eq, bndE_ok, bndE_exc, bndE_none, evExpr_eq, kExpr_eq, evRet_eq, kRetS_eq, evRetN_eq, evIf_eq, kIf_eq, evSet_eq, kSet_eq, setR_some, cellOf_ro, cellOf_tmpF, cellOf_tmpT, effG_loc, effG_int, effG_str, effG_bl, effG_non, evFor_eq, bndI_ok, bndI_exc, kFor_eq, forD_nil, evIter_eq, kIter_str, evRng1_eq, evRng2_eq, kRng1_eq, kRng2_eq, evRaise_eq, evTryAs_eq, kTry_next, kTry_exc, evApp_eq, appR_oc, kApp_eq, mutR_oc, outS_next, outS_ret, outS_exc, fnR_ro, fnR_tmp, roD_nil, roD_cons, List.getElem?_cons_zero, List.getElem?_cons_succ, List.set_cons_zero, List.set_cons_succ, List.length_cons, List.length_nil, List.map_cons, List.map_nil, List.cons_append, List.nil_append, List.replicate_zero, List.replicate_succ, outS_none, evLc_eq, kLc_eq, evList_eq, evJoin_eq, kJoin_eq, evSplit_eq, kSplit_eq, kSplit2_eq, evRng3_eq, Nat.reduceLT, Nat.reduceAdd, Nat.reduceSub, if_true, if_false, Bool.false_eq_true, decide_true, decide_false, Bool.not_true, Bool.not_false, Bool.true_and, Bool.and_true, Bool.false_and, Bool.and_false, map_some', List.length_map, ev__law_figures, bf_abs, ha, hcF, hwh, cop_lt, decide_eq_true h0, ad]
  · have e : r = strI n := TL.ext_tl (by
      show r.cps.toList = (strI n).cps.toList
      rw [tl_pos (by omega), er])
    simp -implicitDefEqProofs only [retD_some, retD_none, retV_some, retV_none, bnd_ok, bnd_none, bnd_exc, d_ro, d_tmp, d_bor, evC_eq, evVar_eq, rdV_lc, rdV_oc, evOp2_eq, k2a_eq, k2b_ro, k2b_tmp, k2b_bor, evOp1_eq, k1_eq, evAdd_eq, kaa_eq, kab_ro, kab_tmp, kab_bor, addV_int, evChain_eq, kca_eq, kcb_ro, kcc_some, kcd_eq, cop'_eq, evAnd_eq, evOr_eq, kAnd_eq, kOr_eq, notD_eq, evNil_eq, evCons_eq, kCons_eq, kCons2_ro, kCons2_tmp, kCons2_bor, evTup_eq, kTup_eq, tupR_some, evLst_eq, kLst_eq, evSub_eq, ksa_eq, ksb_ro, ksb_tmp, ksb_bor, evSlc_eq, kla_eq, klb_eq, klc_eq, evNo_eq, evInt_eq, kInt_eq, evBi_eq, kBi_eq, evIsa_eq, evIsaT_eq, kIsa_eq, kIsaT_eq, evNew_eq, evCall_eq, kCall_eq, kRet_ret, kRet_exc, bkV_loc, bkV_tmp, bkV_int, bkV_str, bkV_bl, bkV_non, evSeq_eq, bndS_next, bndS_ret, bndS_exc, bndS_none, evPass_eq, bndE_ok, bndE_exc, bndE_none, evExpr_eq, kExpr_eq, evRet_eq, kRetS_eq, evRetN_eq, evIf_eq, kIf_eq, evSet_eq, kSet_eq, setR_some, cellOf_ro, cellOf_tmpF, cellOf_tmpT, effG_loc, effG_int, effG_str, effG_bl, effG_non, evFor_eq, bndI_ok, bndI_exc, kFor_eq, forD_nil, evIter_eq, kIter_str, evRng1_eq, evRng2_eq, kRng1_eq, kRng2_eq, evRaise_eq, evTryAs_eq, kTry_next, kTry_exc, evApp_eq, appR_oc, kApp_eq, mutR_oc, outS_next, outS_ret, outS_exc, fnR_ro, fnR_tmp, roD_nil, roD_cons, List.getElem?_cons_zero, List.getElem?_cons_succ, List.set_cons_zero, List.set_cons_succ, List.length_cons, List.length_nil, List.map_cons, List.map_nil, List.cons_append, List.nil_append, List.replicate_zero, List.replicate_succ, outS_none, evLc_eq, kLc_eq, evList_eq, evJoin_eq, kJoin_eq, evSplit_eq, kSplit_eq, kSplit2_eq, evRng3_eq, Nat.reduceLT, Nat.reduceAdd, Nat.reduceSub, if_true, if_false, Bool.false_eq_true, decide_true, decide_false, Bool.not_true, Bool.not_false, Bool.true_and, Bool.and_true, Bool.false_and, Bool.and_false, map_some', List.length_map, ev__law_figures, bf_abs, ha, hcF, hwh, cop_lt, decide_eq_false h0, e]

/-! ### sides, sizes -/
def Num (n : Int) : Prop := n.natAbs < 10 ^ 60
theorem side_run {c : Int} (hc : 0 ≤ c) : ∃ s : Int, run fn__law_side [.int c] = some (.ret (.ro .loc (.int s))) ∧ -(5 * 10 ^ 59) ≤ s ∧ s < 5 * 10 ^ 59 := by
  have q2 : ∀ x : Int, bop .mod (.int x) (.int 2) = some (.int (x % 2)) := fun x => mod_ok (by decide)
  have f2 : ∀ x : Int, bop .fdiv (.int x) (.int 2) = some (.int (x / 2)) := fun x => fdiv_ok (by decide) (wide_of (n := 2) (by decide) (by decide))
  have q9 : ∀ x : Int, bop .mod (.int x) (.int 9) = some (.int (x % 9)) := fun x => mod_ok (by decide)
  have p60 : bop .pow (.int 10) (.int 60) = some (.int (10 ^ 60)) := pow_ok (by decide) (by decide) (by decide)
  have p59 : bop .pow (.int 10) (.int 59) = some (.int (10 ^ 59)) := pow_ok (by decide) (by decide) (by decide)
  have m5 : bop .mul (.int 5) (.int (10 ^ 59)) = some (.int (5 * 10 ^ 59)) := mul_l (by decide)
  have q60 : ∀ x : Int, bop .mod (.int x) (.int (10 ^ 60)) = some (.int (x % 10 ^ 60)) := fun x => mod_ok (by decide)
  unfold fn__law_side
  by_cases h : c % 2 = 0
  · refine ⟨c / 2 % 9 - 4, ?_, by omega, by omega⟩
    rw [run_fnD]
    simp -implicitDefEqProofs only [retD_some, retD_none, retV_some, retV_none, bnd_ok, bnd_none, bnd_exc, d_ro, d_tmp, d_bor, evC_eq, evVar_eq, rdV_lc, rdV_oc, evOp2_eq, k2a_eq, k2b_ro, k2b_tmp, k2b_bor, evOp1_eq, k1_eq, evAdd_eq, kaa_eq, kab_ro, kab_tmp, kab_bor, addV_int, addV_str, evChain_eq, kca_eq, kcb_ro, kcc_some, kcd_eq, cop'_eq, evAnd_eq, evOr_eq, kAnd_eq, kOr_eq, notD_eq, evNil_eq, evCons_eq, kCons_eq, kCons2_ro, kCons2_tmp, kCons2_bor, evTup_eq, kTup_eq, tupR_some, evLst_eq, kLst_eq, evSub_eq, ksa_eq, ksb_ro, ksb_tmp, ksb_bor, evSlc_eq, kla_eq, klb_eq, klc_eq, evNo_eq, evInt_eq, kInt_eq, evBi_eq, kBi_eq, evIsa_eq, evIsaT_eq, kIsa_eq, kIsaT_eq, evNew_eq, evCall_eq, kCall_eq, kRet_ret, kRet_exc, bkV_loc, bkV_tmp, bkV_int, bkV_str, bkV_bl, bkV_non, evSeq_eq, bndS_next, bndS_ret, bndS_exc, bndS_none, evPass_eq, bndE_ok, bndE_exc, bndE_none, evExpr_eq, kExpr_eq, evRet_eq, kRetS_eq, evRetN_eq, evIf_eq, kIf_eq, evSet_eq, kSet_eq, setR_some, cellOf_ro, cellOf_tmpF, cellOf_tmpT, effG_loc, effG_int, effG_str, effG_bl, effG_non, evFor_eq, bndI_ok, bndI_exc, kFor_eq, forD_nil, evIter_eq, kIter_str, evRng1_eq, evRng2_eq, kRng1_eq, kRng2_eq, evRaise_eq, evTryAs_eq, kTry_next, kTry_exc, evApp_eq, appR_oc, kApp_eq, mutR_oc, outS_next, outS_ret, outS_exc, fnR_ro, fnR_tmp, roD_nil, roD_cons, List.getElem?_cons_zero, List.getElem?_cons_succ, List.set_cons_zero, List.set_cons_succ, List.length_cons, List.length_nil, List.map_cons, List.map_nil, List.cons_append, List.nil_append, List.replicate_zero, List.replicate_succ, outS_none, evLc_eq, kLc_eq, evList_eq, evJoin_eq, kJoin_eq, evSplit_eq, kSplit_eq, kSplit2_eq, evRng3_eq, Nat.reduceLT, Nat.reduceAdd, Nat.reduceSub, if_true, if_false, Bool.false_eq_true, decide_true, decide_false, Bool.not_true, Bool.not_false, Bool.true_and, Bool.and_true, Bool.false_and, Bool.and_false, map_some', List.length_map, ev__law_side, q2, f2, q9, cop_eqI, decide_eq_true h, bop_sub]
  · refine ⟨c / 2 % 10 ^ 60 - 5 * 10 ^ 59, ?_, by omega, by omega⟩
    rw [run_fnD]
    simp -implicitDefEqProofs only [retD_some, retD_none, retV_some, retV_none, bnd_ok, bnd_none, bnd_exc, d_ro, d_tmp, d_bor, evC_eq, evVar_eq, rdV_lc, rdV_oc, evOp2_eq, k2a_eq, k2b_ro, k2b_tmp, k2b_bor, evOp1_eq, k1_eq, evAdd_eq, kaa_eq, kab_ro, kab_tmp, kab_bor, addV_int, addV_str, evChain_eq, kca_eq, kcb_ro, kcc_some, kcd_eq, cop'_eq, evAnd_eq, evOr_eq, kAnd_eq, kOr_eq, notD_eq, evNil_eq, evCons_eq, kCons_eq, kCons2_ro, kCons2_tmp, kCons2_bor, evTup_eq, kTup_eq, tupR_some, evLst_eq, kLst_eq, evSub_eq, ksa_eq, ksb_ro, ksb_tmp, ksb_bor, evSlc_eq, kla_eq, klb_eq, klc_eq, evNo_eq, evInt_eq, kInt_eq, evBi_eq, kBi_eq, evIsa_eq, evIsaT_eq, kIsa_eq, kIsaT_eq, evNew_eq, evCall_eq, kCall_eq, kRet_ret, kRet_exc, bkV_loc, bkV_tmp, bkV_int, bkV_str, bkV_bl, bkV_non, evSeq_eq, bndS_next, bndS_ret, bndS_exc, bndS_none, evPass_eq, bndE_ok, bndE_exc, bndE_none, evExpr_eq, kExpr_eq, evRet_eq, kRetS_eq, evRetN_eq, evIf_eq, kIf_eq, evSet_eq, kSet_eq, setR_some, cellOf_ro, cellOf_tmpF, cellOf_tmpT, effG_loc, effG_int, effG_str, effG_bl, effG_non, evFor_eq, bndI_ok, bndI_exc, kFor_eq, forD_nil, evIter_eq, kIter_str, evRng1_eq, evRng2_eq, kRng1_eq, kRng2_eq, evRaise_eq, evTryAs_eq, kTry_next, kTry_exc, evApp_eq, appR_oc, kApp_eq, mutR_oc, outS_next, outS_ret, outS_exc, fnR_ro, fnR_tmp, roD_nil, roD_cons, List.getElem?_cons_zero, List.getElem?_cons_succ, List.set_cons_zero, List.set_cons_succ, List.length_cons, List.length_nil, List.map_cons, List.map_nil, List.cons_append, List.nil_append, List.replicate_zero, List.replicate_succ, outS_none, evLc_eq, kLc_eq, evList_eq, evJoin_eq, kJoin_eq, evSplit_eq, kSplit_eq, kSplit2_eq, evRng3_eq, Nat.reduceLT, Nat.reduceAdd, Nat.reduceSub, if_true, if_false, Bool.false_eq_true, decide_true, decide_false, Bool.not_true, Bool.not_false, Bool.true_and, Bool.and_true, Bool.false_and, Bool.and_false, map_some', List.length_map, ev__law_side, q2, f2, q60, p60, p59, m5, cop_eqI, decide_eq_false h, bop_sub]
theorem size_run {c : Int} (hc : 0 ≤ c) : ∃ s : Int, run fn__law_size [.int c] = some (.ret (.ro .loc (.int s))) ∧ 1 ≤ s ∧ s ≤ 4 * 10 ^ 59 := by
  have q2 : ∀ x : Int, bop .mod (.int x) (.int 2) = some (.int (x % 2)) := fun x => mod_ok (by decide)
  have f2 : ∀ x : Int, bop .fdiv (.int x) (.int 2) = some (.int (x / 2)) := fun x => fdiv_ok (by decide) (wide_of (n := 2) (by decide) (by decide))
  have q7 : ∀ x : Int, bop .mod (.int x) (.int 7) = some (.int (x % 7)) := fun x => mod_ok (by decide)
  have p59 : bop .pow (.int 10) (.int 59) = some (.int (10 ^ 59)) := pow_ok (by decide) (by decide) (by decide)
  have m4 : bop .mul (.int 4) (.int (10 ^ 59)) = some (.int (4 * 10 ^ 59)) := mul_l (by decide)
  have q4 : ∀ x : Int, bop .mod (.int x) (.int (4 * 10 ^ 59)) = some (.int (x % (4 * 10 ^ 59))) := fun x => mod_ok (by decide)
  unfold fn__law_size
  by_cases h : c % 2 = 0
  · refine ⟨1 + c / 2 % 7, ?_, by omega, by omega⟩
    rw [run_fnD]
    simp -implicitDefEqProofs only [retD_some, retD_none, retV_some, retV_none, bnd_ok, bnd_none, bnd_exc, d_ro, d_tmp, d_bor, evC_eq, evVar_eq, rdV_lc, rdV_oc, evOp2_eq, k2a_eq, k2b_ro, k2b_tmp, k2b_bor, evOp1_eq, k1_eq, evAdd_eq, kaa_eq, kab_ro, kab_tmp, kab_bor, addV_int, addV_str, evChain_eq, kca_eq, kcb_ro, kcc_some, kcd_eq, cop'_eq, evAnd_eq, evOr_eq, kAnd_eq, kOr_eq, notD_eq, evNil_eq, evCons_eq, kCons_eq, kCons2_ro, kCons2_tmp, kCons2_bor, evTup_eq, kTup_eq, tupR_some, evLst_eq, kLst_eq, evSub_eq, ksa_eq, ksb_ro, ksb_tmp, ksb_bor, evSlc_eq, kla_eq, klb_eq, klc_eq, evNo_eq, evInt_eq, kInt_eq, evBi_eq, kBi_eq, evIsa_eq, evIsaT_eq, kIsa_eq, kIsaT_eq, evNew_eq, evCall_eq, kCall_eq, kRet_ret, kRet_exc, bkV_loc, bkV_tmp, bkV_int, bkV_str, bkV_bl, bkV_non, evSeq_eq, bndS_next, bndS_ret, bndS_exc, bndS_none, evPass_eq, bndE_ok, bndE_exc, bndE_none, evExpr_eq, kExpr_eq, evRet_eq, kRetS_eq, evRetN_eq, evIf_eq, kIf_eq, evSet_eq, kSet_eq, setR_some, cellOf_ro, cellOf_tmpF, cellOf_tmpT, effG_loc, effG_int, effG_str, effG_bl, effG_non, evFor_eq, bndI_ok, bndI_exc, kFor_eq, forD_nil, evIter_eq, kIter_str, evRng1_eq, evRng2_eq, kRng1_eq, kRng2_eq, evRaise_eq, evTryAs_eq, kTry_next, kTry_exc, evApp_eq, appR_oc, kApp_eq, mutR_oc, outS_next, outS_ret, outS_exc, fnR_ro, fnR_tmp, roD_nil, roD_cons, List.getElem?_cons_zero, List.getElem?_cons_succ, List.set_cons_zero, List.set_cons_succ, List.length_cons, List.length_nil, List.map_cons, List.map_nil, List.cons_append, List.nil_append, List.replicate_zero, List.replicate_succ, outS_none, evLc_eq, kLc_eq, evList_eq, evJoin_eq, kJoin_eq, evSplit_eq, kSplit_eq, kSplit2_eq, evRng3_eq, Nat.reduceLT, Nat.reduceAdd, Nat.reduceSub, if_true, if_false, Bool.false_eq_true, decide_true, decide_false, Bool.not_true, Bool.not_false, Bool.true_and, Bool.and_true, Bool.false_and, Bool.and_false, map_some', List.length_map, ev__law_size, q2, f2, q7, cop_eqI, decide_eq_true h, bop_add]
  · refine ⟨1 + c / 2 % (4 * 10 ^ 59), ?_, by omega, by omega⟩
    rw [run_fnD]
    simp -implicitDefEqProofs only [retD_some, retD_none, retV_some, retV_none, bnd_ok, bnd_none, bnd_exc, d_ro, d_tmp, d_bor, evC_eq, evVar_eq, rdV_lc, rdV_oc, evOp2_eq, k2a_eq, k2b_ro, k2b_tmp, k2b_bor, evOp1_eq, k1_eq, evAdd_eq, kaa_eq, kab_ro, kab_tmp, kab_bor, addV_int, addV_str, evChain_eq, kca_eq, kcb_ro, kcc_some, kcd_eq, cop'_eq, evAnd_eq, evOr_eq, kAnd_eq, kOr_eq, notD_eq, evNil_eq, evCons_eq, kCons_eq, kCons2_ro, kCons2_tmp, kCons2_bor, evTup_eq, kTup_eq, tupR_some, evLst_eq, kLst_eq, evSub_eq, ksa_eq, ksb_ro, ksb_tmp, ksb_bor, evSlc_eq, kla_eq, klb_eq, klc_eq, evNo_eq, evInt_eq, kInt_eq, evBi_eq, kBi_eq, evIsa_eq, evIsaT_eq, kIsa_eq, kIsaT_eq, evNew_eq, evCall_eq, kCall_eq, kRet_ret, kRet_exc, bkV_loc, bkV_tmp, bkV_int, bkV_str, bkV_bl, bkV_non, evSeq_eq, bndS_next, bndS_ret, bndS_exc, bndS_none, evPass_eq, bndE_ok, bndE_exc, bndE_none, evExpr_eq, kExpr_eq, evRet_eq, kRetS_eq, evRetN_eq, evIf_eq, kIf_eq, evSet_eq, kSet_eq, setR_some, cellOf_ro, cellOf_tmpF, cellOf_tmpT, effG_loc, effG_int, effG_str, effG_bl, effG_non, evFor_eq, bndI_ok, bndI_exc, kFor_eq, forD_nil, evIter_eq, kIter_str, evRng1_eq, evRng2_eq, kRng1_eq, kRng2_eq, evRaise_eq, evTryAs_eq, kTry_next, kTry_exc, evApp_eq, appR_oc, kApp_eq, mutR_oc, outS_next, outS_ret, outS_exc, fnR_ro, fnR_tmp, roD_nil, roD_cons, List.getElem?_cons_zero, List.getElem?_cons_succ, List.set_cons_zero, List.set_cons_succ, List.length_cons, List.length_nil, List.map_cons, List.map_nil, List.cons_append, List.nil_append, List.replicate_zero, List.replicate_succ, outS_none, evLc_eq, kLc_eq, evList_eq, evJoin_eq, kJoin_eq, evSplit_eq, kSplit_eq, kSplit2_eq, evRng3_eq, Nat.reduceLT, Nat.reduceAdd, Nat.reduceSub, if_true, if_false, Bool.false_eq_true, decide_true, decide_false, Bool.not_true, Bool.not_false, Bool.true_and, Bool.and_true, Bool.false_and, Bool.and_false, map_some', List.length_map, ev__law_size, q2, f2, q4, p59, m4, cop_eqI, decide_eq_false h, bop_add]
/-! ### what is shown -/
theorem bstr {n : Int} (h : Num n) : bf .str [.int n] = some (.str (strI n)) := by
  rw [bf_str, if_pos]
  refine Nat.lt_of_lt_of_le h ?_
  exact Nat.le_trans (show 10 ^ 60 ≤ 2 ^ 200 by decide) (Nat.pow_le_pow_right (by decide) (by decide))
theorem comma1 : ("," : Str).length = 1 := by decide +kernel
theorem at0 {a b : D} : atI [a, b] 0 = some a := rfl
theorem at1 {a b : D} : atI [a, b] 1 = some b := rfl
def spot (a b : Int) : D := .tup [.int a, .int b]
theorem show_place_run {a b : Int} (ha : Num a) (hb : Num b) : run fn_show_place [spot a b] = some (.ret (.ro .loc (.str (strI a ++ "," ++ strI b)))) := by
  have la := dec_len ha
  have lb := dec_len hb
  have c1 := comma1
  have e1 := addV_ok (g := .loc) (g' := .loc) (x := strI a) (y := ("," : Str)) (by omega) (by omega)
  have e2 := addV_ok (g := .loc) (g' := .loc) (x := strI a ++ ",") (y := strI b) (by rw [app_len]; omega) (by omega)
  unfold fn_show_place spot
  rw [run_fnD]
  simp -implicitDefEqProofs only [retD_some, retD_none, retV_some, retV_none, bnd_ok, bnd_none, bnd_exc, d_ro, d_tmp, d_bor, evC_eq, evVar_eq, rdV_lc, rdV_oc, evOp2_eq, k2a_eq, k2b_ro, k2b_tmp, k2b_bor, evOp1_eq, k1_eq, evAdd_eq, kaa_eq, kab_ro, kab_tmp, kab_bor, addV_int, evChain_eq, kca_eq, kcb_ro, kcc_some, kcd_eq, cop'_eq, evAnd_eq, evOr_eq, kAnd_eq, kOr_eq, notD_eq, evNil_eq, evCons_eq, kCons_eq, kCons2_ro, kCons2_tmp, kCons2_bor, evTup_eq, kTup_eq, tupR_some, evLst_eq, kLst_eq, evSub_eq, ksa_eq, ksb_ro, ksb_tmp, ksb_bor, evSlc_eq, kla_eq, klb_eq, klc_eq, evNo_eq, evInt_eq, kInt_eq, evBi_eq, kBi_eq, evIsa_eq, evIsaT_eq, kIsa_eq, kIsaT_eq, evNew_eq, evCall_eq, kCall_eq, kRet_ret, kRet_exc, bkV_loc, bkV_tmp, bkV_int, bkV_str, bkV_bl, bkV_non, evSeq_eq, bndS_next, bndS_ret, bndS_exc, bndS_none, evPass_eq, bndE_ok, bndE_exc, bndE_none, evExpr_eq, kExpr_eq, evRet_eq, kRetS_eq, evRetN_eq, evIf_eq, kIf_eq, evSet_eq, kSet_eq, setR_some, cellOf_ro, cellOf_tmpF, cellOf_tmpT, effG_loc, effG_int, effG_str, effG_bl, effG_non, evFor_eq, bndI_ok, bndI_exc, kFor_eq, forD_nil, evIter_eq, kIter_str, evRng1_eq, evRng2_eq, kRng1_eq, kRng2_eq, evRaise_eq, evTryAs_eq, kTry_next, kTry_exc, evApp_eq, appR_oc, kApp_eq, mutR_oc, outS_next, outS_ret, outS_exc, fnR_ro, fnR_tmp, roD_nil, roD_cons, List.getElem?_cons_zero, List.getElem?_cons_succ, List.set_cons_zero, List.set_cons_succ, List.length_cons, List.length_nil, List.map_cons, List.map_nil, List.cons_append, List.nil_append, List.replicate_zero, List.replicate_succ, outS_none, evLc_eq, kLc_eq, evList_eq, evJoin_eq, kJoin_eq, evSplit_eq, kSplit_eq, kSplit2_eq, evRng3_eq, Nat.reduceLT, Nat.reduceAdd, Nat.reduceSub, if_true, if_false, Bool.false_eq_true, decide_true, decide_false, Bool.not_true, Bool.not_false, Bool.true_and, Bool.and_true, Bool.false_and, Bool.and_false, map_some', List.length_map, ev_show_place, sub_tup, at0, at1, bstr ha, bstr hb, e1, e2]
/-- numbers, parted -/
def nums (ns : List Int) : Str := Txt.join "," (ns.map strI)
theorem sum_len {α : Type} {f : α → Nat} {m : Nat} : ∀ {l : List α}, (∀ x ∈ l, f x ≤ m) → (l.map f).sum ≤ l.length * m
  | [], _ => by simp
  | x :: l, h => by
    have h1 := h x List.mem_cons_self
    have h2 := sum_len (l := l) fun y hy => h y (List.mem_cons_of_mem _ hy)
    rw [List.map_cons, List.sum_cons, List.length_cons, Nat.succ_mul]
    omega
theorem join_len (y : Str) : ∀ l : List Str, (Txt.join y l).length ≤ (l.map (fun z : Str => z.length)).sum + l.length * y.length := by
  intro l
  rw [TL.join_eq]
  induction l with
  | nil => show 0 ≤ _; omega
  | cons a l ih =>
    cases l with
    | nil =>
      show a.length ≤ _
      simp only [List.map_cons, List.map_nil, List.sum_cons, List.sum_nil, List.length_cons, List.length_nil]
      omega
    | cons b l =>
      show (a ++ y ++ PySem.Str.join y (b :: l)).length ≤ _
      rw [app_len, app_len, List.map_cons, List.sum_cons, List.length_cons, Nat.succ_mul]
      omega
theorem nums_sum {ns : List Int} (h : ∀ n ∈ ns, Num n) : ((ns.map strI).map (fun z : Str => z.length)).sum ≤ ns.length * 61 := by
  rw [List.map_map]
  exact sum_len fun x hx => dec_len (h x hx)
theorem nums_len {ns : List Int} (h : ∀ n ∈ ns, Num n) : (nums ns).length ≤ ns.length * 62 := by
  have h1 := join_len "," (ns.map strI)
  have h2 := nums_sum h
  rw [comma1, List.length_map] at h1
  unfold nums
  omega
theorem show_box_run {ns : List Int} (h : ∀ n ∈ ns, Num n) (hl : ns.length ≤ 100) : run fn_show_box [.tup (ns.map .int)] = some (.ret (.ro .loc (.str (nums ns)))) := by
  have hlc := lcD_map2 (ρ := [some (lcC .par (.tup (ns.map .int))), none]) (g := .loc) (fe := evBi (bf .str) (evCons true (evVar 1) evNil)) (i := 1) (f := D.int) (h := fun n => .ro .loc (.str (strI n))) (xs := ns) (acc := []) (by simp) fun n hn => ⟨[some (lcC .par (.tup (ns.map .int))), some (lcC .loc (.int n))], by
    simp -implicitDefEqProofs only [retD_some, retD_none, retV_some, retV_none, bnd_ok, bnd_none, bnd_exc, d_ro, d_tmp, d_bor, evC_eq, evVar_eq, rdV_lc, rdV_oc, evOp2_eq, k2a_eq, k2b_ro, k2b_tmp, k2b_bor, evOp1_eq, k1_eq, evAdd_eq, kaa_eq, kab_ro, kab_tmp, kab_bor, addV_int, addV_str, evChain_eq, kca_eq, kcb_ro, kcc_some, kcd_eq, cop'_eq, evAnd_eq, evOr_eq, kAnd_eq, kOr_eq, notD_eq, evNil_eq, evCons_eq, kCons_eq, kCons2_ro, kCons2_tmp, kCons2_bor, evTup_eq, kTup_eq, tupR_some, evLst_eq, kLst_eq, evSub_eq, ksa_eq, ksb_ro, ksb_tmp, ksb_bor, evSlc_eq, kla_eq, klb_eq, klc_eq, evNo_eq, evInt_eq, kInt_eq, evBi_eq, kBi_eq, evIsa_eq, evIsaT_eq, kIsa_eq, kIsaT_eq, evNew_eq, evCall_eq, kCall_eq, kRet_ret, kRet_exc, bkV_loc, bkV_tmp, bkV_int, bkV_str, bkV_bl, bkV_non, evSeq_eq, bndS_next, bndS_ret, bndS_exc, bndS_none, evPass_eq, bndE_ok, bndE_exc, bndE_none, evExpr_eq, kExpr_eq, evRet_eq, kRetS_eq, evRetN_eq, evIf_eq, kIf_eq, evSet_eq, kSet_eq, setR_some, cellOf_ro, cellOf_tmpF, cellOf_tmpT, effG_loc, effG_int, effG_str, effG_bl, effG_non, evFor_eq, bndI_ok, bndI_exc, kFor_eq, forD_nil, evIter_eq, kIter_str, evRng1_eq, evRng2_eq, kRng1_eq, kRng2_eq, evRaise_eq, evTryAs_eq, kTry_next, kTry_exc, evApp_eq, appR_oc, kApp_eq, mutR_oc, outS_next, outS_ret, outS_exc, fnR_ro, fnR_tmp, roD_nil, roD_cons, List.getElem?_cons_zero, List.getElem?_cons_succ, List.set_cons_zero, List.set_cons_succ, List.length_cons, List.length_nil, List.map_cons, List.map_nil, List.cons_append, List.nil_append, List.replicate_zero, List.replicate_succ, outS_none, evLc_eq, kLc_eq, evList_eq, evJoin_eq, kJoin_eq, evSplit_eq, kSplit_eq, kSplit2_eq, evRng3_eq, Nat.reduceLT, Nat.reduceAdd, Nat.reduceSub, if_true, if_false, Bool.false_eq_true, decide_true, decide_false, Bool.not_true, Bool.not_false, Bool.true_and, Bool.and_true, Bool.false_and, Bool.and_false, map_some', List.length_map, bstr (h n hn)]⟩
  rw [List.nil_append] at hlc
  have hmk : mkLst (ns.map fun n => Val.ro .loc (.str (strI n))) = some (.tmp .loc (.lst ((ns.map strI).map .str))) := by
    rw [mkLst_map (f := fun n => D.str (strI n)) fun _ _ => rfl, List.map_map]; rfl
  have hno : noOwn [some (lcC .par (.tup (ns.map .int))), none] [1] = true := rfl
  have hw : wipeE [some (lcC .par (.tup (ns.map .int))), none] [1] = [some (lcC .par (.tup (ns.map .int))), none] := rfl
  have hit : kIter (.ro .par (.tup (ns.map .int))) [some (lcC .par (.tup (ns.map .int))), none] = some (.ok (.loc, ns.map .int) [some (lcC .par (.tup (ns.map .int))), none]) := kIter_tup (by simp [D.flat]) (by simp [D.leaf])
  have hs := nums_sum h
  have hj : ∀ ρ, kJoin2 "," (.tmp .loc (.lst ((ns.map strI).map .str))) ρ = some (.ok (.ro .loc (.str (nums ns))) ρ) := fun ρ => kJoin2_eq rfl (by
    have : lim = 1000000 := rfl
    rw [comma1, List.length_map]
    omega)
  unfold fn_show_box
  rw [run_fnD]
  simp -implicitDefEqProofs only [retD_some, retD_none, retV_some, retV_none, bnd_ok, bnd_none, bnd_exc, d_ro, d_tmp, d_bor, evC_eq, evVar_eq, rdV_lc, rdV_oc, evOp2_eq, k2a_eq, k2b_ro, k2b_tmp, k2b_bor, evOp1_eq, k1_eq, evAdd_eq, kaa_eq, kab_ro, kab_tmp, kab_bor, addV_int, addV_str, evChain_eq, kca_eq, kcb_ro, kcc_some, kcd_eq, cop'_eq, evAnd_eq, evOr_eq, kAnd_eq, kOr_eq, notD_eq, evNil_eq, evCons_eq, kCons_eq, kCons2_ro, kCons2_tmp, kCons2_bor, evTup_eq, kTup_eq, tupR_some, evLst_eq, kLst_eq, evSub_eq, ksa_eq, ksb_ro, ksb_tmp, ksb_bor, evSlc_eq, kla_eq, klb_eq, klc_eq, evNo_eq, evInt_eq, kInt_eq, evBi_eq, kBi_eq, evIsa_eq, evIsaT_eq, kIsa_eq, kIsaT_eq, evNew_eq, evCall_eq, kCall_eq, kRet_ret, kRet_exc, bkV_loc, bkV_tmp, bkV_int, bkV_str, bkV_bl, bkV_non, evSeq_eq, bndS_next, bndS_ret, bndS_exc, bndS_none, evPass_eq, bndE_ok, bndE_exc, bndE_none, evExpr_eq, kExpr_eq, evRet_eq, kRetS_eq, evRetN_eq, evIf_eq, kIf_eq, evSet_eq, kSet_eq, setR_some, cellOf_ro, cellOf_tmpF, cellOf_tmpT, effG_loc, effG_int, effG_str, effG_bl, effG_non, evFor_eq, bndI_ok, bndI_exc, kFor_eq, forD_nil, evIter_eq, kIter_str, evRng1_eq, evRng2_eq, kRng1_eq, kRng2_eq, evRaise_eq, evTryAs_eq, kTry_next, kTry_exc, evApp_eq, appR_oc, kApp_eq, mutR_oc, outS_next, outS_ret, outS_exc, fnR_ro, fnR_tmp, roD_nil, roD_cons, List.getElem?_cons_zero, List.getElem?_cons_succ, List.set_cons_zero, List.set_cons_succ, List.length_cons, List.length_nil, List.map_cons, List.map_nil, List.cons_append, List.nil_append, List.replicate_zero, List.replicate_succ, outS_none, evLc_eq, kLc_eq, evList_eq, evJoin_eq, kJoin_eq, evSplit_eq, kSplit_eq, kSplit2_eq, evRng3_eq, Nat.reduceLT, Nat.reduceAdd, Nat.reduceSub, if_true, if_false, Bool.false_eq_true, decide_true, decide_false, Bool.not_true, Bool.not_false, Bool.true_and, Bool.and_true, Bool.false_and, Bool.and_false, map_some', List.length_map, ev_show_box, hit, hno, hw, decide_eq_true (nat_le_lim (n := ns.length) (by omega)), hlc, Option.bind_some, hmk, hj]

/-! ### what is read -/
theorem commaL : ("," : Str).cps.toList = [44] := by decide +kernel
theorem plusL : ("+" : Str).cps.toList = [43] := by decide +kernel
theorem commaK : ("," : Str).cps.all (· < 256) = true := by decide +kernel
theorem plusK : ("+" : Str).cps.all (· < 256) = true := by decide +kernel
theorem nums_split {ns : List Int} (hne : ns ≠ []) : Txt.split (nums ns) "," = ns.map strI := TL.split_join (s := 44) (S := []) commaL commaK (by simpa using hne) fun p hp => by
  obtain ⟨n, _, rfl⟩ := List.mem_map.mp hp
  exact dec_free (by omega)
theorem read_numbers_run {ns : List Int} (h : ∀ n ∈ ns, Num n) (hne : ns ≠ []) (hl : ns.length ≤ 100) : run fn_read_numbers [.str (nums ns), .int ns.length] = some (.ret (.tmp .loc (.lst (ns.map .int)))) := by
  have hsp := nums_split hne
  have hlen := nums_len h
  have hlim : lim = 1000000 := rfl
  have a1 : okX gb.cs (.str (nums ns)) = true := rfl
  have a2 : isa gb.cs (.str (nums ns)) (.ty .str) = some true := rfl
  have e0 : ∀ y : Option Cell, (wipeE [some (lcC .par (.str (nums ns))), some (lcC .par (.int ns.length)), some (lcC .loc (.lst ((ns.map strI).map .str))), y] [3]) = [some (lcC .par (.str (nums ns))), some (lcC .par (.int ns.length)), some (lcC .loc (.lst ((ns.map strI).map .str))), none] := fun _ => rfl
  have hlc := lcD_map2 (ρ := [some (lcC .par (.str (nums ns))), some (lcC .par (.int ns.length)), some (lcC .loc (.lst ((ns.map strI).map .str))), none]) (g := .loc) (fe := evCall 1 fn_read_number (evCons true (evVar 3) evNil)) (i := 3) (f := fun n => D.str (strI n)) (h := fun n => .ro .loc (.int n)) (xs := ns) (acc := []) (by simp) fun n hn => ⟨_, by
    simp -implicitDefEqProofs only [retD_some, retD_none, retV_some, retV_none, bnd_ok, bnd_none, bnd_exc, d_ro, d_tmp, d_bor, evC_eq, evVar_eq, rdV_lc, rdV_oc, evOp2_eq, k2a_eq, k2b_ro, k2b_tmp, k2b_bor, evOp1_eq, k1_eq, evAdd_eq, kaa_eq, kab_ro, kab_tmp, kab_bor, addV_int, addV_str, evChain_eq, kca_eq, kcb_ro, kcc_some, kcd_eq, cop'_eq, evAnd_eq, evOr_eq, kAnd_eq, kOr_eq, notD_eq, evNil_eq, evCons_eq, kCons_eq, kCons2_ro, kCons2_tmp, kCons2_bor, evTup_eq, kTup_eq, tupR_some, evLst_eq, kLst_eq, evSub_eq, ksa_eq, ksb_ro, ksb_tmp, ksb_bor, evSlc_eq, kla_eq, klb_eq, klc_eq, evNo_eq, evInt_eq, kInt_eq, evBi_eq, kBi_eq, evIsa_eq, evIsaT_eq, kIsa_eq, kIsaT_eq, evNew_eq, evCall_eq, kCall_eq, kRet_ret, kRet_exc, bkV_loc, bkV_tmp, bkV_int, bkV_str, bkV_bl, bkV_non, evSeq_eq, bndS_next, bndS_ret, bndS_exc, bndS_none, evPass_eq, bndE_ok, bndE_exc, bndE_none, evExpr_eq, kExpr_eq, evRet_eq, kRetS_eq, evRetN_eq, evIf_eq, kIf_eq, evSet_eq, kSet_eq, setR_some, cellOf_ro, cellOf_tmpF, cellOf_tmpT, effG_loc, effG_int, effG_str, effG_bl, effG_non, evFor_eq, bndI_ok, bndI_exc, kFor_eq, forD_nil, evIter_eq, kIter_str, evRng1_eq, evRng2_eq, kRng1_eq, kRng2_eq, evRaise_eq, evTryAs_eq, kTry_next, kTry_exc, evApp_eq, appR_oc, kApp_eq, mutR_oc, outS_next, outS_ret, outS_exc, fnR_ro, fnR_tmp, roD_nil, roD_cons, List.getElem?_cons_zero, List.getElem?_cons_succ, List.set_cons_zero, List.set_cons_succ, List.length_cons, List.length_nil, List.map_cons, List.map_nil, List.cons_append, List.nil_append, List.replicate_zero, List.replicate_succ, outS_none, evLc_eq, kLc_eq, evList_eq, evJoin_eq, kJoin_eq, evSplit_eq, kSplit_eq, kSplit2_eq, evRng3_eq, Nat.reduceLT, Nat.reduceAdd, Nat.reduceSub, if_true, if_false, Bool.false_eq_true, decide_true, decide_false, Bool.not_true, Bool.not_false, Bool.true_and, Bool.and_true, Bool.false_and, Bool.and_false, map_some', List.length_map, read_dec (h n hn)]
    rfl⟩
  rw [List.nil_append] at hlc
  have hmk : mkLst (ns.map fun n => Val.ro .loc (.int n)) = some (.tmp .loc (.lst (ns.map .int))) := mkLst_map (f := fun n => D.int n) fun _ _ => rfl
  have hno : ∀ c : Cell, noOwn [some (lcC .par (.str (nums ns))), some (lcC .par (.int ns.length)), some c, none] [3] = true := fun _ => rfl
  have hmm : (ns.map strI).map D.str = ns.map fun n => D.str (strI n) := by rw [List.map_map]; rfl
  have hit : ∀ ρ, kIter (.ro .loc (.lst ((ns.map strI).map .str))) ρ = some (.ok (.loc, (ns.map strI).map .str) ρ) := fun ρ => kIter_lst (by simp [D.leaf])
  have hlc2 : lcD (.one 3) none (evCall 1 fn_read_number (evCons true (evVar 3) evNil)) .loc ((ns.map strI).map .str) [some (lcC .par (.str (nums ns))), some (lcC .par (.int ns.length)), some (lcC .loc (.lst ((ns.map strI).map .str))), none] [] = some (ns.map fun n => Val.ro .loc (.int n)) := by
    rw [hmm]
    rw [← hmm]
    rw [hmm] at hlc ⊢
    exact hlc
  have hc : ("," : Str).length ≠ 0 ∧ (nums ns).length ≤ lim := ⟨by rw [comma1]; decide, by omega⟩
  have hlL : bf .len [.lst ((ns.map strI).map .str)] = some (.int ns.length) := by rw [bf_lenL, List.length_map, List.length_map]
  have hne2 : cop .ne (.int ns.length) (.int ns.length) = some false := by rw [cop_neI, decide_eq_true rfl]; rfl
  have hle : decide (((ns.map strI).map D.str).length ≤ lim) = true := decide_eq_true (by rw [List.length_map, List.length_map]; exact nat_le_lim (by omega))
  unfold fn_read_numbers
  rw [run_fnD]
  simp -implicitDefEqProofs only [retD_some, retD_none, retV_some, retV_none, bnd_ok, bnd_none, bnd_exc, d_ro, d_tmp, d_bor, evC_eq, evVar_eq, rdV_lc, rdV_oc, evOp2_eq, k2a_eq, k2b_ro, k2b_tmp, k2b_bor, evOp1_eq, k1_eq, evAdd_eq, kaa_eq, kab_ro, kab_tmp, kab_bor, addV_int, addV_str, evChain_eq, kca_eq, kcb_ro, kcc_some, kcd_eq, cop'_eq, evAnd_eq, evOr_eq, kAnd_eq, kOr_eq, notD_eq, evNil_eq, evCons_eq, kCons_eq, kCons2_ro, kCons2_tmp, kCons2_bor, evTup_eq, kTup_eq, tupR_some, evLst_eq, kLst_eq, evSub_eq, ksa_eq, ksb_ro, ksb_tmp, ksb_bor, evSlc_eq, kla_eq, klb_eq, klc_eq, evNo_eq, evInt_eq, kInt_eq, evBi_eq, kBi_eq, evIsa_eq, evIsaT_eq, kIsa_eq, kIsaT_eq, evNew_eq, evCall_eq, kCall_eq, kRet_ret, kRet_exc, bkV_loc, bkV_tmp, bkV_int, bkV_str, bkV_bl, bkV_non, evSeq_eq, bndS_next, bndS_ret, bndS_exc, bndS_none, evPass_eq, bndE_ok, bndE_exc, bndE_none, evExpr_eq, kExpr_eq, evRet_eq, kRetS_eq, evRetN_eq, evIf_eq, kIf_eq, evSet_eq, kSet_eq, setR_some, cellOf_ro, cellOf_tmpF, cellOf_tmpT, effG_loc, effG_int, effG_str, effG_bl, effG_non, evFor_eq, bndI_ok, bndI_exc, kFor_eq, forD_nil, evIter_eq, kIter_str, evRng1_eq, evRng2_eq, kRng1_eq, kRng2_eq, evRaise_eq, evTryAs_eq, kTry_next, kTry_exc, evApp_eq, appR_oc, kApp_eq, mutR_oc, outS_next, outS_ret, outS_exc, fnR_ro, fnR_tmp, roD_nil, roD_cons, List.getElem?_cons_zero, List.getElem?_cons_succ, List.set_cons_zero, List.set_cons_succ, List.length_cons, List.length_nil, List.map_cons, List.map_nil, List.cons_append, List.nil_append, List.replicate_zero, List.replicate_succ, outS_none, evLc_eq, kLc_eq, evList_eq, evJoin_eq, kJoin_eq, evSplit_eq, kSplit_eq, kSplit2_eq, evRng3_eq, Nat.reduceLT, Nat.reduceAdd, Nat.reduceSub, if_true, if_false, Bool.false_eq_true, decide_true, decide_false, Bool.not_true, Bool.not_false, Bool.true_and, Bool.and_true, Bool.false_and, Bool.and_false, map_some', List.length_map, ev_read_numbers, a1, a2, if_pos hc, hsp, hlL, hne2, hit, hno, decide_eq_true (nat_le_lim (n := ns.length) (by omega)), e0, hlc2, Option.bind_some, hmk]
theorem num_spot {a b : Int} (ha : Num a) (hb : Num b) : ∀ n ∈ [a, b], Num n := fun n hn => by
  rcases List.mem_cons.mp hn with rfl | hn
  · exact ha
  · rw [List.mem_singleton.mp hn]; exact hb
theorem nums2 (a b : Int) : nums [a, b] = strI a ++ "," ++ strI b := by
  unfold nums
  rw [TL.join_eq]; rfl
theorem read_place_run {a b : Int} (ha : Num a) (hb : Num b) : run fn_read_place [.str (strI a ++ "," ++ strI b)] = some (.ret (.ro .loc (spot a b))) := by
  have hr := read_numbers_run (ns := [a, b]) (num_spot ha hb) (by simp) (by simp)
  rw [nums2] at hr
  have hr2 : run fn_read_numbers [.str (strI a ++ "," ++ strI b), .int 2] = some (.ret (.tmp .loc (.lst [.int a, .int b]))) := hr
  have fz : frzAll [.ro .loc (.int a), .ro .loc (.int b)] = some (.loc, [.int a, .int b]) := rfl
  unfold fn_read_place spot
  rw [run_fnD]
  simp -implicitDefEqProofs only [retD_some, retD_none, retV_some, retV_none, bnd_ok, bnd_none, bnd_exc, d_ro, d_tmp, d_bor, evC_eq, evVar_eq, rdV_lc, rdV_oc, evOp2_eq, k2a_eq, k2b_ro, k2b_tmp, k2b_bor, evOp1_eq, k1_eq, evAdd_eq, kaa_eq, kab_ro, kab_tmp, kab_bor, addV_int, addV_str, evChain_eq, kca_eq, kcb_ro, kcc_some, kcd_eq, cop'_eq, evAnd_eq, evOr_eq, kAnd_eq, kOr_eq, notD_eq, evNil_eq, evCons_eq, kCons_eq, kCons2_ro, kCons2_tmp, kCons2_bor, evTup_eq, kTup_eq, tupR_some, evLst_eq, kLst_eq, evSub_eq, ksa_eq, ksb_ro, ksb_tmp, ksb_bor, evSlc_eq, kla_eq, klb_eq, klc_eq, evNo_eq, evInt_eq, kInt_eq, evBi_eq, kBi_eq, evIsa_eq, evIsaT_eq, kIsa_eq, kIsaT_eq, evNew_eq, evCall_eq, kCall_eq, kRet_ret, kRet_exc, bkV_loc, bkV_tmp, bkV_int, bkV_str, bkV_bl, bkV_non, evSeq_eq, bndS_next, bndS_ret, bndS_exc, bndS_none, evPass_eq, bndE_ok, bndE_exc, bndE_none, evExpr_eq, kExpr_eq, evRet_eq, kRetS_eq, evRetN_eq, evIf_eq, kIf_eq, evSet_eq, kSet_eq, setR_some, cellOf_ro, cellOf_tmpF, cellOf_tmpT, effG_loc, effG_int, effG_str, effG_bl, effG_non, evFor_eq, bndI_ok, bndI_exc, kFor_eq, forD_nil, evIter_eq, kIter_str, evRng1_eq, evRng2_eq, kRng1_eq, kRng2_eq, evRaise_eq, evTryAs_eq, kTry_next, kTry_exc, evApp_eq, appR_oc, kApp_eq, mutR_oc, outS_next, outS_ret, outS_exc, fnR_ro, fnR_tmp, roD_nil, roD_cons, List.getElem?_cons_zero, List.getElem?_cons_succ, List.set_cons_zero, List.set_cons_succ, List.length_cons, List.length_nil, List.map_cons, List.map_nil, List.cons_append, List.nil_append, List.replicate_zero, List.replicate_succ, outS_none, evLc_eq, kLc_eq, evList_eq, evJoin_eq, kJoin_eq, evSplit_eq, kSplit_eq, kSplit2_eq, evRng3_eq, Nat.reduceLT, Nat.reduceAdd, Nat.reduceSub, if_true, if_false, Bool.false_eq_true, decide_true, decide_false, Bool.not_true, Bool.not_false, Bool.true_and, Bool.and_true, Bool.false_and, Bool.and_false, map_some', List.length_map, ev_read_place, hr2, sub_lst, at0, at1, fz, show (0 + 1 + 1 : Nat) ≤ lim from by decide, show (2 : Nat) ≤ lim from by decide]
theorem whole_run {n : Int} : run fn__law_whole [.int n] = some (.ret (.ro .loc (.bl true))) := by
  unfold fn__law_whole
  rw [run_fnD]
  have a1 : okX gb.cs (.int n) = true := rfl
  have a2 : isa gb.cs (.int n) (.ty .int) = some true := rfl
  have a3 : isa gb.cs (.int n) (.ty .bool) = some false := rfl
  simp -implicitDefEqProofs only [retD_some, retD_none, retV_some, retV_none, bnd_ok, bnd_none, bnd_exc, d_ro, d_tmp, d_bor, evC_eq, evVar_eq, rdV_lc, rdV_oc, evOp2_eq, k2a_eq, k2b_ro, k2b_tmp, k2b_bor, evOp1_eq, k1_eq, evAdd_eq, kaa_eq, kab_ro, kab_tmp, kab_bor, addV_int, addV_str, evChain_eq, kca_eq, kcb_ro, kcc_some, kcd_eq, cop'_eq, evAnd_eq, evOr_eq, kAnd_eq, kOr_eq, notD_eq, evNil_eq, evCons_eq, kCons_eq, kCons2_ro, kCons2_tmp, kCons2_bor, evTup_eq, kTup_eq, tupR_some, evLst_eq, kLst_eq, evSub_eq, ksa_eq, ksb_ro, ksb_tmp, ksb_bor, evSlc_eq, kla_eq, klb_eq, klc_eq, evNo_eq, evInt_eq, kInt_eq, evBi_eq, kBi_eq, evIsa_eq, evIsaT_eq, kIsa_eq, kIsaT_eq, evNew_eq, evCall_eq, kCall_eq, kRet_ret, kRet_exc, bkV_loc, bkV_tmp, bkV_int, bkV_str, bkV_bl, bkV_non, evSeq_eq, bndS_next, bndS_ret, bndS_exc, bndS_none, evPass_eq, bndE_ok, bndE_exc, bndE_none, evExpr_eq, kExpr_eq, evRet_eq, kRetS_eq, evRetN_eq, evIf_eq, kIf_eq, evSet_eq, kSet_eq, setR_some, cellOf_ro, cellOf_tmpF, cellOf_tmpT, effG_loc, effG_int, effG_str, effG_bl, effG_non, evFor_eq, bndI_ok, bndI_exc, kFor_eq, forD_nil, evIter_eq, kIter_str, evRng1_eq, evRng2_eq, kRng1_eq, kRng2_eq, evRaise_eq, evTryAs_eq, kTry_next, kTry_exc, evApp_eq, appR_oc, kApp_eq, mutR_oc, outS_next, outS_ret, outS_exc, fnR_ro, fnR_tmp, roD_nil, roD_cons, List.getElem?_cons_zero, List.getElem?_cons_succ, List.set_cons_zero, List.set_cons_succ, List.length_cons, List.length_nil, List.map_cons, List.map_nil, List.cons_append, List.nil_append, List.replicate_zero, List.replicate_succ, outS_none, evLc_eq, kLc_eq, evList_eq, evJoin_eq, kJoin_eq, evSplit_eq, kSplit_eq, kSplit2_eq, evRng3_eq, Nat.reduceLT, Nat.reduceAdd, Nat.reduceSub, if_true, if_false, Bool.false_eq_true, decide_true, decide_false, Bool.not_true, Bool.not_false, Bool.true_and, Bool.and_true, Bool.false_and, Bool.and_false, map_some', List.length_map, ev__law_whole, a1, a2, a3]
theorem range_ints (n : Nat) : rangeD 0 n = (List.range n).map fun (k : Nat) => D.int k := by
  unfold rangeD
  congr 1; funext k
  rw [Int.zero_add]
theorem whole_turns (ns : List Int) : ∀ (ks : List Nat) (h : ∀ k ∈ ks, k < ns.length) (e2 : Option Cell), ∃ b2, forD (.one 2) lb__law_whole_ones_1 .loc (ks.map fun (k : Nat) => D.int k) [some (lcC .par (.tup (ns.map .int))), some (lcC .par (.tup (ns.map .int))), e2] = some (.next [some (lcC .par (.tup (ns.map .int))), some (lcC .par (.tup (ns.map .int))), b2])
  | [], _, e2 => ⟨e2, rfl⟩
  | k :: ks, h, e2 => by
    have hk := h k List.mem_cons_self
    obtain ⟨b2, ih⟩ := whole_turns ns ks (fun j hj => h j (List.mem_cons_of_mem _ hj)) (some (lcC .loc (.int k)))
    have ha : atI (ns.map D.int) (k : Int) = some (.int ns[k]) := at_get (by omega) (by simp [hk])
    have e5 : cop .ne (.int ns[k]) (.int ns[k]) = some false := by rw [cop_neI, decide_eq_true rfl]; rfl
    refine ⟨b2, ?_⟩
    rw [List.map_cons, forD_cons1 (by simp)]
    simp -implicitDefEqProofs only [retD_some, retD_none, retV_some, retV_none, bnd_ok, bnd_none, bnd_exc, d_ro, d_tmp, d_bor, evC_eq, evVar_eq, rdV_lc, rdV_oc, evOp2_eq, k2a_eq, k2b_ro, k2b_tmp, k2b_bor, evOp1_eq, k1_eq, evAdd_eq, kaa_eq, kab_ro, kab_tmp, kab_bor, addV_int, addV_str, evChain_eq, kca_eq, kcb_ro, kcc_some, kcd_eq, cop'_eq, evAnd_eq, evOr_eq, kAnd_eq, kOr_eq, notD_eq, evNil_eq, evCons_eq, kCons_eq, kCons2_ro, kCons2_tmp, kCons2_bor, evTup_eq, kTup_eq, tupR_some, evLst_eq, kLst_eq, evSub_eq, ksa_eq, ksb_ro, ksb_tmp, ksb_bor, evSlc_eq, kla_eq, klb_eq, klc_eq, evNo_eq, evInt_eq, kInt_eq, evBi_eq, kBi_eq, evIsa_eq, evIsaT_eq, kIsa_eq, kIsaT_eq, evNew_eq, evCall_eq, kCall_eq, kRet_ret, kRet_exc, bkV_loc, bkV_tmp, bkV_int, bkV_str, bkV_bl, bkV_non, evSeq_eq, bndS_next, bndS_ret, bndS_exc, bndS_none, evPass_eq, bndE_ok, bndE_exc, bndE_none, evExpr_eq, kExpr_eq, evRet_eq, kRetS_eq, evRetN_eq, evIf_eq, kIf_eq, evSet_eq, kSet_eq, setR_some, cellOf_ro, cellOf_tmpF, cellOf_tmpT, effG_loc, effG_int, effG_str, effG_bl, effG_non, evFor_eq, bndI_ok, bndI_exc, kFor_eq, forD_nil, evIter_eq, kIter_str, evRng1_eq, evRng2_eq, kRng1_eq, kRng2_eq, evRaise_eq, evTryAs_eq, kTry_next, kTry_exc, evApp_eq, appR_oc, kApp_eq, mutR_oc, outS_next, outS_ret, outS_exc, fnR_ro, fnR_tmp, roD_nil, roD_cons, List.getElem?_cons_zero, List.getElem?_cons_succ, List.set_cons_zero, List.set_cons_succ, List.length_cons, List.length_nil, List.map_cons, List.map_nil, List.cons_append, List.nil_append, List.replicate_zero, List.replicate_succ, outS_none, evLc_eq, kLc_eq, evList_eq, evJoin_eq, kJoin_eq, evSplit_eq, kSplit_eq, kSplit2_eq, evRng3_eq, Nat.reduceLT, Nat.reduceAdd, Nat.reduceSub, if_true, if_false, Bool.false_eq_true, decide_true, decide_false, Bool.not_true, Bool.not_false, Bool.true_and, Bool.and_true, Bool.false_and, Bool.and_false, map_some', List.length_map, lb__law_whole_ones_1_q, sub_tup, ha, whole_run, e5, ih]
theorem whole_ones_run {ns : List Int} (hl : ns.length ≤ 100) : run fn__law_whole_ones [.tup (ns.map .int), .tup (ns.map .int)] = some (.ret (.ro .loc (.bl true))) := by
  have a1 : okX gb.cs (.tup (ns.map .int)) = true := rfl
  have a2 : isa gb.cs (.tup (ns.map .int)) (.ty .tuple) = some true := rfl
  have e5 : cop .ne (.int ns.length) (.int ns.length) = some false := by rw [cop_neI, decide_eq_true rfl]; rfl
  have s62 : small62 ns.length = true := by
    unfold small62
    rw [decide_eq_true (by omega), decide_eq_true (by omega)]; rfl
  obtain ⟨b2, ht⟩ := whole_turns ns (List.range ns.length) (fun k hk => List.mem_range.mp hk) none
  have hr : rangeD 0 ((ns.length : Int)).toNat = (List.range ns.length).map fun (k : Nat) => D.int k := by rw [Int.toNat_natCast, range_ints]
  unfold fn__law_whole_ones
  rw [run_fnD]
  simp -implicitDefEqProofs only [retD_some, retD_none, retV_some, retV_none, bnd_ok, bnd_none, bnd_exc, d_ro, d_tmp, d_bor, evC_eq, evVar_eq, rdV_lc, rdV_oc, evOp2_eq, k2a_eq, k2b_ro, k2b_tmp, k2b_bor, evOp1_eq, k1_eq, evAdd_eq, kaa_eq, kab_ro, kab_tmp, kab_bor, addV_int, addV_str, evChain_eq, kca_eq, kcb_ro, kcc_some, kcd_eq, cop'_eq, evAnd_eq, evOr_eq, kAnd_eq, kOr_eq, notD_eq, evNil_eq, evCons_eq, kCons_eq, kCons2_ro, kCons2_tmp, kCons2_bor, evTup_eq, kTup_eq, tupR_some, evLst_eq, kLst_eq, evSub_eq, ksa_eq, ksb_ro, ksb_tmp, ksb_bor, evSlc_eq, kla_eq, klb_eq, klc_eq, evNo_eq, evInt_eq, kInt_eq, evBi_eq, kBi_eq, evIsa_eq, evIsaT_eq, kIsa_eq, kIsaT_eq, evNew_eq, evCall_eq, kCall_eq, kRet_ret, kRet_exc, bkV_loc, bkV_tmp, bkV_int, bkV_str, bkV_bl, bkV_non, evSeq_eq, bndS_next, bndS_ret, bndS_exc, bndS_none, evPass_eq, bndE_ok, bndE_exc, bndE_none, evExpr_eq, kExpr_eq, evRet_eq, kRetS_eq, evRetN_eq, evIf_eq, kIf_eq, evSet_eq, kSet_eq, setR_some, cellOf_ro, cellOf_tmpF, cellOf_tmpT, effG_loc, effG_int, effG_str, effG_bl, effG_non, evFor_eq, bndI_ok, bndI_exc, kFor_eq, forD_nil, evIter_eq, kIter_str, evRng1_eq, evRng2_eq, kRng1_eq, kRng2_eq, evRaise_eq, evTryAs_eq, kTry_next, kTry_exc, evApp_eq, appR_oc, kApp_eq, mutR_oc, outS_next, outS_ret, outS_exc, fnR_ro, fnR_tmp, roD_nil, roD_cons, List.getElem?_cons_zero, List.getElem?_cons_succ, List.set_cons_zero, List.set_cons_succ, List.length_cons, List.length_nil, List.map_cons, List.map_nil, List.cons_append, List.nil_append, List.replicate_zero, List.replicate_succ, outS_none, evLc_eq, kLc_eq, evList_eq, evJoin_eq, kJoin_eq, evSplit_eq, kSplit_eq, kSplit2_eq, evRng3_eq, Nat.reduceLT, Nat.reduceAdd, Nat.reduceSub, if_true, if_false, Bool.false_eq_true, decide_true, decide_false, Bool.not_true, Bool.not_false, Bool.true_and, Bool.and_true, Bool.false_and, Bool.and_false, map_some', List.length_map, ev__law_whole_ones, a1, a2, bf_lenT, e5, s62, hr, ht]
theorem place_right_run {a b : Int} (ha : Num a) (hb : Num b) : run fn__law_place_right [spot a b] = some (.ret (.ro .loc (.bl true))) := by
  have la := dec_len ha
  have lb := dec_len hb
  have c1 := comma1
  have e1 := addV_ok (g := .loc) (g' := .loc) (x := strI a) (y := ("," : Str)) (by omega) (by omega)
  have e2 := addV_ok (g := .loc) (g' := .loc) (x := strI a ++ ",") (y := strI b) (by rw [app_len]; omega) (by omega)
  have a1 : okX gb.cs (.str (strI a ++ "," ++ strI b)) = true := rfl
  have a2 : isa gb.cs (.str (strI a ++ "," ++ strI b)) (.ty .str) = some true := rfl
  have hs := show_place_run ha hb
  have hr := read_place_run ha hb
  have hw : run fn__law_whole_ones [spot a b, spot a b] = some (.ret (.ro .loc (.bl true))) := whole_ones_run (ns := [a, b]) (by simp)
  unfold fn__law_place_right
  rw [run_fnD]
  have sp0 : ∀ g, subV (.ro g (spot a b)) (.int 0) = some (.ro g (.int a)) := fun g => by unfold spot; rw [sub_tup, at0]; rfl
  have sp1 : ∀ g, subV (.ro g (spot a b)) (.int 1) = some (.ro g (.int b)) := fun g => by unfold spot; rw [sub_tup, at1]; rfl
  simp -implicitDefEqProofs only [retD_some, retD_none, retV_some, retV_none, bnd_ok, bnd_none, bnd_exc, d_ro, d_tmp, d_bor, evC_eq, evVar_eq, rdV_lc, rdV_oc, evOp2_eq, k2a_eq, k2b_ro, k2b_tmp, k2b_bor, evOp1_eq, k1_eq, evAdd_eq, kaa_eq, kab_ro, kab_tmp, kab_bor, addV_int, evChain_eq, kca_eq, kcb_ro, kcc_some, kcd_eq, cop'_eq, evAnd_eq, evOr_eq, kAnd_eq, kOr_eq, notD_eq, evNil_eq, evCons_eq, kCons_eq, kCons2_ro, kCons2_tmp, kCons2_bor, evTup_eq, kTup_eq, tupR_some, evLst_eq, kLst_eq, evSub_eq, ksa_eq, ksb_ro, ksb_tmp, ksb_bor, evSlc_eq, kla_eq, klb_eq, klc_eq, evNo_eq, evInt_eq, kInt_eq, evBi_eq, kBi_eq, evIsa_eq, evIsaT_eq, kIsa_eq, kIsaT_eq, evNew_eq, evCall_eq, kCall_eq, kRet_ret, kRet_exc, bkV_loc, bkV_tmp, bkV_int, bkV_str, bkV_bl, bkV_non, evSeq_eq, bndS_next, bndS_ret, bndS_exc, bndS_none, evPass_eq, bndE_ok, bndE_exc, bndE_none, evExpr_eq, kExpr_eq, evRet_eq, kRetS_eq, evRetN_eq, evIf_eq, kIf_eq, evSet_eq, kSet_eq, setR_some, cellOf_ro, cellOf_tmpF, cellOf_tmpT, effG_loc, effG_int, effG_str, effG_bl, effG_non, evFor_eq, bndI_ok, bndI_exc, kFor_eq, forD_nil, evIter_eq, kIter_str, evRng1_eq, evRng2_eq, kRng1_eq, kRng2_eq, evRaise_eq, evTryAs_eq, kTry_next, kTry_exc, evApp_eq, appR_oc, kApp_eq, mutR_oc, outS_next, outS_ret, outS_exc, fnR_ro, fnR_tmp, roD_nil, roD_cons, List.getElem?_cons_zero, List.getElem?_cons_succ, List.set_cons_zero, List.set_cons_succ, List.length_cons, List.length_nil, List.map_cons, List.map_nil, List.cons_append, List.nil_append, List.replicate_zero, List.replicate_succ, outS_none, evLc_eq, kLc_eq, evList_eq, evJoin_eq, kJoin_eq, evSplit_eq, kSplit_eq, kSplit2_eq, evRng3_eq, Nat.reduceLT, Nat.reduceAdd, Nat.reduceSub, if_true, if_false, Bool.false_eq_true, decide_true, decide_false, Bool.not_true, Bool.not_false, Bool.true_and, Bool.and_true, Bool.false_and, Bool.and_false, map_some', List.length_map, ev__law_place_right, sp0, sp1, figures_run ha, figures_run hb, e1, e2, hs, a1, a2, cop_eqS, decide_true, hr, hw]

/-! ### bodies -/
structure Bx (b : List Int) : Prop where
  ex : ∃ l lo r h : Int, b = [l, lo, r, h] ∧ l < r ∧ lo < h
  num : ∀ n ∈ b, Num n
def bxD (b : List Int) : D := .tup (b.map .int)
def bodyS (bs : List (List Int)) : Str := Txt.join "+" (bs.map nums)
theorem joinL_mem {S : List Nat} {c : Nat} : ∀ {parts : List (List Nat)}, c ∈ TL.joinL S parts → c ∈ S ∨ ∃ p ∈ parts, c ∈ p
  | [], h => by cases h
  | [p], h => .inr ⟨p, List.mem_singleton.mpr rfl, h⟩
  | p :: q :: r, h => by
    rcases List.mem_append.mp (show c ∈ p ++ (S ++ TL.joinL S (q :: r)) from h) with h | h
    · exact .inr ⟨p, List.mem_cons_self, h⟩
    · rcases List.mem_append.mp h with h | h
      · exact .inl h
      · rcases joinL_mem h with h | ⟨z, hz, h⟩
        · exact .inl h
        · exact .inr ⟨z, List.mem_cons_of_mem _ hz, h⟩
theorem nums_free (ns : List Int) : 43 ∉ (nums ns).cps.toList := fun h => by
  unfold nums at h
  rw [TL.join_eq] at h
  rw [show (PySem.Str.join "," (ns.map strI)).cps.toList = TL.tl (PySem.Str.join "," (ns.map strI)) from rfl, TL.tl_join] at h
  rcases joinL_mem h with h | ⟨p, hp, h⟩
  · rw [show TL.tl ("," : Str) = [44] from commaL] at h
    simp at h
  · obtain ⟨z, hz, rfl⟩ := List.mem_map.mp hp
    obtain ⟨n, _, rfl⟩ := List.mem_map.mp hz
    exact dec_free (n := n) (s := 43) (by omega) h
theorem body_split {bs : List (List Int)} (hne : bs ≠ []) : Txt.split (bodyS bs) "+" = bs.map nums := TL.split_join (s := 43) (S := []) plusL plusK (by simpa using hne) fun p hp => by
  obtain ⟨n, _, rfl⟩ := List.mem_map.mp hp
  exact nums_free n
theorem plus1 : ("+" : Str).length = 1 := by decide +kernel
theorem bx_len {b : List Int} (h : Bx b) : b.length = 4 := by
  obtain ⟨l, lo, r, hh, rfl, _⟩ := h.ex
  rfl
theorem body_sum {bs : List (List Int)} (h : ∀ b ∈ bs, Bx b) : ((bs.map nums).map (fun z : Str => z.length)).sum ≤ bs.length * 248 := by
  rw [List.map_map]
  exact sum_len fun b hb => by
    have := nums_len (h b hb).num
    have := bx_len (h b hb)
    show (nums b).length ≤ 248
    omega
theorem body_len {bs : List (List Int)} (h : ∀ b ∈ bs, Bx b) : (bodyS bs).length ≤ bs.length * 249 := by
  have h1 := join_len "+" (bs.map nums)
  have h2 := body_sum h
  rw [plus1, List.length_map] at h1
  unfold bodyS
  omega
theorem kIter_lstG {g : Rg} {l : List D} {ρ : PV.Env} (h : l.all D.leaf = true) (h' : l.all D.flat = true) : kIter (.ro g (.lst l)) ρ = some (.ok (.loc, l) ρ) := by
  unfold kIter
  simp only [Val.d, Val.isBor, items]
  unfold seqG
  rw [if_pos h]
  simp only [Val.rg, effL, h', if_true]
  rfl
theorem bx_flat (b : List Int) : (bxD b).flat = true := by
  show flatL (b.map .int) = true
  induction b with
  | nil => rfl
  | cons n b ih =>
    show ((D.int n).flat && flatL (b.map .int)) = true
    rw [ih]; rfl
theorem bxs_leaf (bs : List (List Int)) : (bs.map bxD).all D.leaf = true := by simp [bxD, D.leaf]
theorem bxs_flat (bs : List (List Int)) : (bs.map bxD).all D.flat = true := by
  rw [List.all_map]
  exact List.all_eq_true.mpr fun b _ => bx_flat b
theorem box_run {l lo r h : Int} (h1 : l < r) (h2 : lo < h) : run fn_box [.int l, .int lo, .int r, .int h] = some (.ret (.ro .loc (bxD [l, lo, r, h]))) := by
  have fz : frzAll [.ro .par (.int l), .ro .par (.int lo), .ro .par (.int r), .ro .par (.int h)] = some (.loc, [.int l, .int lo, .int r, .int h]) := rfl
  unfold fn_box bxD
  rw [run_fnD]
  simp -implicitDefEqProofs only [retD_some, retD_none, retV_some, retV_none, bnd_ok, bnd_none, bnd_exc, d_ro, d_tmp, d_bor, evC_eq, evVar_eq, rdV_lc, rdV_oc, evOp2_eq, k2a_eq, k2b_ro, k2b_tmp, k2b_bor, evOp1_eq, k1_eq, evAdd_eq, kaa_eq, kab_ro, kab_tmp, kab_bor, addV_int, addV_str, evChain_eq, kca_eq, kcb_ro, kcc_some, kcd_eq, cop'_eq, evAnd_eq, evOr_eq, kAnd_eq, kOr_eq, notD_eq, evNil_eq, evCons_eq, kCons_eq, kCons2_ro, kCons2_tmp, kCons2_bor, evTup_eq, kTup_eq, tupR_some, evLst_eq, kLst_eq, evSub_eq, ksa_eq, ksb_ro, ksb_tmp, ksb_bor, evSlc_eq, kla_eq, klb_eq, klc_eq, evNo_eq, evInt_eq, kInt_eq, evBi_eq, kBi_eq, evIsa_eq, evIsaT_eq, kIsa_eq, kIsaT_eq, evNew_eq, evCall_eq, kCall_eq, kRet_ret, kRet_exc, bkV_loc, bkV_tmp, bkV_int, bkV_str, bkV_bl, bkV_non, evSeq_eq, bndS_next, bndS_ret, bndS_exc, bndS_none, evPass_eq, bndE_ok, bndE_exc, bndE_none, evExpr_eq, kExpr_eq, evRet_eq, kRetS_eq, evRetN_eq, evIf_eq, kIf_eq, evSet_eq, kSet_eq, setR_some, cellOf_ro, cellOf_tmpF, cellOf_tmpT, effG_loc, effG_int, effG_str, effG_bl, effG_non, evFor_eq, bndI_ok, bndI_exc, kFor_eq, forD_nil, evIter_eq, kIter_str, evRng1_eq, evRng2_eq, kRng1_eq, kRng2_eq, evRaise_eq, evTryAs_eq, kTry_next, kTry_exc, evApp_eq, appR_oc, kApp_eq, mutR_oc, outS_next, outS_ret, outS_exc, fnR_ro, fnR_tmp, roD_nil, roD_cons, List.getElem?_cons_zero, List.getElem?_cons_succ, List.set_cons_zero, List.set_cons_succ, List.length_cons, List.length_nil, List.map_cons, List.map_nil, List.cons_append, List.nil_append, List.replicate_zero, List.replicate_succ, outS_none, evLc_eq, kLc_eq, evList_eq, evJoin_eq, kJoin_eq, evSplit_eq, kSplit_eq, kSplit2_eq, evRng3_eq, Nat.reduceLT, Nat.reduceAdd, Nat.reduceSub, if_true, if_false, Bool.false_eq_true, decide_true, decide_false, Bool.not_true, Bool.not_false, Bool.true_and, Bool.and_true, Bool.false_and, Bool.and_false, map_some', List.length_map, ev_box, cop_ge, decide_eq_false (show ¬ r ≤ l by omega), decide_eq_false (show ¬ h ≤ lo by omega), fz, show (0 + 1 + 1 + 1 + 1 : Nat) ≤ lim from by decide, show (4 : Nat) ≤ lim from by decide]
theorem show_body_run {bs : List (List Int)} (h : ∀ b ∈ bs, Bx b) (hl : bs.length ≤ 100) : run fn_show_body [.lst (bs.map bxD)] = some (.ret (.ro .loc (.str (bodyS bs)))) := by
  have hlc := lcD_map2 (ρ := [some (lcC .par (.lst (bs.map bxD))), none]) (g := .loc) (fe := evCall 1 fn_show_box (evCons true (evVar 1) evNil)) (i := 1) (f := bxD) (h := fun b => .ro .loc (.str (nums b))) (xs := bs) (acc := []) (by simp) fun b hb => ⟨[some (lcC .par (.lst (bs.map bxD))), some (lcC .loc (bxD b))], by
    have hr : run fn_show_box [bxD b] = some (.ret (.ro .loc (.str (nums b)))) := show_box_run (h b hb).num (by rw [bx_len (h b hb)]; omega)
    simp -implicitDefEqProofs only [retD_some, retD_none, retV_some, retV_none, bnd_ok, bnd_none, bnd_exc, d_ro, d_tmp, d_bor, evC_eq, evVar_eq, rdV_lc, rdV_oc, evOp2_eq, k2a_eq, k2b_ro, k2b_tmp, k2b_bor, evOp1_eq, k1_eq, evAdd_eq, kaa_eq, kab_ro, kab_tmp, kab_bor, addV_int, addV_str, evChain_eq, kca_eq, kcb_ro, kcc_some, kcd_eq, cop'_eq, evAnd_eq, evOr_eq, kAnd_eq, kOr_eq, notD_eq, evNil_eq, evCons_eq, kCons_eq, kCons2_ro, kCons2_tmp, kCons2_bor, evTup_eq, kTup_eq, tupR_some, evLst_eq, kLst_eq, evSub_eq, ksa_eq, ksb_ro, ksb_tmp, ksb_bor, evSlc_eq, kla_eq, klb_eq, klc_eq, evNo_eq, evInt_eq, kInt_eq, evBi_eq, kBi_eq, evIsa_eq, evIsaT_eq, kIsa_eq, kIsaT_eq, evNew_eq, evCall_eq, kCall_eq, kRet_ret, kRet_exc, bkV_loc, bkV_tmp, bkV_int, bkV_str, bkV_bl, bkV_non, evSeq_eq, bndS_next, bndS_ret, bndS_exc, bndS_none, evPass_eq, bndE_ok, bndE_exc, bndE_none, evExpr_eq, kExpr_eq, evRet_eq, kRetS_eq, evRetN_eq, evIf_eq, kIf_eq, evSet_eq, kSet_eq, setR_some, cellOf_ro, cellOf_tmpF, cellOf_tmpT, effG_loc, effG_int, effG_str, effG_bl, effG_non, evFor_eq, bndI_ok, bndI_exc, kFor_eq, forD_nil, evIter_eq, kIter_str, evRng1_eq, evRng2_eq, kRng1_eq, kRng2_eq, evRaise_eq, evTryAs_eq, kTry_next, kTry_exc, evApp_eq, appR_oc, kApp_eq, mutR_oc, outS_next, outS_ret, outS_exc, fnR_ro, fnR_tmp, roD_nil, roD_cons, List.getElem?_cons_zero, List.getElem?_cons_succ, List.set_cons_zero, List.set_cons_succ, List.length_cons, List.length_nil, List.map_cons, List.map_nil, List.cons_append, List.nil_append, List.replicate_zero, List.replicate_succ, outS_none, evLc_eq, kLc_eq, evList_eq, evJoin_eq, kJoin_eq, evSplit_eq, kSplit_eq, kSplit2_eq, evRng3_eq, Nat.reduceLT, Nat.reduceAdd, Nat.reduceSub, if_true, if_false, Bool.false_eq_true, decide_true, decide_false, Bool.not_true, Bool.not_false, Bool.true_and, Bool.and_true, Bool.false_and, Bool.and_false, map_some', List.length_map, hr]⟩
  rw [List.nil_append] at hlc
  have hmk : mkLst (bs.map fun b => Val.ro .loc (.str (nums b))) = some (.tmp .loc (.lst ((bs.map nums).map .str))) := by
    rw [mkLst_map (f := fun b => D.str (nums b)) fun _ _ => rfl, List.map_map]; rfl
  have hno : noOwn [some (lcC .par (.lst (bs.map bxD))), none] [1] = true := rfl
  have hw : wipeE [some (lcC .par (.lst (bs.map bxD))), none] [1] = [some (lcC .par (.lst (bs.map bxD))), none] := rfl
  have hit : ∀ ρ, kIter (.ro .par (.lst (bs.map bxD))) ρ = some (.ok (.loc, bs.map bxD) ρ) := fun ρ => kIter_lstG (bxs_leaf bs) (bxs_flat bs)
  have hs := body_sum h
  have hj : ∀ ρ, kJoin2 "+" (.tmp .loc (.lst ((bs.map nums).map .str))) ρ = some (.ok (.ro .loc (.str (bodyS bs))) ρ) := fun ρ => kJoin2_eq rfl (by
    have : lim = 1000000 := rfl
    rw [plus1, List.length_map]
    omega)
  unfold fn_show_body
  rw [run_fnD]
  simp -implicitDefEqProofs only [retD_some, retD_none, retV_some, retV_none, bnd_ok, bnd_none, bnd_exc, d_ro, d_tmp, d_bor, evC_eq, evVar_eq, rdV_lc, rdV_oc, evOp2_eq, k2a_eq, k2b_ro, k2b_tmp, k2b_bor, evOp1_eq, k1_eq, evAdd_eq, kaa_eq, kab_ro, kab_tmp, kab_bor, addV_int, addV_str, evChain_eq, kca_eq, kcb_ro, kcc_some, kcd_eq, cop'_eq, evAnd_eq, evOr_eq, kAnd_eq, kOr_eq, notD_eq, evNil_eq, evCons_eq, kCons_eq, kCons2_ro, kCons2_tmp, kCons2_bor, evTup_eq, kTup_eq, tupR_some, evLst_eq, kLst_eq, evSub_eq, ksa_eq, ksb_ro, ksb_tmp, ksb_bor, evSlc_eq, kla_eq, klb_eq, klc_eq, evNo_eq, evInt_eq, kInt_eq, evBi_eq, kBi_eq, evIsa_eq, evIsaT_eq, kIsa_eq, kIsaT_eq, evNew_eq, evCall_eq, kCall_eq, kRet_ret, kRet_exc, bkV_loc, bkV_tmp, bkV_int, bkV_str, bkV_bl, bkV_non, evSeq_eq, bndS_next, bndS_ret, bndS_exc, bndS_none, evPass_eq, bndE_ok, bndE_exc, bndE_none, evExpr_eq, kExpr_eq, evRet_eq, kRetS_eq, evRetN_eq, evIf_eq, kIf_eq, evSet_eq, kSet_eq, setR_some, cellOf_ro, cellOf_tmpF, cellOf_tmpT, effG_loc, effG_int, effG_str, effG_bl, effG_non, evFor_eq, bndI_ok, bndI_exc, kFor_eq, forD_nil, evIter_eq, kIter_str, evRng1_eq, evRng2_eq, kRng1_eq, kRng2_eq, evRaise_eq, evTryAs_eq, kTry_next, kTry_exc, evApp_eq, appR_oc, kApp_eq, mutR_oc, outS_next, outS_ret, outS_exc, fnR_ro, fnR_tmp, roD_nil, roD_cons, List.getElem?_cons_zero, List.getElem?_cons_succ, List.set_cons_zero, List.set_cons_succ, List.length_cons, List.length_nil, List.map_cons, List.map_nil, List.cons_append, List.nil_append, List.replicate_zero, List.replicate_succ, outS_none, evLc_eq, kLc_eq, evList_eq, evJoin_eq, kJoin_eq, evSplit_eq, kSplit_eq, kSplit2_eq, evRng3_eq, Nat.reduceLT, Nat.reduceAdd, Nat.reduceSub, if_true, if_false, Bool.false_eq_true, decide_true, decide_false, Bool.not_true, Bool.not_false, Bool.true_and, Bool.and_true, Bool.false_and, Bool.and_false, map_some', List.length_map, ev_show_body, hit, hno, hw, decide_eq_true (nat_le_lim (n := bs.length) (by omega)), hlc, Option.bind_some, hmk, hj]
theorem read_body_run {bs : List (List Int)} (h : ∀ b ∈ bs, Bx b) (hne : bs ≠ []) (hl : bs.length ≤ 100) : run fn_read_body [.str (bodyS bs)] = some (.ret (.tmp .loc (.lst (bs.map bxD)))) := by
  have hsp := body_split hne
  have hlen := body_len h
  have hlim : lim = 1000000 := rfl
  have a1 : okX gb.cs (.str (bodyS bs)) = true := rfl
  have a2 : isa gb.cs (.str (bodyS bs)) (.ty .str) = some true := rfl
  have hc : ("+" : Str).length ≠ 0 ∧ (bodyS bs).length ≤ lim := ⟨by rw [plus1]; decide, by omega⟩
  have mm : (bs.map nums).map D.str = bs.map fun b => D.str (nums b) := by rw [List.map_map]; rfl
  have hit1 : ∀ ρ, kIter (.tmp .loc (.lst ((bs.map nums).map .str))) ρ = some (.ok (.loc, bs.map fun b => D.str (nums b)) ρ) := fun ρ => by
    rw [kIter_lstT (by simp [D.leaf]), mm]
  have hlc1 := lcD_map2 (ρ := [some (lcC .par (.str (bodyS bs))), none, none, none]) (g := .loc) (fe := evCall 2 fn_read_numbers (evCons true (evVar 2) (evCons true (evC (.int 4)) evNil))) (i := 2) (f := fun b => D.str (nums b)) (h := fun b => .tmp .loc (.lst (b.map .int))) (xs := bs) (acc := []) (by simp) fun b hb => ⟨[some (lcC .par (.str (bodyS bs))), none, some (lcC .loc (.str (nums b))), none], by
    have hr : run fn_read_numbers [.str (nums b), .int 4] = some (.ret (.tmp .loc (.lst (b.map .int)))) := by
      have := read_numbers_run (h b hb).num (fun q => by have := bx_len (h b hb); rw [q] at this; cases this) (by rw [bx_len (h b hb)]; omega)
      rw [bx_len (h b hb)] at this
      exact this
    simp -implicitDefEqProofs only [retD_some, retD_none, retV_some, retV_none, bnd_ok, bnd_none, bnd_exc, d_ro, d_tmp, d_bor, evC_eq, evVar_eq, rdV_lc, rdV_oc, evOp2_eq, k2a_eq, k2b_ro, k2b_tmp, k2b_bor, evOp1_eq, k1_eq, evAdd_eq, kaa_eq, kab_ro, kab_tmp, kab_bor, addV_int, addV_str, evChain_eq, kca_eq, kcb_ro, kcc_some, kcd_eq, cop'_eq, evAnd_eq, evOr_eq, kAnd_eq, kOr_eq, notD_eq, evNil_eq, evCons_eq, kCons_eq, kCons2_ro, kCons2_tmp, kCons2_bor, evTup_eq, kTup_eq, tupR_some, evLst_eq, kLst_eq, evSub_eq, ksa_eq, ksb_ro, ksb_tmp, ksb_bor, evSlc_eq, kla_eq, klb_eq, klc_eq, evNo_eq, evInt_eq, kInt_eq, evBi_eq, kBi_eq, evIsa_eq, evIsaT_eq, kIsa_eq, kIsaT_eq, evNew_eq, evCall_eq, kCall_eq, kRet_ret, kRet_exc, bkV_loc, bkV_tmp, bkV_int, bkV_str, bkV_bl, bkV_non, evSeq_eq, bndS_next, bndS_ret, bndS_exc, bndS_none, evPass_eq, bndE_ok, bndE_exc, bndE_none, evExpr_eq, kExpr_eq, evRet_eq, kRetS_eq, evRetN_eq, evIf_eq, kIf_eq, evSet_eq, kSet_eq, setR_some, cellOf_ro, cellOf_tmpF, cellOf_tmpT, effG_loc, effG_int, effG_str, effG_bl, effG_non, evFor_eq, bndI_ok, bndI_exc, kFor_eq, forD_nil, evIter_eq, kIter_str, evRng1_eq, evRng2_eq, kRng1_eq, kRng2_eq, evRaise_eq, evTryAs_eq, kTry_next, kTry_exc, evApp_eq, appR_oc, kApp_eq, mutR_oc, outS_next, outS_ret, outS_exc, fnR_ro, fnR_tmp, roD_nil, roD_cons, List.getElem?_cons_zero, List.getElem?_cons_succ, List.set_cons_zero, List.set_cons_succ, List.length_cons, List.length_nil, List.map_cons, List.map_nil, List.cons_append, List.nil_append, List.replicate_zero, List.replicate_succ, outS_none, evLc_eq, kLc_eq, evList_eq, evJoin_eq, kJoin_eq, evSplit_eq, kSplit_eq, kSplit2_eq, evRng3_eq, Nat.reduceLT, Nat.reduceAdd, Nat.reduceSub, if_true, if_false, Bool.false_eq_true, decide_true, decide_false, Bool.not_true, Bool.not_false, Bool.true_and, Bool.and_true, Bool.false_and, Bool.and_false, map_some', List.length_map, hr]⟩
  rw [List.nil_append] at hlc1
  have fo : ∀ bs : List (List Int), ownAll (bs.map fun b => Val.tmp .loc (.lst (b.map .int))) = some (.loc, bs.map fun b => D.lst (b.map .int)) := fun bs => by
    induction bs with
    | nil => rfl
    | cons b bs ih =>
      rw [List.map_cons]
      unfold ownAll
      rw [ih]; rfl
  have hmk1 : mkLst (bs.map fun b => Val.tmp .loc (.lst (b.map .int))) = some (.tmp .loc (.lst (bs.map fun b => D.lst (b.map .int)))) := by
    unfold mkLst
    rw [fo]
  have hlc2 := lcD_map2 (ρ := [some (lcC .par (.str (bodyS bs))), some (lcC .loc (.lst (bs.map fun b => D.lst (b.map .int)))), none, none]) (g := .loc) (fe := evCall 4 fn_box (evCons true (evSub true (evVar 3) (evC (.int 0))) (evCons true (evSub true (evVar 3) (evC (.int 1))) (evCons true (evSub true (evVar 3) (evC (.int 2))) (evCons true (evSub true (evVar 3) (evC (.int 3))) (evNil)))))) (i := 3) (f := fun b => D.lst (b.map .int)) (h := fun b => .ro .loc (bxD b)) (xs := bs) (acc := []) (by simp) fun b hb => ⟨[some (lcC .par (.str (bodyS bs))), some (lcC .loc (.lst (bs.map fun b => D.lst (b.map .int)))), none, some (lcC .loc (.lst (b.map .int)))], by
    obtain ⟨l, lo, r, hh, rfl, h1, h2⟩ := (h b hb).ex
    have b0 : atI [D.int l, .int lo, .int r, .int hh] 0 = some (.int l) := rfl
    have b1 : atI [D.int l, .int lo, .int r, .int hh] 1 = some (.int lo) := rfl
    have b2 : atI [D.int l, .int lo, .int r, .int hh] 2 = some (.int r) := rfl
    have b3 : atI [D.int l, .int lo, .int r, .int hh] 3 = some (.int hh) := rfl
    simp -implicitDefEqProofs only [retD_some, retD_none, retV_some, retV_none, bnd_ok, bnd_none, bnd_exc, d_ro, d_tmp, d_bor, evC_eq, evVar_eq, rdV_lc, rdV_oc, evOp2_eq, k2a_eq, k2b_ro, k2b_tmp, k2b_bor, evOp1_eq, k1_eq, evAdd_eq, kaa_eq, kab_ro, kab_tmp, kab_bor, addV_int, addV_str, evChain_eq, kca_eq, kcb_ro, kcc_some, kcd_eq, cop'_eq, evAnd_eq, evOr_eq, kAnd_eq, kOr_eq, notD_eq, evNil_eq, evCons_eq, kCons_eq, kCons2_ro, kCons2_tmp, kCons2_bor, evTup_eq, kTup_eq, tupR_some, evLst_eq, kLst_eq, evSub_eq, ksa_eq, ksb_ro, ksb_tmp, ksb_bor, evSlc_eq, kla_eq, klb_eq, klc_eq, evNo_eq, evInt_eq, kInt_eq, evBi_eq, kBi_eq, evIsa_eq, evIsaT_eq, kIsa_eq, kIsaT_eq, evNew_eq, evCall_eq, kCall_eq, kRet_ret, kRet_exc, bkV_loc, bkV_tmp, bkV_int, bkV_str, bkV_bl, bkV_non, evSeq_eq, bndS_next, bndS_ret, bndS_exc, bndS_none, evPass_eq, bndE_ok, bndE_exc, bndE_none, evExpr_eq, kExpr_eq, evRet_eq, kRetS_eq, evRetN_eq, evIf_eq, kIf_eq, evSet_eq, kSet_eq, setR_some, cellOf_ro, cellOf_tmpF, cellOf_tmpT, effG_loc, effG_int, effG_str, effG_bl, effG_non, evFor_eq, bndI_ok, bndI_exc, kFor_eq, forD_nil, evIter_eq, kIter_str, evRng1_eq, evRng2_eq, kRng1_eq, kRng2_eq, evRaise_eq, evTryAs_eq, kTry_next, kTry_exc, evApp_eq, appR_oc, kApp_eq, mutR_oc, outS_next, outS_ret, outS_exc, fnR_ro, fnR_tmp, roD_nil, roD_cons, List.getElem?_cons_zero, List.getElem?_cons_succ, List.set_cons_zero, List.set_cons_succ, List.length_cons, List.length_nil, List.map_cons, List.map_nil, List.cons_append, List.nil_append, List.replicate_zero, List.replicate_succ, outS_none, evLc_eq, kLc_eq, evList_eq, evJoin_eq, kJoin_eq, evSplit_eq, kSplit_eq, kSplit2_eq, evRng3_eq, Nat.reduceLT, Nat.reduceAdd, Nat.reduceSub, if_true, if_false, Bool.false_eq_true, decide_true, decide_false, Bool.not_true, Bool.not_false, Bool.true_and, Bool.and_true, Bool.false_and, Bool.and_false, map_some', List.length_map, sub_lst, b0, b1, b2, b3, box_run h1 h2]⟩
  rw [List.nil_append] at hlc2
  have hit2 : ∀ ρ, kIter (.ro .loc (.lst (bs.map fun b => D.lst (b.map .int)))) ρ = some (.ok (.loc, bs.map fun b => D.lst (b.map .int)) ρ) := fun ρ => by
    unfold kIter
    simp only [Val.d, Val.isBor, items, seqG, Val.rg, effL]
    by_cases hA : (bs.map fun b => D.lst (b.map .int)).all D.leaf = true
    · rw [if_pos hA, ite_self]; rfl
    · rw [if_neg hA]; rfl
  have hmk2 : mkLst (bs.map fun b => Val.ro .loc (bxD b)) = some (.tmp .loc (.lst (bs.map bxD))) := mkLst_map fun _ _ => rfl
  have n1 : noOwn [some (lcC .par (.str (bodyS bs))), none, none, none] [2] = true := rfl
  have w1 : wipeE [some (lcC .par (.str (bodyS bs))), none, none, none] [2] = [some (lcC .par (.str (bodyS bs))), none, none, none] := rfl
  have n2 : noOwn [some (lcC .par (.str (bodyS bs))), some (lcC .loc (.lst (bs.map fun b => D.lst (b.map .int)))), none, none] [3] = true := rfl
  have w2 : wipeE [some (lcC .par (.str (bodyS bs))), some (lcC .loc (.lst (bs.map fun b => D.lst (b.map .int)))), none, none] [3] = [some (lcC .par (.str (bodyS bs))), some (lcC .loc (.lst (bs.map fun b => D.lst (b.map .int)))), none, none] := rfl
  unfold fn_read_body
  rw [run_fnD]
  simp -implicitDefEqProofs only [retD_some, retD_none, retV_some, retV_none, bnd_ok, bnd_none, bnd_exc, d_ro, d_tmp, d_bor, evC_eq, evVar_eq, rdV_lc, rdV_oc, evOp2_eq, k2a_eq, k2b_ro, k2b_tmp, k2b_bor, evOp1_eq, k1_eq, evAdd_eq, kaa_eq, kab_ro, kab_tmp, kab_bor, addV_int, addV_str, evChain_eq, kca_eq, kcb_ro, kcc_some, kcd_eq, cop'_eq, evAnd_eq, evOr_eq, kAnd_eq, kOr_eq, notD_eq, evNil_eq, evCons_eq, kCons_eq, kCons2_ro, kCons2_tmp, kCons2_bor, evTup_eq, kTup_eq, tupR_some, evLst_eq, kLst_eq, evSub_eq, ksa_eq, ksb_ro, ksb_tmp, ksb_bor, evSlc_eq, kla_eq, klb_eq, klc_eq, evNo_eq, evInt_eq, kInt_eq, evBi_eq, kBi_eq, evIsa_eq, evIsaT_eq, kIsa_eq, kIsaT_eq, evNew_eq, evCall_eq, kCall_eq, kRet_ret, kRet_exc, bkV_loc, bkV_tmp, bkV_int, bkV_str, bkV_bl, bkV_non, evSeq_eq, bndS_next, bndS_ret, bndS_exc, bndS_none, evPass_eq, bndE_ok, bndE_exc, bndE_none, evExpr_eq, kExpr_eq, evRet_eq, kRetS_eq, evRetN_eq, evIf_eq, kIf_eq, evSet_eq, kSet_eq, setR_some, cellOf_ro, cellOf_tmpF, cellOf_tmpT, effG_loc, effG_int, effG_str, effG_bl, effG_non, evFor_eq, bndI_ok, bndI_exc, kFor_eq, forD_nil, evIter_eq, kIter_str, evRng1_eq, evRng2_eq, kRng1_eq, kRng2_eq, evRaise_eq, evTryAs_eq, kTry_next, kTry_exc, evApp_eq, appR_oc, kApp_eq, mutR_oc, outS_next, outS_ret, outS_exc, fnR_ro, fnR_tmp, roD_nil, roD_cons, List.getElem?_cons_zero, List.getElem?_cons_succ, List.set_cons_zero, List.set_cons_succ, List.length_cons, List.length_nil, List.map_cons, List.map_nil, List.cons_append, List.nil_append, List.replicate_zero, List.replicate_succ, outS_none, evLc_eq, kLc_eq, evList_eq, evJoin_eq, kJoin_eq, evSplit_eq, kSplit_eq, kSplit2_eq, evRng3_eq, Nat.reduceLT, Nat.reduceAdd, Nat.reduceSub, if_true, if_false, Bool.false_eq_true, decide_true, decide_false, Bool.not_true, Bool.not_false, Bool.true_and, Bool.and_true, Bool.false_and, Bool.and_false, map_some', List.length_map, ev_read_body, a1, a2, if_pos hc, hsp, hit1, n1, w1, decide_eq_true (nat_le_lim (n := bs.length) (by omega)), hlc1, Option.bind_some, hmk1, hit2, n2, w2, hlc2, hmk2]

/-! ### the law -/
def wD (b : List Int) : D := .str (nums b)
theorem bor_last {bs : List (List Int)} {b : List Int} : subV (.bor 2 .loc (.lst (bs.map bxD ++ [bxD b]))) (.int (-1)) = some (.ro .loc (bxD b)) := by
  have hl : (bs.map bxD ++ [bxD b]).length = bs.length + 1 := by simp
  have ha : atI (bs.map bxD ++ [bxD b]) (-1) = some (bxD b) := by
    unfold atI ixN
    rw [hl, if_neg (by decide), if_pos (by omega)]
    show (bs.map bxD ++ [bxD b])[((-1 : Int) + ((bs.length + 1 : Nat) : Int)).toNat]? = some (bxD b)
    have : ((-1 : Int) + ((bs.length + 1 : Nat) : Int)).toNat = bs.length := by omega
    rw [this, List.getElem?_append_right (by simp)]
    simp
  show (atI (bs.map bxD ++ [bxD b]) (-1)).map (elemV (.bor 2 .loc (.lst (bs.map bxD ++ [bxD b])))) = _
  rw [ha]; rfl
def EL (c0 c1 : Cell) (bs : List (List Int)) (e4 e5 e6 e7 e8 : Option Cell) : PV.Env := [some c0, some c1, some (ocC .loc (.lst (bs.map bxD))), some (ocC .loc (.lst (bs.map wD))), e4, e5, e6, e7, e8, none, none, none, none, none, none]
theorem words_of {b : List Int} (hb : Bx b) {c0 c1 : Cell} {L W : D} {e4 e5 e6 e7 e8 : Option Cell} : (∀ ρ, kIter (.ro .loc (bxD b)) ρ = some (.ok (.loc, b.map .int) ρ)) ∧
    lcD (.one 9) none (evCall 1 fn__law_figures (evCons true (evVar 9) evNil)) .loc (b.map .int) [some c0, some c1, some (ocC .loc L), some (ocC .loc W), e4, e5, e6, e7, e8, none, none, none, none, none, none] [] = some (b.map fun n => Val.ro .loc (.str (strI n))) := by
  refine ⟨fun ρ => kIter_tup (by simp [D.flat]) (by simp [D.leaf]), ?_⟩
  have := lcD_map2 (ρ := [some c0, some c1, some (ocC .loc L), some (ocC .loc W), e4, e5, e6, e7, e8, none, none, none, none, none, none]) (g := .loc) (fe := evCall 1 fn__law_figures (evCons true (evVar 9) evNil)) (i := 9) (f := D.int) (h := fun n => .ro .loc (.str (strI n))) (xs := b) (acc := []) (by simp) fun n hn => ⟨[some c0, some c1, some (ocC .loc L), some (ocC .loc W), e4, e5, e6, e7, e8, some (lcC .loc (.int n)), none, none, none, none, none], by
    have hr : run fn__law_figures [.int n] = some (.ret (.ro .loc (.str (strI n)))) := figures_run (hb.num n hn)
    simp -implicitDefEqProofs only [retD_some, retD_none, retV_some, retV_none, bnd_ok, bnd_none, bnd_exc, d_ro, d_tmp, d_bor, evC_eq, evVar_eq, rdV_lc, rdV_oc, evOp2_eq, k2a_eq, k2b_ro, k2b_tmp, k2b_bor, evOp1_eq, k1_eq, evAdd_eq, kaa_eq, kab_ro, kab_tmp, kab_bor, addV_int, addV_str, evChain_eq, kca_eq, kcb_ro, kcc_some, kcd_eq, cop'_eq, evAnd_eq, evOr_eq, kAnd_eq, kOr_eq, notD_eq, evNil_eq, evCons_eq, kCons_eq, kCons2_ro, kCons2_tmp, kCons2_bor, evTup_eq, kTup_eq, tupR_some, evLst_eq, kLst_eq, evSub_eq, ksa_eq, ksb_ro, ksb_tmp, ksb_bor, evSlc_eq, kla_eq, klb_eq, klc_eq, evNo_eq, evInt_eq, kInt_eq, evBi_eq, kBi_eq, evIsa_eq, evIsaT_eq, kIsa_eq, kIsaT_eq, evNew_eq, evCall_eq, kCall_eq, kRet_ret, kRet_exc, bkV_loc, bkV_tmp, bkV_int, bkV_str, bkV_bl, bkV_non, evSeq_eq, bndS_next, bndS_ret, bndS_exc, bndS_none, evPass_eq, bndE_ok, bndE_exc, bndE_none, evExpr_eq, kExpr_eq, evRet_eq, kRetS_eq, evRetN_eq, evIf_eq, kIf_eq, evSet_eq, kSet_eq, setR_some, cellOf_ro, cellOf_tmpF, cellOf_tmpT, effG_loc, effG_int, effG_str, effG_bl, effG_non, evFor_eq, bndI_ok, bndI_exc, kFor_eq, forD_nil, evIter_eq, kIter_str, evRng1_eq, evRng2_eq, kRng1_eq, kRng2_eq, evRaise_eq, evTryAs_eq, kTry_next, kTry_exc, evApp_eq, appR_oc, kApp_eq, mutR_oc, outS_next, outS_ret, outS_exc, fnR_ro, fnR_tmp, roD_nil, roD_cons, List.getElem?_cons_zero, List.getElem?_cons_succ, List.set_cons_zero, List.set_cons_succ, List.length_cons, List.length_nil, List.map_cons, List.map_nil, List.cons_append, List.nil_append, List.replicate_zero, List.replicate_succ, outS_none, evLc_eq, kLc_eq, evList_eq, evJoin_eq, kJoin_eq, evSplit_eq, kSplit_eq, kSplit2_eq, evRng3_eq, Nat.reduceLT, Nat.reduceAdd, Nat.reduceSub, if_true, if_false, Bool.false_eq_true, decide_true, decide_false, Bool.not_true, Bool.not_false, Bool.true_and, Bool.and_true, Bool.false_and, Bool.and_false, map_some', List.length_map, hr]⟩
  rw [List.nil_append] at this
  exact this
theorem turn (ns : List Int) (sp : D) (bs : List (List Int)) (hbs : bs.length ≤ 100) (a : Nat) (ha : a + 1 < 64) (e5 e6 e7 e8 : Option Cell) : ∃ b, Bx b ∧ ∃ f5 f6 f7 f8, lb_law_2 (EL (lcC .par (.klst (ns.map .int))) (lcC .loc sp) bs (some (lcC .loc (.int a))) e5 e6 e7 e8) =
    some (.next (EL (lcC .par (.klst (ns.map .int))) (lcC .loc sp) (bs ++ [b]) (some (lcC .loc (.int a))) f5 f6 f7 f8)) := by
  have f3 : ∀ x : Int, bop .fdiv (.int x) (.int 3) = some (.int (x / 3)) := fun x => fdiv_ok (by decide) (wide_of (n := 2) (by decide) (by decide))
  have f7 : ∀ x : Int, bop .fdiv (.int x) (.int 7) = some (.int (x / 7)) := fun x => fdiv_ok (by decide) (wide_of (n := 3) (by decide) (by decide))
  obtain ⟨c, c0, c1, hc⟩ := cell_run ns a (by omega)
  obtain ⟨d, d0, d1, hd⟩ := cell_run ns (a + 1) ha
  have hd' : run fn__law_cell [.klst (ns.map .int), .int ((a : Int) + 1)] = some (.ret (.ro .loc (.int d))) := hd
  obtain ⟨s1, hs1, s1a, s1b⟩ := side_run (c := c / 3) (by omega)
  obtain ⟨s2, hs2, s2a, s2b⟩ := side_run (c := d / 3) (by omega)
  obtain ⟨z1, hz1, z1a, z1b⟩ := size_run (c := c / 7) (by omega)
  obtain ⟨z2, hz2, z2a, z2b⟩ := size_run (c := d / 7) (by omega)
  have hb : Bx [s1, s2, s1 + z1, s2 + z2] := by
    refine ⟨⟨s1, s2, s1 + z1, s2 + z2, rfl, by omega, by omega⟩, fun n hn => ?_⟩
    unfold Num
    rcases List.mem_cons.mp hn with rfl | hn
    · omega
    · rcases List.mem_cons.mp hn with rfl | hn
      · omega
      · rcases List.mem_cons.mp hn with rfl | hn
        · omega
        · rw [List.mem_singleton.mp hn]; omega
  refine ⟨_, hb, some (lcC .loc (.int s1)), some (lcC .loc (.int s2)), some (lcC .loc (.int (s1 + z1))), some (lcC .loc (.int (s2 + z2))), ?_⟩
  generalize hbe : [s1, s2, s1 + z1, s2 + z2] = b at hb ⊢
  have fz : frzAll [.ro .loc (.int s1), .ro .loc (.int s2), .ro .loc (.int (s1 + z1)), .ro .loc (.int (s2 + z2))] = some (.loc, b.map .int) := by rw [← hbe]; rfl
  have ho1 : ownV (.ro .loc (.tup (b.map .int))) = some .loc := by
    show (if (D.tup (b.map .int)).leaf = true then some (effG .loc _) else none) = _
    rw [if_pos (show (D.tup (b.map .int)).leaf = true from rfl), effG_loc]
  have hlim : lim = 1000000 := rfl
  have ap1 : appD (bs.map bxD) (.tup (b.map .int)) = some (bs.map bxD ++ [bxD b]) := appD_eq (by rw [List.length_map]; omega)
  have ap2 : appD (bs.map wD) (.str (nums b)) = some ((bs ++ [b]).map wD) := by
    rw [appD_eq (by rw [List.length_map]; omega), List.map_append]; rfl
  have mp1 : (bs ++ [b]).map bxD = bs.map bxD ++ [bxD b] := by rw [List.map_append]; rfl
  have ho2 : ownV (.ro .loc (.str (nums b))) = some .loc := rfl
  have mx : Rg.max .loc .loc = .loc := rfl
  have hl4 : b.length = 4 := bx_len hb
  have hmk : mkLst (b.map fun n => Val.ro .loc (.str (strI n))) = some (.tmp .loc (.lst ((b.map strI).map .str))) := by
    rw [mkLst_map (f := fun n => D.str (strI n)) fun _ _ => rfl, List.map_map]; rfl
  have hj : ∀ ρ, kJoin2 "," (.tmp .loc (.lst ((b.map strI).map .str))) ρ = some (.ok (.ro .loc (.str (nums b))) ρ) := fun ρ => kJoin2_eq rfl (by
    have := nums_sum hb.num
    rw [comma1, List.length_map]
    omega)
  have wo := fun L W e4 e5 e6 e7 e8 => @words_of b hb (lcC .par (.klst (ns.map .int))) (lcC .loc sp) L W e4 e5 e6 e7 e8
  have hit := (wo .non .non none none none none none).1
  have hlc := fun L W e4 e5 e6 e7 e8 => (wo L W e4 e5 e6 e7 e8).2
  have hno : ∀ (L W : D) (e4 e5 e6 e7 e8 : Option Cell), noOwn [some (lcC .par (.klst (ns.map .int))), some (lcC .loc sp), some (ocC .loc L), some (ocC .loc W), e4, e5, e6, e7, e8, none, none, none, none, none, none] [9] = true := fun _ _ _ _ _ _ _ => rfl
  have hw : ∀ (L W : D) (e4 e5 e6 e7 e8 : Option Cell), wipeE [some (lcC .par (.klst (ns.map .int))), some (lcC .loc sp), some (ocC .loc L), some (ocC .loc W), e4, e5, e6, e7, e8, none, none, none, none, none, none] [9] = [some (lcC .par (.klst (ns.map .int))), some (lcC .loc sp), some (ocC .loc L), some (ocC .loc W), e4, e5, e6, e7, e8, none, none, none, none, none, none] := fun _ _ _ _ _ _ _ => rfl
  have nop1 : nop (.int 1) = some (.int (-1)) := rfl
  unfold EL
  simp -implicitDefEqProofs only [retD_some, retD_none, retV_some, retV_none, bnd_ok, bnd_none, bnd_exc, d_ro, d_tmp, d_bor, evC_eq, evVar_eq, rdV_lc, rdV_oc, evOp2_eq, k2a_eq, k2b_ro, k2b_tmp, k2b_bor, evOp1_eq, k1_eq, evAdd_eq, kaa_eq, kab_ro, kab_tmp, kab_bor, addV_int, addV_str, evChain_eq, kca_eq, kcb_ro, kcc_some, kcd_eq, cop'_eq, evAnd_eq, evOr_eq, kAnd_eq, kOr_eq, notD_eq, evNil_eq, evCons_eq, kCons_eq, kCons2_ro, kCons2_tmp, kCons2_bor, evTup_eq, kTup_eq, tupR_some, evLst_eq, kLst_eq, evSub_eq, ksa_eq, ksb_ro, ksb_tmp, ksb_bor, evSlc_eq, kla_eq, klb_eq, klc_eq, evNo_eq, evInt_eq, kInt_eq, evBi_eq, kBi_eq, evIsa_eq, evIsaT_eq, kIsa_eq, kIsaT_eq, evNew_eq, evCall_eq, kCall_eq, kRet_ret, kRet_exc, bkV_loc, bkV_tmp, bkV_int, bkV_str, bkV_bl, bkV_non, evSeq_eq, bndS_next, bndS_ret, bndS_exc, bndS_none, evPass_eq, bndE_ok, bndE_exc, bndE_none, evExpr_eq, kExpr_eq, evRet_eq, kRetS_eq, evRetN_eq, evIf_eq, kIf_eq, evSet_eq, kSet_eq, setR_some, cellOf_ro, cellOf_tmpF, cellOf_tmpT, effG_loc, effG_int, effG_str, effG_bl, effG_non, evFor_eq, bndI_ok, bndI_exc, kFor_eq, forD_nil, evIter_eq, kIter_str, evRng1_eq, evRng2_eq, kRng1_eq, kRng2_eq, evRaise_eq, evTryAs_eq, kTry_next, kTry_exc, evApp_eq, appR_oc, kApp_eq, mutR_oc, outS_next, outS_ret, outS_exc, fnR_ro, fnR_tmp, roD_nil, roD_cons, List.getElem?_cons_zero, List.getElem?_cons_succ, List.set_cons_zero, List.set_cons_succ, List.length_cons, List.length_nil, List.map_cons, List.map_nil, List.cons_append, List.nil_append, List.replicate_zero, List.replicate_succ, outS_none, evLc_eq, kLc_eq, evList_eq, evJoin_eq, kJoin_eq, evSplit_eq, kSplit_eq, kSplit2_eq, evRng3_eq, Nat.reduceLT, Nat.reduceAdd, Nat.reduceSub, if_true, if_false, Bool.false_eq_true, decide_true, decide_false, Bool.not_true, Bool.not_false, Bool.true_and, Bool.and_true, Bool.false_and, Bool.and_false, map_some', List.length_map, lb_law_2_q, hc, hd', hs1, hs2, hz1, hz2, f3, f7, bop_add, fz, show (b.map D.int).length ≤ lim from by rw [List.length_map]; omega, show b.length ≤ lim from by omega, ho1, ap1, mx, nop1, bor_last, hit, hno, hw, hl4, show (4 : Nat) ≤ lim from by decide, hlc, Option.bind_some, hmk, hj, ho2, ap2, mp1]

theorem turns (ns : List Int) (sp : D) : ∀ (as_ : List Nat) (h : ∀ a ∈ as_, a + 1 < 64) (bs : List (List Int)) (hl : bs.length + as_.length ≤ 100) (hb : ∀ b ∈ bs, Bx b) (e4 e5 e6 e7 e8 : Option Cell), ∃ bs' f4 f5 f6 f7 f8, (∀ b ∈ bs', Bx b) ∧ bs'.length = bs.length + as_.length ∧
    forD (.one 4) lb_law_2 .loc (as_.map fun (k : Nat) => D.int k) (EL (lcC .par (.klst (ns.map .int))) (lcC .loc sp) bs e4 e5 e6 e7 e8) = some (.next (EL (lcC .par (.klst (ns.map .int))) (lcC .loc sp) bs' f4 f5 f6 f7 f8))
  | [], _, bs, _, hb, e4, e5, e6, e7, e8 => ⟨bs, e4, e5, e6, e7, e8, hb, rfl, rfl⟩
  | a :: as_, h, bs, hl, hb, e4, e5, e6, e7, e8 => by
    rw [List.length_cons] at hl
    obtain ⟨b, hbb, f5, f6, f7, f8, ht⟩ := turn ns sp bs (by omega) a (h a List.mem_cons_self) e5 e6 e7 e8
    obtain ⟨bs', g4, g5, g6, g7, g8, h1, h2, h3⟩ := turns ns sp as_ (fun j hj => h j (List.mem_cons_of_mem _ hj)) (bs ++ [b]) (by rw [List.length_append, List.length_singleton]; omega) (fun z hz => by
      rcases List.mem_append.mp hz with hz | hz
      · exact hb z hz
      · rw [List.mem_singleton.mp hz]; exact hbb) (some (lcC .loc (.int a))) f5 f6 f7 f8
    refine ⟨bs', g4, g5, g6, g7, g8, h1, by rw [h2, List.length_append, List.length_singleton, List.length_cons]; omega, ?_⟩
    rw [List.map_cons, forD_cons1 (by simp [EL])]
    have es : (EL (lcC .par (.klst (ns.map .int))) (lcC .loc sp) bs e4 e5 e6 e7 e8).set 4 (some (lcC (effG .loc (.int a)) (.int a))) = EL (lcC .par (.klst (ns.map .int))) (lcC .loc sp) bs (some (lcC .loc (.int a))) e5 e6 e7 e8 := rfl
    rw [es, ht, bndS_next, h3]
theorem last_turns {bs : List (List Int)} (hb : ∀ b ∈ bs, Bx b) (c0 c1 : Cell) (W : D) (e4 e5 e6 e7 e8 e9 e10 e11 e12 : Option Cell) : ∀ (ks : List Nat) (h : ∀ k ∈ ks, k < bs.length) (e14 : Option Cell), ∃ f, forD (.one 14) lb_law_1 .loc (ks.map fun (k : Nat) => D.int k) [some c0, some c1, some (ocC .loc (.lst (bs.map bxD))), some (ocC .loc W), e4, e5, e6, e7, e8, e9, e10, e11, e12, some (lcC .loc (.lst (bs.map bxD))), e14] =
    some (.next [some c0, some c1, some (ocC .loc (.lst (bs.map bxD))), some (ocC .loc W), e4, e5, e6, e7, e8, e9, e10, e11, e12, some (lcC .loc (.lst (bs.map bxD))), f])
  | [], _, e14 => ⟨e14, rfl⟩
  | k :: ks, h, e14 => by
    have hk := h k List.mem_cons_self
    obtain ⟨f, ih⟩ := last_turns hb c0 c1 W e4 e5 e6 e7 e8 e9 e10 e11 e12 ks (fun j hj => h j (List.mem_cons_of_mem _ hj)) (some (lcC .loc (.int k)))
    have ha : atI (bs.map bxD) (k : Int) = some (bxD bs[k]) := at_get (by omega) (by simp [hk])
    have hw : run fn__law_whole_ones [bxD bs[k], bxD bs[k]] = some (.ret (.ro .loc (.bl true))) := whole_ones_run (by rw [bx_len (hb _ (List.getElem_mem hk))]; omega)
    have hsb : subV (.bor 2 .loc (.lst (bs.map bxD))) (.int k) = some (.ro .loc (bxD bs[k])) := sub_bor ha rfl
    refine ⟨f, ?_⟩
    rw [List.map_cons, forD_cons1 (by simp)]
    simp -implicitDefEqProofs only [retD_some, retD_none, retV_some, retV_none, bnd_ok, bnd_none, bnd_exc, d_ro, d_tmp, d_bor, evC_eq, evVar_eq, rdV_lc, rdV_oc, evOp2_eq, k2a_eq, k2b_ro, k2b_tmp, k2b_bor, evOp1_eq, k1_eq, evAdd_eq, kaa_eq, kab_ro, kab_tmp, kab_bor, addV_int, addV_str, evChain_eq, kca_eq, kcb_ro, kcc_some, kcd_eq, cop'_eq, evAnd_eq, evOr_eq, kAnd_eq, kOr_eq, notD_eq, evNil_eq, evCons_eq, kCons_eq, kCons2_ro, kCons2_tmp, kCons2_bor, evTup_eq, kTup_eq, tupR_some, evLst_eq, kLst_eq, evSub_eq, ksa_eq, ksb_ro, ksb_tmp, ksb_bor, evSlc_eq, kla_eq, klb_eq, klc_eq, evNo_eq, evInt_eq, kInt_eq, evBi_eq, kBi_eq, evIsa_eq, evIsaT_eq, kIsa_eq, kIsaT_eq, evNew_eq, evCall_eq, kCall_eq, kRet_ret, kRet_exc, bkV_loc, bkV_tmp, bkV_int, bkV_str, bkV_bl, bkV_non, evSeq_eq, bndS_next, bndS_ret, bndS_exc, bndS_none, evPass_eq, bndE_ok, bndE_exc, bndE_none, evExpr_eq, kExpr_eq, evRet_eq, kRetS_eq, evRetN_eq, evIf_eq, kIf_eq, evSet_eq, kSet_eq, setR_some, cellOf_ro, cellOf_tmpF, cellOf_tmpT, effG_loc, effG_int, effG_str, effG_bl, effG_non, evFor_eq, bndI_ok, bndI_exc, kFor_eq, forD_nil, evIter_eq, kIter_str, evRng1_eq, evRng2_eq, kRng1_eq, kRng2_eq, evRaise_eq, evTryAs_eq, kTry_next, kTry_exc, evApp_eq, appR_oc, kApp_eq, mutR_oc, outS_next, outS_ret, outS_exc, fnR_ro, fnR_tmp, roD_nil, roD_cons, List.getElem?_cons_zero, List.getElem?_cons_succ, List.set_cons_zero, List.set_cons_succ, List.length_cons, List.length_nil, List.map_cons, List.map_nil, List.cons_append, List.nil_append, List.replicate_zero, List.replicate_succ, outS_none, evLc_eq, kLc_eq, evList_eq, evJoin_eq, kJoin_eq, evSplit_eq, kSplit_eq, kSplit2_eq, evRng3_eq, Nat.reduceLT, Nat.reduceAdd, Nat.reduceSub, if_true, if_false, Bool.false_eq_true, decide_true, decide_false, Bool.not_true, Bool.not_false, Bool.true_and, Bool.and_true, Bool.false_and, Bool.and_false, map_some', List.length_map, lb_law_1_q, sub_lst, ha, hsb, hw, ih]
theorem steps : ∀ j : Fin 63, 4 ≤ j.val → Builtin.Range.small 2 ((j.val : Nat) : Int) 2 = true ∧ 0 ≤ Builtin.Range.rangeSize 2 ((j.val : Nat) : Int) 2 ∧ 1 ≤ (Builtin.Range.rangeSize 2 ((j.val : Nat) : Int) 2).toNat ∧ (Builtin.Range.rangeSize 2 ((j.val : Nat) : Int) 2).toNat ≤ 30 := by decide +kernel
theorem good (ns : List Int) (hn : ns.length ≤ 63) : Good fn_law ns := by
  refine good_of ⟨.loc, ?_⟩
  obtain ⟨c, c0, c1, hc⟩ := cell_run ns 0 (by omega)
  obtain ⟨d, d0, d1, hd⟩ := cell_run ns 1 (by omega)
  have hc' : run fn__law_cell [.klst (ns.map .int), .int 0] = some (.ret (.ro .loc (.int c))) := hc
  have hd' : run fn__law_cell [.klst (ns.map .int), .int 1] = some (.ret (.ro .loc (.int d))) := hd
  obtain ⟨s1, hs1, s1a, s1b⟩ := side_run c0
  obtain ⟨s2, hs2, s2a, s2b⟩ := side_run d0
  have hpr : run fn__law_place_right [spot s1 s2] = some (.ret (.ro .loc (.bl true))) := place_right_run (show s1.natAbs < 10 ^ 60 by omega) (show s2.natAbs < 10 ^ 60 by omega)
  have fz : frzAll [.ro .loc (.int s1), .ro .loc (.int s2)] = some (.loc, [.int s1, .int s2]) := rfl
  have ml : mkLst [] = some (.tmp .loc (.lst [])) := rfl
  obtain ⟨jn, hj4, hj, hje⟩ : ∃ jn : Nat, 4 ≤ jn ∧ jn < 63 ∧ (if (if (62 : Int) < (ns.length : Int) then (62 : Int) else (ns.length : Int)) > 4 then (if (62 : Int) < (ns.length : Int) then (62 : Int) else (ns.length : Int)) else 4) = ((jn : Nat) : Int) := by
    refine ⟨max 4 (min ns.length 62), by omega, by omega, ?_⟩
    split <;> split <;> omega
  obtain ⟨t1, t2, t3, t4⟩ := steps ⟨jn, hj⟩ hj4
  simp only at t1 t2 t3 t4
  generalize hsz : (Builtin.Range.rangeSize 2 ((jn : Nat) : Int) 2).toNat = m at t3 t4
  have hst : stepD 2 2 m = ((List.range m).map fun i => 2 + i * 2).map fun (k : Nat) => D.int k := by
    unfold stepD
    rw [List.map_map]
    refine List.map_congr_left fun i _ => ?_
    show D.int (2 + (i : Int) * 2) = D.int ((2 + i * 2 : Nat) : Int)
    rw [Int.natCast_add, Int.natCast_mul]
    rfl
  have t5 : (Builtin.Range.small 2 ((jn : Nat) : Int) 2 && decide ((2 : Int) ≠ 0 ∧ (2 : Int).natAbs < 1073741824 ∧ 0 ≤ Builtin.Range.rangeSize 2 ((jn : Nat) : Int) 2)) = true := by
    rw [t1, Bool.true_and]
    exact decide_eq_true ⟨by decide, by decide, t2⟩
  have hrng : ∀ g1 ρ, kRng3 [.ro .loc (.int 2), .ro g1 (.int ((jn : Nat) : Int)), .ro .loc (.int 2)] ρ = some (.ok (.loc, ((List.range m).map fun i => 2 + i * 2).map fun (k : Nat) => D.int k) ρ) := fun g1 ρ => by
    rw [kRng3_eq, if_pos t5, hsz, hst]
  obtain ⟨bs, f4, f5, f6, f7, f8, hb, hbl, hloop⟩ := turns ns (spot s1 s2) ((List.range m).map fun i => 2 + i * 2) (fun a ha => by
    obtain ⟨i, hi, rfl⟩ := List.mem_map.mp ha
    have := List.mem_range.mp hi
    omega) [] (by simp; omega) (fun b hb => by cases hb) none none none none none
  rw [List.length_nil, List.length_map, List.length_range, Nat.zero_add] at hbl
  unfold EL at hloop
  rw [List.map_nil, List.map_nil] at hloop
  have hbne : bs ≠ [] := fun q => by rw [q] at hbl; simp at hbl; omega
  have wm : bs.map wD = (bs.map nums).map .str := by rw [List.map_map]; rfl
  have hs := body_sum hb
  have hjn : ∀ ρ, kJoin2 "+" (.bor 3 .loc (.lst (bs.map wD))) ρ = some (.ok (.ro .loc (.str (bodyS bs))) ρ) := fun ρ => kJoin2_eq (ys := bs.map nums) (show D.lst (bs.map wD) = _ by rw [wm]) (by
    have : lim = 1000000 := rfl
    rw [plus1, List.length_map]
    omega)
  have hkl : ∀ ρ, kList (.bor 2 .loc (.lst (bs.map bxD))) ρ = some (.ok (.tmp .loc (.lst (bs.map bxD))) ρ) := fun ρ => kList_own (bxs_leaf bs)
  have hsb := show_body_run hb (by omega)
  have hrb := read_body_run hb hbne (by omega)
  have hdat : dataB dep (.lst (bs.map bxD)) = true := by
    unfold dep
    simp only [dataB, List.all_map]
    refine List.all_eq_true.mpr fun b _ => ?_
    show dataB 5 (.tup (b.map .int)) = true
    simp [dataB]
  have hne : cop .ne (.lst (bs.map bxD)) (.lst (bs.map bxD)) = some false := by
    show (eqD (.lst (bs.map bxD)) (.lst (bs.map bxD))).map not = _
    rw [eqD_lst hdat]; rfl
  have a1 : okX gb.cs (.str (bodyS bs)) = true := rfl
  have a2 : isa gb.cs (.str (bodyS bs)) (.ty .str) = some true := rfl
  have a3 : okX gb.cs (.lst (bs.map bxD)) = true := rfl
  have a4 : isa gb.cs (.lst (bs.map bxD)) (.ty .list) = some true := rfl
  have s62 : small62 (bs.length : Int) = true := by
    unfold small62
    rw [decide_eq_true (by omega), decide_eq_true (by omega)]; rfl
  have hr : rangeD 0 ((bs.length : Int)).toNat = (List.range bs.length).map fun (k : Nat) => D.int k := by rw [Int.toNat_natCast, range_ints]
  have e5 : cop .ne (.int bs.length) (.int bs.length) = some false := by rw [cop_neI, decide_eq_true rfl]; rfl
  obtain ⟨f, hlast⟩ := last_turns hb (lcC .par (.klst (ns.map .int))) (lcC .loc (spot s1 s2)) (.lst (bs.map wD)) f4 f5 f6 f7 f8 none (some (lcC .loc (.str (bodyS bs)))) (some (lcC .loc (.lst (bs.map bxD)))) (some (lcC .loc (.str (bodyS bs)))) (List.range bs.length) (fun k hk => List.mem_range.mp hk) none
  unfold fn_law
  rw [run_fnD]
  have sp : D.tup [.int s1, .int s2] = spot s1 s2 := rfl
  simp -implicitDefEqProofs only [retD_some, retD_none, retV_some, retV_none, bnd_ok, bnd_none, bnd_exc, d_ro, d_tmp, d_bor, evC_eq, evVar_eq, rdV_lc, rdV_oc, evOp2_eq, k2a_eq, k2b_ro, k2b_tmp, k2b_bor, evOp1_eq, k1_eq, evAdd_eq, kaa_eq, kab_ro, kab_tmp, kab_bor, addV_int, addV_str, evChain_eq, kca_eq, kcb_ro, kcc_some, kcd_eq, cop'_eq, evAnd_eq, evOr_eq, kAnd_eq, kOr_eq, notD_eq, evNil_eq, evCons_eq, kCons_eq, kCons2_ro, kCons2_tmp, kCons2_bor, evTup_eq, kTup_eq, tupR_some, evLst_eq, kLst_eq, evSub_eq, ksa_eq, ksb_ro, ksb_tmp, ksb_bor, evSlc_eq, kla_eq, klb_eq, klc_eq, evNo_eq, evInt_eq, kInt_eq, evBi_eq, kBi_eq, evIsa_eq, evIsaT_eq, kIsa_eq, kIsaT_eq, evNew_eq, evCall_eq, kCall_eq, kRet_ret, kRet_exc, bkV_loc, bkV_tmp, bkV_int, bkV_str, bkV_bl, bkV_non, evSeq_eq, bndS_next, bndS_ret, bndS_exc, bndS_none, evPass_eq, bndE_ok, bndE_exc, bndE_none, evExpr_eq, kExpr_eq, evRet_eq, kRetS_eq, evRetN_eq, evIf_eq, kIf_eq, evSet_eq, kSet_eq, setR_some, cellOf_ro, cellOf_tmpF, cellOf_tmpT, effG_loc, effG_int, effG_str, effG_bl, effG_non, evFor_eq, bndI_ok, bndI_exc, kFor_eq, forD_nil, evIter_eq, kIter_str, evRng1_eq, evRng2_eq, kRng1_eq, kRng2_eq, evRaise_eq, evTryAs_eq, kTry_next, kTry_exc, evApp_eq, appR_oc, kApp_eq, mutR_oc, outS_next, outS_ret, outS_exc, fnR_ro, fnR_tmp, roD_nil, roD_cons, List.getElem?_cons_zero, List.getElem?_cons_succ, List.set_cons_zero, List.set_cons_succ, List.length_cons, List.length_nil, List.map_cons, List.map_nil, List.cons_append, List.nil_append, List.replicate_zero, List.replicate_succ, outS_none, evLc_eq, kLc_eq, evList_eq, evJoin_eq, kJoin_eq, evSplit_eq, kSplit_eq, kSplit2_eq, evRng3_eq, Nat.reduceLT, Nat.reduceAdd, Nat.reduceSub, if_true, if_false, Bool.false_eq_true, decide_true, decide_false, Bool.not_true, Bool.not_false, Bool.true_and, Bool.and_true, Bool.false_and, Bool.and_false, map_some', List.length_map, ev_law, hc', hd', hs1, hs2, fz, show (0 + 1 + 1 : Nat) ≤ lim from by decide, show (2 : Nat) ≤ lim from by decide, sp, hpr, show (0 : Nat) ≤ lim from by decide, ml, bf_lenK, bf_min, bf_max, hje, hrng, List.map_nil, hloop, hjn, hkl, hsb, hne, a1, a2, a3, a4, cop_neS, hrb, bf_lenL, e5, s62, hr, hlast]
end K75
theorem PySem.Challenge.cw_haulway_k75_places_and_bodies_holds : PySem.Challenge.rw_haulway_k75_places_and_bodies.Holds :=
  law_of K75.good

