import PyProof.Rows.All
import Wide.All
import OpenK.AllK
import Wide.FinOn
import HandS.ForMost
import HandS.Exc
import HandS.TryOnly
import HandS.ExcOwn
import HandS.WordsExc
import HandS.Wide
import HandS.TupAny
import HandS.TupMul
import HandS.Gcd
import HandS.Deep
import HandS.IsInst
import HandS.Style
import HandS.Zip0
import HandS.Zip
import HandS.Rev
import PyProof.EnumMake
import PyProof.Draws
import HandS.Star
import PyProof.ReprLen
import PyProof.Rows.NestShow
import HandS.ExcInit
import KE.KExcSuper
import HandS.Dict
import HandS.Lambda
import HandS.ExcIs
import HandS.ExcField
import HandS.EndTab
import HandS.EndBits
import HandS.NestedK
import PySem.Challenge.RW_inallclosings_k06_whole_quotients
set_option Elab.async false
set_option linter.all false
set_option autoImplicit false
set_option maxRecDepth 100000
set_option maxHeartbeats 1000000
/-! DL1: values as plain data, the relation to the abstract heap, results, the lift to readings. -/
namespace DL
open PySem PySem.Spec PyProof.Rows L2

/-- a plain value -/
inductive D where
  | non | bl (b : Bool) | int (i : Int) | str (s : Str) | tup (xs : List D) | lst (xs : List D) | drw | raw (v : V) | exc0 (n : Nat) | exc1 (n : Nat) (f : Str) (d : D)

/-- what the relation leans on: the written part, the draw object -/
structure Kx where
  K : PySem.W.Frag
  dr : V
  cl : Nat → Addr

mutual
inductive Rep (κ : Kx) (H : Hp) : D → V → Prop
  | non : Rep κ H .non .non
  | bl {b : Bool} : Rep κ H (.bl b) (.bl b)
  | int {i : Int} : Rep κ H (.int i) (.int i)
  | str {s : Str} : Rep κ H (.str s) (.str s)
  | drw : Rep κ H .drw κ.dr
  | raw {v : V} : Rep κ H (.raw v) v
  | tup {a : Addr} {xs : List V} {ds : List D} : SqT κ.K H a xs → RepL κ H ds xs → Rep κ H (.tup ds) (.ref a)
  | lst {a : Addr} {xs : List V} {ds : List D} : H a = some (.lst xs) → RepL κ H ds xs → Rep κ H (.lst ds) (.ref a)
  | exc0 {a : Addr} {n : Nat} {oe : Obj} {u : HO} : H a = some (.frz oe u) → oe.cls = .ref (κ.cl n) → oe.dict = none → (∃ vs, oe.data = .fields vs) → Rep κ H (.exc0 n) (.ref a)
  | exc1 {a dd : Addr} {n : Nat} {oe : Obj} {u : HO} {f : Str} {d : D} {v : V} : H a = some (.frz oe u) → oe.cls = .ref (κ.cl n) → oe.dict = some dd → (∃ vs, oe.data = .fields vs) → H dd = some (.xd [(f, v)]) → Rep κ H d v → Rep κ H (.exc1 n f d) (.ref a)
inductive RepL (κ : Kx) (H : Hp) : List D → List V → Prop
  | nil : RepL κ H [] []
  | cons {d : D} {ds : List D} {x : V} {xs : List V} : Rep κ H d x → RepL κ H ds xs → RepL κ H (d :: ds) (x :: xs)
end

theorem Same.sqT {K : PySem.W.Frag} {H H' : Hp} {a : Addr} {xs : List V} (e : Same H H') (h : SqT K H a xs) : SqT K H' a xs := by
  rcases h with (h | ⟨o, h⟩) | h
  · exact .inl (.inl (e _ _ h))
  · exact .inl (.inr ⟨o, e _ _ h⟩)
  · exact .inr h

mutual
theorem Rep.mono {κ : Kx} {H H' : Hp} (e : Same H H') : ∀ {d : D} {v : V}, Rep κ H d v → Rep κ H' d v
  | _, _, .non => .non
  | _, _, .bl => .bl
  | _, _, .int => .int
  | _, _, .str => .str
  | _, _, .drw => .drw
  | _, _, .raw => .raw
  | _, _, .tup h r => .tup (Same.sqT e h) (RepL.mono e r)
  | _, _, .lst h r => .lst (e _ _ h) (RepL.mono e r)
  | _, _, .exc0 h h1 h2 h3 => .exc0 (e _ _ h) h1 h2 h3
  | _, _, .exc1 h h1 h2 h3 h4 r => .exc1 (e _ _ h) h1 h2 h3 (e _ _ h4) (Rep.mono e r)
theorem RepL.mono {κ : Kx} {H H' : Hp} (e : Same H H') : ∀ {ds : List D} {xs : List V}, RepL κ H ds xs → RepL κ H' ds xs
  | _, _, .nil => .nil
  | _, _, .cons r t => .cons (Rep.mono e r) (RepL.mono e t)
end

section
variable {κ : Kx} {H : Hp}
theorem RepL.length : ∀ {ds : List D} {xs : List V}, RepL κ H ds xs → xs.length = ds.length
  | _, _, .nil => rfl
  | _, _, .cons _ t => congrArg (· + 1) (RepL.length t)
theorem RepL.get : ∀ {ds : List D} {xs : List V} {i : Nat} {d : D}, RepL κ H ds xs → ds[i]? = some d → ∃ x, xs[i]? = some x ∧ Rep κ H d x
  | _, _, _, _, .nil, e => by simp at e
  | _, _, 0, _, .cons r _, e => by simp at e; subst e; exact ⟨_, rfl, r⟩
  | _, _, i + 1, _, .cons _ t, e => by
    obtain ⟨x, h1, h2⟩ := RepL.get (i := i) t (by simpa using e)
    exact ⟨x, by simpa using h1, h2⟩
theorem RepL.getV {ds : List D} {xs : List V} {i : Nat} {x : V} (r : RepL κ H ds xs) (e : xs[i]? = some x) : ∃ d, ds[i]? = some d ∧ Rep κ H d x := by
  have hl := r.length
  have hi : i < ds.length := by
    have := (List.getElem?_eq_some_iff.mp e).1
    omega
  obtain ⟨y, h1, h2⟩ := r.get (i := i) (d := ds[i]) (by simp [hi])
  rw [e] at h1; cases h1
  exact ⟨ds[i], by simp [hi], h2⟩
theorem RepL.append : ∀ {ds es : List D} {xs ys : List V}, RepL κ H ds xs → RepL κ H es ys → RepL κ H (ds ++ es) (xs ++ ys)
  | _, _, _, _, .nil, s => s
  | _, _, _, _, .cons r t, s => .cons r (RepL.append t s)
theorem RepL.set {d : D} {x : V} (r : Rep κ H d x) : ∀ {ds : List D} {xs : List V} (i : Nat), RepL κ H ds xs → RepL κ H (ds.set i d) (xs.set i x)
  | _, _, _, .nil => .nil
  | _, _, 0, .cons _ t => .cons r t
  | _, _, i + 1, .cons q t => .cons q (RepL.set r i t)
theorem RepL.take : ∀ {ds : List D} {xs : List V} (n : Nat), RepL κ H ds xs → RepL κ H (ds.take n) (xs.take n)
  | _, _, 0, _ => .nil
  | _, _, _ + 1, .nil => .nil
  | _, _, n + 1, .cons r t => .cons r (RepL.take n t)
theorem RepL.drop : ∀ {ds : List D} {xs : List V} (n : Nat), RepL κ H ds xs → RepL κ H (ds.drop n) (xs.drop n)
  | _, _, 0, r => r
  | _, _, _ + 1, .nil => .nil
  | _, _, n + 1, .cons _ t => RepL.drop n t
theorem RepL.one {d : D} {x : V} (r : Rep κ H d x) : RepL κ H [d] [x] := .cons r .nil
theorem RepL.inv1 {d : D} {xs : List V} (r : RepL κ H [d] xs) : ∃ x, xs = [x] ∧ Rep κ H d x := by
  cases r with
  | cons r t => cases t; exact ⟨_, rfl, r⟩
theorem RepL.inv2 {d e : D} {xs : List V} (r : RepL κ H [d, e] xs) : ∃ x y, xs = [x, y] ∧ Rep κ H d x ∧ Rep κ H e y := by
  cases r with
  | cons r t =>
    obtain ⟨y, rfl, q⟩ := t.inv1
    exact ⟨_, y, rfl, r, q⟩
theorem RepL.inv3 {d e f : D} {xs : List V} (r : RepL κ H [d, e, f] xs) : ∃ x y z, xs = [x, y, z] ∧ Rep κ H d x ∧ Rep κ H e y ∧ Rep κ H f z := by
  cases r with
  | cons r t =>
    obtain ⟨y, z, rfl, q, q'⟩ := t.inv2
    exact ⟨_, y, z, rfl, r, q, q'⟩
theorem RepL.reverse : ∀ {ds : List D} {xs : List V}, RepL κ H ds xs → RepL κ H ds.reverse xs.reverse
  | _, _, .nil => .nil
  | _, _, .cons r t => by
    rw [List.reverse_cons, List.reverse_cons]
    exact (RepL.reverse t).append (.one r)
theorem RepL.rep {ds : List D} {xs : List V} (r : RepL κ H ds xs) : ∀ k : Nat, RepL κ H (List.replicate k ds).flatten (List.replicate k xs).flatten
  | 0 => .nil
  | k + 1 => by
    rw [List.replicate_succ, List.replicate_succ, List.flatten_cons, List.flatten_cons]
    exact r.append (RepL.rep r k)
theorem RepL.dropLast {ds : List D} {xs : List V} (r : RepL κ H ds xs) : RepL κ H ds.dropLast xs.dropLast := by
  rw [List.dropLast_eq_take, List.dropLast_eq_take, r.length]
  exact r.take _
end

/-! ### the draw object's state, slots, results -/
structure Dr where
  large : List Int
  cells : List Int
  rest : Int
  turn : Int
abbrev Wo := Option Dr

inductive Sl where
  | un | dat (d : D) | own (ds : List D)
abbrev En := List Sl

/-- an exception: its class by number, its field -/
structure Xc where
  cls : Nat
  part : Option (Str × D)

inductive ER (α : Type) where
  | ok (a : α) (w : Wo) | exc (x : Xc) (w : Wo) | bad
abbrev E (α : Type) := Wo → En → ER α
inductive SR where
  | nx (e : En) (w : Wo) | bk (e : En) (w : Wo) | ct (e : En) (w : Wo) | rt (d : D) (w : Wo) | exc (x : Xc) (e : En) (w : Wo) | bad
abbrev S := Wo → En → SR

def ebind {α β : Type} (f : E α) (k : α → E β) : E β := fun w e => match f w e with
  | .ok a w1 => k a w1 e
  | .exc x w1 => .exc x w1
  | .bad => .bad
def epure {α : Type} (a : α) : E α := fun w _ => .ok a w
/-- an answer or none -/
def eopt {α : Type} : Option α → E α
  | some a => epure a
  | none => fun _ _ => .bad

/-- what else is tracked (the draw object): its places, what is true of them -/
structure Gam where
  fp : Addr → Prop
  ok : Wo → Hp → Prop
  loc : ∀ {w : Wo} {H H' : Hp}, ok w H → (∀ a, fp a → H' a = H a) → (∀ a φ, H a = some (.ext φ) → H' a = some (.ext φ)) → ok w H'
  trk : ∀ {w : Wo} {H : Hp} {a : Addr}, ok w H → fp a → H a ≠ none
def Gam.no : Gam := ⟨fun _ => False, fun _ _ => True, fun h _ _ => h, fun _ z => z.elim⟩

/-- growth: Hb the plain data's part of H -/
structure Gr (fp : Addr → Prop) (Hb H Hb' H' : Hp) : Prop where
  b : Same Hb Hb'
  s : Same Hb' H'
  h : ∀ a o, H a = some o → ¬ fp a → H' a = some o
  d : ∀ a, H a ≠ none → H' a ≠ none
  n : ∀ a, Hb' a ≠ none → Hb a ≠ none ∨ H a = none
theorem Gr.refl {fp : Addr → Prop} {Hb H : Hp} (s : Same Hb H) : Gr fp Hb H Hb H := ⟨Same.refl _, s, fun _ _ e _ => e, fun _ e => e, fun _ e => .inl e⟩
theorem Gr.trans {fp : Addr → Prop} {Hb H Hb1 H1 Hb2 H2 : Hp} (a : Gr fp Hb H Hb1 H1) (b : Gr fp Hb1 H1 Hb2 H2) : Gr fp Hb H Hb2 H2 where
  b := a.b.trans b.b
  s := b.s
  h := fun x o e n => b.h x o (a.h x o e n) n
  d := fun x e => b.d x (a.d x e)
  n := fun x e => by
    rcases b.n x e with q | q
    · exact a.n x q
    · refine .inr ?_
      cases z : H x with
      | none => rfl
      | some o => exact absurd q (a.d x (by rw [z]; simp))
theorem Gr.sub {fp : Addr → Prop} {Hb H Hb' H' : Hp} (g : Gr (fun _ => False) Hb H Hb' H') : Gr fp Hb H Hb' H' := ⟨g.b, g.s, fun a o e _ => g.h a o e (fun z => z), g.d, g.n⟩
theorem Gr.same {Hb H Hb' H' : Hp} (g : Gr (fun _ => False) Hb H Hb' H') : Same H H' := fun a o e => g.h a o e (fun z => z)
theorem Gr.of {Hb H Hb' H' : Hp} (b : Same Hb Hb') (s : Same Hb' H') (h : Same H H') (n : ∀ a, Hb' a ≠ none → Hb a ≠ none ∨ H a = none) : Gr (fun _ => False) Hb H Hb' H' :=
  ⟨b, s, fun a o e _ => h a o e, fun a e => by
    cases z : H a with
    | none => exact absurd z e
    | some o => rw [h a o z]; simp, n⟩
theorem Gr.id {Hb H : Hp} (s : Same Hb H) : Gr (fun _ => False) Hb H Hb H := .of (Same.refl _) s (Same.refl _) fun _ e => .inl e
/-- a new object that is plain data -/
theorem Gr.alloc {Hb H : Hp} {p : Addr} {o : HO} (s : Same Hb H) (hp : H p = none) : Gr (fun _ => False) Hb H (upd Hb p o) (upd H p o) := by
  have hb : Hb p = none := s.free hp
  refine .of (fun b u e => ?_) (fun b u e => ?_) (fun b u e => ?_) (fun a e => ?_)
  · rw [upd_ne (ne_of_none e hb)]; exact e
  · by_cases h : b = p
    · subst h; rw [upd_same] at e ⊢; exact e
    · rw [upd_ne h] at e ⊢; exact s b u e
  · rw [upd_ne (ne_of_none e hp)]; exact e
  · by_cases h : a = p
    · subst h; exact .inr hp
    · rw [upd_ne h] at e; exact .inl e
/-- a new object that is none of the plain data (yet) -/
theorem Gr.alloc0 {Hb H : Hp} {p : Addr} {o : HO} (s : Same Hb H) (hp : H p = none) : Gr (fun _ => False) Hb H Hb (upd H p o) := by
  have hn : ∀ b u, H b = some u → upd H p o b = some u := fun b u e => by rw [upd_ne (ne_of_none e hp)]; exact e
  exact .of (Same.refl _) (fun b u e => hn b u (s b u e)) hn fun _ e => .inl e

/-- the slots -/
structure EnvRel (κ : Kx) (fp : Addr → Prop) (H0 Hb H : Hp) (σ : L2.St) (env : En) : Prop where
  dat : ∀ (i : Nat) (d : D), env[i]? = some (Sl.dat d) → ∃ v, σ[i]? = some (some v) ∧ Rep κ Hb d v
  own : ∀ (i : Nat) (ds : List D), env[i]? = some (Sl.own ds) → ∃ a xs, σ[i]? = some (some (V.ref a)) ∧ H a = some (.lst xs) ∧ RepL κ Hb ds xs ∧ Hb a = none ∧ H0 a = none ∧ ¬ fp a
  sep : ∀ (i j : Nat) (ds es : List D) (a : Addr), i ≠ j → env[i]? = some (Sl.own ds) → env[j]? = some (Sl.own es) → σ[i]? = some (some (V.ref a)) → σ[j]? ≠ some (some (V.ref a))
  len : env.length = σ.length
theorem EnvRel.mono {κ : Kx} {fp : Addr → Prop} {H0 Hb H Hb' H' : Hp} {σ : L2.St} {env : En} (r : EnvRel κ fp H0 Hb H σ env) (g : Gr fp Hb H Hb' H') : EnvRel κ fp H0 Hb' H' σ env where
  dat := fun i d e => by
    obtain ⟨v, h1, h2⟩ := r.dat i d e
    exact ⟨v, h1, h2.mono g.b⟩
  own := fun i ds e => by
    obtain ⟨a, xs, h1, h2, h3, h4, h5, h6⟩ := r.own i ds e
    refine ⟨a, xs, h1, g.h a _ h2 h6, h3.mono g.b, ?_, h5, h6⟩
    cases z : Hb' a with
    | none => rfl
    | some o =>
      rcases g.n a (by rw [z]; simp) with q | q
      · exact absurd h4 q
      · rw [h2] at q; cases q
  sep := r.sep
  len := r.len

/-- the context of a body: Wx is what is wanted of an exception -/
structure Ct where
  κ : Kx
  Γ : Gam
  Hb0 : Hp
  H0 : Hp
  Wx : WX
abbrev Ct.cl (C : Ct) : Nat → Addr := C.κ.cl
abbrev Ct.fp (C : Ct) : Addr → Prop := C.Γ.fp

structure Rel (C : Ct) (w : Wo) (env : En) (Hb H : Hp) (σ : L2.St) : Prop where
  gr : Gr C.fp C.Hb0 C.H0 Hb H
  ok : C.Γ.ok w H
  env : EnvRel C.κ C.fp C.H0 Hb H σ env
theorem Rel.same {C : Ct} {w : Wo} {env : En} {Hb H : Hp} {σ : L2.St} (r : Rel C w env Hb H σ) : Same Hb H := r.gr.s
theorem Rel.mono {C : Ct} {w w' : Wo} {env : En} {Hb H Hb' H' : Hp} {σ : L2.St} (r : Rel C w env Hb H σ) (g : Gr C.fp Hb H Hb' H') (k : C.Γ.ok w' H') : Rel C w' env Hb' H' σ := ⟨r.gr.trans g, k, r.env.mono g⟩
/-- what is not tracked besides stays -/
theorem Rel.okOf {C : Ct} {w : Wo} {env : En} {Hb H Hb' H' : Hp} {σ : L2.St} (r : Rel C w env Hb H σ) (g : Gr (fun _ => False) Hb H Hb' H') : C.Γ.ok w H' := by
  refine C.Γ.loc r.ok (fun a ha => ?_) fun a φ e => g.same a _ e
  have t := C.Γ.trk r.ok ha
  cases z : H a with
  | none => exact absurd z t
  | some o => exact g.same a o z
theorem Rel.grow {C : Ct} {w : Wo} {env : En} {Hb H Hb' H' : Hp} {σ : L2.St} (r : Rel C w env Hb H σ) (g : Gr (fun _ => False) Hb H Hb' H') : Rel C w env Hb' H' σ := r.mono g.sub (r.okOf g)

/-- an exception as it lies: its class, its dict -/
def XRep (κ : Kx) (cl : Nat → Addr) (Hb : Hp) (x : Xc) (cls : Value) (dd : Option Addr) : Prop :=
  cls = .ref (cl x.cls) ∧ match x.part with
    | none => dd = none
    | some (n, d) => ∃ a v, dd = some a ∧ Hb a = some (.xd [(n, v)]) ∧ Rep κ Hb d v

/-- what is wanted behind an expression -/
def Post (C : Ct) {α β : Type} (R : Hp → Hp → α → β → Prop) (r : ER α) (env : En) (Hb H : Hp) (σ : L2.St) (Q : β → Hp → Prop) : Prop := match r with
  | .ok d w' => ∀ Hb' H' v, Gr C.fp Hb H Hb' H' → Rel C w' env Hb' H' σ → R Hb' H' d v → Q v H'
  | .exc x w' => ∀ Hb' H' c dd, Gr C.fp Hb H Hb' H' → Rel C w' env Hb' H' σ → XRep C.κ C.cl Hb' x c dd → C.Wx c dd σ H'
  | .bad => False
theorem Post.mono {C : Ct} {α β : Type} {R : Hp → Hp → α → β → Prop} {r : ER α} {env : En} {Hb H Hb1 H1 : Hp} {σ : L2.St} {Q : β → Hp → Prop} (p : Post C R r env Hb H σ Q) (g : Gr C.fp Hb H Hb1 H1) : Post C R r env Hb1 H1 σ Q := by
  cases r with
  | ok d w' => exact fun Hb' H' v g' => p Hb' H' v (g.trans g')
  | exc x w' => exact fun Hb' H' c dd g' => p Hb' H' c dd (g.trans g')
  | bad => exact p
abbrev RD (C : Ct) : Hp → Hp → D → V → Prop := fun Hb _ d v => Rep C.κ Hb d v
abbrev RL (C : Ct) : Hp → Hp → List D → List V → Prop := fun Hb _ d v => RepL C.κ Hb d v
abbrev RB : Hp → Hp → Bool → Bool → Prop := fun _ _ a b => a = b

/-- a borrowed value: plain data, or a list of one's own -/
inductive Bor (κ : Kx) (fp : Addr → Prop) (Hb H : Hp) : D → V → Prop
  | of {d : D} {v : V} : Rep κ Hb d v → Bor κ fp Hb H d v
  | own {a : Addr} {xs : List V} {ds : List D} : H a = some (.lst xs) → RepL κ Hb ds xs → ¬ fp a → Bor κ fp Hb H (.lst ds) (.ref a)
inductive BorL (κ : Kx) (fp : Addr → Prop) (Hb H : Hp) : List D → List V → Prop
  | nil : BorL κ fp Hb H [] []
  | cons {d : D} {ds : List D} {x : V} {xs : List V} : Bor κ fp Hb H d x → BorL κ fp Hb H ds xs → BorL κ fp Hb H (d :: ds) (x :: xs)
theorem Bor.mono {κ : Kx} {fp : Addr → Prop} {Hb H Hb' H' : Hp} (g : Gr fp Hb H Hb' H') {d : D} {v : V} : Bor κ fp Hb H d v → Bor κ fp Hb' H' d v
  | .of r => .of (r.mono g.b)
  | .own h r n => .own (g.h _ _ h n) (r.mono g.b) n
theorem Bor.lst {κ : Kx} {fp : Addr → Prop} {Hb H : Hp} {ds : List D} {v : V} (s : Same Hb H) (b : Bor κ fp Hb H (.lst ds) v) : ∃ a xs, v = .ref a ∧ H a = some (.lst xs) ∧ RepL κ Hb ds xs := by
  cases b with
  | of r =>
    cases r with
    | lst h r => exact ⟨_, _, rfl, s _ _ h, r⟩
  | own h r _ => exact ⟨_, _, rfl, h, r⟩
theorem Bor.rep {κ : Kx} {fp : Addr → Prop} {Hb H : Hp} {d : D} {v : V} (b : Bor κ fp Hb H d v) (h : ∀ ds, d ≠ .lst ds) : Rep κ Hb d v := by
  cases b with
  | of r => exact r
  | own _ _ _ => exact absurd rfl (h _)
theorem Bor.tup {κ : Kx} {fp : Addr → Prop} {Hb H : Hp} {ds : List D} {v : V} (s : Same Hb H) (b : Bor κ fp Hb H (.tup ds) v) : ∃ a xs, v = .ref a ∧ SqT κ.K H a xs ∧ RepL κ Hb ds xs := by
  cases b.rep (fun _ z => by cases z) with
  | tup h r => exact ⟨_, _, rfl, Same.sqT s h, r⟩
theorem Bor.int {κ : Kx} {fp : Addr → Prop} {Hb H : Hp} {i : Int} {v : V} (b : Bor κ fp Hb H (.int i) v) : v = .int i := by
  cases b.rep (fun _ z => by cases z); rfl
theorem Bor.str {κ : Kx} {fp : Addr → Prop} {Hb H : Hp} {i : Str} {v : V} (b : Bor κ fp Hb H (.str i) v) : v = .str i := by
  cases b.rep (fun _ z => by cases z); rfl
theorem Bor.bl {κ : Kx} {fp : Addr → Prop} {Hb H : Hp} {i : Bool} {v : V} (b : Bor κ fp Hb H (.bl i) v) : v = .bl i := by
  cases b.rep (fun _ z => by cases z); rfl
theorem Bor.non {κ : Kx} {fp : Addr → Prop} {Hb H : Hp} {v : V} (b : Bor κ fp Hb H .non v) : v = .non := by
  cases b.rep (fun _ z => by cases z); rfl
abbrev RV (C : Ct) : Hp → Hp → D → V → Prop := fun Hb H d v => Bor C.κ C.fp Hb H d v
abbrev RVL (C : Ct) : Hp → Hp → List D → List V → Prop := fun Hb H d v => BorL C.κ C.fp Hb H d v
theorem BorL.mono {κ : Kx} {fp : Addr → Prop} {Hb H Hb' H' : Hp} (g : Gr fp Hb H Hb' H') : ∀ {d : List D} {v : List V}, BorL κ fp Hb H d v → BorL κ fp Hb' H' d v
  | _, _, .nil => .nil
  | _, _, .cons r t => .cons (r.mono g) (BorL.mono g t)
theorem BorL.inv1 {κ : Kx} {fp : Addr → Prop} {Hb H : Hp} {d : D} {xs : List V} (r : BorL κ fp Hb H [d] xs) : ∃ x, xs = [x] ∧ Bor κ fp Hb H d x := by
  cases r with
  | cons r t => cases t; exact ⟨_, rfl, r⟩
theorem BorL.inv2 {κ : Kx} {fp : Addr → Prop} {Hb H : Hp} {d e : D} {xs : List V} (r : BorL κ fp Hb H [d, e] xs) : ∃ x y, xs = [x, y] ∧ Bor κ fp Hb H d x ∧ Bor κ fp Hb H e y := by
  cases r with
  | cons r t =>
    obtain ⟨y, rfl, q⟩ := t.inv1
    exact ⟨_, y, rfl, r, q⟩

def lift (C : Ct) {α β : Type} (R : Hp → Hp → α → β → Prop) (f : E α) : L2.St → Hp → (β → Hp → Prop) → Prop := fun σ H Q =>
  ∃ w env Hb, Rel C w env Hb H σ ∧ Post C R (f w env) env Hb H σ Q
/-- from a bound computation: the first part -/
theorem lift_bind {C : Ct} {α β γ δ : Type} {R : Hp → Hp → α → β → Prop} {R2 : Hp → Hp → γ → δ → Prop} {f : E α} {k : α → E γ} {w : Wo} {env : En} {Hb H : Hp} {σ : L2.St} {Q : δ → Hp → Prop} {Q1 : β → Hp → Prop}
    (r : Rel C w env Hb H σ) (p : Post C R2 (ebind f k w env) env Hb H σ Q)
    (h : ∀ d w1 Hb1 H1 v, Gr C.fp Hb H Hb1 H1 → Rel C w1 env Hb1 H1 σ → R Hb1 H1 d v → Post C R2 (k d w1 env) env Hb1 H1 σ Q → Q1 v H1) : lift C R f σ H Q1 := by
  refine ⟨w, env, Hb, r, ?_⟩
  unfold ebind at p
  cases e : f w env with
  | ok d w1 =>
    rw [e] at p
    exact fun Hb' H' v g k1 r1 => h d w1 Hb' H' v g k1 r1 (Post.mono p g)
  | exc x w1 => rw [e] at p; exact p
  | bad => rw [e] at p; exact p.elim
/-- a pure end -/
theorem Post.fin {C : Ct} {α β : Type} {R : Hp → Hp → α → β → Prop} {a : α} {w : Wo} {env : En} {Hb H Hb' H' : Hp} {σ : L2.St} {Q : β → Hp → Prop} {v : β}
    (r : Rel C w env Hb H σ) (p : Post C R (.ok a w) env Hb H σ Q) (g : Gr (fun _ => False) Hb H Hb' H') (q : R Hb' H' a v) : Q v H' := p Hb' H' v g.sub (r.grow g) q

/-! ### judgements -/
def DE (X : Cx) (C : Ct) (e : Expr) (f : E D) : Prop := X.K = C.κ.K → PE X e (lift C (RD C) f)
def DV (X : Cx) (C : Ct) (e : Expr) (f : E D) : Prop := X.K = C.κ.K → PE X e (lift C (RV C) f)
def DVA (X : Cx) (C : Ct) (es : List Expr) (f : E (List D)) : Prop := X.K = C.κ.K → PA X es (lift C (RVL C) f)
def DT (X : Cx) (C : Ct) (e : Expr) (f : E Bool) : Prop := X.K = C.κ.K → PT X e (lift C RB f)
def DW (X : Cx) (C : Ct) (e : Expr) (f : E Bool) : Prop := X.K = C.κ.K → PW X e (lift C RB f)
def DA (X : Cx) (C : Ct) (es : List Expr) (f : E (List D)) : Prop := X.K = C.κ.K → PA X es (lift C (RL C) f)
theorem PE.imp {X : Cx} {e : Expr} {t t' : TE} (h : PE X e t) (k : ∀ σ H Q, t' σ H Q → t σ H Q) : PE X e t' := ⟨fun pins s σ H Q I q => h.run pins s σ H Q I (k σ H Q q)⟩
theorem PT.imp {X : Cx} {e : Expr} {t t' : TT} (h : PT X e t) (k : ∀ σ H Q, t' σ H Q → t σ H Q) : PT X e t' := ⟨fun pins s σ H Q I q => h.run pins s σ H Q I (k σ H Q q)⟩
theorem PW.imp {X : Cx} {e : Expr} {t t' : TT} (h : PW X e t) (k : ∀ σ H Q, t' σ H Q → t σ H Q) : PW X e t' := ⟨fun wh pins s σ H Q I q => h.run wh pins s σ H Q I (k σ H Q q)⟩
theorem PA.imp {X : Cx} {es : List Expr} {t t' : TA} (h : PA X es t) (k : ∀ σ H Q, t' σ H Q → t σ H Q) : PA X es t' := ⟨fun pos pins s σ H Q I q => h.run pos pins s σ H Q I (k σ H Q q)⟩
theorem PS.imp {X : Cx} {st : Stmt} {t t' : TS} (h : PS X st t) (k : ∀ D σ H, t' D σ H → t D σ H) : PS X st t' := ⟨fun pins s σ H D I q => h.run pins s σ H D I (k D σ H q)⟩
theorem PSs.imp {X : Cx} {st : List Stmt} {t t' : TS} (h : PSs X st t) (k : ∀ D σ H, t' D σ H → t D σ H) : PSs X st t' := ⟨fun pins s σ H D I q => h.run pins s σ H D I (k D σ H q)⟩

/-- what comes into a slot: plain data, or a fresh list of one's own (Hs: the heap ahead) -/
inductive SlNew (κ : Kx) (Hs Hb H : Hp) : Sl → V → Prop
  | dat {d : D} {v : V} : Rep κ Hb d v → SlNew κ Hs Hb H (.dat d) v
  | own {a : Addr} {xs : List V} {ds : List D} : Hs a = none → H a = some (.lst xs) → RepL κ Hb ds xs → Hb a = none → SlNew κ Hs Hb H (.own ds) (.ref a)
def PostL (C : Ct) (r : ER Sl) (env : En) (Hb H : Hp) (σ : L2.St) (Q : VK) : Prop := match r with
  | .ok s w' => ∀ Hb' H' v, Gr C.fp Hb H Hb' H' → Rel C w' env Hb' H' σ → SlNew C.κ H Hb' H' s v → Q v H'
  | .exc x w' => ∀ Hb' H' c dd, Gr C.fp Hb H Hb' H' → Rel C w' env Hb' H' σ → XRep C.κ C.cl Hb' x c dd → C.Wx c dd σ H'
  | .bad => False
def liftL (C : Ct) (f : E Sl) : TE := fun σ H Q => ∃ w env Hb, Rel C w env Hb H σ ∧ PostL C (f w env) env Hb H σ Q
def DL (X : Cx) (C : Ct) (e : Expr) (f : E Sl) : Prop := X.K = C.κ.K → PE X e (liftL C f)

/-- a fresh list of one's own -/
def PostO (C : Ct) (r : ER (List D)) (env : En) (Hb H : Hp) (σ : L2.St) (Q : VK) : Prop := match r with
  | .ok ds w' => ∀ Hb' H' a xs, Gr C.fp Hb H Hb' H' → Rel C w' env Hb' H' σ → H a = none → H' a = some (.lst xs) → RepL C.κ Hb' ds xs → Hb' a = none → Q (.ref a) H'
  | .exc x w' => ∀ Hb' H' c dd, Gr C.fp Hb H Hb' H' → Rel C w' env Hb' H' σ → XRep C.κ C.cl Hb' x c dd → C.Wx c dd σ H'
  | .bad => False
theorem PostO.mono {C : Ct} {r : ER (List D)} {env : En} {Hb H Hb1 H1 : Hp} {σ : L2.St} {Q : VK} (p : PostO C r env Hb H σ Q) (g : Gr C.fp Hb H Hb1 H1) : PostO C r env Hb1 H1 σ Q := by
  cases r with
  | ok d w' =>
    refine fun Hb' H' a xs g' k1 n => p Hb' H' a xs (g.trans g') k1 ?_
    cases z : H a with
    | none => rfl
    | some o => exact absurd n (g.d a (by rw [z]; simp))
  | exc x w' => exact fun Hb' H' c dd g' => p Hb' H' c dd (g.trans g')
  | bad => exact p
def liftO (C : Ct) (f : E (List D)) : TE := fun σ H Q => ∃ w env Hb, Rel C w env Hb H σ ∧ PostO C (f w env) env Hb H σ Q
def DO (X : Cx) (C : Ct) (e : Expr) (f : E (List D)) : Prop := X.K = C.κ.K → PE X e (liftO C f)

/-- what is wanted behind a statement begun at Hb -/
def PostS (C : Ct) (r : SR) (Hb : Hp) (D : Ends) : Prop := match r with
  | .nx env w => ∀ Hb' H σ, Same Hb Hb' → Rel C w env Hb' H σ → D.nx σ H
  | .bk env w => ∀ Hb' H σ, Same Hb Hb' → Rel C w env Hb' H σ → D.bk σ H
  | .ct env w => ∀ Hb' H σ, Same Hb Hb' → Rel C w env Hb' H σ → D.ct σ H
  | .rt d w => ∀ Hb' H v, Gr C.fp C.Hb0 C.H0 Hb' H → C.Γ.ok w H → Rep C.κ Hb' d v → D.rt v H
  | .exc x env w => ∀ Hb' H σ c dd, Same Hb Hb' → Rel C w env Hb' H σ → XRep C.κ C.cl Hb' x c dd → C.Wx c dd σ H
  | .bad => False
theorem PostS.mono {C : Ct} {r : SR} {Hb Hb1 : Hp} {D : Ends} (p : PostS C r Hb D) (s : Same Hb Hb1) : PostS C r Hb1 D := by
  cases r with
  | nx env w => exact fun Hb' H σ e => p Hb' H σ (s.trans e)
  | bk env w => exact fun Hb' H σ e => p Hb' H σ (s.trans e)
  | ct env w => exact fun Hb' H σ e => p Hb' H σ (s.trans e)
  | rt d w => exact p
  | exc x env w => exact fun Hb' H σ c dd e => p Hb' H σ c dd (s.trans e)
  | bad => exact p
def liftS (C : Ct) (f : S) : TS := fun D σ H => ∃ w env Hb, Rel C w env Hb H σ ∧ PostS C (f w env) Hb D
def DS (X : Cx) (C : Ct) (st : Stmt) (f : S) : Prop := X.K = C.κ.K → PS X st (liftS C f)
def DB (X : Cx) (C : Ct) (st : List Stmt) (f : S) : Prop := X.K = C.κ.K → PSs X st (liftS C f)
/-- a statement whose expression comes first -/
def sbind {α : Type} (f : E α) (k : α → S) : S := fun w e => match f w e with
  | .ok a w1 => k a w1 e
  | .exc x w1 => .exc x e w1
  | .bad => .bad
theorem liftS_bind {C : Ct} {α β : Type} {R : Hp → Hp → α → β → Prop} {f : E α} {k : α → S} {w : Wo} {env : En} {Hb H : Hp} {σ : L2.St} {D : Ends} {Q1 : β → Hp → Prop}
    (r : Rel C w env Hb H σ) (p : PostS C (sbind f k w env) Hb D)
    (h : ∀ d w1 Hb1 H1 v, Gr C.fp Hb H Hb1 H1 → Rel C w1 env Hb1 H1 σ → R Hb1 H1 d v → PostS C (k d w1 env) Hb1 D → Q1 v H1) : lift C R f σ H Q1 := by
  refine ⟨w, env, Hb, r, ?_⟩
  unfold sbind at p
  cases e : f w env with
  | ok d w1 =>
    rw [e] at p
    exact fun Hb' H' v g k1 r1 => h d w1 Hb' H' v g k1 r1 (p.mono g.b)
  | exc x w1 =>
    rw [e] at p
    exact fun Hb' H' c dd g k1 x1 => p Hb' H' σ c dd g.b k1 x1
  | bad => rw [e] at p; exact p.elim
def sseq (f g : S) : S := fun w e => match f w e with
  | .nx e' w' => g w' e'
  | r => r
def snil : S := fun w e => .nx e w
theorem db_nil {X : Cx} {C : Ct} : DB X C [] snil := fun _ => PSs.imp pss_nil fun D σ H ⟨w, env, Hb, r, p⟩ => p Hb H σ (Same.refl _) r
theorem db_cons {X : Cx} {C : Ct} {st : Stmt} {rest : List Stmt} {f g : S} (h1 : DS X C st f) (h2 : DB X C rest g) : DB X C (st :: rest) (sseq f g) := by
  refine fun hK => PSs.imp (pss_cons (h1 hK) (h2 hK)) fun D σ H ⟨w, env, Hb, r, p⟩ => ⟨w, env, Hb, r, ?_⟩
  unfold sseq at p
  cases e : f w env with
  | nx e' w' => rw [e] at p; exact fun Hb H σ s r => ⟨w', e', Hb, r, p.mono s⟩
  | bk e' w' => rw [e] at p; exact p
  | ct e' w' => rw [e] at p; exact p
  | rt d w' => rw [e] at p; exact p
  | exc x e' w' => rw [e] at p; exact p
  | bad => rw [e] at p; exact p
theorem db_one {X : Cx} {C : Ct} {st : Stmt} {f : S} (h1 : DS X C st f) : DB X C [st] f := fun hK => pss_one (h1 hK)
end DL
set_option Elab.async false
set_option linter.all false
set_option autoImplicit false
set_option maxRecDepth 100000
set_option maxHeartbeats 1000000
/-! DL2: expressions. -/
namespace DL
open PySem PySem.Spec PyProof.Rows L2

/-! ### names, constants -/
def eVar (i : Nat) : E D := fun w e => match e[i]? with
  | some (.dat d) => .ok d w
  | _ => .bad
def eC (d : D) : E D := epure d
section
variable {X : Cx} {C : Ct}
theorem de_of {e : Expr} {te : TE} {f : E D} (h : PE X e te) (k : X.K = C.κ.K → ∀ σ H Q, lift C (RD C) f σ H Q → te σ H Q) : DE X C e f := fun hK => PE.imp h (k hK)
theorem de_var (i : Nat) {x : Str} {pos : Pos} (hN : X.N[i]? = some x := by rfl) (hv : Vis X.env.scope x := by first | exact Or.inl rfl | exact Or.inr (Or.inl rfl) | exact Or.inr (Or.inr rfl)) (hd : (x == ("__debug__" : Str)) = false := by decide)
    (hcd : (x == ("__classdict__" : Str)) = false := by decide) : DE X C (.Name x pos) (eVar i) := by
  refine de_of (pe_var (i := i) hN hv hd hcd) fun _ σ H Q ⟨w, env, Hb, r, p⟩ => ?_
  unfold eVar at p
  cases e : env[i]? with
  | none => rw [e] at p; exact p.elim
  | some z =>
    rw [e] at p
    cases z with
    | un => exact p.elim
    | own ds => exact p.elim
    | dat d =>
      obtain ⟨v, h1, h2⟩ := r.env.dat i d e
      exact ⟨v, h1, Post.fin (R := RD C) r p (Gr.id r.same) h2⟩
theorem de_c {e : Expr} {v : V} {d : D} (h : PE X e (tC v)) (hr : ∀ Hb, Rep C.κ Hb d v) : DE X C e (eC d) :=
  de_of h fun _ σ H Q ⟨w, env, Hb, r, p⟩ => Post.fin (R := RD C) r p (Gr.id r.same) (hr Hb)
theorem de_int {i : Int} {j : Nat} {pos : Pos} : DE X C (.Constant (.int i) j pos) (eC (.int i)) := de_c pe_int fun _ => .int
theorem de_bl {b : Bool} {j : Nat} {pos : Pos} : DE X C (.Constant (.bool b) j pos) (eC (.bl b)) := de_c pe_bl fun _ => .bl
theorem de_non {j : Nat} {pos : Pos} : DE X C (.Constant .none j pos) (eC .non) := de_c pe_non fun _ => .non
theorem de_str {x : Str} {j : Nat} {pos : Pos} : DE X C (.Constant (.str x) j pos) (eC (.str x)) := de_c pe_str fun _ => .str
theorem de_gint {x : Str} {i : Int} {t : Tok} {pos : Pos} (hm : X.mg x = some (.int i t)) (hg : Gl X x := by rfl) (hd : (x == ("__debug__" : Str)) = false := by decide) : DE X C (.Name x pos) (eC (.int i)) :=
  de_c (pe_glob (v := .int i) hg hm ⟨t, rfl⟩ hd) fun _ => .int
theorem de_glob {x : Str} {v : V} {u : Value} {d : D} {pos : Pos} (hm : X.mg x = some u) (r : RelV v u) (hr : ∀ Hb, Rep C.κ Hb d v) (hg : Gl X x := by rfl) (hd : (x == ("__debug__" : Str)) = false := by decide) : DE X C (.Name x pos) (eC d) :=
  de_c (pe_glob hg hm r hd) hr

/-! ### operators of two values -/
def OpD (κ : Kx) (r : R2) (g : D → D → Option D) : Prop := ∀ (Hb H : Hp) (x y d : D) (v u : V) (Q : VK), Same Hb H → Rep κ Hb x v → Rep κ Hb y u → g x y = some d →
  (∀ Hb' H' z, Gr (fun _ => False) Hb H Hb' H' → Rep κ Hb' d z → Q z H') → r v u H Q
def eop2 {α : Type} (g : D → D → Option α) (f h : E D) : E α := ebind f fun x => ebind h fun y => eopt (g x y)
/-- the reading of two parts -/
theorem two_parts {f h : E D} {g : D → D → Option D} {r : R2} {σ : L2.St} {H : Hp} {Q : VK} (hd : OpD C.κ r g) : lift C (RD C) (eop2 g f h) σ H Q → tOp r (lift C (RD C) f) (lift C (RD C) h) σ H Q := by
  rintro ⟨w, env, Hb, rl, p⟩
  refine lift_bind (R := RD C) rl p fun x w1 Hb1 H1 v g1 r1 q1 p1 => ?_
  refine lift_bind (R := RD C) r1 p1 fun y w2 Hb2 H2 u g2 r2 q2 p2 => ?_
  cases e : g x y with
  | none => rw [e] at p2; exact p2.elim
  | some d =>
    rw [e] at p2
    exact hd Hb2 H2 x y d v u Q r2.same (q1.mono g2.b) q2 e fun Hb' H' z g3 rz => Post.fin (R := RD C) r2 p2 g3 rz
theorem de_op {op : Operator} {r : R2} {a b : Expr} {f h : E D} {g : D → D → Option D} {pos : Pos} (ho : OpR X (binaryOp op) r) (hd : OpD C.κ r g) (ha : DE X C a f) (hb : DE X C b h) : DE X C (.BinOp a op b pos) (eop2 g f h) :=
  fun hK => PE.imp (pe_op ho (ha hK) (hb hK)) fun σ H Q => two_parts hd
/-- one that leans on the written part -/
theorem de_opK {op : Operator} {r : PySem.W.Frag → R2} {a b : Expr} {f h : E D} {g : D → D → Option D} {pos : Pos} (ho : OpR X (binaryOp op) (r X.K)) (hd : OpD C.κ (r C.κ.K) g) (ha : DE X C a f) (hb : DE X C b h) : DE X C (.BinOp a op b pos) (eop2 g f h) :=
  fun hK => PE.imp (pe_op ho (ha hK) (hb hK)) fun σ H Q => two_parts (hK ▸ hd)
theorem de_cmp {op : CmpOp} {r : R2} {a b : Expr} {f h : E D} {g : D → D → Option D} {pos : Pos} (ho : OpR X (compareOp op) r) (hd : OpD C.κ r g) (ha : DE X C a f) (hb : DE X C b h) (hm : behindInMarks op b = false := by first | exact nomark _ | rfl) : DE X C (.Compare a [op] [b] pos) (eop2 g f h) :=
  fun hK => PE.imp (pe_cmpR ho (ha hK) (hb hK) hm) fun σ H Q => two_parts hd
theorem de_cmpK {op : CmpOp} {r : PySem.W.Frag → R2} {a b : Expr} {f h : E D} {g : D → D → Option D} {pos : Pos} (ho : OpR X (compareOp op) (r X.K)) (hd : OpD C.κ (r C.κ.K) g) (ha : DE X C a f) (hb : DE X C b h) (hm : behindInMarks op b = false := by first | exact nomark _ | rfl) :
    DE X C (.Compare a [op] [b] pos) (eop2 g f h) :=
  fun hK => PE.imp (pe_cmpR ho (ha hK) (hb hK) hm) fun σ H Q => two_parts (hK ▸ hd)
/-- a value as a truth -/
def asB : D → Option Bool
  | .bl b => some b
  | _ => none
def eB (f : E D) : E Bool := ebind f fun d => eopt (asB d)
theorem test_of {te : TE} {f : E D} {σ : L2.St} {H : Hp} {Q : Bool → Hp → Prop} (h : ∀ Q : VK, lift C (RD C) f σ H Q → te σ H Q) (l : lift C RB (eB f) σ H Q) : te σ H fun x H1 => ∃ k, x = .bl k ∧ Q k H1 := by
  obtain ⟨w, env, Hb, rl, p⟩ := l
  refine h _ (lift_bind (R := RD C) rl p fun d w1 Hb1 H1 v g1 r1 q1 p1 => ?_)
  cases d with
  | bl b =>
    cases q1
    exact ⟨b, rfl, Post.fin (R := RB) (v := b) r1 p1 (Gr.id r1.same) rfl⟩
  | _ => exact p1.elim
theorem dt_cmp {op : CmpOp} {r : R2} {a b : Expr} {f h : E D} {g : D → D → Option D} {pos : Pos} (ho : OpR X (compareOp op) r) (hd : OpD C.κ r g) (ha : DE X C a f) (hb : DE X C b h) (hm : behindInMarks op b = false := by first | exact nomark _ | rfl) : DT X C (.Compare a [op] [b] pos) (eB (eop2 g f h)) :=
  fun hK => PT.imp (pt_cmpR ho (ha hK) (hb hK) hm) fun σ H Q l => test_of (fun Q => two_parts hd) l
theorem dt_cmpK {op : CmpOp} {r : PySem.W.Frag → R2} {a b : Expr} {f h : E D} {g : D → D → Option D} {pos : Pos} (ho : OpR X (compareOp op) (r X.K)) (hd : OpD C.κ (r C.κ.K) g) (ha : DE X C a f) (hb : DE X C b h) (hm : behindInMarks op b = false := by first | exact nomark _ | rfl) :
    DT X C (.Compare a [op] [b] pos) (eB (eop2 g f h)) :=
  fun hK => PT.imp (pt_cmpR ho (ha hK) (hb hK) hm) fun σ H Q l => test_of (fun Q => two_parts (hK ▸ hd)) l
theorem dt_val {e : Expr} {f : E D} (h : DE X C e f) (he : ∀ whole, isTrue e X.env whole = (do let v ← whole; standAt e.pos; holding [v] (truthy v)) := by intro _; rfl) : DT X C e (eB f) :=
  fun hK => PT.imp (pt_val (h hK) he) fun σ H Q l => test_of (te := lift C (RD C) f) (fun Q l => l) l
end

/-! ### the operators' functions -/
def dAdd : D → D → Option D
  | .int i, .int j => some (.int (i + j))
  | _, _ => none
def dSub : D → D → Option D
  | .int i, .int j => some (.int (i - j))
  | _, _ => none
def mulFits (i j : Int) : Bool := decide (i.natAbs.log2 + j.natAbs.log2 < 1000000)
def dMul : D → D → Option D
  | .int i, .int j => if mulFits i j then some (.int (i * j)) else none
  | _, _ => none
def divFits (j : Int) : Bool := decide (0 < j) && decide (j.natAbs.log2 < 9000)
def dDiv : D → D → Option D
  | .int i, .int j => if divFits j then some (.int (i / j)) else none
  | _, _ => none
def dMod : D → D → Option D
  | .int i, .int j => if 0 < j then some (.int (i % j)) else none
  | _, _ => none
def powFits (i j : Int) : Bool := decide (0 ≤ j) && decide (j ≤ 1000000) && decide (i.natAbs < 18446744073709551616)
def dPow : D → D → Option D
  | .int i, .int j => if powFits i j then some (.int (i ^ j.toNat)) else none
  | _, _ => none
def dLt : D → D → Option D
  | .int i, .int j => some (.bl (decide (i < j)))
  | _, _ => none
def dLe : D → D → Option D
  | .int i, .int j => some (.bl (decide (i ≤ j)))
  | _, _ => none
def dGt : D → D → Option D
  | .int i, .int j => some (.bl (decide (j < i)))
  | _, _ => none
def dGe : D → D → Option D
  | .int i, .int j => some (.bl (decide (j ≤ i)))
  | _, _ => none
theorem opd_int {κ : Kx} {r : R2} {g : D → D → Option D} (h : ∀ i j d H Q, g (.int i) (.int j) = some d → (∀ z, (∀ Hb, Rep κ Hb d z) → Q z H) → r (.int i) (.int j) H Q) (h0 : ∀ x y d, g x y = some d → ∃ i j, x = .int i ∧ y = .int j) : OpD κ r g := by
  intro Hb H x y d v u Q hs rx ry e q
  obtain ⟨i, j, rfl, rfl⟩ := h0 x y d e
  cases rx
  cases ry
  exact h i j d H Q e fun z hz => q Hb H z (Gr.id hs) (hz Hb)
theorem od_add {κ : Kx} : OpD κ (rI0 fun i j => .int (i + j)) dAdd := opd_int (fun i j d H Q e q => by cases e; exact ⟨i, j, rfl, rfl, q _ fun _ => .int⟩) fun x y d e => by
  cases x <;> cases y <;> first | exact ⟨_, _, rfl, rfl⟩ | cases e
theorem od_sub {κ : Kx} : OpD κ (rI0 fun i j => .int (i - j)) dSub := opd_int (fun i j d H Q e q => by cases e; exact ⟨i, j, rfl, rfl, q _ fun _ => .int⟩) fun x y d e => by
  cases x <;> cases y <;> first | exact ⟨_, _, rfl, rfl⟩ | cases e
theorem od_lt {κ : Kx} : OpD κ (rI0 fun i j => .bl (decide (i < j))) dLt := opd_int (fun i j d H Q e q => by cases e; exact ⟨i, j, rfl, rfl, q _ fun _ => .bl⟩) fun x y d e => by
  cases x <;> cases y <;> first | exact ⟨_, _, rfl, rfl⟩ | cases e
theorem od_le {κ : Kx} : OpD κ (rI0 fun i j => .bl (decide (i ≤ j))) dLe := opd_int (fun i j d H Q e q => by cases e; exact ⟨i, j, rfl, rfl, q _ fun _ => .bl⟩) fun x y d e => by
  cases x <;> cases y <;> first | exact ⟨_, _, rfl, rfl⟩ | cases e
theorem od_gt {κ : Kx} : OpD κ (rI0 fun i j => .bl (decide (j < i))) dGt := opd_int (fun i j d H Q e q => by cases e; exact ⟨i, j, rfl, rfl, q _ fun _ => .bl⟩) fun x y d e => by
  cases x <;> cases y <;> first | exact ⟨_, _, rfl, rfl⟩ | cases e
theorem od_ge {κ : Kx} : OpD κ (rI0 fun i j => .bl (decide (j ≤ i))) dGe := opd_int (fun i j d H Q e q => by cases e; exact ⟨i, j, rfl, rfl, q _ fun _ => .bl⟩) fun x y d e => by
  cases x <;> cases y <;> first | exact ⟨_, _, rfl, rfl⟩ | cases e
theorem if_some {α : Type} {b : Bool} {x y : α} (h : (if b = true then some x else none) = some y) : b = true ∧ x = y := by
  cases b with
  | true => exact ⟨rfl, Option.some.inj h⟩
  | false => cases h
theorem od_mul {κ : Kx} : OpD κ (rI CMulW fun i j => .int (i * j)) dMul := opd_int (fun i j d H Q e q => by
    obtain ⟨h1, rfl⟩ := if_some e
    exact ⟨i, j, rfl, rfl, (show i.natAbs.log2 + j.natAbs.log2 < 1000000 from of_decide_eq_true h1), q _ fun _ => .int⟩) fun x y d e => by
  cases x <;> cases y <;> first | exact ⟨_, _, rfl, rfl⟩ | cases e
theorem od_div {κ : Kx} : OpD κ (rI CDivW fun i j => .int (i / j)) dDiv := opd_int (fun i j d H Q e q => by
    obtain ⟨h1, rfl⟩ := if_some e
    unfold divFits at h1
    rw [Bool.and_eq_true] at h1
    exact ⟨i, j, rfl, rfl, ⟨of_decide_eq_true h1.1, of_decide_eq_true h1.2⟩, q _ fun _ => .int⟩) fun x y d e => by
  cases x <;> cases y <;> first | exact ⟨_, _, rfl, rfl⟩ | cases e
theorem od_mod {κ : Kx} : OpD κ (rI (fun _ j => 0 < j) fun i j => .int (i % j)) dMod := opd_int (fun i j d H Q e q => by
    unfold dMod at e
    by_cases h : 0 < j
    · simp only [h, if_true, Option.some.injEq] at e
      subst e
      exact ⟨i, j, rfl, rfl, h, q _ fun _ => .int⟩
    · simp only [h, if_false] at e; cases e) fun x y d e => by
  cases x <;> cases y <;> first | exact ⟨_, _, rfl, rfl⟩ | cases e
theorem od_pow {κ : Kx} : OpD κ (rI CPow fun i j => .int (i ^ j.toNat)) dPow := opd_int (fun i j d H Q e q => by
    obtain ⟨h1, rfl⟩ := if_some e
    unfold powFits at h1
    rw [Bool.and_eq_true, Bool.and_eq_true] at h1
    exact ⟨i, j, rfl, rfl, ⟨of_decide_eq_true h1.1.1, of_decide_eq_true h1.1.2, of_decide_eq_true h1.2⟩, q _ fun _ => .int⟩) fun x y d e => by
  cases x <;> cases y <;> first | exact ⟨_, _, rfl, rfl⟩ | cases e

section
variable {X : Cx} {C : Ct} {a b : Expr} {f h : E D} {pos : Pos}
theorem de_add (ha : DE X C a f) (hb : DE X C b h) : DE X C (.BinOp a .Add b pos) (eop2 dAdd f h) := de_op op_add od_add ha hb
theorem de_sub (ha : DE X C a f) (hb : DE X C b h) : DE X C (.BinOp a .Sub b pos) (eop2 dSub f h) := de_op op_sub od_sub ha hb
theorem de_mul (ha : DE X C a f) (hb : DE X C b h) : DE X C (.BinOp a .Mult b pos) (eop2 dMul f h) := de_op op_mulW od_mul ha hb
theorem de_div (ha : DE X C a f) (hb : DE X C b h) : DE X C (.BinOp a .FloorDiv b pos) (eop2 dDiv f h) := de_op op_fdivW od_div ha hb
theorem de_mod (ha : DE X C a f) (hb : DE X C b h) : DE X C (.BinOp a .Mod b pos) (eop2 dMod f h) := de_op op_mod od_mod ha hb
theorem de_pow (ha : DE X C a f) (hb : DE X C b h) : DE X C (.BinOp a .Pow b pos) (eop2 dPow f h) := de_op op_pow od_pow ha hb
theorem dt_lt (ha : DE X C a f) (hb : DE X C b h) : DT X C (.Compare a [.Lt] [b] pos) (eB (eop2 dLt f h)) := dt_cmp op_lt od_lt ha hb
theorem dt_le (ha : DE X C a f) (hb : DE X C b h) : DT X C (.Compare a [.LtE] [b] pos) (eB (eop2 dLe f h)) := dt_cmp op_le od_le ha hb
theorem dt_gt (ha : DE X C a f) (hb : DE X C b h) : DT X C (.Compare a [.Gt] [b] pos) (eB (eop2 dGt f h)) := dt_cmp op_gt od_gt ha hb
theorem dt_ge (ha : DE X C a f) (hb : DE X C b h) : DT X C (.Compare a [.GtE] [b] pos) (eB (eop2 dGe f h)) := dt_cmp op_ge od_ge ha hb
theorem de_lt (ha : DE X C a f) (hb : DE X C b h) : DE X C (.Compare a [.Lt] [b] pos) (eop2 dLt f h) := de_cmp op_lt od_lt ha hb
theorem de_le (ha : DE X C a f) (hb : DE X C b h) : DE X C (.Compare a [.LtE] [b] pos) (eop2 dLe f h) := de_cmp op_le od_le ha hb
theorem de_gt (ha : DE X C a f) (hb : DE X C b h) : DE X C (.Compare a [.Gt] [b] pos) (eop2 dGt f h) := de_cmp op_gt od_gt ha hb
theorem de_ge (ha : DE X C a f) (hb : DE X C b h) : DE X C (.Compare a [.GtE] [b] pos) (eop2 dGe f h) := de_cmp op_ge od_ge ha hb
end
end DL
set_option Elab.async false
set_option linter.all false
set_option autoImplicit false
set_option maxRecDepth 100000
set_option maxHeartbeats 1000000
/-! DL3: borrowed values, sequences, displays, built-in calls. -/
namespace DL
open PySem PySem.Spec PyProof.Rows L2

/-! ### plain data as the library has it -/
mutual
def D.py : D → Option PyData
  | .non => some .none
  | .bl b => some (.bool b)
  | .int i => some (.int i)
  | .str s => some (.str s)
  | .tup ds => match D.pys ds with
    | some ps => some (.tuple ps)
    | none => none
  | .lst ds => match D.pys ds with
    | some ps => some (.list ps)
    | none => none
  | .drw => none
  | .raw _ => none
  | .exc0 _ => none
  | .exc1 _ _ _ => none
def D.pys : List D → Option (List PyData)
  | [] => some []
  | d :: ds => match D.py d, D.pys ds with
    | some p, some ps => some (p :: ps)
    | _, _ => none
end
mutual
theorem Rep.dp {κ : Kx} {H : Hp} : ∀ (d : D) {v : V} {p : PyData}, Rep κ H d v → d.py = some p → Dp κ.K H v p
  | .non, _, _, r, e => by cases r; simp only [D.py, Option.some.injEq] at e; subst e; exact .non
  | .bl b, _, _, r, e => by cases r; simp only [D.py, Option.some.injEq] at e; subst e; exact .bl _
  | .int i, _, _, r, e => by cases r; simp only [D.py, Option.some.injEq] at e; subst e; exact .int _
  | .str s, _, _, r, e => by cases r; simp only [D.py, Option.some.injEq] at e; subst e; exact .str _
  | .drw, _, _, r, e => by simp only [D.py] at e; cases e
  | .raw _, _, _, r, e => by simp only [D.py] at e; cases e
  | .exc0 _, _, _, r, e => by simp only [D.py] at e; cases e
  | .exc1 _ _ _, _, _, r, e => by simp only [D.py] at e; cases e
  | .tup ds, _, _, r, e => by
    simp only [D.py] at e
    cases q : D.pys ds with
    | none => rw [q] at e; cases e
    | some ps =>
      rw [q] at e
      simp only [Option.some.injEq] at e
      subst e
      cases r with
      | tup h r => exact .tup h (RepL.dp ds r q)
  | .lst ds, _, _, r, e => by
    simp only [D.py] at e
    cases q : D.pys ds with
    | none => rw [q] at e; cases e
    | some ps =>
      rw [q] at e
      simp only [Option.some.injEq] at e
      subst e
      cases r with
      | lst h r => exact .lst (.of h) (RepL.dp ds r q)
theorem RepL.dp {κ : Kx} {H : Hp} : ∀ (ds : List D) {vs : List V} {ps : List PyData}, RepL κ H ds vs → D.pys ds = some ps → DpAll κ.K H vs ps
  | [], _, _, r, e => by cases r; simp only [D.pys, Option.some.injEq] at e; subst e; exact .nil
  | d :: ds, _, _, r, e => by
    simp only [D.pys] at e
    cases q : d.py with
    | none => rw [q] at e; cases e
    | some p =>
      cases q2 : D.pys ds with
      | none => rw [q, q2] at e; cases e
      | some ps =>
        rw [q, q2] at e
        simp only [Option.some.injEq] at e
        subst e
        cases r with
        | cons r t => exact .cons (Rep.dp d r q) (RepL.dp ds t q2)
end
theorem Bor.dp {κ : Kx} {fp : Addr → Prop} {Hb H : Hp} {d : D} {v : V} {p : PyData} (s : Same Hb H) (b : Bor κ fp Hb H d v) (e : d.py = some p) : Dp κ.K H v p := by
  cases b with
  | of r => exact Rep.dp d (r.mono s) e
  | own h r n =>
    exact Rep.dp _ (.lst h (r.mono s)) e

/-! ### borrowed values -/
def eVarV (i : Nat) : E D := fun w e => match e[i]? with
  | some (.dat d) => .ok d w
  | some (.own ds) => .ok (.lst ds) w
  | _ => .bad
def eLst (f : E (List D)) : E D := ebind f fun ds => epure (.lst ds)
section
variable {X : Cx} {C : Ct}
theorem dv_var (i : Nat) {x : Str} {pos : Pos} (hN : X.N[i]? = some x := by rfl) (hv : Vis X.env.scope x := by first | exact Or.inl rfl | exact Or.inr (Or.inl rfl) | exact Or.inr (Or.inr rfl)) (hd : (x == ("__debug__" : Str)) = false := by decide)
    (hcd : (x == ("__classdict__" : Str)) = false := by decide) : DV X C (.Name x pos) (eVarV i) := fun _ => by
  refine PE.imp (pe_var (i := i) hN hv hd hcd) fun σ H Q ⟨w, env, Hb, r, p⟩ => ?_
  unfold eVarV at p
  cases e : env[i]? with
  | none => rw [e] at p; exact p.elim
  | some z =>
    rw [e] at p
    cases z with
    | un => exact p.elim
    | own ds =>
      obtain ⟨a, xs, h1, h2, h3, h4, h5, h6⟩ := r.env.own i ds e
      exact ⟨_, h1, Post.fin (R := RV C) r p (Gr.id r.same) (.own h2 h3 h6)⟩
    | dat d =>
      obtain ⟨v, h1, h2⟩ := r.env.dat i d e
      exact ⟨v, h1, Post.fin (R := RV C) r p (Gr.id r.same) (.of h2)⟩
theorem dv_of {e : Expr} {f : E D} (h : DE X C e f) : DV X C e f := fun hK => PE.imp (h hK) fun σ H Q ⟨w, env, Hb, r, p⟩ => ⟨w, env, Hb, r, by
  cases q : f w env with
  | ok d w1 => rw [q] at p; exact fun Hb' H' v g k rd => p Hb' H' v g k (.of rd)
  | exc x w1 => rw [q] at p; exact p
  | bad => rw [q] at p; exact p⟩
/-- a fresh list, as plain data -/
theorem de_own {e : Expr} {f : E (List D)} (h : DO X C e f) : DE X C e (eLst f) := fun hK => PE.imp (h hK) fun σ H Q ⟨w, env, Hb, r, p⟩ => ⟨w, env, Hb, r, by
  unfold eLst ebind at p
  cases q : f w env with
  | ok ds w1 =>
    rw [q] at p
    refine fun Hb' H' a xs g k n ha rl nb => ?_
    have g2 : Gr C.fp Hb H (upd Hb' a (.lst xs)) H' := by
      refine ⟨fun b o e => ?_, fun b o e => ?_, g.h, g.d, fun b e => ?_⟩
      · have := g.b b o e
        rw [upd_ne (ne_of_none this nb)]; exact this
      · by_cases z : b = a
        · subst z; rw [upd_same] at e; rw [← e]; exact ha
        · rw [upd_ne z] at e; exact g.s b o e
      · by_cases z : b = a
        · subst z; exact .inr n
        · rw [upd_ne z] at e; exact g.n b e
    have sb : Same Hb' (upd Hb' a (.lst xs)) := fun b o e => by rw [upd_ne (ne_of_none e nb)]; exact e
    exact p _ H' (.ref a) g2 (r.mono g2 k.ok) (.lst upd_same (rl.mono sb))
  | exc x w1 => rw [q] at p; exact p
  | bad => rw [q] at p; exact p⟩
theorem dv_own {e : Expr} {f : E (List D)} (h : DO X C e f) : DV X C e (eLst f) := dv_of (de_own h)
/-- a tracked fresh list: the end -/
theorem PostO.fin {ds : List D} {w : Wo} {env : En} {Hb H : Hp} {σ : L2.St} {Q : VK} {xs : List V} {p : Addr} (r : Rel C w env Hb H σ) (q : PostO C (.ok ds w) env Hb H σ Q) (hp : H p = none) (rl : RepL C.κ Hb ds xs) : Q (.ref p) (upd H p (.lst xs)) :=
  have g := Gr.alloc0 (o := .lst xs) r.same hp
  q Hb _ p xs g.sub (r.grow g) hp upd_same rl (r.same.free hp)
/-- .. behind parts that grew the heap -/
theorem liftO_bind {α β : Type} {R : Hp → Hp → α → β → Prop} {f : E α} {k : α → E (List D)} {w : Wo} {env : En} {Hb H : Hp} {σ : L2.St} {Q : VK} {Q1 : β → Hp → Prop}
    (r : Rel C w env Hb H σ) (p : PostO C (ebind f k w env) env Hb H σ Q)
    (h : ∀ d w1 Hb1 H1 v, Gr C.fp Hb H Hb1 H1 → Rel C w1 env Hb1 H1 σ → R Hb1 H1 d v → PostO C (k d w1 env) env Hb1 H1 σ Q → Q1 v H1) : lift C R f σ H Q1 := by
  refine ⟨w, env, Hb, r, ?_⟩
  unfold ebind at p
  cases e : f w env with
  | ok d w1 =>
    rw [e] at p
    exact fun Hb' H' v g k1 r1 => h d w1 Hb' H' v g k1 r1 (PostO.mono p g)
  | exc x w1 => rw [e] at p; exact p
  | bad => rw [e] at p; exact p.elim

/-! ### argument lists -/
def eNil : E (List D) := epure []
def eCons (f : E D) (g : E (List D)) : E (List D) := ebind f fun d => ebind g fun ds => epure (d :: ds)
theorem da_nil : DA X C [] eNil := fun _ => PA.imp pa_nil fun σ H Q ⟨w, env, Hb, r, p⟩ => Post.fin (R := RL C) r p (Gr.id r.same) .nil
theorem da_cons {e : Expr} {es : List Expr} {f : E D} {g : E (List D)} (ha : DE X C e f) (hr : DA X C es g) (hs : starEach (e :: es) X.env = (false, eval e X.env) :: starEach es X.env := by rfl) : DA X C (e :: es) (eCons f g) := fun hK =>
  PA.imp (pa_cons (ha hK) (hr hK) hs) fun σ H Q ⟨w, env, Hb, r, p⟩ =>
    lift_bind (R := RD C) r p fun d w1 Hb1 H1 v g1 r1 q1 p1 => lift_bind (R := RL C) r1 p1 fun ds w2 Hb2 H2 vs g2 r2 q2 p2 =>
      Post.fin (R := RL C) r2 p2 (Gr.id r2.same) (.cons (q1.mono g2.b) q2)
theorem dva_nil : DVA X C [] eNil := fun _ => PA.imp pa_nil fun σ H Q ⟨w, env, Hb, r, p⟩ => Post.fin (R := RVL C) r p (Gr.id r.same) .nil
theorem dva_cons {e : Expr} {es : List Expr} {f : E D} {g : E (List D)} (ha : DV X C e f) (hr : DVA X C es g) (hs : starEach (e :: es) X.env = (false, eval e X.env) :: starEach es X.env := by rfl) : DVA X C (e :: es) (eCons f g) := fun hK =>
  PA.imp (pa_cons (ha hK) (hr hK) hs) fun σ H Q ⟨w, env, Hb, r, p⟩ =>
    lift_bind (R := RV C) r p fun d w1 Hb1 H1 v g1 r1 q1 p1 => lift_bind (R := RVL C) r1 p1 fun ds w2 Hb2 H2 vs g2 r2 q2 p2 =>
      Post.fin (R := RVL C) r2 p2 (Gr.id r2.same) (.cons (q1.mono g2) q2)

/-! ### displays -/
def lineFits {α : Type} (n : Nat) (a : α) : E α := fun w _ => if n ≤ 16777216 then .ok a w else .bad
theorem line_of {n : Nat} (h : n ≤ 16777216) : n ≤ sizeLine := by rw [sizeLine_eq]; exact h
def eTup (f : E (List D)) : E D := ebind f fun ds => lineFits ds.length (.tup ds)
def eList (f : E (List D)) : E (List D) := ebind f fun ds => lineFits ds.length ds
theorem de_tup {es : List Expr} {f : E (List D)} {k : Nat} {pos : Pos} (h : DA X C es f) : DE X C (.Tuple es k pos) (eTup f) := fun hK => PE.imp (pe_tup (h hK)) fun σ H Q ⟨w, env, Hb, r, p⟩ =>
  lift_bind (R := RL C) r p fun ds w1 Hb1 H1 vs g1 r1 q1 p1 => by
    unfold lineFits at p1
    by_cases z : ds.length ≤ 16777216
    · rw [if_pos z] at p1
      refine ⟨by rw [q1.length]; exact line_of z, fun a ha => ?_⟩
      have g := Gr.alloc (o := .tup vs) r1.same ha
      exact Post.fin (R := RD C) r1 p1 g (.tup (SqT.of upd_same) (q1.mono g.b))
    · rw [if_neg z] at p1; exact p1.elim
theorem do_list {es : List Expr} {f : E (List D)} {pos : Pos} (h : DA X C es f) : DO X C (.List es pos) (eList f) := fun hK => PE.imp (pe_lst (h hK)) fun σ H Q ⟨w, env, Hb, r, p⟩ =>
  liftO_bind (R := RL C) r p fun ds w1 Hb1 H1 vs g1 r1 q1 p1 => by
    unfold lineFits at p1
    by_cases z : ds.length ≤ 16777216
    · rw [if_pos z] at p1
      exact ⟨by rw [q1.length]; exact line_of z, fun a ha => PostO.fin r1 p1 ha q1⟩
    · rw [if_neg z] at p1; exact p1.elim

/-! ### operators of borrowed values -/
def OpV (κ : Kx) (fp : Addr → Prop) (r : R2) (g : D → D → Option D) : Prop := ∀ (Hb H : Hp) (x y d : D) (v u : V) (Q : VK), Same Hb H → Bor κ fp Hb H x v → Bor κ fp Hb H y u → g x y = some d →
  (∀ Hb' H' z, Gr (fun _ => False) Hb H Hb' H' → Rep κ Hb' d z → Q z H') → r v u H Q
theorem two_partsV {f h : E D} {g : D → D → Option D} {r : R2} {σ : L2.St} {H : Hp} {Q : VK} (hd : OpV C.κ C.fp r g) : lift C (RD C) (eop2 g f h) σ H Q → tOp r (lift C (RV C) f) (lift C (RV C) h) σ H Q := by
  rintro ⟨w, env, Hb, rl, p⟩
  refine lift_bind (R := RV C) rl p fun x w1 Hb1 H1 v g1 r1 q1 p1 => ?_
  refine lift_bind (R := RV C) r1 p1 fun y w2 Hb2 H2 u g2 r2 q2 p2 => ?_
  cases e : g x y with
  | none => rw [e] at p2; exact p2.elim
  | some d =>
    rw [e] at p2
    exact hd Hb2 H2 x y d v u Q r2.same (q1.mono g2) q2 e fun Hb' H' z g3 rz => Post.fin (R := RD C) r2 p2 g3 rz
theorem de_opV {op : Operator} {r : PySem.W.Frag → R2} {a b : Expr} {f h : E D} {g : D → D → Option D} {pos : Pos} (ho : OpR X (binaryOp op) (r X.K)) (hd : OpV C.κ C.fp (r C.κ.K) g) (ha : DV X C a f) (hb : DV X C b h) : DE X C (.BinOp a op b pos) (eop2 g f h) :=
  fun hK => PE.imp (pe_op ho (ha hK) (hb hK)) fun σ H Q => two_partsV (hK ▸ hd)
theorem de_cmpV {op : CmpOp} {r : PySem.W.Frag → R2} {a b : Expr} {f h : E D} {g : D → D → Option D} {pos : Pos} (ho : OpR X (compareOp op) (r X.K)) (hd : OpV C.κ C.fp (r C.κ.K) g) (ha : DV X C a f) (hb : DV X C b h) (hm : behindInMarks op b = false := by first | exact nomark _ | rfl) :
    DE X C (.Compare a [op] [b] pos) (eop2 g f h) :=
  fun hK => PE.imp (pe_cmpR ho (ha hK) (hb hK) hm) fun σ H Q => two_partsV (hK ▸ hd)
theorem dt_cmpV {op : CmpOp} {r : PySem.W.Frag → R2} {a b : Expr} {f h : E D} {g : D → D → Option D} {pos : Pos} (ho : OpR X (compareOp op) (r X.K)) (hd : OpV C.κ C.fp (r C.κ.K) g) (ha : DV X C a f) (hb : DV X C b h) (hm : behindInMarks op b = false := by first | exact nomark _ | rfl) :
    DT X C (.Compare a [op] [b] pos) (eB (eop2 g f h)) :=
  fun hK => PT.imp (pt_cmpR ho (ha hK) (hb hK) hm) fun σ H Q l => test_of (fun Q => two_partsV (hK ▸ hd)) l
end

/-! ### == != of data -/
def eqPy (x y : D) : Option Bool := match x.py, y.py with
  | some p, some q => if SeqAt.shaped p && SeqAt.shaped q then some (PyData.eqv p q) else none
  | _, _ => none
def dEq (x y : D) : Option D := match eqPy x y with
  | some b => some (.bl b)
  | none => none
def dNe (x y : D) : Option D := match eqPy x y with
  | some b => some (.bl (!b))
  | none => none
theorem eqPy_some {x y : D} {b : Bool} (h : eqPy x y = some b) : ∃ p q, x.py = some p ∧ y.py = some q ∧ SeqAt.shaped p = true ∧ SeqAt.shaped q = true ∧ PyData.eqv p q = b := by
  unfold eqPy at h
  cases e1 : x.py with
  | none => rw [e1] at h; cases h
  | some p =>
    cases e2 : y.py with
    | none => rw [e1, e2] at h; cases h
    | some q =>
      rw [e1, e2] at h
      obtain ⟨h1, h2⟩ := if_some h
      rw [Bool.and_eq_true] at h1
      exact ⟨p, q, rfl, rfl, h1.1, h1.2, h2⟩
theorem ov_eq {κ : Kx} {fp : Addr → Prop} : OpV κ fp (rEqD κ.K) dEq := by
  intro Hb H x y d v u Q hs rx ry e q
  unfold dEq at e
  cases z : eqPy x y with
  | none => rw [z] at e; cases e
  | some b =>
    rw [z] at e
    cases e
    obtain ⟨p, p', e1, e2, s1, s2, rfl⟩ := eqPy_some z
    exact ⟨p, p', rx.dp hs e1, ry.dp hs e2, s1, s2, q Hb H _ (Gr.id hs) .bl⟩
theorem ov_ne {κ : Kx} {fp : Addr → Prop} : OpV κ fp (rNeD κ.K) dNe := by
  intro Hb H x y d v u Q hs rx ry e q
  unfold dNe at e
  cases z : eqPy x y with
  | none => rw [z] at e; cases e
  | some b =>
    rw [z] at e
    cases e
    obtain ⟨p, p', e1, e2, s1, s2, rfl⟩ := eqPy_some z
    exact ⟨p, p', rx.dp hs e1, ry.dp hs e2, s1, s2, q Hb H _ (Gr.id hs) .bl⟩

/-! ### in, not in -/
def listOf : D → Option (List D)
  | .lst ds => some ds
  | _ => none
def anyPy (x : PyData) (ps : List PyData) : Bool := ps.any fun z => PyData.eqv z x
def inPy (x : D) : D → Option Bool
  | .lst ds => match x.py, D.pys ds with
    | some p, some ps => if SeqAt.shaped p && SeqAt.shaped (.list ps) then some (anyPy p ps) else none
    | _, _ => none
  | _ => none
def dIn (x y : D) : Option D := match inPy x y with
  | some b => some (.bl b)
  | none => none
def dNotIn (x y : D) : Option D := match inPy x y with
  | some b => some (.bl (!b))
  | none => none
theorem inPy_some {x y : D} {b : Bool} (h : inPy x y = some b) : ∃ p ps, x.py = some p ∧ y.py = some (.list ps) ∧ SeqAt.shaped p = true ∧ SeqAt.shaped (.list ps) = true ∧ anyPy p ps = b := by
  unfold inPy at h
  cases y with
  | lst ds =>
    simp only at h
    cases e1 : x.py with
    | none => rw [e1] at h; cases h
    | some p =>
      cases e2 : D.pys ds with
      | none => rw [e1, e2] at h; cases h
      | some q =>
        rw [e1, e2] at h
        obtain ⟨h1, h2⟩ := if_some h
        rw [Bool.and_eq_true] at h1
        exact ⟨p, q, rfl, by simp only [D.py, e2], h1.1, h1.2, h2⟩
  | _ => cases h
theorem ov_in {κ : Kx} {fp : Addr → Prop} : OpV κ fp (rInD κ.K) dIn := by
  intro Hb H x y d v u Q hs rx ry e q
  unfold dIn at e
  cases z : inPy x y with
  | none => rw [z] at e; cases e
  | some b =>
    rw [z] at e
    cases e
    obtain ⟨p, p', e1, e2, s1, s2, rfl⟩ := inPy_some z
    exact ⟨p, p', rx.dp hs e1, ry.dp hs e2, s1, s2, q Hb H _ (Gr.id hs) .bl⟩
theorem ov_notIn {κ : Kx} {fp : Addr → Prop} : OpV κ fp (rNotInD κ.K) dNotIn := by
  intro Hb H x y d v u Q hs rx ry e q
  unfold dNotIn at e
  cases z : inPy x y with
  | none => rw [z] at e; cases e
  | some b =>
    rw [z] at e
    cases e
    obtain ⟨p, p', e1, e2, s1, s2, rfl⟩ := inPy_some z
    exact ⟨p, p', rx.dp hs e1, ry.dp hs e2, s1, s2, q Hb H _ (Gr.id hs) .bl⟩

/-! ### is None -/
def dIsN (x y : D) : Option D := match y with
  | .non => some (.bl (match x with | .non => true | _ => false))
  | _ => none
def dNotN (x y : D) : Option D := match y with
  | .non => some (.bl (match x with | .non => false | _ => true))
  | _ => none

/-! ### places -/
def dIx (x y : D) : Option D := match x, y with
  | .lst ds, .int i => atI ds i
  | .tup ds, .int i => atI ds i
  | _, _ => none
theorem atI_rep {κ : Kx} {H : Hp} {ds : List D} {xs : List V} {i : Int} {d : D} (r : RepL κ H ds xs) (h : atI ds i = some d) : ∃ x, atI xs i = some x ∧ Rep κ H d x := by
  unfold atI at h ⊢
  rw [r.length]
  cases e : ixN ds.length i with
  | none => rw [e] at h; cases h
  | some j =>
    rw [e] at h
    simp only [Option.bind_some] at h ⊢
    exact r.get h
theorem ov_ix {κ : Kx} {fp : Addr → Prop} : OpV κ fp (fun x y H Q => rIxL κ.K x y H Q ∨ rIxT κ.K x y H Q) dIx := by
  intro Hb H x y d v u Q hs rx ry e q
  unfold dIx at e
  cases x <;> cases y <;> first | cases e | skip
  · rename_i ds i
    obtain ⟨a, xs, rfl, ha, rl⟩ := rx.tup hs
    cases ry.int
    obtain ⟨z, hz, rz⟩ := atI_rep rl e
    exact .inr ⟨a, xs, i, z, rfl, rfl, ha, hz, q Hb H z (Gr.id hs) rz⟩
  · rename_i ds i
    obtain ⟨a, xs, rfl, ha, rl⟩ := rx.lst hs
    cases ry.int
    obtain ⟨z, hz, rz⟩ := atI_rep rl e
    exact .inl ⟨a, xs, i, z, rfl, rfl, .of ha, hz, q Hb H z (Gr.id hs) rz⟩
section
variable {X : Cx} {C : Ct} {a b : Expr} {f h : E D} {pos : Pos}
theorem de_ix (ha : DV X C a f) (hb : DV X C b h) (hs : PlainIx b := by exact fun _ _ => rfl) : DE X C (.Subscript a b pos) (eop2 dIx f h) := fun hK =>
  PE.imp (pe_ix (ix_list.or ix_tup) (ha hK) (hb hK) hs) fun σ H Q => two_partsV (hK ▸ ov_ix)
theorem de_eq (hu : X.A.units + 64 < cLine) (ha : DV X C a f) (hb : DV X C b h) : DE X C (.Compare a [.Eq] [b] pos) (eop2 dEq f h) := de_cmpV (op_eqD hu) ov_eq ha hb
theorem de_ne (hu : X.A.units + 64 < cLine) (ha : DV X C a f) (hb : DV X C b h) : DE X C (.Compare a [.NotEq] [b] pos) (eop2 dNe f h) := de_cmpV (op_neD hu) ov_ne ha hb
theorem dt_eq (hu : X.A.units + 64 < cLine) (ha : DV X C a f) (hb : DV X C b h) : DT X C (.Compare a [.Eq] [b] pos) (eB (eop2 dEq f h)) := dt_cmpV (op_eqD hu) ov_eq ha hb
theorem dt_ne (hu : X.A.units + 64 < cLine) (ha : DV X C a f) (hb : DV X C b h) : DT X C (.Compare a [.NotEq] [b] pos) (eB (eop2 dNe f h)) := dt_cmpV (op_neD hu) ov_ne ha hb
end
end DL
set_option Elab.async false
set_option linter.all false
set_option autoImplicit false
set_option maxRecDepth 100000
set_option maxHeartbeats 1000000
/-! DL4: built-in calls, slices, lists put together, tests. -/
namespace DL
open PySem PySem.Spec PyProof.Rows L2

/-! ### built-in calls -/
def CallV (κ : Kx) (fp : Addr → Prop) (r : List V → Hp → VK → Prop) (g : List D → Option D) : Prop := ∀ (Hb H : Hp) (ds : List D) (d : D) (vs : List V) (Q : VK), Same Hb H → BorL κ fp Hb H ds vs → g ds = some d →
  (∀ Hb' H' z, Gr (fun _ => False) Hb H Hb' H' → Rep κ Hb' d z → Q z H') → r vs H Q
/-- .. whose answer is a fresh list -/
def CallO (κ : Kx) (fp : Addr → Prop) (r : List V → Hp → VK → Prop) (g : List D → Option (List D)) : Prop := ∀ (Hb H : Hp) (ds es : List D) (vs : List V) (Q : VK), Same Hb H → BorL κ fp Hb H ds vs → g ds = some es →
  (∀ p xs, H p = none → RepL κ Hb es xs → Q (.ref p) (upd H p (.lst xs))) → r vs H Q
def eCall {α : Type} (g : List D → Option α) (f : E (List D)) : E α := ebind f fun ds => eopt (g ds)
section
variable {X : Cx} {C : Ct}
theorem tcb_V {f : E (List D)} {g : List D → Option D} {r : List V → Hp → VK → Prop} {σ : L2.St} {H : Hp} {Q : VK} (hd : CallV C.κ C.fp r g) : lift C (RD C) (eCall g f) σ H Q → tCB r (lift C (RVL C) f) σ H Q := by
  rintro ⟨w, env, Hb, rl, p⟩
  refine lift_bind (R := RVL C) rl p fun ds w1 Hb1 H1 vs g1 r1 q1 p1 => ?_
  cases e : g ds with
  | none => rw [e] at p1; exact p1.elim
  | some d =>
    rw [e] at p1
    exact hd Hb1 H1 ds d vs Q r1.same q1 e fun Hb' H' z g3 rz => Post.fin (R := RD C) r1 p1 g3 rz
theorem tcb_O {f : E (List D)} {g : List D → Option (List D)} {r : List V → Hp → VK → Prop} {σ : L2.St} {H : Hp} {Q : VK} (hd : CallO C.κ C.fp r g) : liftO C (eCall g f) σ H Q → tCB r (lift C (RVL C) f) σ H Q := by
  rintro ⟨w, env, Hb, rl, p⟩
  refine liftO_bind (R := RVL C) rl p fun ds w1 Hb1 H1 vs g1 r1 q1 p1 => ?_
  cases e : g ds with
  | none => rw [e] at p1; exact p1.elim
  | some d =>
    rw [e] at p1
    exact hd Hb1 H1 ds d vs Q r1.same q1 e fun z xs hz rz => PostO.fin r1 p1 hz rz
variable {e : Expr} {es : List Expr} {f : E (List D)} {x : Str} {p pos : Pos} {id : String}
theorem de_callB {r : PySem.W.Frag → List V → Hp → VK → Prop} {g : List D → Option D} (hc : CallR X (.builtin id) (r X.K)) (hd : CallV C.κ C.fp (r C.κ.K) g) (hv : bootBuiltins x = some (.builtin id)) (hm : X.mg x = none) (ha : DVA X C (e :: es) f) (hg : Gl X x := by rfl) (hn : x ≠ "__name__" := by decide)
    (hdb : (x == ("__debug__" : Str)) = false := by decide) (he : starEach (e :: es) X.env = (false, eval e X.env) :: starEach es X.env := by rfl) (hpl : (backTo pos (starEach es X.env)).any (·.1) = false := by rfl) : DE X C (.Call (.Name x p) (e :: es) [] pos) (eCall g f) :=
  fun hK => PE.imp (pe_callB hc hg hm hv (ha hK) hn hdb he hpl) fun σ H Q => tcb_V (hK ▸ hd)
theorem de_callTy {r : PySem.W.Frag → List V → Hp → VK → Prop} {g : List D → Option D} (hc : CallR X (.type id) (r X.K)) (hd : CallV C.κ C.fp (r C.κ.K) g) (hv : bootBuiltins x = some (.type id)) (hm : X.mg x = none) (ha : DVA X C (e :: es) f) (hg : Gl X x := by rfl) (hn : x ≠ "__name__" := by decide)
    (hdb : (x == ("__debug__" : Str)) = false := by decide) (he : starEach (e :: es) X.env = (false, eval e X.env) :: starEach es X.env := by rfl) (hpl : (backTo pos (starEach es X.env)).any (·.1) = false := by rfl) : DE X C (.Call (.Name x p) (e :: es) [] pos) (eCall g f) :=
  fun hK => PE.imp (pe_callTy hc hg hm hv (ha hK) hn hdb he hpl) fun σ H Q => tcb_V (hK ▸ hd)
theorem do_callTy {r : PySem.W.Frag → List V → Hp → VK → Prop} {g : List D → Option (List D)} (hc : CallR X (.type id) (r X.K)) (hd : CallO C.κ C.fp (r C.κ.K) g) (hv : bootBuiltins x = some (.type id)) (hm : X.mg x = none) (ha : DVA X C (e :: es) f) (hg : Gl X x := by rfl) (hn : x ≠ "__name__" := by decide)
    (hdb : (x == ("__debug__" : Str)) = false := by decide) (he : starEach (e :: es) X.env = (false, eval e X.env) :: starEach es X.env := by rfl) (hpl : (backTo pos (starEach es X.env)).any (·.1) = false := by rfl) : DO X C (.Call (.Name x p) (e :: es) [] pos) (eCall g f) :=
  fun hK => PE.imp (pe_callTy hc hg hm hv (ha hK) hn hdb he hpl) fun σ H Q => tcb_O (hK ▸ hd)
/-- a built-in that a name of the module holds (from math import gcd) -/
theorem de_callG {r : PySem.W.Frag → List V → Hp → VK → Prop} {g : List D → Option D} (hc : CallR X (.builtin id) (r X.K)) (hd : CallV C.κ C.fp (r C.κ.K) g) (hm : X.mg x = some (.builtin id)) (ha : DVA X C (e :: es) f) (hg : Gl X x := by rfl)
    (hdb : (x == ("__debug__" : Str)) = false := by decide) (he : starEach (e :: es) X.env = (false, eval e X.env) :: starEach es X.env := by rfl) (hpl : (backTo pos (starEach es X.env)).any (·.1) = false := by rfl) : DE X C (.Call (.Name x p) (e :: es) [] pos) (eCall g f) :=
  fun hK => PE.imp (pe_callBfun hc hg hm (ha hK) hdb he hpl) fun σ H Q => tcb_V (hK ▸ hd)
end

def gLen : List D → Option D
  | [.lst ds] => some (.int ds.length)
  | [.tup ds] => some (.int ds.length)
  | [.str s] => if s.length ≤ 16777216 then some (.int s.length) else none
  | _ => none
theorem cv_len {κ : Kx} {fp : Addr → Prop} : CallV κ fp (fun xs H Q => (∃ p ys, xs = [.ref p] ∧ (SqL κ.K H p ys ∨ SqT κ.K H p ys) ∧ Q (.int ys.length) H) ∨ ∃ z, xs = [.str z] ∧ z.length ≤ sizeLine ∧ Q (.int z.length) H) gLen := by
  intro Hb H ds d vs Q hs rl e q
  unfold gLen at e
  split at e
  · cases e
    obtain ⟨x, rfl, b⟩ := rl.inv1
    obtain ⟨a, xs, rfl, h, r⟩ := b.lst hs
    refine .inl ⟨a, xs, rfl, .inl (.of h), q Hb H _ (Gr.id hs) ?_⟩
    rw [r.length]; exact .int
  · cases e
    obtain ⟨x, rfl, b⟩ := rl.inv1
    obtain ⟨a, xs, rfl, h, r⟩ := b.tup hs
    refine .inl ⟨a, xs, rfl, .inr h, q Hb H _ (Gr.id hs) ?_⟩
    rw [r.length]; exact .int
  · rename_i s
    by_cases z : s.length ≤ 16777216
    · rw [if_pos z] at e
      cases e
      obtain ⟨x, rfl, b⟩ := rl.inv1
      cases b.str
      exact .inr ⟨s, rfl, line_of z, q Hb H _ (Gr.id hs) .int⟩
    · rw [if_neg z] at e; cases e
  · cases e
def gAbs : List D → Option D
  | [.int i] => some (.int (if i < 0 then -i else i))
  | _ => none
theorem cv_abs {κ : Kx} {fp : Addr → Prop} : CallV κ fp (fun xs H Q => ∃ i, xs = [.int i] ∧ Q (.int (if i < 0 then -i else i)) H) gAbs := by
  intro Hb H ds d vs Q hs rl e q
  unfold gAbs at e
  split at e
  · cases e
    obtain ⟨x, rfl, b⟩ := rl.inv1
    cases b.int
    exact ⟨_, rfl, q Hb H _ (Gr.id hs) .int⟩
  · cases e
def gMax2 : List D → Option D
  | [.int i, .int j] => some (.int (if j > i then j else i))
  | _ => none
def gMin2 : List D → Option D
  | [.int i, .int j] => some (.int (if j < i then j else i))
  | _ => none
theorem cv_max2 {κ : Kx} {fp : Addr → Prop} : CallV κ fp (fun xs H Q => ∃ i j, xs = [.int i, .int j] ∧ Q (.int (if j > i then j else i)) H) gMax2 := by
  intro Hb H ds d vs Q hs rl e q
  unfold gMax2 at e
  split at e
  · cases e
    obtain ⟨x, y, rfl, b, b2⟩ := rl.inv2
    cases b.int
    cases b2.int
    exact ⟨_, _, rfl, q Hb H _ (Gr.id hs) .int⟩
  · cases e
theorem cv_min2 {κ : Kx} {fp : Addr → Prop} : CallV κ fp (fun xs H Q => ∃ i j, xs = [.int i, .int j] ∧ Q (.int (if j < i then j else i)) H) gMin2 := by
  intro Hb H ds d vs Q hs rl e q
  unfold gMin2 at e
  split at e
  · cases e
    obtain ⟨x, y, rfl, b, b2⟩ := rl.inv2
    cases b.int
    cases b2.int
    exact ⟨_, _, rfl, q Hb H _ (Gr.id hs) .int⟩
  · cases e
def gInt : List D → Option D
  | [.int i] => some (.int i)
  | [.bl k] => some (.int (if k then 1 else 0))
  | _ => none
theorem cv_int {κ : Kx} {fp : Addr → Prop} : CallV κ fp (fun xs H Q => (∃ i, xs = [.int i] ∧ Q (.int i) H) ∨ ∃ k, xs = [.bl k] ∧ Q (.int (if k then 1 else 0)) H) gInt := by
  intro Hb H ds d vs Q hs rl e q
  unfold gInt at e
  split at e
  · cases e
    obtain ⟨x, rfl, b⟩ := rl.inv1
    cases b.int
    exact .inl ⟨_, rfl, q Hb H _ (Gr.id hs) .int⟩
  · cases e
    obtain ⟨x, rfl, b⟩ := rl.inv1
    cases b.bl
    exact .inr ⟨_, rfl, q Hb H _ (Gr.id hs) .int⟩
  · cases e
def gGcd : List D → Option D
  | [.int i, .int j] => some (.int ((Nat.gcd i.natAbs j.natAbs : Nat) : Int))
  | _ => none
theorem cv_gcd {κ : Kx} {fp : Addr → Prop} : CallV κ fp rGcd gGcd := by
  intro Hb H ds d vs Q hs rl e q
  unfold gGcd at e
  split at e
  · cases e
    obtain ⟨x, y, rfl, b, b2⟩ := rl.inv2
    cases b.int
    cases b2.int
    exact ⟨_, _, rfl, q Hb H _ (Gr.id hs) .int⟩
  · cases e
/-- tuple(xs), list(xs) -/
def seqOf : D → Option (List D)
  | .lst ds => some ds
  | .tup ds => some ds
  | _ => none
def gTuple : List D → Option D
  | [d] => match seqOf d with
    | some ds => some (.tup ds)
    | none => none
  | _ => none
def gList : List D → Option (List D)
  | [d] => seqOf d
  | _ => none
theorem cv_tuple {κ : Kx} {fp : Addr → Prop} : CallV κ fp (fun xs H Q => ∃ p ys, xs = [.ref p] ∧ ((SqL κ.K H p ys ∧ ∀ l, H l = none → Q (.ref l) (upd H l (.tup ys))) ∨ (SqT κ.K H p ys ∧ Q (.ref p) H))) gTuple := by
  intro Hb H ds d vs Q hs rl e q
  unfold gTuple at e
  split at e
  · rename_i dd
    obtain ⟨x, rfl, b⟩ := rl.inv1
    cases dd <;> simp only [seqOf] at e <;> first | cases e | skip
    · have b' := b.rep (fun _ z => by cases z)
      obtain ⟨a, xs, rfl, h, r⟩ := b.tup hs
      exact ⟨a, xs, rfl, .inr ⟨h, q Hb H _ (Gr.id hs) b'⟩⟩
    · obtain ⟨a, xs, rfl, h, r⟩ := b.lst hs
      refine ⟨a, xs, rfl, .inl ⟨.of h, fun l hl => ?_⟩⟩
      have g := Gr.alloc (o := .tup xs) hs hl
      exact q _ _ _ g (.tup (SqT.of upd_same) (r.mono g.b))
  · cases e
theorem co_list {κ : Kx} {fp : Addr → Prop} : CallO κ fp (fun xs H Q => ∃ p ys, xs = [.ref p] ∧ (SqL κ.K H p ys ∨ SqT κ.K H p ys) ∧ ∀ l, H l = none → Q (.ref l) (upd H l (.lst ys))) gList := by
  intro Hb H ds es vs Q hs rl e q
  unfold gList at e
  split at e
  · rename_i dd
    obtain ⟨x, rfl, b⟩ := rl.inv1
    cases dd <;> simp only [seqOf] at e <;> first | cases e | skip
    · obtain ⟨a, xs, rfl, h, r⟩ := b.tup hs
      exact ⟨a, xs, rfl, .inr h, fun l hl => q l xs hl r⟩
    · obtain ⟨a, xs, rfl, h, r⟩ := b.lst hs
      exact ⟨a, xs, rfl, .inl (.of h), fun l hl => q l xs hl r⟩
  · cases e

/-! ### isinstance against a built-in class -/
def D.ty : D → Option String
  | .non => some "NoneType"
  | .bl _ => some "bool"
  | .int _ => some "int"
  | .str _ => some "str"
  | .tup _ => some "tuple"
  | .lst _ => some "list"
  | .drw => none
  | .raw _ => none
  | .exc0 _ => none
  | .exc1 _ _ _ => none
inductive BT where
  | int | bool | str | tuple | list | dict
def BT.name : BT → String
  | .int => "int" | .bool => "bool" | .str => "str" | .tuple => "tuple" | .list => "list" | .dict => "dict"
def isTy : BT → D → Option Bool
  | _, .drw => none
  | _, .raw _ => none
  | _, .exc0 _ => none
  | _, .exc1 _ _ _ => none
  | .int, .int _ => some true
  | .int, .bl _ => some true
  | .bool, .bl _ => some true
  | .str, .str _ => some true
  | .tuple, .tup _ => some true
  | .list, .lst _ => some true
  | _, _ => some false
def gIsi (T : BT) : List D → Option D
  | [d, .raw (.ty _)] => match isTy T d with
    | some b => some (.bl b)
    | none => none
  | _ => none
theorem kit_of_ty (K : PySem.W.Frag) (T : BT) (d : D) (b : Bool) (h : isTy T d = some b) : ∃ t, d.ty = some t ∧ PySem.W.kitOne K (.type t) (.type T.name) = some b := by
  cases T <;> cases d <;> simp only [isTy, Option.some.injEq, reduceCtorEq] at h <;> (try subst h) <;> first
    | exact h.elim
    | exact ⟨_, rfl, kit_ty (by decide +kernel)⟩
theorem ty_of {κ : Kx} {fp : Addr → Prop} {Hb H : Hp} {d : D} {x : V} {t : String} (hs : Same Hb H) (b1 : Bor κ fp Hb H d x) (ht : d.ty = some t) : TyX κ.K H x (.type t) := by
  cases d <;> simp only [D.ty, Option.some.injEq, reduceCtorEq] at ht <;> (try subst ht)
  · cases b1.non; exact .base .non
  · cases b1.bl; exact .base (.bl _)
  · cases b1.int; exact .base (.int _)
  · cases b1.str; exact .base (.str _)
  · obtain ⟨a, xs, rfl, h, r⟩ := b1.tup hs
    rcases h with (h | ⟨o, h⟩) | ⟨o, its, n, h1, h2, h3⟩
    · exact .base (.tup h)
    · exact .fTuple h
    · exact .kTuple h1 h2
  · obtain ⟨a, xs, rfl, h, r⟩ := b1.lst hs
    exact .base (.lst h)
def blOpt : Option Bool → Option D
  | some b => some (.bl b)
  | none => none
def eIsi (T : BT) (f : E D) : E D := ebind f fun d => eopt (blOpt (isTy T d))
section
variable {X : Cx} {C : Ct}
theorem de_isi (T : BT) {e : Expr} {f : E D} {y : Str} {p p2 pos : Pos} (hm : X.mg "isinstance" = none) (ha : DV X C e f) (hm2 : X.mg y = none) (hy : bootBuiltins y = some (.type T.name)) (hg : Gl X "isinstance" := by rfl) (hg2 : Gl X y := by rfl) (hn2 : y ≠ "__name__" := by decide)
    (hd2 : (y == ("__debug__" : Str)) = false := by decide) (hs1 : starEach [e, .Name y p2] X.env = (false, eval e X.env) :: starEach [.Name y p2] X.env := by rfl) (hs2 : starEach [.Name y p2] X.env = (false, eval (.Name y p2) X.env) :: starEach [] X.env := by rfl)
    (hpl : (backTo pos (starEach [.Name y p2] X.env)).any (·.1) = false := by rfl) : DE X C (.Call (.Name "isinstance" p) [e, .Name y p2] [] pos) (eIsi T f) := fun hK =>
  PE.imp (pe_callB (r := rIsi X.K) call_isi hg hm boot_isinstance (pa_cons (ha hK) (pa_cons (pe_bltn (v := .ty T.name) hg2 hm2 hy rfl hn2 hd2) pa_nil hs2) hs1) (by decide) (by decide) hs1 hpl) fun σ H Q ⟨w, env, Hb, r, p⟩ => by
    refine lift_bind (R := RV C) r p fun d w1 Hb1 H1 v g1 r1 q1 p1 => ?_
    cases z : isTy T d with
    | none => rw [z] at p1; exact p1.elim
    | some b =>
      rw [z] at p1
      obtain ⟨t, ht, hk⟩ := kit_of_ty X.K T d b z
      refine ⟨v, _, _, _, b, rfl, .ty _, hK ▸ ty_of r1.same q1 ht, hk, Post.fin (R := RD C) r1 p1 (Gr.id r1.same) .bl⟩
end

/-! ### slices -/
def eNoPart : E (Option Int) := epure none
def intOf : D → Option (Option Int)
  | .int i => some (some i)
  | _ => none
def ePart (f : E D) : E (Option Int) := ebind f fun d => eopt (intOf d)
abbrev RO : Hp → Hp → Option Int → Option Int → Prop := fun _ _ a b => a = b
def DP (X : Cx) (C : Ct) (e : Option Expr) (f : E (Option Int)) : Prop := X.K = C.κ.K → PO X e (lift C RO f)
theorem PO.imp {X : Cx} {e : Option Expr} {t t' : TO} (h : PO X e t) (k : ∀ σ H Q, t' σ H Q → t σ H Q) : PO X e t' := ⟨fun pins s σ H Q I q => h.run pins s σ H Q I (k σ H Q q)⟩
def cutD (xs : List D) (lo hi : Option Int) : List D := (xs.drop (HT.sIx xs.length 0 lo)).take (HT.sIx xs.length xs.length hi - HT.sIx xs.length 0 lo)
theorem cut_rep {κ : Kx} {H : Hp} {ds : List D} {xs : List V} (r : RepL κ H ds xs) (lo hi : Option Int) : RepL κ H (cutD ds lo hi) (cutV xs lo hi) := by
  unfold cutD cutV
  rw [r.length]
  exact (r.drop _).take _
def eCut {α : Type} (g : D → Option Int → Option Int → Option α) (f : E D) (l u : E (Option Int)) : E α := ebind f fun d => ebind l fun lo => ebind u fun hi => eopt (g d lo hi)
def gCutT : D → Option Int → Option Int → Option D
  | .tup ds, lo, hi => some (.tup (cutD ds lo hi))
  | _, _, _ => none
def gCutL : D → Option Int → Option Int → Option (List D)
  | .lst ds, lo, hi => some (cutD ds lo hi)
  | _, _, _ => none
section
variable {X : Cx} {C : Ct}
theorem dp_none : DP X C none eNoPart := fun _ => PO.imp po_none fun σ H Q ⟨w, env, Hb, r, p⟩ => Post.fin (R := RO) r p (Gr.id r.same) rfl
theorem dp_some {e : Expr} {f : E D} (h : DE X C e f) : DP X C (some e) (ePart f) := fun hK => PO.imp (po_some (h hK)) fun σ H Q ⟨w, env, Hb, r, p⟩ =>
  lift_bind (R := RD C) r p fun d w1 Hb1 H1 v g1 r1 q1 p1 => by
    cases d <;> first | exact p1.elim | skip
    cases q1
    exact ⟨_, rfl, Post.fin (R := RO) r1 p1 (Gr.id r1.same) rfl⟩
variable {e : Expr} {lo hi : Option Expr} {f : E D} {l u : E (Option Int)} {pos p2 : Pos}
theorem de_cut (ha : DV X C e f) (hl : DP X C lo l) (hu : DP X C hi u) : DE X C (.Subscript e (.Slice lo hi none p2) pos) (eCut gCutT f l u) := fun hK => PE.imp (pe_slice sl_tupA (ha hK) (hl hK) (hu hK)) fun σ H Q ⟨w, env, Hb, r, p⟩ =>
  lift_bind (R := RV C) r p fun d w1 Hb1 H1 v g1 r1 q1 p1 => lift_bind (R := RO) r1 p1 fun lo w2 Hb2 H2 lo' g2 r2 q2 p2 => lift_bind (R := RO) r2 p2 fun hi w3 Hb3 H3 hi' g3 r3 q3 p3 => by
    cases d <;> first | exact p3.elim | skip
    rename_i ds
    cases q2
    cases q3
    have b := q1.mono (g2.trans g3)
    have b' := b.rep (fun _ z => by cases z)
    obtain ⟨a, xs, rfl, h, rl⟩ := b.tup r3.same
    refine ⟨a, xs, rfl, hK ▸ h, fun hw => ?_, fun hw p hp => ?_⟩
    · have e1 : cutD ds lo hi = ds := by
        unfold cutD
        rw [rl.length] at hw
        rw [hw.1, hw.2, List.drop_zero, Nat.sub_zero, List.take_length]
      have p4 : Post C (RD C) (.ok (.tup (cutD ds lo hi)) w3) env Hb3 H3 σ Q := p3
      rw [e1] at p4
      exact Post.fin (R := RD C) r3 p4 (Gr.id r3.same) b'
    · have g := Gr.alloc (o := .tup (cutV xs lo hi)) r3.same hp
      exact Post.fin (R := RD C) r3 p3 g (.tup (SqT.of upd_same) ((cut_rep rl lo hi).mono g.b))
theorem do_cut (ha : DV X C e f) (hl : DP X C lo l) (hu : DP X C hi u) : DO X C (.Subscript e (.Slice lo hi none p2) pos) (eCut gCutL f l u) := fun hK => PE.imp (pe_slice sl_list (ha hK) (hl hK) (hu hK)) fun σ H Q ⟨w, env, Hb, r, p⟩ =>
  liftO_bind (R := RV C) r p fun d w1 Hb1 H1 v g1 r1 q1 p1 => liftO_bind (R := RO) r1 p1 fun lo w2 Hb2 H2 lo' g2 r2 q2 p2 => liftO_bind (R := RO) r2 p2 fun hi w3 Hb3 H3 hi' g3 r3 q3 p3 => by
    cases d <;> first | exact p3.elim | skip
    rename_i ds
    cases q2
    cases q3
    obtain ⟨a, xs, rfl, h, rl⟩ := (q1.mono (g2.trans g3)).lst r3.same
    exact ⟨a, xs, rfl, .of h, fun p hp => PostO.fin r3 p3 hp (cut_rep rl lo hi)⟩
end

/-! ### sequences put together -/
def dCatT (x y : D) : Option D := match x, y with
  | .tup a, .tup b => if a.length + b.length ≤ 16777216 then some (.tup (a ++ b)) else none
  | _, _ => none
theorem ov_catT {κ : Kx} {fp : Addr → Prop} : OpV κ fp (rCatA κ.K) dCatT := by
  intro Hb H x y d v u Q hs rx ry e q
  unfold dCatT at e
  cases x <;> cases y <;> first | cases e | skip
  rename_i xs ys
  simp only at e
  by_cases z : xs.length + ys.length ≤ 16777216
  · rw [if_pos z] at e
    cases e
    have rx' := rx.rep (fun _ z => by cases z)
    have ry' := ry.rep (fun _ z => by cases z)
    obtain ⟨a, as, rfl, ha, ra⟩ := rx.tup hs
    obtain ⟨b, bs, rfl, hb, rb⟩ := ry.tup hs
    refine ⟨a, b, as, bs, rfl, rfl, ha, hb, by rw [ra.length, rb.length]; exact line_of z, fun h => ?_, fun h1 h => ?_, fun h1 h2 p hp => ?_⟩
    · subst h
      cases ra
      exact q Hb H _ (Gr.id hs) ry'
    · subst h
      cases rb
      rw [List.append_nil] at q
      exact q Hb H _ (Gr.id hs) rx'
    · have g := Gr.alloc (o := .tup (as ++ bs)) hs hp
      exact q _ _ _ g (.tup (SqT.of upd_same) ((ra.append rb).mono g.b))
  · rw [if_neg z] at e; cases e
def dRepT (x y : D) : Option D := match x, y with
  | .tup a, .int k => if a ≠ [] ∧ 2 ≤ k ∧ k ≤ 1000 ∧ a.length ≤ 1000 then some (.tup (List.replicate k.toNat a).flatten) else none
  | _, _ => none
theorem ov_repT {κ : Kx} {fp : Addr → Prop} : OpV κ fp (rRepT κ.K) dRepT := by
  intro Hb H x y d v u Q hs rx ry e q
  unfold dRepT at e
  cases x <;> cases y <;> first | cases e | skip
  rename_i xs k
  simp only at e
  by_cases z : xs ≠ [] ∧ 2 ≤ k ∧ k ≤ 1000 ∧ xs.length ≤ 1000
  · rw [if_pos z] at e
    cases e
    obtain ⟨a, as, rfl, ha, ra⟩ := rx.tup hs
    cases ry.int
    refine ⟨a, k, as, rfl, rfl, ha, fun h => ?_, z.2.1, z.2.2.1, by rw [ra.length]; exact z.2.2.2, fun p hp => ?_⟩
    · subst h; cases ra; exact z.1 rfl
    · have g := Gr.alloc (o := .tup (List.replicate k.toNat as).flatten) hs hp
      exact q _ _ _ g (.tup (SqT.of upd_same) ((ra.rep _).mono g.b))
  · rw [if_neg z] at e; cases e
def OpO (κ : Kx) (fp : Addr → Prop) (r : R2) (g : D → D → Option (List D)) : Prop := ∀ (Hb H : Hp) (x y : D) (es : List D) (v u : V) (Q : VK), Same Hb H → Bor κ fp Hb H x v → Bor κ fp Hb H y u → g x y = some es →
  (∀ p xs, H p = none → RepL κ Hb es xs → Q (.ref p) (upd H p (.lst xs))) → r v u H Q
def dCatL (x y : D) : Option (List D) := match x, y with
  | .lst a, .lst b => if a.length + b.length ≤ 16777216 then some (a ++ b) else none
  | _, _ => none
def dRepL (x y : D) : Option (List D) := match x, y with
  | .lst a, .int k => if -(2 ^ 63) ≤ k ∧ k < 2 ^ 63 ∧ a.length * k.toNat ≤ 16777216 then some (List.replicate k.toNat a).flatten else none
  | _, _ => none
theorem oo_catL {κ : Kx} {fp : Addr → Prop} : OpO κ fp rCat dCatL := by
  intro Hb H x y d v u Q hs rx ry e q
  unfold dCatL at e
  cases x <;> cases y <;> first | cases e | skip
  rename_i xs ys
  simp only at e
  by_cases z : xs.length + ys.length ≤ 16777216
  · rw [if_pos z] at e
    cases e
    obtain ⟨a, as, rfl, ha, ra⟩ := rx.lst hs
    obtain ⟨b, bs, rfl, hb, rb⟩ := ry.lst hs
    exact ⟨a, b, as, bs, rfl, rfl, ha, hb, by rw [ra.length, rb.length]; exact line_of z, fun p hp => q p _ hp (ra.append rb)⟩
  · rw [if_neg z] at e; cases e
theorem oo_repL {κ : Kx} {fp : Addr → Prop} : OpO κ fp rRep dRepL := by
  intro Hb H x y d v u Q hs rx ry e q
  unfold dRepL at e
  cases x <;> cases y <;> first | cases e | skip
  rename_i xs k
  simp only at e
  by_cases z : -(2 ^ 63) ≤ k ∧ k < 2 ^ 63 ∧ xs.length * k.toNat ≤ 16777216
  · rw [if_pos z] at e
    cases e
    obtain ⟨a, as, rfl, ha, ra⟩ := rx.lst hs
    cases ry.int
    exact ⟨a, k, as, rfl, rfl, ha, z.1, z.2.1, by rw [ra.length]; exact line_of z.2.2, fun p hp => q p _ hp (ra.rep _)⟩
  · rw [if_neg z] at e; cases e
section
variable {X : Cx} {C : Ct} {a b : Expr} {f h : E D} {pos : Pos}
theorem de_catT (ha : DV X C a f) (hb : DV X C b h) : DE X C (.BinOp a .Add b pos) (eop2 dCatT f h) := de_opV op_catA ov_catT ha hb
theorem de_repT (ha : DV X C a f) (hb : DV X C b h) : DE X C (.BinOp a .Mult b pos) (eop2 dRepT f h) := de_opV op_repT ov_repT ha hb
theorem do_op {op : Operator} {r : R2} {g : D → D → Option (List D)} (ho : OpR X (binaryOp op) r) (hd : OpO C.κ C.fp r g) (ha : DV X C a f) (hb : DV X C b h) : DO X C (.BinOp a op b pos) (eop2 g f h) := fun hK =>
  PE.imp (pe_op ho (ha hK) (hb hK)) fun σ H Q ⟨w, env, Hb, rl, p⟩ =>
    liftO_bind (R := RV C) rl p fun x w1 Hb1 H1 v g1 r1 q1 p1 => liftO_bind (R := RV C) r1 p1 fun y w2 Hb2 H2 u g2 r2 q2 p2 => by
      cases e : g x y with
      | none => rw [e] at p2; exact p2.elim
      | some d =>
        rw [e] at p2
        exact hd Hb2 H2 x y d v u Q r2.same (q1.mono g2) q2 e fun p xs hp rl => PostO.fin r2 p2 hp rl
theorem do_cat (ha : DV X C a f) (hb : DV X C b h) : DO X C (.BinOp a .Add b pos) (eop2 dCatL f h) := do_op op_cat oo_catL ha hb
theorem do_rep (ha : DV X C a f) (hb : DV X C b h) : DO X C (.BinOp a .Mult b pos) (eop2 dRepL f h) := do_op op_rep oo_repL ha hb
theorem de_in (hu : X.A.units + 65 < cLine) (ha : DV X C a f) (hb : DV X C b h) (hm : behindInMarks .In b = false := by rfl) : DE X C (.Compare a [.In] [b] pos) (eop2 dIn f h) := de_cmpV (op_inD hu) ov_in ha hb hm
theorem de_notIn (hu : X.A.units + 65 < cLine) (ha : DV X C a f) (hb : DV X C b h) (hm : behindInMarks .NotIn b = false := by rfl) : DE X C (.Compare a [.NotIn] [b] pos) (eop2 dNotIn f h) := de_cmpV (op_notInD hu) ov_notIn ha hb hm
theorem dt_in (hu : X.A.units + 65 < cLine) (ha : DV X C a f) (hb : DV X C b h) (hm : behindInMarks .In b = false := by rfl) : DT X C (.Compare a [.In] [b] pos) (eB (eop2 dIn f h)) := dt_cmpV (op_inD hu) ov_in ha hb hm
theorem dt_notIn (hu : X.A.units + 65 < cLine) (ha : DV X C a f) (hb : DV X C b h) (hm : behindInMarks .NotIn b = false := by rfl) : DT X C (.Compare a [.NotIn] [b] pos) (eB (eop2 dNotIn f h)) := dt_cmpV (op_notInD hu) ov_notIn ha hb hm

/-! ### and, or, not, a if c else b -/
def eIf {α : Type} (c : E Bool) (f h : E α) : E α := ebind c fun b => if b then f else h
def eNot (c : E Bool) : E Bool := ebind c fun b => epure (!b)
def eAnd (c d : E Bool) : E Bool := ebind c fun b => if b then d else epure false
def eOr (c d : E Bool) : E Bool := ebind c fun b => if b then epure true else d
def eNotV (f : E D) : E D := ebind f fun d => eopt (match d with | .bl b => some (.bl (!b)) | _ => none)
def eAndV (f h : E D) : E D := ebind f fun d => match d with
  | .bl true => h
  | .bl false => epure (.bl false)
  | _ => eopt none
def eOrV (f h : E D) : E D := ebind f fun d => match d with
  | .bl true => epure (.bl true)
  | .bl false => h
  | _ => eopt none
theorem de_if {c : Expr} {t : E Bool} (hc : DT X C c t) (ha : DE X C a f) (hb : DE X C b h) : DE X C (.IfExp c a b pos) (eIf t f h) := fun hK => PE.imp (pe_ifExp (hc hK) (ha hK) (hb hK)) fun σ H Q ⟨w, env, Hb, rl, p⟩ =>
  lift_bind (R := RB) rl p fun k w1 Hb1 H1 k' g1 r1 q1 p1 => by
    cases q1
    cases k with
    | true => exact iteT ⟨w1, env, Hb1, r1, p1⟩
    | false => exact iteF ⟨w1, env, Hb1, r1, p1⟩
theorem do_if {c : Expr} {t : E Bool} {fo ho : E (List D)} (hc : DT X C c t) (ha : DO X C a fo) (hb : DO X C b ho) : DO X C (.IfExp c a b pos) (eIf t fo ho) := fun hK => PE.imp (pe_ifExp (hc hK) (ha hK) (hb hK)) fun σ H Q ⟨w, env, Hb, rl, p⟩ =>
  liftO_bind (R := RB) rl p fun k w1 Hb1 H1 k' g1 r1 q1 p1 => by
    cases q1
    cases k with
    | true => exact iteT ⟨w1, env, Hb1, r1, p1⟩
    | false => exact iteF ⟨w1, env, Hb1, r1, p1⟩
theorem dt_not {t : E Bool} (ha : DT X C a t) : DT X C (.UnaryOp .Not a pos) (eNot t) := fun hK => PT.imp (pt_not (ha hK)) fun σ H Q ⟨w, env, Hb, rl, p⟩ =>
  lift_bind (R := RB) rl p fun k w1 Hb1 H1 k' g1 r1 q1 p1 => by
    cases q1
    exact Post.fin (R := RB) r1 p1 (Gr.id r1.same) rfl
variable {rest : List Expr}
theorem dw_and1 {t : E Bool} (ha : DT X C a t) : DW X C (.BoolOp .And [a] pos) t := fun hK => pw_and1 (ha hK)
theorem dw_or1 {t : E Bool} (ha : DT X C a t) : DW X C (.BoolOp .Or [a] pos) t := fun hK => pw_or1 (ha hK)
theorem dw_and {t u : E Bool} (ha : DT X C a t) (hb : DW X C (.BoolOp .And (b :: rest) pos) u) : DW X C (.BoolOp .And (a :: b :: rest) pos) (eAnd t u) := fun hK => PW.imp (pw_and (ha hK) (hb hK)) fun σ H Q ⟨w, env, Hb, rl, p⟩ =>
  lift_bind (R := RB) rl p fun k w1 Hb1 H1 k' g1 r1 q1 p1 => by
    cases q1
    cases k with
    | true => exact iteT ⟨w1, env, Hb1, r1, p1⟩
    | false => exact iteF (Post.fin (R := RB) r1 p1 (Gr.id r1.same) rfl)
theorem dw_or {t u : E Bool} (ha : DT X C a t) (hb : DW X C (.BoolOp .Or (b :: rest) pos) u) : DW X C (.BoolOp .Or (a :: b :: rest) pos) (eOr t u) := fun hK => PW.imp (pw_or (ha hK) (hb hK)) fun σ H Q ⟨w, env, Hb, rl, p⟩ =>
  lift_bind (R := RB) rl p fun k w1 Hb1 H1 k' g1 r1 q1 p1 => by
    cases q1
    cases k with
    | true => exact iteT (Post.fin (R := RB) r1 p1 (Gr.id r1.same) rfl)
    | false => exact iteF ⟨w1, env, Hb1, r1, p1⟩
theorem dt_w {e : Expr} {t : E Bool} (h : DW X C e t) : DT X C e t := fun hK => (h hK).pt
theorem de_one {op : BoolOp} (ha : DE X C a f) : DE X C (.BoolOp op [a] pos) f := fun hK => pe_one (ha hK)
theorem de_and (ha : DE X C a f) (hb : DE X C (.BoolOp .And (b :: rest) pos) h) : DE X C (.BoolOp .And (a :: b :: rest) pos) (eAndV f h) := fun hK => PE.imp (pe_and (ha hK) (hb hK)) fun σ H Q ⟨w, env, Hb, rl, p⟩ =>
  lift_bind (R := RD C) rl p fun d w1 Hb1 H1 v g1 r1 q1 p1 => by
    cases d <;> first | exact p1.elim | skip
    rename_i k
    cases q1
    cases k with
    | true => exact ⟨true, rfl, iteT ⟨w1, env, Hb1, r1, p1⟩⟩
    | false => exact ⟨false, rfl, iteF (Post.fin (R := RD C) r1 p1 (Gr.id r1.same) .bl)⟩
theorem de_or (ha : DE X C a f) (hb : DE X C (.BoolOp .Or (b :: rest) pos) h) : DE X C (.BoolOp .Or (a :: b :: rest) pos) (eOrV f h) := fun hK => PE.imp (pe_or (ha hK) (hb hK)) fun σ H Q ⟨w, env, Hb, rl, p⟩ =>
  lift_bind (R := RD C) rl p fun d w1 Hb1 H1 v g1 r1 q1 p1 => by
    cases d <;> first | exact p1.elim | skip
    rename_i k
    cases q1
    cases k with
    | true => exact ⟨true, rfl, iteT (Post.fin (R := RD C) r1 p1 (Gr.id r1.same) .bl)⟩
    | false => exact ⟨false, rfl, iteF ⟨w1, env, Hb1, r1, p1⟩⟩
theorem de_not (ha : DE X C a f) : DE X C (.UnaryOp .Not a pos) (eNotV f) := fun hK => PE.imp (pe_not (ha hK)) fun σ H Q ⟨w, env, Hb, rl, p⟩ =>
  lift_bind (R := RD C) rl p fun d w1 Hb1 H1 v g1 r1 q1 p1 => by
    cases d <;> first | exact p1.elim | skip
    cases q1
    exact ⟨_, rfl, Post.fin (R := RD C) r1 p1 (Gr.id r1.same) .bl⟩
def eNeg (f : E D) : E D := ebind f fun d => eopt (match d with | .int i => some (.int (-i)) | _ => none)
theorem de_neg (ha : DE X C a f) : DE X C (.UnaryOp .USub a pos) (eNeg f) := fun hK => PE.imp (pe_un un_neg (ha hK)) fun σ H Q ⟨w, env, Hb, rl, p⟩ =>
  lift_bind (R := RD C) rl p fun d w1 Hb1 H1 v g1 r1 q1 p1 => by
    cases d <;> first | exact p1.elim | skip
    cases q1
    exact ⟨_, rfl, Post.fin (R := RD C) r1 p1 (Gr.id r1.same) .int⟩
/-- a < b <= c: the middle once -/
def eChain (g g' : D → D → Option D) (f h k : E D) : E D := ebind f fun x => ebind h fun y => ebind (eopt (g x y)) fun z => match z with
  | .bl true => ebind k fun c => eopt (g' y c)
  | .bl false => epure (.bl false)
  | _ => eopt none
end
end DL
set_option Elab.async false
set_option linter.all false
set_option autoImplicit false
set_option maxRecDepth 100000
set_option maxHeartbeats 1000000
/-! DL5: statements. -/
namespace DL
open PySem PySem.Spec PyProof.Rows L2

section
variable {X : Cx} {C : Ct}
theorem de_chain {op op' : CmpOp} {r r' : R2} {g g' : D → D → Option D} {a b c : Expr} {f h k : E D} {pos : Pos} (ho : OpR X (compareOp op) r) (hd : OpD C.κ r g) (ho' : OpR X (compareOp op') r') (hd' : OpD C.κ r' g') (ha : DE X C a f) (hb : DE X C b h) (hc : DE X C c k)
    (hm : lastMarks [op, op'] [b, c] = false := by rfl) : DE X C (.Compare a [op, op'] [b, c] pos) (eChain g g' f h k) := fun hK =>
  PE.imp (pe_chain ho ho' (ha hK) (hb hK) (hc hK) hm) fun σ H Q ⟨w, env, Hb, rl, p⟩ =>
    lift_bind (R := RD C) rl p fun x w1 Hb1 H1 v g1 r1 q1 p1 => lift_bind (R := RD C) r1 p1 fun y w2 Hb2 H2 u g2 r2 q2 p2 => by
      cases e : g x y with
      | none => rw [e] at p2; exact p2.elim
      | some z =>
        rw [e] at p2
        refine hd Hb2 H2 x y z v u _ r2.same (q1.mono g2.b) q2 e fun Hb3 H3 z' g3 rz => ?_
        have r3 := r2.grow g3
        have p3 := Post.mono p2 g3.sub
        cases z <;> first | exact p3.elim | skip
        rename_i kb
        cases rz
        cases kb with
        | false => exact ⟨false, rfl, iteF (Post.fin (R := RD C) r3 p3 (Gr.id r3.same) .bl)⟩
        | true =>
          refine ⟨true, rfl, iteT ?_⟩
          refine lift_bind (R := RD C) r3 p3 fun c' w4 Hb4 H4 vc g4 r4 q4 p4 => ?_
          cases e2 : g' y c' with
          | none => rw [e2] at p4; exact p4.elim
          | some z2 =>
            rw [e2] at p4
            exact hd' Hb4 H4 y c' z2 u vc Q r4.same ((q2.mono g3.b).mono g4.b) q4 e2 fun Hb' H' z g5 rz => Post.fin (R := RD C) r4 p4 g5 rz
end

/-! ### slots changed -/
theorem EnvRel.put {κ : Kx} {fp : Addr → Prop} {H0 Hb H : Hp} {σ : L2.St} {env : En} {s : Sl} {v : V} (i : Nat) (r : EnvRel κ fp H0 Hb H σ env)
    (hd : ∀ d, s = .dat d → Rep κ Hb d v)
    (ho : ∀ ds, s = .own ds → ∃ a xs, v = .ref a ∧ H a = some (.lst xs) ∧ RepL κ Hb ds xs ∧ Hb a = none ∧ H0 a = none ∧ ¬ fp a ∧ ∀ (j : Nat) (es : List D), j ≠ i → env[j]? = some (Sl.own es) → σ[j]? ≠ some (some (V.ref a))) : EnvRel κ fp H0 Hb H (σ.set i (some v)) (env.set i s) where
  dat := fun j d e => by
    rw [List.getElem?_set] at e
    by_cases h : i = j
    · subst h
      rw [if_pos rfl] at e
      by_cases hl : i < env.length
      · rw [if_pos hl] at e
        have e' := Option.some.inj e
        refine ⟨v, ?_, hd d e'⟩
        rw [List.getElem?_set_self (by rw [← r.len]; exact hl)]
      · rw [if_neg hl] at e; cases e
    · rw [if_neg h] at e
      rw [List.getElem?_set_ne h]
      exact r.dat j d e
  own := fun j ds e => by
    rw [List.getElem?_set] at e
    by_cases h : i = j
    · subst h
      rw [if_pos rfl] at e
      by_cases hl : i < env.length
      · rw [if_pos hl] at e
        obtain ⟨a, xs, e1, e2, e3, e4, e5, e6, _⟩ := ho ds (Option.some.inj e)
        refine ⟨a, xs, ?_, e2, e3, e4, e5, e6⟩
        rw [List.getElem?_set_self (by rw [← r.len]; exact hl), e1]
      · rw [if_neg hl] at e; cases e
    · rw [if_neg h] at e
      rw [List.getElem?_set_ne h]
      exact r.own j ds e
  sep := fun j k ds es a hjk e1 e2 h1 h2 => by
    rw [List.getElem?_set] at e1 e2
    by_cases hj : i = j
    · subst hj
      rw [if_neg hjk] at e2
      rw [if_pos rfl] at e1
      rw [List.getElem?_set_ne hjk] at h2
      by_cases hl : i < env.length
      · rw [if_pos hl] at e1
        rw [List.getElem?_set_self (by rw [← r.len]; exact hl)] at h1
        obtain ⟨b, xs, q1, q2, q3, q4, q5, q6, q7⟩ := ho ds (Option.some.inj e1)
        rw [q1] at h1
        cases h1
        exact q7 k es (fun z => hjk z.symm) e2 h2
      · rw [if_neg hl] at e1; cases e1
    · rw [if_neg hj] at e1
      rw [List.getElem?_set_ne hj] at h1
      by_cases hk : i = k
      · subst hk
        rw [if_pos rfl] at e2
        by_cases hl : i < env.length
        · rw [if_pos hl] at e2
          rw [List.getElem?_set_self (by rw [← r.len]; exact hl)] at h2
          obtain ⟨b, xs, q1, q2, q3, q4, q5, q6, q7⟩ := ho es (Option.some.inj e2)
          rw [q1] at h2
          cases h2
          exact q7 j ds (fun z => hj z.symm) e1 h1
        · rw [if_neg hl] at e2; cases e2
      · rw [if_neg hk] at e2
        rw [List.getElem?_set_ne hk] at h2
        exact r.sep j k ds es a hjk e1 e2 h1 h2
  len := by rw [List.length_set, List.length_set]; exact r.len

section
variable {C : Ct} {w w0 : Wo} {env : En} {Hs Hbs Hb H : Hp} {σ : L2.St}
/-- what no slot owns -/
theorem Rel.unowned {a : Addr} (r0 : Rel C w0 env Hbs Hs σ) (ha : Hs a = none) (j : Nat) (es : List D) (e : env[j]? = some (Sl.own es)) : σ[j]? ≠ some (some (V.ref a)) := fun z => by
  obtain ⟨b, xs, h1, h2, _⟩ := r0.env.own j es e
  rw [h1] at z
  cases z
  rw [ha] at h2; cases h2
theorem Rel.fresh {a : Addr} (r0 : Rel C w0 env Hbs Hs σ) (ha : Hs a = none) : C.H0 a = none ∧ ¬ C.fp a := by
  refine ⟨?_, fun z => C.Γ.trk r0.ok z ha⟩
  cases z : C.H0 a with
  | none => rfl
  | some o => exact absurd ha (r0.gr.d a (by rw [z]; simp))
theorem Rel.put {s : Sl} {v : V} (i : Nat) (r0 : Rel C w0 env Hbs Hs σ) (r : Rel C w env Hb H σ) (n : SlNew C.κ Hs Hb H s v) : Rel C w (env.set i s) Hb H (σ.set i (some v)) := by
  refine ⟨r.gr, r.ok, r.env.put i (fun d e => ?_) fun ds e => ?_⟩
  · subst e; cases n with
    | dat q => exact q
  · subst e; cases n with
    | own h1 h2 h3 h4 =>
      obtain ⟨f1, f2⟩ := r0.fresh h1
      exact ⟨_, _, rfl, h2, h3, h4, f1, f2, fun j es _ e => r0.unowned h1 j es e⟩
theorem Rel.putD {d : D} {v : V} (i : Nat) (r : Rel C w env Hb H σ) (n : Rep C.κ Hb d v) : Rel C w (env.set i (.dat d)) Hb H (σ.set i (some v)) := r.put i r (.dat n)
/-- a slot forgotten -/
theorem Rel.drop (i : Nat) (r : Rel C w env Hb H σ) (o : Option V) : Rel C w (env.set i .un) Hb H (σ.set i o) := by
  refine ⟨r.gr, r.ok, ⟨fun j d e => ?_, fun j ds e => ?_, fun j k ds es a hjk e1 e2 h1 h2 => ?_, by rw [List.length_set, List.length_set]; exact r.env.len⟩⟩
  · by_cases h : i = j
    · subst h
      rw [List.getElem?_set] at e
      rw [if_pos rfl] at e
      split at e <;> cases e
    · rw [List.getElem?_set_ne h] at e ⊢
      exact r.env.dat j d e
  · by_cases h : i = j
    · subst h
      rw [List.getElem?_set] at e
      rw [if_pos rfl] at e
      split at e <;> cases e
    · rw [List.getElem?_set_ne h] at e ⊢
      exact r.env.own j ds e
  · by_cases hj : i = j
    · subst hj
      rw [List.getElem?_set, if_pos rfl] at e1
      split at e1 <;> cases e1
    · by_cases hk : i = k
      · subst hk
        rw [List.getElem?_set, if_pos rfl] at e2
        split at e2 <;> cases e2
      · rw [List.getElem?_set_ne hj] at e1 h1
        rw [List.getElem?_set_ne hk] at e2 h2
        exact r.env.sep j k ds es a hjk e1 e2 h1 h2
/-- a list of one's own is written -/
theorem Rel.write {i : Nat} {ds es : List D} {a : Addr} {ys : List V} (r : Rel C w env Hb H σ) (e : env[i]? = some (Sl.own ds)) (hs : σ[i]? = some (some (V.ref a))) (hy : RepL C.κ Hb es ys) : Rel C w (env.set i (.own es)) Hb (upd H a (.lst ys)) σ := by
  obtain ⟨b, zs, h1, h2, h3, h4, h5, h6⟩ := r.env.own i ds e
  rw [hs] at h1
  cases h1
  have hl : i < env.length := (List.getElem?_eq_some_iff.mp e).1
  refine ⟨⟨r.gr.b, fun b o q => ?_, fun b o q n => ?_, fun b q => ?_, fun b q => ?_⟩, C.Γ.loc r.ok (fun b hb => ?_) (fun b φ q => ?_), ⟨fun j d q => ?_, fun j fs q => ?_, fun j k fs gs c hjk e1 e2 => ?_, by rw [List.length_set]; exact r.env.len⟩⟩
  · rw [upd_ne (ne_of_none q h4)]; exact r.gr.s b o q
  · rw [upd_ne (ne_of_none q h5)]; exact r.gr.h b o q n
  · by_cases z : b = a
    · subst z; rw [upd_same]; simp
    · rw [upd_ne z]; exact r.gr.d b q
  · exact r.gr.n b q
  · rw [upd_ne (fun z : b = a => h6 (by rw [← z]; exact hb))]
  · rw [upd_ne (fun z : b = a => by rw [z, h2] at q; cases q)]; exact q
  · by_cases z : i = j
    · subst z
      rw [List.getElem?_set_self hl] at q
      cases q
    · rw [List.getElem?_set_ne z] at q
      exact r.env.dat j d q
  · by_cases z : i = j
    · subst z
      rw [List.getElem?_set_self hl] at q
      cases q
      exact ⟨a, ys, hs, upd_same, hy, h4, h5, h6⟩
    · rw [List.getElem?_set_ne z] at q
      obtain ⟨c, cs, q1, q2, q3, q4, q5, q6⟩ := r.env.own j fs q
      refine ⟨c, cs, q1, ?_, q3, q4, q5, q6⟩
      rw [upd_ne fun t => r.env.sep i j ds fs a z e q hs (by rw [q1, t])]
      exact q2
  · have f1 : ∃ fs', env[j]? = some (Sl.own fs') := by
      by_cases z : i = j
      · subst z; exact ⟨_, e⟩
      · rw [List.getElem?_set_ne z] at e1; exact ⟨_, e1⟩
    have f2 : ∃ fs', env[k]? = some (Sl.own fs') := by
      by_cases z : i = k
      · subst z; exact ⟨_, e⟩
      · rw [List.getElem?_set_ne z] at e2; exact ⟨_, e2⟩
    obtain ⟨_, f1⟩ := f1
    obtain ⟨_, f2⟩ := f2
    exact r.env.sep j k _ _ c hjk f1 f2
end

/-! ### values for slots -/
def eDat (f : E D) : E Sl := ebind f fun d => epure (.dat d)
def eOwn (f : E (List D)) : E Sl := ebind f fun d => epure (.own d)
section
variable {X : Cx} {C : Ct} {e : Expr}
theorem dl_dat {f : E D} (h : DE X C e f) : DL X C e (eDat f) := fun hK => PE.imp (h hK) fun σ H Q ⟨w, env, Hb, r, p⟩ => ⟨w, env, Hb, r, by
  unfold eDat ebind at p
  cases q : f w env with
  | ok d w1 => rw [q] at p; exact fun Hb' H' v g k n => p Hb' H' v g k (.dat n)
  | exc x w1 => rw [q] at p; exact p
  | bad => rw [q] at p; exact p⟩
theorem dl_own {f : E (List D)} (h : DO X C e f) : DL X C e (eOwn f) := fun hK => PE.imp (h hK) fun σ H Q ⟨w, env, Hb, r, p⟩ => ⟨w, env, Hb, r, by
  unfold eOwn ebind at p
  cases q : f w env with
  | ok d w1 => rw [q] at p; exact fun Hb' H' a xs g k h1 h2 h3 h4 => p Hb' H' (.ref a) g k (.own h1 h2 h3 h4)
  | exc x w1 => rw [q] at p; exact p
  | bad => rw [q] at p; exact p⟩
end

/-! ### x = e -/
def setS (i : Nat) (f : E Sl) : S := fun w e => match f w e with
  | .ok s w1 => .nx (e.set i s) w1
  | .exc x w1 => .exc x e w1
  | .bad => .bad
section
variable {X : Cx} {C : Ct}
theorem setS_liftL {f : E Sl} {i : Nat} {σ : L2.St} {H : Hp} {D : Ends} (l : liftS C (setS i f) D σ H) : liftL C f σ H fun x H1 => D.nx (σ.set i (some x)) H1 := by
  obtain ⟨w, env, Hb, r, p⟩ := l
  refine ⟨w, env, Hb, r, ?_⟩
  unfold setS at p
  cases q : f w env with
  | ok s w1 =>
    rw [q] at p
    exact fun Hb' H' v g k n => p Hb' H' _ g.b (r.put i k n)
  | exc x w1 =>
    rw [q] at p
    exact fun Hb' H' c dd g k x1 => p Hb' H' σ c dd g.b k x1
  | bad => rw [q] at p; exact p
theorem ds_set (i : Nat) {x : Str} {e : Expr} {f : E Sl} {pos pos' : Pos} (he : DL X C e f) (hN : X.N.Nodup) (hi : X.N[i]? = some x := by rfl) (hx : Loc X.env.scope x := by first | exact Or.inl rfl | exact Or.inr rfl) (hs : swapsWith e (some (.Name x pos')) pos.line X.env = pure false := by rfl)
    (hf : X.fn x = true ∨ X.env.scope.names.lookup x = some .local := by first | exact .inl rfl | exact .inr rfl | assumption) : DS X C (.Assign [.Name x pos'] e pos) (setS i f) := fun hK =>
  PS.imp (ps_set (i := i) hN hi hx (he hK) hs hf) fun D σ H l => setS_liftL l
theorem ds_ret {e : Expr} {f : E D} {pos : Pos} (he : DE X C e f) : DS X C (.Return (some e) pos) (sbind f fun d => fun w _ => .rt d w) := fun hK =>
  PS.imp (ps_ret (he hK)) fun D σ H ⟨w, env, Hb, r, p⟩ => liftS_bind (R := RD C) (Q1 := D.rt) r p fun d w1 Hb1 H1 v g1 r1 q1 p1 => p1 Hb1 H1 v r1.gr r1.ok q1
theorem ds_retN {pos : Pos} : DS X C (.Return none pos) (fun w _ => .rt .non w) := fun hK => PS.imp ps_retN fun D σ H ⟨w, env, Hb, r, p⟩ => p Hb H .non r.gr r.ok .non
theorem ds_pass {pos : Pos} : DS X C (.Pass pos) snil := fun hK => PS.imp ps_pass fun D σ H ⟨w, env, Hb, r, p⟩ => p Hb H σ (Same.refl _) r
theorem ds_break {pos : Pos} : DS X C (.Break pos) (fun w e => .bk e w) := fun hK => PS.imp ps_break fun D σ H ⟨w, env, Hb, r, p⟩ => p Hb H σ (Same.refl _) r
theorem ds_cont {pos : Pos} : DS X C (.Continue pos) (fun w e => .ct e w) := fun hK => PS.imp ps_continue fun D σ H ⟨w, env, Hb, r, p⟩ => p Hb H σ (Same.refl _) r
/-- an expression whose value is dropped -/
theorem ds_expr {e : Expr} {f : E D} {pos : Pos} (he : DE X C e f) (hs : swapsWith e none pos.line X.env = pure false := by rfl) : DS X C (.Expr e pos) (sbind f fun _ => fun w e => .nx e w) := fun hK =>
  PS.imp (ps_expr (he hK) hs) fun D σ H ⟨w, env, Hb, r, p⟩ => liftS_bind (R := RD C) r p fun d w1 Hb1 H1 v g1 r1 q1 p1 => p1 Hb1 H1 σ (Same.refl _) r1
def ifS (c : E Bool) (f h : S) : S := sbind c fun b => if b then f else h
theorem ds_if {c : Expr} {t : E Bool} {a b : List Stmt} {f h : S} {pos : Pos} (hc : DT X C c t) (ha : DB X C a f) (hb : DB X C b h) : DS X C (.If c a b pos) (ifS t f h) := fun hK =>
  PS.imp (ps_if (hc hK) (ha hK) (hb hK)) fun D σ H ⟨w, env, Hb, r, p⟩ => liftS_bind (R := RB) (Q1 := fun b H1 => if b = true then liftS C f D σ H1 else liftS C h D σ H1) r p fun k w1 Hb1 H1 k' g1 r1 q1 p1 => by
    cases q1
    cases k with
    | true => exact iteT ⟨w1, env, Hb1, r1, p1⟩
    | false => exact iteF ⟨w1, env, Hb1, r1, p1⟩
/-- a list of one's own is plain data from here on -/
def thawS (i : Nat) : S := fun w e => match e[i]? with
  | some (.own ds) => .nx (e.set i (.dat (.lst ds))) w
  | _ => .nx e w
theorem db_thaw (i : Nat) {st : List Stmt} {f : S} (h : DB X C st f) : DB X C st (sseq (thawS i) f) := fun hK => PSs.imp (h hK) fun D σ H ⟨w, env, Hb, r, p⟩ => by
  unfold sseq thawS at p
  cases e : env[i]? with
  | none => rw [e] at p; exact ⟨w, env, Hb, r, p⟩
  | some s =>
    cases s with
    | un => rw [e] at p; exact ⟨w, env, Hb, r, p⟩
    | dat d => rw [e] at p; exact ⟨w, env, Hb, r, p⟩
    | own ds =>
      rw [e] at p
      obtain ⟨a, xs, h1, h2, h3, h4, h5, h6⟩ := r.env.own i ds e
      have hl : i < env.length := (List.getElem?_eq_some_iff.mp e).1
      have sb : Same Hb (upd Hb a (.lst xs)) := fun b o e => by rw [upd_ne (ne_of_none e h4)]; exact e
      have fr : Hb a = none ∨ C.H0 a = none := .inl h4
      have g : Gr C.fp C.Hb0 C.H0 (upd Hb a (.lst xs)) H := by
        refine ⟨r.gr.b.trans sb, fun b o q => ?_, r.gr.h, r.gr.d, fun b q => ?_⟩
        · by_cases z : b = a
          · subst z; rw [upd_same] at q; rw [← q]; exact h2
          · rw [upd_ne z] at q; exact r.gr.s b o q
        · by_cases z : b = a
          · subst z; exact .inr h5
          · rw [upd_ne z] at q; exact r.gr.n b q
      refine ⟨w, _, upd Hb a (.lst xs), ⟨g, r.ok, ⟨fun j d q => ?_, fun j fs q => ?_, fun j k fs gs c hjk e1 e2 => ?_, by rw [List.length_set]; exact r.env.len⟩⟩, p.mono sb⟩
      · by_cases z : i = j
        · subst z
          rw [List.getElem?_set_self hl] at q
          cases q
          exact ⟨.ref a, h1, .lst upd_same (h3.mono sb)⟩
        · rw [List.getElem?_set_ne z] at q
          obtain ⟨v, q1, q2⟩ := r.env.dat j d q
          exact ⟨v, q1, q2.mono sb⟩
      · by_cases z : i = j
        · subst z
          rw [List.getElem?_set_self hl] at q
          cases q
        · rw [List.getElem?_set_ne z] at q
          obtain ⟨c, cs, q1, q2, q3, q4, q5, q6⟩ := r.env.own j fs q
          refine ⟨c, cs, q1, q2, q3.mono sb, ?_, q5, q6⟩
          rw [upd_ne fun t => r.env.sep i j ds fs a z e q h1 (by rw [q1, t])]
          exact q4
      · have nj : i ≠ j := fun z => by subst z; rw [List.getElem?_set_self hl] at e1; cases e1
        have nk : i ≠ k := fun z => by subst z; rw [List.getElem?_set_self hl] at e2; cases e2
        rw [List.getElem?_set_ne nj] at e1
        rw [List.getElem?_set_ne nk] at e2
        exact r.env.sep j k _ _ c hjk e1 e2
end
end DL
set_option Elab.async false
set_option linter.all false
set_option autoImplicit false
set_option maxRecDepth 100000
set_option maxHeartbeats 1000000
/-! DL6: lists of one's own changed; targets; loops. -/
namespace DL
open PySem PySem.Spec PyProof.Rows L2

/-! ### xs.append(e), xs.pop(), xs[i] = e, xs[i] op= e -/
def ownAt (i : Nat) (k : List D → S) : S := fun w e => match e[i]? with
  | some (.own ds) => k ds w e
  | _ => .bad
def appS (i : Nat) (f : E D) : S := ownAt i fun ds => sbind f fun d w e => if ds.length < 16777216 then .nx (e.set i (.own (ds ++ [d]))) w else .bad
def popS (i : Nat) : S := ownAt i fun ds w e => match ds.getLast? with
  | some d => .nx (e.set i (.own ds.dropLast)) w
  | none => .bad
def popTo (i j : Nat) : S := ownAt i fun ds w e => match ds.getLast? with
  | some d => .nx ((e.set i (.own ds.dropLast)).set j (.dat d)) w
  | none => .bad
def putAt (ds : List D) (k : D) (d : D) : Option (List D) := match k with
  | .int z => match ixN ds.length z with
    | some j => some (ds.set j d)
    | none => none
  | _ => none
def setIS (i : Nat) (f k : E D) : S := sbind f fun d => ownAt i fun ds => sbind k fun z w e => match putAt ds z d with
  | some es => .nx (e.set i (.own es)) w
  | none => .bad
def augIS (g : D → D → Option D) (i : Nat) (k f : E D) : S := ownAt i fun ds => sbind k fun z w e => match dIx (.lst ds) z with
  | some x => sbind f (fun y w e => match g x y with
    | some r => match putAt ds z r with
      | some es => .nx (e.set i (.own es)) w
      | none => .bad
    | none => .bad) w e
  | none => .bad
section
variable {X : Cx} {C : Ct}
theorem own_get {w : Wo} {env : En} {Hb H : Hp} {σ : L2.St} {i : Nat} {Dn : Ends} {k : List D → S} (r : Rel C w env Hb H σ) (p : PostS C (ownAt i k w env) Hb Dn) :
    ∃ (ds : List D) (a : Addr) (xs : List V), env[i]? = some (Sl.own ds) ∧ σ[i]? = some (some (V.ref a)) ∧ H a = some (.lst xs) ∧ RepL C.κ Hb ds xs ∧ ¬ C.fp a ∧ PostS C (k ds w env) Hb Dn := by
  unfold ownAt at p
  cases e : env[i]? with
  | none => rw [e] at p; exact p.elim
  | some s =>
    cases s with
    | un => rw [e] at p; exact p.elim
    | dat d => rw [e] at p; exact p.elim
    | own ds =>
      rw [e] at p
      obtain ⟨a, xs, h1, h2, h3, h4, h5, h6⟩ := r.env.own i ds e
      exact ⟨ds, a, xs, rfl, h1, h2, h3, h6, p⟩
theorem ds_app (i : Nat) {x : Str} {e : Expr} {f : E D} {np apos cpos pos : Pos} (he : DE X C e f) (hN : X.N[i]? = some x := by rfl) (hv : Vis X.env.scope x := by first | exact Or.inl rfl | exact Or.inr (Or.inl rfl) | exact Or.inr (Or.inr rfl)) (hd : (x == ("__debug__" : Str)) = false := by decide)
    (hcd : (x == ("__classdict__" : Str)) = false := by decide) (hbase : attributeBase (.Name x np) "append" X.env (eval (.Name x np) X.env) = eval (.Name x np) X.env := by rfl)
    (hfew : ((backTo cpos (starEach [e] X.env)).all (fun x => !x.1) && (backToKw cpos (keywordEach [] X.env)).all (fun x => x.1.isSome) && decide ([e].length + ([] : List Keyword).length + (if ([] : List Keyword).isEmpty then 0 else 1) < 30)) = true := by rfl)
    (hline : (apos.endLine == cpos.line) = true := by rfl) (hs : starEach [e] X.env = (false, eval e X.env) :: starEach [] X.env := by rfl) (hplain : (backTo cpos (starEach [] X.env)).any (·.1) = false := by rfl)
    (hsw : swapsWith (.Call (.Attribute (.Name x np) "append" apos) [e] [] cpos) none pos.line X.env = pure false := by rfl) :
    DS X C (.Expr (.Call (.Attribute (.Name x np) "append" apos) [e] [] cpos) pos) (appS i f) := fun hK =>
  PS.imp (ps_expr (pe_bm PySem.F.plainAttrs_list PySem.F.slot_list_append PySem.F.type_list_append mt_append (pe_var (i := i) hN hv hd hcd) (pa_cons (he hK) pa_nil hs) hbase hfew hline hs hplain) hsw) fun Dn σ H ⟨w, env, Hb, r, p⟩ => by
    obtain ⟨ds, a, xs, e1, h1, h2, h3, h6, p1⟩ := own_get r p
    refine ⟨_, h1, .inl ⟨rfl, xs, .of h2⟩, ?_⟩
    refine liftS_bind (R := RD C) r p1 fun d w1 Hb1 H1 v g1 r1 q1 p2 => ?_
    by_cases hz : ds.length < 16777216
    · rw [if_pos hz] at p2
      refine ⟨a, xs, v, rfl, rfl, g1.h a _ h2 h6, by rw [h3.length, sizeLine_eq]; exact hz, ?_⟩
      exact p2 Hb1 _ σ (Same.refl _) (r1.write e1 h1 ((h3.mono g1.b).append (.one q1)))
    · rw [if_neg hz] at p2; exact p2.elim
theorem last_of {κ : Kx} {H : Hp} {ds : List D} {xs : List V} {d : D} (r : RepL κ H ds xs) (e : ds.getLast? = some d) : ∃ y, xs[xs.length - 1]? = some y ∧ Rep κ H d y := by
  rw [List.getLast?_eq_getElem?] at e
  rw [r.length]
  exact r.get e
theorem ds_pop (i : Nat) {x : Str} {np apos cpos pos : Pos} (hN : X.N[i]? = some x := by rfl) (hv : Vis X.env.scope x := by first | exact Or.inl rfl | exact Or.inr (Or.inl rfl) | exact Or.inr (Or.inr rfl)) (hd : (x == ("__debug__" : Str)) = false := by decide)
    (hcd : (x == ("__classdict__" : Str)) = false := by decide) (hbase : attributeBase (.Name x np) "pop" X.env (eval (.Name x np) X.env) = eval (.Name x np) X.env := by rfl)
    (hline : (apos.endLine == cpos.line) = true := by rfl) (hsw : swapsWith (.Call (.Attribute (.Name x np) "pop" apos) [] [] cpos) none pos.line X.env = pure false := by rfl) :
    DS X C (.Expr (.Call (.Attribute (.Name x np) "pop" apos) [] [] cpos) pos) (popS i) := fun hK =>
  PS.imp (ps_expr (pe_bm0 PySem.F.plainAttrs_list PySem.F.slot_list_pop PySem.F.type_list_pop mt_pop (pe_var (i := i) hN hv hd hcd) hbase hline) hsw) fun Dn σ H ⟨w, env, Hb, r, p⟩ => by
    obtain ⟨ds, a, xs, e1, h1, h2, h3, h6, p1⟩ := own_get r p
    refine ⟨_, h1, .inl ⟨rfl, xs, .of h2⟩, ?_⟩
    cases z : ds.getLast? with
    | none => rw [z] at p1; exact p1.elim
    | some d =>
      rw [z] at p1
      obtain ⟨y, hy, ry⟩ := last_of h3 z
      exact ⟨a, xs, y, rfl, rfl, h2, hy, p1 Hb _ σ (Same.refl _) (r.write e1 h1 h3.dropLast)⟩
theorem ds_popTo (i j : Nat) {x y : Str} {np apos cpos pos pos' : Pos} (hNd : X.N.Nodup) (hN : X.N[i]? = some x := by rfl) (hNy : X.N[j]? = some y := by rfl) (hx : Loc X.env.scope y := by first | exact Or.inl rfl | exact Or.inr rfl) (hv : Vis X.env.scope x := by first | exact Or.inl rfl | exact Or.inr (Or.inl rfl) | exact Or.inr (Or.inr rfl))
    (hd : (x == ("__debug__" : Str)) = false := by decide) (hcd : (x == ("__classdict__" : Str)) = false := by decide) (hbase : attributeBase (.Name x np) "pop" X.env (eval (.Name x np) X.env) = eval (.Name x np) X.env := by rfl)
    (hline : (apos.endLine == cpos.line) = true := by rfl) (hs : swapsWith (.Call (.Attribute (.Name x np) "pop" apos) [] [] cpos) (some (.Name y pos')) pos.line X.env = pure false := by rfl) (hf : X.fn y = true ∨ X.env.scope.names.lookup y = some .local := by first | exact .inl rfl | exact .inr rfl | assumption) :
    DS X C (.Assign [.Name y pos'] (.Call (.Attribute (.Name x np) "pop" apos) [] [] cpos) pos) (popTo i j) := fun hK =>
  PS.imp (ps_set (i := j) hNd hNy hx (pe_bm0 PySem.F.plainAttrs_list PySem.F.slot_list_pop PySem.F.type_list_pop mt_pop (pe_var (i := i) hN hv hd hcd) hbase hline) hs hf) fun Dn σ H ⟨w, env, Hb, r, p⟩ => by
    obtain ⟨ds, a, xs, e1, h1, h2, h3, h6, p1⟩ := own_get r p
    refine ⟨_, h1, .inl ⟨rfl, xs, .of h2⟩, ?_⟩
    cases z : ds.getLast? with
    | none => rw [z] at p1; exact p1.elim
    | some d =>
      rw [z] at p1
      obtain ⟨y, hy, ry⟩ := last_of h3 z
      refine ⟨a, xs, y, rfl, rfl, h2, hy, p1 Hb _ _ (Same.refl _) ?_⟩
      exact (r.write e1 h1 h3.dropLast).putD j ry
theorem putAt_some {ds es : List D} {k d : D} (h : putAt ds k d = some es) : ∃ (z : Int) (j : Nat), k = .int z ∧ ixN ds.length z = some j ∧ es = ds.set j d := by
  unfold putAt at h
  cases k with
  | int z =>
    simp only at h
    cases q : ixN ds.length z with
    | none => rw [q] at h; cases h
    | some j => rw [q] at h; cases h; exact ⟨z, j, rfl, q, rfl⟩
  | _ => cases h
theorem ds_setI (i : Nat) {x : Str} {e k : Expr} {f h : E D} {np spos pos : Pos} (he : DE X C e f) (hk : DE X C k h) (hN : X.N[i]? = some x := by rfl) (hv : Vis X.env.scope x := by first | exact Or.inl rfl | exact Or.inr (Or.inl rfl) | exact Or.inr (Or.inr rfl)) (hd : (x == ("__debug__" : Str)) = false := by decide)
    (hcd : (x == ("__classdict__" : Str)) = false := by decide)
    (ha : ∀ v, assign (.Subscript (.Name x np) k spos) X.env v = (do
      let ov ← holding [v] (eval (.Name x np) X.env)
      let iv ← holding [v, ov] (eval k X.env)
      standAt spos
      holding [v, ov, iv] (setItem ov iv v)
      release [v, ov, iv] []) := by intro _; rfl)
    (hs : swapsWithSole [.Subscript (.Name x np) k spos] e pos.line X.env = pure false := by rfl) (hw : swappedStores [.Subscript (.Name x np) k spos] e X.env = pure none := by rfl)
    (h1 : (assignEach [.Subscript (.Name x np) k spos] X.env).map (·.2) = [assign (.Subscript (.Name x np) k spos) X.env] := by rfl) :
    DS X C (.Assign [.Subscript (.Name x np) k spos] e pos) (setIS i f h) := fun hK =>
  PS.imp (ps_asg (he hK) (pg_sub (pe_var (i := i) hN hv hd hcd) (hk hK) set_list ha) hs hw h1) fun Dn σ H ⟨w, env, Hb, r, p⟩ => by
    refine liftS_bind (R := RD C) (Q1 := fun x H1 => gSub (tVar i) (lift C (RD C) h) rSetL x σ H1 Dn.nx) r p fun d w1 Hb1 H1 v g1 r1 q1 p1 => ?_
    obtain ⟨ds, a, xs, e1, h1, h2, h3, h6, p2⟩ := own_get r1 p1
    refine ⟨_, h1, ?_⟩
    refine liftS_bind (R := RD C) r1 p2 fun z w2 Hb2 H2 zv g2 r2 q2 p3 => ?_
    cases pz : putAt ds z d with
    | none => rw [pz] at p3; exact p3.elim
    | some es =>
      rw [pz] at p3
      obtain ⟨zi, j, rfl, hj, rfl⟩ := putAt_some pz
      cases q2
      refine ⟨a, xs, zi, j, rfl, rfl, g2.h a _ h2 h6, by rw [h3.length]; exact hj, ?_⟩
      exact p3 Hb2 _ σ (Same.refl _) (r2.write e1 h1 (RepL.set (q1.mono g2.b) j (h3.mono g2.b)))
/-- a list's item, by values -/
theorem pget_list : PGet X (rIxL X.K) := by
  intro pins s σ H o i ov iv Q I ro ri h
  obtain ⟨p, xs, k, z, rfl, rfl, hq, he, q⟩ := h
  cases ro
  obtain ⟨t, rfl⟩ := ri
  obtain ⟨its, r, pl, hz⟩ := I.list hq
  obtain ⟨j, h1, h2, h3, h4, h5⟩ := atI_get he
  obtain ⟨u, eu, ru⟩ := r.get h2
  have hl := r.length
  have hn := line63
  have fin : EP X pins σ Q u s := ⟨z, H, I, ru, q⟩
  have hsz : its.toArray.size = xs.length := by rw [List.size_toArray]; exact hl.symm
  by_cases h0 : 0 ≤ k
  · have hj : k.toNat = j := by
      rw [seqIndex_of h0 h5] at h1
      exact Option.some.inj h1
    exact wpAny_getItem_list pl.isList h0 (by omega) (by rw [hj]; simpa using eu) fin
  · have hj : (k + (its.toArray.size : Int)).toNat = j := by
      rw [seqIndex_neg (by omega) h4] at h1
      rw [hsz]
      exact Option.some.inj h1
    exact wpAny_getItem_list_neg pl.isList (by omega) (by rw [hsz]; omega) (by omega) (by rw [hj]; simpa using eu) fin
theorem ds_augI (i : Nat) {x : Str} {e k : Expr} {f h : E D} {op : Operator} {r : R2} {g : D → D → Option D} {np spos pos : Pos} (ho : OpR X (inplaceOp op) r) (hd' : OpD C.κ r g) (hk : DE X C k h) (he : DE X C e f) (hN : X.N[i]? = some x := by rfl)
    (hv : Vis X.env.scope x := by first | exact Or.inl rfl | exact Or.inr (Or.inl rfl) | exact Or.inr (Or.inr rfl)) (hd : (x == ("__debug__" : Str)) = false := by decide) (hcd : (x == ("__classdict__" : Str)) = false := by decide)
    (ha : ∀ ov iv new, augStore k ov iv new = (do holding [new, ov, iv] (setItem ov iv new); release [new, ov, iv] []; pure .next) := by intros; rfl) :
    DS X C (.AugAssign (.Subscript (.Name x np) k spos) op e pos) (augIS g i h f) := fun hK =>
  PS.imp (ps_augS (pe_var (i := i) hN hv hd hcd) (hk hK) pget_list (he hK) (tip := r) (fun pins s σ H x y v u Q I rx ry q => ho pins s σ H x y v u Q I rx ry q) set_list ha) fun Dn σ H ⟨w, env, Hb, rl, p⟩ => by
    obtain ⟨ds, a, xs, e1, h1, h2, h3, h6, p1⟩ := own_get rl p
    refine ⟨_, h1, ?_⟩
    refine liftS_bind (R := RD C) rl p1 fun z w1 Hb1 H1 zv g1 r1 q1 p2 => ?_
    cases pz : dIx (.lst ds) z with
    | none => rw [pz] at p2; exact p2.elim
    | some dx =>
      rw [pz] at p2
      cases z <;> first | cases pz | skip
      rename_i zi
      cases q1
      have pz' : atI ds zi = some dx := pz
      obtain ⟨xv, hx, rx⟩ := atI_rep h3 pz'
      refine ⟨a, xs, zi, xv, rfl, rfl, .of (g1.h a _ h2 h6), hx, ?_⟩
      refine liftS_bind (R := RD C) r1 p2 fun y w2 Hb2 H2 yv g2 r2 q2 p3 => ?_
      cases eg : g dx y with
      | none => rw [eg] at p3; exact p3.elim
      | some dr =>
        rw [eg] at p3
        dsimp only at p3
        refine hd' Hb2 H2 dx y dr xv yv _ r2.same ((rx.mono g1.b).mono g2.b) q2 eg fun Hb3 H3 zr g3 rz => ?_
        have r3 := r2.grow g3
        cases pw : putAt ds (.int zi) dr with
        | none => rw [pw] at p3; exact p3.elim
        | some es =>
          rw [pw] at p3
          obtain ⟨zi', j, ez, hj, rfl⟩ := putAt_some pw
          cases ez
          refine ⟨a, xs, zi, j, rfl, rfl, g3.h a _ (g2.h a _ (g1.h a _ h2 h6) h6) (fun z => z), by rw [h3.length]; exact hj, ?_⟩
          exact p3 Hb3 _ σ g3.b (r3.write e1 h1 (RepL.set rz j (((h3.mono g1.b).mono g2.b).mono g3.b)))
/-- x op= e -/
def augS (g : D → D → Option D) (i : Nat) (f : E D) : S := fun w e => match e[i]? with
  | some (.dat x) => sbind f (fun y w e => match g x y with
    | some r => .nx (e.set i (.dat r)) w
    | none => .bad) w e
  | _ => .bad
theorem ds_aug (i : Nat) {x : Str} {e : Expr} {f : E D} {op : Operator} {r : R2} {g : D → D → Option D} {pos' pos : Pos} (ho : OpR X (inplaceOp op) r) (hd' : OpD C.κ r g) (he : DE X C e f) (hNd : X.N.Nodup) (hi : X.N[i]? = some x := by rfl) (hx : Loc X.env.scope x := by first | exact Or.inl rfl | exact Or.inr rfl)
    (hf : X.fn x = true ∨ X.env.scope.names.lookup x = some .local := by first | exact .inl rfl | exact .inr rfl | assumption) : DS X C (.AugAssign (.Name x pos') op e pos) (augS g i f) := fun hK =>
  PS.imp (ps_aug (i := i) hNd hi hx (he hK) (ti := r) (fun pins s σ H x y v u Q I rx ry q => ho pins s σ H x y v u Q I rx ry q) hf) fun Dn σ H ⟨w, env, Hb, rl, p⟩ => by
    unfold augS at p
    cases z : env[i]? with
    | none => rw [z] at p; exact p.elim
    | some s =>
      rw [z] at p
      cases s with
      | un => exact p.elim
      | own ds => exact p.elim
      | dat dx =>
        obtain ⟨xv, h1, h2⟩ := rl.env.dat i dx z
        refine ⟨xv, h1, ?_⟩
        refine liftS_bind (R := RD C) rl p fun y w2 Hb2 H2 yv g2 r2 q2 p3 => ?_
        cases eg : g dx y with
        | none => rw [eg] at p3; exact p3.elim
        | some dr =>
          rw [eg] at p3
          refine hd' Hb2 H2 dx y dr xv yv _ r2.same (h2.mono g2.b) q2 eg fun Hb3 H3 zr g3 rz => ?_
          exact p3 Hb3 H3 _ g3.b ((r2.grow g3).putD i rz)
end
end DL
set_option Elab.async false
set_option linter.all false
set_option autoImplicit false
set_option maxRecDepth 100000
set_option maxHeartbeats 2000000
/-! DLE: enumerate over a tuple. -/
namespace PySem
namespace DLE
open Sem (wp)
open AutoSeq1 (wpAny_loadPart')
theorem draws_tup {prog : Program} {w : World} {A : Around} (hh : A.handled = none) (it l : Addr) (hne : l ≠ it) (items : Array Value) :
    Draws prog w A it [it, l] items.size (fun i v => items[i]? = some v) (fun i h => h.IsTupleIter it l i ∧ h.IsTuple l items) where
  live := fun _ _ st => ⟨_, st.1.choose_spec.1⟩
  frame := fun _ _ _ st hk => ⟨st.1.at fun o e => hk it (by simp) o e, by
    obtain ⟨o, ho, r⟩ := st.2
    exact ⟨o, hk l (by simp) o ho, r⟩⟩
  item := fun i s Q E hi st hQ => by
    refine RZ.nextOf_tuple_item st.1 st.2 (x := items[i]) (by simp [hi]) fun h' hit' hs' => ?_
    exact hQ _ h' s.toks (by simp [hi]) ⟨hit', st.2.extBut hs'.extBut hne⟩ hs'
  done := fun s Q E st hE => RZ.nextOf_tuple_end hh st.1 st.2 (by simp) hE
theorem enum_newT (l : Addr) (ob : Obj) (items : Array Value) (n : Nat) (hc : ob.cls = .type "tuple") (hd : ob.data = .seq items n) :
    Meets (Builtin.«enumerate.__new__» ⟨[.type "enumerate", .ref l], []⟩) (fun _ R s => s.heap.get? l = some ob ∧
      R (.ok (.ret (.ref (s.heap.push { cls := .type "tuple_iterator", data := .fields #[.ref l, .int 0 0] }).objs.size)))
        { s with heap := (s.heap.push { cls := .type "tuple_iterator", data := .fields #[.ref l, .int 0 0] }).push { cls := .type "enumerate", data := .fields #[.none, .bool false, .ref s.heap.objs.size, rawInt 0, .none, .none] } }) :=
  .of_wp fun prog w A R st hyp => by
    obtain ⟨hp, g, d, tk, os⟩ := st
    obtain ⟨hl, hr⟩ := hyp
    have hsubE := sub_enumerate
    have hT : Heap.IsTuple (Shared.heap ⟨hp, g, d, tk, os⟩) l items := ⟨_, hl, hc, n, hd⟩
    obtain ⟨oc, od, odt, osl⟩ := ob
    have hc' : oc = .type "tuple" := hc
    have hd' : odt = .seq items n := hd
    subst hc' hd'
    wp_walk using wpAny_loadPart' hl
    refine wpAny_stack_any fun z => wpAny_pure ?_
    split
    · rename_i c _ _ _ _ _
      cases (c == Value.type "enumerate")
      · wp_walk using wpAny_loadPart' hl, wpAny_pyIter_tuple hT
        exact ⟨_, rfl, hr⟩
      · wp_walk using wpAny_loadPart' hl, wpAny_pyIter_tuple hT
        exact ⟨_, rfl, hr⟩
    · wp_walk using wpAny_loadPart' hl, wpAny_pyIter_tuple hT
      exact ⟨_, rfl, hr⟩
section
variable {prog : Program} {w : World} {A : Around} {E : Value → Shared → Prop} {s : Shared}
theorem call_enumT {l : Addr} {items : Array Value} {Q : Value → Shared → Prop} (hT : s.heap.IsTuple l items)
    (h : ∀ h', IsEnum h' (s.heap.objs.size + 1) s.heap.objs.size 0 .none → h'.IsTupleIter s.heap.objs.size l 0 → (∀ b o, s.heap.get? b = some o → h'.get? b = some o) → Q (.ref (s.heap.objs.size + 1)) { s with heap := h' }) :
    wpAny (model prog w) A (call (.type "enumerate") [.ref l]) Q E s := by
  obtain ⟨ob, hl, hc, n, hd⟩ := hT
  refine callType_new F.called_enumerate (by decide) (F.typeCall_enumerate_1 _) (F.newCall_enumerate_1 _) (fun obj => F.args_object_init_2 obj _) F.entry_enumerate_new (enum_newT l ob items n hc hd) ⟨hl, ?_⟩
  have hz : (s.heap.push { cls := .type "tuple_iterator", data := .fields #[.ref l, .int 0 0] }).objs.size = s.heap.objs.size + 1 := Heap.size_push ..
  show _ ∧ _
  rw [hz]
  have he : IsEnum ((s.heap.push { cls := .type "tuple_iterator", data := .fields #[.ref l, .int 0 0] }).push
      { cls := .type "enumerate", data := .fields #[.none, .bool false, .ref s.heap.objs.size, rawInt 0, .none, .none] }) (s.heap.objs.size + 1) s.heap.objs.size 0 .none := by
    have := Heap.get?_push_size (s.heap.push { cls := .type "tuple_iterator", data := .fields #[.ref l, .int 0 0] })
      (o := { cls := .type "enumerate", data := .fields #[.none, .bool false, .ref s.heap.objs.size, rawInt 0, .none, .none] }) rfl
    rw [hz] at this
    exact this
  exact ⟨⟨_, he, rfl⟩, h _ he ⟨_, Heap.get?_push_of_some _ (Heap.get?_push_size _ rfl), rfl, rfl⟩ fun b o x => Heap.get?_push_of_some _ (Heap.get?_push_of_some _ x)⟩
theorem enum_endT {e it l : Addr} {i : Nat} {items : Array Value} {old : Value} {Q : Option Value → Shared → Prop} (hh : A.handled = none) (he : IsEnum s.heap e it i old) (hit : s.heap.IsTupleIter it l i) (hl : s.heap.IsTuple l items) (hx : items[i]? = none)
    (hQ : ∀ h', Heap.ExtBut it s.heap h' → Q none { s with heap := h' }) : wpAny (model prog w) A (pyNext (.ref e)) Q E s := by
  have tyE : s.TypeIs (.ref e) "enumerate" := ⟨_, he, rfl⟩
  have tail : wpAny (model prog w) A.in1 (Builtin.SmallTypes.nextOf (.ref it)) (fun _ _ => False) (fun x s' => (∃ o, s'.heap.get? (match x with | .ref a => a | _ => 0) = some o ∧ o.cls = .type "StopIteration") ∧ (∃ a, x = .ref a) ∧ ∃ h', Heap.ExtBut it s.heap h' ∧ s' = { s with heap := h' }) s :=
    RZ.nextOf_tuple_end hh hit hl hx fun h' x k1 k2 => ⟨k2, ⟨x, rfl⟩, h', k1, rfl⟩
  unfold pyNext
  refine wpAny_bind (wpAny_attempt (wpAny_callSpecial?_slot (name := Str.ofString "__next__") tyE F.slot_enumerate_next (wpAny_call_entry F.slot_enumerate_next tyE F.entry_enumerate_next ?_ (F.args_enumerate_next_1 _))))
  show wpAny _ _ (field (.ref e) 2 >>= _) _ _ _
  refine wpAny_bind (wpAny_field he rfl (x := .ref it) rfl (wpAny_bind (wpAny_mono tail (fun _ _ z => z.elim) fun x s' z => ?_)))
  obtain ⟨⟨o, ho, hc⟩, ⟨a, ea⟩, h', k1, es⟩ := z
  subst ea es
  exact wpAny_bind (wpAny_isInstance (T := "StopIteration") (b := true) ⟨o, ho, hc⟩ isSubtype_stop (wpAny_pure (hQ _ k1)))
end
end DLE
end PySem
namespace DL
open PySem PySem.Spec PyProof.Rows L2
/-- the tuple at a, each item in a new pair -/
def IteT (K : PySem.W.Frag) (a : Addr) : It :=
  ⟨fun i H => ∃ (xs : List V) (x : V), SqT K H a xs ∧ xs[i]? = some x, fun i H v H' => ∃ T x, v = .ref T ∧ H T = none ∧ H' = upd H T (.tup [.int (i : Nat), x]) ∧ ∀ xs, SqT K H a xs → xs[i]? = some x, fun i H => ∃ xs : List V, SqT K H a xs ∧ xs.length ≤ i⟩
theorem turn_enumT {P : Program} {w : World} {K : PySem.W.Frag} {elts : List Expr} {kk : Nat} {tpos : Pos} (a e it : Addr) (hat : a ≠ it) (hae : a ≠ e) :
    Turn P w K (.Tuple elts kk tpos) (IteT K a) [e, it] e (fun i h => (∃ old, IsEnum h e it ((i : Nat) : Int) old) ∧ h.IsTupleIter it a i ∧ e ≠ it) where
  mem := by simp
  obj := fun i h st b hb => by
    obtain ⟨⟨old, he⟩, ⟨o, ho, hc, hd⟩, _⟩ := st
    have e' : b = e ∨ b = it := by simpa using hb
    rcases e' with z | z
    · rw [z]; exact ⟨_, he, fun v q => nomatch q⟩
    · rw [z]; exact ⟨o, ho, fun v q => by rw [hd] at q; cases q⟩
  keep := fun i h h' st k => let ⟨⟨old, he⟩, hi, hne⟩ := st; ⟨⟨old, k e (by simp) _ he⟩, hi.at fun o q => k it (by simp) o q, hne⟩
  item := by
    intro X hP hw hK hc i pins s σ H E I hf st hg
    subst hP hw hK
    obtain ⟨⟨old, he⟩, hit, hne⟩ := st
    obtain ⟨xs, x, hq, hx⟩ := hg
    obtain ⟨its, rv, p, hz⟩ := I.tuple hq
    obtain ⟨u, hu, ru⟩ := rv.get hx
    have hel : e < s.heap.objs.size := Heap.lt_size he
    have hil : it < s.heap.objs.size := by obtain ⟨_, q, _⟩ := hit; exact Heap.lt_size q
    have hilt : i < its.toArray.size := by
      rw [List.size_toArray]
      exact (List.getElem?_eq_some_iff.mp hu).1
    have Dw := PySem.DLE.draws_tup (prog := X.prog) (w := X.w) (A := X.A.in1) (I.ok.hd hc) it a hat its.toArray
    have hef : e ∉ [it, a] := by
      intro z
      rcases List.mem_cons.mp z with q | q
      · exact hne q
      · exact hae (List.mem_singleton.mp q).symm
    refine wpAny_pyNext_enum_itemD Dw he ⟨hit, p⟩ hilt hne hef fun x' h' tk hP ho hst' hT hsz hk => ?_
    have ex : x' = u := by
      have q : its[i]? = some x' := by simpa using hP
      rw [hu] at q
      exact (Option.some.inj q).symm
    subst ex
    obtain ⟨hit', p'⟩ := hst'
    refine ⟨_, rfl, wpAny_letOwnedTupleGo_enum (s := { s with heap := h', toks := tk + 1 }) ho fun h'' he' sb => ?_⟩
    have hT2 : h''.get? s.heap.objs.size = some { cls := .type "tuple", data := .seq #[.int i tk, x'] } := (sb.2 _ (Nat.ne_of_gt hel)).trans hT
    have new : ObjOk X.prog X.w (upd H s.heap.objs.size (.tup [.int (i : Nat), x])) h'' s.heap.objs.size (.tup [.int (i : Nat), x]) :=
      ⟨by show 2 ≤ sizeLine; decide, [.int i tk, x'], .cons ⟨_, rfl⟩ (.cons ru .nil), ⟨_, hT2, rfl, _, rfl⟩⟩
    have I1 : Inv X pins σ (upd H s.heap.objs.size (.tup [.int (i : Nat), x])) { s with heap := h'', toks := tk + 1 } :=
      I.turnedNew (ch := [e, it]) (fun b ob hb q => (sb.2 b (fun z => hb (by simp [z]))).trans (hk b ob (fun z => hb (by simp [z])) (fun z => hb (by simp [z])) q)) hf (Nat.le_refl _) new
    refine ⟨.ref s.heap.objs.size, _, I1, rfl, ⟨_, x, rfl, I.hok.fresh (Nat.le_refl _), rfl, fun ys hy => by rw [I.tuple_inj hy hq]; exact hx⟩, ⟨⟨x', ?_⟩, hit'.at fun o q => (sb.2 it (Ne.symm hne)).trans q, hne⟩, fun b hb => ?_⟩
    · have e1 : ((i + 1 : Nat) : Int) = (i : Int) + 1 := by omega
      rw [e1]; exact he'
    · have hb' : b < s.heap.objs.size := by
        have e' : b = e ∨ b = it := by simpa using hb
        rcases e' with z | z
        · rw [z]; exact hel
        · rw [z]; exact hil
      rw [upd_ne (Nat.ne_of_lt hb')]
      exact (hf b hb).1
  done := by
    intro X hP hw hK hc i pins s σ H E I hf st hg
    subst hP hw hK
    obtain ⟨⟨old, he⟩, hit, hne⟩ := st
    obtain ⟨xs, hq, hx⟩ := hg
    obtain ⟨its, rv, p, hz⟩ := I.tuple hq
    obtain ⟨f0, f1, f2, f3, f4, f5⟩ := hf it (by simp)
    have hl := rv.length
    exact PySem.DLE.enum_endT (I.ok.hd hc) he hit p (by simp; omega) fun h' eb => ⟨rfl, I.turned (t' := s.toks) (fun b o hb q => eb b o hb q) f0 f1 f3 f4 f5⟩
  self := fun A i s Q E st h => let ⟨⟨_, he⟩, _⟩ := st; wpAny_pyIter_enum he h
def iEnumA (K : PySem.W.Frag) (ta : TA) : TI := fun σ H R => ta σ H fun vs H1 => ∃ a xs, vs = [.ref a] ∧ ((SqL K H1 a xs ∧ R (Ite K a) H1) ∨ (SqT K H1 a xs ∧ R (IteT K a) H1))
theorem pi_enumA {X : Cx} {e : Expr} {ta : TA} {p pos tpos : Pos} {elts : List Expr} {kk : Nat} (hg : Gl X "enumerate") (hm : X.mg "enumerate" = none) (ha : PA X [e] ta) (hs : starEach [e] X.env = [(false, eval e X.env)] := by rfl) :
    PI X (.Tuple elts kk tpos) (.Call (.Name "enumerate" p) [e] [] pos) (iEnumA X.K ta) := by
  refine ⟨fun pins s σ H R I h => ?_⟩
  refine Call_ (ld_blt I hg hm boot_enumerate (PyProof.Rows.callWith_type1 (thn (ha.run pos pins s σ H _ I h) fun us s1 ⟨vs, H1, I1, r1, q1⟩ => ?_) hs rfl))
  obtain ⟨a, xs, ex, q1⟩ := q1
  subst ex
  cases r1 with
  | cons r rr =>
    cases rr
    cases r
    have fr : ∀ b ∈ [s1.heap.objs.size + 1, s1.heap.objs.size], FpOk X pins H1 b := fun b hb => by
      have hle : s1.heap.objs.size ≤ b := by
        rcases (show b = s1.heap.objs.size + 1 ∨ b = s1.heap.objs.size by simpa using hb) with z | z <;> omega
      exact I1.fpOk hle (I1.hok.fresh hle)
    rcases q1 with ⟨hq, q⟩ | ⟨hq, q⟩
    · obtain ⟨its, rv, p', hz⟩ := I1.list hq
      refine call_enumerate_list p'.isList fun h' he hit hsz hk => wpAny_pyIter_enum he ?_
      exact ⟨s1.heap.objs.size + 1, [s1.heap.objs.size + 1, s1.heap.objs.size], _, _, H1, rfl, I1.kept (t' := s1.toks) hk, turn_enum a (s1.heap.objs.size + 1) s1.heap.objs.size, ⟨⟨.none, he⟩, hit, Nat.succ_ne_self _⟩, fr, q⟩
    · obtain ⟨its, rv, p', hz⟩ := I1.tuple hq
      have hlt : a < s1.heap.objs.size := by obtain ⟨o, e1, _⟩ := p'; exact Heap.lt_size e1
      refine PySem.DLE.call_enumT (show s1.heap.IsTuple a its.toArray from p') fun h' he hit hk => wpAny_pyIter_enum he ?_
      exact ⟨s1.heap.objs.size + 1, [s1.heap.objs.size + 1, s1.heap.objs.size], _, _, H1, rfl, I1.kept (t' := s1.toks) hk, turn_enumT a (s1.heap.objs.size + 1) s1.heap.objs.size (Nat.ne_of_lt hlt) (Nat.ne_of_lt (Nat.lt_succ_of_lt hlt)), ⟨⟨.none, he⟩, hit, Nat.succ_ne_self _⟩, fr, q⟩
end DL
set_option Elab.async false
set_option linter.all false
set_option autoImplicit false
set_option maxRecDepth 100000
set_option maxHeartbeats 1000000
/-! DL7: targets, what is walked, loops, comprehensions. -/
namespace DL
open PySem PySem.Spec PyProof.Rows L2

/-! ### targets -/
abbrev Tg := D → En → Option En
/-- σ' is σ but for the slots at ls -/
def OnlyAt (ls : List Nat) (σ σ' : L2.St) : Prop := σ'.length = σ.length ∧ ∀ j, j ∉ ls → σ'[j]? = σ[j]?
theorem OnlyAt.refl (ls : List Nat) (σ : L2.St) : OnlyAt ls σ σ := ⟨rfl, fun _ _ => rfl⟩
theorem OnlyAt.trans {ls ms : List Nat} {σ σ1 σ2 : L2.St} (a : OnlyAt ls σ σ1) (b : OnlyAt ms σ1 σ2) : OnlyAt (ls ++ ms) σ σ2 :=
  ⟨b.1.trans a.1, fun j h => (b.2 j fun z => h (List.mem_append_right _ z)).trans (a.2 j fun z => h (List.mem_append_left _ z))⟩
def liftG (C : Ct) (ls : List Nat) (g : Tg) : TG := fun v σ H Q => ∃ w env Hb d env', Rel C w env Hb H σ ∧ Rep C.κ Hb d v ∧ g d env = some env' ∧ ∀ σ', Rel C w env' Hb H σ' → OnlyAt ls σ σ' → Q σ' H
def liftGs (C : Ct) (ls : List Nat) (g : List D → En → Option En) : TGs := fun vs σ H Q => ∃ w env Hb ds env', Rel C w env Hb H σ ∧ RepL C.κ Hb ds vs ∧ g ds env = some env' ∧ ∀ σ', Rel C w env' Hb H σ' → OnlyAt ls σ σ' → Q σ' H
def DG (X : Cx) (C : Ct) (tg : Expr) (ls : List Nat) (g : Tg) : Prop := X.K = C.κ.K → PG X tg (liftG C ls g)
def DGs (X : Cx) (C : Ct) (tgs : List Expr) (ls : List Nat) (g : List D → En → Option En) : Prop := X.K = C.κ.K → PGs X tgs (liftGs C ls g)
def tgN (i : Nat) : Tg := fun d e => some (e.set i (.dat d))
def tgNil : List D → En → Option En := fun ds e => match ds with
  | [] => some e
  | _ => none
def tgCons (g : Tg) (gs : List D → En → Option En) : List D → En → Option En := fun ds e => match ds with
  | d :: r => match g d e with
    | some e1 => gs r e1
    | none => none
  | [] => none
def tgT (n : Nat) (gs : List D → En → Option En) : Tg := fun d e => match d with
  | .tup ds => if ds.length = n then gs ds e else none
  | _ => none
section
variable {X : Cx} {C : Ct}
theorem PG.imp {e : Expr} {t t' : TG} (h : PG X e t) (k : ∀ v σ H Q, t' v σ H Q → t v σ H Q) : PG X e t' := ⟨fun pins s σ H v u Q I r q => h.run pins s σ H v u Q I r (k v σ H Q q)⟩
theorem PGs.imp {es : List Expr} {t t' : TGs} (h : PGs X es t) (k : ∀ v σ H Q, t' v σ H Q → t v σ H Q) : PGs X es t' := ⟨fun pins s σ H v u Q I r q => h.run pins s σ H v u Q I r (k v σ H Q q)⟩
theorem dg_name (i : Nat) {x : Str} {pos : Pos} (hN : X.N.Nodup) (hi : X.N[i]? = some x := by rfl) (hx : Loc X.env.scope x := by first | exact Or.inl rfl | exact Or.inr rfl)
    (hf : X.fn x = true ∨ X.env.scope.names.lookup x = some .local := by first | exact .inl rfl | exact .inr rfl | assumption) : DG X C (.Name x pos) [i] (tgN i) := fun _ =>
  PG.imp (pg_name (i := i) hN hi hx hf) fun v σ H Q ⟨w, env, Hb, d, env', r, rd, e, q⟩ => by
    cases e
    refine q _ (r.putD i rd) ⟨List.length_set, fun j hj => ?_⟩
    rw [List.getElem?_set_ne fun z => hj (by rw [z]; exact List.mem_singleton_self _)]
theorem dgs_nil : DGs X C [] [] tgNil := fun _ => PGs.imp pgs_nil fun vs σ H Q ⟨w, env, Hb, ds, env', r, rd, e, q⟩ => by
  cases ds with
  | nil => cases e; cases rd; exact ⟨rfl, q _ r (OnlyAt.refl _ _)⟩
  | cons _ _ => cases e
theorem dgs_cons {e : Expr} {es : List Expr} {l1 l2 : List Nat} {g : Tg} {gs : List D → En → Option En} (h1 : DG X C e l1 g) (h2 : DGs X C es l2 gs) (hs : (assignEach (e :: es) X.env).map (·.2) = assign e X.env :: (assignEach es X.env).map (·.2) := by rfl) :
    DGs X C (e :: es) (l1 ++ l2) (tgCons g gs) := fun hK => PGs.imp (pgs_cons (h1 hK) (h2 hK) hs) fun vs σ H Q ⟨w, env, Hb, ds, env', r, rd, e, q⟩ => by
  cases rd with
  | nil => cases e
  | @cons d0 ds' x xs rd rs =>
    unfold tgCons at e
    dsimp only at e
    cases z : g d0 env with
    | none => rw [z] at e; cases e
    | some e1 =>
      rw [z] at e
      refine ⟨x, xs, rfl, w, env, Hb, d0, e1, r, rd, z, fun σ1 r1 o1 => ⟨w, e1, Hb, ds', env', r1, rs, e, fun σ2 r2 o2 => q σ2 r2 (o1.trans o2)⟩⟩
theorem dg_tup {es : List Expr} {k : Nat} {pos : Pos} {n : Nat} {ls : List Nat} {gs : List D → En → Option En} (h : DGs X C es ls gs) (hc : X.calm = true := by rfl) (hn : (assignEach es X.env).length = n := by rfl) (hst : (assignEach es X.env).findIdx? (·.1) = none := by rfl) :
    DG X C (.Tuple es k pos) ls (tgT n gs) := fun hK => PG.imp (pg_tup hc (h hK) hn hst) fun v σ H Q ⟨w, env, Hb, d, env', r, rd, e, q⟩ => by
  unfold tgT at e
  cases d <;> first | cases e | skip
  rename_i ds
  dsimp only at e
  by_cases z : ds.length = n
  · rw [if_pos z] at e
    cases rd with
    | tup h1 h2 =>
      exact ⟨_, _, rfl, hK ▸ Same.sqT r.same h1, by rw [h2.length]; exact z, w, env, Hb, ds, env', r, h2, e, q⟩
  · rw [if_neg z] at e; cases e
end

/-! ### what is walked -/
/-- at each turn the iterator J yields the next of ds, as long as the plain data stands -/
def Walk (κ : Kx) (J : It) (ds : List D) (Hb1 : Hp) : Prop := ∀ i Hb H, Same Hb1 Hb → Same Hb H →
  (∀ d, ds[i]? = some d → J.go i H ∧ ∀ x H', J.yld i H x H' → ∃ Hb', Gr (fun _ => False) Hb H Hb' H' ∧ Rep κ Hb' d x) ∧ (ds.length ≤ i → J.stop i H)
def PostI (C : Ct) (r : ER (List D)) (env : En) (Hb H : Hp) (σ : L2.St) (R : It → Hp → Prop) : Prop := match r with
  | .ok ds w' => ∀ Hb' H' J, Gr C.fp Hb H Hb' H' → Rel C w' env Hb' H' σ → Walk C.κ J ds Hb' → R J H'
  | .exc x w' => ∀ Hb' H' c dd, Gr C.fp Hb H Hb' H' → Rel C w' env Hb' H' σ → XRep C.κ C.cl Hb' x c dd → C.Wx c dd σ H'
  | .bad => False
theorem PostI.mono {C : Ct} {r : ER (List D)} {env : En} {Hb H Hb1 H1 : Hp} {σ : L2.St} {R : It → Hp → Prop} (p : PostI C r env Hb H σ R) (g : Gr C.fp Hb H Hb1 H1) : PostI C r env Hb1 H1 σ R := by
  cases r with
  | ok d w' => exact fun Hb' H' J g' => p Hb' H' J (g.trans g')
  | exc x w' => exact fun Hb' H' c dd g' => p Hb' H' c dd (g.trans g')
  | bad => exact p
def liftI (C : Ct) (f : E (List D)) : TI := fun σ H R => ∃ w env Hb, Rel C w env Hb H σ ∧ PostI C (f w env) env Hb H σ R
def DI (X : Cx) (C : Ct) (tg iter : Expr) (f : E (List D)) : Prop := X.K = C.κ.K → PI X tg iter (liftI C f)
theorem PI.imp {X : Cx} {tg e : Expr} {t t' : TI} (h : PI X tg e t) (k : ∀ σ H Q, t' σ H Q → t σ H Q) : PI X tg e t' := ⟨fun pins s σ H Q I q => h.run pins s σ H Q I (k σ H Q q)⟩
theorem PI.or {X : Cx} {tg e : Expr} {t t' : TI} (h : PI X tg e t) (h' : PI X tg e t') : PI X tg e (fun σ H Q => t σ H Q ∨ t' σ H Q) := ⟨fun pins s σ H Q I q => q.elim (h.run pins s σ H Q I) (h'.run pins s σ H Q I)⟩
section
variable {X : Cx} {C : Ct}
theorem liftI_bind {α β : Type} {R : Hp → Hp → α → β → Prop} {f : E α} {k : α → E (List D)} {w : Wo} {env : En} {Hb H : Hp} {σ : L2.St} {Q : It → Hp → Prop} {Q1 : β → Hp → Prop}
    (r : Rel C w env Hb H σ) (p : PostI C (ebind f k w env) env Hb H σ Q)
    (h : ∀ d w1 Hb1 H1 v, Gr C.fp Hb H Hb1 H1 → Rel C w1 env Hb1 H1 σ → R Hb1 H1 d v → PostI C (k d w1 env) env Hb1 H1 σ Q → Q1 v H1) : lift C R f σ H Q1 := by
  refine ⟨w, env, Hb, r, ?_⟩
  unfold ebind at p
  cases e : f w env with
  | ok d w1 =>
    rw [e] at p
    exact fun Hb' H' v g k1 r1 => h d w1 Hb' H' v g k1 r1 (p.mono g)
  | exc x w1 => rw [e] at p; exact p
  | bad => rw [e] at p; exact p.elim
theorem walk_list {κ : Kx} {a : Addr} {xs : List V} {ds : List D} {Hb : Hp} (h : Hb a = some (.lst xs)) (r : RepL κ Hb ds xs) : Walk κ (Itl κ.K a) ds Hb := by
  intro i Hb1 H s1 s2
  have hq : SqL κ.K H a xs := .of (s2 _ _ (s1 _ _ h))
  refine ⟨fun d hd => ?_, fun hi => ⟨xs, hq, by rw [r.length]; exact hi⟩⟩
  obtain ⟨x, hx, rx⟩ := r.get hd
  refine ⟨⟨xs, x, hq, hx⟩, fun y H' hy => ?_⟩
  obtain ⟨rfl, hy⟩ := hy
  have := hy xs hq
  rw [hx] at this
  cases this
  exact ⟨Hb1, Gr.id s2, rx.mono s1⟩
theorem walk_tup {κ : Kx} {a : Addr} {xs : List V} {ds : List D} {Hb : Hp} (h : SqT κ.K Hb a xs) (r : RepL κ Hb ds xs) : Walk κ (Itt κ.K a) ds Hb := by
  intro i Hb1 H s1 s2
  have hq : SqT κ.K H a xs := Same.sqT s2 (Same.sqT s1 h)
  refine ⟨fun d hd => ?_, fun hi => ⟨xs, hq, by rw [r.length]; exact hi⟩⟩
  obtain ⟨x, hx, rx⟩ := r.get hd
  refine ⟨⟨xs, x, hq, hx⟩, fun y H' hy => ?_⟩
  obtain ⟨rfl, hy⟩ := hy
  have := hy xs hq
  rw [hx] at this
  cases this
  exact ⟨Hb1, Gr.id s2, rx.mono s1⟩
def iSeq (K : PySem.W.Frag) (tl : TE) : TI := fun σ H R => tl σ H fun x H1 => ∃ a, x = .ref a ∧ ((∃ xs, SqL K H1 a xs ∧ R (Itl K a) H1) ∨ ∃ xs, SqT K H1 a xs ∧ R (Itt K a) H1)
theorem pi_seq {tg l : Expr} {tl : TE} (hl : PE X l tl) : PI X tg l (iSeq X.K tl) := by
  refine ⟨fun pins s σ H R I h => thn (hl.run pins s σ H _ I h) fun v s1 ⟨x, H1, I1, r1, q1⟩ => ?_⟩
  obtain ⟨a, rfl, q⟩ := q1
  cases r1
  rcases q with ⟨xs, hq, q⟩ | ⟨xs, hq, q⟩
  · obtain ⟨its, rv, p, hz⟩ := I1.list hq
    exact wpAny_pyIter_list p.isList (pi_one (tk := s1.toks) I1 _ (turn_list a _) ⟨_, Heap.get?_push_size _ rfl, rfl, rfl⟩ q)
  · obtain ⟨its, rv, p, hz⟩ := I1.tuple hq
    exact wpAny_pyIter_tuple (show s1.heap.IsTuple a its.toArray from p) (pi_one (tk := s1.toks) I1 _ (turn_tuple a _) ⟨_, Heap.get?_push_size _ rfl, rfl, rfl⟩ q)
def eSeq (f : E D) : E (List D) := ebind f fun d => eopt (seqOf d)
theorem di_seq {tg e : Expr} {f : E D} (h : DE X C e f) : DI X C tg e (eSeq f) := fun hK => PI.imp (pi_seq (h hK)) fun σ H Q ⟨w, env, Hb, r, p⟩ =>
  liftI_bind (R := RD C) r p fun d w1 Hb1 H1 v g1 r1 q1 p1 => by
    cases d <;> first | exact p1.elim | skip
    · cases q1 with
      | tup h1 h2 => exact ⟨_, rfl, .inr ⟨_, hK ▸ Same.sqT r1.same h1, hK ▸ p1 Hb1 H1 _ (Gr.refl r1.same) r1 (walk_tup h1 h2)⟩⟩
    · cases q1 with
      | lst h1 h2 => exact ⟨_, rfl, .inl ⟨_, .of (r1.same _ _ h1), hK ▸ p1 Hb1 H1 _ (Gr.refl r1.same) r1 (walk_list h1 h2)⟩⟩
/-- a range's ints -/
def rangeD (lo c : Int) : Nat → List D
  | 0 => []
  | n + 1 => .int lo :: rangeD (lo + c) c n
theorem rangeD_get (c : Int) : ∀ (n i : Nat) (lo : Int), (rangeD lo c n)[i]? = if i < n then some (D.int (lo + i * c)) else none
  | 0, i, lo => by simp [rangeD]
  | n + 1, 0, lo => by simp [rangeD]
  | n + 1, i + 1, lo => by
    have ih := rangeD_get c n i (lo + c)
    simp only [rangeD, List.getElem?_cons_succ, ih, Nat.add_lt_add_iff_right]
    split
    · congr 2
      rw [Int.natCast_add, Int.add_mul, Int.add_assoc]
      congr 1
      rw [Int.add_comm]
      simp
    · rfl
theorem rangeD_len (c : Int) : ∀ (n : Nat) (lo : Int), (rangeD lo c n).length = n
  | 0, _ => rfl
  | n + 1, lo => congrArg (· + 1) (rangeD_len c n (lo + c))
theorem walk_rangeC {κ : Kx} {lo c : Int} {n : Nat} {Hb : Hp} : Walk κ (Itc lo c n) (rangeD lo c n) Hb := by
  intro i Hb1 H s1 s2
  rw [rangeD_len]
  refine ⟨fun d hd => ?_, fun h => h⟩
  rw [rangeD_get] at hd
  by_cases h : i < n
  · rw [if_pos h] at hd
    cases hd
    refine ⟨h, fun x H' hy => ?_⟩
    obtain ⟨rfl, rfl⟩ := hy
    exact ⟨Hb1, Gr.id s2, .int⟩
  · rw [if_neg h] at hd; cases hd
theorem walk_range {κ : Kx} {lo : Int} {n : Nat} {Hb : Hp} : Walk κ (Itr lo n) (rangeD lo 1 n) Hb := by
  intro i Hb1 H s1 s2
  rw [rangeD_len]
  refine ⟨fun d hd => ?_, fun h => h⟩
  rw [rangeD_get] at hd
  by_cases h : i < n
  · rw [if_pos h] at hd
    cases hd
    refine ⟨h, fun x H' hy => ?_⟩
    obtain ⟨rfl, rfl⟩ := hy
    rw [Int.mul_one]
    exact ⟨Hb1, Gr.id s2, .int⟩
  · rw [if_neg h] at hd; cases hd
def in62 (i : Int) : Bool := decide (-(4611686018427387904) ≤ i) && decide (i < 4611686018427387904)
theorem in62_iff {i : Int} (h : in62 i = true) : -(2 ^ 62) ≤ i ∧ i < 2 ^ 62 := by
  unfold in62 at h
  rw [Bool.and_eq_true] at h
  exact ⟨of_decide_eq_true h.1, of_decide_eq_true h.2⟩
def gRange1 : List D → Option (List D)
  | [.int j] => if in62 j then some (rangeD 0 1 j.toNat) else none
  | _ => none
def gRange2 : List D → Option (List D)
  | [.int i, .int j] => if in62 i && in62 j then some (rangeD i 1 (j - i).toNat) else none
  | _ => none
def gRange3 : List D → Option (List D)
  | [.int i, .int j, .int c] => if in62 i && in62 j && decide (c = -1) then some (rangeD i (-1) (i - j).toNat) else none
  | _ => none
theorem di_range1 {tg a : Expr} {f : E (List D)} {p pos : Pos} (hm : X.mg "range" = none) (ha : DA X C [a] f) (hg : Gl X "range" := by rfl) (hs : starEach [a] X.env = [(false, eval a X.env)] := by rfl) : DI X C tg (.Call (.Name "range" p) [a] [] pos) (eCall gRange1 f) := fun hK =>
  PI.imp (pi_range1 hg hm (ha hK) hs) fun σ H Q ⟨w, env, Hb, r, p⟩ => liftI_bind (R := RL C) r p fun ds w1 Hb1 H1 vs g1 r1 q1 p1 => by
    cases e : gRange1 ds with
    | none => rw [e] at p1; exact p1.elim
    | some es =>
      rw [e] at p1
      unfold gRange1 at e
      split at e
      · rename_i j
        obtain ⟨h1, rfl⟩ := if_some e
        obtain ⟨h2, h3⟩ := in62_iff h1
        obtain ⟨x, rfl, rx⟩ := q1.inv1
        cases rx
        exact ⟨j, rfl, h2, h3, p1 Hb1 H1 _ (Gr.refl r1.same) r1 walk_range⟩
      · cases e
theorem di_range2 {tg a b : Expr} {f : E (List D)} {p pos : Pos} (hm : X.mg "range" = none) (ha : DA X C [a, b] f) (hg : Gl X "range" := by rfl) (hs : starEach [a, b] X.env = [(false, eval a X.env), (false, eval b X.env)] := by rfl) (hs2 : starEach [b] X.env = [(false, eval b X.env)] := by rfl) :
    DI X C tg (.Call (.Name "range" p) [a, b] [] pos) (eCall gRange2 f) := fun hK =>
  PI.imp (pi_range2 hg hm (ha hK) hs hs2) fun σ H Q ⟨w, env, Hb, r, p⟩ => liftI_bind (R := RL C) r p fun ds w1 Hb1 H1 vs g1 r1 q1 p1 => by
    cases e : gRange2 ds with
    | none => rw [e] at p1; exact p1.elim
    | some es =>
      rw [e] at p1
      unfold gRange2 at e
      split at e
      · rename_i i j
        obtain ⟨h1, rfl⟩ := if_some e
        rw [Bool.and_eq_true] at h1
        obtain ⟨h2, h3⟩ := in62_iff h1.1
        obtain ⟨h4, h5⟩ := in62_iff h1.2
        obtain ⟨x, y, rfl, rx, ry⟩ := q1.inv2
        cases rx
        cases ry
        exact ⟨i, j, rfl, ⟨h2, h3, h4, h5⟩, p1 Hb1 H1 _ (Gr.refl r1.same) r1 walk_range⟩
      · cases e
theorem di_range3 {tg a b c : Expr} {f : E (List D)} {p pos : Pos} (hm : X.mg "range" = none) (ha : DA X C [a, b, c] f) (hg : Gl X "range" := by rfl) (hs : starEach [a, b, c] X.env = (false, eval a X.env) :: starEach [b, c] X.env := by rfl) (hpl : (backTo pos (starEach [b, c] X.env)).any (·.1) = false := by rfl) :
    DI X C tg (.Call (.Name "range" p) [a, b, c] [] pos) (eCall gRange3 f) := fun hK =>
  PI.imp (pi_range3 hg hm (ha hK) hs hpl) fun σ H Q ⟨w, env, Hb, r, p⟩ => liftI_bind (R := RL C) r p fun ds w1 Hb1 H1 vs g1 r1 q1 p1 => by
    cases e : gRange3 ds with
    | none => rw [e] at p1; exact p1.elim
    | some es =>
      rw [e] at p1
      unfold gRange3 at e
      split at e
      · rename_i i j c'
        obtain ⟨h1, rfl⟩ := if_some e
        rw [Bool.and_eq_true, Bool.and_eq_true] at h1
        obtain ⟨h2, h3⟩ := in62_iff h1.1.1
        obtain ⟨h4, h5⟩ := in62_iff h1.1.2
        have hc : c' = -1 := of_decide_eq_true h1.2
        subst hc
        obtain ⟨x, y, z, rfl, rx, ry, rz⟩ := q1.inv3
        cases rx
        cases ry
        cases rz
        exact ⟨i, j, -1, _, rfl, RgC.neg h2 h3 h4 h5, p1 Hb1 H1 _ (Gr.refl r1.same) r1 walk_rangeC⟩
      · cases e
/-- pairs with their places -/
def enumD : Nat → List D → List D
  | _, [] => []
  | k, d :: ds => .tup [.int k, d] :: enumD (k + 1) ds
theorem enumD_get : ∀ (ds : List D) (k i : Nat), (enumD k ds)[i]? = (ds[i]?).map fun d => D.tup [.int ((k + i : Nat) : Int), d]
  | [], k, i => by simp [enumD]
  | d :: ds, k, 0 => by simp [enumD]
  | d :: ds, k, i + 1 => by
    simp only [enumD, List.getElem?_cons_succ, enumD_get ds (k + 1) i]
    rw [show k + 1 + i = k + (i + 1) by omega]
theorem enumD_len : ∀ (ds : List D) (k : Nat), (enumD k ds).length = ds.length
  | [], _ => rfl
  | _ :: ds, k => congrArg (· + 1) (enumD_len ds (k + 1))
theorem new_pair {κ : Kx} {Hb H : Hp} {T : Addr} {x y : V} {d e : D} (s : Same Hb H) (hT : H T = none) (rx : Rep κ Hb d x) (ry : Rep κ Hb e y) : ∃ Hb', Gr (fun _ => False) Hb H Hb' (upd H T (.tup [x, y])) ∧ Rep κ Hb' (.tup [d, e]) (.ref T) := by
  have g := Gr.alloc (o := .tup [x, y]) s hT
  exact ⟨_, g, .tup (SqT.of upd_same) (.cons (rx.mono g.b) (.cons (ry.mono g.b) .nil))⟩
theorem walk_enumL {κ : Kx} {a : Addr} {xs : List V} {ds : List D} {Hb : Hp} (h : Hb a = some (.lst xs)) (r : RepL κ Hb ds xs) : Walk κ (Ite κ.K a) (enumD 0 ds) Hb := by
  intro i Hb1 H s1 s2
  have hq : SqL κ.K H a xs := .of (s2 _ _ (s1 _ _ h))
  rw [enumD_len]
  refine ⟨fun d hd => ?_, fun hi => ⟨xs, hq, by rw [r.length]; exact hi⟩⟩
  rw [enumD_get] at hd
  cases z : ds[i]? with
  | none => rw [z] at hd; cases hd
  | some d0 =>
    rw [z] at hd
    cases hd
    obtain ⟨x, hx, rx⟩ := r.get z
    refine ⟨⟨xs, x, hq, hx⟩, fun y H' hy => ?_⟩
    obtain ⟨T, x', rfl, hT, rfl, hy⟩ := hy
    have := hy xs hq
    rw [hx] at this
    cases this
    rw [Nat.zero_add]
    exact new_pair s2 hT .int (rx.mono s1)
theorem walk_enumT {κ : Kx} {a : Addr} {xs : List V} {ds : List D} {Hb : Hp} (h : SqT κ.K Hb a xs) (r : RepL κ Hb ds xs) : Walk κ (IteT κ.K a) (enumD 0 ds) Hb := by
  intro i Hb1 H s1 s2
  have hq : SqT κ.K H a xs := Same.sqT s2 (Same.sqT s1 h)
  rw [enumD_len]
  refine ⟨fun d hd => ?_, fun hi => ⟨xs, hq, by rw [r.length]; exact hi⟩⟩
  rw [enumD_get] at hd
  cases z : ds[i]? with
  | none => rw [z] at hd; cases hd
  | some d0 =>
    rw [z] at hd
    cases hd
    obtain ⟨x, hx, rx⟩ := r.get z
    refine ⟨⟨xs, x, hq, hx⟩, fun y H' hy => ?_⟩
    obtain ⟨T, x', rfl, hT, rfl, hy⟩ := hy
    have := hy xs hq
    rw [hx] at this
    cases this
    rw [Nat.zero_add]
    exact new_pair s2 hT .int (rx.mono s1)
def gEnum : List D → Option (List D)
  | [d] => match seqOf d with
    | some ds => some (enumD 0 ds)
    | none => none
  | _ => none
theorem di_enum {e : Expr} {f : E (List D)} {p pos tpos : Pos} {elts : List Expr} {kk : Nat} (hm : X.mg "enumerate" = none) (ha : DA X C [e] f) (hg : Gl X "enumerate" := by rfl) (hs : starEach [e] X.env = [(false, eval e X.env)] := by rfl) :
    DI X C (.Tuple elts kk tpos) (.Call (.Name "enumerate" p) [e] [] pos) (eCall gEnum f) := fun hK =>
  PI.imp (pi_enumA hg hm (ha hK) hs) fun σ H Q ⟨w, env, Hb, r, p⟩ => liftI_bind (R := RL C) r p fun ds w1 Hb1 H1 vs g1 r1 q1 p1 => by
    cases e : gEnum ds with
    | none => rw [e] at p1; exact p1.elim
    | some es =>
      rw [e] at p1
      unfold gEnum at e
      split at e
      · rename_i d
        obtain ⟨x, rfl, rx⟩ := q1.inv1
        cases d <;> simp only [seqOf, Option.some.injEq, reduceCtorEq] at e <;> first | exact e.elim | skip
        · subst e
          cases rx with
          | tup h1 h2 => exact ⟨_, _, rfl, .inr ⟨hK ▸ Same.sqT r1.same h1, hK ▸ p1 Hb1 H1 _ (Gr.refl r1.same) r1 (walk_enumT h1 h2)⟩⟩
        · subst e
          cases rx with
          | lst h1 h2 => exact ⟨_, _, rfl, .inl ⟨.of (r1.same _ _ h1), hK ▸ p1 Hb1 H1 _ (Gr.refl r1.same) r1 (walk_enumL h1 h2)⟩⟩
      · cases e
/-- reversed(xs) -/
theorem rev_get {α : Type} {ds : List α} {i : Nat} {d : α} (h : ds.reverse[i]? = some d) : ds[ds.length - 1 - i]? = some d ∧ i < ds.length := by
  have hl : i < ds.length := by
    have := (List.getElem?_eq_some_iff.mp h).1
    rwa [List.length_reverse] at this
  rw [List.getElem?_reverse hl] at h
  exact ⟨h, hl⟩
end
end DL
set_option Elab.async false
set_option linter.all false
set_option autoImplicit false
set_option maxRecDepth 100000
set_option maxHeartbeats 1000000
/-! DL8: reversed, zip, for, while, comprehensions. -/
namespace DL
open PySem PySem.Spec PyProof.Rows L2

section
variable {X : Cx} {C : Ct}
theorem walk_revL {κ : Kx} {a : Addr} {xs : List V} {ds : List D} {Hb : Hp} (h : Hb a = some (.lst xs)) (r : RepL κ Hb ds xs) : Walk κ (Itv κ.K a xs.length) ds.reverse Hb := by
  intro i Hb1 H s1 s2
  have hq : SqL κ.K H a xs := .of (s2 _ _ (s1 _ _ h))
  rw [List.length_reverse]
  refine ⟨fun d hd => ?_, fun hi => by rw [← r.length] at hi; exact hi⟩
  obtain ⟨h1, h2⟩ := rev_get hd
  obtain ⟨x, hx, rx⟩ := r.get h1
  rw [← r.length] at hx h2
  refine ⟨⟨h2, xs, x, hq, hx⟩, fun y H' hy => ?_⟩
  obtain ⟨rfl, hy⟩ := hy
  have := hy xs hq
  rw [hx] at this
  cases this
  exact ⟨Hb1, Gr.id s2, rx.mono s1⟩
theorem walk_revT {κ : Kx} {a : Addr} {xs : List V} {ds : List D} {Hb : Hp} (h : SqT κ.K Hb a xs) (r : RepL κ Hb ds xs) : Walk κ (RT.ItvT κ.K a xs.length) ds.reverse Hb := by
  intro i Hb1 H s1 s2
  have hq : SqT κ.K H a xs := Same.sqT s2 (Same.sqT s1 h)
  rw [List.length_reverse]
  refine ⟨fun d hd => ?_, fun hi => by rw [← r.length] at hi; exact hi⟩
  obtain ⟨h1, h2⟩ := rev_get hd
  obtain ⟨x, hx, rx⟩ := r.get h1
  rw [← r.length] at hx h2
  refine ⟨⟨h2, xs, x, hq, hx⟩, fun y H' hy => ?_⟩
  obtain ⟨rfl, hy⟩ := hy
  have := hy xs hq
  rw [hx] at this
  cases this
  exact ⟨Hb1, Gr.id s2, rx.mono s1⟩
def gRev (d : D) : Option (List D) := match seqOf d with
  | some ds => some ds.reverse
  | none => none
theorem di_rev {tg e : Expr} {f : E D} {p pos : Pos} (hm : X.mg "reversed" = none) (ha : DE X C e f) (hg : Gl X "reversed" := by rfl) (hs : starEach [e] X.env = (false, eval e X.env) :: starEach [] X.env := by rfl) :
    DI X C tg (.Call (.Name "reversed" p) [e] [] pos) (ebind f fun d => eopt (gRev d)) := fun hK =>
  PI.imp (RT.pi_revA hg hm (ha hK) hs) fun σ H Q ⟨w, env, Hb, r, p⟩ => liftI_bind (R := RD C) r p fun d w1 Hb1 H1 v g1 r1 q1 p1 => by
    cases d <;> first | exact p1.elim | skip
    · cases q1 with
      | tup h1 h2 => exact ⟨_, _, rfl, .inr ⟨hK ▸ Same.sqT r1.same h1, hK ▸ p1 Hb1 H1 _ (Gr.refl r1.same) r1 (walk_revT h1 h2)⟩⟩
    · cases q1 with
      | lst h1 h2 => exact ⟨_, _, rfl, .inl ⟨.of (r1.same _ _ h1), hK ▸ p1 Hb1 H1 _ (Gr.refl r1.same) r1 (walk_revL h1 h2)⟩⟩
/-- zip of two lists, of two tuples -/
def zipD : List D → List D → List D
  | a :: as, b :: bs => .tup [a, b] :: zipD as bs
  | _, _ => []
theorem zipD_get : ∀ (as bs : List D) (i : Nat), (zipD as bs)[i]? = match as[i]?, bs[i]? with
    | some a, some b => some (.tup [a, b])
    | _, _ => none
  | [], bs, i => by simp [zipD]
  | a :: as, [], i => by
    simp only [zipD, List.getElem?_nil]
    split <;> simp_all
  | a :: as, b :: bs, 0 => by simp [zipD]
  | a :: as, b :: bs, i + 1 => by simp only [zipD, List.getElem?_cons_succ, zipD_get as bs i]
theorem zipD_len : ∀ (as bs : List D), (zipD as bs).length = min as.length bs.length
  | [], bs => by simp [zipD]
  | a :: as, [] => by simp [zipD]
  | a :: as, b :: bs => by simp only [zipD, List.length_cons, zipD_len as bs]; omega
theorem walk_zipL {κ : Kx} {a b : Addr} {xs ys : List V} {ds es : List D} {Hb : Hp} (h : Hb a = some (.lst xs)) (r : RepL κ Hb ds xs) (h' : Hb b = some (.lst ys)) (r' : RepL κ Hb es ys) : Walk κ (Itz κ.K a b) (zipD ds es) Hb := by
  intro i Hb1 H s1 s2
  have hq : SqL κ.K H a xs := .of (s2 _ _ (s1 _ _ h))
  have hq' : SqL κ.K H b ys := .of (s2 _ _ (s1 _ _ h'))
  have l1 := r.length
  have l2 := r'.length
  rw [zipD_len]
  refine ⟨fun d hd => ?_, fun hi => ⟨xs, ys, hq, hq', by omega⟩⟩
  rw [zipD_get] at hd
  cases z : ds[i]? with
  | none => rw [z] at hd; cases hd
  | some d0 =>
    cases z' : es[i]? with
    | none => rw [z, z'] at hd; cases hd
    | some e0 =>
      rw [z, z'] at hd
      cases hd
      obtain ⟨x, hx, rx⟩ := r.get z
      obtain ⟨y, hy, ry⟩ := r'.get z'
      refine ⟨⟨xs, ys, x, y, hq, hq', hx, hy⟩, fun v H' hv => ?_⟩
      obtain ⟨T, x', y', rfl, hT, rfl, k1, k2⟩ := hv
      have e1 := k1 xs hq
      have e2 := k2 ys hq'
      rw [hx] at e1
      rw [hy] at e2
      cases e1
      cases e2
      exact new_pair s2 hT (rx.mono s1) (ry.mono s1)
theorem walk_zipT {κ : Kx} {a b : Addr} {xs ys : List V} {ds es : List D} {Hb : Hp} (h : SqT κ.K Hb a xs) (r : RepL κ Hb ds xs) (h' : SqT κ.K Hb b ys) (r' : RepL κ Hb es ys) : Walk κ (RZ.ItzT κ.K a b) (zipD ds es) Hb := by
  intro i Hb1 H s1 s2
  have hq : SqT κ.K H a xs := Same.sqT s2 (Same.sqT s1 h)
  have hq' : SqT κ.K H b ys := Same.sqT s2 (Same.sqT s1 h')
  have l1 := r.length
  have l2 := r'.length
  rw [zipD_len]
  refine ⟨fun d hd => ?_, fun hi => ⟨xs, ys, hq, hq', by omega⟩⟩
  rw [zipD_get] at hd
  cases z : ds[i]? with
  | none => rw [z] at hd; cases hd
  | some d0 =>
    cases z' : es[i]? with
    | none => rw [z, z'] at hd; cases hd
    | some e0 =>
      rw [z, z'] at hd
      cases hd
      obtain ⟨x, hx, rx⟩ := r.get z
      obtain ⟨y, hy, ry⟩ := r'.get z'
      refine ⟨⟨xs, ys, x, y, hq, hq', hx, hy⟩, fun v H' hv => ?_⟩
      obtain ⟨T, x', y', rfl, hT, rfl, k1, k2⟩ := hv
      have e1 := k1 xs hq
      have e2 := k2 ys hq'
      rw [hx] at e1
      rw [hy] at e2
      cases e1
      cases e2
      exact new_pair s2 hT (rx.mono s1) (ry.mono s1)
def gZip : List D → Option (List D)
  | [.lst a, .lst b] => some (zipD a b)
  | [.tup a, .tup b] => some (zipD a b)
  | _ => none
theorem di_zip {e e2 : Expr} {f : E (List D)} {p pos tpos : Pos} {elts : List Expr} {kk : Nat} (hm : X.mg "zip" = none) (ha : DA X C [e, e2] f) (hg : Gl X "zip" := by rfl) (hs : starEach [e, e2] X.env = (false, eval e X.env) :: starEach [e2] X.env := by rfl) (hpl : (backTo pos (starEach [e2] X.env)).any (·.1) = false := by rfl) :
    DI X C (.Tuple elts kk tpos) (.Call (.Name "zip" p) [e, e2] [] pos) (eCall gZip f) := fun hK =>
  PI.imp (RZ.pi_zipA hg hm (ha hK) hs hpl) fun σ H Q ⟨w, env, Hb, r, p⟩ => liftI_bind (R := RL C) r p fun ds w1 Hb1 H1 vs g1 r1 q1 p1 => by
    cases e : gZip ds with
    | none => rw [e] at p1; exact p1.elim
    | some es =>
      rw [e] at p1
      unfold gZip at e
      split at e
      · cases e
        obtain ⟨x, y, rfl, rx, ry⟩ := q1.inv2
        cases rx with
        | lst h1 h2 =>
          cases ry with
          | lst h3 h4 => exact ⟨_, _, _, _, rfl, .inl ⟨.of (r1.same _ _ h1), .of (r1.same _ _ h3), hK ▸ p1 Hb1 H1 _ (Gr.refl r1.same) r1 (walk_zipL h1 h2 h3 h4)⟩⟩
      · cases e
        obtain ⟨x, y, rfl, rx, ry⟩ := q1.inv2
        cases rx with
        | tup h1 h2 =>
          cases ry with
          | tup h3 h4 => exact ⟨_, _, _, _, rfl, .inr ⟨hK ▸ Same.sqT r1.same h1, hK ▸ Same.sqT r1.same h3, hK ▸ p1 Hb1 H1 _ (Gr.refl r1.same) r1 (walk_zipT h1 h2 h3 h4)⟩⟩
      · cases e

/-! ### for -/
def loopS (g : Tg) (body : S) : List D → S
  | [], w, e => .nx e w
  | d :: r, w, e => match g d e with
    | none => .bad
    | some e1 => match body w e1 with
      | .nx e2 w2 => loopS g body r w2 e2
      | .ct e2 w2 => loopS g body r w2 e2
      | .bk e2 w2 => .nx e2 w2
      | .rt d w2 => .rt d w2
      | .exc x e2 w2 => .exc x e2 w2
      | .bad => .bad
def forS (items : E (List D)) (g : Tg) (body : S) : S := sbind items fun ds => loopS g body ds
theorem ds_for {tg iter : Expr} {body : List Stmt} {items : E (List D)} {ls : List Nat} {g : Tg} {f : S} {pos : Pos} (hp : PassesOwn (model X.prog X.w) X.A X.env X.xe) (hi : DI X C tg iter items) (hg : DG X C tg ls g) (hb : DB X C body f) (hc : X.calm = true := by rfl)
    (hs : ∀ x, foldedSetIterable iter X.env x = pure x := by intro _; rfl) : DS X C (.For tg iter body [] pos) (forS items g f) := fun hK =>
  PS.imp (ps_for hp hc (hi hK) (hg hK) (hb hK) hs) fun Dn σ H ⟨w, env, Hb, r, p⟩ => by
    refine ⟨w, env, Hb, r, ?_⟩
    unfold forS sbind at p
    cases e : items w env with
    | bad => rw [e] at p; exact p
    | exc x w1 => rw [e] at p; exact fun Hb' H' c dd g k x1 => p Hb' H' σ c dd g.b k x1
    | ok ds w1 =>
      rw [e] at p
      have p0 : PostS C (loopS g f ds w1 env) Hb Dn := p
      intro Hb1 H1 J g1 r1 hw
      have p1 := p0.mono g1.b
      refine ⟨fun i m σ H => m = ds.length - i ∧ i ≤ ds.length ∧ ∃ w env Hb, Rel C w env Hb H σ ∧ Same Hb1 Hb ∧ PostS C (loopS g f (ds.drop i) w env) Hb Dn, ⟨ds.length, by simp, Nat.zero_le _, w1, env, Hb1, r1, Same.refl _, p1⟩, ?_⟩
      rintro i m σ2 H2 ⟨rfl, hil, w2, e2, Hb2, r2, s2, p2⟩
      obtain ⟨go, stop⟩ := hw i Hb2 H2 s2 r2.same
      by_cases hlt : i < ds.length
      · have hd : ds[i]? = some ds[i] := by simp [hlt]
        obtain ⟨hgo, hy⟩ := go _ hd
        refine .inr ⟨hgo, fun σ' H' => i + 1 ≤ ds.length ∧ ∃ w env Hb, Rel C w env Hb H' σ' ∧ Same Hb1 Hb ∧ PostS C (loopS g f (ds.drop (i + 1)) w env) Hb Dn, fun σ' H' hN => ⟨ds.length - (i + 1), by omega, rfl, hN.1, hN.2⟩, fun x H3 hx => ?_⟩
        obtain ⟨Hb3, g3, rx⟩ := hy x H3 hx
        have r3 := r2.grow g3
        have p3 := p2.mono g3.b
        have ed : ds.drop i = ds[i] :: ds.drop (i + 1) := by rw [List.drop_eq_getElem_cons hlt]
        rw [ed] at p3
        unfold loopS at p3
        cases eg : g ds[i] e2 with
        | none => rw [eg] at p3; exact p3.elim
        | some e3 =>
          rw [eg] at p3
          refine ⟨w2, e2, Hb3, ds[i], e3, r3, rx, eg, fun σ4 r4 _ => ⟨w2, e3, Hb3, r4, ?_⟩⟩
          have s13 : Same Hb1 Hb3 := s2.trans g3.b
          dsimp only at p3
          cases ef : f w2 e3 with
          | nx e5 w5 => rw [ef] at p3; exact fun Hb5 H5 σ5 s5 r5 => ⟨hlt, w5, e5, Hb5, r5, s13.trans s5, p3.mono s5⟩
          | ct e5 w5 => rw [ef] at p3; exact fun Hb5 H5 σ5 s5 r5 => ⟨hlt, w5, e5, Hb5, r5, s13.trans s5, p3.mono s5⟩
          | bk e5 w5 => rw [ef] at p3; exact p3
          | rt d w5 => rw [ef] at p3; exact p3
          | exc x e5 w5 => rw [ef] at p3; exact p3
          | bad => rw [ef] at p3; exact p3.elim
      · have hi2 : ds.length ≤ i := Nat.le_of_not_lt hlt
        have ed : ds.drop i = [] := List.drop_eq_nil_of_le hi2
        rw [ed] at p2
        exact .inl ⟨stop hi2, p2 Hb2 H2 σ2 (Same.refl _) r2⟩

/-! ### while -/
def whileS (c : E Bool) (body : S) : Nat → S
  | 0, _, _ => .bad
  | n + 1, w, e => match c w e with
    | .ok false w1 => .nx e w1
    | .ok true w1 => match body w1 e with
      | .nx e2 w2 => whileS c body n w2 e2
      | .ct e2 w2 => whileS c body n w2 e2
      | .bk e2 w2 => .nx e2 w2
      | .rt d w2 => .rt d w2
      | .exc x e2 w2 => .exc x e2 w2
      | .bad => .bad
    | .exc x w1 => .exc x e w1
    | .bad => .bad
theorem ds_while (n : Nat) {c : Expr} {body : List Stmt} {t : E Bool} {f : S} {pos : Pos} (hp : PassesOwn (model X.prog X.w) X.A X.env X.xe) (hc : DT X C c t) (hb : DB X C body f) : DS X C (.While c body [] pos) (whileS t f n) := fun hK =>
  PS.imp (ps_while hp (hc hK) (hb hK)) fun Dn σ H ⟨w, env, Hb, r, p⟩ => by
    refine ⟨fun m σ H => ∃ w env Hb, Rel C w env Hb H σ ∧ PostS C (whileS t f m w env) Hb Dn, ⟨n, w, env, Hb, r, p⟩, ?_⟩
    rintro m σ1 H1 ⟨w1, e1, Hb1, r1, p1⟩
    cases m with
    | zero => exact p1.elim
    | succ m =>
      refine ⟨w1, e1, Hb1, r1, ?_⟩
      unfold whileS at p1
      cases e : t w1 e1 with
      | bad => rw [e] at p1; exact p1
      | exc x w2 => rw [e] at p1; exact fun Hb' H' c dd g k x1 => p1 Hb' H' σ1 c dd g.b k x1
      | ok b w2 =>
        rw [e] at p1
        intro Hb2 H2 b' g2 r2 eb
        cases eb
        cases b with
        | false => exact iteF (p1 Hb2 H2 σ1 g2.b r2)
        | true =>
          refine iteT ⟨fun σ' H' => ∃ w env Hb, Rel C w env Hb H' σ' ∧ PostS C (whileS t f m w env) Hb Dn, fun σ' H' hN => ⟨m, Nat.lt_succ_self m, hN⟩, w2, e1, Hb2, r2, ?_⟩
          dsimp only at p1
          have p2 := p1
          cases ef : f w2 e1 with
          | nx e5 w5 => rw [ef] at p2; exact fun Hb5 H5 σ5 s5 r5 => ⟨w5, e5, Hb5, r5, p2.mono (g2.b.trans s5)⟩
          | ct e5 w5 => rw [ef] at p2; exact fun Hb5 H5 σ5 s5 r5 => ⟨w5, e5, Hb5, r5, p2.mono (g2.b.trans s5)⟩
          | bk e5 w5 => rw [ef] at p2; exact p2.mono g2.b
          | rt d w5 => rw [ef] at p2; exact p2
          | exc x e5 w5 => rw [ef] at p2; exact p2.mono g2.b
          | bad => rw [ef] at p2; exact p2.elim
end
end DL
set_option Elab.async false
set_option linter.all false
set_option autoImplicit false
set_option maxRecDepth 100000
set_option maxHeartbeats 1000000
/-! DL9: list comprehensions. -/
namespace DL
open PySem PySem.Spec PyProof.Rows L2

theorem wipe_in {σ : L2.St} {i : Nat} : ∀ {vs : List Nat}, i ∈ vs → i < σ.length → (wipe σ vs)[i]? = some none
  | [], h, _ => nomatch h
  | v :: vs, h, hl => by
    unfold wipe
    by_cases e : v = i
    · subst e
      rw [List.getElem?_set_self (by rw [wipe_length]; exact hl)]
    · rw [List.getElem?_set_ne e]
      rcases List.mem_cons.mp h with z | z
      · exact absurd z.symm e
      · exact wipe_in z hl
theorem wipe_same {σ σ' : L2.St} {ls vs : List Nat} (o : OnlyAt ls (wipe σ vs) σ') (h : ∀ i ∈ ls, i ∈ vs) : wipe σ' vs = wipe σ vs := by
  apply List.ext_getElem?
  intro j
  have hl : σ'.length = σ.length := o.1.trans (wipe_length σ vs)
  by_cases hj : j ∈ vs
  · by_cases hjl : j < σ.length
    · rw [wipe_in hj hjl, wipe_in hj (by rw [hl]; exact hjl)]
    · rw [List.getElem?_eq_none (by rw [wipe_length, hl]; omega), List.getElem?_eq_none (by rw [wipe_length]; omega)]
  · rw [wipe_out hj, o.2 j fun z => hj (h j z)]
def wipeE (e : En) : List Nat → En
  | [] => e
  | v :: vs => (wipeE e vs).set v .un
theorem Rel.wipe {C : Ct} {w : Wo} {env : En} {Hb H : Hp} {σ : L2.St} (r : Rel C w env Hb H σ) : ∀ vs : List Nat, Rel C w (wipeE env vs) Hb H (L2.wipe σ vs)
  | [] => r
  | v :: vs => (Rel.wipe r vs).drop v none
/-- what is no plain data, no slot's, no one's: it may be anything -/
theorem Rel.junk {C : Ct} {w : Wo} {env : En} {Hb H : Hp} {σ : L2.St} {a : Addr} {o : HO} (r : Rel C w env Hb H σ) (h1 : Hb a = none) (h2 : C.H0 a = none) (h3 : ¬ C.fp a) (h4 : ∀ (j : Nat) (es : List D), env[j]? = some (Sl.own es) → σ[j]? ≠ some (some (V.ref a))) (h5 : ∀ φ, H a ≠ some (.ext φ)) : Rel C w env Hb (upd H a o) σ := by
  refine ⟨⟨r.gr.b, fun b u q => ?_, fun b u q n => ?_, fun b q => ?_, r.gr.n⟩, C.Γ.loc r.ok (fun b hb => ?_) (fun b φ q => ?_), ⟨r.env.dat, fun j fs q => ?_, r.env.sep, r.env.len⟩⟩
  · rw [upd_ne (ne_of_none q h1)]; exact r.gr.s b u q
  · rw [upd_ne (ne_of_none q h2)]; exact r.gr.h b u q n
  · by_cases z : b = a
    · subst z; rw [upd_same]; simp
    · rw [upd_ne z]; exact r.gr.d b q
  · rw [upd_ne (fun z : b = a => h3 (by rw [← z]; exact hb))]
  · rw [upd_ne (fun z : b = a => h5 φ (by rw [← z]; exact q))]; exact q
  · obtain ⟨c, cs, q1, q2, q3, q4, q5, q6⟩ := r.env.own j fs q
    refine ⟨c, cs, q1, ?_, q3, q4, q5, q6⟩
    rw [upd_ne fun z => h4 j fs q (by rw [q1, z])]
    exact q2
abbrev Ct.nox (C : Ct) : Ct := { C with Wx := fun _ _ _ _ => False }
theorem Rel.nox {C : Ct} {w : Wo} {env : En} {Hb H : Hp} {σ : L2.St} (r : Rel C w env Hb H σ) : Rel C.nox w env Hb H σ := ⟨r.gr, r.ok, r.env⟩
theorem Rel.unnox {C : Ct} {w : Wo} {env : En} {Hb H : Hp} {σ : L2.St} (r : Rel C.nox w env Hb H σ) : Rel C w env Hb H σ := ⟨r.gr, r.ok, r.env⟩
def DTs (X : Cx) (C : Ct) (ifs : List Expr) (t : E Bool) : Prop := X.K = C.κ.K → PTs X ifs (lift C RB t)
theorem PTs.imp {X : Cx} {es : List Expr} {t t' : TT} (h : PTs X es t) (k : ∀ σ H Q, t' σ H Q → t σ H Q) : PTs X es t' := ⟨fun pins s σ H Q I q => h.run pins s σ H Q I (k σ H Q q)⟩
theorem dts_nil {X : Cx} {C : Ct} : DTs X C [] (epure true) := fun _ => PTs.imp pts_nil fun σ H Q ⟨w, env, Hb, r, p⟩ => Post.fin (R := RB) (v := true) r p (Gr.id r.same) rfl
theorem dts_one {X : Cx} {C : Ct} {c : Expr} {t : E Bool} (h : DT X C c t) : DTs X C [c] t := fun hK => pts_one (h hK)

/-- the new list, the env being the block's -/
def compL (g : Tg) (t : E Bool) (f : E D) (e : En) : List D → Wo → ER (List D)
  | [], w => .ok [] w
  | d :: r, w => match g d e with
    | none => .bad
    | some e1 => match t w e1 with
      | .ok true w1 => match f w1 e1 with
        | .ok y w2 => match compL g t f e r w2 with
          | .ok ys w3 => .ok (y :: ys) w3
          | r => r
        | _ => .bad
      | .ok false w1 => compL g t f e r w1
      | _ => .bad
def compE (vs : List Nat) (items : E (List D)) (g : Tg) (t : E Bool) (f : E D) : E (List D) := ebind items fun ds w e => if ds.length ≤ 16777216 then compL g t f (wipeE e vs) ds w else .bad
def conc (as : List D) : ER (List D) → ER (List D)
  | .ok ys w => .ok (as ++ ys) w
  | .exc x w => .bad
  | .bad => .bad
theorem conc_cons (as : List D) (y : D) (r : ER (List D)) : conc as (match r with | .ok ys w3 => .ok (y :: ys) w3 | r => r) = conc (as ++ [y]) r := by
  cases r <;> simp [conc]
theorem compL_ok (g : Tg) (t : E Bool) (f : E D) (e : En) : ∀ (ds : List D) (w : Wo), (∃ ys w', compL g t f e ds w = .ok ys w') ∨ compL g t f e ds w = .bad
  | [], w => .inl ⟨_, _, rfl⟩
  | d :: r, w => by
    unfold compL
    cases g d e with
    | none => exact .inr rfl
    | some e1 =>
      dsimp only
      cases t w e1 with
      | bad => exact .inr rfl
      | exc x w1 => exact .inr rfl
      | ok b w1 =>
        cases b with
        | false => exact compL_ok g t f e r w1
        | true =>
          dsimp only
          cases f w1 e1 with
          | bad => exact .inr rfl
          | exc x w1 => exact .inr rfl
          | ok y w2 =>
            dsimp only
            rcases compL_ok g t f e r w2 with ⟨ys, w', h⟩ | h
            · rw [h]; exact .inl ⟨_, _, rfl⟩
            · rw [h]; exact .inr rfl
theorem conc_nil_compL (g : Tg) (t : E Bool) (f : E D) (e : En) (ds : List D) (w : Wo) : conc [] (compL g t f e ds w) = compL g t f e ds w := by
  rcases compL_ok g t f e ds w with ⟨ys, w', h⟩ | h <;> rw [h] <;> rfl
section
variable {X : Cx} {C : Ct}
theorem tlc_of {wi : TI} {items : E (List D)} {ls vs : List Nat} {g : Tg} {t : E Bool} {f : E D} {σ : L2.St} {H : Hp} {Q : VK} (hls : ∀ i ∈ ls, i ∈ vs) (l : liftO C (compE vs items g t f) σ H Q) :
    tLc (liftI C items) (liftG C.nox ls g) (lift C.nox RB t) (lift C.nox (RD C.nox) f) vs σ H Q := by
  obtain ⟨w, env, Hb, r, p⟩ := l
  refine ⟨w, env, Hb, r, ?_⟩
  unfold compE ebind at p
  cases e : items w env with
  | bad => rw [e] at p; exact p
  | exc x w1 => rw [e] at p; exact p
  | ok ds w1 =>
    rw [e] at p
    dsimp only at p
    intro Hb1 H1 J g1 r1 hw A hA
    by_cases hz : ds.length ≤ 16777216
    · rw [if_pos hz] at p
      have p1 := p.mono g1
      rw [← conc_nil_compL] at p1
      have fA : C.H0 A = none ∧ ¬ C.fp A := r1.fresh hA
      have hbA : Hb1 A = none := r1.same.free hA
      have un : ∀ (j : Nat) (es : List D), env[j]? = some (Sl.own es) → σ[j]? ≠ some (some (V.ref A)) := fun j es q => r1.unowned hA j es q
      refine ⟨fun i m H2 => m = ds.length - i ∧ i ≤ ds.length ∧ ∃ w2 Hb2 acc as, Gr C.fp Hb1 H1 Hb2 H2 ∧ C.Γ.ok w2 H2 ∧ Hb2 A = none ∧ H2 A = some (.lst acc) ∧ RepL C.κ Hb2 as acc ∧ as.length ≤ i ∧ PostO C (conc as (compL g t f (wipeE env vs) (ds.drop i) w2)) env Hb1 H1 σ Q,
        ⟨ds.length, by simp, Nat.zero_le _, w1, Hb1, [], [], (Gr.alloc0 r1.same hA).sub, (r1.grow (Gr.alloc0 r1.same hA)).ok, hbA, upd_same, .nil, Nat.le_refl _, p1⟩, ?_⟩
      rintro i m H2 ⟨rfl, hil, w2, Hb2, acc, as, g2, k2, nb2, ha2, rl2, hlen, p2⟩
      have rr : Rel C w2 env Hb2 H2 σ := r1.mono g2 k2
      obtain ⟨go, stop⟩ := hw i Hb2 H2 g2.b rr.same
      by_cases hlt : i < ds.length
      · have hd : ds[i]? = some ds[i] := by simp [hlt]
        obtain ⟨hgo, hy⟩ := go _ hd
        refine .inr ⟨hgo, fun H' => i + 1 ≤ ds.length ∧ ∃ w2 Hb2 acc as, Gr C.fp Hb1 H1 Hb2 H' ∧ C.Γ.ok w2 H' ∧ Hb2 A = none ∧ H' A = some (.lst acc) ∧ RepL C.κ Hb2 as acc ∧ as.length ≤ i + 1 ∧ PostO C (conc as (compL g t f (wipeE env vs) (ds.drop (i + 1)) w2)) env Hb1 H1 σ Q,
          fun H' hN => ⟨ds.length - (i + 1), by omega, rfl, hN.1, hN.2⟩, fun x H3 hx => ?_⟩
        obtain ⟨Hb3, g3, rx⟩ := hy x H3 hx
        have nb3 : ∀ {Hb' H' : Hp}, Gr C.fp Hb2 H2 Hb' H' → Hb' A = none := fun {Hb' H'} g => by
          cases z : Hb' A with
          | none => rfl
          | some o =>
            rcases g.n A (by rw [z]; simp) with q | q
            · exact absurd nb2 q
            · rw [ha2] at q; cases q
        have r3 := rr.grow g3
        have ed : ds.drop i = ds[i] :: ds.drop (i + 1) := by rw [List.drop_eq_getElem_cons hlt]
        rw [ed] at p2
        unfold compL at p2
        cases eg : g ds[i] (wipeE env vs) with
        | none => rw [eg] at p2; exact p2.elim
        | some e3 =>
          rw [eg] at p2
          dsimp only at p2
          refine ⟨w2, wipeE env vs, Hb3, ds[i], e3, (r3.wipe vs).nox, rx, eg, fun σ4 r4 o4 => ⟨wipe_same o4 hls, w2, e3, Hb3, r4, ?_⟩⟩
          cases et : t w2 e3 with
          | bad => rw [et] at p2; exact p2.elim
          | exc x w5 => rw [et] at p2; exact p2.elim
          | ok b w5 =>
            rw [et] at p2
            intro Hb5 H5 b' g5 r5 eb
            cases eb
            have g35 : Gr C.fp Hb2 H2 Hb5 H5 := g3.sub.trans g5
            cases b with
            | false =>
              refine iteF ⟨hlt, w5, Hb5, acc, as, g2.trans g35, r5.ok, nb3 g35, g35.h A _ ha2 fA.2, rl2.mono g35.b, by omega, p2⟩
            | true =>
              dsimp only at p2
              refine iteT ⟨w5, e3, Hb5, r5, ?_⟩
              cases ef : f w5 e3 with
              | bad => rw [ef] at p2; exact p2.elim
              | exc x w6 => rw [ef] at p2; exact p2.elim
              | ok y w6 =>
                rw [ef] at p2
                dsimp only at p2
                rw [conc_cons] at p2
                intro Hb6 H6 yv g6 r6 ry
                have g26 : Gr C.fp Hb2 H2 Hb6 H6 := g35.trans g6
                have ha6 : H6 A = some (.lst acc) := g26.h A _ ha2 fA.2
                have nb6 := nb3 g26
                have rA : Rel C w6 env Hb6 H6 σ := r1.mono (g2.trans g26) r6.ok
                have rB : Rel C w6 env Hb6 (upd H6 A (.lst (acc ++ [yv]))) σ := rA.junk nb6 fA.1 fA.2 un (fun φ z => by rw [ha6] at z; cases z)
                refine ⟨acc, ha6, by rw [rl2.length, sizeLine_eq]; omega, hlt, w6, Hb6, acc ++ [yv], as ++ [y], ?_, rB.ok, nb6, upd_same, (rl2.mono g26.b).append (.one ry), by rw [List.length_append, List.length_singleton]; omega, p2⟩
                have gg := g2.trans g26
                exact ⟨gg.b, rB.same, fun b o q n => by rw [upd_ne (ne_of_none q hA)]; exact gg.h b o q n, fun b q => by
                  by_cases z : b = A
                  · subst z; exact absurd hA q
                  · rw [upd_ne z]; exact gg.d b q, gg.n⟩
      · have hi2 : ds.length ≤ i := Nat.le_of_not_lt hlt
        have ed : ds.drop i = [] := List.drop_eq_nil_of_le hi2
        rw [ed] at p2
        have ec : conc as (compL g t f (wipeE env vs) [] w2) = .ok as w2 := by simp [compL, conc]
        rw [ec] at p2
        exact .inl ⟨stop hi2, p2 Hb2 H2 A acc g2 rr hA ha2 rl2 nb2⟩
    · rw [if_neg hz] at p; exact p.elim
variable {elt tg iter : Expr} {ifs : List Expr} {scope : Scope} {own : List (Str × Nat)} {pos : Pos} {items : E (List D)} {ls : List Nat} {g : Tg} {t : E Bool} {f : E D}
theorem do_comp (own : List (Str × Nat)) (hN : X.N.Nodup) (ok : BlkOk X.N X.env.scope scope own) (hi : DI X C tg iter items) (hls : ∀ i ∈ ls, i ∈ own.map (·.2))
    (hg : ∀ (s : Shared) (H : Hp) (A : Addr) (cl : List (Str × Addr)) (fp : List Addr), DG (X.blk s H scope (compEnvC scope cl A X.env) fp) C.nox tg ls g)
    (ht : ∀ (s : Shared) (H : Hp) (A : Addr) (cl : List (Str × Addr)) (fp : List Addr), DTs (X.blk s H scope (compEnvC scope cl A X.env) fp) C.nox ifs t)
    (he : ∀ (s : Shared) (H : Hp) (A : Addr) (cl : List (Str × Addr)) (fp : List Addr), DE (X.blk s H scope (compEnvC scope cl A X.env) fp) C.nox elt f)
    (hc : X.calm = true := by rfl) (hs : ∀ x, foldedSetIterable iter X.env x = pure x := by intro _; rfl) : DO X C (.ListComp elt [⟨tg, iter, ifs, 0⟩] scope pos) (compE (own.map (·.2)) items g t f) := fun hK =>
  PE.imp (pe_lc hc hN (hi hK) ok (fun s H A cl fp => hg s H A cl fp hK) (fun s H A cl fp => ht s H A cl fp hK) (fun s H A cl fp => he s H A cl fp hK) hs) fun σ H Q l => tlc_of (wi := liftI C items) hls l
/-- name = [..] on one line, the name a local -/
theorem ds_setComp (own : List (Str × Nat)) (i : Nat) {y : Str} {py spos : Pos} (hN : X.N.Nodup) (ok : BlkOk X.N X.env.scope scope own) (hi : DI X C tg iter items) (hls : ∀ i ∈ ls, i ∈ own.map (·.2))
    (hg : ∀ (s : Shared) (H : Hp) (A : Addr) (cl : List (Str × Addr)) (fp : List Addr), DG (X.blk s H scope (compEnvC scope cl A X.env) fp) C.nox tg ls g)
    (ht : ∀ (s : Shared) (H : Hp) (A : Addr) (cl : List (Str × Addr)) (fp : List Addr), DTs (X.blk s H scope (compEnvC scope cl A X.env) fp) C.nox ifs t)
    (he : ∀ (s : Shared) (H : Hp) (A : Addr) (cl : List (Str × Addr)) (fp : List Addr), DE (X.blk s H scope (compEnvC scope cl A X.env) fp) C.nox elt f)
    (hy : X.N[i]? = some y := by rfl) (hyl : X.env.scope.names.lookup y = some .local := by rfl) (hsw : swapsWith (.ListComp elt [⟨tg, iter, ifs, 0⟩] scope pos) (some (.Name y py)) spos.line X.env = pure true := by exact sw_true rfl rfl rfl (by decide +kernel))
    (hc : X.calm = true := by rfl) (hs : ∀ x, foldedSetIterable iter X.env x = pure x := by intro _; rfl) : DS X C (.Assign [.Name y py] (.ListComp elt [⟨tg, iter, ifs, 0⟩] scope pos) spos) (setS i (eOwn (compE (own.map (·.2)) items g t f))) := fun hK =>
  PS.imp (ps_setLc hc hN hy hyl hsw (hi hK) ok (fun s H A cl fp => hg s H A cl fp hK) (fun s H A cl fp => ht s H A cl fp hK) (fun s H A cl fp => he s H A cl fp hK) hs) fun Dn σ H l => by
    refine tlc_of (wi := liftI C items) hls ?_
    have l2 := setS_liftL l
    obtain ⟨w, env, Hb, r, p⟩ := l2
    refine ⟨w, env, Hb, r, ?_⟩
    unfold eOwn ebind at p
    cases q : compE (own.map (·.2)) items g t f w env with
    | bad => rw [q] at p; exact p
    | exc x w1 => rw [q] at p; exact p
    | ok ds w1 => rw [q] at p; exact fun Hb' H' a xs g k h1 h2 h3 h4 => p Hb' H' (.ref a) g k (.own h1 h2 h3 h4)
end
end DL
set_option Elab.async false
set_option linter.all false
set_option autoImplicit false
set_option maxRecDepth 100000
set_option maxHeartbeats 1000000
/-! DL10: defs and their calls. -/
namespace DL
open PySem PySem.Spec PyProof.Rows L2

/-- a def's answer -/
inductive FR where
  | ok (d : D) | exc (x : Xc) | bad
/-- a def's promise on plain data: m is its mirror -/
def spD (κ : Kx) (cl : Nat → Addr) (m : List D → FR) : Sp := fun vs H Q W => ∃ ds Hb, Same Hb H ∧ RepL κ Hb ds vs ∧ match m ds with
  | .ok d => ∀ Hb' H' v, Gr (fun _ => False) Hb H Hb' H' → Rep κ Hb' d v → Q v H'
  | .exc x => ∀ Hb' H' c dd, Gr (fun _ => False) Hb H Hb' H' → XRep κ cl Hb' x c dd → W c dd H'
  | .bad => False
section
variable (P : Program) (w : World) (K : PySem.W.Frag) (mg : Str → Option Value) (base : Heap)
/-- a def keeps its promise wherever no repr is under way -/
structure FnG (k : Nat) (f : Addr) (fd : FuncData) (ps : List Str) (sp : Sp) : Prop where
  len : ∀ vs H Q W, sp vs H Q W → vs.length = ps.length
  go : ∀ (A : Around) (up : List Env) (s : Shared) (H : Hp) (ar : Args) (us : List Value) (vs : List V) (Q : VK) (W : XK), Room k A → A.guards = some [] → Env0 P w K mg base A up s H → BindsTo s fd ar (ps.zip us) → Vals vs us → sp vs H Q W →
    codeAny (model P w) A (.call (.ref f) ar) (CR (L2.CX P w) up P w H s Q W) s
/-- a def of the module: name, mirror -/
structure Def (cl : Nat → Addr) (k : Nat) (x : Str) (m : List D → FR) : Prop where
  ex : ∃ f fd ps, mg x = some (.ref f) ∧ PySem.W.keepIn K (.ref f) = true ∧ Binds K fd ps [] ∧ ∀ dr, FnG P w K mg base k f fd ps (spD ⟨K, dr, cl⟩ cl m)
end
section
variable {P : Program} {w : World} {K : PySem.W.Frag} {mg : Str → Option Value} {base : Heap} {cl : Nat → Addr}
theorem Def.up {j k : Nat} {x : Str} {m : List D → FR} (h : Def P w K mg base cl j x m) (e : j ≤ k) : Def P w K mg base cl k x m := by
  obtain ⟨f, fd, ps, h1, h2, h3, h4⟩ := h
  exact ⟨f, fd, ps, h1, h2, h3, fun dr => ⟨(h4 dr).len, fun A up s H ar us vs Q W hr => (h4 dr).go A up s H ar us vs Q W (hr.mono e)⟩⟩
/-- another mirror, told of less -/
theorem Def.le {k : Nat} {x : Str} {m m' : List D → FR} (h : Def P w K mg base cl k x m) (e : ∀ ds, m' ds = .bad ∨ m' ds = m ds) : Def P w K mg base cl k x m' := by
  obtain ⟨f, fd, ps, h1, h2, h3, h4⟩ := h
  have key : ∀ dr vs H Q W, spD ⟨K, dr, cl⟩ cl m' vs H Q W → spD ⟨K, dr, cl⟩ cl m vs H Q W := by
    rintro dr vs H Q W ⟨ds, Hb, s, r, q⟩
    refine ⟨ds, Hb, s, r, ?_⟩
    rcases e ds with z | z
    · rw [z] at q; exact q.elim
    · rw [← z]; exact q
  exact ⟨f, fd, ps, h1, h2, h3, fun dr => ⟨fun vs H Q W q => (h4 dr).len vs H Q W (key _ _ _ _ _ q), fun A up s H ar us vs Q W hr hg e0 hb hv q => (h4 dr).go A up s H ar us vs Q W hr hg e0 hb hv (key _ _ _ _ _ q)⟩⟩
end

/-! ### the call -/
def eFun (m : List D → FR) (f : E (List D)) : E D := ebind f fun ds w _ => match m ds with
  | .ok d => .ok d w
  | .exc x => .exc x w
  | .bad => .bad
section
variable {X : Cx} {C : Ct} {k : Nat} {f : Addr} {fd : FuncData} {ps : List Str} {sp : Sp} {W : L2.St → XK} {x : Str} {p pos : Pos} {e : Expr} {es : List Expr} {t : TA}
theorem pe_callG (F : FnG X.prog X.w X.K X.mg X.base k f fd ps sp) (hr : Room k X.A) (hgd : X.A.guards = some []) (hg : Gl X x) (hm : X.mg x = some (.ref f)) (hk : PySem.W.keepIn X.K (.ref f) = true) (hb : Binds X.K fd ps [])
    (hx : ∀ σ, PassesAt (L2.CX X.prog X.w) X σ (W σ)) (ha : PA X (e :: es) t) (hdb : (x == ("__debug__" : Str)) = false) (he : starEach (e :: es) X.env = (false, eval e X.env) :: starEach es X.env)
    (hpl : (backTo pos (starEach es X.env)).any (·.1) = false) : PE X (.Call (.Name x p) (e :: es) [] pos) (tCallS sp W t) := by
  constructor
  intro pins s σ H Q I h
  refine wpAny_Call_Name_kw (ld_glob I hg hm ?_ hdb)
  refine PySem.W.callWith_K (h₀ := X.base) I.ok.mod.kin hk (thn (ha.run pos pins s σ H _ I h) ?_) he hpl
  rintro us s1 ⟨vs, H1, I1, r, q⟩
  refine ⟨I1.kIn, ?_⟩
  have hl : us.length = ps.length := by
    rw [← r.length]
    exact F.len _ _ _ _ q
  have b := hb s1 us I1.kIn (by simpa using hl)
  simp only [List.append_nil] at b
  refine wpAny_call (codeAny_mono (F.go X.A X.stack s1 H1 ⟨us, []⟩ us vs Q (W σ) hr hgd I1.env0 b r q) ?_)
  intro rr s' hq
  rcases rr with er | fl
  · exact hx σ pins H1 s1 er s' I1 hq
  · cases fl <;> first | exact hq.elim | exact I1.after hq
/-- f(e, ..) of a def of the module -/
theorem de_call {m : List D → FR} {j : Nat} {f : E (List D)} (Dx : Def X.prog X.w X.K X.mg X.base C.cl j x m) (hr : Room k X.A) (hgd : X.A.guards = some []) (tk : Takes X C.Wx) (ha : DA X C (e :: es) f) (hj : j ≤ k := by decide) (hg : Gl X x := by rfl)
    (hdb : (x == ("__debug__" : Str)) = false := by decide) (he : starEach (e :: es) X.env = (false, eval e X.env) :: starEach es X.env := by rfl) (hpl : (backTo pos (starEach es X.env)).any (·.1) = false := by rfl) : DE X C (.Call (.Name x p) (e :: es) [] pos) (eFun m f) := by
  intro hK
  obtain ⟨fa, fd, ps, h1, h2, h3, h4⟩ := (Dx.up hj).ex
  have F := h4 C.κ.dr
  have hκ : (⟨X.K, C.κ.dr, C.cl⟩ : Kx) = C.κ := by
    rw [hK]
  rw [hκ] at F
  refine PE.imp (pe_callG (W := WE C.Wx) F hr hgd hg h1 h2 h3 (fun σ => passAt tk σ) (ha hK) hdb he hpl) ?_
  rintro σ H Q ⟨w, env, Hb, r, p⟩
  unfold eFun at p
  refine lift_bind (R := RL C) r p fun ds w1 Hb1 H1 vs g1 r1 q1 p1 => ?_
  refine ⟨ds, Hb1, r1.same, q1, ?_⟩
  cases e : m ds with
  | ok d =>
    rw [e] at p1
    exact fun Hb' H' v g rd => p1 Hb' H' v g.sub (r1.grow g) rd
  | exc x =>
    rw [e] at p1
    exact fun Hb' H' c dd g rd => p1 Hb' H' c dd g.sub (r1.grow g) rd
  | bad => rw [e] at p1; exact p1
end

/-! ### a def from its body -/
/-- the mirror of a def: np parameters, nN names -/
def mRun (np nN : Nat) (f : S) (ds : List D) : FR := if ds.length = np then match f none (ds.map Sl.dat ++ List.replicate (nN - np) Sl.un) with
    | .rt d _ => .ok d
    | .nx _ _ => .ok .non
    | .exc x _ _ => .exc x
    | _ => .bad
  else .bad
theorem envRel_start {κ : Kx} {fp : Addr → Prop} {H0 Hb H : Hp} {N : List Str} {vs : List V} {ds : List D} (r : RepL κ Hb ds vs) : EnvRel κ fp H0 Hb H (start N vs) (ds.map Sl.dat ++ List.replicate (N.length - ds.length) Sl.un) := by
  have hl := r.length
  have nown : ∀ (i : Nat) (es : List D), (ds.map Sl.dat ++ List.replicate (N.length - ds.length) Sl.un)[i]? ≠ some (Sl.own es) := fun i es e => by
    rcases List.mem_append.mp (List.mem_of_getElem? e) with z | z
    · obtain ⟨d, _, h⟩ := List.mem_map.mp z
      cases h
    · cases (List.mem_replicate.mp z).2
  refine ⟨fun i d e => ?_, fun i es e => absurd e (nown i es), fun i j es fs a _ e => absurd e (nown i es), ?_⟩
  · unfold L2.start
    by_cases h : i < ds.length
    · rw [List.getElem?_append_left (by simpa using h), List.getElem?_map] at e
      cases z : ds[i]? with
      | none => rw [z] at e; cases e
      | some d' =>
        rw [z] at e
        cases e
        obtain ⟨x, hx, rx⟩ := r.get z
        refine ⟨x, ?_, rx⟩
        rw [List.getElem?_append_left (by rw [List.length_map, hl]; exact h), List.getElem?_map, hx]
        rfl
    · rw [List.getElem?_append_right (by simpa using h)] at e
      have := (List.mem_replicate.mp (List.mem_of_getElem? e)).2
      cases this
  · unfold L2.start
    simp only [List.length_append, List.length_map, List.length_replicate, hl]
section
variable {P : Program} {w : World} {K : PySem.W.Frag} {mg : Str → Option Value} {base : Heap} {cl : Nat → Addr}
/-- what a body may lean on -/
structure Bd (cl : Nat → Addr) (k : Nat) (X : Cx) (C : Ct) : Prop where
  cl : C.cl = cl
  hr : Room k X.A
  gd : X.A.guards = some []
  tk : Takes X C.Wx
  po : PassesOwn (model X.prog X.w) X.A X.env X.xe
theorem FnG.of {x qual : Str} {st : Stmt} {f : Addr} {fd : FuncData} {N ps : List Str} {k : Nat} {sp : Sp} (F : Fun K x qual st f fd) (S : FnScope N ps (defScope st)) (len : ∀ vs H Q W, sp vs H Q W → vs.length = ps.length)
    (hbody : ∀ (cdv : Value) (A : Around) (up : List Env) (s : Shared) (H : Hp) (vs : List V) (Q : VK) (W : XK), Room k (A.deeper (envOfC qual (defScope st) s.heap.objs.size f cdv)) → (A.deeper (envOfC qual (defScope st) s.heap.objs.size f cdv)).guards = some [] → sp vs H Q W →
      ∃ t, PSs (cxOf (L2.CX P w) P w K mg base N qual (defScope st) f cdv A up s H W) (defBody st) t ∧ t { nx := fun _ H' => Q .non H', rt := Q } (start N vs) H) : FnG P w K mg base (k + 1) f fd ps sp := by
  obtain ⟨oc, od, kV, doc, pm, an, cdv, ct, osl, rfl, lk, hcd⟩ := F.ex
  constructor
  · exact len
  intro A up s H ar us vs Q W hr hgd e0 hb rv hsp
  -- the frame
  have KX : K.In s.heap := e0.mod.kin.keeps fun b o e => (e0.bs b o e).1
  have lim := e0.mod.nolimit.keeps (h' := s.heap) fun b o e => (e0.bs b o e).1
  refine codeAny_call_function hr.depth (KX _ _ lk) rfl S.co S.gen rfl (PySem.W.codeRec_of KX hcd) (hb _ _ _ _ ?_)
  refine wpAny_newFunctionEnv_cells S.kind ?_ ?_
  · rintro ⟨n, v⟩ hy
    rcases S.par n (List.of_mem_zip hy).1 with q | q
    · exact .inl q
    · exact .inr ⟨q, PySem.W.cellsFrom_some _ _ _ (.inl q)⟩
  intro env he s1 hx
  subst he
  refine ⟨lim.keeps hx.toInCall.keep, codeAny_func ?_⟩
  obtain ⟨t, ht, hq⟩ := hbody cdv A up s H vs Q W (hr.deeper _) hgd hsp
  have I := inv_start (CX := L2.CX P w) (E := W) S hr.hd e0 (len _ _ _ _ hsp) rv hx
  refine wpAny_mono (ht.run [] s1 (start N vs) H _ I hq) ?_ (fun _ _ z => z)
  intro fl s' hs
  cases fl with
  | next =>
    obtain ⟨σ', H', J, q⟩ := hs
    exact ⟨.non, H', J.os, J.bare, J.base, J.hok, rfl, q⟩
  | ret u =>
    obtain ⟨v, σ', H', J, rv', q⟩ := hs
    exact ⟨v, H', J.os, J.bare, J.base, J.hok, rv', q⟩
  | brk => obtain ⟨_, _, _, q⟩ := hs; exact q.elim
  | cont => obtain ⟨_, _, _, q⟩ := hs; exact q.elim
/-- THE RULE: a def by the mirror of its body -/
theorem Def.of {x qual : Str} {st : Stmt} {f : Addr} {fd : FuncData} {N ps : List Str} {k : Nat} {b : S} (F : Fun K x qual st f fd) (S : FnScope N ps (defScope st)) (hm : mg x = some (.ref f)) (hb : Binds K fd ps [])
    (hbody : ∀ (cdv : Value) (A : Around) (up : List Env) (s : Shared) (H : Hp) (W : XK) (C : Ct), Bd cl k (cxOf (L2.CX P w) P w K mg base N qual (defScope st) f cdv A up s H W) C → DB (cxOf (L2.CX P w) P w K mg base N qual (defScope st) f cdv A up s H W) C (defBody st) b) :
    Def P w K mg base cl (k + 1) x (mRun ps.length N.length b) := by
  refine ⟨f, fd, ps, hm, F.kp, hb, fun dr => FnG.of F S ?_ ?_⟩
  · rintro vs H Q W ⟨ds, Hb, s, r, q⟩
    rw [r.length]
    unfold mRun at q
    by_cases h : ds.length = ps.length
    · exact h
    · rw [if_neg h] at q; exact q.elim
  · rintro cdv A up s H vs Q W hr hgd ⟨ds, Hb, hs, r, q⟩
    unfold mRun at q
    by_cases h : ds.length = ps.length
    · rw [if_pos h] at q
      refine ⟨_, hbody cdv A up s H W ⟨⟨K, dr, cl⟩, Gam.no, Hb, H, fun cls d _ H => W cls d H⟩ ⟨rfl, hr, hgd, takes_of rfl rfl rfl rfl, passes_of rfl⟩ rfl, none, _, Hb, ⟨Gr.id hs, trivial, envRel_start r⟩, ?_⟩
      rw [h]
      cases e : b none (ds.map Sl.dat ++ List.replicate (N.length - ps.length) Sl.un) with
      | rt d w1 => rw [e] at q; exact fun Hb' H' v g _ rd => q Hb' H' v g rd
      | nx e1 w1 => rw [e] at q; exact fun Hb' H' σ _ rl => q Hb' H' .non rl.gr .non
      | exc x e1 w1 => rw [e] at q; exact fun Hb' H' σ c dd _ rl xr => q Hb' H' c dd rl.gr xr
      | bk e1 w1 => rw [e] at q; exact q.elim
      | ct e1 w1 => rw [e] at q; exact q.elim
      | bad => rw [e] at q; exact q.elim
    · rw [if_neg h] at q; exact q.elim
end
end DL
set_option Elab.async false
set_option linter.all false
set_option autoImplicit false
set_option maxRecDepth 100000
set_option maxHeartbeats 1000000
/-! DL11: targets of tuples, names in pairs, stars, all, max, min, is None. -/
namespace DL
open PySem PySem.Spec PyProof.Rows L2

/-! ### a slice of a list or a tuple -/
def gCutA : D → Option Int → Option Int → Option D
  | .lst ds, lo, hi => some (.lst (cutD ds lo hi))
  | .tup ds, lo, hi => some (.tup (cutD ds lo hi))
  | _, _, _ => none
section
variable {X : Cx} {C : Ct} {e : Expr} {lo hi : Option Expr} {f : E D} {l u : E (Option Int)} {pos p2 : Pos}
theorem de_cutA (ha : DV X C e f) (hl : DP X C lo l) (hu : DP X C hi u) : DE X C (.Subscript e (.Slice lo hi none p2) pos) (eCut gCutA f l u) := by
  intro hK
  refine PE.imp (pe_slice (sl_tupA.or sl_list) (ha hK) (hl hK) (hu hK)) fun σ H Q ⟨w, env, Hb, r, p⟩ => ?_
  refine lift_bind (R := RV C) r p fun d w1 Hb1 H1 v g1 r1 q1 p1 => lift_bind (R := RO) r1 p1 fun lo w2 Hb2 H2 lo' g2 r2 q2 p2 => lift_bind (R := RO) r2 p2 fun hi w3 Hb3 H3 hi' g3 r3 q3 p3 => ?_
  cases q2
  cases q3
  have b := q1.mono (g2.trans g3)
  cases d <;> first | exact p3.elim | skip
  · rename_i ds
    have b' := b.rep (fun _ z => by cases z)
    obtain ⟨a, xs, rfl, h, rl⟩ := b.tup r3.same
    refine .inl ⟨a, xs, rfl, hK ▸ h, fun hw => ?_, fun hw p hp => ?_⟩
    · have e1 : cutD ds lo hi = ds := by
        unfold cutD
        rw [rl.length] at hw
        rw [hw.1, hw.2, List.drop_zero, Nat.sub_zero, List.take_length]
      have p4 : Post C (RD C) (.ok (.tup (cutD ds lo hi)) w3) env Hb3 H3 σ Q := p3
      rw [e1] at p4
      exact Post.fin (R := RD C) r3 p4 (Gr.id r3.same) b'
    · have g := Gr.alloc (o := .tup (cutV xs lo hi)) r3.same hp
      exact Post.fin (R := RD C) r3 p3 g (.tup (SqT.of upd_same) ((cut_rep rl lo hi).mono g.b))
  · rename_i ds
    obtain ⟨a, xs, rfl, h, rl⟩ := b.lst r3.same
    refine .inr ⟨a, xs, rfl, .of h, fun p hp => ?_⟩
    have g := Gr.alloc (o := .lst (cutV xs lo hi)) r3.same hp
    exact Post.fin (R := RD C) r3 p3 g (.lst upd_same ((cut_rep rl lo hi).mono g.b))
end

/-! ### is None -/
def eIsN (f : E D) : E D := ebind f fun d => eopt (match d with | .non => some (.bl true) | .drw => none | .raw _ => none | _ => some (.bl false))
theorem dec_non {κ : Kx} {fp : Addr → Prop} {Hb H : Hp} {d : D} {v : V} (hs : Same Hb H) (b : Bor κ fp Hb H d v) (h1 : d ≠ .non) (h2 : d ≠ .drw) (h3 : ∀ v, d ≠ .raw v) : v ≠ .non := by
  cases d with
  | non => exact absurd rfl h1
  | drw => exact absurd rfl h2
  | raw u => exact absurd rfl (h3 u)
  | bl k => rw [b.bl]; intro z; cases z
  | int k => rw [b.int]; intro z; cases z
  | str k => rw [b.str]; intro z; cases z
  | tup ds =>
    obtain ⟨a, xs, rfl, _⟩ := b.tup hs
    intro z; cases z
  | lst ds =>
    obtain ⟨a, xs, rfl, _⟩ := b.lst hs
    intro z; cases z
  | exc0 n =>
    have r := b.rep (fun _ z => by cases z)
    intro z; subst z; cases r
  | exc1 n f e =>
    have r := b.rep (fun _ z => by cases z)
    intro z; subst z; cases r
section
variable {X : Cx} {C : Ct} {a b : Expr} {f : E D} {pos : Pos}
theorem de_isN {j : Nat} {p2 : Pos} (ha : DV X C a f) : DE X C (.Compare a [.Is] [.Constant .none j p2] pos) (eIsN f) := by
  intro hK
  refine PE.imp (pe_cmpR op_isN (ha hK) pe_non (nomark _)) fun σ H Q ⟨w, env, Hb, r, p⟩ => lift_bind (R := RV C) r p fun d w1 Hb1 H1 v g1 r1 q1 p1 => ⟨rfl, ?_⟩
  cases d <;> first | exact p1.elim | skip
  · rw [q1.non]
    exact Post.fin (R := RD C) r1 p1 (Gr.id r1.same) .bl
  all_goals
    rw [decide_eq_false (dec_non r1.same q1 (by simp) (by simp) (by simp))]
    exact Post.fin (R := RD C) r1 p1 (Gr.id r1.same) .bl
theorem de_notN {j : Nat} {p2 : Pos} (ha : DV X C a f) : DE X C (.Compare a [.IsNot] [.Constant .none j p2] pos) (eNotV (eIsN f)) := by
  intro hK
  refine PE.imp (pe_cmpR op_notN (ha hK) pe_non (nomark _)) fun σ H Q ⟨w, env, Hb, r, p⟩ => ?_
  unfold eNotV eIsN at p
  have p' : Post C (RD C) (ebind f (fun d => ebind (eopt (match d with | .non => some (D.bl true) | .drw => none | .raw _ => none | _ => some (.bl false))) fun d => eopt (match d with | .bl b => some (.bl (!b)) | _ => none)) w env) env Hb H σ Q := by
    unfold ebind at p ⊢
    cases e : f w env <;> rw [e] at p <;> exact p
  refine lift_bind (R := RV C) r p' fun d w1 Hb1 H1 v g1 r1 q1 p1 => ⟨rfl, ?_⟩
  cases d <;> first | exact p1.elim | skip
  · rw [q1.non]
    exact Post.fin (R := RD C) r1 p1 (Gr.id r1.same) .bl
  all_goals
    rw [decide_eq_false (dec_non r1.same q1 (by simp) (by simp) (by simp))]
    exact Post.fin (R := RD C) r1 p1 (Gr.id r1.same) .bl
end

/-! ### a star in a display -/
def eStar (f : E D) (g : E (List D)) : E (List D) := ebind f fun d => match seqOf d with
  | some xs => ebind g fun ds => epure (xs ++ ds)
  | none => eopt none
section
variable {X : Cx} {C : Ct} {e : Expr} {es : List Expr} {f : E D} {g : E (List D)} {p : Pos}
theorem da_star (he : DE X C e f) (hr : DA X C es g) (hs : starEach (.Starred e p :: es) X.env = (true, eval e X.env) :: starEach es X.env := by rfl) : DA X C (.Starred e p :: es) (eStar f g) := by
  intro hK
  refine PA.imp (StX.pa_star (he hK) (hr hK) hs) fun σ H Q ⟨w, env, Hb, r, p⟩ => ?_
  refine lift_bind (R := RD C) r p fun d w1 Hb1 H1 v g1 r1 q1 p1 => ?_
  have fin : ∀ xs : List D, seqOf d = some xs → ∀ vs : List V, RepL C.κ Hb1 xs vs → lift C (RL C) g σ H1 fun ys H2 => Q (vs ++ ys) H2 := fun xs hx vs rx => by
    rw [hx] at p1
    refine lift_bind (R := RL C) r1 p1 fun ds w2 Hb2 H2 us g2 r2 q2 p2 => ?_
    exact Post.fin (R := RL C) r2 p2 (Gr.id r2.same) ((rx.mono g2.b).append q2)
  cases d with
  | tup ds =>
    cases q1 with
    | tup h1 h2 => exact ⟨_, _, rfl, .inl (hK ▸ Same.sqT r1.same h1), fin _ rfl _ h2⟩
  | lst ds =>
    cases q1 with
    | lst h1 h2 => exact ⟨_, _, rfl, .inr (.of (r1.same _ _ h1)), fin _ rfl _ h2⟩
  | _ => exact p1.elim
end

/-! ### all, any, max, min, sum of a list -/
def boolsOf : List D → Option (List Bool)
  | [] => some []
  | .bl b :: r => match boolsOf r with
    | some bs => some (b :: bs)
    | none => none
  | _ => none
def intsOf : List D → Option (List Int)
  | [] => some []
  | .int b :: r => match intsOf r with
    | some bs => some (b :: bs)
    | none => none
  | _ => none
theorem boolsOf_rep {κ : Kx} {H : Hp} : ∀ {ds : List D} {vs : List V} {bs : List Bool}, RepL κ H ds vs → boolsOf ds = some bs → vs = bs.map V.bl
  | _, _, _, .nil, e => by cases e; rfl
  | _, _, bs, @RepL.cons _ _ d ds x xs r t, e => by
    cases d <;> first | cases e | skip
    unfold boolsOf at e
    cases q : boolsOf ds with
    | none => rw [q] at e; cases e
    | some cs =>
      rw [q] at e
      cases e
      cases r
      rw [boolsOf_rep t q]
      rfl
theorem intsOf_rep {κ : Kx} {H : Hp} : ∀ {ds : List D} {vs : List V} {bs : List Int}, RepL κ H ds vs → intsOf ds = some bs → vs = bs.map V.int
  | _, _, _, .nil, e => by cases e; rfl
  | _, _, bs, @RepL.cons _ _ d ds x xs r t, e => by
    cases d <;> first | cases e | skip
    unfold intsOf at e
    cases q : intsOf ds with
    | none => rw [q] at e; cases e
    | some cs =>
      rw [q] at e
      cases e
      cases r
      rw [intsOf_rep t q]
      rfl
def gAll : List D → Option D
  | [.lst ds] => match boolsOf ds with
    | some bs => some (.bl (bs.all id))
    | none => none
  | _ => none
def gAny : List D → Option D
  | [.lst ds] => match boolsOf ds with
    | some bs => some (.bl (bs.any id))
    | none => none
  | _ => none
def gSum : List D → Option D
  | [.lst ds] => match intsOf ds with
    | some bs => some (.int bs.sum)
    | none => none
  | _ => none
theorem cv_all {κ : Kx} {fp : Addr → Prop} : CallV κ fp (rAll κ.K) gAll := by
  intro Hb H ds d vs Q hs rl e q
  unfold gAll at e
  split at e
  · rename_i es
    obtain ⟨x, rfl, b⟩ := rl.inv1
    obtain ⟨a, xs, rfl, h, r⟩ := b.lst hs
    cases z : boolsOf es with
    | none => rw [z] at e; cases e
    | some bs =>
      rw [z] at e
      cases e
      have := boolsOf_rep r z
      subst this
      exact ⟨a, bs, rfl, .of h, q Hb H _ (Gr.id hs) .bl⟩
  · cases e
theorem cv_any {κ : Kx} {fp : Addr → Prop} : CallV κ fp (rAny κ.K) gAny := by
  intro Hb H ds d vs Q hs rl e q
  unfold gAny at e
  split at e
  · rename_i es
    obtain ⟨x, rfl, b⟩ := rl.inv1
    obtain ⟨a, xs, rfl, h, r⟩ := b.lst hs
    cases z : boolsOf es with
    | none => rw [z] at e; cases e
    | some bs =>
      rw [z] at e
      cases e
      have := boolsOf_rep r z
      subst this
      exact ⟨a, bs, rfl, .of h, q Hb H _ (Gr.id hs) .bl⟩
  · cases e
theorem cv_sum {κ : Kx} {fp : Addr → Prop} : CallV κ fp (rSum κ.K) gSum := by
  intro Hb H ds d vs Q hs rl e q
  unfold gSum at e
  split at e
  · rename_i es
    obtain ⟨x, rfl, b⟩ := rl.inv1
    obtain ⟨a, xs, rfl, h, r⟩ := b.lst hs
    cases z : intsOf es with
    | none => rw [z] at e; cases e
    | some bs =>
      rw [z] at e
      cases e
      have := intsOf_rep r z
      subst this
      exact ⟨a, bs, rfl, .of h, q Hb H _ (Gr.id hs) .int⟩
  · cases e

/-! ### target = value; a, b = x, y -/
def asgS (g : Tg) (f : E D) : S := sbind f fun d w e => match g d e with
  | some e1 => .nx e1 w
  | none => .bad
def parS2 (i j : Nat) (f h : E Sl) : S := fun w e => match f w e with
  | .ok s1 w1 => match h w1 e with
    | .ok s2 w2 => .nx ((e.set i s1).set j s2) w2
    | .exc x w2 => .exc x e w2
    | .bad => .bad
  | .exc x w1 => .exc x e w1
  | .bad => .bad
theorem SlNew.mono {κ : Kx} {fp : Addr → Prop} {Hs Hb H Hb' H' : Hp} {s : Sl} {v : V} (n : SlNew κ Hs Hb H s v) (g : Gr fp Hb H Hb' H') (hf : ∀ a, fp a → Hs a ≠ none) : SlNew κ Hs Hb' H' s v := by
  cases n with
  | dat r => exact .dat (r.mono g.b)
  | own h1 h2 h3 h4 =>
    refine .own h1 (g.h _ _ h2 fun z => hf _ z h1) (h3.mono g.b) ?_
    rename_i a xs ds
    cases z : Hb' a with
    | none => rfl
    | some o =>
      rcases g.n a (by rw [z]; simp) with q | q
      · exact absurd h4 q
      · rw [h2] at q; cases q
section
variable {X : Cx} {C : Ct}
theorem ds_asg {tg e : Expr} {ls : List Nat} {g : Tg} {f : E D} {pos : Pos} (he : DE X C e f) (hg : DG X C tg ls g) (hs : swapsWithSole [tg] e pos.line X.env = pure false := by rfl) (hw : swappedStores [tg] e X.env = pure none := by rfl)
    (h1 : (assignEach [tg] X.env).map (·.2) = [assign tg X.env] := by rfl) : DS X C (.Assign [tg] e pos) (asgS g f) := by
  intro hK
  refine PS.imp (ps_asg (he hK) (hg hK) hs hw h1) fun Dn σ H ⟨w, env, Hb, r, p⟩ => ?_
  refine liftS_bind (R := RD C) (Q1 := fun x H1 => liftG C ls g x σ H1 Dn.nx) r p fun d w1 Hb1 H1 v g1 r1 q1 p1 => ?_
  cases z : g d env with
  | none => rw [z] at p1; exact p1.elim
  | some e1 =>
    rw [z] at p1
    exact ⟨w1, env, Hb1, d, e1, r1, q1, z, fun σ' r' _ => p1 Hb1 H1 σ' (Same.refl _) r'⟩
theorem ds_par {x y : Str} {a b : Expr} (i j : Nat) {f h : E Sl} {px py pt pos : Pos} {kt k2 : Nat} {pt2 : Pos} (ha : DL X C a f) (hb : DL X C b h) (hN : X.N.Nodup) (hij : i ≠ j := by decide) (hc : X.calm = true := by rfl) (hi : X.N[i]? = some x := by rfl) (hj : X.N[j]? = some y := by rfl)
    (hx : X.env.scope.names.lookup x = some .local := by rfl) (hy : X.env.scope.names.lookup y = some .local := by rfl)
    (hw : swappedStores [.Tuple [.Name x px, .Name y py] kt pt] (.Tuple [a, b] k2 pt2) X.env = pure (some [x, y]) := by rfl)
    (hs : swapsWithSole [.Tuple [.Name x px, .Name y py] kt pt] (.Tuple [a, b] k2 pt2) pos.line X.env = pure false := by rfl)
    (s1 : starEach [a, b] X.env = (false, eval a X.env) :: starEach [b] X.env := by rfl) (s2 : starEach [b] X.env = (false, eval b X.env) :: starEach [] X.env := by rfl) :
    DS X C (.Assign [.Tuple [.Name x px, .Name y py] kt pt] (.Tuple [a, b] k2 pt2) pos) (parS2 i j f h) := by
  intro hK
  refine PS.imp (ps_par hc hN hi hj hij hx hy (pa_cons (ha hK) (pa_cons (hb hK) pa_nil s2) s1) hw hs) fun Dn σ H ⟨w, env, Hb, r, p⟩ => ⟨w, env, Hb, r, ?_⟩
  unfold parS2 at p
  cases e : f w env with
  | bad => rw [e] at p; exact p
  | exc x w1 => rw [e] at p; exact fun Hb' H' c dd g k x1 => p Hb' H' σ c dd g.b k x1
  | ok s1 w1 =>
    rw [e] at p
    intro Hb1 H1 v g1 r1 n1
    refine ⟨w1, env, Hb1, r1, ?_⟩
    dsimp only at p
    cases e2 : h w1 env with
    | bad => rw [e2] at p; exact p
    | exc x w2 => rw [e2] at p; exact fun Hb' H' c dd g k x1 => p Hb' H' σ c dd (g1.b.trans g.b) k x1
    | ok s2 w2 =>
      rw [e2] at p
      intro Hb2 H2 u g2 r2 n2
      refine ⟨v, u, rfl, p Hb2 H2 _ (g1.b.trans g2.b) ?_⟩
      have m1 := n1.mono g2 fun a ha => C.Γ.trk r.ok ha
      have ra := r.put i r1 n1
      have rb := r.put i r2 m1
      exact ra.put j rb n2
end
end DL
set_option Elab.async false
set_option linter.all false
set_option autoImplicit false
set_option maxRecDepth 100000
set_option maxHeartbeats 1000000
/-! DL12: what is never reached, numbers of the module, repr. -/
namespace DL
open PySem PySem.Spec PyProof.Rows L2

/-! ### never reached -/
def eBad {α : Type} : E α := fun _ _ => .bad
def sBad : S := fun _ _ => .bad
section
variable {X : Cx} {C : Ct}
theorem de_bad {e : Expr} : DE X C e eBad := fun _ => ⟨fun _ _ _ _ _ _ ⟨_, _, _, _, p⟩ => p.elim⟩
theorem dt_bad {e : Expr} : DT X C e eBad := fun _ => ⟨fun _ _ _ _ _ _ ⟨_, _, _, _, p⟩ => p.elim⟩
theorem ds_bad {st : Stmt} : DS X C st sBad := fun _ => ⟨fun _ _ _ _ _ _ ⟨_, _, _, _, p⟩ => p.elim⟩
theorem db_bad {st : List Stmt} : DB X C st sBad := fun _ => ⟨fun _ _ _ _ _ _ ⟨_, _, _, _, p⟩ => p.elim⟩
theorem de_gI {x : Str} {i : Int} {pos : Pos} (hm : ∃ t, X.mg x = some (.int i t)) (hg : Gl X x := by rfl) (hd : (x == ("__debug__" : Str)) = false := by decide) : DE X C (.Name x pos) (eC (.int i)) := by
  obtain ⟨t, hm⟩ := hm
  exact de_gint hm hg hd
end

/-! ### repr -/
mutual
def okRep : PyData → Bool
  | .none | .bool _ => true
  | .int i => decide (i.natAbs.log2 < 600)
  | .str x => x.cps.toList.all fun c => decide (c < 16 ^ 8)
  | .list xs | .tuple xs => okReps xs
  | .dict _ => false
def okReps : List PyData → Bool
  | [] => true
  | x :: xs => okRep x && okReps xs
end
mutual
theorem okRep_all : ∀ p : PyData, okRep p = true → p.showable = true ∧ p.hasDict = false ∧ p.leavesShort 601 = true
  | .none, _ => ⟨rfl, rfl, rfl⟩
  | .bool _, _ => ⟨rfl, rfl, rfl⟩
  | .int i, h => by
    have h1 : i.natAbs.log2 < 600 := by simpa [okRep] using h
    refine ⟨by simp [PyData.showable]; omega, rfl, ?_⟩
    have h2 := int_text_length_le (k := 600) (by omega) h1
    refine decide_eq_true ?_
    show (Str.ofString (toString i)).length ≤ 601
    rw [PySem.ofString_length]
    exact h2
  | .str x, h => ⟨rfl, rfl, by simpa [okRep, PyData.leavesShort] using h⟩
  | .list xs, h => by
    have := okReps_all xs (by simpa only [okRep] using h)
    simpa only [PyData.showable, PyData.hasDict, PyData.leavesShort] using this
  | .tuple xs, h => by
    have := okReps_all xs (by simpa only [okRep] using h)
    simpa only [PyData.showable, PyData.hasDict, PyData.leavesShort] using this
  | .dict _, h => by simp [okRep] at h
theorem okReps_all : ∀ p : List PyData, okReps p = true → PyData.showableAll p = true ∧ PyData.hasDictAll p = false ∧ PyData.leavesShortAll 601 p = true
  | [], _ => ⟨rfl, rfl, rfl⟩
  | x :: xs, h => by
    have h' : okRep x = true ∧ okReps xs = true := by simpa only [okReps, Bool.and_eq_true] using h
    obtain ⟨a1, a2, a3⟩ := okRep_all x h'.1
    obtain ⟨b1, b2, b3⟩ := okReps_all xs h'.2
    simp [PyData.showableAll, PyData.hasDictAll, PyData.leavesShortAll, a1, a2, a3, b1, b2, b3]
end
def fitRep (p : PyData) : Bool := okRep p && decide (p.weight ≤ 20000) && decide (p.depth ≤ 60)
theorem fitRep_len {p : PyData} (h : fitRep p = true) : p.showable = true ∧ p.hasDict = false ∧ p.depth ≤ 60 ∧ p.shown.length ≤ sizeLine := by
  unfold fitRep at h
  rw [Bool.and_eq_true, Bool.and_eq_true, decide_eq_true_eq, decide_eq_true_eq] at h
  obtain ⟨⟨h1, h2⟩, h3⟩ := h
  obtain ⟨a, b, c⟩ := okRep_all p h1
  refine ⟨a, b, h3, ?_⟩
  have := PyData.shown_le 601 (by omega) p c
  rw [sizeLine_eq]
  have h4 : (601 + 2) * p.weight ≤ 603 * 20000 := Nat.mul_le_mul (by omega) h2
  omega
def rRepr (K : PySem.W.Frag) : List V → Hp → VK → Prop := fun xs H Q => ∃ x p, xs = [x] ∧ Dp K H x p ∧ fitRep p = true ∧ Q (.str p.shown) H
theorem cr_repr {X : Cx} (hg : X.A.guards = some []) (hu : X.A.units + 64 < cLine) : CallR X (.builtin "repr") (rRepr X.K) := by
  intro pins s σ H xs us Q I r h
  obtain ⟨x, p, rfl, hd, hf, q⟩ := h
  obtain ⟨u, rfl, ru⟩ := vals1 r
  obtain ⟨as, rd⟩ := Dp.reads I p x u hd ru
  obtain ⟨f1, f2, f3, f4⟩ := fitRep_len hf
  have big : ∀ a, u = .ref a → wpAny (model X.prog X.w) X.A (call (.builtin "repr") [u]) (EP X pins σ Q) X.xe s := by
    rintro a rfl
    exact repr_of_reads' rd f1 (PyData.noDict_hsm f2) hg (by omega) (fun _ _ e => e) (fun h' u tk hk => ⟨.str p.shown, H, I.kept (t' := tk) hk, ⟨_, rfl⟩, q⟩) f4
  cases p with
  | none => cases rd; exact PySem.P.repr_of_none ⟨.str _, H, I.tok _, ⟨_, rfl⟩, q⟩
  | bool b => cases rd; exact PySem.P.repr_of_bool ⟨.str _, H, I.tok _, ⟨_, rfl⟩, q⟩
  | int i =>
    cases rd
    have : i.natAbs.log2 < 1920 := by simpa [PyData.showable] using f1
    exact PySem.P.repr_of_int this ⟨.str _, H, I.tok _, ⟨_, rfl⟩, q⟩
  | str t => cases rd; exact PySem.P.repr_of_str ⟨.str _, H, I.tok _, ⟨_, rfl⟩, q⟩ f4
  | list xs =>
    obtain ⟨a, rfl⟩ := isRef_of_reads rd rfl
    exact big a rfl
  | tuple xs =>
    obtain ⟨a, rfl⟩ := isRef_of_reads rd rfl
    exact big a rfl
  | dict kvs => simp [PyData.hasDict] at f2
def gRepr : List D → Option D
  | [d] => match d.py with
    | some p => if fitRep p then some (.str p.shown) else none
    | none => none
  | _ => none
theorem cv_repr {κ : Kx} {fp : Addr → Prop} : CallV κ fp (rRepr κ.K) gRepr := by
  intro Hb H ds d vs Q hs rl e q
  unfold gRepr at e
  split at e
  · rename_i dd
    obtain ⟨x, rfl, b⟩ := rl.inv1
    cases z : dd.py with
    | none => rw [z] at e; cases e
    | some p =>
      rw [z] at e
      obtain ⟨h1, rfl⟩ := if_some e
      exact ⟨x, p, rfl, b.dp hs z, h1, q Hb H _ (Gr.id hs) .str⟩
  · cases e

/-! ### two values that are the same data -/
mutual
def D.same : D → D → Bool
  | .non, .non => true
  | .bl a, .bl b => a == b
  | .int a, .int b => decide (a = b)
  | .str a, .str b => decide (a.cps.toList = b.cps.toList)
  | .tup a, .tup b => D.sames a b
  | .lst a, .lst b => D.sames a b
  | _, _ => false
def D.sames : List D → List D → Bool
  | [], [] => true
  | a :: r, b :: t => D.same a b && D.sames r t
  | _, _ => false
end
theorem str_ext {a b : Str} (h : a.cps.toList = b.cps.toList) : a = b := by
  obtain ⟨⟨x⟩⟩ := a
  obtain ⟨⟨y⟩⟩ := b
  cases h
  rfl
mutual
theorem D.same_eq : ∀ a b : D, D.same a b = true → a = b
  | .non, .non, _ => rfl
  | .bl a, .bl b, h => by simp [D.same] at h; rw [h]
  | .int a, .int b, h => by simp [D.same] at h; rw [h]
  | .str a, .str b, h => by
    have : a.cps.toList = b.cps.toList := by simpa only [D.same, decide_eq_true_eq] using h
    rw [str_ext this]
  | .tup a, .tup b, h => by rw [D.sames_eq a b (by simpa only [D.same] using h)]
  | .lst a, .lst b, h => by rw [D.sames_eq a b (by simpa only [D.same] using h)]
  | .non, .bl _, h | .non, .int _, h | .non, .str _, h | .non, .tup _, h | .non, .lst _, h | .non, .drw, h | .non, .raw _, h | .non, .exc0 _, h | .non, .exc1 _ _ _, h => by simp [D.same] at h
  | .bl _, .non, h | .bl _, .int _, h | .bl _, .str _, h | .bl _, .tup _, h | .bl _, .lst _, h | .bl _, .drw, h | .bl _, .raw _, h | .bl _, .exc0 _, h | .bl _, .exc1 _ _ _, h => by simp [D.same] at h
  | .int _, .non, h | .int _, .bl _, h | .int _, .str _, h | .int _, .tup _, h | .int _, .lst _, h | .int _, .drw, h | .int _, .raw _, h | .int _, .exc0 _, h | .int _, .exc1 _ _ _, h => by simp [D.same] at h
  | .str _, .non, h | .str _, .bl _, h | .str _, .int _, h | .str _, .tup _, h | .str _, .lst _, h | .str _, .drw, h | .str _, .raw _, h | .str _, .exc0 _, h | .str _, .exc1 _ _ _, h => by simp [D.same] at h
  | .tup _, .non, h | .tup _, .bl _, h | .tup _, .int _, h | .tup _, .str _, h | .tup _, .lst _, h | .tup _, .drw, h | .tup _, .raw _, h | .tup _, .exc0 _, h | .tup _, .exc1 _ _ _, h => by simp [D.same] at h
  | .lst _, .non, h | .lst _, .bl _, h | .lst _, .int _, h | .lst _, .str _, h | .lst _, .tup _, h | .lst _, .drw, h | .lst _, .raw _, h | .lst _, .exc0 _, h | .lst _, .exc1 _ _ _, h => by simp [D.same] at h
  | .drw, _, h => by simp [D.same] at h
  | .exc0 _, _, h => by simp [D.same] at h
  | .exc1 _ _ _, _, h => by simp [D.same] at h
  | .raw _, _, h => by simp [D.same] at h
theorem D.sames_eq : ∀ a b : List D, D.sames a b = true → a = b
  | [], [], _ => rfl
  | a :: r, b :: t, h => by
    have h' : D.same a b = true ∧ D.sames r t = true := by simpa only [D.sames, Bool.and_eq_true] using h
    rw [D.same_eq a b h'.1, D.sames_eq r t h'.2]
  | [], _ :: _, h => by simp [D.sames] at h
  | _ :: _, [], h => by simp [D.sames] at h
end
/-- the mirror of _law_same where the two are the same -/
def mSame : List D → FR
  | [a, b] => match a.py with
    | some p => if fitRep p && D.same a b then .ok (.bl true) else .bad
    | none => .bad
  | _ => .bad
/-- == of two texts -/
def dEqS : D → D → Option D
  | .str a, .str b => some (.bl (decide (V.str a = V.str b)))
  | _, _ => none
theorem od_eqS {κ : Kx} : OpD κ rEq dEqS := by
  intro Hb H x y d v u Q hs rx ry e q
  cases x <;> cases y <;> first | cases e | skip
  cases rx
  cases ry
  exact ⟨rfl, q Hb H _ (Gr.id hs) .bl⟩
theorem de_eqS {X : Cx} {C : Ct} {a b : Expr} {f h : E D} {pos : Pos} (ha : DE X C a f) (hb : DE X C b h) : DE X C (.Compare a [.Eq] [b] pos) (eop2 dEqS f h) := de_cmp op_eq od_eqS ha hb
/-- its body's own mirror -/
def bSame : S := sbind (eop2 dEqS (eCall gRepr (eCons (eVarV 0) eNil)) (eCall gRepr (eCons (eVarV 1) eNil))) fun d w _ => .rt d w
theorem mSame_le (ds : List D) : mSame ds = .bad ∨ mSame ds = mRun 2 2 bSame ds := by
  unfold mSame
  split
  · rename_i a b
    cases e : a.py with
    | none => exact .inl rfl
    | some p =>
      dsimp only
      cases z : fitRep p && D.same a b with
      | false => exact .inl rfl
      | true =>
        rw [Bool.and_eq_true] at z
        have := D.same_eq a b z.2
        subst this
        refine .inr ?_
        have h1 : gRepr [a] = some (.str p.shown) := by
          unfold gRepr
          simp only [e, z.1, if_true]
        have h2 : dEqS (.str p.shown) (.str p.shown) = some (.bl true) := by
          show some (D.bl (decide (V.str p.shown = V.str p.shown))) = _
          rw [decide_eq_true rfl]
        have hv : ∀ (i : Nat), i = 0 ∨ i = 1 → eVarV i none [Sl.dat a, Sl.dat a] = .ok a none := fun i hi => by
          rcases hi with rfl | rfl <;> rfl
        have hc : ∀ (i : Nat), i = 0 ∨ i = 1 → eCall gRepr (eCons (eVarV i) eNil) none [Sl.dat a, Sl.dat a] = .ok (.str p.shown) none := fun i hi => by
          unfold eCall eCons eNil ebind epure
          rw [hv i hi]
          dsimp only
          rw [h1]
          rfl
        unfold mRun bSame sbind
        have hb : eop2 dEqS (eCall gRepr (eCons (eVarV 0) eNil)) (eCall gRepr (eCons (eVarV 1) eNil)) none [Sl.dat a, Sl.dat a] = .ok (.bl true) none := by
          unfold eop2 ebind
          rw [hc 0 (.inl rfl)]
          dsimp only
          rw [hc 1 (.inr rfl)]
          dsimp only
          rw [h2]
          rfl
        rw [if_pos rfl]
        have he : List.map Sl.dat [a, a] ++ List.replicate (2 - 2) Sl.un = [Sl.dat a, Sl.dat a] := rfl
        rw [if_pos (show [a, a].length = 2 from rfl), he, hb]
  · exact .inl rfl
end DL
set_option Elab.async false
set_option linter.all false
set_option autoImplicit false
set_option maxRecDepth 100000
set_option maxHeartbeats 1000000
/-! DL13: short words for the printed derivations. -/
namespace DL
open PySem PySem.Spec PyProof.Rows L2
section
variable {X : Cx} {C : Ct} {cl : Nat → Addr} {k : Nat}
theorem Bd.blk (B : Bd cl k X C) {s : Shared} {H : Hp} {scope : Scope} {cenv : Env} {fp : List Addr} : Bd cl k (X.blk s H scope cenv fp) C.nox := ⟨B.cl, B.hr, B.gd, takes0, PassesOwn.never⟩
theorem Bd.hu (B : Bd cl k X C) : X.A.units + 64 < cLine := B.hr.units
theorem Bd.hu1 (B : Bd cl k X C) : X.A.units + 65 < cLine := by have := B.hr.un; omega
variable {a b e : Expr} {es : List Expr} {f h : E D} {g : E (List D)} {x : Str} {p pos : Pos}
theorem de_fn {m : List D → FR} {j : Nat} (B : Bd cl k X C) (Dx : Def X.prog X.w X.K X.mg X.base cl j x m) (ha : DA X C (e :: es) g) (hj : j ≤ k := by decide) (hg : Gl X x := by rfl)
    (hdb : (x == ("__debug__" : Str)) = false := by decide) (he : starEach (e :: es) X.env = (false, eval e X.env) :: starEach es X.env := by rfl) (hpl : (backTo pos (starEach es X.env)).any (·.1) = false := by rfl) : DE X C (.Call (.Name x p) (e :: es) [] pos) (eFun m g) :=
  de_call (B.cl.symm ▸ Dx) B.hr B.gd B.tk ha hj hg hdb he hpl
theorem de_EQ (B : Bd cl k X C) (ha : DV X C a f) (hb : DV X C b h) : DE X C (.Compare a [.Eq] [b] pos) (eop2 dEq f h) := de_eq B.hu ha hb
theorem de_NE (B : Bd cl k X C) (ha : DV X C a f) (hb : DV X C b h) : DE X C (.Compare a [.NotEq] [b] pos) (eop2 dNe f h) := de_ne B.hu ha hb
theorem dt_EQ (B : Bd cl k X C) (ha : DV X C a f) (hb : DV X C b h) : DT X C (.Compare a [.Eq] [b] pos) (eB (eop2 dEq f h)) := dt_eq B.hu ha hb
theorem dt_NE (B : Bd cl k X C) (ha : DV X C a f) (hb : DV X C b h) : DT X C (.Compare a [.NotEq] [b] pos) (eB (eop2 dNe f h)) := dt_ne B.hu ha hb
theorem de_IN (B : Bd cl k X C) (ha : DV X C a f) (hb : DV X C b h) (hm : behindInMarks .In b = false := by rfl) : DE X C (.Compare a [.In] [b] pos) (eop2 dIn f h) := de_in B.hu1 ha hb hm
theorem de_NI (B : Bd cl k X C) (ha : DV X C a f) (hb : DV X C b h) (hm : behindInMarks .NotIn b = false := by rfl) : DE X C (.Compare a [.NotIn] [b] pos) (eop2 dNotIn f h) := de_notIn B.hu1 ha hb hm
/-- built-ins -/
theorem de_len (hm : X.mg "len" = none) (ha : DVA X C (e :: es) g) (hg : Gl X "len" := by rfl) (he : starEach (e :: es) X.env = (false, eval e X.env) :: starEach es X.env := by rfl) (hpl : (backTo pos (starEach es X.env)).any (·.1) = false := by rfl) :
    DE X C (.Call (.Name "len" p) (e :: es) [] pos) (eCall gLen g) := fun hK =>
  PE.imp (pe_callB (r := fun xs H Q => (∃ p ys, xs = [.ref p] ∧ (SqL X.K H p ys ∨ SqT X.K H p ys) ∧ Q (.int ys.length) H) ∨ ∃ z, xs = [.str z] ∧ z.length ≤ sizeLine ∧ Q (.int z.length) H)
    (by
      intro pins s σ H xs us Q I r q
      rcases q with q | ⟨z, rfl, hz, q⟩
      · exact call_len_seq pins s σ H xs us Q I r q
      · obtain ⟨u, rfl, ru⟩ := vals1 r
        exact call_len pins s σ H [.str z] [u] Q I (.cons ru .nil) ⟨.str z, z.length, rfl, by first | exact ⟨rfl, hz⟩ | exact ⟨hz, rfl⟩ | exact .inr (.inl ⟨_, rfl, hz, rfl⟩) | simp [LenV, hz], q⟩) hg hm boot_len (ha hK) (by decide) (by decide) he hpl)
    fun σ H Q => tcb_V (hK ▸ cv_len)
theorem de_abs (hm : X.mg "abs" = none) (ha : DVA X C (e :: es) g) (hg : Gl X "abs" := by rfl) (he : starEach (e :: es) X.env = (false, eval e X.env) :: starEach es X.env := by rfl) (hpl : (backTo pos (starEach es X.env)).any (·.1) = false := by rfl) :
    DE X C (.Call (.Name "abs" p) (e :: es) [] pos) (eCall gAbs g) := de_callB (r := fun _ => _) call_abs cv_abs (by rfl) hm ha hg (by decide) (by decide) he hpl
theorem de_max2 (hm : X.mg "max" = none) (ha : DVA X C (e :: es) g) (hc : X.calm = true := by rfl) (hg : Gl X "max" := by rfl) (he : starEach (e :: es) X.env = (false, eval e X.env) :: starEach es X.env := by rfl) (hpl : (backTo pos (starEach es X.env)).any (·.1) = false := by rfl) :
    DE X C (.Call (.Name "max" p) (e :: es) [] pos) (eCall gMax2 g) := de_callB (r := fun _ => _) (call_max2 hc) cv_max2 (by rfl) hm ha hg (by decide) (by decide) he hpl
theorem de_min2 (hm : X.mg "min" = none) (ha : DVA X C (e :: es) g) (hc : X.calm = true := by rfl) (hg : Gl X "min" := by rfl) (he : starEach (e :: es) X.env = (false, eval e X.env) :: starEach es X.env := by rfl) (hpl : (backTo pos (starEach es X.env)).any (·.1) = false := by rfl) :
    DE X C (.Call (.Name "min" p) (e :: es) [] pos) (eCall gMin2 g) := de_callB (r := fun _ => _) (call_min2 hc) cv_min2 (by rfl) hm ha hg (by decide) (by decide) he hpl
theorem de_all (hm : X.mg "all" = none) (ha : DVA X C (e :: es) g) (hc : X.calm = true := by rfl) (hg : Gl X "all" := by rfl) (he : starEach (e :: es) X.env = (false, eval e X.env) :: starEach es X.env := by rfl) (hpl : (backTo pos (starEach es X.env)).any (·.1) = false := by rfl) :
    DE X C (.Call (.Name "all" p) (e :: es) [] pos) (eCall gAll g) := de_callB (r := fun K => rAll K) (cr_all hc) cv_all (by rfl) hm ha hg (by decide) (by decide) he hpl
theorem de_any (hm : X.mg "any" = none) (ha : DVA X C (e :: es) g) (hc : X.calm = true := by rfl) (hg : Gl X "any" := by rfl) (he : starEach (e :: es) X.env = (false, eval e X.env) :: starEach es X.env := by rfl) (hpl : (backTo pos (starEach es X.env)).any (·.1) = false := by rfl) :
    DE X C (.Call (.Name "any" p) (e :: es) [] pos) (eCall gAny g) := de_callB (r := fun K => rAny K) (cr_any hc) cv_any (by rfl) hm ha hg (by decide) (by decide) he hpl
theorem de_sum (hm : X.mg "sum" = none) (ha : DVA X C (e :: es) g) (hc : X.calm = true := by rfl) (hg : Gl X "sum" := by rfl) (he : starEach (e :: es) X.env = (false, eval e X.env) :: starEach es X.env := by rfl) (hpl : (backTo pos (starEach es X.env)).any (·.1) = false := by rfl) :
    DE X C (.Call (.Name "sum" p) (e :: es) [] pos) (eCall gSum g) := de_callB (r := fun K => rSum K) (cr_sum hc) cv_sum (by rfl) hm ha hg (by decide) (by decide) he hpl
theorem de_repr (B : Bd cl k X C) (hm : X.mg "repr" = none) (ha : DVA X C (e :: es) g) (hg : Gl X "repr" := by rfl) (he : starEach (e :: es) X.env = (false, eval e X.env) :: starEach es X.env := by rfl) (hpl : (backTo pos (starEach es X.env)).any (·.1) = false := by rfl) :
    DE X C (.Call (.Name "repr" p) (e :: es) [] pos) (eCall gRepr g) := de_callB (r := fun K => rRepr K) (cr_repr B.gd B.hu) cv_repr (by rfl) hm ha hg (by decide) (by decide) he hpl
theorem de_int1 (hm : X.mg "int" = none) (ha : DVA X C (e :: es) g) (hg : Gl X "int" := by rfl) (he : starEach (e :: es) X.env = (false, eval e X.env) :: starEach es X.env := by rfl) (hpl : (backTo pos (starEach es X.env)).any (·.1) = false := by rfl) :
    DE X C (.Call (.Name "int" p) (e :: es) [] pos) (eCall gInt g) := de_callTy (r := fun _ => _) call_int1 cv_int (by rfl) hm ha hg (by decide) (by decide) he hpl
theorem de_tupC (hm : X.mg "tuple" = none) (ha : DVA X C (e :: es) g) (hg : Gl X "tuple" := by rfl) (he : starEach (e :: es) X.env = (false, eval e X.env) :: starEach es X.env := by rfl) (hpl : (backTo pos (starEach es X.env)).any (·.1) = false := by rfl) :
    DE X C (.Call (.Name "tuple" p) (e :: es) [] pos) (eCall gTuple g) := de_callTy (r := fun K xs H Q => ∃ p ys, xs = [.ref p] ∧ ((SqL K H p ys ∧ ∀ l, H l = none → Q (.ref l) (upd H l (.tup ys))) ∨ (SqT K H p ys ∧ Q (.ref p) H))) call_tuple_of cv_tuple (by rfl) hm ha hg (by decide) (by decide) he hpl
theorem do_lstC (hm : X.mg "list" = none) (ha : DVA X C (e :: es) g) (hg : Gl X "list" := by rfl) (he : starEach (e :: es) X.env = (false, eval e X.env) :: starEach es X.env := by rfl) (hpl : (backTo pos (starEach es X.env)).any (·.1) = false := by rfl) :
    DO X C (.Call (.Name "list" p) (e :: es) [] pos) (eCall gList g) := do_callTy (r := fun K xs H Q => ∃ p ys, xs = [.ref p] ∧ (SqL K H p ys ∨ SqT K H p ys) ∧ ∀ l, H l = none → Q (.ref l) (upd H l (.lst ys))) call_list_of co_list (by rfl) hm ha hg (by decide) (by decide) he hpl
theorem de_gcd (hm : X.mg "gcd" = some (.builtin "math.gcd")) (ha : DVA X C (e :: es) g) (hg : Gl X "gcd" := by rfl) (he : starEach (e :: es) X.env = (false, eval e X.env) :: starEach es X.env := by rfl) (hpl : (backTo pos (starEach es X.env)).any (·.1) = false := by rfl) :
    DE X C (.Call (.Name "gcd" p) (e :: es) [] pos) (eCall gGcd g) := de_callG (r := fun _ => rGcd) cr_gcd cv_gcd hm ha hg (by decide) he hpl
end
end DL
set_option Elab.async false
set_option linter.all false
set_option autoImplicit false
set_option maxRecDepth 100000
set_option maxHeartbeats 2000000
/-! DX: exceptions: an own class without own __init__; one over ValueError's chain whose __init__ says super().__init__(text) and sets one field. -/
namespace DL
open PySem PySem.Spec PyProof.Rows L2 PySem.W

/-- the field's promise of such an __init__ -/
def spInit (C : Addr) (fld : Str) : Sp := fun vs H Q _ => ∃ a y, vs = [.ref a, y] ∧ H a = some (exo a C none) ∧ ∀ dx, H dx = none → dx ≠ a → Q .non (upd (upd H dx (exd dx [(fld, y)])) a (exo a C (some dx)))
/-- what of the text the def must have -/
structure SupI (P : Program) (K : Frag) (mg : Str → Option Value) (f C : Addr) (st : Stmt) (fld : Str) (fd : FuncData) : Prop where
  ex : ∃ (oc : Value) (od : Option Addr) (kV doc pm ct : Value) (an : Option Addr) (osl : Array (Option Value)) (cc cda : Addr) (name qual : Str) (p0 p1 p2 p3 p4 p5 q1 q2 q3 q4 : Pos) (j : Nat) (txt : Str) (ar : Arg) (vs : Array Value) (file : Str) (tf : Tok) (ccl cl' : Value) (cdd cld : Option Addr) (ccs csl : Array (Option Value)),
    fd = ksFn name qual (defArgs st) (defBody st) (defScope st) .none kV doc pm an (.ref cda) ct cc ∧ K.lookup f = some ⟨oc, od, .func fd, osl⟩ ∧ codeIn K (.ref cda) qual = true ∧
    defBody st = [.Expr (.Call (.Attribute (.Call (.Name "super" p0) [] [] p1) "__init__" p2) [.Constant (.str txt) j p3] [] p4) p5, .Assign [.Attribute (.Name "self" q1) fld q2] (.Name "part" q3) q4] ∧
    ((defArgs st).posonlyargs ++ (defArgs st).args).head? = some ar ∧ ar.arg = ("self" : Str) ∧ K.lookup cda = some ⟨ccl, cdd, .fields vs, ccs⟩ ∧ vs[2]? = some (.str file tf) ∧ ((P.main.file : Str) == file) = true ∧ K.lookup cc = some ⟨cl', cld, .cell (some (.ref C)), csl⟩ ∧
    (∀ L : Addr, ∃ pl : Sem Bool, eval (.Call (.Attribute (.Call (.Name "super" p0) [] [] p1) "__init__" p2) [.Constant (.str txt) j p3] [] p4) (ksEnv qual (defScope st) L f (.ref cda) cc) = (do
      let ov ← attributeBase (.Call (.Name "super" p0) [] [] p1) "__init__" (ksEnv qual (defScope st) L f (.ref cda) cc) (eval (.Call (.Name "super" p0) [] [] p1) (ksEnv qual (defScope st) L f (.ref cda) cc))
      standAt p2.atName
      let (g, first) ← holding [ov] (getMethod ov "__init__" pl)
      callWith p4 g first (backTo p4 (starEach [.Constant (.str txt) j p3] (ksEnv qual (defScope st) L f (.ref cda) cc))) [])) ∧
    (∀ L : Addr, swapsWith (.Call (.Attribute (.Call (.Name "super" p0) [] [] p1) "__init__" p2) [.Constant (.str txt) j p3] [] p4) none p5.line (ksEnv qual (defScope st) L f (.ref cda) cc) = pure false) ∧
    (∀ L : Addr, interactive (ksEnv qual (defScope st) L f (.ref cda) cc) = false) ∧
    (∀ L : Addr, swapsWith (.Name "part" q3) (some (.Attribute (.Name "self" q1) fld q2)) q4.line (ksEnv qual (defScope st) L f (.ref cda) cc) = pure false)
  kind : (defScope st).kind = .function
  co : (defScope st).isCoroutine = false
  gen : (defScope st).isGenerator = false
  nc : ∀ y ∈ (defScope st).names, y.2 ≠ .cell
  self : (defScope st).names.lookup ("self" : Str) = some .local
  part : (defScope st).names.lookup ("part" : Str) = some .local
  sup : (defScope st).names.lookup ("super" : Str) = some .globalImplicit
  cls : (defScope st).names.lookup ("__class__" : Str) = some .free
  fr : ∀ y ∈ (defScope st).names, y.2 = .free → y.1 = ("__class__" : Str)
  top : (P.main.scope.names.lookup ("super" : Str)).isSome = false
  ms : mg "super" = none
  opq : nsIn K cStatics "thirdparty.any" = some none
  hm : ks_superIn K C C "__init__" = some (some (.builtin "ValueError.__init__"))
  hB : subIn K (.ref C) (.type "ValueError") = some true
  hC : mroIn K C (.ref C) = some true
  hno : findIn K (.ref C) fld = some none

theorem clsIn_at {K : Frag} {h : Heap} {C : Addr} {cd : ClassData} (X : K.In h) (e : clsIn K C = some cd) : ∃ o, h.get? C = some o ∧ o.data = .cls cd := by
  unfold clsIn at e
  split at e
  · rename_i c d cd' sl ho
    cases e
    exact ⟨_, X _ _ ho, rfl⟩
  · cases e
section
variable {P : Program} {w : World} {K : Frag} {mg : Str → Option Value} {base : Heap}
/-- ValueError.__init__ bound to e, called -/
theorem call_mwVE {A : Around} {E : Value → Shared → Prop} {h : Heap} {g : Array GenState} {d : Drawn} {t : Nat} {os : OsState} {nm q : Str} {C N u e t0 : Addr} {bs bm : List Value} {hdct : Bool} {sn : List Str} {sub : List Value} {ab : Bool} {col : Option Bool} {dd : Option Addr} {k0 k1 k2 k3 k5 : Option Value} {rest : List Value} {Q : Value → Shared → Prop}
    (hC : h.get? C = some (excClassObj nm q C N bs bm hdct sn sub ab col dd k0 k1 k2 k3 k5 "ValueError.__new__")) (he : h.get? e = some (HandSPX.excO C t0)) (hu : h.get? u = some (kxs_mw "ValueError.__init__" e)) (hrest : rest.length ≤ sizeLine)
    (hq : ∀ h' t1, (∀ b o, b ≠ e → h.get? b = some o → h'.get? b = some o) → h'.get? e = some (HandSPX.excO C t1) → Q .none ⟨h', g, d, t, os⟩) : wpAny (model P w) A (call (.ref u) rest) Q E ⟨h, g, d, t, os⟩ := by
  refine wpAny_call (codeAny_of_tree ?_)
  show wpAny _ A.in1 (callAny (.ref u) ⟨rest, []⟩) _ _ _
  simp only [callAny]
  refine wpAny_bind (wpAny_load hu ?_)
  have b1 : (Value.type "method-wrapper" == Value.type "method" || Value.type "method-wrapper" == Value.type "builtin_function_or_method" || Value.type "method-wrapper" == Value.type "method-wrapper") = true := by decide
  simp only [kxs_mw, b1, if_true]
  refine KFB.if_so (by decide) ?_
  refine wpAny_bind (check_bound_init F.excBase_ValueError.toExcCallFacts hC he rfl ?_)
  refine wpAny_bind (wpAny_pure (wpAny_pure ?_))
  refine ⟨plainId_quiet F.excBase_ValueError.init.plain _, codeAny_builtin F.excBase_ValueError.initEntry ?_⟩
  rw [Around.under_plainId F.excBase_ValueError.init.plain _]
  wp_walk
  refine hq _ h.objs.size ?_ ?_
  · intro b o hb ho
    rw [Heap.get?_update_other _ _ (Ne.symm hb)]
    exact Heap.get?_push_of_some _ ho
  · rw [Heap.get?_update_self _ (Heap.get?_push_of_some _ he) rfl]
    rfl
theorem init_ok {f C : Addr} {st : Stmt} {fld : Str} {fd : FuncData} {k : Nat} (T : OexC K C) (S : SupI P K mg f C st fld fd) : FnOk P w K mg base CX0 (k + 1) f fd ["self", "part"] (spInit C fld) := by
  obtain ⟨oc, od, kV, doc, pm, ct, an, osl, cc, cda, name, qual, p0, p1, p2, p3, p4, p5, q1, q2, q3, q4, j, txt, ar, vsf, file, tf, ccl, cl', cdd, cld, ccs, csl, rfl, lk, hcd, hbody, hp, har, hcode, hvs, hfile, hcell, hev, hsw, hin, hsw2⟩ := S.ex
  constructor
  · rintro vs H Q E ⟨a, y, rfl, _⟩
    rfl
  intro A outer s H args us vs Q E hr e0 hb rv hsp
  obtain ⟨a, y, rfl, ha, hq⟩ := hsp
  have KX : K.In s.heap := e0.mod.kin.keeps fun b o e => (e0.bs b o e).1
  have lim := e0.mod.nolimit.keeps (h' := s.heap) fun b o e => (e0.bs b o e).1
  obtain ⟨u1, u2, rfl, ru1, ru2⟩ := vals2 rv
  obtain rfl : u1 = Value.ref a := ru1
  have hloc : ∀ x ∈ (["self", "part"] : List Str).zip [Value.ref a, u2], (defScope st).names.lookup x.1 = some .local := by
    intro x hx
    simp only [List.zip_cons_cons, List.zip_nil_right, List.mem_cons, List.not_mem_nil, or_false] at hx
    rcases hx with rfl | rfl
    · exact S.self
    · exact S.part
  refine ks_codeAny_call_defAt (fd := ksFn name qual (defArgs st) (defBody st) (defScope st) .none kV doc pm an (.ref cda) ct cc) (body := defBody st) hr.depth (KX _ _ lk) rfl lim (codeRec_of KX hcd) rfl hb S.nc hloc ?_ S.co S.gen S.kind
  intro h₀ hns hk
  obtain ⟨ENV, hENV⟩ : ∃ E : Env, E = ksEnv qual (defScope st) s.heap.objs.size f (.ref cda) cc := ⟨_, rfl⟩
  have hEnv2 : callEnv (ksFn name qual (defArgs st) (defBody st) (defScope st) .none kV doc pm an (.ref cda) ct cc) s.heap.objs.size f = ENV := hENV.symm
  rw [hEnv2]
  have kd : ∀ x : Str, ENV.kindOf x = (defScope st).names.lookup x := fun x => by subst hENV; rfl
  have eL : ENV.locals = s.heap.objs.size := by subst hENV; rfl
  have eF : ENV.frame = some s.heap.objs.size := by subst hENV; rfl
  have eC : ENV.cells = [(("__class__" : Str), cc)] := by subst hENV; rfl
  have eK : ENV.scope.kind = .function := by subst hENV; exact S.kind
  have eS : ENV.scope = defScope st := by subst hENV; rfl
  have eG : ENV.globals = mainGlobals := by subst hENV; rfl
  have eB : ENV.builtins = builtinsNs := by subst hENV; rfl
  let X : Cx := { prog := P, w := w, K := K, mg := mg, base := base, A := A.deeper ENV, N := ["self", "part"], s_0 := s, H_0 := H, env := ENV, outer := outer, stack := ENV :: outer, ex := [], fn := fun _ => false, calm := true, pn := [], xe := fun _ _ => False }
  have ccH : H cc = none := (e0.bs _ _ (e0.mod.kin _ _ hcell)).2
  have only : ∀ (x : Str) (c : Addr), ENV.cells.lookup x = some c → x = ("__class__" : Str) ∧ c = cc := fun x c h => by
    rw [eC] at h
    by_cases e : x = ("__class__" : Str)
    · subst e
      exact ⟨rfl, (Option.some.inj h).symm⟩
    · have : (x == ("__class__" : Str)) = false := by simpa using e
      simp only [List.lookup, this] at h
      cases h
  have I : Inv X [] [some (.ref a), some y] H { s with heap := h₀, toks := s.toks + ((["self", "part"] : List Str).zip [Value.ref a, u2]).length } := by
    refine ⟨⟨e0.mod, eK, eG, eB, Nat.le_of_eq eL.symm, ?_, ?_, fun x c z => (Bool.noConfusion z), fun _ => hr.hd, Around.frames_deeper e0.frames, .inr ⟨rfl, by show ENV.frame = some ENV.locals; rw [eF, eL]⟩, fun b z => (nomatch z), e0.bs, e0.bsz, fun b o _ z => (nomatch z), fun b z => (nomatch z), e0.funs, e0.frf⟩,
      rfl, e0.bare, Un.kept hk, ?_, ?_, ?_, ?_, fun p hp => (nomatch hp), e0.hok.kept hk, rfl⟩
    · intro x z c h1 h2
      rw [(only x c h1).1, (only z c h2).1]
    · intro x hx
      have hx' : (defScope st).names.lookup x = some .free := by
        rcases hx with hx | hx
        · rw [show X.env.kindOf x = _ from kd x] at hx
          exact absurd rfl (S.nc _ (PySem.mem_of_lookup hx))
        · rw [show X.env.kindOf x = _ from kd x] at hx
          exact hx
      have e := S.fr _ (PySem.mem_of_lookup hx') rfl
      refine ⟨cc, ?_⟩
      show ENV.cells.lookup x = some cc
      rw [eC, show x = ("__class__" : Str) from e]
      rfl
    · refine ⟨_, by show h₀.Ns ENV.locals _; rw [eL]; exact hns, ?_⟩
      intro i x v h1 h2 hv
      match i, h1, h2 with
      | 0, h1, h2 =>
        cases h1
        cases h2
        exact ⟨.ref a, rfl, .inl ⟨(kd _).trans S.self, rfl⟩⟩
      | 1, h1, h2 =>
        cases h1
        cases h2
        exact ⟨u2, ru2, .inl ⟨(kd _).trans S.part, rfl⟩⟩
      | i + 2, h1, h2 => cases h1
    · intro x c h
      obtain ⟨_, rfl⟩ := only x c h
      exact ⟨_, _, hk _ _ (KX _ _ hcell), rfl⟩
    · show H ENV.locals = none
      rw [eL]
      exact e0.hok.fresh (Nat.le_refl _)
    · intro x c h
      obtain ⟨_, rfl⟩ := only x c h
      exact ccH
  have eU : ENV.func = some f := by subst hENV; rfl
  have eD : ENV.code = .ref cda := by subst hENV; rfl
  have K0 : K.In h₀ := I.kIn
  obtain ⟨nm, q, N, bs, bm, sn, sub, ab, col, dd, k0, k1, k2, k3, k5, hCl, hbm⟩ := T.cls
  have hcl : clsIn K C = some { name := nm, bases := bs, mro := .ref C :: bm, ns := N, qualname := q, hasDict := true, slotNames := sn, subclasses := sub, abstract := ab, collection := col, hasDel := false } := by
    unfold clsIn
    rw [hCl]
    try rfl
  obtain ⟨mm, hmm, _⟩ := id I.loc
  obtain ⟨pl, hev⟩ := hev s.heap.objs.size
  have hsw := hsw s.heap.objs.size
  have hin := hin s.heap.objs.size
  have hsw2 := hsw2 s.heap.objs.size
  rw [← hENV] at hev hsw hin hsw2
  rw [hbody]
  refine ks_wpAt_execs_cons ?_
  refine ks_wpAt_Expr_any ?_ hin hsw
  refine ks_wpAt_MethodCall (pl := pl) ?_ hev
  refine ks_wpAt_super_base (env := ENV) ((kd _).trans S.sup) ((kd _).trans S.cls) rfl eU (K0 _ _ lk) rfl hp eD (K0 _ _ hcode) rfl hvs hfile S.top ?_
  obtain ⟨mb, hb1, hb2⟩ := I.mod.blt
  refine ks_loadName_global eK ((kd _).trans S.sup) (Calls.loadGlobal_builtin (by rw [eG]; exact I.mod.glob.keeps I.bk) S.ms (by rw [eB]; exact hb1.keeps I.bk) ((hb2 "super" (by decide)).trans (show bootBuiltins "super" = some (.type "super") by first | boot_by_name | rfl | kernel_rfl)) ⟨rfl, ?_⟩)
  refine wpAny_loadName_free eK ((kd _).trans S.cls) (by rw [eC]; rfl) ⟨_, K0 _ _ hcell, rfl⟩ ?_
  rw [har]
  refine wpAny_loadName_local eK ((kd _).trans S.self) (by rw [eL]; exact hns) (v := .ref a) rfl ?_
  obtain ⟨oC, hC1, hC2⟩ := clsIn_at K0 hcl
  refine ks_wpAny_isType_cls hC1 hC2 ⟨rfl, ?_⟩
  obtain ⟨t1, hea⟩ := exo_at I.hok ha
  refine ks_wpAny_call_super hC1 hC2 hea rfl (fun c z => by cases z) (looks_mroIn K0 S.hC) ?_
  intro h1 hso k1'
  -- the bound __init__
  have I1 : Inv X [] [some (.ref a), some y] H { s with heap := h1, toks := s.toks + ((["self", "part"] : List Str).zip [Value.ref a, u2]).length } := I.kept (t' := s.toks + ((["self", "part"] : List Str).zip [Value.ref a, u2]).length) k1'
  have K1 : K.In h1 := I1.kIn
  have Ia : InstAt h1 a _ C none := ⟨k1' _ _ hea, rfl, rfl, trivial⟩
  have hI : Looks (model P w) h1 (isInstance (.ref a) (.type "ValueError")) true := Ia.type.andThen (looks_subIn K1 S.hB)
  have hm' := S.hm
  unfold ks_superIn at hm'
  rw [hcl] at hm'
  refine kxs_getMethod kxs_ValueError hso (looks_opaque K1 S.opq) (fun A Q E s k q => wpAny_bind ((looks_clsIn K1 hcl) A _ E s k (wpAny_pure q))) rfl K1 hm' hI (ks_ne K1 Ia hcl) (by decide) ?_
  have k2' : ∀ b o, h1.get? b = some o → (h1.push (kxs_mw "ValueError.__init__" a)).get? b = some o := fun b o e => Heap.get?_push_of_some _ e
  have I2 : Inv X [] [some (.ref a), some y] H { s with heap := h1.push (kxs_mw "ValueError.__init__" a), toks := s.toks + ((["self", "part"] : List Str).zip [Value.ref a, u2]).length + 1 } := I1.kept (t' := s.toks + ((["self", "part"] : List Str).zip [Value.ref a, u2]).length + 1) k2'
  have hmw : (h1.push (kxs_mw "ValueError.__init__" a)).get? h1.objs.size = some (kxs_mw "ValueError.__init__" a) := Heap.get?_push_size _ rfl
  have hu0 : H h1.objs.size = none := I1.hok.fresh (Nat.le_refl _)
  have hul : h1.objs.size ≠ ENV.locals := fun z => by
    have := I1.lt
    have e : X.env.locals = ENV.locals := rfl
    rw [e, ← z] at this
    exact absurd this (Nat.lt_irrefl _)
  have huf : h1.objs.size ∉ X.fs := fun z => by
    obtain ⟨_, o, ho, _⟩ := I1.stack.mem (List.mem_filterMap.mpr (by
      obtain ⟨e, he, q⟩ := List.mem_filterMap.mp z
      exact ⟨e, List.mem_cons_of_mem _ he, q⟩))
    exact absurd (Heap.lt_size ho) (Nat.lt_irrefl _)
  have I3 : Inv X [(h1.objs.size, kxs_mw "ValueError.__init__" a)] [some (.ref a), some y] H { s with heap := h1.push (kxs_mw "ValueError.__init__" a), toks := s.toks + ((["self", "part"] : List Str).zip [Value.ref a, u2]).length + 1 } :=
    ⟨I2.ok, I2.os, I2.bare, I2.base, I2.loc, I2.cell, I2.free, I2.freeC, fun p hp => by
      have hp' : p = (h1.objs.size, kxs_mw "ValueError.__init__" a) := by
        rcases List.mem_append.mp hp with z | z
        · cases z
        · exact List.mem_singleton.mp z
      subst hp'
      exact ⟨hmw, hu0, hul, huf, fun v z => by cases z⟩, I2.hok, I2.len⟩
  refine kxs_callWith (i := "ValueError.__init__") (x := a) rfl ?_
  refine Calls.evalArgs_plain ?_
  refine wpAny_mono ((pa_cons (X := X) (es := []) pe_str pa_nil).run p4 [(h1.objs.size, kxs_mw "ValueError.__init__" a)] _ _ H (fun vs H' => vs = [V.str txt] ∧ H' = H) I3 ⟨rfl, rfl⟩) ?_ (fun _ _ z => z.elim)
  rintro us s3 ⟨vs3, H3, I4, r3, rfl, rfl⟩
  have hmw3 := (I4.pin _ (List.mem_singleton_self _)).1
  refine ⟨hmw3, ?_⟩
  obtain ⟨t3, he3⟩ := exo_at I4.hok ha
  obtain ⟨u3, rfl, _⟩ := vals1 r3
  obtain ⟨hp3, g3, d3, tk3, os3⟩ := s3
  refine call_mwVE (I4.kIn _ _ hCl) he3 hmw3 (by show 1 ≤ sizeLine; rw [sizeLine_eq]; omega) fun h' t4 kk he4 => ?_
  have J := I4.write (t' := tk3) (x := a) (e := a) (o := exo a C none) (by rw [ha]; exact True.intro) (.inl rfl) kk ⟨_, he4⟩ (exo_ok he4)
  have eu : upd H3 a (exo a C none) = H3 := by
    funext b
    by_cases hb : b = a
    · rw [hb, upd_same, ha]
    · rw [upd_ne hb]
  rw [eu] at J
  -- self.field = part
  refine wpAt_of_wpAny ?_
  have PS2 : PSs X [.Assign [.Attribute (.Name "self" q1) fld q2] (.Name "part" q3) q4] (tOst X.K fld (tVar 0) (tVar 1)) :=
    pss_one (ps_ost (pe_var (i := 0) rfl (.inl ((kd _).trans S.self))) (pe_var (i := 1) rfl (.inl ((kd _).trans S.part))) hsw2)
  refine wpAny_mono (PS2.run _ _ [some (.ref a), some y] H3 { nx := fun _ H' => Q .non H', rt := fun _ _ => False } J ?_) ?_ (fun _ _ z => z.elim)
  · refine ⟨y, rfl, .ref a, rfl, a, C, rfl, T, S.hno, .inl ⟨ha, fun dx hd hne => hq dx hd hne⟩⟩
  · intro fl s5 hs
    cases fl with
    | next =>
      obtain ⟨σ', H', J', q'⟩ := hs
      exact ⟨.non, H', J'.os, J'.bare, J'.base, J'.hok, rfl, q'⟩
    | ret u => obtain ⟨v, σ', H', J', rv', q'⟩ := hs; exact q'.elim
    | brk => obtain ⟨_, _, _, q'⟩ := hs; exact q'.elim
    | cont => obtain ⟨_, _, _, q'⟩ := hs; exact q'.elim
end

/-! ### raise -/
/-- an own class, no own __init__ -/
structure X0 (K : Frag) (mg : Str → Option Value) (cl : Nat → Addr) (n : Nat) (x : Str) : Prop where
  gm : mg x = some (.ref (cl n))
  ex : excIn K (cl n) HandSPX.veTail "ValueError.__new__" = true
  kp : keepIn K (.ref (cl n)) = true
  sub : subIn K (.ref (cl n)) (.type "BaseException") = some true
  ty : typeIn K (.ref (cl n)) = some (.type "type")
/-- an own class whose __init__ takes one argument -/
structure X1 (P : Program) (K : Frag) (mg : Str → Option Value) (cl : Nat → Addr) (n : Nat) (x fld : Str) : Prop where
  gm : mg x = some (.ref (cl n))
  T : OexC K (cl n)
  ini : ∃ fI st fd, findIn K (.ref (cl n)) "__init__" = some (some (.ref fI)) ∧ typeIn K (.ref fI) = some (.type "function") ∧ SupI P K mg fI (cl n) st fld fd ∧ Binds K fd ["self", "part"] []
def excS0 (n : Nat) : S := fun w e => .exc ⟨n, none⟩ e w
def excS1 (n : Nat) (fld : Str) (f : E D) : S := sbind f fun d => fun w e => .exc ⟨n, some (fld, d)⟩ e w
section
variable {X : Cx} {C : Ct} {cl : Nat → Addr} {k n : Nat} {x fld : Str} {p p2 pos pos' : Pos} {e : Expr} {f : E D}
theorem ds_raise0 {m : Str} {j : Nat} (B : Bd cl k X C) (x0 : X0 X.K X.mg cl n x) (hc : X.calm = true := by rfl) (hg : Gl X x := by rfl) (hdb : (x == ("__debug__" : Str)) = false := by decide) :
    DS X C (.Raise (some (.Call (.Name x p) [.Constant (.str m) j p2] [] pos)) none pos') (excS0 n) := by
  intro hK
  refine PS.imp (ps_raise hc B.tk (pmk_own F.excBase_ValueError x0.ex x0.gm x0.kp (raises_own x0.sub x0.ty) hg hdb)) ?_
  rintro Dn σ H ⟨w, env, Hb, r, q⟩
  exact q Hb H σ _ _ (Same.refl _) r ⟨by rw [B.cl], rfl⟩
theorem ds_raise1 (B : Bd cl k X C) (x1 : X1 X.prog X.K X.mg cl n x fld) (he : DE X C e f) (hk : 2 ≤ k := by decide) (hc : X.calm = true := by rfl) (hg : Gl X x := by rfl) (hdb : (x == ("__debug__" : Str)) = false := by decide)
    (hs : starEach [e] X.env = (false, eval e X.env) :: starEach [] X.env := by rfl) (hpl : (backTo pos (starEach [] X.env)).any (·.1) = false := by rfl) :
    DS X C (.Raise (some (.Call (.Name x p) [e] [] pos)) none pos') (excS1 n fld f) := by
  intro hK
  obtain ⟨fI, st, fd, iC, tI, S, hb⟩ := x1.ini
  refine PS.imp (ps_raise hc B.tk (pmk_oex (CX := CX0) (k := 1) x1.T iC tI (init_ok x1.T S) (B.hr.mono hk) hb .nil pass0 hg x1.gm (pa_cons (he hK) pa_nil hs) hdb hs hpl)) ?_
  rintro Dn σ H ⟨w, env, Hb, r, q⟩
  unfold excS1 at q
  refine liftS_bind (R := RD C) r q fun d w1 Hb1 H1 v g1 r1 q1 p1 => ?_
  refine ⟨by show 1 ≤ 1000; omega, fun a ha => ⟨a, v, rfl, upd_same, fun dx hdx hne => ⟨rfl, dx, [(fld, v)], upd_same, ?_, ?_, ?_⟩⟩⟩
  · rw [upd_ne hne, upd_same]
  · rw [upd_ne hne] at hdx
    exact hdx
  · have hd1 : H1 dx = none := by
      rw [upd_ne hne] at hdx
      exact hdx
    have eH : upd (del (upd (upd (upd H1 a (exo a (cl n) none)) dx (exd dx [(fld, v)])) a (exo a (cl n) (some dx))) a) dx (.xd [(fld, v)]) = upd H1 dx (.xd [(fld, v)]) := by
      funext b
      by_cases h1 : b = dx
      · subst h1
        rw [upd_same, upd_same]
      · rw [upd_ne h1, upd_ne h1]
        by_cases h2 : b = a
        · subst h2
          rw [del_same, ha]
        · rw [del_ne h2, upd_ne h2, upd_ne h1, upd_ne h2]
    rw [eH]
    have g := Gr.alloc (o := .xd [(fld, v)]) r1.same hd1
    exact p1 _ _ σ _ _ g.b (r1.grow g) ⟨by rw [B.cl], dx, v, rfl, upd_same, q1.mono g.b⟩
end
end DL
set_option Elab.async false
set_option linter.all false
set_option autoImplicit false
set_option maxRecDepth 100000
set_option maxHeartbeats 1000000
/-! DD: the draw object. -/
namespace DL
open PySem PySem.Spec PyProof.Rows L2

/-- the draw dict's pairs -/
def drK (L Cc : Addr) (d : Dr) : List (Key × V) := [(.inr "large", .ref L), (.inr "cells", .ref Cc), (.inr "rest", .int d.rest), (.inr "turn", .int d.turn)]
/-- the draw object at a, its list large at L; the cells at Cc are plain data -/
def GamD (a L Cc : Addr) (cs : List Int) : Gam where
  fp b := b = a ∨ b = L
  ok w H := match w with
    | some d => d.cells = cs ∧ a ≠ L ∧ H a = some (.dK (drK L Cc d)) ∧ H L = some (.lst (d.large.map V.int))
    | none => False
  loc {w H H'} h e _ := by
    cases w with
    | none => exact h
    | some d => exact ⟨h.1, h.2.1, (e a (.inl rfl)).trans h.2.2.1, (e L (.inr rfl)).trans h.2.2.2⟩
  trk {w H b} h e := by
    cases w with
    | none => exact h.elim
    | some d =>
      rcases e with rfl | rfl
      · rw [h.2.2.1]; simp
      · rw [h.2.2.2]; simp
structure DrC (C : Ct) (a L Cc : Addr) (cs : List Int) : Prop where
  dr : C.κ.dr = .ref a
  fp : ∀ b, (GamD a L Cc cs).fp b → C.fp b
  ok : ∀ {w : Wo} {H : Hp}, C.Γ.ok w H → (GamD a L Cc cs).ok w H
  up : ∀ {w w' : Wo} {H H' : Hp}, C.Γ.ok w H → (GamD a L Cc cs).ok w' H' → (∀ b o, H b = some o → ¬ (GamD a L Cc cs).fp b → H' b = some o) → C.Γ.ok w' H'
  hb : ∀ b, C.fp b → C.Hb0 b = none ∧ C.H0 b ≠ none
  hc : C.Hb0 Cc = some (.lst (cs.map V.int))
section
variable {C : Ct} {a L Cc : Addr} {cs : List Int} {w : Wo} {env : En} {Hb H : Hp} {σ : L2.St}
theorem DrC.nox (h : DrC C a L Cc cs) : DrC C.nox a L Cc cs := ⟨h.dr, h.fp, h.ok, h.up, h.hb, h.hc⟩
theorem Rel.dr (r : Rel C w env Hb H σ) (h : DrC C a L Cc cs) : ∃ d, w = some d ∧ d.cells = cs ∧ a ≠ L ∧ H a = some (.dK (drK L Cc d)) ∧ H L = some (.lst (d.large.map V.int)) := by
  have k := h.ok r.ok
  cases w with
  | none => exact k.elim
  | some d => exact ⟨d, rfl, k⟩
theorem Rel.fpb (r : Rel C w env Hb H σ) (h : DrC C a L Cc cs) {b : Addr} (hb : C.fp b) : Hb b = none := by
  cases z : Hb b with
  | none => rfl
  | some o =>
    rcases r.gr.n b (by rw [z]; simp) with q | q
    · exact absurd (h.hb b hb).1 q
    · exact absurd q (h.hb b hb).2
/-- an object of the ghost is written -/
theorem Rel.setG {b : Addr} {o : HO} {w' : Wo} (r : Rel C w env Hb H σ) (h : DrC C a L Cc cs) (hb : C.fp b) (k : C.Γ.ok w' (upd H b o)) : Rel C w' env Hb (upd H b o) σ := by
  have nb := r.fpb h hb
  refine ⟨⟨r.gr.b, fun c u e => ?_, fun c u e n => ?_, fun c e => ?_, r.gr.n⟩, k, ⟨r.env.dat, fun i ds e => ?_, r.env.sep, r.env.len⟩⟩
  · rw [upd_ne (ne_of_none e nb)]
    exact r.gr.s c u e
  · rw [upd_ne (fun z => n (by rw [z]; exact hb))]
    exact r.gr.h c u e n
  · by_cases z : c = b
    · subst z; rw [upd_same]; simp
    · rw [upd_ne z]; exact r.gr.d c e
  · obtain ⟨c, xs, q1, q2, q3, q4, q5, q6⟩ := r.env.own i ds e
    refine ⟨c, xs, q1, ?_, q3, q4, q5, q6⟩
    rw [upd_ne (fun z => q6 (by rw [z]; exact hb))]
    exact q2
theorem DrC.fa (h : DrC C a L Cc cs) : C.fp a := h.fp a (.inl rfl)
theorem DrC.fL (h : DrC C a L Cc cs) : C.fp L := h.fp L (.inr rfl)
/-- an object of the draw is written -/
theorem Rel.setD {w : Wo} {env : En} {Hb H : Hp} {σ : L2.St} {b : Addr} {o : HO} {w' : Wo} (r : Rel C w env Hb H σ) (h : DrC C a L Cc cs) (hb : (GamD a L Cc cs).fp b) (k : (GamD a L Cc cs).ok w' (upd H b o)) : Rel C w' env Hb (upd H b o) σ :=
  r.setG h (h.fp b hb) (h.up r.ok k fun c u e n => by rw [upd_ne (fun z => n (by rw [z]; exact hb))]; exact e)
theorem Gr.wide {fp fp' : Addr → Prop} {Hb H Hb' H' : Hp} (g : Gr fp Hb H Hb' H') (h : ∀ b, fp b → fp' b) : Gr fp' Hb H Hb' H' := ⟨g.b, g.s, fun a o e n => g.h a o e (fun z => n (h a z)), g.d, g.n⟩
theorem map_int_rep {κ : Kx} {Hb : Hp} : ∀ cs : List Int, RepL κ Hb (cs.map D.int) (cs.map V.int)
  | [] => .nil
  | _ :: r => .cons .int (map_int_rep r)
end

/-! ### draw['rest'] and its like -/
def eDr (i : Nat) (g : Dr → D) : E D := fun w e => match e[i]?, w with
  | some (.dat .drw), some d => .ok (g d) (some d)
  | _, _ => .bad
section
variable {X : Cx} {C : Ct} {a L Cc : Addr} {cs : List Int} {cl : Nat → Addr} {k : Nat}
/-- the dict's value at a key -/
theorem dr_get {σ : L2.St} {H : Hp} {Q : VK} {g : Dr → D} {i : Nat} {key : Str} {v : Dr → V} (h : DrC C a L Cc cs) (hv : ∀ d, valV (drK L Cc d) (.inr key) = some (v d))
    (hr : ∀ (Hb : Hp) (d : Dr), d.cells = cs → Same C.Hb0 Hb → Rep C.κ Hb (g d) (v d)) : lift C (RD C) (eDr i g) σ H Q → tDGet (tVar i) (tC (.str key)) σ H Q := by
  rintro ⟨w, env, Hb, r, p⟩
  obtain ⟨d, rfl, h1, h2, h3, h4⟩ := r.dr h
  unfold eDr at p
  cases e : env[i]? with
  | none => rw [e] at p; exact p.elim
  | some s =>
    rw [e] at p
    cases s with
    | un => exact p.elim
    | own ds => exact p.elim
    | dat x =>
      cases x <;> first | exact p.elim | skip
      obtain ⟨u, e1, e2⟩ := r.env.dat i _ e
      cases e2
      refine ⟨_, e1, a, v d, h.dr, ?_, ?_⟩
      · have := DGet.k (k := .inr key) h3
        rw [hv d] at this
        exact this
      · exact Post.fin (R := RD C) r p (Gr.id r.same) (hr Hb d h1 r.gr.b)
variable {x : Str} {p1 p2 pos : Pos} {j : Nat}
theorem de_rest (i : Nat) (B : Bd cl k X C) (h : DrC C a L Cc cs) (hN : X.N[i]? = some x := by rfl) (hv : Vis X.env.scope x := by first | exact Or.inl rfl | exact Or.inr (Or.inl rfl) | exact Or.inr (Or.inr rfl)) (hd : (x == ("__debug__" : Str)) = false := by decide)
    (hcd : (x == ("__classdict__" : Str)) = false := by decide) : DE X C (.Subscript (.Name x p1) (.Constant (.str "rest") j p2) pos) (eDr i fun d => .int d.rest) := fun hK =>
  PE.imp (pe_dget (hu_of B.hr) (pe_var (i := i) hN hv hd hcd) pe_str (fun _ _ => rfl)) fun σ H Q => dr_get (v := fun d => .int d.rest) h (fun d => rfl) fun _ _ _ _ => .int
theorem de_turn (i : Nat) (B : Bd cl k X C) (h : DrC C a L Cc cs) (hN : X.N[i]? = some x := by rfl) (hv : Vis X.env.scope x := by first | exact Or.inl rfl | exact Or.inr (Or.inl rfl) | exact Or.inr (Or.inr rfl)) (hd : (x == ("__debug__" : Str)) = false := by decide)
    (hcd : (x == ("__classdict__" : Str)) = false := by decide) : DE X C (.Subscript (.Name x p1) (.Constant (.str "turn") j p2) pos) (eDr i fun d => .int d.turn) := fun hK =>
  PE.imp (pe_dget (hu_of B.hr) (pe_var (i := i) hN hv hd hcd) pe_str (fun _ _ => rfl)) fun σ H Q => dr_get (v := fun d => .int d.turn) h (fun d => rfl) fun _ _ _ _ => .int
theorem de_cells (i : Nat) (B : Bd cl k X C) (h : DrC C a L Cc cs) (hN : X.N[i]? = some x := by rfl) (hv : Vis X.env.scope x := by first | exact Or.inl rfl | exact Or.inr (Or.inl rfl) | exact Or.inr (Or.inr rfl)) (hd : (x == ("__debug__" : Str)) = false := by decide)
    (hcd : (x == ("__classdict__" : Str)) = false := by decide) : DE X C (.Subscript (.Name x p1) (.Constant (.str "cells") j p2) pos) (eDr i fun d => .lst (d.cells.map D.int)) := fun hK =>
  PE.imp (pe_dget (hu_of B.hr) (pe_var (i := i) hN hv hd hcd) pe_str (fun _ _ => rfl)) fun σ H Q => dr_get (v := fun _ => .ref Cc) h (fun d => rfl) fun Hb d e s => by
    show Rep C.κ Hb (.lst (d.cells.map D.int)) (.ref Cc)
    rw [e]
    exact .lst (s _ _ h.hc) (map_int_rep cs)

/-! ### draw['rest'] = e -/
def drSet (i : Nat) (f : E D) (u : Dr → Int → Dr) : S := sbind f fun v w e => match v, e[i]?, w with
  | .int r, some (.dat .drw), some d => .nx e (some (u d r))
  | _, _, _ => .bad
theorem dr_put {e : Expr} {f : E D} {i : Nat} {key : Str} {u : Dr → Int → Dr} {σ : L2.St} {H : Hp} {Dn : Ends} (h : DrC C a L Cc cs) (hu : ∀ d r, putK (drK L Cc d) (.inr key) (.int r) = drK L Cc (u d r) ∧ (u d r).cells = d.cells ∧ (u d r).large = d.large) :
    liftS C (drSet i f u) Dn σ H → sDPut (tVar i) (tC (.str key)) (lift C (RD C) f) Dn σ H := by
  rintro ⟨w, env, Hb, r, p⟩
  unfold drSet at p
  refine liftS_bind (R := RD C) r p fun v w1 Hb1 H1 vv g1 r1 q1 p1 => ?_
  obtain ⟨d, rfl, h1, h2, h3, h4⟩ := r1.dr h
  cases v <;> first | exact p1.elim | skip
  rename_i n
  cases q1
  cases e : env[i]? with
  | none => rw [e] at p1; exact p1.elim
  | some s =>
    rw [e] at p1
    cases s with
    | un => exact p1.elim
    | own ds => exact p1.elim
    | dat x =>
      cases x <;> first | exact p1.elim | skip
      obtain ⟨uu, e1, e2⟩ := r1.env.dat i _ e
      cases e2
      obtain ⟨u1, u2, u3⟩ := hu d n
      have hp := DPut.k (k := .inr key) (v := .int n) h3 (by show 4 < sizeLine; rw [sizeLine_eq]; omega)
      rw [u1] at hp
      refine ⟨_, e1, a, _, h.dr, hp, ?_⟩
      refine p1 Hb1 _ σ (Same.refl _) (r1.setD h (.inl rfl) ?_)
      refine ⟨u2.trans h1, h2, upd_same, ?_⟩
      rw [upd_ne (Ne.symm h2), u3]
      exact h4
variable {e : Expr} {f : E D} {p3 : Pos}
theorem ds_setRest (i : Nat) (B : Bd cl k X C) (h : DrC C a L Cc cs) (he : DE X C e f) (hs : swapsWith e (some (.Subscript (.Name x p1) (.Constant (.str "rest") j p2) p3)) pos.line X.env = pure false := by rfl) (hN : X.N[i]? = some x := by rfl)
    (hv : Vis X.env.scope x := by first | exact Or.inl rfl | exact Or.inr (Or.inl rfl) | exact Or.inr (Or.inr rfl)) (hd : (x == ("__debug__" : Str)) = false := by decide) (hcd : (x == ("__classdict__" : Str)) = false := by decide) :
    DS X C (.Assign [.Subscript (.Name x p1) (.Constant (.str "rest") j p2) p3] e pos) (drSet i f fun d r => { d with rest := r }) := fun hK =>
  PS.imp (ps_dput (hu_of B.hr) (pe_var (i := i) hN hv hd hcd) pe_str (he hK) hs) fun Dn σ H => dr_put (e := e) h fun d r => ⟨rfl, rfl, rfl⟩
theorem ds_setTurn (i : Nat) (B : Bd cl k X C) (h : DrC C a L Cc cs) (he : DE X C e f) (hs : swapsWith e (some (.Subscript (.Name x p1) (.Constant (.str "turn") j p2) p3)) pos.line X.env = pure false := by rfl) (hN : X.N[i]? = some x := by rfl)
    (hv : Vis X.env.scope x := by first | exact Or.inl rfl | exact Or.inr (Or.inl rfl) | exact Or.inr (Or.inr rfl)) (hd : (x == ("__debug__" : Str)) = false := by decide) (hcd : (x == ("__classdict__" : Str)) = false := by decide) :
    DS X C (.Assign [.Subscript (.Name x p1) (.Constant (.str "turn") j p2) p3] e pos) (drSet i f fun d r => { d with turn := r }) := fun hK =>
  PS.imp (ps_dput (hu_of B.hr) (pe_var (i := i) hN hv hd hcd) pe_str (he hK) hs) fun Dn σ H => dr_put (e := e) h fun d r => ⟨rfl, rfl, rfl⟩

/-! ### draw['large'] != [] -/
def eLarge (i : Nat) : E Bool := fun w e => match e[i]?, w with
  | some (.dat .drw), some d => .ok (!d.large.isEmpty) (some d)
  | _, _ => .bad
theorem ints_dp {K : PySem.W.Frag} {H : Hp} : ∀ xs : List Int, DpAll K H (xs.map V.int) (xs.map PyData.int)
  | [] => .nil
  | x :: r => .cons (.int x) (ints_dp r)
theorem ints_shaped (xs : List Int) : SeqAt.shaped (.list (xs.map PyData.int)) = true := by
  have h1 : PyData.canLayAll0 (xs.map PyData.int) = true := by
    induction xs with
    | nil => rfl
    | cons x r ih => simp [PyData.canLayAll0, PyData.canLay0, ih]
  have h2 : PyData.depthAll (xs.map PyData.int) ≤ 1 := by
    induction xs with
    | nil => simp [PyData.depthAll]
    | cons x r ih =>
      have := ih (by
        simp only [List.map_cons, PyData.canLayAll0, Bool.and_eq_true] at h1
        exact h1.2)
      simp [PyData.depthAll, PyData.depth] <;> omega
  have h3 : (PyData.list (xs.map PyData.int)).canLay0 = true := by simp only [PyData.canLay0]; exact h1
  have h4 : (PyData.list (xs.map PyData.int)).depth ≤ 64 := by
    simp only [PyData.depth]
    omega
  show (PyData.canLay0 _ && decide (PyData.depth _ ≤ 64)) = true
  rw [h3, decide_eq_true h4]
  rfl
theorem dt_large (i : Nat) (B : Bd cl k X C) (h : DrC C a L Cc cs) {p4 p5 : Pos} (hN : X.N[i]? = some x := by rfl) (hv : Vis X.env.scope x := by first | exact Or.inl rfl | exact Or.inr (Or.inl rfl) | exact Or.inr (Or.inr rfl)) (hd : (x == ("__debug__" : Str)) = false := by decide)
    (hcd : (x == ("__classdict__" : Str)) = false := by decide) : DT X C (.Compare (.Subscript (.Name x p1) (.Constant (.str "large") j p2) pos) [.NotEq] [.List [] p4] p5) (eLarge i) := by
  intro hK
  refine PT.imp (pt_cmpR (op_neD B.hu) (pe_dget (hu_of B.hr) (pe_var (i := i) hN hv hd hcd) pe_str (fun _ _ => rfl)) (pe_lst pa_nil) (nomark _)) ?_
  rintro σ H Q ⟨w, env, Hb, r, p⟩
  obtain ⟨d, rfl, h1, h2, h3, h4⟩ := r.dr h
  unfold eLarge at p
  cases e : env[i]? with
  | none => rw [e] at p; exact p.elim
  | some s =>
    rw [e] at p
    cases s with
    | un => exact p.elim
    | own ds => exact p.elim
    | dat z =>
      cases z <;> first | exact p.elim | skip
      obtain ⟨u, e1, e2⟩ := r.env.dat i _ e
      cases e2
      refine ⟨_, e1, a, .ref L, h.dr, ?_, ?_⟩
      · have := DGet.k (k := .inr "large") h3
        exact this
      · refine ⟨Nat.zero_le _, fun q hq => ?_⟩
        have hqL : L ≠ q := fun z => by rw [z, hq] at h4; cases h4
        have g := Gr.alloc0 (o := .lst []) r.same hq
        refine ⟨.list (d.large.map PyData.int), .list [], .lst (.of (by rw [upd_ne hqL]; exact h4)) (ints_dp _), .lst (.of upd_same) .nil, ints_shaped _, rfl, _, rfl, ?_⟩
        have hb : (!PyData.eqv (.list (d.large.map PyData.int)) (.list [])) = !d.large.isEmpty := by
          cases d.large <;> rfl
        rw [hb]
        exact Post.fin (R := RB) r p g rfl

/-! ### draw['rest'] = draw['large'].pop(0) -/
def drPop (i : Nat) : S := fun w e => match e[i]?, w with
  | some (.dat .drw), some d => match d.large with
    | y :: r => .nx e (some { d with large := r, rest := y })
    | [] => .bad
  | _, _ => .bad
theorem ds_popLarge (i : Nat) (B : Bd cl k X C) (h : DrC C a L Cc cs) {p4 p5 p6 p7 p8 p9 : Pos} {j2 j3 : Nat} (hN : X.N[i]? = some x := by rfl) (hv : Vis X.env.scope x := by first | exact Or.inl rfl | exact Or.inr (Or.inl rfl) | exact Or.inr (Or.inr rfl)) (hd : (x == ("__debug__" : Str)) = false := by decide)
    (hcd : (x == ("__classdict__" : Str)) = false := by decide)
    (hbase : attributeBase (.Subscript (.Name x p4) (.Constant (.str "large") j2 p5) p6) "pop" X.env (eval (.Subscript (.Name x p4) (.Constant (.str "large") j2 p5) p6) X.env) = eval (.Subscript (.Name x p4) (.Constant (.str "large") j2 p5) p6) X.env := by rfl)
    (hfew : ((backTo p9 (starEach [.Constant (.int 0) j3 p8] X.env)).all (fun x => !x.1) && (backToKw p9 (keywordEach [] X.env)).all (fun x => x.1.isSome)
      && decide (([Expr.Constant (.int 0) j3 p8] : List Expr).length + ([] : List Keyword).length + (if ([] : List Keyword).isEmpty then 0 else 1) < 30)) = true := by rfl)
    (hline : (p7.endLine == p9.line) = true := by rfl)
    (hs : swapsWith (.Call (.Attribute (.Subscript (.Name x p4) (.Constant (.str "large") j2 p5) p6) "pop" p7) [.Constant (.int 0) j3 p8] [] p9) (some (.Subscript (.Name x p1) (.Constant (.str "rest") j p2) p3)) pos.line X.env = pure false := by rfl) :
    DS X C (.Assign [.Subscript (.Name x p1) (.Constant (.str "rest") j p2) p3] (.Call (.Attribute (.Subscript (.Name x p4) (.Constant (.str "large") j2 p5) p6) "pop" p7) [.Constant (.int 0) j3 p8] [] p9) pos) (drPop i) := by
  intro hK
  refine PS.imp (ps_dput (hu_of B.hr) (pe_var (i := i) hN hv hd hcd) pe_str (pe_bm PySem.F.plainAttrs_list PySem.F.slot_list_pop PySem.F.type_list_pop mt_popAt (pe_dget (hu_of B.hr) (pe_var (i := i) hN hv hd hcd) pe_str (fun _ _ => rfl)) (pa_cons pe_int pa_nil) hbase hfew hline) hs) ?_
  rintro Dn σ H ⟨w, env, Hb, r, p⟩
  obtain ⟨d, rfl, h1, h2, h3, h4⟩ := r.dr h
  unfold drPop at p
  cases e : env[i]? with
  | none => rw [e] at p; exact p.elim
  | some s =>
    rw [e] at p
    cases s with
    | un => exact p.elim
    | own ds => exact p.elim
    | dat z =>
      cases z <;> first | exact p.elim | skip
      obtain ⟨u, e1, e2⟩ := r.env.dat i _ e
      cases e2
      cases el : d.large with
      | nil => simp only [el] at p; exact p.elim
      | cons y rr =>
        simp only [el] at p
        rw [el] at h4
        refine ⟨_, e1, a, .ref L, h.dr, DGet.k (k := .inr "large") h3, .inl ⟨rfl, _, .of h4⟩, L, _, 0, 0, .int y, rfl, rfl, h4, by decide, by decide, ?_, rfl, ?_⟩
        · show seqIndex? 0 (y :: rr |>.map V.int).length = some 0
          simp [seqIndex?]
        · have nL : a ≠ L := h2
          have h3' : (upd H L (.lst (((y :: rr).map V.int).eraseIdx 0))) a = some (.dK (drK L Cc d)) := by
            rw [upd_ne nL]; exact h3
          have hp := DPut.k (k := .inr "rest") (v := .int y) h3' (by show 4 < sizeLine; rw [sizeLine_eq]; omega)
          refine ⟨_, e1, a, _, h.dr, hp, ?_⟩
          -- both are written
          have eh : upd (upd H L (.lst (((y :: rr).map V.int).eraseIdx 0))) a (.dK (putK (drK L Cc d) (.inr "rest") (.int y))) = upd (upd H a (.dK (drK L Cc { d with rest := y, large := rr }))) L (.lst (rr.map V.int)) := by
            funext b
            by_cases z1 : b = a
            · subst z1
              rw [upd_same, upd_ne nL, upd_same]
              rfl
            · rw [upd_ne z1]
              by_cases z2 : b = L
              · subst z2
                rw [upd_same, upd_same]
                rfl
              · rw [upd_ne z2, upd_ne z2, upd_ne z1]
          rw [eh]
          have r1 : Rel C (some { d with rest := y }) env Hb (upd H a (.dK (drK L Cc { d with rest := y }))) σ := r.setD h (.inl rfl) (by
            refine ⟨h1, h2, upd_same, ?_⟩
            rw [upd_ne (Ne.symm nL)]
            show H L = some (.lst (d.large.map V.int))
            rw [el]
            exact h4)
          have r2 : Rel C (some { d with rest := y, large := rr }) env Hb (upd (upd H a (.dK (drK L Cc { d with rest := y, large := rr }))) L (.lst (rr.map V.int))) σ := r1.setD h (.inr rfl) (by
            refine ⟨h1, h2, ?_, upd_same⟩
            rw [upd_ne nL, upd_same]
            rfl)
          exact p Hb _ σ (Same.refl _) r2
end
end DL
set_option Elab.async false
set_option linter.all false
set_option autoImplicit false
set_option maxRecDepth 100000
set_option maxHeartbeats 1000000
/-! DE2: defs that take the draw object. -/
namespace DL
open PySem PySem.Spec PyProof.Rows L2
def spW (κ : Kx) (cl : Nat → Addr) (a L Cc : Addr) (cs : List Int) (m : Wo → List D → ER D) : Sp := fun vs H Q W => ∃ ds w Hb, Same Hb H ∧ (GamD a L Cc cs).ok w H ∧ (∀ b, (GamD a L Cc cs).fp b → Hb b = none) ∧ Hb Cc = some (.lst (cs.map V.int)) ∧ RepL κ Hb ds vs ∧ match m w ds with
  | .ok d w' => ∀ Hb' H' v, Gr (GamD a L Cc cs).fp Hb H Hb' H' → (GamD a L Cc cs).ok w' H' → Rep κ Hb' d v → Q v H'
  | .exc x w' => ∀ Hb' H' c dd, Gr (GamD a L Cc cs).fp Hb H Hb' H' → (GamD a L Cc cs).ok w' H' → XRep κ cl Hb' x c dd → W c dd H'
  | .bad => False
structure DefW (P : Program) (w : World) (K : PySem.W.Frag) (mg : Str → Option Value) (base : Heap) (cl : Nat → Addr) (k : Nat) (x : Str) (m : Wo → List D → ER D) : Prop where
  ex : ∃ f fd ps, mg x = some (.ref f) ∧ PySem.W.keepIn K (.ref f) = true ∧ Binds K fd ps [] ∧ ∀ a L Cc cs, FnG P w K mg base k f fd ps (spW ⟨K, .ref a, cl⟩ cl a L Cc cs m)
def mRunW (np nN : Nat) (f : S) (w : Wo) (ds : List D) : ER D := if ds.length = np then match f w (ds.map Sl.dat ++ List.replicate (nN - np) Sl.un) with
    | .rt d w => .ok d w
    | .nx _ w => .ok .non w
    | .exc x _ w => .exc x w
    | _ => .bad
  else .bad
def eFunW (m : Wo → List D → ER D) (f : E (List D)) : E D := ebind f fun ds w _ => m w ds
section
variable {P : Program} {w : World} {K : PySem.W.Frag} {mg : Str → Option Value} {base : Heap} {cl : Nat → Addr}
theorem DefW.up {j k : Nat} {x : Str} {m : Wo → List D → ER D} (h : DefW P w K mg base cl j x m) (e : j ≤ k) : DefW P w K mg base cl k x m := by
  obtain ⟨f, fd, ps, h1, h2, h3, h4⟩ := h
  exact ⟨f, fd, ps, h1, h2, h3, fun a L Cc cs => ⟨(h4 a L Cc cs).len, fun A up s H ar us vs Q W hr => (h4 a L Cc cs).go A up s H ar us vs Q W (hr.mono e)⟩⟩
/-- another mirror, told of less -/
theorem DefW.le {k : Nat} {x : Str} {m m' : Wo → List D → ER D} (h : DefW P w K mg base cl k x m) (e : ∀ w ds, m' w ds = .bad ∨ m' w ds = m w ds) : DefW P w K mg base cl k x m' := by
  obtain ⟨f, fd, ps, h1, h2, h3, h4⟩ := h
  have key : ∀ a L Cc cs vs H Q W, spW ⟨K, .ref a, cl⟩ cl a L Cc cs m' vs H Q W → spW ⟨K, .ref a, cl⟩ cl a L Cc cs m vs H Q W := by
    rintro a L Cc cs vs H Q W ⟨ds, w, Hb, s, k1, k2, k3, r, q⟩
    refine ⟨ds, w, Hb, s, k1, k2, k3, r, ?_⟩
    rcases e w ds with z | z
    · rw [z] at q; exact q.elim
    · rw [← z]; exact q
  exact ⟨f, fd, ps, h1, h2, h3, fun a L Cc cs => ⟨fun vs H Q W q => (h4 a L Cc cs).len vs H Q W (key _ _ _ _ _ _ _ _ q), fun A up s H ar us vs Q W hr hg e0 hb hv q => (h4 a L Cc cs).go A up s H ar us vs Q W hr hg e0 hb hv (key _ _ _ _ _ _ _ _ q)⟩⟩
theorem DefW.of {x qual : Str} {st : Stmt} {f : Addr} {fd : FuncData} {N ps : List Str} {k : Nat} {b : S} (F : Fun K x qual st f fd) (S : FnScope N ps (defScope st)) (hm : mg x = some (.ref f)) (hb : Binds K fd ps [])
    (hbody : ∀ (cdv : Value) (A : Around) (up : List Env) (s : Shared) (H : Hp) (W : XK) (C : Ct) (a L Cc : Addr) (cs : List Int), Bd cl k (cxOf (L2.CX P w) P w K mg base N qual (defScope st) f cdv A up s H W) C → DrC C a L Cc cs → DB (cxOf (L2.CX P w) P w K mg base N qual (defScope st) f cdv A up s H W) C (defBody st) b) :
    DefW P w K mg base cl (k + 1) x (mRunW ps.length N.length b) := by
  refine ⟨f, fd, ps, hm, F.kp, hb, fun a L Cc cs => FnG.of F S ?_ ?_⟩
  · rintro vs H Q W ⟨ds, w, Hb, s, k1, k2, k3, r, q⟩
    rw [r.length]
    unfold mRunW at q
    by_cases h : ds.length = ps.length
    · exact h
    · rw [if_neg h] at q; exact q.elim
  · rintro cdv A up s H vs Q W hr hgd ⟨ds, w0, Hb, hs, k1, k2, k3, r, q⟩
    unfold mRunW at q
    by_cases h : ds.length = ps.length
    · rw [if_pos h] at q
      refine ⟨_, hbody cdv A up s H W ⟨⟨K, .ref a, cl⟩, GamD a L Cc cs, Hb, H, fun cls d _ H => W cls d H⟩ a L Cc cs ⟨rfl, hr, hgd, takes_of rfl rfl rfl rfl, passes_of rfl⟩ ⟨rfl, fun _ z => z, fun z => z, fun _ z _ => z, fun b hb => ⟨k2 b hb, (GamD a L Cc cs).trk k1 hb⟩, k3⟩ rfl, w0, _, Hb, ⟨Gr.refl hs, k1, envRel_start r⟩, ?_⟩
      rw [h]
      cases e : b w0 (ds.map Sl.dat ++ List.replicate (N.length - ps.length) Sl.un) with
      | rt d w1 => rw [e] at q; exact fun Hb' H' v g k rd => q Hb' H' v g k rd
      | nx e1 w1 => rw [e] at q; exact fun Hb' H' σ _ rl => q Hb' H' .non rl.gr rl.ok .non
      | exc x e1 w1 => rw [e] at q; exact fun Hb' H' σ c dd _ rl xr => q Hb' H' c dd rl.gr rl.ok xr
      | bk e1 w1 => rw [e] at q; exact q.elim
      | ct e1 w1 => rw [e] at q; exact q.elim
      | bad => rw [e] at q; exact q.elim
    · rw [if_neg h] at q; exact q.elim
end
/-! ### a < b < c as a test -/
section
variable {X : Cx} {C : Ct}
theorem chain_read {r r' : R2} {g g' : D → D → Option D} {f h k : E D} (hd : OpD C.κ r g) (hd' : OpD C.κ r' g') (σ : L2.St) (H : Hp) (Q : VK) : lift C (RD C) (eChain g g' f h k) σ H Q → tChain r r' (lift C (RD C) f) (lift C (RD C) h) (lift C (RD C) k) σ H Q := fun ⟨w, env, Hb, rl, p⟩ =>
    lift_bind (R := RD C) rl p fun x w1 Hb1 H1 v g1 r1 q1 p1 => lift_bind (R := RD C) r1 p1 fun y w2 Hb2 H2 u g2 r2 q2 p2 => by
      cases e : g x y with
      | none => rw [e] at p2; exact p2.elim
      | some z =>
        rw [e] at p2
        refine hd Hb2 H2 x y z v u _ r2.same (q1.mono g2.b) q2 e fun Hb3 H3 z' g3 rz => ?_
        have r3 := r2.grow g3
        have p3 := Post.mono p2 g3.sub
        cases z <;> first | exact p3.elim | skip
        rename_i kb
        cases rz
        cases kb with
        | false => exact ⟨false, rfl, iteF (Post.fin (R := RD C) r3 p3 (Gr.id r3.same) .bl)⟩
        | true =>
          refine ⟨true, rfl, iteT ?_⟩
          refine lift_bind (R := RD C) r3 p3 fun c' w4 Hb4 H4 vc g4 r4 q4 p4 => ?_
          cases e2 : g' y c' with
          | none => rw [e2] at p4; exact p4.elim
          | some z2 =>
            rw [e2] at p4
            exact hd' Hb4 H4 y c' z2 u vc Q r4.same ((q2.mono g3.b).mono g4.b) q4 e2 fun Hb' H' z g5 rz => Post.fin (R := RD C) r4 p4 g5 rz
theorem dt_chain {op op' : CmpOp} {r r' : R2} {g g' : D → D → Option D} {a b c : Expr} {f h k : E D} {pos : Pos} (ho : OpR X (compareOp op) r) (hd : OpD C.κ r g) (ho' : OpR X (compareOp op') r') (hd' : OpD C.κ r' g') (ha : DE X C a f) (hb : DE X C b h) (hc : DE X C c k)
    (hm : lastMarks [op, op'] [b, c] = false := by rfl) : DT X C (.Compare a [op, op'] [b, c] pos) (eB (eChain g g' f h k)) := fun hK =>
  PT.imp (pt_chain ho ho' (ha hK) (hb hK) (hc hK) hm) fun σ H Q l => test_of (fun Q => chain_read hd hd' σ H Q) l
end
section
variable {X : Cx} {C : Ct} {k : Nat} {cl : Nat → Addr} {a L Cc : Addr} {cs : List Int} {x : Str} {p pos : Pos} {e : Expr} {es : List Expr}
theorem de_fnW {m : Wo → List D → ER D} {j : Nat} {g : E (List D)} (B : Bd cl k X C) (h : DrC C a L Cc cs) (Dx : DefW X.prog X.w X.K X.mg X.base cl j x m) (ha : DA X C (e :: es) g) (hj : j ≤ k := by decide) (hg : Gl X x := by rfl)
    (hdb : (x == ("__debug__" : Str)) = false := by decide) (he : starEach (e :: es) X.env = (false, eval e X.env) :: starEach es X.env := by rfl) (hpl : (backTo pos (starEach es X.env)).any (·.1) = false := by rfl) : DE X C (.Call (.Name x p) (e :: es) [] pos) (eFunW m g) := by
  intro hK
  obtain ⟨fa, fd, ps, h1, h2, h3, h4⟩ := (Dx.up hj).ex
  have F := h4 a L Cc cs
  have hκ : (⟨X.K, .ref a, cl⟩ : Kx) = C.κ := by
    rw [hK, ← h.dr, ← B.cl]
  rw [hκ] at F
  refine PE.imp (pe_callG (W := WE C.Wx) F B.hr B.gd hg h1 h2 h3 (fun σ => passAt B.tk σ) (ha hK) hdb he hpl) ?_
  rintro σ H Q ⟨w, env, Hb, r, p⟩
  unfold eFunW at p
  refine lift_bind (R := RL C) r p fun ds w1 Hb1 H1 vs g1 r1 q1 p1 => ?_
  have ok1 := h.ok r1.ok
  refine ⟨ds, w1, Hb1, r1.same, ok1, fun b hb => r1.fpb h (h.fp b hb), r1.gr.b _ _ h.hc, q1, ?_⟩
  cases e : m w1 ds with
  | ok d w2 =>
    rw [e] at p1
    intro Hb' H' v g k2 rd
    have g' := g.wide h.fp
    exact p1 Hb' H' v g' (r1.mono g' (h.up r1.ok k2 g.h)) rd
  | exc x w2 =>
    rw [e] at p1
    intro Hb' H' c dd g k2 rd
    have g' := g.wide h.fp
    rw [← B.cl] at rd
    exact p1 Hb' H' c dd g' (r1.mono g' (h.up r1.ok k2 g.h)) rd
  | bad => rw [e] at p1; exact p1
end
end DL
set_option Elab.async false
set_option linter.all false
set_option autoImplicit false
set_option maxRecDepth 100000
set_option maxHeartbeats 1000000
/-! DF: objects that are held still for the time of a call. -/
namespace DL
open PySem PySem.Spec PyProof.Rows L2

def triv : HO := .ext fun _ => True
def frzM (F : Addr → Option Obj) (H : Hp) : Hp := fun b => match F b with
  | some o => some (.frz o triv)
  | none => H b
def delM (F : Addr → Option Obj) (H : Hp) : Hp := fun b => match F b with
  | some _ => none
  | none => H b
section
variable {F : Addr → Option Obj} {H H' : Hp} {h h' : Heap} {P : Program} {w : World} {b : Addr} {o : Obj}
theorem frzM_in (e : F b = some o) : frzM F H b = some (.frz o triv) := by simp only [frzM, e]
theorem frzM_out (e : F b = none) : frzM F H b = H b := by simp only [frzM, e]
theorem delM_in (e : F b = some o) : delM F H b = none := by simp only [delM, e]
theorem delM_out (e : F b = none) : delM F H b = H b := by simp only [delM, e]
theorem triv_ok {H : Hp} (e : h.get? b = some o) : ObjOk P w H h b (.frz o triv) := ⟨e, trivial, ⟨o, e⟩, fun _ _ _ _ => trivial⟩
/-- none of F's places is known, each holds its object -/
def Lie (F : Addr → Option Obj) (H : Hp) (h : Heap) : Prop := ∀ b o, F b = some o → H b = none ∧ h.get? b = some o
/-- each of F's places is known to be held still -/
def Still (F : Addr → Option Obj) (H : Hp) : Prop := ∀ b o, F b = some o → H b = some (.frz o triv)
theorem Still.get (f : Still F H) (k : HOk P w H h) {b : Addr} {o : Obj} (e : F b = some o) : h.get? b = some o := (k b _ (f b o e)).1
theorem hok_frz (k : HOk P w H h) (l : Lie F H h) : HOk P w (frzM F H) h := fun b u e => by
  cases z : F b with
  | some o =>
    rw [frzM_in z] at e
    cases e
    exact triv_ok (l b o z).2
  | none =>
    rw [frzM_out z] at e
    refine (k b u e).stay (fun c v _ q => q) (fun c q => ?_) fun c xs q => ?_
    · cases y : F c with
      | some o' => rw [(l c o' y).1] at q; cases q
      | none => rw [frzM_out y]; exact q
    · cases y : F c with
      | some o' => rw [(l c o' y).1] at q; cases q
      | none => rw [frzM_out y]; exact q
theorem hok_del (k : HOk P w H h) (l : ∀ b o, F b = some o → H b = none ∨ H b = some (.frz o triv)) : HOk P w (delM F H) h := fun b u e => by
  cases z : F b with
  | some o => rw [delM_in z] at e; cases e
  | none =>
    rw [delM_out z] at e
    refine (k b u e).stay (fun c v _ q => q) (fun c q => ?_) fun c xs q => ?_
    · cases y : F c with
      | some o' => rcases l c o' y with t | t <;> rw [t] at q <;> cases q
      | none => rw [delM_out y]; exact q
    · cases y : F c with
      | some o' => rcases l c o' y with t | t <;> rw [t] at q <;> cases q
      | none => rw [delM_out y]; exact q
/-- behind a call that ran with F held still -/
theorem un_del {fs : List Addr} (u : Un fs [] (frzM F H) H' h h') (k : HOk P w H' h') (l : Lie F H h) : Un fs [] H (delM F H') h h' := by
  have ho : ∀ {b : Addr}, F b = none → ∀ {u : Option HO}, H b = u → frzM F H b = u := fun e _ q => by rw [frzM_out e]; exact q
  have fz : ∀ b o, F b = some o → H' b = some (.frz o triv) := fun b o e => u.frzs b o triv (frzM_in e)
  refine ⟨fun b o e n hf hx => ?_, fun b o e n hf hx => ?_, fun b o e n hx => ?_, fun b o e hx => u.there b o e hx, fun b xs e => ?_, fun b o v e => ?_, fun b ps e => ?_⟩
  · cases z : F b with
    | some o' =>
      rw [(l b o' z).2] at e
      cases e
      exact (k b _ (fz b o z)).1
    | none => exact u.keep b o e (ho z n) hf hx
  · cases z : F b with
    | some o' =>
      rw [(l b o' z).2] at e
      cases e
      exact ⟨o.slots, (k b _ (fz b o z)).1⟩
    | none => exact u.slot b o e (ho z n) hf hx
  · cases z : F b with
    | some o' => exact delM_in z
    | none => rw [delM_out z]; exact u.free b o e (ho z n) hx
  · cases z : F b with
    | some o' => rw [(l b o' z).1] at e; cases e
    | none => rw [delM_out z]; exact u.tups b xs (ho z e)
  · cases z : F b with
    | some o' => rw [(l b o' z).1] at e; cases e
    | none => rw [delM_out z]; exact u.frzs b o v (ho z e)
  · cases z : F b with
    | some o' => rw [(l b o' z).1] at e; cases e
    | none => rw [delM_out z]; exact u.tbls b ps (ho z e)
/-- behind a call that ran with F let go -/
theorem un_frz {fs : List Addr} (u : Un fs [] (delM F H) H' h h') (f : Still F H) : Un fs [] H (frzM F H') h h' := by
  have nz : ∀ {b : Addr} {u : HO}, H b = some u → (∀ o, u ≠ .frz o triv) → F b = none := fun {b u} e n => by
    cases z : F b with
    | none => rfl
    | some o => rw [f b o z] at e; cases e; exact absurd rfl (n o)
  have n0 : ∀ {b : Addr}, H b = none → F b = none := fun {b} e => by
    cases z : F b with
    | none => rfl
    | some o => rw [f b o z] at e; cases e
  refine ⟨fun b o e n hf hx => u.keep b o e (by rw [delM_out (n0 n)]; exact n) hf hx, fun b o e n hf hx => u.slot b o e (by rw [delM_out (n0 n)]; exact n) hf hx, fun b o e n hx => ?_, fun b o e hx => u.there b o e hx, fun b xs e => ?_, fun b o v e => ?_, fun b ps e => ?_⟩
  · rw [frzM_out (n0 n)]
    exact u.free b o e (by rw [delM_out (n0 n)]; exact n) hx
  · have z := nz e (fun o q => by cases q)
    rw [frzM_out z]
    exact u.tups b xs (by rw [delM_out z]; exact e)
  · cases z : F b with
    | some o' =>
      rw [f b o' z] at e
      cases e
      exact frzM_in z
    | none =>
      rw [frzM_out z]
      exact u.frzs b o v (by rw [delM_out z]; exact e)
  · have z := nz e (fun o q => by cases q)
    rw [frzM_out z]
    exact u.tbls b ps (by rw [delM_out z]; exact e)
/-- .. what it let out -/
theorem cx_frz {up : List Env} {s s' : Shared} {E : XK} {u : Value} (f : Still F H) (k : HOk P w H s.heap) (hf : ∀ b ∈ frs up, F b = none) (c : L2.CX P w up (delM F H) s (fun cls d H' => (∀ b o, F b = some o → H' b = none) → E cls d (frzM F H')) u s') : L2.CX P w up H s E u s' := by
  obtain ⟨a, B, H', cls, d, rfl, fl, hok, ub, na, os, ag, hE⟩ := c
  have n0 : ∀ {b : Addr}, H b = none → F b = none := fun {b} e => by
    cases z : F b with
    | none => rfl
    | some o => rw [f b o z] at e; cases e
  have nz : ∀ {b : Addr} {u : HO}, H b = some u → (∀ o, u ≠ .frz o triv) → F b = none := fun {b u} e n => by
    cases z : F b with
    | none => rfl
    | some o => rw [f b o z] at e; cases e; exact absurd rfl (n o)
  have inB : ∀ b o, F b = some o → B.get? b = some o := fun b o e => ub.keep b o (f.get k e) (delM_in e) fun hm => by
    rw [hf b hm] at e; cases e
  have l : Lie F H' B := fun b o e => ⟨ub.free b o (f.get k e) (delM_in e), inB b o e⟩
  refine ⟨a, B, frzM F H', cls, d, rfl, fl, hok_frz hok l, ⟨fun b o e n hm => ub.keep b o e (by rw [delM_out (n0 n)]; exact n) hm, ub.slot, fun b o e n => ?_, ub.there, fun b xs e => ?_, fun b o v e => ?_, fun b ps e => ?_⟩, ?_, os, ag, hE fun b o e => (l b o e).1⟩
  · rw [frzM_out (n0 n)]
    exact ub.free b o e (by rw [delM_out (n0 n)]; exact n)
  · have z := nz e (fun o q => by cases q)
    rw [frzM_out z]
    exact ub.tups b xs (by rw [delM_out z]; exact e)
  · cases z : F b with
    | some o' =>
      rw [f b o' z] at e
      cases e
      exact frzM_in z
    | none =>
      rw [frzM_out z]
      exact ub.frzs b o v (by rw [delM_out z]; exact e)
  · have z := nz e (fun o q => by cases q)
    rw [frzM_out z]
    exact ub.tbls b ps (by rw [delM_out z]; exact e)
  · cases z : F a with
    | some o =>
      have := inB a o z
      rw [fl.2.1] at this
      cases this
    | none => rw [frzM_out z]; exact na
/-- the state at a call, F held still -/
theorem env0_frz {K : PySem.W.Frag} {mg : Str → Option Value} {base : Heap} {A : Around} {up : List Env} {s : Shared} (e : Env0 P w K mg base A up s H) (l : Lie F H s.heap) (hb : ∀ b o, F b = some o → base.get? b = none ∧ b ∉ frs up) : Env0 P w K mg base A up s (frzM F H) := by
  refine ⟨e.frames, e.mod, fun b o q => ⟨(e.bs b o q).1, ?_⟩, e.bsz, e.funs, fun b hm => ?_, hok_frz e.hok l, e.bare⟩
  · cases z : F b with
    | some o' => rw [(hb b o' z).1] at q; cases q
    | none => rw [frzM_out z]; exact (e.bs b o q).2
  · cases z : F b with
    | some o' => exact absurd hm (hb b o' z).2
    | none => rw [frzM_out z]; exact e.frf b hm
/-- .. F let go -/
theorem env0_del {K : PySem.W.Frag} {mg : Str → Option Value} {base : Heap} {A : Around} {up : List Env} {s : Shared} (e : Env0 P w K mg base A up s H) (f : Still F H) : Env0 P w K mg base A up s (delM F H) := by
  refine ⟨e.frames, e.mod, fun b o q => ⟨(e.bs b o q).1, ?_⟩, e.bsz, e.funs, fun b hm => ?_, hok_del e.hok fun b o z => .inr (f b o z), e.bare⟩
  · cases z : F b with
    | some o' => exact delM_in z
    | none => rw [delM_out z]; exact (e.bs b o q).2
  · cases z : F b with
    | some o' => exact delM_in z
    | none => rw [delM_out z]; exact e.frf b hm
end
end DL
set_option Elab.async false
set_option linter.all false
set_option autoImplicit false
set_option maxRecDepth 100000
set_option maxHeartbeats 1000000
/-! DG1: a caught exception is kept as a value. -/
namespace DL
open PySem PySem.Spec PyProof.Rows L2
section
variable {X : Cx} {pins : List (Addr × Obj)} {σ : L2.St} {H : Hp} {s : Shared} {a : Addr} {oe : Obj}
/-- an object that stands in the heap is held still from now on -/
theorem Inv_track (I : Inv X pins σ H s) (he : s.heap.get? a = some oe) (na : H a = none) (n0 : X.s_0.heap.get? a = none) (nL : a ≠ X.env.locals) (nC : ∀ x c, X.env.cells.lookup x = some c → c ≠ a) (nF : a ∉ X.fs) (nP : ∀ p ∈ X.pn ++ pins, p.1 ≠ a) :
    Inv X pins σ (upd H a (.frz oe triv)) s := by
  have ne : ∀ {b : Addr} {u : HO}, H b = some u → b ≠ a := fun {b u} e z => by rw [z, na] at e; cases e
  have n1 : ∀ {b : Addr} {o : Obj}, X.s_0.heap.get? b = some o → b ≠ a := fun {b o} e z => by rw [z, n0] at e; cases e
  refine ⟨I.ok, I.os, I.bare, ⟨I.base.keep, I.base.slot, fun b o e n hx => ?_, I.base.there, fun b xs e => ?_, fun b o u e => ?_, fun b ps e => ?_⟩, I.loc, I.cell, ?_, fun x c e => ?_, fun p hp => ?_, fun b u e => ?_, I.len⟩
  · rw [upd_ne (n1 e)]
    exact I.base.free b o e n hx
  · have := I.base.tups b xs e
    rw [upd_ne (ne this)]
    exact this
  · have := I.base.frzs b o u e
    rw [upd_ne (ne this)]
    exact this
  · obtain ⟨m, q⟩ := I.base.tbls b ps e
    exact ⟨m, by rw [upd_ne (ne q)]; exact q⟩
  · rw [upd_ne (Ne.symm nL)]
    exact I.free
  · rw [upd_ne (nC x c e)]
    exact I.freeC x c e
  · obtain ⟨p1, p2, p3⟩ := I.pin p hp
    exact ⟨p1, by rw [upd_ne (nP p hp)]; exact p2, p3⟩
  · by_cases z : b = a
    · subst z
      rw [upd_same] at e
      cases e
      exact triv_ok he
    · rw [upd_ne z] at e
      refine (I.hok b u e).stay (fun c v _ q => q) (fun c q => ?_) fun c xs q => ?_
      · rw [upd_ne (ne q)]; exact q
      · rw [upd_ne (ne q)]; exact q
end

/-- what the clause 'except x as n: y = n' wishes: i is n's slot, j is y's -/
def wKeep (K : PySem.W.Frag) (c : Value) (i j : Nat) (D : Ends) : WX := fun cls d σ H => PySem.W.exmOne K cls c = some true ∧ ∀ a oe, H a = none → oe.cls = cls → oe.dict = d → (∃ vs, oe.data = .fields vs) →
  D.nx (((σ.set i (some (.ref a))).set j (some (.ref a))).set i none) (upd H a (.frz oe triv))
section
variable {X : Cx} {x n y : Str} {c : Value} {i j : Nat} {body : List Stmt} {np pos pos' p1 p2 p3 : Pos} {tb : WX → TS}
theorem ps_try_keep (hs : X.stack = X.env :: X.outer) (hf : X.env.frame = some X.env.locals) (hN : X.N.Nodup) (hi : X.N[i]? = some n) (hj : X.N[j]? = some y) (hij : i ≠ j) (hln : X.env.kindOf n = some .local) (hly : X.env.scope.names.lookup y = some .local) (hc : Names X x c) (hex : X.ex = [])
    (hd : (n == ("__debug__" : Str)) = false) (hcd : (n == ("__classdict__" : Str)) = false)
    (hsw : ∀ a pn, swapsWith (.Name n p2) (some (.Name y p1)) p3.line (X.suite a pn).env = pure false)
    (hb : ∀ (W : WX) (pn : List (Addr × Obj)) (xe : Value → Shared → Prop), Takes (X.tr pn xe) W → PassesOwn (model X.prog X.w) X.A X.env xe → PSs (X.tr pn xe) body (tb W)) :
    PS X (.Try body [.ExceptHandler (some (.Name x np)) (some n) [.Assign [.Name y p1] (.Name n p2) p3] pos'] [] [] pos) (fun D σ H => tb (wKeep X.K c i j D) D σ H) := by
  constructor
  intro pins s σ H D I h
  have ok := I.ok
  have hfr : X.A.frames = some (X.env :: X.outer) := by rw [ok.frames, hs]
  have hloc : Loc X.env.scope n := .inl hln
  refine wpAny_Try_except ?_
  refine wpAny_mono ((hb (wKeep X.K c i j D) (X.pn ++ pins) _ ?_ PassesOwn.looking).run [] s σ H D (I.toTry _) h) ?_ (fun e s1 he => he)
  · rintro u s' ⟨a, B, sI, pins', σ', H', cls, d, rfl, J', nb, up, sky, na, os, ag, hb1, hyes⟩
    have J : Inv X pins σ' H' sI := J'.ofTry ok
    show wpAny (model X.prog X.w) X.A (noteFrame (.ref a) X.env) _ _ _
    rw [hs] at sky
    refine Sky.land Zc.steady hfr hf sky fun h3 fl3 up3 => ?_
    have J3 : Inv X pins σ' H' { s' with heap := h3 } := J.landed nb fl3.1 (up.trans up3) os ag
    obtain ⟨oe3, vs3, he3, hz3, hd3⟩ := fl3.there
    have nfr : a ∉ frs (X.env :: X.outer) := fun hm => by
      obtain ⟨_, o', e', hnf⟩ := fl3.2.2.1.mem hm
      rw [he3] at e'
      cases e'
      exact hnf _ hd3
    have nL : a ≠ X.env.locals := fun z => nfr (List.mem_filterMap.mpr ⟨X.env, List.mem_cons_self, by rw [hf, z]⟩)
    have nF : a ∉ X.fs := fun hm => by
      obtain ⟨e, he, q⟩ := List.mem_filterMap.mp hm
      exact nfr (List.mem_filterMap.mpr ⟨e, List.mem_cons_of_mem _ he, q⟩)
    -- a is new
    have nB : B.get? a = none := fl3.2.1
    have nI : sI.heap.get? a = none := by
      cases z : sI.heap.get? a with
      | none => rfl
      | some o =>
        have := nb a o z (by rw [hs]; exact nfr)
        rw [nB] at this
        cases this
    have n0 : X.s_0.heap.get? a = none := by
      cases z : X.s_0.heap.get? a with
      | none => rfl
      | some o =>
        obtain ⟨o', q⟩ := J.base.there a o z (by rw [hex]; simp)
        rw [nI] at q
        cases q
    have S3 := J3.suite he3 hd3 na nL nF
    refine wpAny_handleBy_cons (codeAny_handlers_test ?_) (by intro q; cases q)
    have LT : PySem.W.Looks (model X.prog X.w) h3 (typeOf (.ref a)) cls := fun A Q E s k q => wpAny_typeOf_ref (k _ _ he3) (by rw [hz3.1]; exact q)
    have LM := PySem.W.exm_one (M := model X.prog X.w) (J3.kIn) LT hb1
    have test : ∀ {Q : Value → Shared → Prop} {E : Value → Shared → Prop}, Q c { s' with heap := h3 } → wpAny (model X.prog X.w) (X.A.mark (some (.ref a))) (eval (.Name x np) X.env) Q E { s' with heap := h3 } := by
      intro Q E q
      obtain ⟨hg, hdbg, hm | ⟨hm, hv, hnn⟩⟩ := hc
      · exact ld_glob (X := X.suite a ((a, oe3) :: (X.pn ++ pins))) S3 hg hm q hdbg
      · exact ld_blt (X := X.suite a ((a, oe3) :: (X.pn ++ pins))) S3 hg hm hv q hnn hdbg
    refine test (LM.here ?_)
    refine codeAny_handlers_suite_as ?_
    refine HandSPX.lands_againZ fl3 fun h4 fl4 up4 => ?_
    have J4 : Inv X pins σ' H' { s' with heap := h4 } := J.landed nb fl4.1 ((up.trans up3).trans up4) os ag
    obtain ⟨oe4, vs4, he4, hz4, hd4⟩ := fl4.there
    have S4 := J4.suite he4 hd4 na nL nF
    refine store_ok (X := X.suite a ((a, oe4) :: (X.pn ++ pins))) (v := .ref a) S4 hN hi hloc rfl (fun s5 S5 => ?_) (.inr hln)
    have hP : PSs (X.suite a ((a, oe4) :: (X.pn ++ pins))) [.Assign [.Name y p1] (.Name n p2) p3] (tAsg (tVar i) (gName j)) := pss_one (ps_set (i := j) hN hj (.inl hly) (pe_var (i := i) hi (.inl hln) hd hcd) (hsw _ _) (.inr hly))
    have hlen : i < σ'.length := by
      have h1 := J.len
      have h2 := (List.getElem?_eq_some_iff.mp hi).1
      omega
    refine wpAny_mono (hP.run [] s5 _ H' { nx := fun σ6 H6 => σ6 = (σ'.set i (some (.ref a))).set j (some (.ref a)) ∧ H6 = H', rt := fun _ _ => False } S5 ⟨.ref a, by rw [List.getElem?_set_self hlen], rfl, rfl⟩) ?_ (fun _ _ z => False.elim z)
    intro f s6 hsp
    cases f with
    | next =>
      obtain ⟨σ6, H6, S6, rfl, rfl⟩ := hsp
      have hpin := (S6.pin (a, oe4) (List.mem_append_left _ List.mem_cons_self)).1
      have J6 : Inv X pins _ H6 s6 := S6.unsuite ok
      have J7 := Inv_track J6 hpin na n0 nL (fun z cc e1 e2 => by
          obtain ⟨v, o, ho, hdd⟩ := J6.cell z cc e1
          rw [e2, hpin] at ho
          cases ho
          rw [hd4] at hdd
          cases hdd) nF (fun p hp e => by
          obtain ⟨q1, q2, q3, q4, _⟩ := J.pin p hp
          rw [e, nI] at q1
          cases q1)
      refine gone_ok J7 hN hi hln fun s7 J8 => ⟨_, _, J8, hyes a oe4 na hz4.1 hz4.2 ⟨_, hd4⟩⟩
    | ret u => obtain ⟨_, _, _, _, _, q⟩ := hsp; exact q.elim
    | brk => obtain ⟨_, _, _, q⟩ := hsp; exact q.elim
    | cont => obtain ⟨_, _, _, q⟩ := hsp; exact q.elim
  · intro f s1 hsp
    cases f with
    | next =>
      obtain ⟨σ', H', J', q⟩ := hsp
      exact wpAny_execs_nil ⟨σ', H', J'.ofTry ok, q⟩
    | ret u =>
      obtain ⟨v, σ', H', J', r, q⟩ := hsp
      exact ⟨v, σ', H', J'.ofTry ok, r, q⟩
    | brk =>
      obtain ⟨σ', H', J', q⟩ := hsp
      exact ⟨σ', H', J'.ofTry ok, q⟩
    | cont =>
      obtain ⟨σ', H', J', q⟩ := hsp
      exact ⟨σ', H', J'.ofTry ok, q⟩
end
end DL
set_option Elab.async false
set_option linter.all false
set_option autoImplicit false
set_option maxRecDepth 100000
set_option maxHeartbeats 1000000
/-! DG2: isinstance and fields of an exception that is a value. -/
namespace DL
open PySem PySem.Spec PyProof.Rows L2 PySem.W PySem.Calls
section
variable {prog : Program} {w : World} {A : Around} {E : Value → Shared → Prop} {s : Shared} {K : Frag} {x D : Addr} {ox : Obj} {od : Option Obj}
theorem findObj_dataO {name : Str} {a g : Value} (hc : (clsIn K D).isSome = true) (ha : findIn K (.ref D) name = some (some a)) (hg : specialIn K a "__get__" = some (some g)) (ht : takesIn K a = some true) : findObj K D od name = some (.bind g a) := by
  cases od with
  | none => exact findObj_dataN hc ha hg ht
  | some o => exact findObj_data hc ha hg ht
/-- x.__class__ of an exception, with or without a dict -/
theorem class_of_exc {Q : Option Value → Shared → Prop} (C : ExcC K D) (X : K.In s.heap) (I : InstAt s.heap x ox D od) (h : Q (some (.ref D)) { s with toks := s.toks + 1 }) : wpAny (model prog w) A (getAttr? (.ref x) "__class__") Q E s := by
  have hf : findObj K D od "__class__" = some (.bind (.builtin "getset_descriptor.__get__") (.builtin "object.__class__")) := findObj_dataO (by
    obtain ⟨cd, hc, _⟩ := any_some C.hd
    rw [hc]; rfl) C.ha C.hn C.ht
  obtain ⟨hp, g, d, t, os⟩ := s
  have l0 := I.type (M := model prog w)
  have l3 := looks_find (M := model prog w) X I hf
  have sub : Looks (model prog w) hp (isInstance (.ref x) (.type "BaseException")) true := l0.andThen (looks_subIn X C.hs)
  have e2 : (Value.builtin "BaseException.__getattribute__" == Value.builtin "object.__getattribute__") = false := by decide +kernel
  have e1 : (onTheHeap (Value.ref D) && Value.builtin "BaseException.__getattribute__" == Value.builtin "object.__getattribute__") = false := by
    rw [e2]; rfl
  unfold getAttr? getAttrBy? getAttrBy
  refine wpAny_bind (wpAny_mkText (wpAny_bind (wpAny_attempt (wpAny_holding (wpAny_bind (l0.at (wpAny_bind ((looks_findIn X C.hg).at ?_))))))))
  show wpAny _ _ (if (onTheHeap (Value.ref D) && Value.builtin "BaseException.__getattribute__" == Value.builtin "object.__getattribute__") = true then _ else _) _ _ _
  rw [e1, if_neg Bool.false_ne_true]
  unfold getAttrByItsOwn hookBefore
  refine wpAny_bind ?_
  rw [if_pos (show onTheHeap (Value.ref D) = true from rfl)]
  refine (looks_findIn X C.hk).at ?_
  refine wpAny_bind (wpAny_attempt (wpAny_holding ?_))
  unfold callGetattribute
  rw [show (false && onTheHeap (Value.builtin "BaseException.__getattribute__")) = false from rfl, if_neg Bool.false_ne_true]
  unfold boundAndCalled
  rw [PySem.F.excAttr_ValueError.ga.bind (.ref x)]
  refine wpAny_bind (wpAny_pure ?_)
  show wpAny _ _ (call (.builtin "BaseException.__getattribute__") [.ref x, .str "__class__" t]) _ _ _
  refine wpAny_call (codeAny_call_builtin PySem.F.excAttr_ValueError.ga.plain PySem.F.entry_bexc_ga ?_)
  refine @check_slot (model prog w) _ _ ⟨hp, g, d, t + 1, os⟩ "BaseException.__getattribute__" "BaseException" "__getattribute__" (.ref x) [.str "__class__" t] [] _ (by decide +kernel) (by decide +kernel) sub (PySem.F.args_bexc_ga (.ref x) (.str "__class__" t)) ?_
  unfold Builtin.«object.__getattribute__»
  refine wpAny_bind (wpAny_of_eq (a := ((Value.ref x : Value), [Value.str "__class__" t])) (by first | rfl | (simp only [slotArgs]; rfl)) ?_)
  refine wpAny_bind (wpAny_pure (wpAny_bind (l0.at (wpAny_bind (l3.at ?_)))))
  show wpAny _ _ (holding [Value.builtin "object.__class__"] (call (.builtin "getset_descriptor.__get__") [.builtin "object.__class__", .ref x, .ref D]) >>= ret) _ _ _
  refine wpAny_bind (wpAny_holding (wpAny_call (class_get (s := ⟨hp, g, d, t + 1, os⟩) (ox := ox) (od := od) X I C.hm ?_)))
  refine wpAny_pure ?_
  show wpAny _ _ (handedOut (.ref D)) _ _ _
  rw [handedOut_of (v := .ref D) rfl]
  first
    | exact wpAny_pure (wpAny_pure h)
    | exact wpAny_pure h
    | exact wpAny_pure (wpAny_bind (wpAny_pure (wpAny_pure h)))
theorem kit_exc (C : ExcC K D) : KitX K (.ref x) (.ref D) (fun h => ∃ od, InstAt h x ox D od) where
  ty := fun _ _ _ ⟨_, I⟩ => I.type
  it := fun M h X _ => by
    obtain ⟨cd, hc, _⟩ := any_some C.hd
    obtain ⟨o, h1, h2⟩ := clsIn_at X hc
    intro A Q E s k q
    unfold isType loadHead
    exact wpAny_bind (wpAny_loadPart (k _ _ h1) (by rw [h2]; exact wpAny_pure q))
  ne := (handS_kitx_exc (x := x) (ox := ox) C.hg C.hk C.hs C.hd C.ha C.hn C.ht C.hm).ne
  ca := fun X ⟨_, I⟩ k => class_of_exc C X I k
end

/-- isinstance(e, c), e an exception held still -/
def rIsX (K : Frag) : List V → Hp → VK → Prop := fun xs H Q => ∃ (a D : Addr) (oe : Obj) (u : HO) (c : V) (cv : Value) (b : Bool), xs = [.ref a, c] ∧ H a = some (.frz oe u) ∧ oe.cls = .ref D ∧ (∃ vs, oe.data = .fields vs) ∧ (oe.dict = none ∨ ∃ dd fs, oe.dict = some dd ∧ H dd = some (.xd fs)) ∧ ExcC K D ∧ ClsV c cv ∧ kitOne K (.ref D) cv = some b ∧ Q (.bl b) H
theorem inst_of {P : Program} {w : World} {H : Hp} {h : Heap} {a D : Addr} {oe : Obj} {u : HO} (k : HOk P w H h) (ha : H a = some (.frz oe u)) (hc : oe.cls = .ref D) (hf : ∃ vs, oe.data = .fields vs) (hd : oe.dict = none ∨ ∃ dd fs, oe.dict = some dd ∧ H dd = some (.xd fs)) : ∃ od, InstAt h a oe D od := by
  have he := (k a _ ha).1
  obtain ⟨vs, hv⟩ := hf
  have hn : notCls oe = true := by unfold notCls; rw [hv]
  rcases hd with hd | ⟨dd, fs, hd, hx⟩
  · exact ⟨none, he, hc, hn, by rw [hd]; trivial⟩
  · obtain ⟨mA, ⟨o, es, ep, ho, _⟩, _⟩ := k dd _ hx
    exact ⟨some o, he, hc, hn, by rw [hd]; exact ho⟩
theorem call_isX {X : Cx} : CallR X (.builtin "isinstance") (rIsX X.K) := by
  intro pins s σ H xs us Q I r h
  obtain ⟨a, D, oe, u, c, cv, b, rfl, ha, hc, hf, hd, C, hcv, e, q⟩ := h
  obtain ⟨u1, u2, rfl, r1, r2⟩ := vals2 r
  obtain rfl : u1 = Value.ref a := r1
  obtain rfl := hcv.eq r2
  exact kia_one (kit_exc C) I.kIn (inst_of I.hok ha hc hf hd) e (fun z => nomatch z) fun tk => ⟨.bl b, H, I.kept (t' := tk) fun _ _ z => z, rfl, q⟩
/-- what is known of the own exception classes: tab n m: is n's instance one of m -/
structure TabX (K : Frag) (cl : Nat → Addr) (tab : Nat → Nat → Option Bool) : Prop where
  c : ∀ n m b, tab n m = some b → ExcC K (cl n)
  k : ∀ n m b, tab n m = some b → kitOne K (.ref (cl n)) (.ref (cl m)) = some b
  non : ∀ m b, tab m m = some b → kitOne K (.type "NoneType") (.ref (cl m)) = some false
def isX (tab : Nat → Nat → Option Bool) (m : Nat) : D → Option Bool
  | .exc0 n => tab n m
  | .exc1 n _ _ => tab n m
  | .non => match tab m m with
    | some _ => some false
    | none => none
  | _ => none
def eIsX (tab : Nat → Nat → Option Bool) (m : Nat) (f : E D) : E D := ebind f fun d => eopt (blOpt (isX tab m d))
section
variable {X : Cx} {C : Ct} {cl : Nat → Addr} {k : Nat}
theorem de_isx {tab : Nat → Nat → Option Bool} {e : Expr} {f : E D} {y : Str} {p p2 pos : Pos} (m : Nat) (B : Bd cl k X C) (T : TabX X.K cl tab) (hm : X.mg "isinstance" = none) (ha : DE X C e f) (hm2 : X.mg y = some (.ref (cl m))) (hg : Gl X "isinstance" := by rfl) (hg2 : Gl X y := by rfl)
    (hd2 : (y == ("__debug__" : Str)) = false := by decide) (hs1 : starEach [e, .Name y p2] X.env = (false, eval e X.env) :: starEach [.Name y p2] X.env := by rfl) (hs2 : starEach [.Name y p2] X.env = (false, eval (.Name y p2) X.env) :: starEach [] X.env := by rfl)
    (hpl : (backTo pos (starEach [.Name y p2] X.env)).any (·.1) = false := by rfl) : DE X C (.Call (.Name "isinstance" p) [e, .Name y p2] [] pos) (eIsX tab m f) := by
  intro hK
  have hor : CallR X (.builtin "isinstance") (fun xs H Q => rIsi X.K xs H Q ∨ rIsX X.K xs H Q) := fun pins s σ H xs us Q I r q => q.elim (call_isi pins s σ H xs us Q I r) (call_isX pins s σ H xs us Q I r)
  refine PE.imp (pe_callB hor hg hm boot_isinstance (pa_cons (ha hK) (pa_cons (pe_glob (v := .ref (cl m)) hg2 hm2 rfl hd2) pa_nil hs2) hs1) (by decide) (by decide) hs1 hpl) ?_
  rintro σ H Q ⟨w, env, Hb, r, p⟩
  refine lift_bind (R := RD C) r p fun d w1 Hb1 H1 v g1 r1 q1 p1 => ?_
  cases z : isX tab m d with
  | none => rw [z] at p1; exact p1.elim
  | some b =>
    rw [z] at p1
    have fin : Q (.bl b) H1 := Post.fin (R := RD C) r1 p1 (Gr.id r1.same) .bl
    cases d <;> simp only [isX, reduceCtorEq] at z
    · cases q1
      cases y : tab m m with
      | none => rw [y] at z; cases z
      | some b' =>
        rw [y] at z
        cases z
        exact .inl ⟨.non, .ref (cl m), _, _, false, rfl, .own _, .base .non, T.non m b' y, fin⟩
    · cases q1 with
      | exc0 h h1 h2 h3 =>
        exact .inr ⟨_, _, _, _, _, _, b, rfl, r1.same _ _ h, h1, h3, .inl h2, by rw [show C.κ.cl = cl from B.cl]; exact T.c _ m b z, .own _, by rw [show C.κ.cl = cl from B.cl]; exact T.k _ m b z, fin⟩
    · cases q1 with
      | exc1 h h1 h2 h3 h4 h5 =>
        exact .inr ⟨_, _, _, _, _, _, b, rfl, r1.same _ _ h, h1, h3, .inr ⟨_, _, h2, r1.same _ _ h4⟩, by rw [show C.κ.cl = cl from B.cl]; exact T.c _ m b z, .own _, by rw [show C.κ.cl = cl from B.cl]; exact T.k _ m b z, fin⟩
/-- e.f of an exception -/
def eFld (fl : Str) (f : E D) : E D := ebind f fun d => eopt (match d with | .exc1 _ g x => if fl = g then some x else none | _ => none)
/-- the classes whose field f may be read -/
structure FldX (K : Frag) (cl : Nat → Addr) (fl : Str) : Prop where
  T : ∀ n, XfC K (cl n)
  no : ∀ n, findIn K (.ref (cl n)) fl = some none
theorem de_fld {e : Expr} {f : E D} {fl : Str} {pos : Pos} (B : Bd cl k X C) (T : FldX X.K cl fl) (ha : DE X C e f) (hb : attributeBase e fl X.env (eval e X.env) = eval e X.env := by rfl) : DE X C (.Attribute e fl pos) (eFld fl f) := by
  intro hK
  constructor
  rintro pins s σ H Q I ⟨w, env, Hb, r, p⟩
  refine attr_of hb ?_
  refine thn ((ha hK).run pins s σ H _ I (lift_bind (R := RD C) (Q1 := fun x H1 => ∃ (a D : Addr) (oe : Obj) (u : HO) (dd : Addr) (v : V), x = .ref a ∧ H1 a = some (.frz oe u) ∧ oe.cls = .ref D ∧ (∃ vs, oe.data = .fields vs) ∧ oe.dict = some dd ∧ H1 dd = some (.xd [(fl, v)]) ∧ XfC X.K D ∧ findIn X.K (.ref D) fl = some none ∧ Q v H1) r p fun d w1 Hb1 H1 v g1 r1 q1 p1 => ?_)) ?_
  · cases d <;> first | exact p1.elim | skip
    rename_i n g x
    dsimp only at p1
    by_cases z : fl = g
    · subst z
      rw [if_pos rfl] at p1
      cases q1 with
      | exc1 h h1 h2 h3 h4 h5 => exact ⟨_, _, _, _, _, _, rfl, r1.same _ _ h, h1, h3, h2, r1.same _ _ h4, by rw [show C.κ.cl = cl from B.cl]; exact T.T _, by rw [show C.κ.cl = cl from B.cl]; exact T.no _, Post.fin (R := RD C) r1 p1 (Gr.id r1.same) h5⟩
    · rw [if_neg z] at p1; exact p1.elim
  · rintro u0 s1 ⟨x, H1, I1, rx, a, D, oe, u, dd, v, rfl, ha, hc, ⟨vs, hv⟩, hd, hx, T1, hno, q⟩
    obtain rfl : u0 = Value.ref a := rx
    obtain ⟨mA, hns, hr⟩ := (show ObjOk X.prog X.w H1 s1.heap dd (.xd [(fl, v)]) from I1.hok dd _ hx)
    obtain ⟨od, ho, hl⟩ := lookIn_ns hns
    have hr2 := hr fl
    obtain ⟨u2, hu, ru⟩ := RelO.some_of (v := v) (o := mA fl) (by
      have e : ([(fl, v)] : List (Str × V)).lookup fl = some v := by simp [List.lookup]
      rw [← e]; exact hr2)
    have J : InstAt s1.heap a oe D (some od) := ⟨(I1.hok a _ ha).1, hc, by unfold notCls; rw [hv], by rw [hd]; exact ho⟩
    exact HandSPX.exc_get I1.kIn J T1.ga T1.gg T1.exC (findObj_own T1.hdC hno rfl (by rw [hl, hu])) (handed_of ru) ⟨v, H1, I1.tok _, ru, q⟩
end
end DL
set_option Elab.async false
set_option linter.all false
set_option autoImplicit false
set_option maxRecDepth 100000
set_option maxHeartbeats 1000000
/-! DG3: what is called without arguments (a lambda), handed to a def; try. -/
namespace DL
open PySem PySem.Spec PyProof.Rows L2
/-- the function object at f, held still with what it leans on (T), keeps sp when it is called -/
structure Clo (P : Program) (w : World) (K : PySem.W.Frag) (mg : Str → Option Value) (base : Heap) (k : Nat) (f : Addr) (T : Hp) (sp : Hp → VK → XK → Prop) : Prop where
  obj : ∃ (q : Str) (params : Arguments) (body : Expr) (scope : Scope) (cl : List (Str × Addr)) (pm : Value) (c' : Addr) (ctv : Value), T f = some (.frz (PySem.W.kla_obj "<lambda>" q params body scope cl pm c' ctv) triv)
  go : ∀ (A : Around) (up : List Env) (s : Shared) (H : Hp) (Q : VK) (W : XK), Room k A → A.guards = some [] → Env0 P w K mg base A up s H → Same T H → sp H Q W → codeAny (model P w) A (.call (.ref f) ⟨[], []⟩) (CR (L2.CX P w) up P w H s Q W) s
theorem Clo.imp {P : Program} {w : World} {K : PySem.W.Frag} {mg : Str → Option Value} {base : Heap} {k : Nat} {f : Addr} {T : Hp} {sp sp' : Hp → VK → XK → Prop} (c : Clo P w K mg base k f T sp) (h : ∀ H Q W, sp' H Q W → sp H Q W) : Clo P w K mg base k f T sp' :=
  ⟨c.obj, fun A up s H Q W hr hg e t q => c.go A up s H Q W hr hg e t (h H Q W q)⟩
/-- a() -/
theorem pe_work {X : Cx} {k i : Nat} {f : Addr} {T : Hp} {sp : Hp → VK → XK → Prop} {W : L2.St → XK} {a : Str} {p1 p2 : Pos} (c : Clo X.prog X.w X.K X.mg X.base k f T sp) (hr : Room k X.A) (hg : X.A.guards = some []) (hx : ∀ σ, PassesAt (L2.CX X.prog X.w) X σ (W σ)) (hN : X.N[i]? = some a) (hv : Vis X.env.scope a)
    (hd : (a == ("__debug__" : Str)) = false) (hcd : (a == ("__classdict__" : Str)) = false) : PE X (.Call (.Name a p1) [] [] p2) (fun σ H Q => σ[i]? = some (some (.ref f)) ∧ Same T H ∧ sp H Q (W σ)) := by
  constructor
  rintro pins s σ H Q I ⟨hs, hT, hq⟩
  refine wpAny_Call_Name_kw (thn ((pe_var (pos := p1) (i := i) hN hv hd hcd).run pins s σ H (fun v H1 => v = .ref f ∧ H1 = H) I ⟨.ref f, hs, rfl, rfl⟩) ?_)
  rintro u s1 ⟨v, H1, I1, r1, rfl, rfl⟩
  obtain rfl : u = Value.ref f := r1
  obtain ⟨q, params, body, scope, cl, pm, c', ctv, hf⟩ := c.obj
  have of1 := (I1.hok f _ (hT _ _ hf)).1
  refine PySem.W.callWith_F0 ⟨_, _, _, _, of1⟩ ?_
  refine wpAny_call (codeAny_mono (c.go X.A X.stack s1 H1 Q (W σ) hr hg I1.env0 hT hq) ?_)
  intro r s' hr'
  rcases r with er | fl
  · exact hx σ pins H1 s1 er s' I1 hr'
  · cases fl <;> first | exact hr'.elim | exact I1.after hr'

/-- what such a call does, told on data: rc its mirror; Hb, H the state since when it is known -/
def spZ (κ : Kx) (a L Cc : Addr) (cs : List Int) (Hb H : Hp) (rc : Wo → ER D) : Hp → VK → XK → Prop := fun H1 Q W => ∃ w Hb1, Gr (GamD a L Cc cs).fp Hb H Hb1 H1 ∧ (GamD a L Cc cs).ok w H1 ∧ match rc w with
  | .ok d w' => ∀ Hb' H' v, Gr (GamD a L Cc cs).fp Hb1 H1 Hb' H' → (GamD a L Cc cs).ok w' H' → Rep κ Hb' d v → Q v H'
  | .exc x w' => ∀ Hb' H' c dd, Gr (GamD a L Cc cs).fp Hb1 H1 Hb' H' → (GamD a L Cc cs).ok w' H' → XRep κ κ.cl Hb' x c dd → W c dd H'
  | .bad => False
theorem spZ_grow {κ : Kx} {a L Cc : Addr} {cs : List Int} {Hb H Hb1 H1 : Hp} {rc : Wo → ER D} (g : Gr (GamD a L Cc cs).fp Hb H Hb1 H1) (H2 : Hp) (Q : VK) (W : XK) (q : spZ κ a L Cc cs Hb1 H1 rc H2 Q W) : spZ κ a L Cc cs Hb H rc H2 Q W := by
  obtain ⟨w, Hb2, g2, k, q⟩ := q
  exact ⟨w, Hb2, g.trans g2, k, q⟩
/-- within a def that got it -/
structure CloC (X : Cx) (C : Ct) (k : Nat) (f : Addr) (a L Cc : Addr) (cs : List Int) (rc : Wo → ER D) : Prop where
  efp : C.fp = (GamD a L Cc cs).fp
  T : ∃ T : Hp, Same T C.Hb0 ∧ Clo X.prog X.w X.K X.mg X.base k f T (spZ C.κ a L Cc cs C.Hb0 C.H0 rc)
def eWork (f : Addr) (i : Nat) (rc : Wo → ER D) : E D := fun w e => match e[i]? with
  | some (.dat (.raw v)) => if v = .ref f then rc w else .bad
  | _ => .bad
section
variable {X : Cx} {C : Ct} {cl : Nat → Addr} {k k0 : Nat} {f a L Cc : Addr} {cs : List Int} {rc : Wo → ER D}
theorem de_work (i : Nat) {x : Str} {p1 p2 : Pos} (B : Bd cl k X C) (h : DrC C a L Cc cs) (c : CloC X C k0 f a L Cc cs rc) (hk : k0 ≤ k) (hN : X.N[i]? = some x := by rfl) (hv : Vis X.env.scope x := by first | exact Or.inl rfl | exact Or.inr (Or.inl rfl) | exact Or.inr (Or.inr rfl))
    (hd : (x == ("__debug__" : Str)) = false := by decide) (hcd : (x == ("__classdict__" : Str)) = false := by decide) : DE X C (.Call (.Name x p1) [] [] p2) (eWork f i rc) := by
  intro hK
  obtain ⟨T, hT, hc⟩ := c.T
  refine PE.imp (pe_work (i := i) (W := WE C.Wx) hc (B.hr.mono hk) B.gd (fun σ => passAt B.tk σ) hN hv hd hcd) ?_
  rintro σ H Q ⟨w, env, Hb, r, p⟩
  unfold eWork at p
  cases e : env[i]? with
  | none => rw [e] at p; exact p.elim
  | some s =>
    rw [e] at p
    cases s with
    | un => exact p.elim
    | own ds => exact p.elim
    | dat x =>
      cases x <;> first | exact p.elim | skip
      rename_i v
      dsimp only at p
      by_cases z : v = .ref f
      · rw [if_pos z] at p
        subst z
        obtain ⟨u, e1, e2⟩ := r.env.dat i _ e
        cases e2
        have efp := c.efp
        have ok1 := h.ok r.ok
        refine ⟨e1, hT.trans (r.gr.b.trans r.same), w, Hb, by rw [← efp]; exact r.gr, ok1, ?_⟩
        cases y : rc w with
        | ok d w2 =>
          rw [y] at p
          intro Hb' H' v g k2 rd
          have g' := g.wide h.fp
          exact p Hb' H' v g' (r.mono g' (h.up r.ok k2 g.h)) rd
        | exc x w2 =>
          rw [y] at p
          intro Hb' H' c dd g k2 rd
          have g' := g.wide h.fp
          exact p Hb' H' c dd g' (r.mono g' (h.up r.ok k2 g.h)) rd
        | bad => rw [y] at p; exact p
      · rw [if_neg z] at p; exact p.elim

/-! ### try: .. except x as n: y = n -/
def excD (x : Xc) : D := match x.part with
  | none => .exc0 x.cls
  | some (f, d) => .exc1 x.cls f d
def tryS (f : S) (m i j : Nat) : S := fun w e => match f w e with
  | .exc x e' w' => if x.cls < m then .nx (((e'.set i .un).set j (.dat (excD x))).set i .un) w' else .bad
  | r => r
theorem ds_try {x n y : Str} {c : Value} {body : List Stmt} {np pos pos' p1 p2 p3 : Pos} {f : S} (i j m : Nat) (B : Bd cl k X C) (hN : X.N.Nodup) (hxm : ∀ q, q < m → PySem.W.exmOne X.K (.ref (cl q)) c = some true) (hmx : X.mg x = some c)
    (hb : ∀ (W : WX) (pn : List (Addr × Obj)) (xe : Value → Shared → Prop), Bd cl k (X.tr pn xe) { C with Wx := W } → DB (X.tr pn xe) { C with Wx := W } body f)
    (hs : X.stack = X.env :: X.outer := by rfl) (hf : X.env.frame = some X.env.locals := by rfl) (hi : X.N[i]? = some n := by rfl) (hj : X.N[j]? = some y := by rfl) (hij : i ≠ j := by decide) (hln : X.env.kindOf n = some .local := by rfl) (hly : X.env.scope.names.lookup y = some .local := by rfl)
    (hg : Gl X x := by rfl) (hdx : (x == ("__debug__" : Str)) = false := by decide) (hex : X.ex = [] := by rfl) (hd : (n == ("__debug__" : Str)) = false := by decide) (hcd : (n == ("__classdict__" : Str)) = false := by decide)
    (hsw : ∀ a pn, swapsWith (.Name n p2) (some (.Name y p1)) p3.line (X.suite a pn).env = pure false := by intros; rfl) :
    DS X C (.Try body [.ExceptHandler (some (.Name x np)) (some n) [.Assign [.Name y p1] (.Name n p2) p3] pos'] [] [] pos) (tryS f m i j) := by
  intro hK
  refine PS.imp (ps_try_keep (c := c) (tb := fun W => liftS { C with Wx := W } f) hs hf hN hi hj hij hln hly ⟨hg, hdx, .inl hmx⟩ hex hd hcd hsw (fun W pn xe tk po => hb W pn xe ⟨B.cl, B.hr, B.gd, tk, po⟩ hK)) ?_
  rintro Dn σ H ⟨w, env, Hb, r, p⟩
  refine ⟨w, env, Hb, ⟨r.gr, r.ok, r.env⟩, ?_⟩
  unfold tryS at p
  have un : ∀ {w : Wo} {e : En} {Hb H : Hp} {σ : L2.St} {W : WX}, Rel { C with Wx := W } w e Hb H σ → Rel C w e Hb H σ := fun r => ⟨r.gr, r.ok, r.env⟩
  cases e : f w env with
  | nx e' w' => rw [e] at p; exact fun Hb' H' σ' s' r' => p Hb' H' σ' s' (un r')
  | bk e' w' => rw [e] at p; exact fun Hb' H' σ' s' r' => p Hb' H' σ' s' (un r')
  | ct e' w' => rw [e] at p; exact fun Hb' H' σ' s' r' => p Hb' H' σ' s' (un r')
  | rt d w' => rw [e] at p; exact p
  | bad => rw [e] at p; exact p.elim
  | exc x e' w' =>
    rw [e] at p
    dsimp only at p
    by_cases z : x.cls < m
    · rw [if_pos z] at p
      intro Hb' H' σ' c' dd s' r' xr
      obtain ⟨hc, hpart⟩ := xr
      subst hc
      refine ⟨by rw [show (({ C with Wx := wKeep X.K c i j Dn } : Ct)).cl = cl from B.cl]; exact hxm _ z, fun a oe na hcls hdict hfld => ?_⟩
      have r1 := un r'
      have g := Gr.alloc (o := .frz oe triv) r1.same na
      have r2 := r1.grow g
      have rep : Rep C.κ (upd Hb' a (.frz oe triv)) (excD x) (.ref a) := by
        unfold excD
        cases hp : x.part with
        | none =>
          rw [hp] at hpart
          exact .exc0 upd_same hcls (by rw [hdict]; exact hpart) hfld
        | some q =>
          obtain ⟨fl, d⟩ := q
          rw [hp] at hpart
          obtain ⟨da, v, rfl, hx, rv⟩ := hpart
          exact .exc1 upd_same hcls hdict hfld (g.b _ _ hx) (rv.mono g.b)
      have r3 := ((r2.drop i (some (.ref a))).putD j rep).drop i none
      exact p _ _ _ (s'.trans g.b) r3
    · rw [if_neg z] at p; exact p.elim
end
end DL
set_option Elab.async false
set_option linter.all false
set_option autoImplicit false
set_option maxRecDepth 100000
set_option maxHeartbeats 1000000
/-! DG4: defs that take a lambda. -/
namespace DL
open PySem PySem.Spec PyProof.Rows L2
def spC (P : Program) (wd : World) (K : PySem.W.Frag) (mg : Str → Option Value) (base : Heap) (κ : Kx) (a L Cc : Addr) (cs : List Int) (k0 : Nat) (mC : (Wo → ER D) → Wo → List D → ER D) : Sp := fun vs H Q W =>
  ∃ (f : Addr) (T : Hp) (rc : Wo → ER D) (w : Wo) (Hb : Hp) (ds : List D), Same Hb H ∧ (GamD a L Cc cs).ok w H ∧ (∀ b, (GamD a L Cc cs).fp b → Hb b = none) ∧ Hb Cc = some (.lst (cs.map V.int)) ∧ Same T Hb ∧ Clo P wd K mg base k0 f T (spZ κ a L Cc cs Hb H rc) ∧ RepL κ Hb (.raw (.ref f) :: ds) vs ∧
    match mC rc w ds with
    | .ok d w' => ∀ Hb' H' v, Gr (GamD a L Cc cs).fp Hb H Hb' H' → (GamD a L Cc cs).ok w' H' → Rep κ Hb' d v → Q v H'
    | .exc x w' => ∀ Hb' H' c dd, Gr (GamD a L Cc cs).fp Hb H Hb' H' → (GamD a L Cc cs).ok w' H' → XRep κ κ.cl Hb' x c dd → W c dd H'
    | .bad => False
structure DefC (P : Program) (wd : World) (K : PySem.W.Frag) (mg : Str → Option Value) (base : Heap) (cl : Nat → Addr) (k k0 : Nat) (x : Str) (mC : (Wo → ER D) → Wo → List D → ER D) : Prop where
  ex : ∃ f fd ps, mg x = some (.ref f) ∧ PySem.W.keepIn K (.ref f) = true ∧ Binds K fd ps [] ∧ ∀ a L Cc cs, FnG P wd K mg base k f fd ps (spC P wd K mg base ⟨K, .ref a, cl⟩ a L Cc cs k0 mC)
def eFunC (mC : (Wo → ER D) → Wo → List D → ER D) (f : Addr) (rc : Wo → ER D) (g : E (List D)) : E D := ebind g fun ds w _ => match ds with
  | .raw v :: r => if v = .ref f then mC rc w r else .bad
  | _ => .bad
section
variable {P : Program} {w : World} {K : PySem.W.Frag} {mg : Str → Option Value} {base : Heap} {cl : Nat → Addr}
theorem DefC.up {j k k0 : Nat} {x : Str} {m : (Wo → ER D) → Wo → List D → ER D} (h : DefC P w K mg base cl j k0 x m) (e : j ≤ k) : DefC P w K mg base cl k k0 x m := by
  obtain ⟨f, fd, ps, h1, h2, h3, h4⟩ := h
  exact ⟨f, fd, ps, h1, h2, h3, fun a L Cc cs => ⟨(h4 a L Cc cs).len, fun A up s H ar us vs Q W hr => (h4 a L Cc cs).go A up s H ar us vs Q W (hr.mono e)⟩⟩
theorem DefC.of {x qual : Str} {st : Stmt} {f : Addr} {fd : FuncData} {N ps : List Str} {k k0 : Nat} {b : Addr → (Wo → ER D) → S} {mC : (Wo → ER D) → Wo → List D → ER D} (F : Fun K x qual st f fd) (S : FnScope N ps (defScope st)) (hm : mg x = some (.ref f)) (hb : Binds K fd ps [])
    (hmC : ∀ g rc w ds, mC rc w ds = .bad ∨ mRunW ps.length N.length (b g rc) w (.raw (.ref g) :: ds) = mC rc w ds)
    (hbody : ∀ (cdv : Value) (A : Around) (up : List Env) (s : Shared) (H : Hp) (W : XK) (C : Ct) (a L Cc : Addr) (cs : List Int) (g : Addr) (rc : Wo → ER D), Bd cl k (cxOf (L2.CX P w) P w K mg base N qual (defScope st) f cdv A up s H W) C → DrC C a L Cc cs →
      CloC (cxOf (L2.CX P w) P w K mg base N qual (defScope st) f cdv A up s H W) C k0 g a L Cc cs rc → DB (cxOf (L2.CX P w) P w K mg base N qual (defScope st) f cdv A up s H W) C (defBody st) (b g rc)) : DefC P w K mg base cl (k + 1) k0 x mC := by
  refine ⟨f, fd, ps, hm, F.kp, hb, fun a L Cc cs => FnG.of F S ?_ ?_⟩
  · rintro vs H Q W ⟨g, T, rc, w0, Hb, ds, hs, k1, k2, k3, hT, hc, r, q⟩
    rw [r.length]
    rcases hmC g rc w0 ds with z | z
    · rw [z] at q; exact q.elim
    · rw [← z] at q
      unfold mRunW at q
      by_cases h : (D.raw (.ref g) :: ds).length = ps.length
      · exact h
      · rw [if_neg h] at q; exact q.elim
  · rintro cdv A up s H vs Q W hr hgd ⟨g, T, rc, w0, Hb, ds, hs, k1, k2, k3, hT, hc, r, q⟩
    rcases hmC g rc w0 ds with z | z
    · rw [z] at q; exact q.elim
    rw [← z] at q
    unfold mRunW at q
    by_cases h : (D.raw (.ref g) :: ds).length = ps.length
    · rw [if_pos h] at q
      refine ⟨_, hbody cdv A up s H W ⟨⟨K, .ref a, cl⟩, GamD a L Cc cs, Hb, H, fun cls d _ H => W cls d H⟩ a L Cc cs g rc ⟨rfl, hr, hgd, takes_of rfl rfl rfl rfl, passes_of rfl⟩ ⟨rfl, fun _ z => z, fun z => z, fun _ z _ => z, fun b hb => ⟨k2 b hb, (GamD a L Cc cs).trk k1 hb⟩, k3⟩ ⟨rfl, T, hT, hc⟩ rfl, w0, _, Hb, ⟨Gr.refl hs, k1, envRel_start r⟩, ?_⟩
      rw [h]
      cases e : b g rc w0 ((D.raw (.ref g) :: ds).map Sl.dat ++ List.replicate (N.length - ps.length) Sl.un) with
      | rt d w1 => rw [e] at q; exact fun Hb' H' v g k rd => q Hb' H' v g k rd
      | nx e1 w1 => rw [e] at q; exact fun Hb' H' σ _ rl => q Hb' H' .non rl.gr rl.ok .non
      | exc x e1 w1 => rw [e] at q; exact fun Hb' H' σ c dd _ rl xr => q Hb' H' c dd rl.gr rl.ok xr
      | bk e1 w1 => rw [e] at q; exact q.elim
      | ct e1 w1 => rw [e] at q; exact q.elim
      | bad => rw [e] at q; exact q.elim
    · rw [if_neg h] at q; exact q.elim
end
section
variable {X : Cx} {C : Ct} {k k0 : Nat} {cl : Nat → Addr} {f a L Cc : Addr} {cs : List Int} {rc : Wo → ER D} {x : Str} {p pos : Pos} {e : Expr} {es : List Expr}
/-- x(work, ..): what was got is handed on -/
theorem de_fnC {m : (Wo → ER D) → Wo → List D → ER D} {j : Nat} {g : E (List D)} (B : Bd cl k X C) (h : DrC C a L Cc cs) (c : CloC X C k0 f a L Cc cs rc) (Dx : DefC X.prog X.w X.K X.mg X.base cl j k0 x m) (ha : DA X C (e :: es) g) (hj : j ≤ k := by decide) (hg : Gl X x := by rfl)
    (hdb : (x == ("__debug__" : Str)) = false := by decide) (he : starEach (e :: es) X.env = (false, eval e X.env) :: starEach es X.env := by rfl) (hpl : (backTo pos (starEach es X.env)).any (·.1) = false := by rfl) : DE X C (.Call (.Name x p) (e :: es) [] pos) (eFunC m f rc g) := by
  intro hK
  obtain ⟨fa, fd, ps, h1, h2, h3, h4⟩ := (Dx.up hj).ex
  have F := h4 a L Cc cs
  have hκ : (⟨X.K, .ref a, cl⟩ : Kx) = C.κ := by
    rw [hK, ← h.dr, ← B.cl]
  rw [hκ] at F
  obtain ⟨T, hT, hc⟩ := c.T
  refine PE.imp (pe_callG (W := WE C.Wx) F B.hr B.gd hg h1 h2 h3 (fun σ => passAt B.tk σ) (ha hK) hdb he hpl) ?_
  rintro σ H Q ⟨w, env, Hb, r, p⟩
  unfold eFunC at p
  refine lift_bind (R := RL C) r p fun ds w1 Hb1 H1 vs g1 r1 q1 p1 => ?_
  have ok1 := h.ok r1.ok
  cases ds with
  | nil => exact p1.elim
  | cons d0 ds =>
    cases d0 <;> first | exact p1.elim | skip
    rename_i v
    dsimp only at p1
    by_cases z : v = .ref f
    · rw [if_pos z] at p1
      subst z
      refine ⟨f, T, rc, w1, Hb1, ds, r1.same, ok1, fun b hb => r1.fpb h (h.fp b hb), r1.gr.b _ _ h.hc, hT.trans r1.gr.b, hc.imp fun H2 Q2 W2 q2 => spZ_grow (by rw [← c.efp]; exact r1.gr) H2 Q2 W2 q2, q1, ?_⟩
      cases e : m rc w1 ds with
      | ok d w2 =>
        rw [e] at p1
        intro Hb' H' v g k2 rd
        have g' := g.wide h.fp
        exact p1 Hb' H' v g' (r1.mono g' (h.up r1.ok k2 g.h)) rd
      | exc x w2 =>
        rw [e] at p1
        intro Hb' H' c dd g k2 rd
        have g' := g.wide h.fp
        exact p1 Hb' H' c dd g' (r1.mono g' (h.up r1.ok k2 g.h)) rd
      | bad => rw [e] at p1; exact p1
    · rw [if_neg z] at p1; exact p1.elim
end

/-! ### _law_caught -/
def bCaught (m : Nat) (f : Addr) (rc : Wo → ER D) : S := sseq (setS 1 (eDat (eC .non))) (sseq (tryS (sbind (eWork f 0 rc) fun _ => fun w e => .nx e w) m 2 1) (sbind (eVar 1) fun d => fun w _ => .rt d w))
def mCaught (m : Nat) (rc : Wo → ER D) (w : Wo) (ds : List D) : ER D := match ds with
  | [] => match rc w with
    | .ok _ w' => .ok .non w'
    | .exc x w' => if x.cls < m then .ok (excD x) w' else .bad
    | .bad => .bad
  | _ => .bad
theorem mCaught_le (m : Nat) (g : Addr) (rc : Wo → ER D) (w : Wo) (ds : List D) : mCaught m rc w ds = .bad ∨ mRunW 1 3 (bCaught m g rc) w (.raw (.ref g) :: ds) = mCaught m rc w ds := by
  cases ds with
  | cons d ds => exact .inl rfl
  | nil =>
    refine .inr ?_
    unfold mRunW
    rw [if_pos (show [D.raw (.ref g)].length = 1 from rfl)]
    have e1 : eWork g 0 rc w [Sl.dat (.raw (.ref g)), Sl.dat .non, Sl.un] = rc w := by
      show (if V.ref g = V.ref g then rc w else .bad) = rc w
      rw [if_pos rfl]
    have e2 : bCaught m g rc w ([D.raw (.ref g)].map Sl.dat ++ List.replicate (3 - 1) Sl.un) = sseq (tryS (sbind (eWork g 0 rc) fun _ => fun w e => .nx e w) m 2 1) (sbind (eVar 1) fun d => fun w _ => .rt d w) w [Sl.dat (.raw (.ref g)), Sl.dat .non, Sl.un] := rfl
    rw [e2]
    unfold sseq tryS sbind
    rw [e1]
    unfold mCaught
    cases h : rc w with
    | ok d w' => rfl
    | bad => rfl
    | exc x w' =>
      dsimp only
      by_cases z : x.cls < m
      · rw [if_pos z, if_pos z]
        rfl
      · rw [if_neg z, if_neg z]
end DL
set_option Elab.async false
set_option linter.all false
set_option autoImplicit false
set_option maxRecDepth 100000
set_option maxHeartbeats 1000000
/-! DG5: a lambda is made. -/
namespace DL
open PySem PySem.Spec PyProof.Rows L2 LamX
section
variable {X : Cx} {pins : List (Addr × Obj)} {σ : L2.St} {H : Hp} {s : Shared}
/-- the heap behind the making: as it was, or the table has one more code object -/
def Made (P : Addr) (q : Str) (H H1 : Hp) : Prop := H1 = H ∨ ∃ (ps : Array Value) (c' : Addr), H c' = none ∧ c' ≠ P ∧ H1 = upd (upd H P (.tbl ps)) c' (CodeO c' q)
theorem lam_mk {c P : Addr} {params : Arguments} {body : Expr} {scope : Scope} {pos : Pos} {E : Value → Shared → Prop} {Q : Value → Shared → Prop} (I : Inv X pins σ H s) (TB : TabB X.base X.mg c P) (hcode : X.env.code = .ref c) (hT : TabS H P (X.env.qual ++ "<lambda>")) (hdef : defaultsOf params X.env = ([], []))
    (hfree : ∀ y ∈ scope.names, y.2 = .free → ∃ c, X.env.cells.lookup y.1 = some c)
    (h : ∀ (f c' : Addr) (pm ctv : Value) (H1 : Hp) (s' : Shared), Inv X pins σ H1 s' → Made P (X.env.qual ++ "<lambda>") H H1 → TabS H1 P (X.env.qual ++ "<lambda>") →
      s'.heap.get? f = some (PySem.W.kla_obj "<lambda>" (X.env.qual ++ "<lambda>") params body scope (cloFrom X.env.cells scope.names []) pm c' ctv) → H1 f = none → s.heap.objs.size ≤ f → H1 c' = some (CodeO c' (X.env.qual ++ "<lambda>")) → Q (.ref f) s') :
    wpAny (model X.prog X.w) X.A (eval (.Lambda params body scope pos) X.env) Q E s := by
  obtain ⟨ps, hP, ht, ha⟩ := hT
  refine PySem.W.kla_eval hdef ?_
  have bP : s.heap.BuiltinsAt X.mg P := TB.bm.keeps I.bk
  have hP' : s.heap.get? P = some { cls := .none, data := .fields ps } := I.hok P _ hP
  cases hc : codeAmong pos ps.toList with
  | some cv =>
    obtain ⟨c', rfl, hco⟩ := ha pos cv hc
    refine PySem.W.kla_makeFunctionHit (mg := X.mg) (c := c) (P := P) (ps := ps) (closure_ok hfree) I.ok.glob (I.mod.glob.keeps I.bk) hcode (TB.code.keeps I.bk) hP' ht hc bP ?_
    intro ctv h' tk hx hsz
    refine h h'.objs.size c' ((X.mg "__name__").getD .none) ctv H _ (I.kept (t' := tk) fun b o e => Heap.get?_push_of_some _ (hx b o e)) (.inl rfl) ⟨ps, hP, ht, ha⟩ (Heap.get?_push_size _ rfl) (I.hok.fresh hsz) hsz hco
  | none =>
    refine PySem.W.kla_makeFunction (mg := X.mg) (c := c) (P := P) (ps := ps) (closure_ok hfree) I.ok.glob (I.mod.glob.keeps I.bk) hcode (TB.code.keeps I.bk) hP' ht hc TB.gP bP ?_
    intro c' ctv h' tk hx hge hlt hrec htb
    obtain ⟨c2, oc, vs, t, e2, hoc, hd, hv⟩ := hrec
    cases e2
    have nC : H c' = none := I.hok.fresh hge
    have ncP : c' ≠ P := fun z => by rw [z, hP] at nC; cases nC
    have hsz : s.heap.objs.size ≤ h'.objs.size := Nat.le_trans hge (Nat.le_of_lt hlt)
    have I1 := inv_table (t' := tk) (more := #[rawInt pos.line, rawInt pos.col, .ref c']) (h' := h'.push (PySem.W.kla_obj "<lambda>" (X.env.qual ++ "<lambda>") params body scope (cloFrom X.env.cells scope.names []) ((X.mg "__name__").getD .none) c' ctv)) I hP
      (fun b o hb e => Heap.get?_push_of_some _ (hx b o hb e)) (Heap.get?_push_of_some _ htb) hge ⟨oc, vs, t, Heap.get?_push_of_some _ hoc, hd, hv⟩
    have kp : ∀ {b : Addr} {o : HO}, H b = some o → b ≠ P → upd (upd H P (.tbl (ps ++ #[rawInt pos.line, rawInt pos.col, .ref c']))) c' (CodeO c' (X.env.qual ++ "<lambda>")) b = some o := fun {b o} e n => by
      rw [upd_ne (ne_of_none e nC), upd_ne n]
      exact e
    have eL : (ps ++ #[rawInt pos.line, rawInt pos.col, .ref c']).toList = ps.toList ++ [rawInt pos.line, rawInt pos.col, .ref c'] := by simp
    refine h h'.objs.size c' ((X.mg "__name__").getD .none) ctv _ _ I1 (.inr ⟨_, c', nC, ncP, rfl⟩) ⟨ps ++ #[rawInt pos.line, rawInt pos.col, .ref c'], ?_, ?_, ?_⟩ (Heap.get?_push_size _ rfl) ?_ hsz upd_same
    · rw [upd_ne (Ne.symm ncP), upd_same]
    · rw [eL]
      exact PySem.TriplesOk_snoc _ _ _ _ ht
    · intro p' cv hcv
      rw [eL] at hcv
      rcases among_app _ ht hcv with z | z
      · obtain ⟨c0, e1, e2⟩ := ha p' cv z
        refine ⟨c0, e1, kp e2 fun z => ?_⟩
        rw [z, hP] at e2
        exact codeO_ne ps (Option.some.inj e2).symm
      · exact ⟨c', z, upd_same⟩
    · rw [upd_ne (Nat.ne_of_gt hlt), upd_ne (Nat.ne_of_gt (Nat.lt_of_lt_of_le (Heap.lt_size hP') hsz))]
      exact I.hok.fresh hsz
/-- the objects that a lambda leans on, as they stand -/
def CloF (h : Heap) (f : Addr) (cl : List (Str × Addr)) : Addr → Option Obj := fun b => if b = f ∨ b ∈ cl.map (·.2) then h.get? b else none
end
end DL
set_option Elab.async false
set_option linter.all false
set_option autoImplicit false
set_option maxRecDepth 100000
set_option maxHeartbeats 1000000
/-! DG6: a lambda's body entered from what is held still. -/
namespace DL
open PySem PySem.Spec PyProof.Rows L2 LamX
theorem clo_cells {cs : List (Str × Addr)} {names : List (Str × NameKind)} (hfree : ∀ y ∈ names, y.2 = .free → ∃ c, cs.lookup y.1 = some c) {y : Str} {c : Addr} (e : (y, c) ∈ cloFrom cs names []) : cs.lookup y = some c := by
  rcases cloFrom_mem e with hm | ⟨h1, h2⟩
  · cases hm
  · obtain ⟨c1, hc⟩ := hfree _ h1 rfl
    have hc : cs.lookup y = some c1 := hc
    have e2 : c = c1 := by
      rw [h2, hc] <;> rfl
    rw [e2]
    exact hc
section
variable {X : Cx} {pins : List (Addr × Obj)} {σ : L2.St} {H : Hp} {s s2 : Shared} {scope : Scope} {f c' : Addr}
/-- F: the cells (and the function object) as they stood when the lambda was made; they are held still at s2 -/
theorem lam_inv {F : Addr → Option Obj} {H2 : Hp} {A : Around} {up : List Env} {W : XK} {h₁ : Heap} {tk : Nat} (I : Inv X pins σ H s) (L : LamS X.env.scope scope)
    (hF : ∀ y c, X.env.cells.lookup y = some c → (y, NameKind.free) ∈ scope.names → ∃ o, F c = some o ∧ s.heap.get? c = some o)
    (e0 : Env0 X.prog X.w X.K X.mg X.base A up s2 (delM F H2)) (hS : Still F H2) (k2 : HOk X.prog X.w H2 s2.heap) (hd : A.handled = none)
    (hns : h₁.Ns s2.heap.objs.size fun y => ([] : List (Str × Value)).reverse.lookup y) (kp : ∀ b o, s2.heap.get? b = some o → h₁.get? b = some o) :
    Inv (lamCx X A up s2 (delM F H2) W scope f c') [] σ (delM F H2) { s2 with heap := h₁, toks := tk } := by
  have hfree := L.has I.ok
  have cm : ∀ {y c}, (cloFrom X.env.cells scope.names []).lookup y = some c → X.env.cells.lookup y = some c := fun {y c} e => clo_cells hfree (PySem.mem_of_lookup e)
  have cn : ∀ {y c}, (cloFrom X.env.cells scope.names []).lookup y = some c → (y, NameKind.free) ∈ scope.names := fun {y c} e => by
    rcases cloFrom_mem (PySem.mem_of_lookup e) with hm | ⟨h1, h2⟩
    · cases hm
    · exact h1
  have look : ∀ {y}, scope.names.lookup y = some .free → ∃ c, (cloFrom X.env.cells scope.names []).lookup y = some c := fun {y} hl => mem_lookup (cloFrom_has (cells := X.env.cells) (acc := []) (PySem.mem_of_lookup hl))
  have cell2 : ∀ {y c}, (cloFrom X.env.cells scope.names []).lookup y = some c → ∃ o, F c = some o ∧ s.heap.get? c = some o ∧ h₁.get? c = some o := fun {y c} e => by
    obtain ⟨o, h1, h2⟩ := hF y c (cm e) (cn e)
    exact ⟨o, h1, h2, kp _ _ (hS.get k2 h1)⟩
  have noA : ∀ b : Addr, b ∉ (lamCx X A up s2 (delM F H2) W scope f c').ex := fun b z => absurd (show b ∈ ([] : List Addr) from z) (by simp)
  refine ⟨⟨e0.mod, L.kind, rfl, rfl, Nat.le_refl _, fun y z c e1 e2 => I.ok.inj y z c (cm e1) (cm e2), fun y hy => ?_, fun y c z _ => ?_, fun _ => hd, Around.frames_deeper e0.frames, .inr ⟨rfl, rfl⟩, fun b z => absurd z (noA b), e0.bs, e0.bsz, fun b _ _ => noA b, fun b z => absurd z (noA b), e0.funs, e0.frf⟩,
    rfl, e0.bare, Un.kept kp, ⟨_, hns, fun i y v e1 e2 e3 => ?_⟩, fun y c e => ?_, e0.hok.fresh (Nat.le_refl _), fun y c e => ?_, fun q hq => absurd (show q ∈ ([] : List (Addr × Obj)) ++ [] from hq) (by simp), e0.hok.kept kp, I.len⟩
  · have hy : scope.names.lookup y = some .cell ∨ scope.names.lookup y = some .free := hy
    rcases hy with hy | hy
    · exact absurd rfl (L.own _ (PySem.mem_of_lookup hy)).2
    · exact look hy
  · have z : false = true := z
    cases z
  · have e3 : Vis scope y := e3
    rcases e3 with k | k | k
    · exact absurd rfl (L.own _ (PySem.mem_of_lookup k)).1
    · exact absurd rfl (L.own _ (PySem.mem_of_lookup k)).2
    · obtain ⟨m, hn, hl⟩ := I.loc
      have hvis : Vis X.env.scope y := (L.free _ (PySem.mem_of_lookup k) rfl).elim (fun k => .inr (.inl k)) (fun k => .inr (.inr k))
      obtain ⟨u, r, q⟩ := hl i y v e1 e2 hvis
      obtain ⟨c2, h2⟩ := look k
      refine ⟨u, r, .inr ⟨.inr k, c2, h2, ?_⟩⟩
      rcases q with ⟨k', _⟩ | ⟨_, c3, e', ⟨o3, z1, z2⟩⟩
      · have k' : X.env.scope.names.lookup y = some .local := k'
        rcases L.free _ (PySem.mem_of_lookup k) rfl with k2 | k2 <;> rw [show X.env.scope.names.lookup y = _ from k2] at k' <;> cases k'
      · rw [cm h2] at e'
        cases e'
        obtain ⟨o, a1, a2, a3⟩ := cell2 h2
        rw [a2] at z1
        cases z1
        exact ⟨_, a3, z2⟩
  · obtain ⟨o, a1, a2, a3⟩ := cell2 e
    obtain ⟨v, o', z1, z2⟩ := I.cell y c (cm e)
    rw [a2] at z1
    cases z1
    exact ⟨v, _, a3, z2⟩
  · obtain ⟨o, a1, _⟩ := cell2 e
    exact delM_in a1

/-- the lambda's promise, from its body's rule -/
theorem lam_go {F : Addr → Option Obj} {T : Hp} {k : Nat} {params : Arguments} {body : Expr} {pm ctv : Value} {sp : Hp → VK → XK → Prop} {tb : XK → TE} (I : Inv X pins σ H s) (L : LamS X.env.scope scope)
    (hF : ∀ y c, X.env.cells.lookup y = some c → (y, NameKind.free) ∈ scope.names → ∃ o, F c = some o ∧ s.heap.get? c = some o)
    (hf : F f = some (PySem.W.kla_obj "<lambda>" (X.env.qual ++ "<lambda>") params body scope (cloFrom X.env.cells scope.names []) pm c' ctv))
    (hT : ∀ b o, F b = some o → T b = some (.frz o triv)) (hc : T c' = some (CodeO c' (X.env.qual ++ "<lambda>")))
    (hbind : bindArgs (PySem.W.kla_fn "<lambda>" (X.env.qual ++ "<lambda>") params body scope (cloFrom X.env.cells scope.names []) pm (.ref c') ctv) ⟨[], []⟩ = pure [])
    (hbody : ∀ (A : Around) (up : List Env) (s2 : Shared) (H2 : Hp) (W : XK), Room k (A.deeper (lamEnv X scope s2.heap.objs.size f c')) → (A.deeper (lamEnv X scope s2.heap.objs.size f c')).guards = some [] → PE (lamCx X A up s2 (delM F H2) W scope f c') body (tb W))
    (hsp : ∀ (H2 : Hp) (Q : VK) (W : XK), Same T H2 → sp H2 Q W → tb (fun cls d H' => (∀ b o, F b = some o → H' b = none) → W cls d (frzM F H')) σ (delM F H2) fun v H' => (∀ b o, F b = some o → H' b = none) → Q v (frzM F H')) :
    Clo X.prog X.w X.K X.mg X.base (k + 1) f T sp := by
  refine ⟨⟨_, _, _, _, _, _, _, _, hT _ _ hf⟩, ?_⟩
  intro A up s2 H2 Q W hr hg e0 hTH hq
  have hS : Still F H2 := fun b o e => hTH _ _ (hT b o e)
  have of1 := hS.get e0.hok hf
  obtain ⟨⟨oc, vs, t, hoc, hdc, hvc⟩, _, _⟩ := e0.hok c' _ (hTH _ _ hc)
  have lim := e0.mod.nolimit.keeps (h' := s2.heap) fun b o e => (e0.bs b o e).1
  have hfr : ∀ b ∈ frs up, F b = none := fun b hb => by
    cases z : F b with
    | none => rfl
    | some o =>
      have := hS b o z
      rw [e0.frf b hb] at this
      cases this
  refine PySem.W.kla_callFunE hr.depth of1 rfl L.co L.gen rfl ⟨c', oc, vs, t, rfl, hoc, hdc, hvc⟩ ?_
  rw [hbind]
  refine wpAny_pure (wpAny_newFunctionEnv (fun y hy => (L.own y hy).2) (fun y hy => absurd hy (by simp)) ?_ L.kind)
  intro h₁ hns hsb
  refine ⟨lim.fresh _ hsb, ?_⟩
  show codeAny _ _ (.expr body (lamEnv X scope s2.heap.objs.size f c')) _ _
  have kp : ∀ b o, s2.heap.get? b = some o → h₁.get? b = some o := fun b o e => hsb.extBut b o (Nat.ne_of_lt (Heap.lt_size e)) (Heap.get?_push_of_some _ e)
  have J := lam_inv (c' := c') (f := f) (tk := s2.toks + ([] : List (Str × Value)).length) (W := fun cls d H' => (∀ b o, F b = some o → H' b = none) → W cls d (frzM F H')) I L hF (env0_del e0 hS) hS e0.hok hr.hd hns kp
  refine PySem.W.kla_codeExpr (wpAny_mono ((hbody A up s2 H2 (fun cls d H' => (∀ b o, F b = some o → H' b = none) → W cls d (frzM F H')) (hr.deeper _) hg).run [] _ _ _ _ J (hsp H2 Q W hTH hq)) ?_ ?_)
  · rintro v s' ⟨w', H', J', rv, q⟩
    have nf : ∀ b o, F b = some o → H' b = none := fun b o e => J'.base.free b o (hS.get e0.hok e) (delM_in e) (by show b ∉ []; simp)
    refine ⟨w', frzM F H', J'.os, J'.bare, un_frz J'.base hS, hok_frz J'.hok fun b o e => ⟨nf b o e, ?_⟩, rv, q nf⟩
    exact J'.base.keep b o (hS.get e0.hok e) (delM_in e) (fun hm => by rw [hfr b hm] at e; cases e) (by show b ∉ []; simp)
  · intro e s' he
    exact wpAny_mono he (fun _ s'' z => cx_frz hS e0.hok hfr z) fun e' s'' z => cx_frz hS e0.hok hfr z
end
end DL
set_option Elab.async false
set_option linter.all false
set_option autoImplicit false
set_option maxRecDepth 100000
set_option maxHeartbeats 1000000
/-! DG7: x(lambda: body, ..) within a law. -/
namespace DL
open PySem PySem.Spec PyProof.Rows L2 LamX
/-- what plain data never leans on -/
def Odd : HO → Prop
  | .frz o u => u = triv ∧ ∀ vs, o.data ≠ .fields vs
  | .ext _ => True
  | _ => False
theorem sqT_cut {K : PySem.W.Frag} {H H' : Hp} {a : Addr} {xs : List V} (h : SqT K H a xs) (e : ∀ b o, H b = some o → Odd o ∨ H' b = some o) : SqT K H' a xs := by
  rcases h with (h | ⟨o, h⟩) | h
  · rcases e _ _ h with z | z
    · exact z.elim
    · exact .inl (.inl z)
  · rcases e _ _ h with z | z
    · cases z.1
    · exact .inl (.inr ⟨o, z⟩)
  · exact .inr h
mutual
theorem Rep.cut {κ : Kx} {H H' : Hp} (e : ∀ b o, H b = some o → Odd o ∨ H' b = some o) : ∀ (d : D) {v : V}, Rep κ H d v → Rep κ H' d v
  | .non, _, r => by cases r; exact .non
  | .bl _, _, r => by cases r; exact .bl
  | .int _, _, r => by cases r; exact .int
  | .str _, _, r => by cases r; exact .str
  | .drw, _, r => by cases r; exact .drw
  | .raw _, _, r => by cases r; exact .raw
  | .tup ds, _, r => by
    cases r with
    | tup h r => exact .tup (sqT_cut h e) (RepL.cut e ds r)
  | .lst ds, _, r => by
    cases r with
    | lst h r => exact .lst ((e _ _ h).resolve_left fun z => z) (RepL.cut e ds r)
  | .exc0 _, _, r => by
    cases r with
    | exc0 h h1 h2 h3 =>
      refine .exc0 ((e _ _ h).resolve_left ?_) h1 h2 h3
      intro z
      obtain ⟨vs, hv⟩ := h3
      exact z.2 vs hv
  | .exc1 _ _ d, _, r => by
    cases r with
    | exc1 h h1 h2 h3 h4 r =>
      refine .exc1 ((e _ _ h).resolve_left ?_) h1 h2 h3 ((e _ _ h4).resolve_left fun z => z) (Rep.cut e d r)
      intro z
      obtain ⟨vs, hv⟩ := h3
      exact z.2 vs hv
theorem RepL.cut {κ : Kx} {H H' : Hp} (e : ∀ b o, H b = some o → Odd o ∨ H' b = some o) : ∀ (ds : List D) {vs : List V}, RepL κ H ds vs → RepL κ H' ds vs
  | [], _, r => by cases r; exact .nil
  | d :: ds, _, r => by
    cases r with
    | cons r t => exact .cons (Rep.cut e d r) (RepL.cut e ds t)
end
/-- the law's ghost: the draw, the table of the law's code objects -/
def GamT (a L Cc : Addr) (cs : List Int) (P : Addr) (q : Str) : Gam where
  fp b := (GamD a L Cc cs).fp b ∨ b = P
  ok w H := (GamD a L Cc cs).ok w H ∧ TabS H P q
  loc {w H H'} h e e2 := by
    refine ⟨(GamD a L Cc cs).loc h.1 (fun b hb => e b (.inl hb)) e2, ?_⟩
    obtain ⟨ps, h1, h2, h3⟩ := h.2
    refine ⟨ps, by rw [e P (.inr rfl)]; exact h1, h2, fun pos cv hc => ?_⟩
    obtain ⟨c, e3, e4⟩ := h3 pos cv hc
    exact ⟨c, e3, e2 c _ e4⟩
  trk {w H b} h e := by
    rcases e with e | rfl
    · exact (GamD a L Cc cs).trk h.1 e
    · obtain ⟨ps, h1, _⟩ := h.2
      rw [h1]; simp
/-- a law's context -/
structure LawC (C : Ct) (a L Cc : Addr) (cs : List Int) (P : Addr) (q : Str) : Prop where
  dr : C.κ.dr = .ref a
  Γ : C.Γ = GamT a L Cc cs P q
  hb : ∀ b, C.fp b → C.Hb0 b = none ∧ C.H0 b ≠ none
  hc : C.Hb0 Cc = some (.lst (cs.map V.int))
theorem LawC.drc {C : Ct} {a L Cc P : Addr} {cs : List Int} {q : Str} (h : LawC C a L Cc cs P q) : DrC C a L Cc cs := by
  refine ⟨h.dr, fun b hb => ?_, fun {w H} k => ?_, fun {w w' H H'} k k2 e => ?_, h.hb, h.hc⟩
  · show C.Γ.fp b
    rw [h.Γ]
    exact .inl hb
  · rw [h.Γ] at k
    exact k.1
  · rw [h.Γ] at k ⊢
    refine ⟨k2, ?_⟩
    obtain ⟨ps, h1, h2, h3⟩ := k.2
    have nP : ¬ (GamD a L Cc cs).fp P := by
      rintro (z | z)
      · cases w with
        | none => exact k.1
        | some d => rw [z, k.1.2.2.1] at h1; cases h1
      · cases w with
        | none => exact k.1
        | some d => rw [z, k.1.2.2.2] at h1; cases h1
    refine ⟨ps, e _ _ h1 nP, h2, fun pos cv hc => ?_⟩
    obtain ⟨c, e3, e4⟩ := h3 pos cv hc
    refine ⟨c, e3, e _ _ e4 ?_⟩
    rintro (z | z)
    · cases w with
      | none => exact k.1
      | some d => rw [z, k.1.2.2.1] at e4; cases e4
    · cases w with
      | none => exact k.1
      | some d => rw [z, k.1.2.2.2] at e4; cases e4
/-- no slot is one's own -/
def unown (e : En) : En := e.map fun s => match s with
  | .own _ => .un
  | s => s
def eLam (mC : (Wo → ER D) → Wo → List D → ER D) (fb : E D) (g : E (List D)) : E D := ebind g fun ds w e => mC (fun w => fb w (unown e)) w ds
theorem unown_dat {e : En} {i : Nat} {d : D} (h : (unown e)[i]? = some (.dat d)) : e[i]? = some (.dat d) := by
  unfold unown at h
  rw [List.getElem?_map] at h
  cases z : e[i]? with
  | none => rw [z] at h; cases h
  | some s => rw [z] at h; cases s <;> first | exact h | cases h
theorem unown_own {e : En} {i : Nat} {ds : List D} : (unown e)[i]? ≠ some (.own ds) := fun h => by
  unfold unown at h
  rw [List.getElem?_map] at h
  cases z : e[i]? with
  | none => rw [z] at h; cases h
  | some s => rw [z] at h; cases s <;> cases h
theorem made_gr {C : Ct} {a L Cc P : Addr} {cs : List Int} {q : Str} {w : Wo} {env : En} {Hb H H1 : Hp} {σ : L2.St} (h : LawC C a L Cc cs P q) (r : Rel C w env Hb H σ) (m : Made P q H H1) (t : TabS H1 P q) : Gr C.fp Hb H Hb H1 ∧ Rel C w env Hb H1 σ := by
  have fP : C.fp P := by
    show C.Γ.fp P
    rw [h.Γ]
    exact .inr rfl
  have okD := h.drc.ok r.ok
  rcases m with rfl | ⟨ps, c', n1, n2, rfl⟩
  · exact ⟨Gr.refl r.same, r⟩
  · have kp : ∀ b o, H b = some o → b ≠ P → upd (upd H P (.tbl ps)) c' (CodeO c' q) b = some o := fun b o e n => by
      rw [upd_ne (ne_of_none e n1), upd_ne n]
      exact e
    have nb : Hb P = none := r.fpb h.drc fP
    have hP : H P ≠ none := by
      have k := r.ok
      rw [h.Γ] at k
      obtain ⟨ps0, h1, _⟩ := k.2
      rw [h1]; simp
    have g : Gr C.fp Hb H Hb (upd (upd H P (.tbl ps)) c' (CodeO c' q)) := by
      refine ⟨Same.refl _, fun b o e => kp b o (r.same b o e) (ne_of_none e nb), fun b o e n => kp b o e (fun z => n (by rw [z]; exact fP)), fun b e => ?_, fun b e => .inl e⟩
      cases z : H b with
      | none => exact absurd z e
      | some o =>
        by_cases y : b = P
        · rw [y, upd_ne (Ne.symm n2), upd_same]; simp
        · rw [kp b o z y]; simp
    refine ⟨g, r.mono g ?_⟩
    rw [h.Γ]
    refine ⟨?_, t⟩
    cases w with
    | none => exact okD.elim
    | some d =>
      have k := r.ok
      rw [h.Γ] at k
      obtain ⟨ps0, hp0, _⟩ := k.2
      exact ⟨okD.1, okD.2.1, kp _ _ okD.2.2.1 (fun z => by have y := okD.2.2.1; rw [z, hp0] at y; cases y), kp _ _ okD.2.2.2 (fun z => by have y := okD.2.2.2; rw [z, hp0] at y; cases y)⟩
end DL
set_option Elab.async false
set_option linter.all false
set_option autoImplicit false
set_option maxRecDepth 100000
set_option maxHeartbeats 2000000
/-! DG8: x(lambda: body, ..) within a law: the rule. -/
namespace DL
open PySem PySem.Spec PyProof.Rows L2 LamX
/-- what a lambda leans on, told as an abstract heap -/
def CloT (F : Addr → Option Obj) (c' : Addr) (q : Str) : Hp := fun b => match F b with
  | some o => some (.frz o triv)
  | none => if b = c' then some (CodeO c' q) else none
def addT (T Hb : Hp) : Hp := fun b => match T b with
  | some o => some o
  | none => Hb b
def backT (T Hb Hb' : Hp) : Hp := fun b => match T b with
  | some _ => Hb b
  | none => Hb' b
section
variable {T Hb Hb' : Hp} {b : Addr} {o : HO}
theorem addT_in (e : T b = some o) : addT T Hb b = some o := by simp only [addT, e]
theorem addT_out (e : T b = none) : addT T Hb b = Hb b := by simp only [addT, e]
theorem backT_in (e : T b = some o) : backT T Hb Hb' b = Hb b := by simp only [backT, e]
theorem backT_out (e : T b = none) : backT T Hb Hb' b = Hb' b := by simp only [backT, e]
end
/-- the facts about F, c', the heap at the call -/
structure CloH (F : Addr → Option Obj) (c' : Addr) (q : Str) (H : Hp) (h : Heap) : Prop where
  lie : Lie F H h
  odd : ∀ b o, F b = some o → ∀ vs, o.data ≠ .fields vs
  code : H c' = some (CodeO c' q)
section
variable {F : Addr → Option Obj} {c' : Addr} {q : Str} {Hb H : Hp} {h : Heap}
theorem CloH.nF (k : CloH F c' q H h) {b : Addr} {o : HO} (e : H b = some o) : F b = none := by
  cases z : F b with
  | none => rfl
  | some o' => rw [(k.lie b o' z).1] at e; cases e
theorem CloT_F {b : Addr} {o : Obj} (e : F b = some o) : CloT F c' q b = some (.frz o triv) := by simp only [CloT, e]
theorem CloT_c (k : CloH F c' q H h) : CloT F c' q c' = some (CodeO c' q) := by
  have := k.nF k.code
  simp only [CloT, this, if_true]
theorem CloT_some {b : Addr} {u : HO} (e : CloT F c' q b = some u) : (∃ o, F b = some o ∧ u = .frz o triv) ∨ (F b = none ∧ b = c' ∧ u = CodeO c' q) := by
  cases z : F b with
  | some o => rw [CloT_F z] at e; cases e; exact .inl ⟨o, rfl, rfl⟩
  | none =>
    simp only [CloT, z] at e
    by_cases y : b = c'
    · rw [if_pos y] at e; cases e; exact .inr ⟨rfl, y, rfl⟩
    · rw [if_neg y] at e; cases e
theorem CloH.T_sub (k : CloH F c' q H h) : Same (CloT F c' q) (frzM F H) := fun b u e => by
  rcases CloT_some e with ⟨o, z, rfl⟩ | ⟨z, rfl, rfl⟩
  · exact frzM_in z
  · rw [frzM_out z]; exact k.code
theorem CloH.up (k : CloH F c' q H h) {b : Addr} {o : HO} (e : H b = some o) : frzM F H b = some o := by
  rw [frzM_out (k.nF e)]; exact e
theorem CloH.base (k : CloH F c' q H h) (s : Same Hb H) : Same (addT (CloT F c' q) Hb) (frzM F H) := fun b u e => by
  cases z : CloT F c' q b with
  | some o => rw [addT_in z] at e; cases e; exact k.T_sub b _ z
  | none => rw [addT_out z] at e; exact k.up (s b u e)
theorem CloH.grow (k : CloH F c' q H h) (s : Same Hb H) : Same Hb (addT (CloT F c' q) Hb) := fun b u e => by
  cases z : CloT F c' q b with
  | some o =>
    have h1 := k.T_sub b o z
    rw [k.up (s b u e)] at h1
    cases h1
    exact addT_in z
  | none => rw [addT_out z]; exact e
/-- behind the call -/
theorem CloH.back (k : CloH F c' q H h) {fp fp' : Addr → Prop} {Hb' H' : Hp} (s : Same Hb H) (g : Gr fp (addT (CloT F c' q) Hb) (frzM F H) Hb' H') (hfp : ∀ b, fp b → fp' b) : Gr fp' Hb H (backT (CloT F c' q) Hb Hb') (delM F H') ∧ (∀ b o, H b = some o → ¬ fp b → delM F H' b = some o) := by
  have kp : ∀ b o, H b = some o → ¬ fp b → delM F H' b = some o := fun b o e n => by
    rw [delM_out (k.nF e)]
    exact g.h b o (k.up e) n
  refine ⟨⟨fun b o e => ?_, fun b o e => ?_, fun b o e n => kp b o e fun z => n (hfp b z), fun b e => ?_, fun b e => ?_⟩, kp⟩
  · cases z : CloT F c' q b with
    | some u => rw [backT_in z]; exact e
    | none => rw [backT_out z]; exact g.b b o (by rw [addT_out z]; exact e)
  · cases z : CloT F c' q b with
    | some u =>
      rw [backT_in z] at e
      have e2 := k.grow s b o e
      rw [delM_out (k.nF (s b o e))]
      exact g.s b o (g.b b o e2)
    | none =>
      rw [backT_out z] at e
      have nF : F b = none := by
        cases y : F b with
        | none => rfl
        | some u => rw [CloT_F y] at z; cases z
      rw [delM_out nF]
      exact g.s b o e
  · cases z : H b with
    | none => exact absurd z e
    | some o =>
      rw [delM_out (k.nF z)]
      exact g.d b (by rw [k.up z]; simp)
  · cases z : CloT F c' q b with
    | some u => rw [backT_in z] at e; exact .inl e
    | none =>
      rw [backT_out z] at e
      rcases g.n b e with y | y
      · rw [addT_out z] at y; exact .inl y
      · refine .inr ?_
        have nF : F b = none := by
          cases y : F b with
          | none => rfl
          | some u => rw [CloT_F y] at z; cases z
        rw [frzM_out nF] at y
        exact y
theorem CloH.rep (k : CloH F c' q H h) {κ : Kx} {Hb' : Hp} (hT : Same (CloT F c' q) Hb') {d : D} {v : V} (r : Rep κ Hb' d v) : Rep κ (backT (CloT F c' q) Hb Hb') d v := by
  refine Rep.cut (fun b o e => ?_) d r
  cases z : CloT F c' q b with
  | none => exact .inr (by rw [backT_out z]; exact e)
  | some u =>
    have e2 := hT b u z
    rw [e] at e2
    cases e2
    rcases CloT_some z with ⟨o', y, rfl⟩ | ⟨_, _, rfl⟩
    · exact .inl ⟨rfl, k.odd b o' y⟩
    · exact .inl trivial
end
end DL
set_option Elab.async false
set_option linter.all false
set_option autoImplicit false
set_option maxRecDepth 100000
set_option maxHeartbeats 2000000
/-! DG9: THE RULE of x(lambda: body, ..). -/
namespace DL
open PySem PySem.Spec PyProof.Rows L2 LamX
section
variable {X : Cx} {C : Ct} {cl : Nat → Addr} {k k0 : Nat} {a L Cc Pt cc : Addr} {cs : List Int} {x : Str} {p pos lpos : Pos} {es : List Expr} {params : Arguments} {body : Expr} {scope : Scope}
theorem un_laws {w : Wo} {env : En} {Hb H : Hp} {σ : L2.St} (r : Rel C w env Hb H σ) : EnvRel C.κ C.fp C.H0 Hb H σ (unown env) :=
  ⟨fun i d e => r.env.dat i d (unown_dat e), fun i ds e => absurd e unown_own, fun i j ds es a _ e => absurd e unown_own, by unfold unown; rw [List.length_map]; exact r.env.len⟩
theorem de_lam {m : (Wo → ER D) → Wo → List D → ER D} {j : Nat} {fb : E D} {g : E (List D)} (B : Bd cl k X C) (h : LawC C a L Cc cs Pt (X.env.qual ++ "<lambda>")) (Dx : DefC X.prog X.w X.K X.mg X.base cl j (k0 + 1) x m) (hne : ∀ rc w ds y w', m rc w ds ≠ .exc y w') (ha : DA X C es g)
    (TB : TabB X.base X.mg cc Pt) (hcode : X.env.code = .ref cc) (hL : LamS X.env.scope scope) (hfn : ∀ y, X.fn y = true)
    (hb : ∀ (A : Around) (up : List Env) (s2 : Shared) (H2 : Hp) (W : XK) (f c' : Addr) (C' : Ct), Bd cl k0 (lamCx X A up s2 H2 W scope f c') C' → DrC C' a L Cc cs → DE (lamCx X A up s2 H2 W scope f c') C' body fb)
    (hj : j ≤ k := by decide) (hg : Gl X x := by rfl) (hdef : defaultsOf params X.env = ([], []) := by rfl)
    (hbind : ∀ (q : Str) (cl : List (Str × Addr)) (pm cv ctv : Value), bindArgs (PySem.W.kla_fn "<lambda>" q params body scope cl pm cv ctv) ⟨[], []⟩ = pure [] := by intros; rfl)
    (hdb : (x == ("__debug__" : Str)) = false := by decide) (he : starEach (.Lambda params body scope lpos :: es) X.env = (false, eval (.Lambda params body scope lpos) X.env) :: starEach es X.env := by rfl) (hpl : (backTo pos (starEach es X.env)).any (·.1) = false := by rfl) :
    DE X C (.Call (.Name x p) (.Lambda params body scope lpos :: es) [] pos) (eLam m fb g) := by
  intro hK
  obtain ⟨gf, fd, ps, h1, h2, h3, h4⟩ := (Dx.up hj).ex
  have FG := h4 a L Cc cs
  have hκ : (⟨X.K, .ref a, cl⟩ : Kx) = C.κ := by
    rw [hK, ← h.dr, ← B.cl]
  rw [hκ] at FG
  have hD := h.drc
  constructor
  rintro pins s σ H Q I ⟨w, env, Hb, r, p0⟩
  have tab : TabS H Pt (X.env.qual ++ "<lambda>") := by
    have z := r.ok
    rw [h.Γ] at z
    exact z.2
  refine wpAny_Call_Name_kw (ld_glob I hg h1 ?_ hdb)
  refine PySem.W.callWith_K (h₀ := X.base) I.ok.mod.kin h2 ?_ he hpl
  rw [show backTo pos (starEach (.Lambda params body scope lpos :: es) X.env) = (false, eval (.Lambda params body scope lpos) X.env) :: backTo pos (starEach es X.env) by rw [he]; rfl]
  refine Calls.spliced_cons (lam_mk I TB hcode tab hdef (hL.has I.ok) ?_)
  intro f c' pm ctv H1 s1 I1 md T1 hf hf0 hnew hco
  obtain ⟨gm, r1⟩ := made_gr h r md T1
  -- the function object is pinned while the rest is worked out
  have hszs := I.sz
  have nL : f ≠ X.env.locals := fun z => by
    have := I.lt
    rw [← z] at this
    exact absurd (Nat.lt_of_lt_of_le this hnew) (Nat.lt_irrefl _)
  have nF : f ∉ X.fs := I.nofs hnew
  have Ip : Inv X ((f, PySem.W.kla_obj "<lambda>" (X.env.qual ++ "<lambda>") params body scope (cloFrom X.env.cells scope.names []) pm c' ctv) :: pins) σ H1 s1 :=
    ⟨I1.ok, I1.os, I1.bare, I1.base, I1.loc, I1.cell, I1.free, I1.freeC, fun q hq => by
      rcases List.mem_append.mp hq with z | z
      · exact I1.pin q (List.mem_append_left _ z)
      · rcases List.mem_cons.mp z with y | y
        · subst y
          exact ⟨hf, hf0, nL, nF, fun v e => by cases e⟩
        · exact I1.pin q (List.mem_append_right _ y), I1.hok, I1.len⟩
  have p2 := Post.mono p0 gm
  refine wpAny_mono ((ha hK).run pos _ s1 σ H1 (fun vs H3 => ∃ ds w1 Hb3, Rel C w1 env Hb3 H3 σ ∧ Gr C.fp Hb H1 Hb3 H3 ∧ RepL C.κ Hb3 ds vs ∧ Post C (RD C) (m (fun w => fb w (unown env)) w1 ds) env Hb3 H3 σ Q) Ip
    (lift_bind (R := RL C) (k := fun ds w e => m (fun w => fb w (unown e)) w ds) r1 p2 fun ds w1 Hb3 H3 vs g3 r3 q3 p3 => ⟨ds, w1, Hb3, r3, g3, q3, p3⟩)) ?_ (fun _ _ z => z)
  rintro us s3 ⟨vs, H3, I3, rv, ds, w1, Hb3, r3, g3, q3, p3⟩
  have hf3 := (I3.pin _ (List.mem_append_right _ List.mem_cons_self)).1
  have hf30 := (I3.pin _ (List.mem_append_right _ List.mem_cons_self)).2.1
  have hfree := hL.has I3.ok
  -- what is held still
  obtain ⟨F, hF⟩ : ∃ F, F = CloF s3.heap f (cloFrom X.env.cells scope.names []) := ⟨_, rfl⟩
  have Fsome : ∀ b o, F b = some o → (b = f ∨ ∃ y, X.env.cells.lookup y = some b) ∧ s3.heap.get? b = some o := fun b o e => by
    rw [hF] at e
    unfold CloF at e
    split at e
    · rename_i z
      refine ⟨?_, e⟩
      rcases z with z | z
      · exact .inl z
      · obtain ⟨⟨y, c0⟩, hm, rfl⟩ := List.mem_map.mp z
        exact .inr ⟨y, clo_cells hfree hm⟩
    · cases e
  have Ff : F f = some (PySem.W.kla_obj "<lambda>" (X.env.qual ++ "<lambda>") params body scope (cloFrom X.env.cells scope.names []) pm c' ctv) := by
    rw [hF]
    unfold CloF
    rw [if_pos (.inl rfl)]
    exact hf3
  have Fc : ∀ y c0, X.env.cells.lookup y = some c0 → (y, NameKind.free) ∈ scope.names → ∃ o, F c0 = some o ∧ s3.heap.get? c0 = some o := fun y c0 e hm => by
    obtain ⟨v, o, ho, _⟩ := I3.cell y c0 e
    refine ⟨o, ?_, ho⟩
    rw [hF]
    unfold CloF
    have hin : c0 ∈ (cloFrom X.env.cells scope.names []).map (·.2) := by
      obtain ⟨c1, hc1⟩ := mem_lookup (cloFrom_has (cells := X.env.cells) (acc := []) hm)
      have h1 := clo_cells hfree (PySem.mem_of_lookup hc1)
      rw [e] at h1
      cases h1
      exact List.mem_map.mpr ⟨_, PySem.mem_of_lookup hc1, rfl⟩
    rw [if_pos (.inr hin)]
    exact ho
  have hco3 : H3 c' = some (CodeO c' (X.env.qual ++ "<lambda>")) := g3.h _ _ hco (fun z => by
    have z' : C.Γ.fp c' := z
    rw [h.Γ] at z'
    have okD := h.drc.ok r1.ok
    cases w with
    | none => exact okD
    | some d =>
      rcases z' with (z' | z') | z'
      · have y := okD.2.2.1; rw [← z', hco] at y; cases y
      · have y := okD.2.2.2; rw [← z', hco] at y; cases y
      · obtain ⟨ps', y, _⟩ := T1; rw [← z', hco] at y; cases y)
  have lie : Lie F H3 s3.heap := by
    intro b o e
    obtain ⟨z, e2⟩ := Fsome b o e
    refine ⟨?_, e2⟩
    rcases z with rfl | ⟨y, z⟩
    · exact hf30
    · exact I3.freeC y b z
  have odd : ∀ b o, F b = some o → ∀ vs, o.data ≠ .fields vs := by
    intro b o e vs ev
    obtain ⟨z, e2⟩ := Fsome b o e
    rcases z with rfl | ⟨y, z⟩
    · rw [hf3] at e2
      cases e2
      cases ev
    · obtain ⟨v, o', z1, z2⟩ := I3.cell y b z
      rw [e2] at z1
      cases z1
      rw [ev] at z2
      cases z2
  have KH : CloH F c' (X.env.qual ++ "<lambda>") H3 s3.heap := ⟨lie, odd, hco3⟩
  have Fnew : ∀ b o, F b = some o → X.base.get? b = none ∧ b ∉ frs X.stack := fun b o e => by
    obtain ⟨z, e2⟩ := Fsome b o e
    have big : X.s_0.heap.objs.size ≤ b := by
      rcases z with rfl | ⟨y, z⟩
      · exact Nat.le_trans I.sz hnew
      · exact I3.ok.cab y b (hfn y) z
    refine ⟨?_, fun hm => ?_⟩
    · cases q : X.base.get? b with
      | none => rfl
      | some o' => exact absurd (Nat.lt_of_lt_of_le (Heap.lt_size (I3.ok.bs b o' q).1) big) (Nat.lt_irrefl _)
    · rcases List.mem_cons.mp (I3.stkSub b hm) with y | y
      · rcases z with rfl | ⟨y2, z⟩
        · exact nL y
        · exact I3.cne _ _ z y
      · obtain ⟨_, o', ho', _⟩ := I3.ok.funs.mem y
        exact absurd (Nat.lt_of_lt_of_le (Heap.lt_size ho') big) (Nat.lt_irrefl _)
  obtain ⟨T, hT⟩ : ∃ T, T = CloT F c' (X.env.qual ++ "<lambda>") := ⟨_, rfl⟩
  have ok3 := hD.ok r3.ok
  have okF : (GamD a L Cc cs).ok w1 (frzM F H3) := by
    cases w1 with
    | none => exact ok3
    | some d => exact ⟨ok3.1, ok3.2.1, KH.up ok3.2.2.1, KH.up ok3.2.2.2⟩
  have fpT : ∀ b, (GamD a L Cc cs).fp b → T b = none := fun b hb => by
    have hn := (GamD a L Cc cs).trk ok3 hb
    cases z : T b with
    | none => rfl
    | some u =>
      rw [hT] at z
      rcases CloT_some z with ⟨o, y, _⟩ | ⟨_, rfl, _⟩
      · exact absurd (lie b o y).1 hn
      · cases w1 with
        | none => exact ok3.elim
        | some d =>
          rcases hb with hb | hb
          · have y := ok3.2.2.1; rw [← hb, hco3] at y; cases y
          · have y := ok3.2.2.2; rw [← hb, hco3] at y; cases y
  have clo : Clo X.prog X.w X.K X.mg X.base (k0 + 1) f T (spZ C.κ a L Cc cs (addT T Hb3) (frzM F H3) fun w => fb w (unown env)) := by
    refine lam_go (tb := fun W σ H2 Q => ∃ Hb0, (∀ b, (GamD a L Cc cs).fp b → Hb0 b = none ∧ H2 b ≠ none) ∧ Hb0 Cc = some (.lst (cs.map V.int)) ∧
        lift ⟨C.κ, GamD a L Cc cs, Hb0, H2, fun cls d _ H' => W cls d H'⟩ (RD ⟨C.κ, GamD a L Cc cs, Hb0, H2, fun cls d _ H' => W cls d H'⟩) fb σ H2 Q) I3 hL Fc Ff (fun b o e => by rw [hT]; exact CloT_F e) (by rw [hT]; exact CloT_c KH) (hbind _ _ _ _ _) ?_ ?_
    · intro A up s2 H2 W hr2 hg2
      constructor
      rintro pins2 s5 σ5 H5 Q5 I5 ⟨Hb0, f1, f2, l⟩
      exact (hb A up s2 (delM F H2) W f c' ⟨C.κ, GamD a L Cc cs, Hb0, H5, fun cls d _ H' => W cls d H'⟩ ⟨B.cl, hr2, hg2, takes_of rfl rfl rfl rfl, passes_of rfl⟩ ⟨h.dr, fun _ z => z, fun z => z, fun _ z _ => z, f1, f2⟩ hK).run pins2 s5 σ5 H5 Q5 I5 l
    · rintro H2 Q2 W2 hTH ⟨w5, Hb1, g5, kok, q5⟩
      rw [hT] at g5
      obtain ⟨g', kp⟩ := KH.back r3.same g5 hD.fp
      have TB1 : Same T Hb1 := fun b u e => g5.b b u (addT_in (by rw [← hT]; exact e))
      have Fnone : ∀ {b}, (GamD a L Cc cs).fp b → F b = none := fun {b} hb => by
        cases z : F b with
        | none => rfl
        | some o => exact absurd (lie b o z).1 ((GamD a L Cc cs).trk ok3 hb)
      have okD : (GamD a L Cc cs).ok w5 (delM F H2) := by
        cases w5 with
        | none => exact kok
        | some d2 => exact ⟨kok.1, kok.2.1, by rw [delM_out (Fnone (.inl rfl))]; exact kok.2.2.1, by rw [delM_out (Fnone (.inr rfl))]; exact kok.2.2.2⟩
      have g'' : Same Hb3 (backT (CloT F c' (X.env.qual ++ "<lambda>")) Hb3 Hb1) := g'.b
      have nF : ∀ {b}, T b = none → F b = none := fun {b} z => by
        cases y : F b with
        | none => rfl
        | some o => rw [hT, CloT_F y] at z; cases z
      have nc : ¬ (GamD a L Cc cs).fp c' := fun z => by
        have y := fpT c' z
        rw [hT, CloT_c KH] at y
        cases y
      -- what comes back
      have back : ∀ {Hb' H' : Hp}, Gr (GamD a L Cc cs).fp (backT (CloT F c' (X.env.qual ++ "<lambda>")) Hb3 Hb1) (delM F H2) Hb' H' → (∀ b o, F b = some o → H' b = none) → Gr (GamD a L Cc cs).fp Hb1 H2 (addT T Hb') (frzM F H') ∧ Same Hb' (addT T Hb') := by
        intro Hb' H' g6 nf
        have cc2 : H' c' = some (CodeO c' (X.env.qual ++ "<lambda>")) := g6.h _ _ (by rw [delM_out (KH.nF hco3)]; exact hTH _ _ (by rw [hT]; exact CloT_c KH)) nc
        have s6 : Same Hb' (addT T Hb') := fun b o e => by
          cases z : T b with
          | none => rw [addT_out z]; exact e
          | some u =>
            rw [addT_in z]
            have e2 := g6.s b o e
            rw [hT] at z
            rcases CloT_some z with ⟨o', y, _⟩ | ⟨_, rfl, rfl⟩
            · rw [nf b o' y] at e2; cases e2
            · rw [cc2] at e2; exact e2
        refine ⟨⟨fun b o e => ?_, fun b o e => ?_, fun b o e n => ?_, fun b e => ?_, fun b e => ?_⟩, s6⟩
        · cases z : T b with
          | some u =>
            have := TB1 b u z
            rw [e] at this
            cases this
            exact addT_in z
          | none =>
            rw [addT_out z]
            exact g6.b b o (by rw [backT_out (by rw [← hT]; exact z)]; exact e)
        · cases z : T b with
          | some u =>
            rw [addT_in z] at e
            cases e
            rw [hT] at z
            rcases CloT_some z with ⟨o', y, rfl⟩ | ⟨y, rfl, rfl⟩
            · exact frzM_in y
            · rw [frzM_out y]; exact cc2
          | none =>
            rw [addT_out z] at e
            rw [frzM_out (nF z)]
            exact g6.s b o e
        · cases z : F b with
          | some o' =>
            have := hTH b _ (by rw [hT]; exact CloT_F z)
            rw [e] at this
            cases this
            exact frzM_in z
          | none =>
            rw [frzM_out z]
            exact g6.h b o (by rw [delM_out z]; exact e) n
        · cases z : F b with
          | some o' => rw [frzM_in z]; simp
          | none =>
            rw [frzM_out z]
            exact g6.d b (by rw [delM_out z]; exact e)
        · cases z : T b with
          | some u => exact .inl (by rw [TB1 b u z]; simp)
          | none =>
            rw [addT_out z] at e
            rcases g6.n b e with y | y
            · rw [backT_out (by rw [← hT]; exact z)] at y
              exact .inl y
            · rw [delM_out (nF z)] at y
              exact .inr y
      have okB : ∀ {w6 : Wo} {H' : Hp}, (GamD a L Cc cs).ok w6 H' → (GamD a L Cc cs).ok w6 (frzM F H') := by
        intro w6 H' z
        cases w6 with
        | none => exact z
        | some d2 => exact ⟨z.1, z.2.1, by rw [frzM_out (Fnone (.inl rfl))]; exact z.2.2.1, by rw [frzM_out (Fnone (.inr rfl))]; exact z.2.2.2⟩
      refine ⟨backT (CloT F c' (X.env.qual ++ "<lambda>")) Hb3 Hb1, fun b hb => ⟨?_, (GamD a L Cc cs).trk okD hb⟩, ?_, w5, unown env, _, ⟨Gr.refl g'.s, okD, ⟨fun i d e => ?_, fun i ds e => absurd e unown_own, fun i j ds es a _ e => absurd e unown_own, (un_laws r3).len⟩⟩, ?_⟩
      · rw [backT_out (by rw [← hT]; exact fpT b hb)]
        cases z : Hb1 b with
        | none => rfl
        | some o =>
          rcases g5.n b (by rw [z]; simp) with y | y
          · rw [addT_out (by rw [← hT]; exact fpT b hb), r3.fpb hD (hD.fp b hb)] at y
            exact absurd rfl y
          · rw [frzM_out (Fnone hb)] at y
            exact absurd y ((GamD a L Cc cs).trk ok3 hb)
      · exact g'' _ _ (r3.gr.b _ _ h.hc)
      · obtain ⟨v, e1, e2⟩ := r3.env.dat i d (unown_dat e)
        exact ⟨v, e1, e2.mono g''⟩
      · dsimp only at q5
        cases e : fb w5 (unown env) with
        | bad => rw [e] at q5; exact q5
        | ok d w6 =>
          rw [e] at q5
          intro Hb' H' v g6 r6 rd nf
          obtain ⟨b1, b2⟩ := back g6 nf
          exact q5 _ _ v b1 (okB r6.ok) (rd.mono b2)
        | exc y w6 =>
          rw [e] at q5
          intro Hb' H' c2 dd g6 r6 xr nf
          obtain ⟨b1, b2⟩ := back g6 nf
          refine q5 _ _ c2 dd b1 (okB r6.ok) ⟨xr.1, ?_⟩
          have z := xr.2
          cases hp : y.part with
          | none => rw [hp] at z; exact z
          | some qq =>
            obtain ⟨fl, d0⟩ := qq
            rw [hp] at z
            obtain ⟨da, vv, z1, z2, z3⟩ := z
            exact ⟨da, vv, z1, b2 _ _ z2, z3.mono b2⟩
  have hv : Vals (V.ref f :: vs) (Value.ref f :: us) := .cons rfl rv
  have hsp : spC X.prog X.w X.K X.mg X.base C.κ a L Cc cs (k0 + 1) m (V.ref f :: vs) (frzM F H3) (fun v H' => Q v (delM F H')) (fun _ _ _ => False) := by
    refine ⟨f, T, _, w1, addT T Hb3, ds, by rw [hT]; exact KH.base r3.same, okF, fun b hb => ?_, ?_, fun b u e => addT_in e, clo, .cons .raw (q3.mono (by rw [hT]; exact KH.grow r3.same)), ?_⟩
    · rw [addT_out (fpT b hb)]
      exact r3.fpb hD (hD.fp b hb)
    · rw [hT]
      exact KH.grow r3.same _ _ (r3.gr.b _ _ h.hc)
    · cases e : m (fun w => fb w (unown env)) w1 ds with
      | bad => rw [e] at p3; exact p3
      | exc y w' => exact absurd e (hne _ _ _ _ _)
      | ok d w2 =>
        rw [e] at p3
        intro Hb' H' v g k2 rd
        rw [hT] at g
        obtain ⟨g', kp⟩ := KH.back r3.same g hD.fp
        have okB : (GamD a L Cc cs).ok w2 (delM F H') := by
          cases w2 with
          | none => exact k2
          | some d2 =>
            refine ⟨k2.1, k2.2.1, ?_, ?_⟩
            · rw [delM_out]
              · exact k2.2.2.1
              · cases z : F a with
                | none => rfl
                | some o => exact absurd (lie a o z).1 ((GamD a L Cc cs).trk ok3 (.inl rfl))
            · rw [delM_out]
              · exact k2.2.2.2
              · cases z : F L with
                | none => rfl
                | some o => exact absurd (lie L o z).1 ((GamD a L Cc cs).trk ok3 (.inr rfl))
        refine p3 _ _ v g' (r3.mono g' (hD.up r3.ok okB kp)) ?_
        exact KH.rep (fun b u e => g.b b u (addT_in e)) rd
  refine ⟨I3.kIn, ?_⟩
  have hl : (Value.ref f :: us).length = ps.length := by
    rw [← hv.length]
    exact FG.len _ _ _ _ hsp
  have bnd := h3 s3 (Value.ref f :: us) I3.kIn (by simpa using hl)
  simp only [List.append_nil] at bnd
  refine wpAny_call (codeAny_mono (FG.go X.A X.stack s3 (frzM F H3) ⟨Value.ref f :: us, []⟩ (Value.ref f :: us) (V.ref f :: vs) _ _ B.hr B.gd (env0_frz I3.env0 lie Fnew) bnd hv hsp) ?_)
  intro rr s' hq
  rcases rr with er | fl
  · obtain ⟨_, _, _, _, _, _, _, _, _, _, _, _, z⟩ := hq
    exact z.elim
  · cases fl <;> first | exact hq.elim | skip
    obtain ⟨v, H', os', bare', un', hok', rv', q'⟩ := hq
    obtain ⟨v2, H2, I4, rv2, q2⟩ := I3.after (Q := Q) (u := _) (s' := s') ⟨v, delM F H', os', bare', un_del un' hok' lie, hok_del hok' (fun b o e => .inr (un'.frzs b o triv (frzM_in e))), rv', q'⟩
    exact ⟨v2, H2, ⟨I4.ok, I4.os, I4.bare, I4.base, I4.loc, I4.cell, I4.free, I4.freeC, fun q hq => I4.pin q (by
      rcases List.mem_append.mp hq with z | z
      · exact List.mem_append_left _ z
      · exact List.mem_append_right _ (List.mem_cons_of_mem _ z)), I4.hok, I4.len⟩, rv2, q2⟩
end
end DL
set_option Elab.async false
set_option linter.all false
set_option autoImplicit false
set_option maxRecDepth 100000
set_option maxHeartbeats 4000000
/-! PM: the package's mirrors. -/
namespace PM
open PySem PySem.Spec PyProof.Rows L2 DL

/-! is_whole -/
def b_is_whole : S := (sbind (eAndV (eIsi .int (eVarV 0)) (eNotV (eIsi .bool (eVarV 0)))) fun d => fun w _ => .rt d w)
def m_is_whole : List D → FR := mRun 1 1 b_is_whole
/-! is_between -/
def b_is_between : S := (sbind (eAndV (eFun m_is_whole (eCons (eVar 0) eNil)) (eChain dLe dLe (eVar 1) (eVar 0) (eVar 2))) fun d => fun w _ => .rt d w)
def m_is_between : List D → FR := mRun 3 3 b_is_between
/-! is_tuple -/
def b_is_tuple : S := (sbind (eAndV (eIsi .tuple (eVarV 0)) (eop2 dEq (eCall gLen (eCons (eVarV 0) eNil)) (eVarV 1))) fun d => fun w _ => .rt d w)
def m_is_tuple : List D → FR := mRun 2 2 b_is_tuple
/-! need_between -/
def b_need_between : S := (ifS (eNot (eB (eFun m_is_between (eCons (eVar 0) (eCons (eVar 1) (eCons (eVar 2) eNil)))))) (excS1 0 "part" (eVar 3)) snil)
def m_need_between : List D → FR := mRun 4 4 b_need_between
/-! is_level_told -/
def b_is_level_told : S := (sbind (eOrV (eFun m_is_between (eCons (eVar 0) (eCons (eC (.int 0)) (eCons (eC (.int 0)) eNil)))) (eFun m_is_between (eCons (eVar 0) (eCons (eC (.int 3)) (eCons (eC (.int 7)) eNil))))) fun d => fun w _ => .rt d w)
def m_is_level_told : List D → FR := mRun 1 1 b_is_level_told
/-! need_level -/
def b_need_level : S := (ifS (eNot (eB (eFun m_is_level_told (eCons (eVar 0) eNil)))) (excS0 2) snil)
def m_need_level : List D → FR := mRun 1 1 b_need_level
/-! least_told -/
def b_least_told : S := (sbind (eop2 dIx (eTup (eCons (eTup (eCons (eNeg (eC (.int 1))) (eCons (eC (.int 1)) eNil))) (eCons (eTup (eCons (eNeg (eC (.int 2))) (eCons (eC (.int 0)) (eCons (eC (.int 1)) eNil)))) (eCons (eTup (eCons (eNeg (eC (.int 1))) (eCons (eNeg (eC (.int 1))) (eCons (eC (.int 1)) eNil)))) (eCons (eTup (eCons (eNeg (eC (.int 3))) (eCons (eC (.int 0)) (eCons (eC (.int 1)) eNil)))) (eCons (eTup (eCons (eC (.int 1)) (eCons (eNeg (eC (.int 2))) (eCons (eNeg (eC (.int 1))) (eCons (eC (.int 1)) eNil))))) eNil)))))) (eop2 dSub (eVar 0) (eC (.int 3)))) fun d => fun w _ => .rt d w)
def m_least_told : List D → FR := mRun 1 1 b_least_told
/-! cleaned -/
def b_cleaned : S := (sseq (setS 1 (eDat (eCall gLen (eCons (eVarV 0) eNil))))
    (sseq (whileS (eAnd (eB (eop2 dGt (eVar 1) (eC (.int 0)))) (eB (eop2 dEq (eop2 dIx (eVarV 0) (eop2 dSub (eVar 1) (eC (.int 1)))) (eC (.int 0))))) (augS dSub 1 (eC (.int 1))) 300)
    (sbind (eCall gTuple (eCons (eCut gCutA (eVarV 0) eNoPart (ePart (eVar 1))) eNil)) fun d => fun w _ => .rt d w)))
def m_cleaned : List D → FR := mRun 1 2 b_cleaned
/-! p_plus -/
def b_p_plus : S := (sseq (ifS (eB (eop2 dLt (eCall gLen (eCons (eVarV 0) eNil)) (eCall gLen (eCons (eVarV 1) eNil)))) (asgS (tgT 2 (tgCons (tgN 0) (tgCons (tgN 1) tgNil))) (eTup (eCons (eVar 1) (eCons (eVar 0) eNil)))) snil)
    (sbind (eFun m_cleaned (eCons (eLst (compE [2, 3] (eCall gEnum (eCons (eVar 0) eNil)) (tgT 2 (tgCons (tgN 2) (tgCons (tgN 3) tgNil))) (epure true) (eIf (eB (eop2 dLt (eVar 2) (eCall gLen (eCons (eVarV 1) eNil)))) (eop2 dAdd (eVar 3) (eop2 dIx (eVarV 1) (eVarV 2))) (eVar 3)))) eNil)) fun d => fun w _ => .rt d w))
def m_p_plus : List D → FR := mRun 2 4 b_p_plus
/-! p_scaled -/
def b_p_scaled : S := (sbind (eFun m_cleaned (eCons (eLst (compE [2] (eSeq (eVar 0)) (tgN 2) (epure true) (eop2 dMul (eVar 2) (eVar 1)))) eNil)) fun d => fun w _ => .rt d w)
def m_p_scaled : List D → FR := mRun 2 3 b_p_scaled
/-! p_minus -/
def b_p_minus : S := (sbind (eFun m_p_plus (eCons (eVar 0) (eCons (eFun m_p_scaled (eCons (eVar 1) (eCons (eNeg (eC (.int 1))) eNil))) eNil))) fun d => fun w _ => .rt d w)
def m_p_minus : List D → FR := mRun 2 2 b_p_minus
/-! p_times -/
def b_p_times : S := (sseq (ifS (eOr (eB (eop2 dEq (eVarV 0) (eTup eNil))) (eB (eop2 dEq (eVarV 1) (eTup eNil)))) (sbind (eTup eNil) fun d => fun w _ => .rt d w) snil)
    (sseq (setS 2 (eOwn (eop2 dRepL (eLst (eList (eCons (eC (.int 0)) eNil))) (eop2 dSub (eop2 dAdd (eCall gLen (eCons (eVarV 0) eNil)) (eCall gLen (eCons (eVarV 1) eNil))) (eC (.int 1))))))
    (sseq (forS (eCall gEnum (eCons (eVar 0) eNil)) (tgT 2 (tgCons (tgN 3) (tgCons (tgN 4) tgNil))) (ifS (eB (eop2 dNe (eVarV 4) (eC (.int 0)))) (forS (eCall gEnum (eCons (eVar 1) eNil)) (tgT 2 (tgCons (tgN 5) (tgCons (tgN 6) tgNil))) (augIS dAdd 2 (eop2 dAdd (eVar 3) (eVar 5)) (eop2 dMul (eVar 4) (eVar 6)))) snil))
    (sseq (thawS 2) (sbind (eFun m_cleaned (eCons (eVar 2) eNil)) fun d => fun w _ => .rt d w)))))
def m_p_times : List D → FR := mRun 2 7 b_p_times
/-! p_content -/
def b_p_content : S := (sseq (setS 1 (eDat (eC (.int 0))))
    (sseq (forS (eSeq (eVar 0)) (tgN 2) (setS 1 (eDat (eCall gGcd (eCons (eVarV 1) (eCons (eVarV 2) eNil))))))
    (sbind (eVar 1) fun d => fun w _ => .rt d w)))
def m_p_content : List D → FR := mRun 1 3 b_p_content
/-! p_thinned -/
def b_p_thinned : S := (sbind (eCall gTuple (eCons (eLst (compE [2] (eSeq (eVar 0)) (tgN 2) (epure true) (eop2 dDiv (eVar 2) (eVar 1)))) eNil)) fun d => fun w _ => .rt d w)
def m_p_thinned : List D → FR := mRun 2 3 b_p_thinned
/-! p_rest -/
def b_p_rest : S := (sseq (setS 2 (eOwn (eCall gList (eCons (eVarV 0) eNil))))
    (sseq (whileS (eB (eop2 dGe (eCall gLen (eCons (eVarV 2) eNil)) (eCall gLen (eCons (eVarV 1) eNil)))) (sseq (popTo 2 3)
    (ifS (eB (eop2 dNe (eVarV 3) (eC (.int 0)))) (forS (eCall gEnum (eCons (eCut gCutT (eVarV 1) eNoPart (ePart (eNeg (eC (.int 1))))) eNil)) (tgT 2 (tgCons (tgN 4) (tgCons (tgN 5) tgNil))) (augIS dSub 2 (eop2 dAdd (eop2 dAdd (eop2 dSub (eCall gLen (eCons (eVarV 2) eNil)) (eCall gLen (eCons (eVarV 1) eNil))) (eC (.int 1))) (eVar 4)) (eop2 dMul (eVar 3) (eVar 5)))) snil)) 300)
    (sseq (thawS 2) (sbind (eFun m_cleaned (eCons (eVar 2) eNil)) fun d => fun w _ => .rt d w))))
def m_p_rest : List D → FR := mRun 2 6 b_p_rest
/-! is_polynomial_told -/
def b_is_polynomial_told : S := (sseq (ifS (eOr (eNot (eB (eIsi .tuple (eVarV 0)))) (eB (eop2 dGt (eCall gLen (eCons (eVarV 0) eNil)) (eop2 dAdd (eC (.int 200)) (eC (.int 1)))))) (sbind (eC (.bl false)) fun d => fun w _ => .rt d w) snil)
    (sbind (eAndV (eCall gAll (eCons (eLst (compE [1] (eSeq (eVar 0)) (tgN 1) (epure true) (eAndV (eFun m_is_whole (eCons (eVar 1) eNil)) (eChain dLt dLt (eNeg (eC (.int (10 ^ 1000)))) (eVar 1) (eC (.int (10 ^ 1000))))))) eNil)) (eOrV (eop2 dEq (eVarV 0) (eTup eNil)) (eop2 dNe (eop2 dIx (eVarV 0) (eNeg (eC (.int 1)))) (eC (.int 0))))) fun d => fun w _ => .rt d w))
def m_is_polynomial_told : List D → FR := mRun 1 2 b_is_polynomial_told
/-! need_few_figures -/
def b_need_few_figures : S := (ifS (eNot (eB (eCall gAll (eCons (eLst (compE [1] (eSeq (eVar 0)) (tgN 1) (epure true) (eChain dLt dLt (eNeg (eC (.int (10 ^ 1000)))) (eVar 1) (eC (.int (10 ^ 1000)))))) eNil)))) sBad snil)
def m_need_few_figures : List D → FR := mRun 1 2 b_need_few_figures
/-! lowest -/
def b_lowest : S := (sseq (ifS (eB (eop2 dEq (eVarV 0) (eTup eNil))) sBad snil)
    (sseq (ifS (eAnd (eB (eop2 dGt (eCall gLen (eCons (eVarV 1) eNil)) (eC (.int 1)))) (eB (eop2 dGt (eCall gLen (eCons (eVarV 0) eNil)) (eC (.int 1))))) (sseq (setS 3 (eDat eBad))
    (ifS (eB (eop2 dGt (eCall gLen (eCons (eVarV 3) eNil)) (eC (.int 1)))) (parS2 0 1 (eDat eBad) (eDat eBad)) snil)) snil)
    (sseq (setS 2 (eDat (eCall gGcd (eCons (eFun m_p_content (eCons (eVar 0) eNil)) (eCons (eFun m_p_content (eCons (eVar 1) eNil)) eNil)))))
    (sseq (setS 2 (eDat (eIf (eB (eop2 dGt (eop2 dIx (eVarV 1) (eNeg (eC (.int 1)))) (eC (.int 0)))) (eVar 2) (eNeg (eVar 2)))))
    (sbind (eIf (eB (eop2 dEq (eVarV 2) (eC (.int 1)))) (eTup (eCons (eVar 0) (eCons (eVar 1) eNil))) (eTup (eCons (eFun m_p_thinned (eCons (eVar 0) (eCons (eVar 2) eNil))) (eCons (eFun m_p_thinned (eCons (eVar 1) (eCons (eVar 2) eNil))) eNil)))) fun d => fun w _ => .rt d w)))))
def m_lowest : List D → FR := mRun 2 4 b_lowest
/-! wholes -/
def b_wholes : S := (sseq (setS 1 (eDat (eC (.int 1))))
    (sseq (forS (eSeq (eVar 0)) (tgT 2 (tgCons (tgN 2) (tgCons (tgN 3) tgNil))) (setS 1 (eDat (eop2 dDiv (eop2 dMul (eVar 1) (eVar 3)) (eCall gGcd (eCons (eVarV 1) (eCons (eVarV 3) eNil)))))))
    (sbind (eTup (eCons (eLst (compE [2, 3] (eSeq (eVar 0)) (tgT 2 (tgCons (tgN 2) (tgCons (tgN 3) tgNil))) (epure true) (eop2 dMul (eVar 2) (eop2 dDiv (eVar 1) (eVar 3))))) (eCons (eVar 1) eNil))) fun d => fun w _ => .rt d w)))
def m_wholes : List D → FR := mRun 1 4 b_wholes
/-! fractions -/
def b_fractions : S := (sseq (setS 2 (eOwn (eList eNil)))
    (sseq (forS (eSeq (eVar 0)) (tgN 3) (sseq (setS 4 (eDat (eIf (eB (eop2 dGt (eVar 1) (eC (.int 0)))) (eCall gGcd (eCons (eVarV 3) (eCons (eVarV 1) eNil))) (eNeg (eCall gGcd (eCons (eVarV 3) (eCons (eVarV 1) eNil)))))))
    (appS 2 (eTup (eCons (eop2 dDiv (eVar 3) (eVar 4)) (eCons (eop2 dDiv (eVar 1) (eVar 4)) eNil))))))
    (sbind (eCall gTuple (eCons (eVarV 2) eNil)) fun d => fun w _ => .rt d w)))
def m_fractions : List D → FR := mRun 2 5 b_fractions
/-! padded -/
def b_padded : S := (sseq (setS 2 (eDat (eFun m_least_told (eCons (eVar 0) eNil))))
    (sseq (setS 3 (eDat (eFun m_p_rest (eCons (eVar 1) (eCons (eVar 2) eNil)))))
    (sbind (eLst (eop2 dCatL (eLst (eCall gList (eCons (eVarV 3) eNil))) (eLst (eop2 dRepL (eLst (eList (eCons (eC (.int 0)) eNil))) (eop2 dSub (eop2 dSub (eCall gLen (eCons (eVarV 2) eNil)) (eC (.int 1))) (eCall gLen (eCons (eVarV 3) eNil))))))) fun d => fun w _ => .rt d w)))
def m_padded : List D → FR := mRun 2 4 b_padded
/-! n_of_polynomial -/
def b_n_of_polynomial : S := (sbind (eIf (eB (eop2 dEq (eVarV 0) (eC (.int 0)))) (eTup (eCons (eVar 1) (eCons (eTup (eCons (eC (.int 1)) eNil)) eNil))) (eFun m_fractions (eCons (eFun m_padded (eCons (eVar 0) (eCons (eVar 1) eNil))) (eCons (eC (.int 1)) eNil)))) fun d => fun w _ => .rt d w)
def m_n_of_polynomial : List D → FR := mRun 2 2 b_n_of_polynomial
/-! n_whole -/
def b_n_whole : S := (sbind (eFun m_n_of_polynomial (eCons (eVar 0) (eCons (eIf (eB (eop2 dNe (eVarV 1) (eC (.int 0)))) (eTup (eCons (eVar 1) eNil)) (eTup eNil)) eNil))) fun d => fun w _ => .rt d w)
def m_n_whole : List D → FR := mRun 2 2 b_n_whole
/-! n_plus -/
def b_n_plus : S := (sseq (ifS (eB (eop2 dEq (eVarV 0) (eC (.int 0)))) (sseq (ifS (eB (eop2 dEq (eop2 dIx (eVarV 1) (eC (.int 1))) (eop2 dIx (eVarV 2) (eC (.int 1))))) (sbind (eFun m_lowest (eCons (eFun m_p_plus (eCons (eop2 dIx (eVarV 1) (eC (.int 0))) (eCons (eop2 dIx (eVarV 2) (eC (.int 0))) eNil))) (eCons (eop2 dIx (eVarV 1) (eC (.int 1))) eNil))) fun d => fun w _ => .rt d w) snil)
    (sbind (eFun m_lowest (eCons (eFun m_p_plus (eCons (eFun m_p_times (eCons (eop2 dIx (eVarV 1) (eC (.int 0))) (eCons (eop2 dIx (eVarV 2) (eC (.int 1))) eNil))) (eCons (eFun m_p_times (eCons (eop2 dIx (eVarV 2) (eC (.int 0))) (eCons (eop2 dIx (eVarV 1) (eC (.int 1))) eNil))) eNil))) (eCons (eFun m_p_times (eCons (eop2 dIx (eVarV 1) (eC (.int 1))) (eCons (eop2 dIx (eVarV 2) (eC (.int 1))) eNil))) eNil))) fun d => fun w _ => .rt d w)) snil)
    (sbind (eCall gTuple (eCons (eLst (compE [3, 4, 5, 6] (eCall gZip (eCons (eVar 1) (eCons (eVar 2) eNil))) (tgT 2 (tgCons (tgT 2 (tgCons (tgN 3) (tgCons (tgN 4) tgNil))) (tgCons (tgT 2 (tgCons (tgN 5) (tgCons (tgN 6) tgNil))) tgNil))) (epure true) (eop2 dIx (eFun m_fractions (eCons (eLst (eList (eCons (eop2 dAdd (eop2 dMul (eVar 3) (eVar 6)) (eop2 dMul (eVar 5) (eVar 4))) eNil))) (eCons (eop2 dMul (eVar 4) (eVar 6)) eNil))) (eC (.int 0))))) eNil)) fun d => fun w _ => .rt d w))
def m_n_plus : List D → FR := mRun 3 7 b_n_plus
/-! n_times -/
def b_n_times : S := (sseq (ifS (eB (eop2 dEq (eVarV 0) (eC (.int 0)))) (sbind (eFun m_lowest (eCons (eFun m_p_times (eCons (eop2 dIx (eVarV 1) (eC (.int 0))) (eCons (eop2 dIx (eVarV 2) (eC (.int 0))) eNil))) (eCons (eFun m_p_times (eCons (eop2 dIx (eVarV 1) (eC (.int 1))) (eCons (eop2 dIx (eVarV 2) (eC (.int 1))) eNil))) eNil))) fun d => fun w _ => .rt d w) snil)
    (sseq (asgS (tgT 2 (tgCons (tgN 3) (tgCons (tgN 4) tgNil))) (eFun m_wholes (eCons (eVar 1) eNil)))
    (sseq (asgS (tgT 2 (tgCons (tgN 5) (tgCons (tgN 6) tgNil))) (eFun m_wholes (eCons (eVar 2) eNil)))
    (sseq (setS 7 (eOwn (eop2 dRepL (eLst (eList (eCons (eC (.int 0)) eNil))) (eop2 dSub (eop2 dMul (eC (.int 2)) (eCall gLen (eCons (eVarV 3) eNil))) (eC (.int 1))))))
    (sseq (forS (eCall gEnum (eCons (eVar 3) eNil)) (tgT 2 (tgCons (tgN 8) (tgCons (tgN 9) tgNil))) (forS (eCall gEnum (eCons (eVar 5) eNil)) (tgT 2 (tgCons (tgN 10) (tgCons (tgN 11) tgNil))) (augIS dAdd 7 (eop2 dAdd (eVar 8) (eVar 10)) (eop2 dMul (eVar 9) (eVar 11)))))
    (sbind (eFun m_fractions (eCons (eFun m_padded (eCons (eVar 0) (eCons (eCall gTuple (eCons (eVarV 7) eNil)) eNil))) (eCons (eop2 dMul (eVar 4) (eVar 6)) eNil))) fun d => fun w _ => .rt d w))))))
def m_n_times : List D → FR := mRun 3 12 b_n_times
/-! is_fraction -/
def b_is_fraction : S := (sseq (ifS (eOr (eNot (eB (eFun m_is_tuple (eCons (eVar 0) (eCons (eC (.int 2)) eNil))))) (eOr (eNot (eB (eFun m_is_whole (eCons (eop2 dIx (eVarV 0) (eC (.int 0))) eNil)))) (eNot (eB (eFun m_is_whole (eCons (eop2 dIx (eVarV 0) (eC (.int 1))) eNil)))))) (sbind (eC (.bl false)) fun d => fun w _ => .rt d w) snil)
    (sbind (eAndV (eChain dLt dLt (eNeg (eC (.int (10 ^ 1000)))) (eop2 dIx (eVarV 0) (eC (.int 0))) (eC (.int (10 ^ 1000)))) (eAndV (eChain dLt dLt (eC (.int 0)) (eop2 dIx (eVarV 0) (eC (.int 1))) (eC (.int (10 ^ 1000)))) (eop2 dEq (eCall gGcd (eCons (eop2 dIx (eVarV 0) (eC (.int 0))) (eCons (eop2 dIx (eVarV 0) (eC (.int 1))) eNil))) (eC (.int 1))))) fun d => fun w _ => .rt d w))
def m_is_fraction : List D → FR := mRun 1 1 b_is_fraction
/-! is_number_told -/
def b_is_number_told : S := (sseq (ifS (eB (eop2 dGt (eVar 0) (eC (.int 0)))) (sbind (eAndV (eFun m_is_tuple (eCons (eVar 1) (eCons (eop2 dSub (eCall gLen (eCons (eFun m_least_told (eCons (eVar 0) eNil)) eNil)) (eC (.int 1))) eNil))) (eCall gAll (eCons (eLst (compE [2] (eSeq (eVar 1)) (tgN 2) (epure true) (eFun m_is_fraction (eCons (eVar 2) eNil)))) eNil))) fun d => fun w _ => .rt d w) snil)
    (sseq (ifS (eOr (eNot (eB (eFun m_is_tuple (eCons (eVar 1) (eCons (eC (.int 2)) eNil))))) (eOr (eNot (eB (eFun m_is_polynomial_told (eCons (eop2 dIx (eVarV 1) (eC (.int 0))) eNil)))) (eNot (eB (eFun m_is_polynomial_told (eCons (eop2 dIx (eVarV 1) (eC (.int 1))) eNil)))))) (sbind (eC (.bl false)) fun d => fun w _ => .rt d w) snil)
    (sbind (eAndV (eop2 dNe (eop2 dIx (eVarV 1) (eC (.int 1))) (eTup eNil)) (eop2 dEq (eFun m_lowest (eCons (eop2 dIx (eVarV 1) (eC (.int 0))) (eCons (eop2 dIx (eVarV 1) (eC (.int 1))) eNil))) (eVarV 1))) fun d => fun w _ => .rt d w)))
def m_is_number_told : List D → FR := mRun 2 3 b_is_number_told
/-! need_number -/
def b_need_number : S := (ifS (eNot (eB (eFun m_is_number_told (eCons (eVar 0) (eCons (eVar 1) eNil))))) (excS1 0 "part" (eVar 2)) snil)
def m_need_number : List D → FR := mRun 3 3 b_need_number
/-! need_told -/
def b_need_told : S := (sseq (ifS (eAnd (eB (eop2 dEq (eVarV 0) (eC (.int 0)))) (eB (eop2 dGt (eCall gMax2 (eCons (eCall gLen (eCons (eop2 dIx (eVarV 1) (eC (.int 0))) eNil)) (eCons (eCall gLen (eCons (eop2 dIx (eVarV 1) (eC (.int 1))) eNil)) eNil))) (eop2 dAdd (eC (.int 200)) (eC (.int 1)))))) sBad snil)
    (sseq (forS (eSeq (eVar 1)) (tgN 2) (sbind (eFun m_need_few_figures (eCons (eVar 2) eNil)) fun _ => fun w e => .nx e w))
    (sbind (eVar 1) fun d => fun w _ => .rt d w)))
def m_need_told : List D → FR := mRun 2 3 b_need_told
/-! whole_number -/
def b_whole_number : S := (sseq (sbind (eFun m_need_level (eCons (eVar 0) eNil)) fun _ => fun w e => .nx e w)
    (sseq (ifS (eOr (eNot (eB (eFun m_is_whole (eCons (eVar 1) eNil)))) (eNot (eB (eChain dLt dLt (eNeg (eC (.int (10 ^ 1000)))) (eVar 1) (eC (.int (10 ^ 1000))))))) (excS1 0 "part" (eC (.str "k"))) snil)
    (sbind (eFun m_n_whole (eCons (eVar 0) (eCons (eVar 1) eNil))) fun d => fun w _ => .rt d w)))
def m_whole_number : List D → FR := mRun 2 2 b_whole_number
/-! need_two -/
def b_need_two : S := (sseq (sbind (eFun m_need_level (eCons (eVar 0) eNil)) fun _ => fun w e => .nx e w)
    (sseq (sbind (eFun m_need_number (eCons (eVar 0) (eCons (eVar 1) (eCons (eC (.str "one")) eNil)))) fun _ => fun w e => .nx e w)
    (sbind (eFun m_need_number (eCons (eVar 0) (eCons (eVar 2) (eCons (eC (.str "other")) eNil)))) fun _ => fun w e => .nx e w)))
def m_need_two : List D → FR := mRun 3 3 b_need_two
/-! number_plus -/
def b_number_plus : S := (sseq (sbind (eFun m_need_two (eCons (eVar 0) (eCons (eVar 1) (eCons (eVar 2) eNil)))) fun _ => fun w e => .nx e w)
    (sbind (eFun m_need_told (eCons (eVar 0) (eCons (eFun m_n_plus (eCons (eVar 0) (eCons (eVar 1) (eCons (eVar 2) eNil)))) eNil))) fun d => fun w _ => .rt d w))
def m_number_plus : List D → FR := mRun 3 3 b_number_plus
/-! number_times -/
def b_number_times : S := (sseq (sbind (eFun m_need_two (eCons (eVar 0) (eCons (eVar 1) (eCons (eVar 2) eNil)))) fun _ => fun w e => .nx e w)
    (sbind (eFun m_need_told (eCons (eVar 0) (eCons (eFun m_n_times (eCons (eVar 0) (eCons (eVar 1) (eCons (eVar 2) eNil)))) eNil))) fun d => fun w _ => .rt d w))
def m_number_times : List D → FR := mRun 3 3 b_number_times
/-! d_polynomials -/
def b_d_polynomials : S := (sseq (setS 1 (eOwn (eList (eCons (eTup (eCons (eC (.int 1)) eNil)) (eCons (eTup (eCons (eC (.int 0)) (eCons (eC (.int 1)) eNil))) eNil)))))
    (sseq (whileS (eB (eop2 dLt (eCall gLen (eCons (eVarV 1) eNil)) (eVar 0))) (appS 1 (eFun m_p_minus (eCons (eTup (eCons (eC (.int 0)) (eStar (eop2 dIx (eVarV 1) (eNeg (eC (.int 1)))) eNil))) (eCons (eop2 dIx (eVarV 1) (eNeg (eC (.int 2)))) eNil)))) 300)
    (sbind (eLst (eCut gCutL (eVarV 1) eNoPart (ePart (eVar 0)))) fun d => fun w _ => .rt d w)))
def m_d_polynomials : List D → FR := mRun 1 2 b_d_polynomials
/-! d_told -/
def b_d_told : S := (sbind (eFun m_n_of_polynomial (eCons (eVar 0) (eCons (eIf (eB (eop2 dLt (eVar 1) (eC (.int 0)))) (eTup eNil) (eop2 dIx (eFun m_d_polynomials (eCons (eop2 dAdd (eVar 1) (eC (.int 1))) eNil)) (eVarV 1))) eNil))) fun d => fun w _ => .rt d w)
def m_d_told : List D → FR := mRun 2 2 b_d_told
/-! fall_told -/
def b_fall_told : S := (sseq (setS 2 (eDat (eTup (eCons (eC (.int 1)) eNil))))
    (sseq (forS (eSeq (eFun m_d_polynomials (eCons (eVar 1) eNil))) (tgN 3) (setS 2 (eDat (eFun m_p_times (eCons (eVar 2) (eCons (eVar 3) eNil))))))
    (sbind (eFun m_n_of_polynomial (eCons (eVar 0) (eCons (eVar 2) eNil))) fun d => fun w _ => .rt d w)))
def m_fall_told : List D → FR := mRun 2 4 b_fall_told
/-! d_number -/
def b_d_number : S := (sseq (sbind (eFun m_need_level (eCons (eVar 0) eNil)) fun _ => fun w e => .nx e w)
    (sseq (sbind (eFun m_need_between (eCons (eVar 1) (eCons (eNeg (eC (.int 1))) (eCons (eC (.int 60)) (eCons (eC (.str "n")) eNil))))) fun _ => fun w e => .nx e w)
    (sbind (eFun m_need_told (eCons (eVar 0) (eCons (eFun m_d_told (eCons (eVar 0) (eCons (eVar 1) eNil))) eNil))) fun d => fun w _ => .rt d w)))
def m_d_number : List D → FR := mRun 2 2 b_d_number
/-! falling -/
def b_falling : S := (sseq (sbind (eFun m_need_level (eCons (eVar 0) eNil)) fun _ => fun w e => .nx e w)
    (sseq (sbind (eFun m_need_between (eCons (eVar 1) (eCons (eC (.int 0)) (eCons (eC (.int 20)) (eCons (eC (.str "n")) eNil))))) fun _ => fun w e => .nx e w)
    (sbind (eFun m_need_told (eCons (eVar 0) (eCons (eFun m_fall_told (eCons (eVar 0) (eCons (eVar 1) eNil))) eNil))) fun d => fun w _ => .rt d w)))
def m_falling : List D → FR := mRun 2 2 b_falling
end PM
set_option Elab.async false
set_option linter.all false
set_option autoImplicit false
set_option maxRecDepth 100000
set_option maxHeartbeats 4000000
/-! LM: the laws's mirrors. -/
namespace LM
open PySem PySem.Spec PyProof.Rows L2 DL

/-! _law_fraction -/
def b__law_fraction : S := (sseq (parS2 2 3 (eDat (eCall gAbs (eCons (eVarV 0) eNil))) (eDat (eCall gAbs (eCons (eVarV 1) eNil))))
    (sseq (whileS (eB (eop2 dNe (eVarV 3) (eC (.int 0)))) (parS2 2 3 (eDat (eVar 3)) (eDat (eop2 dMod (eCall gInt (eCons (eVarV 2) eNil)) (eCall gInt (eCons (eVarV 3) eNil))))) 300)
    (sseq (setS 4 (eDat (eIf (eB (eop2 dLt (eVar 1) (eC (.int 0)))) (eNeg (eC (.int 1))) (eC (.int 1)))))
    (sbind (eIf (eB (eop2 dNe (eVarV 2) (eC (.int 0)))) (eTup (eCons (eop2 dDiv (eop2 dMul (eVar 4) (eVar 0)) (eVar 2)) (eCons (eop2 dDiv (eop2 dMul (eVar 4) (eVar 1)) (eVar 2)) eNil))) (eTup (eCons (eC (.int 0)) (eCons (eC (.int 1)) eNil)))) fun d => fun w _ => .rt d w))))
def m__law_fraction : List D → FR := mRun 2 5 b__law_fraction
/-! _law_plus -/
def b__law_plus : S := (sbind (eFun m__law_fraction (eCons (eop2 dAdd (eop2 dMul (eop2 dIx (eVarV 0) (eC (.int 0))) (eop2 dIx (eVarV 1) (eC (.int 1)))) (eop2 dMul (eop2 dIx (eVarV 1) (eC (.int 0))) (eop2 dIx (eVarV 0) (eC (.int 1))))) (eCons (eop2 dMul (eop2 dIx (eVarV 0) (eC (.int 1))) (eop2 dIx (eVarV 1) (eC (.int 1)))) eNil))) fun d => fun w _ => .rt d w)
def m__law_plus : List D → FR := mRun 2 2 b__law_plus
/-! _law_times -/
def b__law_times : S := (sbind (eFun m__law_fraction (eCons (eop2 dMul (eop2 dIx (eVarV 0) (eC (.int 0))) (eop2 dIx (eVarV 1) (eC (.int 0)))) (eCons (eop2 dMul (eop2 dIx (eVarV 0) (eC (.int 1))) (eop2 dIx (eVarV 1) (eC (.int 1)))) eNil))) fun d => fun w _ => .rt d w)
def m__law_times : List D → FR := mRun 2 2 b__law_times
/-! _law_least -/
def b__law_least : S := (sbind (eop2 dIx (eLst (eList (eCons (eTup (eCons (eNeg (eC (.int 1))) (eCons (eC (.int 1)) eNil))) (eCons (eTup (eCons (eNeg (eC (.int 2))) (eCons (eC (.int 0)) (eCons (eC (.int 1)) eNil)))) (eCons (eTup (eCons (eNeg (eC (.int 1))) (eCons (eNeg (eC (.int 1))) (eCons (eC (.int 1)) eNil)))) (eCons (eTup (eCons (eNeg (eC (.int 3))) (eCons (eC (.int 0)) (eCons (eC (.int 1)) eNil)))) (eCons (eTup (eCons (eC (.int 1)) (eCons (eNeg (eC (.int 2))) (eCons (eNeg (eC (.int 1))) (eCons (eC (.int 1)) eNil))))) eNil))))))) (eop2 dSub (eVar 0) (eC (.int 3)))) fun d => fun w _ => .rt d w)
def m__law_least : List D → FR := mRun 1 1 b__law_least
/-! _law_rest -/
def b__law_rest : S := (sseq (parS2 2 3 (eOwn (eCall gList (eCons (eVarV 0) eNil))) (eDat (eop2 dSub (eCall gLen (eCons (eVarV 1) eNil)) (eC (.int 1)))))
    (sseq (forS (eCall gRange3 (eCons (eop2 dSub (eCall gLen (eCons (eVarV 2) eNil)) (eC (.int 1))) (eCons (eop2 dSub (eVar 3) (eC (.int 1))) (eCons (eNeg (eC (.int 1))) eNil)))) (tgN 4) (sseq (setS 5 (eDat (eop2 dIx (eVarV 2) (eVarV 4))))
    (sseq (forS (eCall gRange1 (eCons (eVar 3) eNil)) (tgN 6) (setIS 2 (eFun m__law_plus (eCons (eop2 dIx (eVarV 2) (eop2 dAdd (eop2 dSub (eVar 4) (eVar 3)) (eVar 6))) (eCons (eFun m__law_times (eCons (eVar 5) (eCons (eTup (eCons (eNeg (eop2 dIx (eVarV 1) (eVarV 6))) (eCons (eC (.int 1)) eNil))) eNil))) eNil))) (eop2 dAdd (eop2 dSub (eVar 4) (eVar 3)) (eVar 6))))
    (setS 2 (eOwn (eCut gCutL (eVarV 2) eNoPart (ePart (eVar 4))))))))
    (sbind (eCall gTuple (eCons (eLst (eop2 dCatL (eVarV 2) (eLst (eop2 dRepL (eLst (eList (eCons (eTup (eCons (eC (.int 0)) (eCons (eC (.int 1)) eNil))) eNil))) (eop2 dSub (eVar 3) (eCall gLen (eCons (eVarV 2) eNil))))))) eNil)) fun d => fun w _ => .rt d w)))
def m__law_rest : List D → FR := mRun 2 7 b__law_rest
/-! _law_whole -/
def b__law_whole : S := (sbind (eFun m__law_rest (eCons (eLst (eList (eCons (eTup (eCons (eVar 0) (eCons (eC (.int 1)) eNil))) eNil))) (eCons (eVar 1) eNil))) fun d => fun w _ => .rt d w)
def m__law_whole : List D → FR := mRun 2 2 b__law_whole
/-! _law_cleaned -/
def b__law_cleaned : S := (sseq (setS 1 (eOwn (eCall gList (eCons (eVarV 0) eNil))))
    (sseq (whileS (eAnd (eB (eop2 dNe (eVarV 1) (eLst (eList eNil)))) (eB (eop2 dEq (eop2 dIx (eVarV 1) (eNeg (eC (.int 1)))) (eC (.int 0))))) (popS 1) 300)
    (sbind (eCall gTuple (eCons (eVarV 1) eNil)) fun d => fun w _ => .rt d w)))
def m__law_cleaned : List D → FR := mRun 1 2 b__law_cleaned
/-! _law_p_plus -/
def b__law_p_plus : S := (sseq (setS 2 (eDat (eCall gMax2 (eCons (eCall gLen (eCons (eVarV 0) eNil)) (eCons (eCall gLen (eCons (eVarV 1) eNil)) eNil)))))
    (sbind (eFun m__law_cleaned (eCons (eLst (compE [3] (eCall gRange1 (eCons (eVar 2) eNil)) (tgN 3) (epure true) (eop2 dAdd (eIf (eB (eop2 dLt (eVar 3) (eCall gLen (eCons (eVarV 0) eNil)))) (eop2 dIx (eVarV 0) (eVarV 3)) (eC (.int 0))) (eIf (eB (eop2 dLt (eVar 3) (eCall gLen (eCons (eVarV 1) eNil)))) (eop2 dIx (eVarV 1) (eVarV 3)) (eC (.int 0)))))) eNil)) fun d => fun w _ => .rt d w))
def m__law_p_plus : List D → FR := mRun 2 4 b__law_p_plus
/-! _law_p_times -/
def b__law_p_times : S := (sseq (setS 2 (eOwn (eop2 dRepL (eLst (eList (eCons (eC (.int 0)) eNil))) (eop2 dAdd (eop2 dAdd (eCall gLen (eCons (eVarV 0) eNil)) (eCall gLen (eCons (eVarV 1) eNil))) (eC (.int 1))))))
    (sseq (forS (eCall gEnum (eCons (eVar 0) eNil)) (tgT 2 (tgCons (tgN 3) (tgCons (tgN 4) tgNil))) (forS (eCall gEnum (eCons (eVar 1) eNil)) (tgT 2 (tgCons (tgN 5) (tgCons (tgN 6) tgNil))) (setIS 2 (eop2 dAdd (eop2 dIx (eVarV 2) (eop2 dAdd (eVar 3) (eVar 5))) (eop2 dMul (eVar 4) (eVar 6))) (eop2 dAdd (eVar 3) (eVar 5)))))
    (sseq (thawS 2) (sbind (eFun m__law_cleaned (eCons (eVar 2) eNil)) fun d => fun w _ => .rt d w))))
def m__law_p_times : List D → FR := mRun 2 7 b__law_p_times
end LM
set_option Elab.async false
set_option linter.all false
set_option autoImplicit false
set_option maxRecDepth 100000
set_option maxHeartbeats 4000000
/-! PM2: more of the package's mirrors. -/
namespace PM
open PySem PySem.Spec PyProof.Rows L2 DL

/-! p_exact -/
def b_p_exact : S := (sseq (parS2 2 3 (eOwn (eCall gList (eCons (eVarV 0) eNil))) (eOwn (eop2 dRepL (eLst (eList (eCons (eC (.int 0)) eNil))) (eCall gMax2 (eCons (eC (.int 0)) (eCons (eop2 dAdd (eop2 dSub (eCall gLen (eCons (eVarV 0) eNil)) (eCall gLen (eCons (eVarV 1) eNil))) (eC (.int 1))) eNil))))))
    (sseq (forS (eCall gRange3 (eCons (eop2 dSub (eCall gLen (eCons (eVarV 0) eNil)) (eCall gLen (eCons (eVarV 1) eNil))) (eCons (eNeg (eC (.int 1))) (eCons (eNeg (eC (.int 1))) eNil)))) (tgN 4) (sseq (setS 5 (eDat (eop2 dIx (eVarV 2) (eop2 dSub (eop2 dAdd (eVar 4) (eCall gLen (eCons (eVarV 1) eNil))) (eC (.int 1))))))
    (sseq (ifS (eB (eop2 dNe (eop2 dMod (eVar 5) (eop2 dIx (eVarV 1) (eNeg (eC (.int 1))))) (eC (.int 0)))) (sbind (eC .non) fun d => fun w _ => .rt d w) snil)
    (sseq (setIS 3 (eop2 dDiv (eVar 5) (eop2 dIx (eVarV 1) (eNeg (eC (.int 1))))) (eVar 4))
    (ifS (eB (eop2 dNe (eop2 dIx (eVarV 3) (eVarV 4)) (eC (.int 0)))) (forS (eCall gEnum (eCons (eVar 1) eNil)) (tgT 2 (tgCons (tgN 6) (tgCons (tgN 7) tgNil))) (augIS dSub 2 (eop2 dAdd (eVar 4) (eVar 6)) (eop2 dMul (eop2 dIx (eVarV 3) (eVarV 4)) (eVar 7)))) snil)))))
    (sseq (thawS 2) (sseq (thawS 3) (sbind (eIf (eB (eop2 dEq (eFun m_cleaned (eCons (eVar 2) eNil)) (eTup eNil))) (eFun m_cleaned (eCons (eVar 3) eNil)) (eC .non)) fun d => fun w _ => .rt d w)))))
def m_p_exact : List D → FR := mRun 2 8 b_p_exact
/-! p_at -/
def b_p_at : S := (sseq (setS 2 (eDat (eC (.int 0))))
    (sseq (forS (ebind (eVar 0) fun d => eopt (gRev d)) (tgN 3) (setS 2 (eDat (eop2 dAdd (eop2 dMul (eVar 2) (eVar 1)) (eVar 3)))))
    (sbind (eVar 2) fun d => fun w _ => .rt d w)))
def m_p_at : List D → FR := mRun 2 4 b_p_at
/-! need_polynomial -/
def b_need_polynomial : S := (ifS (eNot (eB (eFun m_is_polynomial_told (eCons (eVar 0) eNil)))) (excS1 22 "part" (eVar 1)) snil)
def m_need_polynomial : List D → FR := mRun 2 2 b_need_polynomial
/-! polynomial_at -/
def b_polynomial_at : S := (sseq (sbind (eFun m_need_polynomial (eCons (eVar 0) (eCons (eC (.str "polynomial")) eNil))) fun _ => fun w e => .nx e w)
    (sseq (sbind (eFun m_need_between (eCons (eVar 1) (eCons (eNeg (eC (.int 100))) (eCons (eC (.int 100)) (eCons (eC (.str "x")) eNil))))) fun _ => fun w e => .nx e w)
    (sbind (eFun m_p_at (eCons (eVar 0) (eCons (eVar 1) eNil))) fun d => fun w _ => .rt d w)))
def m_polynomial_at : List D → FR := mRun 2 2 b_polynomial_at
/-! quotient_polynomials -/
def b_quotient_polynomials : S := (sseq (parS2 2 3 (eDat (eFun m_d_polynomials (eCons (eVar 0) eNil))) (eOwn (eList (eCons (eTup (eCons (eC (.int 1)) eNil)) eNil))))
    (sseq (forS (eCall gRange2 (eCons (eC (.int 1)) (eCons (eop2 dAdd (eVar 1) (eC (.int 1))) eNil))) (tgN 4) (appS 3 (eFun m_p_exact (eCons (eFun m_p_times (eCons (eop2 dIx (eVarV 3) (eNeg (eC (.int 1)))) (eCons (eop2 dIx (eVarV 2) (eop2 dSub (eVar 0) (eVar 4))) eNil))) (eCons (eop2 dIx (eVarV 2) (eop2 dSub (eVar 4) (eC (.int 1)))) eNil)))))
    (sseq (thawS 3) (sbind (eVar 3) fun d => fun w _ => .rt d w))))
def m_quotient_polynomials : List D → FR := mRun 2 5 b_quotient_polynomials
/-! quotient_told -/
def b_quotient_told : S := (sbind (eFun m_n_of_polynomial (eCons (eVar 0) (eCons (eop2 dIx (eFun m_quotient_polynomials (eCons (eVar 1) (eCons (eVar 2) eNil))) (eVarV 2)) eNil))) fun d => fun w _ => .rt d w)
def m_quotient_told : List D → FR := mRun 3 3 b_quotient_told
/-! quotient -/
def b_quotient : S := (sseq (sbind (eFun m_need_level (eCons (eVar 0) eNil)) fun _ => fun w e => .nx e w)
    (sseq (sbind (eFun m_need_between (eCons (eVar 1) (eCons (eC (.int 0)) (eCons (eC (.int 28)) (eCons (eC (.str "n")) eNil))))) fun _ => fun w e => .nx e w)
    (sseq (sbind (eFun m_need_between (eCons (eVar 2) (eCons (eC (.int 0)) (eCons (eVar 1) (eCons (eC (.str "k")) eNil))))) fun _ => fun w e => .nx e w)
    (sbind (eFun m_need_told (eCons (eVar 0) (eCons (eFun m_quotient_told (eCons (eVar 0) (eCons (eVar 1) (eCons (eVar 2) eNil)))) eNil))) fun d => fun w _ => .rt d w))))
def m_quotient : List D → FR := mRun 3 3 b_quotient
/-! quotients -/
def b_quotients : S := (sseq (sbind (eFun m_need_level (eCons (eVar 0) eNil)) fun _ => fun w e => .nx e w)
    (sseq (sbind (eFun m_need_between (eCons (eVar 1) (eCons (eC (.int 0)) (eCons (eC (.int 28)) (eCons (eC (.str "n")) eNil))))) fun _ => fun w e => .nx e w)
    (sbind (eCall gTuple (eCons (eLst (compE [2] (eSeq (eFun m_quotient_polynomials (eCons (eVar 1) (eCons (eVar 1) eNil)))) (tgN 2) (epure true) (eFun m_need_told (eCons (eVar 0) (eCons (eFun m_n_of_polynomial (eCons (eVar 0) (eCons (eVar 2) eNil))) eNil))))) eNil)) fun d => fun w _ => .rt d w)))
def m_quotients : List D → FR := mRun 2 3 b_quotients
end PM
set_option Elab.async false
set_option linter.all false
set_option autoImplicit false
set_option maxRecDepth 100000
set_option maxHeartbeats 1000000
/-! DH1: mirrors of the laws' small helpers that take a lambda. -/
namespace DL
open PySem PySem.Spec PyProof.Rows L2
theorem mCaught_ne (m : Nat) (rc : Wo → ER D) (w : Wo) (ds : List D) (y : Xc) (w' : Wo) : mCaught m rc w ds ≠ .exc y w' := by
  unfold mCaught
  cases ds with
  | cons _ _ => simp
  | nil =>
    cases h : rc w with
    | ok d w2 => simp
    | bad => simp
    | exc x w2 =>
      dsimp only
      by_cases z : x.cls < m
      · rw [if_pos z]; simp
      · rw [if_neg z]; simp
/-- the body of _law_is_bad_number; names work, part, error -/
def bIsBad (tab : Nat → Nat → Option Bool) (n m : Nat) (fld : Str) (g : Addr) (rc : Wo → ER D) : S :=
  sseq (setS 2 (eDat (eFunC (mCaught m) g rc (eCons (eVar 0) eNil)))) (sbind (eAndV (eIsX tab n (eVar 2)) (eFun mSame (eCons (eFld fld (eVar 2)) (eCons (eVar 1) eNil)))) fun d => fun w _ => .rt d w)
def mIsBad (tab : Nat → Nat → Option Bool) (n m : Nat) (fld : Str) (rc : Wo → ER D) (w : Wo) (ds : List D) : ER D := match ds with
  | [p] => match mCaught m rc w [] with
    | .ok (.exc1 q f x) w' => if tab q n = some true ∧ fld = f then (match mSame [x, p] with
      | .ok r => .ok r w'
      | _ => .bad) else .bad
    | _ => .bad
  | _ => .bad
theorem mIsBad_le (tab : Nat → Nat → Option Bool) (n m : Nat) (fld : Str) (g : Addr) (rc : Wo → ER D) (w : Wo) (ds : List D) : mIsBad tab n m fld rc w ds = .bad ∨ mRunW 2 3 (bIsBad tab n m fld g rc) w (.raw (.ref g) :: ds) = mIsBad tab n m fld rc w ds := by
  unfold mIsBad
  split
  · rename_i p
    cases h : mCaught m rc w [] with
    | bad => exact .inl rfl
    | exc y w' => exact .inl rfl
    | ok d w' =>
      cases d <;> first | exact .inl rfl | skip
      rename_i q f x
      dsimp only
      by_cases z : tab q n = some true ∧ fld = f
      · rw [if_pos z]
        cases hs : mSame [x, p] with
        | bad => exact .inl rfl
        | exc y => exact .inl rfl
        | ok r =>
          refine .inr ?_
          unfold mRunW
          rw [if_pos (show [D.raw (.ref g), p].length = 2 from rfl)]
          have e1 : eFunC (mCaught m) g rc (eCons (eVar 0) eNil) w [Sl.dat (.raw (.ref g)), Sl.dat p, Sl.un] = .ok (.exc1 q f x) w' := by
            show (if V.ref g = V.ref g then mCaught m rc w [] else .bad) = _
            rw [if_pos rfl]
            exact h
          have e2 : setS 2 (eDat (eFunC (mCaught m) g rc (eCons (eVar 0) eNil))) w ([D.raw (.ref g), p].map Sl.dat ++ List.replicate (3 - 2) Sl.un) = .nx [Sl.dat (.raw (.ref g)), Sl.dat p, Sl.dat (.exc1 q f x)] w' := by
            show setS 2 (eDat (eFunC (mCaught m) g rc (eCons (eVar 0) eNil))) w [Sl.dat (.raw (.ref g)), Sl.dat p, Sl.un] = _
            unfold setS eDat ebind
            rw [e1]
            rfl
          have e3 : eAndV (eIsX tab n (eVar 2)) (eFun mSame (eCons (eFld fld (eVar 2)) (eCons (eVar 1) eNil))) w' [Sl.dat (.raw (.ref g)), Sl.dat p, Sl.dat (.exc1 q f x)] = .ok r w' := by
            have a1 : eIsX tab n (eVar 2) w' [Sl.dat (.raw (.ref g)), Sl.dat p, Sl.dat (.exc1 q f x)] = .ok (.bl true) w' := by
              show (eopt (blOpt (tab q n)) : E D) w' _ = _
              rw [z.1]
              rfl
            have a2 : eFld fld (eVar 2) w' [Sl.dat (.raw (.ref g)), Sl.dat p, Sl.dat (.exc1 q f x)] = .ok x w' := by
              show (eopt (if fld = f then some x else none) : E D) w' _ = _
              rw [if_pos z.2]
              rfl
            unfold eAndV ebind
            rw [a1]
            dsimp only
            unfold eFun eCons ebind
            rw [a2]
            show (match mSame [x, p] with | .ok d => ER.ok d w' | .exc x => .exc x w' | .bad => .bad) = _
            rw [hs]
          unfold bIsBad sseq
          rw [e2]
          dsimp only
          unfold sbind
          rw [e3]
      · rw [if_neg z]
        exact .inl rfl
  · exact .inl rfl
theorem mIsBad_ne (tab : Nat → Nat → Option Bool) (n m : Nat) (fld : Str) (rc : Wo → ER D) (w : Wo) (ds : List D) (y : Xc) (w' : Wo) : mIsBad tab n m fld rc w ds ≠ .exc y w' := by
  unfold mIsBad
  split
  · split
    · split
      · split <;> simp
      · simp
    · simp
  · simp
end DL
set_option Elab.async false
set_option linter.all false
set_option autoImplicit false
set_option maxRecDepth 100000
set_option maxHeartbeats 1000000
/-! DW1: a law's end: its promise as FnG, one table of code objects, what the top says besides. -/
namespace DL
open PySem PySem.Spec PyProof.Rows L2 LamX
theorem law_callG {P : Program} {w : World} {K : PySem.W.Frag} {mg mb : Str → Option Value} {k : Nat} {fa a cc Pt : Addr} {fd : FuncData} {x : Str} {sp : Sp} {s₁ : Shared} {vs : List Value} {ns : List Int}
    (KX : K.In s₁.heap) (hns : s₁.heap.Ns mainGlobals mg) (hb : s₁.heap.Ns builtinsNs mb) (hbb : ∀ x : Str, x ≠ "__name__" → mb x = bootBuiltins x) (hlim : s₁.heap.NoLimit) (hg : s₁.gens = #[])
    (hT : s₁.heap.get? Pt = some { cls := .none, data := .fields #[] }) (nT : K.lookup Pt = none) (hC : PySem.W.CodeHd s₁.heap cc Pt)
    (hbm : ∃ (bm : Addr) (ob : Obj), mg "__builtins__" = some (.ref bm) ∧ bm ≠ builtinsNs ∧ s₁.heap.get? bm = some ob ∧ ob.cls = .type "module" ∧ ob.dict = some builtinsNs ∧ ob.data = .plain)
    (ha : s₁.heap.get? a = some { cls := .type "list", data := .seq vs.toArray }) (hi : IntsAre vs ns) (hl : ns.length ≤ sizeLine) (hr : Room k callerA)
    (F : ∀ base : Heap, K.In base → base.Ns mainGlobals mg → TabB base mg cc Pt → FnG P w K mg base k fa fd [x] sp) (hbind : ∀ (s : Shared) (u : Value), BindsTo s fd ⟨[u], []⟩ [(x, u)])
    (hsp : ∀ H : Hp, H Pt = some (.tbl #[]) → SqL K H a (ns.map V.int) → (∀ b, H b ≠ none → b = a ∨ b = Pt) → (H a ≠ none → ∃ o, H a = some (.frz o (.lst (ns.map V.int)))) → sp [.ref a] H (fun v _ => v = .bl true) fun _ _ _ => False) :
    codeAny (model P w) callerA (.call (.ref fa) ⟨[.ref a], []⟩) (fun r s' => r = .ok (.ret (.bool true)) ∧ OldK s₁.heap s'.heap ∧ s'.os = s₁.os ∧ AllBare s'.gens) s₁ := by
  have rv := vals_ints hi
  have lenV := hi.length
  have aP : a ≠ Pt := fun z => by
    rw [z, hT] at ha
    cases ha
  have core : ∀ H : Hp, H Pt = some (.tbl #[]) → (∀ b, H b ≠ none → b = a ∨ b = Pt) → (H a ≠ none → H a = some (.frz { cls := .type "list", data := .seq vs.toArray } (.lst (ns.map V.int)))) → SqL K H a (ns.map V.int) → HOk P w H s₁.heap → (H a ≠ none → K.lookup a = none) →
      codeAny (model P w) callerA (.call (.ref fa) ⟨[.ref a], []⟩) (fun r s' => r = .ok (.ret (.bool true)) ∧ OldK s₁.heap s'.heap ∧ s'.os = s₁.os ∧ AllBare s'.gens) s₁ := by
    intro H hH hA hFz hS hok hK
    have noD : ∀ {b : Addr} {o : Obj}, s₁.heap.get? b = some o → (∀ vs n, o.data ≠ .seq vs n) → o.data ≠ .fields #[] → H b = none := by
      intro b o e h1 h2
      cases q : H b with
      | none => rfl
      | some u =>
        rcases hA b (by rw [q]; simp) with rfl | rfl
        · rw [ha] at e
          cases e
          exact (h1 _ _ rfl).elim
        · rw [hT] at e
          cases e
          exact (h2 rfl).elim
    have up : ∀ {b : Addr} {o : Obj}, s₁.heap.get? b = some o → H b = none → (hidT s₁.heap H).get? b = some o := fun e n => hidT_get e n
    have nsK : ∀ {b : Addr} {m : Str → Option Value}, s₁.heap.Ns b m → (hidT s₁.heap H).Ns b m := by
      rintro b m ⟨o, es, ep, e, d, r⟩
      exact ⟨o, es, ep, up e (noD e (fun vs n z => by rw [d] at z; cases z) fun z => by rw [d] at z; cases z), d, r⟩
    have hKb : K.In (hidT s₁.heap H) := fun b o e => up (KX b o e) (by
      cases q : H b with
      | none => rfl
      | some u =>
        rcases hA b (by rw [q]; simp) with rfl | rfl
        · rw [hK (by rw [q]; simp)] at e
          cases e
        · rw [nT] at e
          cases e)
    have hM : L2.Mod K mg (hidT s₁.heap H) := ⟨hKb, nsK hns, ⟨mb, nsK hb, hbb⟩, let ⟨mc, h1, h2⟩ := hlim; ⟨mc, nsK h1, h2⟩⟩
    have TB : TabB (hidT s₁.heap H) mg cc Pt := by
      refine ⟨?_, ?_, fun z => ?_⟩
      · obtain ⟨o, us, file, tf, flags, tg, inF, text, tt, e1, r1, r2, r3, r4, r5, r6, r7, r8, hne⟩ := hC
        exact ⟨o, us, file, tf, flags, tg, inF, text, tt, up e1 (noD e1 (fun vs n z => by rw [r2] at z; cases z) fun z => by rw [r2] at z; cases z; simp at r3), r1, r2, r3, r4, r5, r6, r7, r8, hne⟩
      · obtain ⟨bm, ob, b1, b2, b3, b4, b5, b6⟩ := hbm
        refine ⟨bm, ob, b1, b2, fun q => ?_, fun q => ?_, up b3 (noD b3 (fun vs n z => by rw [b6] at z; cases z) fun z => by rw [b6] at z; cases z), b4, b5, b6⟩
        · obtain ⟨o, es, ep, e, hd, _⟩ := hns
          rw [q, e] at b3
          cases b3
          rw [hd] at b6
          cases b6
        · rw [q, hT] at b3
          cases b3
          cases b6
      · obtain ⟨o, es, ep, e, hd, _⟩ := hns
        rw [z, hT] at e
        cases e
        cases hd
    have e0 : Env0 P w K mg (hidT s₁.heap H) callerA [] s₁ H := ⟨rfl, hM, fun b o e => of_hidT e, Nat.le_of_eq (hidT_size _ _), trivial, fun b hb => (nomatch (show b ∈ ([] : List Addr) from hb)), hok, .of_eq hg⟩
    refine codeAny_mono ((F _ hKb (nsK hns) TB).go callerA [] s₁ H ⟨[.ref a], []⟩ [.ref a] [.ref a] _ _ hr rfl e0 (hbind s₁ (.ref a)) (.cons rfl .nil) (hsp H hH hS hA fun z => ⟨_, hFz z⟩)) ?_
    intro r s' h
    rcases r with er | fl
    · obtain ⟨_, _, _, _, _, _, _, _, _, _, _, _, z⟩ := h
      exact z.elim
    · cases fl <;> first | exact False.elim h | skip
      obtain ⟨v, H', os, bare, un, hok', r', q⟩ := h
      have q' : v = .bl true := q
      subst q'
      cases r'
      have key : ∀ b o, b ≠ Pt → s₁.heap.get? b = some o → s'.heap.get? b = some o := by
        intro b o nb e
        cases q : H b with
        | none => exact un.keep b o e q (by show b ∉ ([] : List Addr); simp) (by simp)
        | some u =>
          rcases hA b (by rw [q]; simp) with rfl | z
          · have z := hFz (by rw [q]; simp)
            have e2 := (hok' b _ (un.frzs b _ _ z)).1
            rw [ha] at e
            cases e
            exact e2
          · exact absurd z nb
      obtain ⟨more, hm⟩ : ∃ more : Array Value, s'.heap.get? Pt = some { cls := .none, data := .fields more } := by
        obtain ⟨more, z⟩ := un.tbls Pt #[] hH
        exact ⟨_, hok' Pt _ z⟩
      refine ⟨rfl, ⟨fun b o e => ?_, fun b o e => ?_⟩, os, bare⟩
      · by_cases hb : b = Pt
        · subst hb
          rw [hT] at e
          cases e
          exact .inr (.inl ⟨(hC.tab hT).isCodeTable, rfl, #[], more, rfl, by rw [Array.empty_append]; exact hm⟩)
        · exact .inl (key b o hb e)
      · by_cases hb : b = Pt
        · subst hb
          exact ⟨_, hm⟩
        · exact ⟨o, key b o hb e⟩
  cases hk : K.lookup a with
  | some o =>
    have e := KX a o hk
    rw [ha] at e
    cases e
    refine core (fun b => if b = Pt then some (.tbl #[]) else none) (if_pos rfl) (fun b z => ?_) (fun z => absurd (if_neg aP) z) (.inr ⟨_, vs.toArray, _, hk, rfl, rfl, rfl, by rw [List.size_toArray, lenV]; exact hl, by simpa using rv⟩) (fun b u z => ?_) fun z => absurd (if_neg aP) z
    · skip
      by_cases y : b = Pt
      · exact .inr y
      · exact absurd (if_neg y) z
    · dsimp only at z
      by_cases y : b = Pt
      · rw [if_pos y] at z
        cases z
        subst y
        exact hT
      · rw [if_neg y] at z
        cases z
  | none =>
    refine core (fun b => if b = Pt then some (.tbl #[]) else if b = a then some (.frz { cls := .type "list", data := .seq vs.toArray } (.lst (ns.map V.int))) else none) (if_pos rfl) (fun b z => ?_) (fun _ => by show (if a = Pt then _ else _) = _; rw [if_neg aP, if_pos rfl]) (.inl (.inr ⟨{ cls := .type "list", data := .seq vs.toArray }, by show (if a = Pt then _ else _) = _; rw [if_neg aP, if_pos rfl]⟩)) (fun b u z => ?_) fun _ => hk
    · skip
      by_cases y : b = Pt
      · exact .inr y
      · by_cases y2 : b = a
        · exact .inl y2
        · rw [if_neg y, if_neg y2] at z
          exact absurd rfl z
    · dsimp only at z
      by_cases y : b = Pt
      · rw [if_pos y] at z
        cases z
        subst y
        exact hT
      · rw [if_neg y] at z
        by_cases y2 : b = a
        · rw [if_pos y2] at z
          cases z
          subst y2
          exact ⟨ha, by rw [List.length_map]; exact hl, vs, _, rv, ha⟩
        · rw [if_neg y2] at z
          cases z
theorem walk_ofG {l : PySem.W.OpenLaw} {n k : Nat} {q : Program} {loose : List Str} {XP : (Str → Option Value) → Heap → Prop} {YP : World → Heap → Prop} {d : DefRec} {x : Str}
    (hn : l.most = some n) (hn2 : n ≤ sizeLine) (hdf : d.params.defaults = []) (hr : Room k callerA)
    (F : ∀ (w : World) (mg : Str → Option Value) (fa : Addr) (h : Heap), YP w h → XP mg h → h.Ns mainGlobals mg → mg d.name = some (.ref fa) → ∃ (K : PySem.W.Frag) (fd : FuncData) (cc Pt : Addr) (sp : Sp), K.In h ∧
      h.get? Pt = some { cls := .none, data := .fields #[] } ∧ K.lookup Pt = none ∧ PySem.W.CodeHd h cc Pt ∧ (∀ (s : Shared) (u : Value), BindsTo s fd ⟨[u], []⟩ [(x, u)]) ∧
      (∀ (H : Hp) (a : Addr) (ns : List Int), ns.length ≤ n → (∀ z ∈ ns, Builtin.Int.intBits z ≤ 1048576) → H Pt = some (.tbl #[]) → SqL K H a (ns.map V.int) → (∀ b, H b ≠ none → b = a ∨ b = Pt) → (H a ≠ none → ∃ o, H a = some (.frz o (.lst (ns.map V.int)))) → sp [.ref a] H (fun v _ => v = .bl true) fun _ _ _ => False) ∧
      ∀ base : Heap, K.In base → base.Ns mainGlobals mg → TabB base mg cc Pt → FnG l.prog w K mg base k fa fd [x] sp) :
    PySem.W.WalkO q loose XP YP l.row.toRowW d [] (fun f vs => PySem.call f vs) := by
  refine Att.attach_callB hn hdf fun w s₀ s₁ mg mb fa o pm cd doc a vs ns G Y ho hd hcd hmg hobj hints hlen hbits hg => ?_
  obtain ⟨K, fd, cc, Pt, sp, KX, hT, nT, hC, hb, hsp, hF⟩ := F w mg fa _ Y G.X G.T.g hmg
  exact law_callG KX G.T.g G.T.b G.T.builtins G.T.nolimit hg hT nT hC G.T.bmain hobj hints (Nat.le_trans hlen hn2) hr hF hb fun H hH hS hA hZ => hsp H a ns hlen hbits hH hS hA hZ
end DL
set_option Elab.async false
set_option linter.all false
set_option autoImplicit false
set_option maxRecDepth 100000
set_option maxHeartbeats 1000000
/-! DM1: how mirrors are worked out. -/
namespace DL
open PySem PySem.Spec PyProof.Rows L2
section
variable {g : Tg} {t c : E Bool} {f : E D} {e e1 : En} {w w1 w2 w3 : Wo} {d y : D} {r ys : List D} {b s : S}
theorem compL_nil : compL g t f e [] w = .ok [] w := rfl
theorem compL_tt (hg : g d e = some e1) (ht : t w e1 = .ok true w1) (hf : f w1 e1 = .ok y w2) (hr : compL g t f e r w2 = .ok ys w3) : compL g t f e (d :: r) w = .ok (y :: ys) w3 := by
  unfold compL
  rw [hg]; dsimp only
  rw [ht]; dsimp only
  rw [hf]; dsimp only
  rw [hr]
theorem compL_ff (hg : g d e = some e1) (ht : t w e1 = .ok false w1) : compL g t f e (d :: r) w = compL g t f e r w1 := by
  rw [compL]
  rw [hg]; dsimp only
  rw [ht]
/-- a comprehension without a test whose element is a plain function of the item -/
theorem compL_map {α : Type} {enc : α → D} {h : α → D} (hg : ∀ a, ∃ e1, g (enc a) e = some e1 ∧ t w e1 = .ok true w ∧ f w e1 = .ok (h a) w) : ∀ xs : List α, compL g t f e (xs.map enc) w = .ok (xs.map h) w
  | [] => rfl
  | a :: r => by
    obtain ⟨e1, h1, h2, h3⟩ := hg a
    exact compL_tt h1 h2 h3 (compL_map hg r)
theorem loopS_nil : loopS g b [] w e = .nx e w := rfl
theorem sseq_nx {s2 : S} (h : s w e = .nx e1 w1) : sseq s s2 w e = s2 w1 e1 := by unfold sseq; rw [h]
end
end DL
set_option Elab.async false
set_option linter.all false
set_option autoImplicit false
set_option maxRecDepth 100000
set_option maxHeartbeats 1000000
/-! DW2: the script, the making of the draw, the law's frame. -/
namespace DL
open PySem PySem.Spec PyProof.Rows L2 LamX
theorem walk_sql {κ : Kx} {a : Addr} {xs : List V} {ds : List D} {Hb : Hp} (h : SqL κ.K Hb a xs) (r : RepL κ Hb ds xs) : Walk κ (Itl κ.K a) ds Hb := by
  intro i Hb1 H s1 s2
  have hq : SqL κ.K H a xs := s2.seq (s1.seq h)
  refine ⟨fun d hd => ?_, fun hi => ⟨xs, hq, by rw [r.length]; exact hi⟩⟩
  obtain ⟨x, hx, rx⟩ := r.get hd
  refine ⟨⟨xs, x, hq, hx⟩, fun y H' hy => ?_⟩
  obtain ⟨rfl, hy⟩ := hy
  have := hy xs hq
  rw [hx] at this
  cases this
  exact ⟨Hb1, Gr.id s2, rx.mono s1⟩
/-- the script's items, its length -/
def eScr (i : Nat) (as : Addr) (ns : List Int) : E (List D) := fun w e => match e[i]? with
  | some (.dat (.raw v)) => if v = .ref as then .ok (ns.map D.int) w else .bad
  | _ => .bad
def eScrLen (i : Nat) (as : Addr) (ns : List Int) : E D := fun w e => match e[i]? with
  | some (.dat (.raw v)) => if v = .ref as then .ok (.int ns.length) w else .bad
  | _ => .bad
section
variable {X : Cx} {C : Ct} {as : Addr} {ns : List Int} {x : Str} {p p1 pos : Pos} {tg : Expr}
theorem di_scr (i : Nat) (h : SqL C.κ.K C.Hb0 as (ns.map V.int)) (hN : X.N[i]? = some x := by rfl) (hv : Vis X.env.scope x := by first | exact Or.inl rfl | exact Or.inr (Or.inl rfl) | exact Or.inr (Or.inr rfl)) (hd : (x == ("__debug__" : Str)) = false := by decide)
    (hcd : (x == ("__classdict__" : Str)) = false := by decide) : DI X C tg (.Name x p) (eScr i as ns) := fun hK => PI.imp (pi_seq (pe_var (i := i) hN hv hd hcd)) fun σ H Q ⟨w, env, Hb, r, p⟩ => by
  unfold eScr at p
  cases e : env[i]? with
  | none => rw [e] at p; exact p.elim
  | some s =>
    rw [e] at p
    cases s with
    | un => exact p.elim
    | own ds => exact p.elim
    | dat x =>
      cases x <;> first | exact p.elim | skip
      rename_i v
      dsimp only at p
      by_cases z : v = .ref as
      · rw [if_pos z] at p
        subst z
        obtain ⟨u, e1, e2⟩ := r.env.dat i _ e
        cases e2
        have hs : SqL C.κ.K Hb as _ := r.gr.b.seq h
        exact ⟨_, e1, as, rfl, .inl ⟨_, hK ▸ r.same.seq hs, hK ▸ p Hb H _ (Gr.refl r.same) r (walk_sql hs (map_int_rep ns))⟩⟩
      · rw [if_neg z] at p; exact p.elim
theorem de_scrLen (i : Nat) (h : SqL C.κ.K C.Hb0 as (ns.map V.int)) (hm : X.mg "len" = none) (hN : X.N[i]? = some x := by rfl) (hv : Vis X.env.scope x := by first | exact Or.inl rfl | exact Or.inr (Or.inl rfl) | exact Or.inr (Or.inr rfl)) (hd : (x == ("__debug__" : Str)) = false := by decide)
    (hcd : (x == ("__classdict__" : Str)) = false := by decide) (hg : Gl X "len" := by rfl) (he : starEach [.Name x p1] X.env = (false, eval (.Name x p1) X.env) :: starEach [] X.env := by rfl) (hpl : (backTo pos (starEach [] X.env)).any (·.1) = false := by rfl) :
    DE X C (.Call (.Name "len" p) [.Name x p1] [] pos) (eScrLen i as ns) := fun hK => PE.imp (pe_callB call_len_seq hg hm boot_len (pa_cons (pe_var (i := i) hN hv hd hcd) pa_nil he) (by decide) (by decide) he hpl) fun σ H Q ⟨w, env, Hb, r, p⟩ => by
  unfold eScrLen at p
  cases e : env[i]? with
  | none => rw [e] at p; exact p.elim
  | some s =>
    rw [e] at p
    cases s with
    | un => exact p.elim
    | own ds => exact p.elim
    | dat x =>
      cases x <;> first | exact p.elim | skip
      rename_i v
      dsimp only at p
      by_cases z : v = .ref as
      · rw [if_pos z] at p
        subst z
        obtain ⟨u, e1, e2⟩ := r.env.dat i _ e
        cases e2
        have hs : SqL C.κ.K Hb as _ := r.gr.b.seq h
        refine ⟨_, e1, as, ns.map V.int, rfl, .inl (hK ▸ r.same.seq hs), ?_⟩
        rw [List.length_map]
        exact Post.fin (R := RD C) r p (Gr.id r.same) .int
      · rw [if_neg z] at p; exact p.elim
end

/-! ### the draw as it begins -/
def absI (i : Int) : Int := if i < 0 then -i else i
def large0 (ns : List Int) : List Int := (ns.filter fun i => decide (1000000000000000000 ≤ absI i)).map fun i => absI i - 1000000000000000000
def cells0 (ns : List Int) : List Int := ns.map absI
def dr0 (ns : List Int) : Dr := ⟨large0 ns, cells0 ns, 0, 0⟩
def spBegun (K : PySem.W.Frag) : Sp := fun vs H Q _ => ∃ (as : Addr) (ns : List Int), vs = [.ref as] ∧ SqL K H as (ns.map V.int) ∧ ns.length ≤ 63 ∧
  ∀ (H' : Hp) (a L Cc : Addr), Same H H' → H a = none → H L = none → H Cc = none → a ≠ L → Cc ≠ a → Cc ≠ L → H' a = some (.dK (drK L Cc (dr0 ns))) → H' L = some (.lst ((large0 ns).map V.int)) → H' Cc = some (.lst ((cells0 ns).map V.int)) → Q (.ref a) H'
/-- large = [abs(cell) - 10 ** 18 for cell in script if abs(cell) >= 10 ** 18] -/
def eLarge0 (as : Addr) (ns : List Int) : E (List D) := compE [2] (eScr 0 as ns) (tgN 2) (eB (eop2 dGe (eCall gAbs (eCons (eVarV 2) eNil)) (eop2 dPow (eC (.int 10)) (eC (.int 18))))) (eop2 dSub (eCall gAbs (eCons (eVarV 2) eNil)) (eop2 dPow (eC (.int 10)) (eC (.int 18))))
def eCells0 (as : Addr) (ns : List Int) : E (List D) := compE [2] (eScr 0 as ns) (tgN 2) (epure true) (eCall gAbs (eCons (eVarV 2) eNil))
theorem large0_val (as : Addr) (ns : List Int) (h : ns.length ≤ 16777216) (x : Sl) : eLarge0 as ns none [.dat (.raw (.ref as)), x, .un] = .ok ((large0 ns).map D.int) none := by
  have key : ∀ ns : List Int, compL (tgN 2) (eB (eop2 dGe (eCall gAbs (eCons (eVarV 2) eNil)) (eop2 dPow (eC (.int 10)) (eC (.int 18))))) (eop2 dSub (eCall gAbs (eCons (eVarV 2) eNil)) (eop2 dPow (eC (.int 10)) (eC (.int 18)))) [.dat (.raw (.ref as)), x, .un] (ns.map D.int) none = .ok ((large0 ns).map D.int) none := by
    intro ns
    induction ns with
    | nil => rfl
    | cons i r ih =>
      rw [List.map_cons]
      have hp : powFits 10 18 = true := by decide +kernel
      have e1 : eB (eop2 dGe (eCall gAbs (eCons (eVarV 2) eNil)) (eop2 dPow (eC (.int 10)) (eC (.int 18)))) none [.dat (.raw (.ref as)), x, .dat (.int i)] = .ok (decide (1000000000000000000 ≤ absI i)) none := by
        simp only [eB, eop2, ebind, eCall, eCons, eNil, eVarV, eC, epure, eopt, gAbs, dPow, hp, dGe, asB, List.getElem?_cons_zero, List.getElem?_cons_succ, if_true]
        rfl
      have e2 : eop2 dSub (eCall gAbs (eCons (eVarV 2) eNil)) (eop2 dPow (eC (.int 10)) (eC (.int 18))) none [.dat (.raw (.ref as)), x, .dat (.int i)] = .ok (.int (absI i - 1000000000000000000)) none := by
        simp only [eB, eop2, ebind, eCall, eCons, eNil, eVarV, eC, epure, eopt, gAbs, dPow, hp, dSub, asB, List.getElem?_cons_zero, List.getElem?_cons_succ, if_true]
        rfl
      by_cases z : 1000000000000000000 ≤ absI i
      · have e : large0 (i :: r) = (absI i - 1000000000000000000) :: large0 r := by
          unfold large0
          rw [List.filter_cons_of_pos (by simpa using z), List.map_cons]
        rw [decide_eq_true z] at e1
        rw [e]
        exact compL_tt rfl e1 e2 ih
      · have e : large0 (i :: r) = large0 r := by
          unfold large0
          rw [List.filter_cons_of_neg (by simpa using z)]
        rw [decide_eq_false z] at e1
        rw [e, compL_ff rfl e1]
        exact ih
  unfold eLarge0 compE ebind
  have e1 : eScr 0 as ns none [.dat (.raw (.ref as)), x, .un] = .ok (ns.map D.int) none := by
    show (if V.ref as = .ref as then _ else _) = _
    rw [if_pos rfl]
  rw [e1]
  dsimp only
  rw [List.length_map, if_pos h]
  exact key ns
theorem cells0_val (as : Addr) (ns : List Int) (h : ns.length ≤ 16777216) (x : Sl) : eCells0 as ns none [.dat (.raw (.ref as)), x, .un] = .ok ((cells0 ns).map D.int) none := by
  have key : ∀ ns : List Int, compL (tgN 2) (epure true) (eCall gAbs (eCons (eVarV 2) eNil)) [.dat (.raw (.ref as)), x, .un] (ns.map D.int) none = .ok ((cells0 ns).map D.int) none := by
    intro ns
    induction ns with
    | nil => rfl
    | cons i r ih =>
      rw [List.map_cons]
      have e1 : eCall gAbs (eCons (eVarV 2) eNil) none [.dat (.raw (.ref as)), x, .dat (.int i)] = .ok (.int (absI i)) none := by
        simp only [ebind, eCall, eCons, eNil, eVarV, epure, eopt, gAbs, List.getElem?_cons_zero, List.getElem?_cons_succ]
        rfl
      exact compL_tt rfl rfl e1 ih
  unfold eCells0 compE ebind
  have e1 : eScr 0 as ns none [.dat (.raw (.ref as)), x, .un] = .ok (ns.map D.int) none := by
    show (if V.ref as = .ref as then _ else _) = _
    rw [if_pos rfl]
  rw [e1]
  dsimp only
  rw [List.length_map, if_pos h]
  exact key ns
theorem repL_ints {κ : Kx} {Hb : Hp} : ∀ {ns : List Int} {xs : List V}, RepL κ Hb (ns.map D.int) xs → xs = ns.map V.int
  | [], _, r => by cases r; rfl
  | i :: ns, _, r => by
    cases r with
    | cons h t =>
      cases h
      rw [repL_ints t]
      rfl
end DL
set_option Elab.async false
set_option linter.all false
set_option autoImplicit false
set_option maxRecDepth 100000
set_option maxHeartbeats 1000000
/-! DW3: _law_begun, the law's frame. -/
namespace DL
open PySem PySem.Spec PyProof.Rows L2 LamX
section
variable {P : Program} {w : World} {K : PySem.W.Frag} {mg : Str → Option Value} {base : Heap} {cl : Nat → Addr}
/-- the names script, large, cell -/
theorem fn_begun {st : Stmt} {f : Addr} {fd : FuncData} {N : List Str} {e1 k1 k2 k3 k4 v1 v2 v3 v4 : Expr} {p1 p2 p3 p4 : Pos} (F : Fun K "_law_begun" "_law_begun" st f fd) (S : FnScope N ["script"] (defScope st)) (hN : N.length = 3)
    (hst : defBody st = [.Assign [.Name "large" p1] e1 p2, .Return (some (.Dict [some k1, some k2, some k3, some k4] [v1, v2, v3, v4] p3)) p4])
    (h1 : ∀ (cdv : Value) (A : Around) (up : List Env) (s : Shared) (H : Hp) (W : XK) (C : Ct) (as : Addr) (ns : List Int), Bd cl 1 (cxOf (L2.CX P w) P w K mg base N "_law_begun" (defScope st) f cdv A up s H W) C → SqL C.κ.K C.Hb0 as (ns.map V.int) →
      DS (cxOf (L2.CX P w) P w K mg base N "_law_begun" (defScope st) f cdv A up s H W) C (.Assign [.Name "large" p1] e1 p2) (setS 1 (eOwn (eLarge0 as ns))) ∧
      DO (cxOf (L2.CX P w) P w K mg base N "_law_begun" (defScope st) f cdv A up s H W) C v2 (eCells0 as ns))
    (h2 : ∀ (cdv : Value) (A : Around) (up : List Env) (s : Shared) (H : Hp) (W : XK), let X := (cxOf (L2.CX P w) P w K mg base N "_law_begun" (defScope st) f cdv A up s H W);
      PE X k1 (tC (.str "large")) ∧ PE X v1 (tVar 1) ∧ PE X k2 (tC (.str "cells")) ∧ PE X k3 (tC (.str "rest")) ∧ PE X v3 (tC (.int 0)) ∧ PE X k4 (tC (.str "turn")) ∧ PE X v4 (tC (.int 0))) :
    FnG P w K mg base 2 f fd ["script"] (spBegun K) := by
  refine FnG.of F S ?_ ?_
  · rintro vs H Q W ⟨as, ns, rfl, _⟩
    rfl
  · rintro cdv A up s H vs Q W hr hgd ⟨as, ns, rfl, hS, hl, hq⟩
    obtain ⟨g1, g2, g3, g4, g5, g6, g7⟩ := h2 cdv A up s H W
    have hC := h1 cdv A up s H W ⟨⟨K, .non, cl⟩, Gam.no, H, H, fun cls d _ H => W cls d H⟩ as ns ⟨rfl, hr, hgd, takes_of rfl rfl rfl rfl, passes_of rfl⟩ hS
    rw [hst]
    refine ⟨_, pss_cons (hC.1 rfl) (pss_one (ps_ret (pe_disp (pps_cons g1 g2 (pps_cons g3 (hC.2 rfl) (pps_cons g4 g5 (pps_cons g6 g7 pps_nil)))) rfl rfl (by simp) (by simp)))), ?_⟩
    have hst0 : start N [V.ref as] = [some (.ref as), none, none] := by
      match N, hN with
      | [_, _, _], _ => rfl
    have r0 : Rel ⟨⟨K, .non, cl⟩, Gam.no, H, H, fun cls d _ H => W cls d H⟩ none [.dat (.raw (.ref as)), .un, .un] H H (start N [V.ref as]) := by
      refine ⟨Gr.refl (Same.refl _), trivial, ?_⟩
      have e := envRel_start (κ := ⟨K, .non, cl⟩) (fp := fun _ => False) (H0 := H) (Hb := H) (H := H) (N := N) (vs := [V.ref as]) (ds := [.raw (.ref as)]) (.cons .raw .nil)
      have e2 : [D.raw (V.ref as)].map Sl.dat ++ List.replicate (N.length - [D.raw (V.ref as)].length) Sl.un = [.dat (.raw (.ref as)), .un, .un] := by
        rw [hN]; rfl
      rw [e2] at e
      exact e
    refine ⟨none, _, H, r0, ?_⟩
    have v1 : setS 1 (eOwn (eLarge0 as ns)) none [.dat (.raw (.ref as)), .un, .un] = .nx [.dat (.raw (.ref as)), .own ((large0 ns).map D.int), .un] none := by
      unfold setS eOwn ebind
      rw [large0_val as ns (by omega)]
      rfl
    rw [v1]
    intro Hb1 H1 σ1 s1 r1
    intro p hp
    obtain ⟨L, xs, q1, q2, q3, q4, q5, q6⟩ := r1.env.own 1 _ rfl
    have xs1 := repL_ints q3
    subst xs1
    refine ⟨_, q1, ?_⟩
    have r2 := r1.grow (Gr.alloc0 (o := .dK []) r1.same hp)
    refine ⟨none, _, Hb1, r2, ?_⟩
    rw [cells0_val as ns (by omega)]
    intro Hb2 H2 Cc ys g r3 c1 c2 c3 c4
    have ys1 := repL_ints c3
    subst ys1
    have hz : ∀ b o, upd H1 p (.dK []) b = some o → H2 b = some o := fun b o e => g.h b o e fun z => z
    have np : ∀ b o, H1 b = some o → b ≠ p := fun b o e z => by rw [z, hp] at e; cases e
    refine ⟨hz _ _ upd_same, [(.inr "large", .ref L), (.inr "cells", .ref Cc), (.inr "rest", .int 0), (.inr "turn", .int 0)], rfl, by simp, ?_⟩
    have cp : Cc ≠ p := fun z => by rw [z, upd_same] at c1; cases c1
    have cL : Cc ≠ L := fun z => by rw [z, upd_ne (np _ _ q2), q2] at c1; cases c1
    have HH : ∀ b o, H b = some o → H1 b = some o := fun b o e => r1.gr.h b o e fun z => z
    refine hq _ p L Cc (fun b o e => ?_) ?_ q5 ?_ (Ne.symm (np _ _ q2)) cp cL upd_same ?_ ?_
    · have e1 := HH b o e
      rw [upd_ne (np _ _ e1)]
      exact hz _ _ (by rw [upd_ne (np _ _ e1)]; exact e1)
    · cases e : H p with
      | none => rfl
      | some o => rw [HH _ _ e] at hp; cases hp
    · cases e : H Cc with
      | none => rfl
      | some o =>
        have e1 := HH _ _ e
        rw [upd_ne (np _ _ e1), e1] at c1
        cases c1
    · rw [upd_ne (np _ _ q2)]
      exact hz _ _ (by rw [upd_ne (np _ _ q2)]; exact q2)
    · rw [upd_ne cp]
      exact c2
end
end DL
set_option Elab.async false
set_option linter.all false
set_option autoImplicit false
set_option maxRecDepth 100000
set_option maxHeartbeats 1000000
/-! DW4: the law's frame. -/
namespace DL
open PySem PySem.Spec PyProof.Rows L2 LamX
section
variable {P : Program} {w : World} {K : PySem.W.Frag} {mg : Str → Option Value} {base : Heap} {cl : Nat → Addr}
/-- FnG.of, the code object told -/
theorem FnG.ofC {x qual : Str} {st : Stmt} {f : Addr} {N ps : List Str} {k : Nat} {sp : Sp} {oc : Value} {od an : Option Addr} {osl : Array (Option Value)} {kV doc pm cdv ct : Value}
    (lk : K.lookup f = some ⟨oc, od, .func (PySem.W.fnOf x qual (defArgs st) (defBody st) (defScope st) .none kV doc pm an cdv ct), osl⟩) (hcd : PySem.W.codeIn K cdv qual = true) (S : FnScope N ps (defScope st)) (len : ∀ vs H Q W, sp vs H Q W → vs.length = ps.length)
    (hbody : ∀ (A : Around) (up : List Env) (s : Shared) (H : Hp) (vs : List V) (Q : VK) (W : XK), Room k (A.deeper (envOfC qual (defScope st) s.heap.objs.size f cdv)) → (A.deeper (envOfC qual (defScope st) s.heap.objs.size f cdv)).guards = some [] → sp vs H Q W →
      ∃ t, PSs (cxOf (L2.CX P w) P w K mg base N qual (defScope st) f cdv A up s H W) (defBody st) t ∧ t { nx := fun _ H' => Q .non H', rt := Q } (start N vs) H) : FnG P w K mg base (k + 1) f (PySem.W.fnOf x qual (defArgs st) (defBody st) (defScope st) .none kV doc pm an cdv ct) ps sp := by
  constructor
  · exact len
  intro A up s H ar us vs Q W hr hgd e0 hb rv hsp
  have KX : K.In s.heap := e0.mod.kin.keeps fun b o e => (e0.bs b o e).1
  have lim := e0.mod.nolimit.keeps (h' := s.heap) fun b o e => (e0.bs b o e).1
  refine codeAny_call_function hr.depth (KX _ _ lk) rfl S.co S.gen rfl (PySem.W.codeRec_of KX hcd) (hb _ _ _ _ ?_)
  refine wpAny_newFunctionEnv_cells S.kind ?_ ?_
  · rintro ⟨n, v⟩ hy
    rcases S.par n (List.of_mem_zip hy).1 with q | q
    · exact .inl q
    · exact .inr ⟨q, PySem.W.cellsFrom_some _ _ _ (.inl q)⟩
  intro env he s1 hx
  subst he
  refine ⟨lim.keeps hx.toInCall.keep, codeAny_func ?_⟩
  obtain ⟨t, ht, hq⟩ := hbody A up s H vs Q W (hr.deeper _) hgd hsp
  have I := inv_start (CX := L2.CX P w) (E := W) S hr.hd e0 (len _ _ _ _ hsp) rv hx
  refine wpAny_mono (ht.run [] s1 (start N vs) H _ I hq) ?_ (fun _ _ z => z)
  intro fl s' hs
  cases fl with
  | next =>
    obtain ⟨σ', H', J, q⟩ := hs
    exact ⟨.non, H', J.os, J.bare, J.base, J.hok, rfl, q⟩
  | ret u =>
    obtain ⟨v, σ', H', J, rv', q⟩ := hs
    exact ⟨v, H', J.os, J.bare, J.base, J.hok, rv', q⟩
  | brk => obtain ⟨_, _, _, q⟩ := hs; exact q.elim
  | cont => obtain ⟨_, _, _, q⟩ := hs; exact q.elim
/-- what is asked of the law -/
def spLaw (K : PySem.W.Frag) (Pt : Addr) : Sp := fun vs H Q _ => ∃ (as : Addr) (ns : List Int), vs = [.ref as] ∧ SqL K H as (ns.map V.int) ∧ ns.length ≤ 63 ∧ (∀ z ∈ ns, Builtin.Int.intBits z ≤ 1048576) ∧ H Pt = some (.tbl #[]) ∧ as ≠ Pt ∧ ∀ H', Q (.bl true) H'
theorem law_fn {st : Stmt} {f fB : Addr} {fdB : FuncData} {N : List Str} {k : Nat} {cc Pt : Addr} {oc : Value} {od an : Option Addr} {osl : Array (Option Value)} {kV doc pm ct : Value} {p1 p2 p3 p4 p5 : Pos} {rest : List Stmt} {m : Addr → List Int → S}
    (lk : K.lookup f = some ⟨oc, od, .func (PySem.W.fnOf "law" "law" (defArgs st) (defBody st) (defScope st) .none kV doc pm an (.ref cc) ct), osl⟩) (hcd : PySem.W.codeIn K (.ref cc) "law" = true) (S : FnScope N ["script"] (defScope st))
    (FB : FnG P w K mg base 2 fB fdB ["script"] (spBegun K)) (hmB : mg "_law_begun" = some (.ref fB)) (hkB : PySem.W.keepIn K (.ref fB) = true) (hbB : Binds K fdB ["script"] []) (hk : 2 ≤ k)
    (hst : defBody st = .Assign [.Name "draw" p1] (.Call (.Name "_law_begun" p2) [.Name "script" p3] [] p4) p5 :: rest)
    (h0 : N[0]? = some ("script" : Str)) (h1 : N[1]? = some ("draw" : Str))
    (hx : ∀ (A : Around) (up : List Env) (s : Shared) (H : Hp) (W : XK), let X := (cxOf (L2.CX P w) P w K mg base N "law" (defScope st) f (.ref cc) A up s H W);
      Vis X.env.scope "script" ∧ Loc X.env.scope "draw" ∧ Gl X "_law_begun" ∧ swapsWith (.Call (.Name "_law_begun" p2) [.Name "script" p3] [] p4) (some (.Name "draw" p1)) p5.line X.env = pure false ∧ starEach [.Name "script" p3] X.env = (false, eval (.Name "script" p3) X.env) :: starEach [] X.env ∧ (backTo p4 (starEach [] X.env)).any (·.1) = false)
    (hbody : ∀ (A : Around) (up : List Env) (s : Shared) (H : Hp) (W : XK) (C : Ct) (a L Cc as : Addr) (cs ns : List Int), Bd cl k (cxOf (L2.CX P w) P w K mg base N "law" (defScope st) f (.ref cc) A up s H W) C →
      LawC C a L Cc cs Pt "law.<locals>.<lambda>" → SqL C.κ.K C.Hb0 as (ns.map V.int) → DB (cxOf (L2.CX P w) P w K mg base N "law" (defScope st) f (.ref cc) A up s H W) C rest (m as ns))
    (hm : ∀ as ns, ns.length ≤ 63 → (∀ z ∈ ns, Builtin.Int.intBits z ≤ 1048576) → ∃ w', m as ns (some (dr0 ns)) (.dat (.raw (.ref as)) :: .dat .drw :: List.replicate (N.length - 2) .un) = .rt (.bl true) w') :
    FnG P w K mg base (k + 1) f (PySem.W.fnOf "law" "law" (defArgs st) (defBody st) (defScope st) .none kV doc pm an (.ref cc) ct) ["script"] (spLaw K Pt) := by
  refine FnG.ofC lk hcd S ?_ ?_
  · rintro vs H Q W ⟨as, ns, rfl, _⟩
    rfl
  rintro A up s H vs Q W hr hgd ⟨as, ns, rfl, hS, hl, hbits, hT, hne, hq⟩
  obtain ⟨x1, x2, x3, x4, x5, x6⟩ := hx A up s H W
  rw [hst]
  have hl2 : 2 ≤ N.length := by
    rcases Nat.lt_or_ge 1 N.length with z | z
    · exact z
    · rw [List.getElem?_eq_none z] at h1; cases h1
  refine ⟨_, pss_cons (ps_set (i := 1) S.nd h1 x2 (pe_callG (W := fun _ _ _ _ => False) FB (hr.mono hk) hgd x3 hmB hkB hbB (fun σ pins H s e s' I hx => by
      obtain ⟨_, _, _, _, _, _, _, _, _, _, _, _, z⟩ := hx
      exact z.elim) (pa_cons (pe_var (i := 0) h0 x1 (by decide) (by decide)) pa_nil x5) (by decide) x5 x6) x4)
    (⟨fun pins s σ H D I q => ?_⟩ : PSs _ rest fun D σ H2 => ∃ (C : Ct) (a L Cc : Addr), C.κ = ⟨K, .ref a, cl⟩ ∧ Bd cl k (cxOf (L2.CX P w) P w K mg base N "law" (defScope st) f (.ref cc) A up s H W) C ∧ LawC C a L Cc (cells0 ns) Pt "law.<locals>.<lambda>" ∧ SqL C.κ.K C.Hb0 as (ns.map V.int) ∧ liftS C (m as ns) D σ H2), ?_⟩
  · obtain ⟨C, a, L, Cc, hκ, B, LC, hs, q⟩ := q
    exact (hbody A up _ _ W C a L Cc as (cells0 ns) ns B LC hs (by rw [hκ]; rfl)).run pins s σ H D I q
  · have hst0 : (start N [V.ref as])[0]? = some (some (.ref as)) := by
      unfold L2.start
      rfl
    refine ⟨_, hst0, as, ns, rfl, hS, hl, ?_⟩
    intro H1 a L Cc sm na nL nC haL hCa hCL ea eL eC
    obtain ⟨Hb, hHb⟩ : ∃ Hb : Hp, Hb = fun b => if b = Cc then H1 Cc else if b = as then H as else none := ⟨_, rfl⟩
    have nP : ∀ b, H b = none → b ≠ Pt := fun b e z => by rw [z, hT] at e; cases e
    have hsH : Same Hb H1 := fun b o e => by
      rw [hHb] at e
      dsimp only at e
      by_cases z : b = Cc
      · rw [if_pos z] at e; rw [z]; exact e
      · rw [if_neg z] at e
        by_cases z2 : b = as
        · rw [if_pos z2] at e; rw [z2]; exact sm _ _ e
        · rw [if_neg z2] at e; cases e
    have hHas : ∀ b, H b = none → b ≠ Cc → Hb b = none := fun b e n => by
      rw [hHb]
      dsimp only
      rw [if_neg n]
      by_cases z2 : b = as
      · rw [if_pos z2, ← z2]; exact e
      · rw [if_neg z2]
    have hbP : Hb Pt = none := by
      rw [hHb]
      dsimp only
      rw [if_neg (Ne.symm (nP _ nC)), if_neg (Ne.symm hne)]
    have hbCc : Hb Cc = some (.lst ((cells0 ns).map V.int)) := by
      rw [hHb]
      dsimp only
      rw [if_pos rfl]
      exact eC
    have sqb : SqL K Hb as (ns.map V.int) := by
      have hv : Hb as = H as ∨ H as = none := by
        by_cases z : as = Cc
        · right; rw [z]; exact nC
        · left
          rw [hHb]
          dsimp only
          rw [if_neg z, if_pos rfl]
      rcases hS with (h | ⟨o, h⟩) | h
      · rcases hv with z | z
        · exact .inl (.inl (z.trans h))
        · rw [z] at h; cases h
      · rcases hv with z | z
        · exact .inl (.inr ⟨o, z.trans h⟩)
        · rw [z] at h; cases h
      · exact .inr h
    have okG : (GamT a L Cc (cells0 ns) Pt "law.<locals>.<lambda>").ok (some (dr0 ns)) H1 :=
      ⟨⟨rfl, haL, ea, eL⟩, .nil (sm _ _ hT)⟩
    refine ⟨⟨⟨K, .ref a, cl⟩, GamT a L Cc (cells0 ns) Pt "law.<locals>.<lambda>", Hb, H1, fun cls d _ H => W cls d H⟩, a, L, Cc, rfl, ⟨rfl, hr, hgd, takes_of rfl rfl rfl rfl, passes_of rfl⟩, ⟨rfl, rfl, ?_, hbCc⟩, sqb, some (dr0 ns), .dat (.raw (.ref as)) :: .dat .drw :: List.replicate (N.length - 2) .un, Hb, ⟨Gr.refl hsH, okG, ?_⟩, ?_⟩
    · rintro b ((rfl | rfl) | rfl)
      · exact ⟨hHas _ na (Ne.symm hCa), by show H1 _ ≠ none; rw [ea]; simp⟩
      · exact ⟨hHas _ nL (Ne.symm hCL), by show H1 _ ≠ none; rw [eL]; simp⟩
      · exact ⟨hbP, by show H1 _ ≠ none; rw [sm _ _ hT]; simp⟩
    · have e := envRel_start (κ := ⟨K, .ref a, cl⟩) (fp := (GamT a L Cc (cells0 ns) Pt "law.<locals>.<lambda>").fp) (H0 := H1) (Hb := Hb) (H := H1) (N := N) (vs := [V.ref as, V.ref a]) (ds := [.raw (.ref as), .drw]) (.cons .raw (.cons .drw .nil))
      have e1 : (start N [V.ref as]).set 1 (some (.ref a)) = start N [V.ref as, V.ref a] := by
        match N, hl2 with
        | _ :: _ :: r, _ =>
          unfold L2.start
          simp [List.replicate_succ]
      rw [e1]
      exact e
    · obtain ⟨w', h⟩ := hm as ns hl hbits
      rw [h]
      intro Hb' H' v g ok rd
      cases rd
      exact hq H'
end
end DL
set_option Elab.async false
set_option linter.all false
set_option autoImplicit false
set_option maxRecDepth 100000
set_option maxHeartbeats 1000000
/-! DW5: what the program's top gives. -/
namespace DL
open PySem PySem.Spec PyProof.Rows L2 LamX
/-- a def of the top -/
structure InKd (K : PySem.W.Frag) (x : Str) (st : Stmt) (f : Addr) : Prop where
  a : PySem.W.nsIn K mainGlobals x = some (some (.ref f))
  F : ∃ fd, Fun K x x st f fd
theorem inKd_mk {K : PySem.W.Frag} {x : Str} {st : Stmt} {f : Addr} {oc : Value} {od an : Option Addr} {osl : Array (Option Value)} {kV doc pm cd ct : Value} (a : PySem.W.nsIn K mainGlobals x = some (some (.ref f)))
    (l : K.lookup f = some ⟨oc, od, .func (PySem.W.fnOf x x (defArgs st) (defBody st) (defScope st) .none kV doc pm an cd ct), osl⟩) (c : PySem.W.codeIn K cd x = true) (k : PySem.W.keepIn K (.ref f) = true) : InKd K x st f := ⟨a, _, fun_mk l c k⟩

/-! ### the own exception classes: Cs by number, D above them all -/
abbrev clOf (Cs : List Addr) (D : Addr) : Nat → Addr := fun n => Cs.getD n D
def tabL (ps : List Nat) (n m : Nat) : Option Bool := if ps.contains n && ps.contains m then some (decide (n = m)) else none
def clsOk (K : PySem.W.Frag) (fl : Str) (D C : Addr) : Bool :=
  decide (PySem.W.findIn K (.ref C) "__getattribute__" = some (some (.builtin "BaseException.__getattribute__"))) && decide (PySem.W.findIn K (.ref C) "__getattr__" = some none) &&
  decide (PySem.W.subIn K (.ref C) (.type "BaseException") = some true) && PySem.W.hasDictIn K C && decide (PySem.W.findIn K (.ref C) fl = some none) && decide (PySem.W.exmOne K (.ref C) (.ref D) = some true) &&
  PySem.W.keepIn K (.ref C) && decide (PySem.W.typeIn K (.ref C) = some (.type "type")) && decide (PySem.W.findIn K (.ref C) "__class__" = some (some (.builtin "object.__class__"))) &&
  decide (PySem.W.mroIn K C (.type "object") = some true) && decide (PySem.W.kitOne K (.type "NoneType") (.ref C) = some false)
def clsAll (K : PySem.W.Frag) (fl : Str) (ps : List Nat) (D : Addr) (Cs : List Addr) : Bool :=
  (D :: Cs).all (clsOk K fl D) && decide (PySem.W.specialIn K (.builtin "object.__class__") "__get__" = some (some (.builtin "getset_descriptor.__get__"))) && decide (PySem.W.takesIn K (.builtin "object.__class__") = some true) &&
  ps.all fun i => ps.all fun j => decide (PySem.W.kitOne K (.ref (Cs.getD i D)) (.ref (Cs.getD j D)) = some (decide (i = j)))
section
variable {K : PySem.W.Frag} {fl : Str} {ps : List Nat} {D : Addr} {Cs : List Addr}
theorem clsAll_ok (h : clsAll K fl ps D Cs = true) (n : Nat) : clsOk K fl D (clOf Cs D n) = true := by
  unfold clsAll at h
  simp only [Bool.and_eq_true, List.all_eq_true] at h
  refine h.1.1.1 _ ?_
  show Cs.getD n D ∈ D :: Cs
  rw [List.getD_eq_getElem?_getD]
  cases e : Cs[n]? with
  | none => exact List.mem_cons_self
  | some c => exact List.mem_cons_of_mem _ (List.mem_of_getElem? e)
theorem clsAll_exm (h : clsAll K fl ps D Cs = true) (n : Nat) : PySem.W.exmOne K (.ref (clOf Cs D n)) (.ref D) = some true := by
  have q := clsAll_ok h n
  unfold clsOk at q
  simp only [Bool.and_eq_true, decide_eq_true_eq] at q
  exact q.1.1.1.1.1.2
theorem clsAll_fld (h : clsAll K fl ps D Cs = true) : FldX K (clOf Cs D) fl := by
  refine ⟨fun n => ?_, fun n => ?_⟩ <;>
  · have q := clsAll_ok h n
    unfold clsOk at q
    simp only [Bool.and_eq_true, decide_eq_true_eq] at q
    obtain ⟨⟨⟨⟨⟨⟨⟨⟨⟨⟨a1, a2⟩, a3⟩, a4⟩, a5⟩, a6⟩, a7⟩, a8⟩, a9⟩, a10⟩, a11⟩ := q
    first | exact ⟨a1, a2, a3, a4⟩ | exact a5
theorem clsAll_tab (h : clsAll K fl ps D Cs = true) : TabX K (clOf Cs D) (tabL ps) := by
  have hh := h
  unfold clsAll at hh
  simp only [Bool.and_eq_true, decide_eq_true_eq] at hh
  obtain ⟨⟨⟨_, b1⟩, b2⟩, b3⟩ := hh
  refine ⟨fun n m b e => ?_, fun n m b e => ?_, fun m b e => ?_⟩
  · have q := clsAll_ok h n
    unfold clsOk at q
    simp only [Bool.and_eq_true, decide_eq_true_eq] at q
    obtain ⟨⟨⟨⟨⟨⟨⟨⟨⟨⟨a1, a2⟩, a3⟩, a4⟩, a5⟩, a6⟩, a7⟩, a8⟩, a9⟩, a10⟩, a11⟩ := q
    exact ⟨a1, a2, a3, a4, a9, b1, b2, a10⟩
  · unfold tabL at e
    by_cases z : (ps.contains n && ps.contains m) = true
    · rw [if_pos z] at e
      cases e
      simp only [List.all_eq_true, decide_eq_true_eq] at b3
      simp only [Bool.and_eq_true, List.contains_iff_mem] at z
      exact b3 n z.1 m z.2
    · rw [if_neg z] at e; cases e
  · have q := clsAll_ok h m
    unfold clsOk at q
    simp only [Bool.and_eq_true, decide_eq_true_eq] at q
    exact q.2
theorem x0_mk {mg : Str → Option Value} (h : clsAll K fl ps D Cs = true) {n : Nat} {x : Str} (gm : mg x = some (.ref (clOf Cs D n))) (ex : PySem.W.excIn K (clOf Cs D n) HandSPX.veTail "ValueError.__new__" = true) : X0 K mg (clOf Cs D) n x := by
  have q := clsAll_ok h n
  unfold clsOk at q
  simp only [Bool.and_eq_true, decide_eq_true_eq] at q
  obtain ⟨⟨⟨⟨⟨⟨⟨⟨⟨⟨a1, a2⟩, a3⟩, a4⟩, a5⟩, a6⟩, a7⟩, a8⟩, a9⟩, a10⟩, a11⟩ := q
  exact ⟨gm, ex, a7, a3, a8⟩
end
/-- the only def of a class -/
def clsDef (st : Stmt) : Stmt := match st with
  | .ClassDef _ _ _ body _ _ _ _ _ _ _ => body.getD 0 (.Pass ⟨0, 0, 0, 0⟩)
  | _ => .Pass ⟨0, 0, 0, 0⟩
end DL
set_option Elab.async false
set_option linter.all false
set_option autoImplicit false
set_option maxRecDepth 100000
set_option maxHeartbeats 1000000
set_option exponentiation.threshold 500
/-! DM2: the draws. -/
namespace DL
open PySem PySem.Spec PyProof.Rows L2
theorem dt_IN {X : Cx} {C : Ct} {cl : Nat → Addr} {k : Nat} {a b : Expr} {f h : E D} {pos : Pos} (B : Bd cl k X C) (ha : DV X C a f) (hb : DV X C b h) (hm : behindInMarks .In b = false := by rfl) : DT X C (.Compare a [.In] [b] pos) (eB (eop2 dIn f h)) := dt_in B.hu1 ha hb hm
theorem dt_NI {X : Cx} {C : Ct} {cl : Nat → Addr} {k : Nat} {a b : Expr} {f h : E D} {pos : Pos} (B : Bd cl k X C) (ha : DV X C a f) (hb : DV X C b h) (hm : behindInMarks .NotIn b = false := by rfl) : DT X C (.Compare a [.NotIn] [b] pos) (eB (eop2 dNotIn f h)) := dt_notIn B.hu1 ha hb hm
theorem DrC.wx {C : Ct} {a L Cc : Addr} {cs : List Int} (h : DrC C a L Cc cs) (W : WX) : DrC { C with Wx := W } a L Cc cs := ⟨h.dr, h.fp, h.ok, h.up, h.hb, h.hc⟩
theorem CloC.tr {X : Cx} {C : Ct} {k : Nat} {f a L Cc : Addr} {cs : List Int} {rc : Wo → ER D} (c : CloC X C k f a L Cc cs rc) (pn : List (Addr × Obj)) (xe : Value → Shared → Prop) (W : WX) : CloC (X.tr pn xe) { C with Wx := W } k f a L Cc cs rc := ⟨c.efp, c.T⟩
theorem dEq_int (i j : Int) : dEq (.int i) (.int j) = some (.bl (decide (i = j))) := by
  unfold dEq eqPy
  simp only [D.py, SeqAt.shaped, PyData.eqv, Bool.and_self, if_true]
  congr 2
theorem dNe_int (i j : Int) : dNe (.int i) (.int j) = some (.bl (!decide (i = j))) := by
  have h := dEq_int i j
  unfold dEq at h
  unfold dNe
  cases e : eqPy (.int i) (.int j) with
  | none => rw [e] at h; cases h
  | some b => rw [e] at h; cases h; rfl
def bBlend : S := (sseq (parS2 1 2 (eDat (eop2 dAdd (eDr 0 fun d => .int d.turn) (eC (.int 1)))) (eDat (eC (.int 0))))
    (sseq (drSet 0 (eVar 1) fun d r => { d with turn := r })
    (sseq (forS (eSeq (eLst (eList (eCons (eC (.int 2147483629)) (eCons (eC (.int 2147483587)) (eCons (eC (.int 2147483579)) eNil)))))) (tgN 3) (sseq (setS 4 (eDat (eop2 dMod (eCall gInt (eCons (eop2 dAdd (eop2 dMul (eVar 1) (eC (.int 69621))) (eop2 dDiv (eVar 3) (eC (.int 13)))) eNil)) (eVar 3))))
    (sseq (forS (eSeq (eDr 0 fun d => .lst (d.cells.map D.int))) (tgN 5) (setS 4 (eDat (eop2 dMod (eCall gInt (eCons (eop2 dAdd (eop2 dAdd (eop2 dMul (eVar 4) (eC (.int 48271))) (eCall gInt (eCons (eVarV 5) eNil))) (eC (.int 5))) eNil)) (eVar 3)))))
    (setS 2 (eDat (eop2 dAdd (eop2 dMul (eVar 2) (eC (.int 2147483647))) (eop2 dMod (eCall gInt (eCons (eop2 dPow (eVar 4) (eC (.int 5))) eNil)) (eVar 3))))))))
    (sbind (eVar 2) fun d => fun w _ => .rt d w))))
def mBlend : Wo → List D → ER D := mRunW 1 6 bBlend
def bTake : S := (sseq (whileS (eAnd (eB (eop2 dEq (eDr 0 fun d => .int d.rest) (eC (.int 0)))) (eLarge 0)) (drPop 0) 300)
    (sseq (ifS (eB (eop2 dEq (eDr 0 fun d => .int d.rest) (eC (.int 0)))) (drSet 0 (eFunW mBlend (eCons (eVar 0) eNil)) fun d r => { d with rest := r }) snil)
    (sseq (setS 2 (eDat (eop2 dMod (eCall gInt (eCons (eDr 0 fun d => .int d.rest) eNil)) (eVar 1))))
    (sseq (drSet 0 (eop2 dDiv (eCall gInt (eCons (eDr 0 fun d => .int d.rest) eNil)) (eVar 1)) fun d r => { d with rest := r })
    (sbind (eVar 2) fun d => fun w _ => .rt d w)))))
def mTake : Wo → List D → ER D := mRunW 2 3 bTake
def bPick : S := (sbind (eop2 dIx (eVarV 1) (eFunW mTake (eCons (eVar 0) (eCons (eCall gLen (eCons (eVarV 1) eNil)) eNil)))) fun d => fun w _ => .rt d w)
def mPick : Wo → List D → ER D := mRunW 2 2 bPick
theorem mulFits_small {i j : Int} (hi : i.natAbs < 2 ^ 400) (hj : j.natAbs < 2 ^ 400) : mulFits i j = true := by
  have key : ∀ n : Nat, n < 2 ^ 400 → n.log2 < 400 := fun n h => by
    by_cases z : n = 0
    · subst z; decide
    · exact (Nat.log2_lt z).mpr h
  unfold mulFits
  have h1 := key _ hi
  have h2 := key _ hj
  exact decide_eq_true (by omega)
/-- the inner loop of the blend -/
theorem blend_in (d : Dr) (laps found p : Int) (hp : 0 < p) (hp2 : p < 2 ^ 40) : ∀ (cs : List Int) (s : Int) (x : Sl), 0 ≤ s → s < 2 ^ 40 → ∃ (s' : Int) (x' : Sl), 0 ≤ s' ∧ s' < 2 ^ 40 ∧
    loopS (tgN 5) (setS 4 (eDat (eop2 dMod (eCall gInt (eCons (eop2 dAdd (eop2 dAdd (eop2 dMul (eVar 4) (eC (.int 48271))) (eCall gInt (eCons (eVarV 5) eNil))) (eC (.int 5))) eNil)) (eVar 3)))) (cs.map D.int) (some d) [.dat .drw, .dat (.int laps), .dat (.int found), .dat (.int p), .dat (.int s), x] =
      .nx [.dat .drw, .dat (.int laps), .dat (.int found), .dat (.int p), .dat (.int s'), x'] (some d)
  | [], s, x, h0, h1 => ⟨s, x, h0, h1, rfl⟩
  | c :: cs, s, x, h0, h1 => by
    have g0 : 0 ≤ (s * 48271 + c + 5) % p := Int.emod_nonneg _ (by omega)
    have g1 : (s * 48271 + c + 5) % p < p := Int.emod_lt_of_pos _ hp
    obtain ⟨s', x', a, b, e⟩ := blend_in d laps found p hp hp2 cs ((s * 48271 + c + 5) % p) (.dat (.int c)) g0 (by omega)
    refine ⟨s', x', a, b, ?_⟩
    rw [← e, List.map_cons, loopS]
    have hm : mulFits s 48271 = true := mulFits_small (by omega) (by decide)
    simp only [tgN, List.set_cons_succ, List.set_cons_zero, setS, eDat, eop2, ebind, eCall, eCons, eNil, eVar, eVarV, eC, epure, eopt, gInt, dMul, dAdd, dMod, hm, hp, if_true, List.getElem?_cons_zero, List.getElem?_cons_succ]
theorem blend_ok (d : Dr) (ht : 0 ≤ d.turn) (ht2 : d.turn < 2 ^ 40) : ∃ r : Int, 0 ≤ r ∧ mBlend (some d) [.drw] = .ok (.int r) (some { d with turn := d.turn + 1 }) := by
  -- one prime
  have one : ∀ (d : Dr) (laps found p : Int) (x3 x4 x5 : Sl), 0 ≤ laps → laps < 2 ^ 41 → 0 ≤ found → found < 2 ^ 200 → 0 < p → p < 2147483648 → ∃ (found' s : Int) (x' : Sl), 0 ≤ found' ∧ found' < (found + 1) * 2147483648 ∧
      (sseq (setS 4 (eDat (eop2 dMod (eCall gInt (eCons (eop2 dAdd (eop2 dMul (eVar 1) (eC (.int 69621))) (eop2 dDiv (eVar 3) (eC (.int 13)))) eNil)) (eVar 3))))
    (sseq (forS (eSeq (eDr 0 fun d => .lst (d.cells.map D.int))) (tgN 5) (setS 4 (eDat (eop2 dMod (eCall gInt (eCons (eop2 dAdd (eop2 dAdd (eop2 dMul (eVar 4) (eC (.int 48271))) (eCall gInt (eCons (eVarV 5) eNil))) (eC (.int 5))) eNil)) (eVar 3)))))
    (setS 2 (eDat (eop2 dAdd (eop2 dMul (eVar 2) (eC (.int 2147483647))) (eop2 dMod (eCall gInt (eCons (eop2 dPow (eVar 4) (eC (.int 5))) eNil)) (eVar 3))))))) (some d) [.dat .drw, .dat (.int laps), .dat (.int found), .dat (.int p), x4, x5] =
        .nx [.dat .drw, .dat (.int laps), .dat (.int found'), .dat (.int p), .dat (.int s), x'] (some d) := by
    intro d laps found p x3 x4 x5 l0 l1 f0 f1 p0 p1
    have g0 : 0 ≤ (laps * 69621 + p / 13) % p := Int.emod_nonneg _ (by omega)
    have g1 : (laps * 69621 + p / 13) % p < p := Int.emod_lt_of_pos _ p0
    obtain ⟨s', x', a, b, e⟩ := blend_in d laps found p p0 (by omega) d.cells ((laps * 69621 + p / 13) % p) x5 g0 (by omega)
    have q0 : 0 ≤ (s' ^ 5) % p := Int.emod_nonneg _ (by omega)
    have q1 : (s' ^ 5) % p < p := Int.emod_lt_of_pos _ p0
    refine ⟨found * 2147483647 + (s' ^ 5) % p, s', x', by omega, by omega, ?_⟩
    have m1 : mulFits laps 69621 = true := mulFits_small (by omega) (by decide)
    have m2 : mulFits found 2147483647 = true := mulFits_small (by omega) (by decide)
    have m3 : divFits 13 = true := by decide +kernel
    have m4 : powFits s' 5 = true := by
      unfold powFits
      have : s'.natAbs < 18446744073709551616 := by omega
      simp [this]
    have e1 : setS 4 (eDat (eop2 dMod (eCall gInt (eCons (eop2 dAdd (eop2 dMul (eVar 1) (eC (.int 69621))) (eop2 dDiv (eVar 3) (eC (.int 13)))) eNil)) (eVar 3))) (some d) [.dat .drw, .dat (.int laps), .dat (.int found), .dat (.int p), x4, x5] = .nx [.dat .drw, .dat (.int laps), .dat (.int found), .dat (.int p), .dat (.int ((laps * 69621 + p / 13) % p)), x5] (some d) := by
      simp only [List.set_cons_succ, List.set_cons_zero, setS, eDat, eop2, ebind, eCall, eCons, eNil, eVar, eVarV, eC, epure, eopt, gInt, dMul, dAdd, dMod, dDiv, m1, m3, p0, if_true, List.getElem?_cons_zero, List.getElem?_cons_succ]
    rw [sseq_nx e1]
    have e2 : (forS (eSeq (eDr 0 fun d => .lst (d.cells.map D.int))) (tgN 5) (setS 4 (eDat (eop2 dMod (eCall gInt (eCons (eop2 dAdd (eop2 dAdd (eop2 dMul (eVar 4) (eC (.int 48271))) (eCall gInt (eCons (eVarV 5) eNil))) (eC (.int 5))) eNil)) (eVar 3))))) (some d) [.dat .drw, .dat (.int laps), .dat (.int found), .dat (.int p), .dat (.int ((laps * 69621 + p / 13) % p)), x5] = .nx [.dat .drw, .dat (.int laps), .dat (.int found), .dat (.int p), .dat (.int s'), x'] (some d) := by
      unfold forS sbind eSeq
      simp only [ebind, eDr, eopt, epure, seqOf, List.getElem?_cons_zero]
      exact e
    rw [sseq_nx e2]
    simp only [List.set_cons_succ, List.set_cons_zero, setS, eDat, eop2, ebind, eCall, eCons, eNil, eVar, eVarV, eC, epure, eopt, gInt, dMul, dAdd, dMod, dDiv, dPow, m2, m4, p0, if_true, List.getElem?_cons_zero, List.getElem?_cons_succ]
    rfl
  unfold mBlend mRunW
  rw [if_pos (show [D.drw].length = 1 from rfl)]
  have e1 : parS2 1 2 (eDat (eop2 dAdd (eDr 0 fun d => .int d.turn) (eC (.int 1)))) (eDat (eC (.int 0))) (some d) [.dat .drw, .un, .un, .un, .un, .un] = .nx [.dat .drw, .dat (.int (d.turn + 1)), .dat (.int 0), .un, .un, .un] (some d) := by
    simp only [List.set_cons_succ, List.set_cons_zero, parS2, eDat, eop2, ebind, eDr, eC, epure, eopt, dAdd, List.getElem?_cons_zero, List.getElem?_cons_succ]
  have e2 : drSet 0 (eVar 1) (fun d r => { d with turn := r }) (some d) [.dat .drw, .dat (.int (d.turn + 1)), .dat (.int 0), .un, .un, .un] = .nx [.dat .drw, .dat (.int (d.turn + 1)), .dat (.int 0), .un, .un, .un] (some { d with turn := d.turn + 1 }) := by
    simp only [drSet, sbind, eVar, List.getElem?_cons_zero, List.getElem?_cons_succ]
  obtain ⟨d', hd'⟩ : ∃ d' : Dr, d' = { d with turn := d.turn + 1 } := ⟨_, rfl⟩
  rw [← hd'] at e2 ⊢
  have hl : [D.drw].map Sl.dat ++ List.replicate (6 - 1) Sl.un = [.dat .drw, .un, .un, .un, .un, .un] := rfl
  rw [hl]
  unfold bBlend
  rw [sseq_nx e1, sseq_nx e2]
  obtain ⟨f1, s1, y1, a1, b1, c1⟩ := one d' (d.turn + 1) 0 2147483629 .un .un .un (by omega) (by omega) (by omega) (by omega) (by omega) (by omega)
  obtain ⟨f2, s2, y2, a2, b2, c2⟩ := one d' (d.turn + 1) f1 2147483587 .un (.dat (.int s1)) y1 (by omega) (by omega) a1 (by omega) (by omega) (by omega)
  obtain ⟨f3, s3, y3, a3, b3, c3⟩ := one d' (d.turn + 1) f2 2147483579 .un (.dat (.int s2)) y2 (by omega) (by omega) a2 (by omega) (by omega) (by omega)
  refine ⟨f3, a3, ?_⟩
  have e3 : ∀ b : S, forS (eSeq (eLst (eList (eCons (eC (.int 2147483629)) (eCons (eC (.int 2147483587)) (eCons (eC (.int 2147483579)) eNil)))))) (tgN 3) b (some d') [.dat .drw, .dat (.int (d.turn + 1)), .dat (.int 0), .un, .un, .un] = loopS (tgN 3) b [.int 2147483629, .int 2147483587, .int 2147483579] (some d') [.dat .drw, .dat (.int (d.turn + 1)), .dat (.int 0), .un, .un, .un] := fun b => rfl
  have e4 : ∀ (b : S) (x4 x5 : Sl) (F s : Int) (x' : Sl) (p0 p f : Int) (r : List D) (x3 : Sl), b (some d') [.dat .drw, .dat (.int (d.turn + 1)), .dat (.int f), .dat (.int p), x4, x5] = .nx [.dat .drw, .dat (.int (d.turn + 1)), .dat (.int F), .dat (.int p), .dat (.int s), x'] (some d') →
      loopS (tgN 3) b (.int p :: r) (some d') [.dat .drw, .dat (.int (d.turn + 1)), .dat (.int f), x3, x4, x5] = loopS (tgN 3) b r (some d') [.dat .drw, .dat (.int (d.turn + 1)), .dat (.int F), .dat (.int p), .dat (.int s), x'] := fun b x4 x5 F s x' p0 p f r x3 h => by
    rw [loopS]
    show (match b (some d') [.dat .drw, .dat (.int (d.turn + 1)), .dat (.int f), .dat (.int p), x4, x5] with | .nx e2 w2 => _ | .ct e2 w2 => _ | .bk e2 w2 => _ | .rt d w2 => _ | .exc x e2 w2 => _ | .bad => _) = _
    rw [h]
  unfold sseq at c1 c2 c3 ⊢
  rw [e3, e4 _ _ _ _ _ _ 0 _ _ _ _ c1, e4 _ _ _ _ _ _ 0 _ _ _ _ c2, e4 _ _ _ _ _ _ 0 _ _ _ _ c3]
  rfl
/-- what holds of the draw behind k takes -/
structure DrI (k : Int) (d : Dr) : Prop where
  t0 : 0 ≤ d.turn
  t1 : d.turn ≤ k
  r0 : 0 ≤ d.rest
  l0 : ∀ z ∈ d.large, 0 ≤ z
  l1 : d.large.length ≤ 63
theorem DrI.start {ns : List Int} (h : ns.length ≤ 63) : DrI 0 (dr0 ns) := by
  refine ⟨Int.le_refl _, Int.le_refl _, Int.le_refl _, fun z hz => ?_, ?_⟩
  · obtain ⟨i, hi, rfl⟩ := List.mem_map.mp hz
    have := (List.mem_filter.mp hi).2
    have := of_decide_eq_true this
    omega
  · show (large0 ns).length ≤ 63
    unfold large0
    rw [List.length_map]
    exact Nat.le_trans (List.length_filter_le _ _) h
theorem DrI.up {k k' : Int} {d : Dr} (h : DrI k d) (e : k ≤ k') : DrI k' d := ⟨h.t0, Int.le_trans h.t1 e, h.r0, h.l0, h.l1⟩
/-- the first loop of a take -/
theorem take_pop {k : Int} (e1 x2 : Sl) : ∀ (n : Nat) (d : Dr), DrI k d → d.large.length < n → ∃ d', DrI k d' ∧ whileS (eAnd (eB (eop2 dEq (eDr 0 fun d => .int d.rest) (eC (.int 0)))) (eLarge 0)) (drPop 0) n (some d) [.dat .drw, e1, x2] = .nx [.dat .drw, e1, x2] (some d')
  | 0, d, h, hn => by omega
  | n + 1, d, h, hn => by
    rw [whileS]
    by_cases z : d.rest = 0
    · cases q : d.large with
      | nil =>
        refine ⟨d, h, ?_⟩
        have e : eAnd (eB (eop2 dEq (eDr 0 fun d => .int d.rest) (eC (.int 0)))) (eLarge 0) (some d) [.dat .drw, e1, x2] = .ok false (some d) := by
          simp only [eAnd, eB, eop2, ebind, eDr, eC, epure, eopt, dEq_int, asB, eLarge, q, List.isEmpty_nil, Bool.not_true, List.getElem?_cons_zero]
          simp [z, eLarge, q]
        rw [e]
      | cons y r =>
        have h' : DrI k { d with large := r, rest := y } := ⟨h.t0, h.t1, h.l0 y (by rw [q]; exact List.mem_cons_self), fun z hz => h.l0 z (by rw [q]; exact List.mem_cons_of_mem _ hz), by have := h.l1; rw [q] at this; simp at this ⊢; omega⟩
        obtain ⟨d', a, b⟩ := take_pop e1 x2 n _ h' (by rw [q] at hn; simp at hn ⊢; omega)
        refine ⟨d', a, ?_⟩
        have e : eAnd (eB (eop2 dEq (eDr 0 fun d => .int d.rest) (eC (.int 0)))) (eLarge 0) (some d) [.dat .drw, e1, x2] = .ok true (some d) := by
          simp only [eAnd, eB, eop2, ebind, eDr, eC, epure, eopt, dEq_int, asB, eLarge, q, List.isEmpty_cons, Bool.not_false, List.getElem?_cons_zero]
          simp [z, eLarge, q]
        have e2 : drPop 0 (some d) [.dat .drw, e1, x2] = .nx [.dat .drw, e1, x2] (some { d with large := r, rest := y }) := by
          simp only [drPop, List.getElem?_cons_zero, q]
        rw [e]
        dsimp only
        rw [e2]
        exact b
    · refine ⟨d, h, ?_⟩
      have e : eAnd (eB (eop2 dEq (eDr 0 fun d => .int d.rest) (eC (.int 0)))) (eLarge 0) (some d) [.dat .drw, e1, x2] = .ok false (some d) := by
        simp only [eAnd, eB, eop2, ebind, eDr, eC, epure, eopt, dEq_int, asB, decide_eq_false z, List.getElem?_cons_zero]
        simp [epure]
      rw [e]
theorem take_ok {k : Int} {d : Dr} {n : Int} (h : DrI k d) (hk : k < 1000000) (n0 : 0 < n) (n1 : n < 2 ^ 400) : ∃ (r : Int) (d' : Dr), 0 ≤ r ∧ r < n ∧ DrI (k + 1) d' ∧ mTake (some d) [.drw, .int n] = .ok (.int r) (some d') := by
  obtain ⟨d1, h1, e1⟩ := take_pop (.dat (.int n)) .un 300 d h (by have := h.l1; omega)
  -- the blend
  have e2 : ∃ d2, DrI (k + 1) d2 ∧ ifS (eB (eop2 dEq (eDr 0 fun d => .int d.rest) (eC (.int 0)))) (drSet 0 (eFunW mBlend (eCons (eVar 0) eNil)) fun d r => { d with rest := r }) snil (some d1) [.dat .drw, .dat (.int n), .un] = .nx [.dat .drw, .dat (.int n), .un] (some d2) := by
    by_cases z : d1.rest = 0
    · obtain ⟨r, r0, hr⟩ := blend_ok d1 h1.t0 (by have := h1.t1; omega)
      refine ⟨{ d1 with turn := d1.turn + 1, rest := r }, ⟨by have := h1.t0; show 0 ≤ d1.turn + 1; omega, by have := h1.t1; show d1.turn + 1 ≤ k + 1; omega, r0, h1.l0, h1.l1⟩, ?_⟩
      simp only [ifS, sbind, eB, eop2, ebind, eDr, eC, epure, eopt, dEq_int, asB, decide_eq_true z, List.getElem?_cons_zero, if_true, drSet, eFunW, eCons, eNil, eVar, hr]
    · refine ⟨d1, h1.up (by omega), ?_⟩
      simp only [ifS, sbind, eB, eop2, ebind, eDr, eC, epure, eopt, dEq_int, asB, decide_eq_false z, List.getElem?_cons_zero, snil]
      rfl
  obtain ⟨d2, h2, e2⟩ := e2
  have hdiv : divFits n = true := by
    unfold divFits
    have : n.natAbs.log2 < 9000 := by
      by_cases z : n.natAbs = 0
      · rw [z]; decide
      · have : n.natAbs.log2 < 400 := (Nat.log2_lt z).mpr (by omega)
        omega
    simp [n0, this]
  refine ⟨d2.rest % n, { d2 with rest := d2.rest / n }, Int.emod_nonneg _ (by omega), Int.emod_lt_of_pos _ n0, ⟨h2.t0, h2.t1, Int.ediv_nonneg h2.r0 (by omega), h2.l0, h2.l1⟩, ?_⟩
  unfold mTake mRunW
  rw [if_pos (show [D.drw, D.int n].length = 2 from rfl)]
  have hl : [D.drw, D.int n].map Sl.dat ++ List.replicate (3 - 2) Sl.un = [.dat .drw, .dat (.int n), .un] := rfl
  rw [hl]
  unfold bTake
  rw [sseq_nx e1, sseq_nx e2]
  simp only [sseq, List.set_cons_succ, List.set_cons_zero, setS, eDat, eop2, ebind, eCall, eCons, eNil, eVar, epure, eopt, gInt, dMod, dDiv, hdiv, n0, if_true, List.getElem?_cons_zero, List.getElem?_cons_succ, eDr, drSet, sbind]
/-- a drawn thing of some -/
theorem pick_ok {k : Int} {d : Dr} {xs : List D} (h : DrI k d) (hk : k < 1000000) (n0 : xs ≠ []) (n1 : xs.length < 1000000) (hlst : Bool) : ∃ (x : D) (d' : Dr), x ∈ xs ∧ DrI (k + 1) d' ∧ mPick (some d) [.drw, bif hlst then .lst xs else .tup xs] = .ok x (some d') := by
  have hl : 0 < xs.length := List.length_pos_iff.mpr n0
  obtain ⟨r, d', r0, r1, h', e⟩ := take_ok (n := (xs.length : Int)) h hk (by omega) (by omega)
  have hr : r.toNat < xs.length := by omega
  refine ⟨xs[r.toNat], d', List.getElem_mem hr, h', ?_⟩
  have hat : atI xs r = some xs[r.toNat] := by
    unfold atI ixN
    rw [if_pos r0, if_pos r1]
    show xs[r.toNat]? = _
    exact List.getElem?_eq_getElem hr
  unfold mPick mRunW
  cases hlst with
  | true =>
    rw [if_pos (by rfl)]
    show (match bPick (some d) [.dat .drw, .dat (.lst xs)] with | .rt d w => ER.ok d w | .nx _ w => .ok .non w | .exc x _ w => .exc x w | _ => .bad) = _
    unfold bPick
    simp only [sbind, eop2, ebind, eVarV, eVar, eFunW, eCons, eNil, eCall, gLen, epure, eopt, List.getElem?_cons_zero, List.getElem?_cons_succ, e, dIx, hat]
  | false =>
    rw [if_pos (by rfl)]
    show (match bPick (some d) [.dat .drw, .dat (.tup xs)] with | .rt d w => ER.ok d w | .nx _ w => .ok .non w | .exc x _ w => .exc x w | _ => .bad) = _
    unfold bPick
    simp only [sbind, eop2, ebind, eVarV, eVar, eFunW, eCons, eNil, eCall, gLen, epure, eopt, List.getElem?_cons_zero, List.getElem?_cons_succ, e, dIx, hat]
end DL
set_option Elab.async false
set_option linter.all false
set_option autoImplicit false
set_option maxRecDepth 100000
set_option maxHeartbeats 1000000
set_option exponentiation.threshold 3000
/-! DP1: rests of polynomials. -/
namespace DL
open PySem PySem.Spec PyProof.Rows L2
def polyD (p : List Int) : D := .tup (p.map D.int)
def fD (a : Int) : D := .tup [.int a, .int 1]
def sm (a : Int) : Bool := decide (a.natAbs < 2 ^ 400)
theorem atI_app {α : Type} {A B : List α} {x : α} {i : Int} (h : i = (A.length : Int)) : atI (A ++ x :: B) i = some x := by
  subst h
  unfold atI ixN
  have h1 : ((A.length : Nat) : Int) < ((A ++ x :: B).length : Nat) := by rw [List.length_append, List.length_cons]; omega
  rw [if_pos (Int.natCast_nonneg _), if_pos h1]
  show (A ++ x :: B)[A.length]? = some x
  rw [List.getElem?_append_right (Nat.le_refl _), Nat.sub_self]
  rfl
theorem putAt_app {A B : List D} {x d : D} {i : Int} (h : i = (A.length : Int)) : putAt (A ++ x :: B) (.int i) d = some (A ++ d :: B) := by
  subst h
  unfold putAt ixN
  have h1 : ((A.length : Nat) : Int) < ((A ++ x :: B).length : Nat) := by rw [List.length_append, List.length_cons]; omega
  dsimp only
  rw [if_pos (Int.natCast_nonneg _), if_pos h1]
  show some ((A ++ x :: B).set A.length d) = _
  rw [List.set_append_right _ _ (Nat.le_refl _), Nat.sub_self]
  rfl
theorem whileS_go {c : E Bool} {b : S} {n : Nat} {w w1 w2 : Wo} {e e2 : En} (h : c w e = .ok true w1) (hb : b w1 e = .nx e2 w2) : whileS c b (n + 1) w e = whileS c b n w2 e2 := by
  rw [whileS, h]
  dsimp only
  rw [hb]
theorem whileS_stop {c : E Bool} {b : S} {n : Nat} {w w1 : Wo} {e : En} (h : c w e = .ok false w1) : whileS c b (n + 1) w e = .nx e w1 := by
  rw [whileS, h]
theorem loopS_go {g : Tg} {b : S} {d : D} {r : List D} {w w2 : Wo} {e e1 e2 : En} (hg : g d e = some e1) (hb : b w e1 = .nx e2 w2) : loopS g b (d :: r) w e = loopS g b r w2 e2 := by
  rw [loopS, hg]
  dsimp only
  rw [hb]
theorem forS_of {items : E (List D)} {g : Tg} {b : S} {w w1 : Wo} {e : En} {ds : List D} (h : items w e = .ok ds w1) : forS items g b w e = loopS g b ds w1 e := by
  unfold forS sbind
  rw [h]
section
variable {α : Type} {c c2 : E Bool} {f g : E α} {w w1 w2 : Wo} {e e2 : En} {b : Bool}
theorem eIf_t (h : c w e = .ok true w1) : eIf c f g w e = f w1 e := by unfold eIf ebind; rw [h]; rfl
theorem eIf_f (h : c w e = .ok false w1) : eIf c f g w e = g w1 e := by unfold eIf ebind; rw [h]; rfl
theorem ebind_ok {β : Type} {a : α} {k : α → E β} (h : f w e = .ok a w1) : ebind f k w e = k a w1 e := by unfold ebind; rw [h]
theorem sbind_ok {a : α} {k : α → S} (h : f w e = .ok a w1) : sbind f k w e = k a w1 e := by unfold sbind; rw [h]
theorem ifS_t {f g : S} (h : c w e = .ok true w1) : ifS c f g w e = f w1 e := by unfold ifS sbind; rw [h]; rfl
theorem ifS_f {f g : S} (h : c w e = .ok false w1) : ifS c f g w e = g w1 e := by unfold ifS sbind; rw [h]; rfl
theorem setS_ok {f : E Sl} {i : Nat} {s : Sl} (h : f w e = .ok s w1) : setS i f w e = .nx (e.set i s) w1 := by unfold setS; rw [h]
theorem eDat_ok {f : E D} {d : D} (h : f w e = .ok d w1) : eDat f w e = .ok (.dat d) w1 := by unfold eDat ebind; rw [h]; rfl
theorem eOwn_ok {f : E (List D)} {d : List D} (h : f w e = .ok d w1) : eOwn f w e = .ok (.own d) w1 := by unfold eOwn ebind; rw [h]; rfl
theorem eFun_ok {m : List D → FR} {f : E (List D)} {ds : List D} {d : D} (h : f w e = .ok ds w1) (hm : m ds = .ok d) : eFun m f w e = .ok d w1 := by unfold eFun ebind; rw [h]; dsimp only; rw [hm]
theorem eFun_exc {m : List D → FR} {f : E (List D)} {ds : List D} {x : Xc} (h : f w e = .ok ds w1) (hm : m ds = .exc x) : eFun m f w e = .exc x w1 := by unfold eFun ebind; rw [h]; dsimp only; rw [hm]
theorem eFunW_ok {m : Wo → List D → ER D} {f : E (List D)} {ds : List D} {d : D} (h : f w e = .ok ds w1) (hm : m w1 ds = .ok d w2) : eFunW m f w e = .ok d w2 := by unfold eFunW ebind; rw [h]; exact hm
theorem eop2_ok {h : D → D → Option α} {f g : E D} {x y : D} {a : α} (h1 : f w e = .ok x w1) (h2 : g w1 e = .ok y w2) (h3 : h x y = some a) : eop2 h f g w e = .ok a w2 := by unfold eop2 ebind; rw [h1]; dsimp only; rw [h2]; dsimp only; rw [h3]; rfl
theorem eCall_ok {h : List D → Option α} {f : E (List D)} {ds : List D} {a : α} (h1 : f w e = .ok ds w1) (h3 : h ds = some a) : eCall h f w e = .ok a w1 := by unfold eCall ebind; rw [h1]; dsimp only; rw [h3]; rfl
theorem eCons_ok {f : E D} {g : E (List D)} {x : D} {xs : List D} (h1 : f w e = .ok x w1) (h2 : g w1 e = .ok xs w2) : eCons f g w e = .ok (x :: xs) w2 := by unfold eCons ebind; rw [h1]; dsimp only; rw [h2]; rfl
theorem eNil_ok : eNil w e = .ok [] w := rfl
theorem eC_ok {d : D} : eC d w e = .ok d w := rfl
theorem eVar_ok {i : Nat} {d : D} (h : e[i]? = some (.dat d)) : eVar i w e = .ok d w := by unfold eVar; rw [h]
theorem eVarV_ok {i : Nat} {d : D} (h : e[i]? = some (.dat d)) : eVarV i w e = .ok d w := by unfold eVarV; rw [h]
theorem eVarV_own {i : Nat} {ds : List D} (h : e[i]? = some (.own ds)) : eVarV i w e = .ok (.lst ds) w := by unfold eVarV; rw [h]
theorem eB_ok {f : E D} (h : f w e = .ok (.bl b) w1) : eB f w e = .ok b w1 := by unfold eB ebind; rw [h]; rfl
theorem eTup_ok {f : E (List D)} {ds : List D} (h : f w e = .ok ds w1) (hl : ds.length ≤ 16777216) : eTup f w e = .ok (.tup ds) w1 := by unfold eTup ebind; rw [h]; dsimp only; unfold lineFits; rw [if_pos hl]
theorem eList_ok {f : E (List D)} {ds : List D} (h : f w e = .ok ds w1) (hl : ds.length ≤ 16777216) : eList f w e = .ok ds w1 := by unfold eList ebind; rw [h]; dsimp only; unfold lineFits; rw [if_pos hl]
theorem eLst_ok {f : E (List D)} {ds : List D} (h : f w e = .ok ds w1) : eLst f w e = .ok (.lst ds) w1 := by unfold eLst ebind; rw [h]; rfl
theorem eNeg_ok {f : E D} {i : Int} (h : f w e = .ok (.int i) w1) : eNeg f w e = .ok (.int (-i)) w1 := by unfold eNeg ebind; rw [h]; rfl
theorem eCut_ok {w3 : Wo} {g : D → Option Int → Option Int → Option α} {f : E D} {l u : E (Option Int)} {d : D} {lo hi : Option Int} {a : α} (h1 : f w e = .ok d w1) (h2 : l w1 e = .ok lo w2) (h3 : u w2 e = .ok hi w3) (h4 : g d lo hi = some a) : eCut g f l u w e = .ok a w3 := by
  unfold eCut ebind; rw [h1]; dsimp only; rw [h2]; dsimp only; rw [h3]; dsimp only; rw [h4]; rfl
theorem ePart_ok {f : E D} {i : Int} (h : f w e = .ok (.int i) w1) : ePart f w e = .ok (some i) w1 := by unfold ePart ebind; rw [h]; rfl
theorem eNoPart_ok : eNoPart w e = .ok none w := rfl
theorem eNot_ok (h : c w e = .ok b w1) : eNot c w e = .ok (!b) w1 := by unfold eNot ebind; rw [h]; rfl
theorem eAnd_t (h : c w e = .ok true w1) : eAnd c c2 w e = c2 w1 e := by unfold eAnd ebind; rw [h]; rfl
theorem eAnd_f (h : c w e = .ok false w1) : eAnd c c2 w e = .ok false w1 := by unfold eAnd ebind; rw [h]; rfl
theorem eOr_t (h : c w e = .ok true w1) : eOr c c2 w e = .ok true w1 := by unfold eOr ebind; rw [h]; rfl
theorem eOr_f (h : c w e = .ok false w1) : eOr c c2 w e = c2 w1 e := by unfold eOr ebind; rw [h]; rfl
theorem parS2_ok {i j : Nat} {f h : E Sl} {s1 s2 : Sl} (h1 : f w e = .ok s1 w1) (h2 : h w1 e = .ok s2 w2) : parS2 i j f h w e = .nx ((e.set i s1).set j s2) w2 := by unfold parS2; rw [h1]; dsimp only; rw [h2]
theorem setIS_ok {i : Nat} {f k : E D} {d z : D} {ds es : List D} (h1 : f w e = .ok d w1) (h0 : e[i]? = some (.own ds)) (h2 : k w1 e = .ok z w2) (h3 : putAt ds z d = some es) : setIS i f k w e = .nx (e.set i (.own es)) w2 := by
  unfold setIS sbind; rw [h1]; dsimp only; unfold ownAt; rw [h0]; dsimp only; rw [h2]; dsimp only; rw [h3]
theorem augS_ok {h : D → D → Option D} {i : Nat} {f : E D} {x y r : D} (h0 : e[i]? = some (.dat x)) (h1 : f w e = .ok y w1) (h2 : h x y = some r) : augS h i f w e = .nx (e.set i (.dat r)) w1 := by
  unfold augS; rw [h0]; dsimp only; unfold sbind; rw [h1]; dsimp only; rw [h2]
theorem appS_ok {i : Nat} {f : E D} {d : D} {ds : List D} (h0 : e[i]? = some (.own ds)) (h1 : f w e = .ok d w1) (hl : ds.length < 16777216) : appS i f w e = .nx (e.set i (.own (ds ++ [d]))) w1 := by
  unfold appS ownAt; rw [h0]; dsimp only; unfold sbind; rw [h1]; dsimp only; rw [if_pos hl]
theorem popTo_ok {i j : Nat} {d : D} {ds : List D} (h0 : e[i]? = some (.own (ds ++ [d]))) : popTo i j w e = .nx ((e.set i (.own ds)).set j (.dat d)) w := by
  unfold popTo ownAt; rw [h0]; dsimp only; rw [List.getLast?_concat]; dsimp only; rw [List.dropLast_concat]
theorem popS_ok {i : Nat} {d : D} {ds : List D} (h0 : e[i]? = some (.own (ds ++ [d]))) : popS i w e = .nx (e.set i (.own ds)) w := by
  unfold popS ownAt; rw [h0]; dsimp only; rw [List.getLast?_concat]; dsimp only; rw [List.dropLast_concat]
theorem augIS_ok {h : D → D → Option D} {i : Nat} {k f : E D} {z x y r : D} {ds es : List D} (h0 : e[i]? = some (.own ds)) (h1 : k w e = .ok z w1) (h2 : dIx (.lst ds) z = some x) (h3 : f w1 e = .ok y w2) (h4 : h x y = some r) (h5 : putAt ds z r = some es) : augIS h i k f w e = .nx (e.set i (.own es)) w2 := by
  unfold augIS ownAt; rw [h0]; dsimp only; unfold sbind; rw [h1]; dsimp only; rw [h2]; dsimp only; rw [h3]; dsimp only; rw [h4]; dsimp only; rw [h5]
end
theorem mRun_rt {np nN : Nat} {f : S} {ds : List D} {d : D} {w : Wo} (hl : ds.length = np) (h : f none (ds.map Sl.dat ++ List.replicate (nN - np) Sl.un) = .rt d w) : mRun np nN f ds = .ok d := by
  unfold mRun; rw [if_pos hl, h]
theorem mRun_at {np nN : Nat} {f : S} {ds : List D} {d : D} {w : Wo} {e0 : En} (hl : ds.length = np) (he : ds.map Sl.dat ++ List.replicate (nN - np) Sl.un = e0) (h : f none e0 = .rt d w) : mRun np nN f ds = .ok d := by
  subst he; exact mRun_rt hl h
theorem mRun_exc {np nN : Nat} {f : S} {ds : List D} {x : Xc} {e : En} {w : Wo} (hl : ds.length = np) (h : f none (ds.map Sl.dat ++ List.replicate (nN - np) Sl.un) = .exc x e w) : mRun np nN f ds = .exc x := by
  unfold mRun; rw [if_pos hl, h]
theorem mRun_nx {np nN : Nat} {f : S} {ds : List D} {e : En} {w : Wo} (hl : ds.length = np) (h : f none (ds.map Sl.dat ++ List.replicate (nN - np) Sl.un) = .nx e w) : mRun np nN f ds = .ok .non := by
  unfold mRun; rw [if_pos hl, h]
theorem ret_ok {f : E D} {d : D} {w w1 : Wo} {e : En} (h : f w e = .ok d w1) : (sbind f fun d => fun w _ => .rt d w : S) w e = .rt d w1 := by unfold sbind; rw [h]
theorem log2_lt_of {n k : Nat} (h : n < 2 ^ k) (hk : 0 < k) : n.log2 < k := by
  by_cases z : n = 0
  · subst z
    rw [show Nat.log2 0 = 0 from by decide]
    exact hk
  · exact (Nat.log2_lt z).mpr h
theorem mulFits_of {i j : Int} (a b : Nat) (hi : i.natAbs < 2 ^ a) (hj : j.natAbs < 2 ^ b) (ha : 0 < a) (hb : 0 < b) (h : a + b ≤ 1000000) : mulFits i j = true := by
  unfold mulFits
  have h1 := log2_lt_of hi ha
  have h2 := log2_lt_of hj hb
  exact decide_eq_true (by omega)
theorem sm_iff {a : Int} : sm a = true ↔ a.natAbs < 2 ^ 400 := by unfold sm; exact decide_eq_true_iff
theorem fraction_one {t : Int} (h : t.natAbs < 2 ^ 2000) : LM.m__law_fraction [.int t, .int 1] = .ok (fD t) := by
  have m1 : mulFits 1 t = true := mulFits_of 1 2000 (by decide) h (by decide) (by decide) (by decide)
  have m2 : mulFits 1 1 = true := by decide +kernel
  have d1 : divFits 1 = true := by decide +kernel
  unfold LM.m__law_fraction mRun
  rw [if_pos (show [D.int t, D.int 1].length = 2 from rfl)]
  show (match LM.b__law_fraction none [.dat (.int t), .dat (.int 1), .un, .un, .un] with | .rt d _ => FR.ok d | .nx _ _ => .ok .non | .exc x _ _ => .exc x | _ => .bad) = _
  unfold LM.b__law_fraction
  have e1 : parS2 2 3 (eDat (eCall gAbs (eCons (eVarV 0) eNil))) (eDat (eCall gAbs (eCons (eVarV 1) eNil))) none [.dat (.int t), .dat (.int 1), .un, .un, .un] = .nx [.dat (.int t), .dat (.int 1), .dat (.int (absI t)), .dat (.int 1), .un] none := by
    simp only [parS2, eDat, ebind, eCall, eCons, eNil, eVarV, epure, eopt, gAbs, List.getElem?_cons_zero, List.getElem?_cons_succ, List.set_cons_zero, List.set_cons_succ]
    rfl
  rw [sseq_nx e1]
  have e2 : whileS (eB (eop2 dNe (eVarV 3) (eC (.int 0)))) (parS2 2 3 (eDat (eVar 3)) (eDat (eop2 dMod (eCall gInt (eCons (eVarV 2) eNil)) (eCall gInt (eCons (eVarV 3) eNil))))) 300 none [.dat (.int t), .dat (.int 1), .dat (.int (absI t)), .dat (.int 1), .un] = .nx [.dat (.int t), .dat (.int 1), .dat (.int 1), .dat (.int 0), .un] none := by
    have c1 : eB (eop2 dNe (eVarV 3) (eC (.int 0))) none [.dat (.int t), .dat (.int 1), .dat (.int (absI t)), .dat (.int 1), .un] = .ok true none := by
      simp only [eB, eop2, ebind, eVarV, eC, epure, eopt, dNe_int, asB, List.getElem?_cons_zero, List.getElem?_cons_succ]
      rfl
    have b1 : parS2 2 3 (eDat (eVar 3)) (eDat (eop2 dMod (eCall gInt (eCons (eVarV 2) eNil)) (eCall gInt (eCons (eVarV 3) eNil)))) none [.dat (.int t), .dat (.int 1), .dat (.int (absI t)), .dat (.int 1), .un] = .nx [.dat (.int t), .dat (.int 1), .dat (.int 1), .dat (.int 0), .un] none := by
      simp only [parS2, eDat, ebind, eop2, eCall, eCons, eNil, eVar, eVarV, epure, eopt, gInt, dMod, List.getElem?_cons_zero, List.getElem?_cons_succ, List.set_cons_zero, List.set_cons_succ, Int.emod_one, if_pos (show (0 : Int) < 1 by decide)]
    have c2 : eB (eop2 dNe (eVarV 3) (eC (.int 0))) none [.dat (.int t), .dat (.int 1), .dat (.int 1), .dat (.int 0), .un] = .ok false none := by
      simp only [eB, eop2, ebind, eVarV, eC, epure, eopt, dNe_int, asB, List.getElem?_cons_zero, List.getElem?_cons_succ]
      rfl
    rw [whileS_go (n := 299) c1 b1, whileS_stop (n := 298) c2]
  rw [sseq_nx e2]
  have e3 : setS 4 (eDat (eIf (eB (eop2 dLt (eVar 1) (eC (.int 0)))) (eNeg (eC (.int 1))) (eC (.int 1)))) none [.dat (.int t), .dat (.int 1), .dat (.int 1), .dat (.int 0), .un] = .nx [.dat (.int t), .dat (.int 1), .dat (.int 1), .dat (.int 0), .dat (.int 1)] none := rfl
  rw [sseq_nx e3]
  have k1 : dMul (.int 1) (.int t) = some (.int t) := by unfold dMul; dsimp only; rw [m1, if_pos rfl, Int.one_mul]
  have k2 : dMul (.int 1) (.int 1) = some (.int 1) := by unfold dMul; dsimp only; rw [m2, if_pos rfl, Int.one_mul]
  have k3 : ∀ x : Int, dDiv (.int x) (.int 1) = some (.int x) := fun x => by unfold dDiv; dsimp only; rw [d1, if_pos rfl, Int.ediv_one]
  rw [sbind_ok (a := fD t) (w1 := none)]
  refine (eIf_t (w1 := none) rfl).trans (eTup_ok (eCons_ok (eop2_ok (eop2_ok (eVar_ok rfl) (eVar_ok rfl) k1) (eVar_ok rfl) (k3 _)) (eCons_ok (eop2_ok (eop2_ok (eVar_ok rfl) (eVar_ok rfl) k2) (eVar_ok rfl) (k3 _)) eNil_ok)) (by simp))
theorem natAbs_mul_lt {a b : Int} {m n : Nat} (ha : a.natAbs < 2 ^ m) (hb : b.natAbs < 2 ^ n) : (a * b).natAbs < 2 ^ (m + n) := by
  rw [Int.natAbs_mul, Nat.pow_add]
  exact Nat.mul_lt_mul'' ha hb
theorem times_ok {a b : Int} (ha : a.natAbs < 2 ^ 400) (hb : b.natAbs < 2 ^ 400) : LM.m__law_times [fD a, fD b] = .ok (fD (a * b)) := by
  have m1 : mulFits a b = true := mulFits_of 400 400 ha hb (by decide) (by decide) (by decide)
  have m2 : mulFits 1 1 = true := by decide +kernel
  have hf := fraction_one (t := a * b) (Nat.lt_of_lt_of_le (natAbs_mul_lt ha hb) (Nat.pow_le_pow_right (by decide) (by decide)))
  have h0 : ∀ x y : D, dIx (.tup [x, y]) (.int 0) = some x := fun _ _ => rfl
  have h1 : ∀ x y : D, dIx (.tup [x, y]) (.int 1) = some y := fun _ _ => rfl
  unfold LM.m__law_times mRun
  rw [if_pos (show [fD a, fD b].length = 2 from rfl)]
  show (match LM.b__law_times none [.dat (fD a), .dat (fD b)] with | .rt d _ => FR.ok d | .nx _ _ => .ok .non | .exc x _ _ => .exc x | _ => .bad) = _
  unfold LM.b__law_times
  simp only [sbind, eFun, ebind, eop2, eCons, eNil, eVarV, eC, epure, eopt, fD, h0, h1, dMul, m1, m2, if_pos, Int.one_mul, List.getElem?_cons_zero, List.getElem?_cons_succ]
  rw [hf]
  rfl
theorem plus_ok {a b : Int} (ha : a.natAbs < 2 ^ 1000) (hb : b.natAbs < 2 ^ 1000) : LM.m__law_plus [fD a, fD b] = .ok (fD (a + b)) := by
  have m1 : mulFits a 1 = true := mulFits_of 1000 1 ha (by decide) (by decide) (by decide) (by decide)
  have m3 : mulFits b 1 = true := mulFits_of 1000 1 hb (by decide) (by decide) (by decide) (by decide)
  have m2 : mulFits 1 1 = true := by decide +kernel
  have hs : (a + b).natAbs < 2 ^ 2000 := by
    have : (a + b).natAbs ≤ a.natAbs + b.natAbs := Int.natAbs_add_le a b
    have h2 : (2 : Nat) ^ 1000 + 2 ^ 1000 ≤ 2 ^ 2000 := by decide +kernel
    omega
  have hf := fraction_one (t := a + b) hs
  have h0 : ∀ x y : D, dIx (.tup [x, y]) (.int 0) = some x := fun _ _ => rfl
  have h1 : ∀ x y : D, dIx (.tup [x, y]) (.int 1) = some y := fun _ _ => rfl
  unfold LM.m__law_plus mRun
  rw [if_pos (show [fD a, fD b].length = 2 from rfl)]
  show (match LM.b__law_plus none [.dat (fD a), .dat (fD b)] with | .rt d _ => FR.ok d | .nx _ _ => .ok .non | .exc x _ _ => .exc x | _ => .bad) = _
  unfold LM.b__law_plus
  simp only [sbind, eFun, ebind, eop2, eCons, eNil, eVarV, eC, epure, eopt, fD, h0, h1, dMul, dAdd, m1, m2, m3, if_pos, Int.mul_one, List.getElem?_cons_zero, List.getElem?_cons_succ]
  rw [hf]
  rfl
/-! ### one step of a rest -/
def zipA (top : Int) (bs xs : List Int) : List Int := List.zipWith (fun b x => x + top * -b) bs xs
theorem dIx_app {A B : List D} {x : D} {i : Int} (h : i = (A.length : Int)) : dIx (.lst (A ++ x :: B)) (.int i) = some x := atI_app h
theorem dIx_appT {A B : List D} {x : D} {i : Int} (h : i = (A.length : Int)) : dIx (.tup (A ++ x :: B)) (.int i) = some x := atI_app h
/-- the inner loop of _law_rest -/
theorem law_in (r0 : Sl) (sz at_ top : Int) (post : List Int) (ht : top.natAbs < 2 ^ 400) : ∀ (bs xs pre : List Int) (A B : List D) (x6 : Sl), bs.length = xs.length → (∀ b ∈ bs, b.natAbs < 2 ^ 400) → (∀ x ∈ xs, x.natAbs < 2 ^ 400) → at_ - sz + pre.length = (A.length : Int) →
    ∃ x6', loopS (tgN 6) (setIS 2 (eFun LM.m__law_plus (eCons (eop2 dIx (eVarV 2) (eop2 dAdd (eop2 dSub (eVar 4) (eVar 3)) (eVar 6))) (eCons (eFun LM.m__law_times (eCons (eVar 5) (eCons (eTup (eCons (eNeg (eop2 dIx (eVarV 1) (eVarV 6))) (eCons (eC (.int 1)) eNil))) eNil))) eNil))) (eop2 dAdd (eop2 dSub (eVar 4) (eVar 3)) (eVar 6)))
      (rangeD (pre.length : Int) 1 bs.length) none [r0, .dat (.tup ((pre ++ bs ++ post).map D.int)), .own (A ++ (xs.map fD ++ B)), .dat (.int sz), .dat (.int at_), .dat (fD top), x6] =
      .nx [r0, .dat (.tup ((pre ++ bs ++ post).map D.int)), .own (A ++ ((zipA top bs xs).map fD ++ B)), .dat (.int sz), .dat (.int at_), .dat (fD top), x6'] none
  | [], [], pre, A, B, x6, _, _, _, _ => ⟨x6, rfl⟩
  | [], _ :: _, _, _, _, _, h, _, _, _ => by simp at h
  | _ :: _, [], _, _, _, _, h, _, _, _ => by simp at h
  | b :: bs, x :: xs, pre, A, B, x6, hl, hb, hx, hA => by
    have ih := law_in r0 sz at_ top post ht bs xs (pre ++ [b]) (A ++ [fD (x + top * -b)]) B (.dat (.int pre.length)) (by simpa using hl) (fun z h => hb z (List.mem_cons_of_mem _ h)) (fun z h => hx z (List.mem_cons_of_mem _ h)) (by simp; omega)
    obtain ⟨x6', ih⟩ := ih
    refine ⟨x6', ?_⟩
    have e1 : pre ++ [b] ++ bs ++ post = pre ++ b :: bs ++ post := by simp
    have e2 : A ++ [fD (x + top * -b)] ++ (xs.map fD ++ B) = A ++ fD (x + top * -b) :: (xs.map fD ++ B) := by simp
    have e3 : A ++ [fD (x + top * -b)] ++ ((zipA top bs xs).map fD ++ B) = A ++ ((zipA top (b :: bs) (x :: xs)).map fD ++ B) := by simp [zipA]
    have e4 : (((pre ++ [b]).length : Nat) : Int) = (pre.length : Int) + 1 := by simp
    rw [e1, e2, e3, e4] at ih
    show loopS _ _ (.int (pre.length : Int) :: rangeD ((pre.length : Int) + 1) 1 bs.length) none _ = _
    refine (loopS_go (e1 := [r0, .dat (.tup ((pre ++ b :: bs ++ post).map D.int)), .own (A ++ ((x :: xs).map fD ++ B)), .dat (.int sz), .dat (.int at_), .dat (fD top), .dat (.int pre.length)]) rfl ?_).trans ih
    have hi : eop2 dAdd (eop2 dSub (eVar 4) (eVar 3)) (eVar 6) none [r0, .dat (.tup ((pre ++ b :: bs ++ post).map D.int)), .own (A ++ ((x :: xs).map fD ++ B)), .dat (.int sz), .dat (.int at_), .dat (fD top), .dat (.int pre.length)] = .ok (.int (at_ - sz + pre.length)) none := rfl
    have g1 : (pre ++ b :: bs ++ post).map D.int = pre.map D.int ++ .int b :: (bs ++ post).map D.int := by simp
    have hb0 : dIx (.tup ((pre ++ b :: bs ++ post).map D.int)) (.int pre.length) = some (.int b) := by
      rw [g1]
      exact dIx_appT (by simp)
    have hnb : (-b).natAbs < 2 ^ 400 := by rw [Int.natAbs_neg]; exact hb b List.mem_cons_self
    have hx0 := hx x List.mem_cons_self
    have p1 : (top * -b).natAbs < 2 ^ 1000 := Nat.lt_of_lt_of_le (natAbs_mul_lt ht hnb) (Nat.pow_le_pow_right (by decide) (by decide))
    have p2 : x.natAbs < 2 ^ 1000 := Nat.lt_of_lt_of_le hx0 (Nat.pow_le_pow_right (by decide) (by decide))
    refine setIS_ok (w2 := none) (eFun_ok (eCons_ok (eop2_ok (eVarV_own rfl) hi (dIx_app (x := fD x) (B := xs.map fD ++ B) hA)) (eCons_ok (eFun_ok (eCons_ok (eVar_ok rfl) (eCons_ok (eTup_ok (eCons_ok (eNeg_ok (eop2_ok (eVarV_ok rfl) (eVarV_ok rfl) hb0)) (eCons_ok eC_ok eNil_ok)) (by simp)) eNil_ok)) (times_ok ht hnb)) eNil_ok)) (plus_ok p2 p1)) rfl hi (putAt_app (x := fD x) hA)
def subR (top : Int) : List Int → List Int → List Int
  | [], q => q
  | _ :: _, [] => []
  | b :: bs, x :: q => (x + top * -b) :: subR top bs q
/-- the rest, the greatest power first; bs the divisor below its leading 1, the greatest power first -/
def remGo : Nat → List Int → List Int → Option (List Int)
  | 0, _, _ => none
  | n + 1, bs, q => if q.length ≤ bs.length then some q else match q with
    | [] => none
    | top :: r => if sm top && (r.take bs.length).all sm then remGo n bs (subR top bs r) else none
def padR (m : Nat) (q : List Int) : List Int := q.reverse ++ List.replicate (m - q.length) 0
theorem subR_app (top : Int) (r2 : List Int) : ∀ bs r1 : List Int, bs.length = r1.length → subR top bs (r1 ++ r2) = zipA top bs r1 ++ r2
  | [], [], _ => rfl
  | [], _ :: _, h => by simp at h
  | _ :: _, [], h => by simp at h
  | b :: bs, x :: r1, h => by
    show (x + top * -b) :: subR top bs (r1 ++ r2) = _
    rw [subR_app top r2 bs r1 (by simpa using h)]
    rfl
theorem zipA_rev (top : Int) (bs r1 : List Int) (h : bs.length = r1.length) : (zipA top bs.reverse r1).reverse = zipA top bs r1.reverse := by
  unfold zipA
  rw [List.reverse_zipWith (by simpa using h), List.reverse_reverse]
theorem remGo_len : ∀ (n : Nat) (bs q res : List Int), remGo n bs q = some res → res.length ≤ bs.length
  | 0, _, _, _, h => by simp [remGo] at h
  | n + 1, bs, q, res, h => by
    unfold remGo at h
    by_cases z : q.length ≤ bs.length
    · rw [if_pos z] at h; cases h; exact z
    · rw [if_neg z] at h
      cases q with
      | nil => cases h
      | cons top r =>
        dsimp only at h
        split at h
        · exact remGo_len n bs _ res h
        · cases h
abbrev lawBody : S := (sseq (setS 5 (eDat (eop2 dIx (eVarV 2) (eVarV 4))))
    (sseq (forS (eCall gRange1 (eCons (eVar 3) eNil)) (tgN 6) (setIS 2 (eFun LM.m__law_plus (eCons (eop2 dIx (eVarV 2) (eop2 dAdd (eop2 dSub (eVar 4) (eVar 3)) (eVar 6))) (eCons (eFun LM.m__law_times (eCons (eVar 5) (eCons (eTup (eCons (eNeg (eop2 dIx (eVarV 1) (eVarV 6))) (eCons (eC (.int 1)) eNil))) eNil))) eNil))) (eop2 dAdd (eop2 dSub (eVar 4) (eVar 3)) (eVar 6))))
    (setS 2 (eOwn (eCut gCutL (eVarV 2) eNoPart (ePart (eVar 4)))))))
theorem law_out (r0 : Sl) (bs post : List Int) (hb : ∀ b ∈ bs, b.natAbs < 2 ^ 400) (hm : bs.length < 1000) : ∀ (n : Nat) (q res : List Int) (x4 x5 x6 : Sl), remGo n bs.reverse q = some res → q.length < 1000000 → ∃ x4' x5' x6',
    loopS (tgN 4) lawBody (rangeD ((q.length : Int) - 1) (-1) (q.length - bs.length)) none [r0, .dat (.tup ((bs ++ post).map D.int)), .own (q.reverse.map fD), .dat (.int bs.length), x4, x5, x6] =
      .nx [r0, .dat (.tup ((bs ++ post).map D.int)), .own (res.reverse.map fD), .dat (.int bs.length), x4', x5', x6'] none
  | 0, _, _, _, _, _, h, _ => by simp [remGo] at h
  | n + 1, q, res, x4, x5, x6, h, hq => by
    unfold remGo at h
    rw [List.length_reverse] at h
    by_cases z : q.length ≤ bs.length
    · rw [if_pos z] at h
      cases h
      refine ⟨x4, x5, x6, ?_⟩
      rw [show q.length - bs.length = 0 by omega]
      rfl
    · rw [if_neg z] at h
      cases q with
      | nil => cases h
      | cons top r =>
        dsimp only at h
        split at h
        · rename_i hs
          rw [Bool.and_eq_true, List.all_eq_true] at hs
          obtain ⟨hs1, hs2⟩ := hs
          have ht := sm_iff.mp hs1
          have hlr : bs.length ≤ r.length := by simp at z; omega
          -- the parts
          obtain ⟨r1, hr1⟩ : ∃ r1, r1 = r.take bs.length := ⟨_, rfl⟩
          obtain ⟨r2, hr2⟩ : ∃ r2, r2 = r.drop bs.length := ⟨_, rfl⟩
          have er : r = r1 ++ r2 := by rw [hr1, hr2, List.take_append_drop]
          have l1 : bs.length = r1.length := by rw [hr1, List.length_take]; omega
          rw [← hr1] at hs2
          have esub : (subR top bs.reverse r).reverse = r2.reverse ++ zipA top bs r1.reverse := by
            rw [er, subR_app _ _ _ _ (by simpa using l1), List.reverse_append, zipA_rev _ _ _ l1]
          have lsub : (subR top bs.reverse r).length = r.length := by
            have := congrArg List.length esub
            rw [List.length_reverse, List.length_append, List.length_reverse] at this
            rw [this, er, List.length_append]
            simp [zipA, ← l1]
            omega
          have ih := fun a b c => law_out r0 bs post hb hm n (subR top bs.reverse r) res a b c h (by rw [lsub]; simp at hq; omega)
          have eR : rangeD (((top :: r).length : Int) - 1) (-1) ((top :: r).length - bs.length) = .int r.length :: rangeD ((r.length : Int) - 1) (-1) (r.length - bs.length) := by
            rw [show (top :: r).length - bs.length = (r.length - bs.length) + 1 by simp; omega]
            show D.int _ :: rangeD _ _ _ = _
            rw [show (((top :: r).length : Nat) : Int) - 1 = (r.length : Int) by simp]
            rfl
          have eF : (top :: r).reverse.map fD = (r2.reverse.map fD) ++ ((r1.reverse.map fD) ++ [fD top]) := by rw [er]; simp
          have e5 : setS 5 (eDat (eop2 dIx (eVarV 2) (eVarV 4))) none [r0, .dat (.tup ((bs ++ post).map D.int)), .own ((r2.reverse.map fD) ++ ((r1.reverse.map fD) ++ [fD top])), .dat (.int bs.length), .dat (.int r.length), x5, x6] = .nx [r0, .dat (.tup ((bs ++ post).map D.int)), .own ((r2.reverse.map fD) ++ ((r1.reverse.map fD) ++ [fD top])), .dat (.int bs.length), .dat (.int r.length), .dat (fD top), x6] none := by
            refine setS_ok (eDat_ok (eop2_ok (eVarV_own rfl) (eVarV_ok rfl) (?_ : _ = some (fD top))))
            rw [← List.append_assoc]
            exact dIx_app (B := []) (by rw [er]; simp; omega)
          obtain ⟨x6', e6⟩ := law_in r0 bs.length r.length top post ht bs r1.reverse [] (r2.reverse.map fD) [fD top] x6 (by simpa using l1) hb (fun x hx => sm_iff.mp (hs2 x (List.mem_reverse.mp hx))) (by rw [er]; simp; omega)
          obtain ⟨x4', x5', x6'', ih⟩ := ih (.dat (.int r.length)) (.dat (fD top)) x6'
          refine ⟨x4', x5', x6'', ?_⟩
          rw [lsub, esub] at ih
          rw [eR, eF]
          refine (loopS_go (w2 := none) (e1 := [r0, .dat (.tup ((bs ++ post).map D.int)), .own ((r2.reverse.map fD) ++ ((r1.reverse.map fD) ++ [fD top])), .dat (.int bs.length), .dat (.int r.length), x5, x6]) (e2 := [r0, .dat (.tup ((bs ++ post).map D.int)), .own ((r2.reverse ++ zipA top bs r1.reverse).map fD), .dat (.int bs.length), .dat (.int r.length), .dat (fD top), x6']) rfl ?_).trans ih
          unfold lawBody
          rw [sseq_nx e5]
          have e7 : forS (eCall gRange1 (eCons (eVar 3) eNil)) (tgN 6) (setIS 2 (eFun LM.m__law_plus (eCons (eop2 dIx (eVarV 2) (eop2 dAdd (eop2 dSub (eVar 4) (eVar 3)) (eVar 6))) (eCons (eFun LM.m__law_times (eCons (eVar 5) (eCons (eTup (eCons (eNeg (eop2 dIx (eVarV 1) (eVarV 6))) (eCons (eC (.int 1)) eNil))) eNil))) eNil))) (eop2 dAdd (eop2 dSub (eVar 4) (eVar 3)) (eVar 6))) none
              [r0, .dat (.tup ((bs ++ post).map D.int)), .own ((r2.reverse.map fD) ++ ((r1.reverse.map fD) ++ [fD top])), .dat (.int bs.length), .dat (.int r.length), .dat (fD top), x6] =
              .nx [r0, .dat (.tup ((bs ++ post).map D.int)), .own ((r2.reverse.map fD) ++ ((zipA top bs r1.reverse).map fD ++ [fD top])), .dat (.int bs.length), .dat (.int r.length), .dat (fD top), x6'] none := by
            refine (forS_of (eCall_ok (eCons_ok (eVar_ok rfl) eNil_ok) (a := rangeD 0 1 bs.length) ?_)).trans e6
            unfold gRange1 in62
            have h1 : decide (-4611686018427387904 ≤ (bs.length : Int)) = true := decide_eq_true (by omega)
            have h2 : decide ((bs.length : Int) < 4611686018427387904) = true := decide_eq_true (by omega)
            dsimp only
            rw [h1, h2]
            rfl
          rw [sseq_nx e7]
          have ec : gCutL (.lst ((r2.reverse.map fD) ++ ((zipA top bs r1.reverse).map fD ++ [fD top]))) none (some (r.length : Int)) = some ((r2.reverse ++ zipA top bs r1.reverse).map fD) := by
            show some (cutD _ none (some (r.length : Int))) = _
            unfold cutD
            rw [HT.sIx_none, HT.sIx_nat, List.drop_zero, Nat.sub_zero]
            refine congrArg some ?_
            rw [← List.append_assoc, ← List.map_append]
            have hl : (List.map fD (r2.reverse ++ zipA top bs r1.reverse)).length = r.length := by
              rw [List.length_map, ← esub, List.length_reverse, lsub]
            have hmin : min r.length (List.map fD (r2.reverse ++ zipA top bs r1.reverse) ++ [fD top]).length = (List.map fD (r2.reverse ++ zipA top bs r1.reverse)).length := by
              rw [List.length_append, hl]
              exact Nat.min_eq_left (Nat.le_add_right _ _)
            rw [hmin]
            exact List.take_left
          exact setS_ok (eOwn_ok (eCut_ok (eVarV_own rfl) eNoPart_ok (ePart_ok (eVar_ok rfl)) ec))
        · cases h
theorem law_rest_ok (n : Nat) (p bs res : List Int) (hb : ∀ b ∈ bs, b.natAbs < 2 ^ 400) (hm : bs.length < 1000) (hp : p.length < 1000000) (h : remGo n bs.reverse p.reverse = some res) : LM.m__law_rest [.lst (p.map fD), polyD (bs ++ [1])] = .ok (.tup ((padR bs.length res).map fD)) := by
  unfold LM.m__law_rest
  refine mRun_at (w := none) (e0 := [.dat (.lst (p.map fD)), .dat (.tup ((bs ++ [1]).map D.int)), .un, .un, .un, .un, .un]) rfl rfl ?_
  unfold LM.b__law_rest
  have e1 : parS2 2 3 (eOwn (eCall gList (eCons (eVarV 0) eNil))) (eDat (eop2 dSub (eCall gLen (eCons (eVarV 1) eNil)) (eC (.int 1)))) none [.dat (.lst (p.map fD)), .dat (.tup ((bs ++ [1]).map D.int)), .un, .un, .un, .un, .un] =
      .nx [.dat (.lst (p.map fD)), .dat (.tup ((bs ++ [1]).map D.int)), .own (p.reverse.reverse.map fD), .dat (.int bs.length), .un, .un, .un] none := by
    rw [List.reverse_reverse]
    refine (parS2_ok (eOwn_ok (eCall_ok (eCons_ok (eVarV_ok rfl) eNil_ok) rfl)) (eDat_ok (eop2_ok (eCall_ok (eCons_ok (eVarV_ok rfl) eNil_ok) rfl) eC_ok (?_ : _ = some (D.int bs.length)))))
    show some (D.int _) = _
    congr 2
    simp
  rw [sseq_nx e1]
  obtain ⟨x4, x5, x6, e2⟩ := law_out (.dat (.lst (p.map fD))) bs [1] hb hm n p.reverse res .un .un .un h (by simpa using hp)
  have e3 : forS (eCall gRange3 (eCons (eop2 dSub (eCall gLen (eCons (eVarV 2) eNil)) (eC (.int 1))) (eCons (eop2 dSub (eVar 3) (eC (.int 1))) (eCons (eNeg (eC (.int 1))) eNil)))) (tgN 4) lawBody none [.dat (.lst (p.map fD)), .dat (.tup ((bs ++ [1]).map D.int)), .own (p.reverse.reverse.map fD), .dat (.int bs.length), .un, .un, .un] =
      .nx [.dat (.lst (p.map fD)), .dat (.tup ((bs ++ [1]).map D.int)), .own (res.reverse.map fD), .dat (.int bs.length), x4, x5, x6] none := by
    refine (forS_of (eCall_ok (eCons_ok (eop2_ok (eCall_ok (eCons_ok (eVarV_own rfl) eNil_ok) rfl) eC_ok rfl) (eCons_ok (eop2_ok (eVar_ok rfl) eC_ok rfl) (eCons_ok (eNeg_ok eC_ok) eNil_ok))) (?_ : _ = some (rangeD ((p.reverse.length : Int) - 1) (-1) (p.reverse.length - bs.length))))).trans e2
    unfold gRange3 in62
    have hl : ((p.reverse.reverse.map fD).length : Int) = p.length := by simp
    rw [hl, List.length_reverse]
    have h1 : decide (-4611686018427387904 ≤ (p.length : Int) - 1) = true := decide_eq_true (by omega)
    have h2 : decide ((p.length : Int) - 1 < 4611686018427387904) = true := decide_eq_true (by omega)
    have h3 : decide (-4611686018427387904 ≤ (bs.length : Int) - 1) = true := decide_eq_true (by omega)
    have h4 : decide ((bs.length : Int) - 1 < 4611686018427387904) = true := decide_eq_true (by omega)
    dsimp only
    rw [h1, h2, h3, h4]
    show some (rangeD _ _ _) = _
    congr 2
    omega
  rw [sseq_nx e3]
  have hr := remGo_len n _ _ _ h
  rw [List.length_reverse] at hr
  refine ret_ok ?_
  refine eCall_ok (eCons_ok (eLst_ok (eop2_ok (eVarV_own rfl) (eLst_ok (eop2_ok (eLst_ok (eList_ok (eCons_ok (eTup_ok (eCons_ok eC_ok (eCons_ok eC_ok eNil_ok)) (by simp)) eNil_ok) (by simp))) (eop2_ok (eVar_ok rfl) (eCall_ok (eCons_ok (eVarV_own rfl) eNil_ok) rfl) rfl) (?_ : _ = some (List.replicate (bs.length - res.length) (fD 0))))) (?_ : _ = some ((padR bs.length res).map fD)))) eNil_ok) rfl
  · unfold dRepL
    dsimp only
    have hl : ((res.reverse.map fD).length : Int) = res.length := by simp
    rw [hl]
    have e : ((bs.length : Int) - res.length).toNat = bs.length - res.length := by omega
    rw [e, if_pos ⟨by omega, by omega, by simp; omega⟩]
    show some (List.replicate _ [fD 0]).flatten = _
    rw [List.flatten_replicate_singleton]
  · unfold dCatL padR
    dsimp only
    rw [if_pos (by simp; omega)]
    simp
end DL
set_option Elab.async false
set_option linter.all false
set_option autoImplicit false
set_option maxRecDepth 100000
set_option maxHeartbeats 1000000
set_option exponentiation.threshold 3000
/-! DP2: the package's polynomials. -/
namespace DL
open PySem PySem.Spec PyProof.Rows L2
def stripR : List Int → List Int
  | [] => []
  | x :: r => if x = 0 then stripR r else x :: r
theorem stripR_app : ∀ q : List Int, ∃ k : Nat, q = List.replicate k 0 ++ stripR q
  | [] => ⟨0, rfl⟩
  | x :: r => by
    by_cases h : x = 0
    · obtain ⟨k, e⟩ := stripR_app r
      refine ⟨k + 1, ?_⟩
      unfold stripR
      rw [if_pos h, List.replicate_succ, List.cons_append, ← e, h]
    · exact ⟨0, by unfold stripR; rw [if_neg h]; rfl⟩
theorem stripR_len (q : List Int) : (stripR q).length ≤ q.length := by
  obtain ⟨k, e⟩ := stripR_app q
  have := congrArg List.length e
  rw [List.length_append] at this
  omega
theorem cutD_to {A B : List D} {i : Int} (h : i = (A.length : Int)) : cutD (A ++ B) none (some i) = A := by
  subst h
  unfold cutD
  rw [HT.sIx_none, HT.sIx_nat, List.drop_zero, Nat.sub_zero, Nat.min_eq_left (by rw [List.length_append]; exact Nat.le_add_right _ _)]
  exact List.take_left
theorem cleaned_wh (row : List D) : ∀ (q z : List Int) (n : Nat), q.length < n → row = (z ++ q).reverse.map D.int → 
    whileS (eAnd (eB (eop2 dGt (eVar 1) (eC (.int 0)))) (eB (eop2 dEq (eop2 dIx (eVarV 0) (eop2 dSub (eVar 1) (eC (.int 1)))) (eC (.int 0))))) (augS dSub 1 (eC (.int 1))) n none [.dat (.lst row), .dat (.int q.length)] = .nx [.dat (.lst row), .dat (.int (stripR q).length)] none
  | [], z, n + 1, _, _ => by
    refine whileS_stop (eAnd_f (eB_ok (eop2_ok (eVar_ok rfl) eC_ok ?_)))
    rfl
  | x :: r, z, n + 1, hn, hr => by
    have c1 : eB (eop2 dGt (eVar 1) (eC (.int 0))) none [.dat (.lst row), .dat (.int ((x :: r).length : Nat))] = .ok true none := by
      refine eB_ok (eop2_ok (eVar_ok rfl) eC_ok ?_)
      show some (D.bl (decide _)) = _
      rw [decide_eq_true (by simp)]
    have hx : dIx (.lst row) (.int (((x :: r).length : Nat) - 1)) = some (.int x) := by
      rw [hr, show (z ++ x :: r).reverse.map D.int = r.reverse.map D.int ++ .int x :: z.reverse.map D.int by simp]
      exact dIx_app (by simp)
    have c2 : eAnd (eB (eop2 dGt (eVar 1) (eC (.int 0)))) (eB (eop2 dEq (eop2 dIx (eVarV 0) (eop2 dSub (eVar 1) (eC (.int 1)))) (eC (.int 0)))) none [.dat (.lst row), .dat (.int ((x :: r).length : Nat))] = .ok (decide (x = 0)) none := by
      refine (eAnd_t c1).trans (eB_ok (eop2_ok (eop2_ok (eVarV_ok rfl) (eop2_ok (eVar_ok rfl) eC_ok rfl) hx) eC_ok (dEq_int _ _)))
    unfold stripR
    by_cases h : x = 0
    · rw [decide_eq_true h] at c2
      rw [if_pos h]
      have ih := cleaned_wh row r (z ++ [x]) n (by simp at hn; omega) (by rw [hr]; simp)
      refine Eq.trans (whileS_go c2 ?_) ih
      refine augS_ok (e := [.dat (.lst row), .dat (.int ((x :: r).length : Nat))]) rfl eC_ok ?_
      show some (D.int (((x :: r).length : Nat) - 1)) = some (.int r.length)
      rw [show (((x :: r).length : Nat) : Int) - 1 = (r.length : Int) by simp]
    · rw [decide_eq_false h] at c2
      rw [if_neg h]
      exact whileS_stop c2
theorem cleaned_ok (q : List Int) (h : q.length < 300) : PM.m_cleaned [.lst (q.reverse.map D.int)] = .ok (polyD (stripR q).reverse) := by
  unfold PM.m_cleaned
  refine mRun_at (w := none) (e0 := [.dat (.lst (q.reverse.map D.int)), .un]) rfl rfl ?_
  unfold PM.b_cleaned
  have e1 : setS 1 (eDat (eCall gLen (eCons (eVarV 0) eNil))) none [.dat (.lst (q.reverse.map D.int)), .un] = .nx [.dat (.lst (q.reverse.map D.int)), .dat (.int q.length)] none := by
    refine setS_ok (s := .dat (.int q.length)) (eDat_ok (eCall_ok (eCons_ok (eVarV_ok rfl) eNil_ok) ?_))
    show some (D.int _) = _
    rw [List.length_map, List.length_reverse]
  rw [sseq_nx e1, sseq_nx (cleaned_wh (q.reverse.map D.int) q [] 300 h rfl)]
  refine ret_ok (eCall_ok (eCons_ok (eCut_ok (eVarV_ok rfl) eNoPart_ok (ePart_ok (eVar_ok rfl)) (a := .lst ((stripR q).reverse.map D.int)) ?_) eNil_ok) rfl)
  obtain ⟨k, e⟩ := stripR_app q
  show some (D.lst (cutD _ none _)) = _
  have e2 : q.reverse.map D.int = (stripR q).reverse.map D.int ++ (List.replicate k 0).reverse.map D.int := by
    rw [← List.map_append, ← List.reverse_append, ← e]
  rw [e2, cutD_to (by simp)]

/-! ### p_rest -/
theorem rest_in (r0 : Sl) (top : Int) (post : List Int) (ht : top.natAbs < 2 ^ 400) (o1 : D) (lo : Nat) (ho : gLen [o1] = some (.int lo)) : ∀ (bs xs : List Int) (k : Nat) (A B : List D) (x4 x5 : Sl), bs.length = xs.length → (∀ b ∈ bs, b.natAbs < 2 ^ 400) → (A.length : Int) + xs.length + B.length - lo + 1 + k = A.length →
    ∃ x4' x5', loopS (tgT 2 (tgCons (tgN 4) (tgCons (tgN 5) tgNil))) (augIS dSub 2 (eop2 dAdd (eop2 dAdd (eop2 dSub (eCall gLen (eCons (eVarV 2) eNil)) (eCall gLen (eCons (eVarV 1) eNil))) (eC (.int 1))) (eVar 4)) (eop2 dMul (eVar 3) (eVar 5)))
      (enumD k (bs.map D.int)) none [r0, .dat o1, .own (A ++ (xs.map D.int ++ B)), .dat (.int top), x4, x5] =
      .nx [r0, .dat o1, .own (A ++ ((zipA top bs xs).map D.int ++ B)), .dat (.int top), x4', x5'] none
  | [], [], k, A, B, x4, x5, _, _, _ => ⟨x4, x5, rfl⟩
  | [], _ :: _, _, _, _, _, _, h, _, _ => by simp at h
  | _ :: _, [], _, _, _, _, _, h, _, _ => by simp at h
  | b :: bs, x :: xs, k, A, B, x4, x5, hl, hb, hA => by
    have ih := rest_in r0 top post ht o1 lo ho bs xs (k + 1) (A ++ [.int (x + top * -b)]) B (.dat (.int k)) (.dat (.int b)) (by simpa using hl) (fun z h => hb z (List.mem_cons_of_mem _ h)) (by simp at hA ⊢; omega)
    obtain ⟨x4', x5', ih⟩ := ih
    refine ⟨x4', x5', ?_⟩
    have e2 : A ++ [D.int (x + top * -b)] ++ (xs.map D.int ++ B) = A ++ .int (x + top * -b) :: (xs.map D.int ++ B) := by simp
    have e3 : A ++ [D.int (x + top * -b)] ++ ((zipA top bs xs).map D.int ++ B) = A ++ ((zipA top (b :: bs) (x :: xs)).map D.int ++ B) := by simp [zipA]
    rw [e2, e3] at ih
    show loopS _ _ (.tup [.int (k : Nat), .int b] :: enumD (k + 1) (bs.map D.int)) none _ = _
    refine Eq.trans (loopS_go (w2 := none) (e1 := [r0, .dat o1, .own (A ++ ((x :: xs).map D.int ++ B)), .dat (.int top), .dat (.int k), .dat (.int b)]) rfl ?_) ih
    have hm : mulFits top b = true := mulFits_of 400 400 ht (hb b List.mem_cons_self) (by decide) (by decide) (by decide)
    have hmul : dMul (.int top) (.int b) = some (.int (top * b)) := by unfold dMul; dsimp only; rw [hm, if_pos rfl]
    refine augIS_ok (w2 := none) rfl (eop2_ok (eop2_ok (eop2_ok (eCall_ok (eCons_ok (eVarV_own rfl) eNil_ok) rfl) (eCall_ok (eCons_ok (eVarV_ok rfl) eNil_ok) ho) rfl) eC_ok rfl) (eVar_ok rfl) rfl) (x := .int x) (dIx_app (A := A) (B := xs.map D.int ++ B) ?_) (eop2_ok (eVar_ok rfl) (eVar_ok rfl) hmul) (r := .int (x + top * -b)) ?_ (putAt_app (A := A) (x := .int x) ?_)
    · simp at hA ⊢; omega
    · show some (D.int _) = _
      rw [Int.mul_neg, Int.sub_eq_add_neg]
    · simp at hA ⊢; omega
theorem subR_zero : ∀ bs q : List Int, bs.length ≤ q.length → subR 0 bs q = q
  | [], q, _ => rfl
  | _ :: _, [], h => by simp at h
  | b :: bs, x :: q, h => by
    show (x + 0 * -b) :: subR 0 bs q = _
    rw [subR_zero bs q (by simpa using h), Int.zero_mul, Int.add_zero]
abbrev restBody : S := (sseq (popTo 2 3)
    (ifS (eB (eop2 dNe (eVarV 3) (eC (.int 0)))) (forS (eCall gEnum (eCons (eCut gCutT (eVarV 1) eNoPart (ePart (eNeg (eC (.int 1))))) eNil)) (tgT 2 (tgCons (tgN 4) (tgCons (tgN 5) tgNil))) (augIS dSub 2 (eop2 dAdd (eop2 dAdd (eop2 dSub (eCall gLen (eCons (eVarV 2) eNil)) (eCall gLen (eCons (eVarV 1) eNil))) (eC (.int 1))) (eVar 4)) (eop2 dMul (eVar 3) (eVar 5)))) snil))
theorem rest_wh (r0 : Sl) (bs : List Int) (hb : ∀ b ∈ bs, b.natAbs < 2 ^ 400) : ∀ (n j : Nat) (q res : List Int) (x3 x4 x5 : Sl), remGo n bs.reverse q = some res → ∃ x3' x4' x5',
    whileS (eB (eop2 dGe (eCall gLen (eCons (eVarV 2) eNil)) (eCall gLen (eCons (eVarV 1) eNil)))) restBody (n + j) none [r0, .dat (.tup ((bs ++ [1]).map D.int)), .own (q.reverse.map D.int), x3, x4, x5] =
      .nx [r0, .dat (.tup ((bs ++ [1]).map D.int)), .own (res.reverse.map D.int), x3', x4', x5'] none
  | 0, _, _, _, _, _, _, h => by simp [remGo] at h
  | n + 1, j, q, res, x3, x4, x5, h => by
    unfold remGo at h
    rw [List.length_reverse] at h
    have hc : eB (eop2 dGe (eCall gLen (eCons (eVarV 2) eNil)) (eCall gLen (eCons (eVarV 1) eNil))) none [r0, .dat (.tup ((bs ++ [1]).map D.int)), .own (q.reverse.map D.int), x3, x4, x5] = .ok (decide (bs.length + 1 ≤ q.length)) none := by
      refine eB_ok (eop2_ok (eCall_ok (eCons_ok (eVarV_own rfl) eNil_ok) rfl) (eCall_ok (eCons_ok (eVarV_ok rfl) eNil_ok) rfl) ?_)
      show some (D.bl (decide (_ ≤ _))) = _
      refine congrArg (fun b => some (D.bl b)) (decide_eq_decide.mpr ?_)
      simp
      omega
    rw [show n + 1 + j = (n + j) + 1 by omega]
    by_cases z : q.length ≤ bs.length
    · rw [if_pos z] at h
      cases h
      rw [decide_eq_false (by omega)] at hc
      exact ⟨x3, x4, x5, whileS_stop hc⟩
    · rw [if_neg z] at h
      cases q with
      | nil => cases h
      | cons top r =>
        dsimp only at h
        split at h
        · rename_i hs
          rw [Bool.and_eq_true, List.all_eq_true] at hs
          obtain ⟨hs1, hs2⟩ := hs
          have ht := sm_iff.mp hs1
          have hlr : bs.length ≤ r.length := by simp at z; omega
          obtain ⟨r1, hr1⟩ : ∃ r1, r1 = r.take bs.length := ⟨_, rfl⟩
          obtain ⟨r2, hr2⟩ : ∃ r2, r2 = r.drop bs.length := ⟨_, rfl⟩
          have er : r = r1 ++ r2 := by rw [hr1, hr2, List.take_append_drop]
          have l1 : bs.length = r1.length := by rw [hr1, List.length_take]; omega
          have esub : (subR top bs.reverse r).reverse = r2.reverse ++ zipA top bs r1.reverse := by
            rw [er, subR_app _ _ _ _ (by simpa using l1), List.reverse_append, zipA_rev _ _ _ l1]
          rw [decide_eq_true (by simp; omega)] at hc
          have e1 : popTo 2 3 none [r0, .dat (.tup ((bs ++ [1]).map D.int)), .own ((top :: r).reverse.map D.int), x3, x4, x5] = .nx [r0, .dat (.tup ((bs ++ [1]).map D.int)), .own (r.reverse.map D.int), .dat (.int top), x4, x5] none := by
            rw [show (top :: r).reverse.map D.int = r.reverse.map D.int ++ [.int top] by simp]
            exact popTo_ok rfl
          have body : ∃ x4' x5', restBody none [r0, .dat (.tup ((bs ++ [1]).map D.int)), .own ((top :: r).reverse.map D.int), x3, x4, x5] = .nx [r0, .dat (.tup ((bs ++ [1]).map D.int)), .own ((subR top bs.reverse r).reverse.map D.int), .dat (.int top), x4', x5'] none := by
            unfold restBody
            rw [sseq_nx e1]
            have c0 : eB (eop2 dNe (eVarV 3) (eC (.int 0))) none [r0, .dat (.tup ((bs ++ [1]).map D.int)), .own (r.reverse.map D.int), .dat (.int top), x4, x5] = .ok (!decide (top = 0)) none := eB_ok (eop2_ok (eVarV_ok rfl) eC_ok (dNe_int _ _))
            by_cases y : top = 0
            · rw [decide_eq_true y] at c0
              refine ⟨x4, x5, (ifS_f c0).trans ?_⟩
              rw [y, subR_zero _ _ (by simpa using hlr)]
              rfl
            · rw [decide_eq_false y] at c0
              obtain ⟨x4', x5', e⟩ := rest_in r0 top [] ht (.tup ((bs ++ [1]).map D.int)) (bs.length + 1) (by show some (D.int _) = _; rw [List.length_map, List.length_append]; rfl) bs r1.reverse 0 (r2.reverse.map D.int) [] x4 x5 (by simpa using l1) hb (by simp; omega)
              refine ⟨x4', x5', (ifS_t c0).trans ?_⟩
              have ec : gCutT (.tup ((bs ++ [1]).map D.int)) none (some (-1)) = some (.tup (bs.map D.int)) := by
                show some (D.tup (cutD _ none (some (-1)))) = _
                unfold cutD
                have hn : HT.sIx ((bs ++ [1]).map D.int).length ((bs ++ [1]).map D.int).length (some (-1)) = (bs.map D.int).length := by
                  have hneg : ∀ n d : Nat, HT.sIx n d (some (-1)) = ((-1 : Int) + n).toNat := fun _ _ => rfl
                  rw [hneg]
                  simp
                  omega
                rw [hn, HT.sIx_none, List.drop_zero, Nat.sub_zero, List.map_append]
                exact congrArg (fun x => some (D.tup x)) List.take_left
              refine (forS_of (eCall_ok (eCons_ok (eCut_ok (eVarV_ok rfl) eNoPart_ok (ePart_ok (eNeg_ok eC_ok)) ec) eNil_ok) (a := enumD 0 (bs.map D.int)) rfl)).trans ?_
              have g1 : r.reverse.map D.int = r2.reverse.map D.int ++ (r1.reverse.map D.int ++ []) := by rw [er]; simp
              rw [g1, e, esub]
              simp
          obtain ⟨y4, y5, body⟩ := body
          obtain ⟨z3, z4, z5, ih⟩ := rest_wh r0 bs hb n j _ res (.dat (.int top)) y4 y5 h
          exact ⟨z3, z4, z5, (whileS_go hc body).trans ih⟩
        · cases h
theorem p_rest_ok (n : Nat) (p bs res : List Int) (hb : ∀ b ∈ bs, b.natAbs < 2 ^ 400) (hn : n ≤ 300) (hm : bs.length < 300) (h : remGo n bs.reverse p.reverse = some res) : PM.m_p_rest [polyD p, polyD (bs ++ [1])] = .ok (polyD (stripR res).reverse) := by
  unfold PM.m_p_rest
  refine mRun_at (w := none) (e0 := [.dat (.tup (p.map D.int)), .dat (.tup ((bs ++ [1]).map D.int)), .un, .un, .un, .un]) rfl rfl ?_
  unfold PM.b_p_rest
  have e1 : setS 2 (eOwn (eCall gList (eCons (eVarV 0) eNil))) none [.dat (.tup (p.map D.int)), .dat (.tup ((bs ++ [1]).map D.int)), .un, .un, .un, .un] = .nx [.dat (.tup (p.map D.int)), .dat (.tup ((bs ++ [1]).map D.int)), .own (p.reverse.reverse.map D.int), .un, .un, .un] none := by
    rw [List.reverse_reverse]
    rfl
  rw [sseq_nx e1]
  obtain ⟨x3, x4, x5, e2⟩ := rest_wh (.dat (.tup (p.map D.int))) bs hb n (300 - n) p.reverse res .un .un .un h
  rw [show n + (300 - n) = 300 by omega] at e2
  rw [sseq_nx e2]
  have hr := remGo_len n _ _ _ h
  rw [List.length_reverse] at hr
  refine (sseq_nx (e1 := [.dat (.tup (p.map D.int)), .dat (.tup ((bs ++ [1]).map D.int)), .dat (.lst (res.reverse.map D.int)), x3, x4, x5]) (w1 := none) rfl).trans ?_
  exact ret_ok (eFun_ok (eCons_ok (eVar_ok rfl) eNil_ok) (cleaned_ok res (by omega)))

/-! ### the number of a polynomial at a level -/
theorem padR_strip (m : Nat) (q : List Int) (h : q.length ≤ m) : (stripR q).reverse ++ List.replicate (m - (stripR q).length) 0 = padR m q := by
  obtain ⟨k, e⟩ := stripR_app q
  unfold padR
  have hl := congrArg List.length e
  rw [List.length_append, List.length_replicate] at hl
  rw [show q.reverse = (stripR q).reverse ++ List.replicate k 0 by
    have := congrArg List.reverse e
    rw [List.reverse_append, List.reverse_replicate] at this
    exact this]
  rw [List.append_assoc, List.replicate_append_replicate]
  congr 2
  omega
theorem frac_loop (r0 : Sl) : ∀ (xs : List Int) (acc : List D) (x3 x4 : Sl), acc.length + xs.length < 16777216 → ∃ x3' x4', loopS (tgN 3) (sseq (setS 4 (eDat (eIf (eB (eop2 dGt (eVar 1) (eC (.int 0)))) (eCall gGcd (eCons (eVarV 3) (eCons (eVarV 1) eNil))) (eNeg (eCall gGcd (eCons (eVarV 3) (eCons (eVarV 1) eNil)))))))
    (appS 2 (eTup (eCons (eop2 dDiv (eVar 3) (eVar 4)) (eCons (eop2 dDiv (eVar 1) (eVar 4)) eNil))))) (xs.map D.int) none [r0, .dat (.int 1), .own acc, x3, x4] = .nx [r0, .dat (.int 1), .own (acc ++ xs.map fD), x3', x4'] none
  | [], acc, x3, x4, _ => ⟨x3, x4, by simp [loopS]⟩
  | x :: xs, acc, x3, x4, h => by
    obtain ⟨y3, y4, ih⟩ := frac_loop r0 xs (acc ++ [fD x]) (.dat (.int x)) (.dat (.int 1)) (by simp at h ⊢; omega)
    refine ⟨y3, y4, ?_⟩
    rw [show acc ++ (x :: xs).map fD = acc ++ [fD x] ++ xs.map fD by simp]
    refine Eq.trans (loopS_go (w2 := none) (e1 := [r0, .dat (.int 1), .own acc, .dat (.int x), x4]) rfl ?_) ih
    have hg : gGcd [.int x, .int 1] = some (.int 1) := by
      show some (D.int ((Nat.gcd x.natAbs (1 : Int).natAbs : Nat) : Int)) = _
      rw [show (1 : Int).natAbs = 1 from rfl, Nat.gcd_one_right]
      rfl
    have hd : ∀ y : Int, dDiv (.int y) (.int 1) = some (.int y) := fun y => by unfold dDiv; dsimp only; rw [show divFits 1 = true by decide +kernel, if_pos rfl, Int.ediv_one]
    have e4 : setS 4 (eDat (eIf (eB (eop2 dGt (eVar 1) (eC (.int 0)))) (eCall gGcd (eCons (eVarV 3) (eCons (eVarV 1) eNil))) (eNeg (eCall gGcd (eCons (eVarV 3) (eCons (eVarV 1) eNil)))))) none [r0, .dat (.int 1), .own acc, .dat (.int x), x4] = .nx [r0, .dat (.int 1), .own acc, .dat (.int x), .dat (.int 1)] none :=
      setS_ok (eDat_ok ((eIf_t (w1 := none) rfl).trans (eCall_ok (eCons_ok (eVarV_ok rfl) (eCons_ok (eVarV_ok rfl) eNil_ok)) hg)))
    rw [sseq_nx e4]
    have e5 : eTup (eCons (eop2 dDiv (eVar 3) (eVar 4)) (eCons (eop2 dDiv (eVar 1) (eVar 4)) eNil)) none [r0, .dat (.int 1), .own acc, .dat (.int x), .dat (.int 1)] = .ok (fD x) none :=
      eTup_ok (eCons_ok (eop2_ok (eVar_ok rfl) (eVar_ok rfl) (hd x)) (eCons_ok (eop2_ok (eVar_ok rfl) (eVar_ok rfl) (hd 1)) eNil_ok)) (by simp)
    exact appS_ok rfl e5 (by simp at h; omega)
theorem fractions_one (xs : List Int) (h : xs.length < 16777216) : PM.m_fractions [.lst (xs.map D.int), .int 1] = .ok (.tup (xs.map fD)) := by
  unfold PM.m_fractions
  refine mRun_at (w := none) (e0 := [.dat (.lst (xs.map D.int)), .dat (.int 1), .un, .un, .un]) rfl rfl ?_
  unfold PM.b_fractions
  have e1 : setS 2 (eOwn (eList eNil)) none [.dat (.lst (xs.map D.int)), .dat (.int 1), .un, .un, .un] = .nx [.dat (.lst (xs.map D.int)), .dat (.int 1), .own [], .un, .un] none := rfl
  rw [sseq_nx e1]
  obtain ⟨x3, x4, e2⟩ := frac_loop (.dat (.lst (xs.map D.int))) xs [] .un .un (by simpa using h)
  refine (sseq_nx (Eq.trans (forS_of (ds := xs.map D.int) (w1 := none) rfl) e2)).trans ?_
  rw [List.nil_append]
  rfl
theorem padded_ok (n : Nat) (L : Int) (p bs res : List Int) (hL : PM.m_least_told [.int L] = .ok (polyD (bs ++ [1]))) (hb : ∀ b ∈ bs, b.natAbs < 2 ^ 400) (hn : n ≤ 300) (hm : bs.length < 300) (h : remGo n bs.reverse p.reverse = some res) : PM.m_padded [.int L, polyD p] = .ok (.lst ((padR bs.length res).map D.int)) := by
  have hr := remGo_len n _ _ _ h
  rw [List.length_reverse] at hr
  have hs := stripR_len res
  unfold PM.m_padded
  refine mRun_at (w := none) (e0 := [.dat (.int L), .dat (polyD p), .un, .un]) rfl rfl ?_
  unfold PM.b_padded
  have e1 : setS 2 (eDat (eFun PM.m_least_told (eCons (eVar 0) eNil))) none [.dat (.int L), .dat (polyD p), .un, .un] = .nx [.dat (.int L), .dat (polyD p), .dat (polyD (bs ++ [1])), .un] none := setS_ok (eDat_ok (eFun_ok (eCons_ok (eVar_ok rfl) eNil_ok) hL))
  have e2 : setS 3 (eDat (eFun PM.m_p_rest (eCons (eVar 1) (eCons (eVar 2) eNil)))) none [.dat (.int L), .dat (polyD p), .dat (polyD (bs ++ [1])), .un] = .nx [.dat (.int L), .dat (polyD p), .dat (polyD (bs ++ [1])), .dat (polyD (stripR res).reverse)] none :=
    setS_ok (eDat_ok (eFun_ok (eCons_ok (eVar_ok rfl) (eCons_ok (eVar_ok rfl) eNil_ok)) (p_rest_ok n p bs res hb hn hm h)))
  rw [sseq_nx e1, sseq_nx e2]
  refine ret_ok (eLst_ok (eop2_ok (eLst_ok (eCall_ok (eCons_ok (eVarV_ok rfl) eNil_ok) rfl)) (eLst_ok (eop2_ok (eLst_ok (eList_ok (eCons_ok eC_ok eNil_ok) (by simp))) (eop2_ok (eop2_ok (eCall_ok (eCons_ok (eVarV_ok rfl) eNil_ok) rfl) eC_ok rfl) (eCall_ok (eCons_ok (eVarV_ok rfl) eNil_ok) rfl) rfl) (?_ : _ = some (List.replicate (bs.length - (stripR res).length) (D.int 0))))) ?_))
  · unfold dRepL
    dsimp only
    have e : ((((bs ++ [1]).map D.int).length : Int) - 1 - (((stripR res).reverse.map D.int).length : Int)).toNat = bs.length - (stripR res).length := by simp
    have e' : ((((bs ++ [1]).map D.int).length : Int) - 1 - (((stripR res).reverse.map D.int).length : Int)) = ((bs.length - (stripR res).length : Nat) : Int) := by simp; omega
    rw [e, if_pos ⟨by rw [e']; omega, by rw [e']; omega, by simp; omega⟩]
    show some (List.replicate _ [D.int 0]).flatten = _
    rw [List.flatten_replicate_singleton]
  · unfold dCatL
    dsimp only
    rw [if_pos (by simp; omega), ← padR_strip _ _ hr]
    simp
theorem n_of_polynomial_ok (n : Nat) (L : Int) (p bs res : List Int) (h0 : L ≠ 0) (hL : PM.m_least_told [.int L] = .ok (polyD (bs ++ [1]))) (hb : ∀ b ∈ bs, b.natAbs < 2 ^ 400) (hn : n ≤ 300) (hm : bs.length < 300) (h : remGo n bs.reverse p.reverse = some res) :
    PM.m_n_of_polynomial [.int L, polyD p] = .ok (.tup ((padR bs.length res).map fD)) := by
  have hr := remGo_len n _ _ _ h
  rw [List.length_reverse] at hr
  unfold PM.m_n_of_polynomial
  refine mRun_at (w := none) (e0 := [.dat (.int L), .dat (polyD p)]) rfl rfl ?_
  unfold PM.b_n_of_polynomial
  refine ret_ok ((eIf_f (eB_ok (eop2_ok (eVarV_ok rfl) eC_ok (?_ : _ = some (D.bl false))))).trans (eFun_ok (eCons_ok (eFun_ok (eCons_ok (eVar_ok rfl) (eCons_ok (eVar_ok rfl) eNil_ok)) (padded_ok n L p bs res hL hb hn hm h)) (eCons_ok eC_ok eNil_ok)) (fractions_one _ ?_)))
  · rw [dEq_int, decide_eq_false h0]
  · unfold padR
    simp
    omega
theorem n_of_polynomial_zero (p : D) : PM.m_n_of_polynomial [.int 0, p] = .ok (.tup [p, .tup [.int 1]]) := by
  unfold PM.m_n_of_polynomial
  refine mRun_at (w := none) (e0 := [.dat (.int 0), .dat p]) rfl rfl ?_
  unfold PM.b_n_of_polynomial
  exact ret_ok ((eIf_t (eB_ok (eop2_ok (eVarV_ok rfl) eC_ok (dEq_int 0 0)))).trans (eTup_ok (eCons_ok (eVar_ok rfl) (eCons_ok (eTup_ok (eCons_ok eC_ok eNil_ok) (by simp)) eNil_ok)) (by simp)))
end DL
set_option Elab.async false
set_option linter.all false
set_option autoImplicit false
set_option maxRecDepth 100000
set_option maxHeartbeats 1000000
set_option exponentiation.threshold 3000
/-! DP3: products and exact quotients of polynomials. -/
namespace DL
open PySem PySem.Spec PyProof.Rows L2
/-! ### flat data is compared -/
theorem pys_ints : ∀ xs : List Int, D.pys (xs.map D.int) = some (xs.map PyData.int)
  | [] => rfl
  | x :: xs => by
    rw [List.map_cons, D.pys, pys_ints xs]
    rfl
def fPy (a : Int) : PyData := .tuple [.int a, .int 1]
theorem pys_fD : ∀ xs : List Int, D.pys (xs.map fD) = some (xs.map fPy)
  | [] => rfl
  | x :: xs => by
    rw [List.map_cons, D.pys, pys_fD xs]
    rfl
theorem lay_ints : ∀ xs : List Int, PyData.canLayAll0 (xs.map PyData.int) = true ∧ PyData.depthAll (xs.map PyData.int) ≤ 2
  | [] => ⟨rfl, by simp [PyData.depthAll]⟩
  | x :: xs => by
    have ih := lay_ints xs
    refine ⟨?_, ?_⟩
    · simp [PyData.canLayAll0, PyData.canLay0, ih.1]
    · simp [PyData.depthAll, PyData.depth, ih.2]
theorem lay_fPy : ∀ xs : List Int, PyData.canLayAll0 (xs.map fPy) = true ∧ PyData.depthAll (xs.map fPy) ≤ 2
  | [] => ⟨rfl, by simp [PyData.depthAll]⟩
  | x :: xs => by
    have ih := lay_fPy xs
    refine ⟨?_, ?_⟩
    · simp [fPy, PyData.canLayAll0, PyData.canLay0, ih.1]
    · have h2 := ih.2
      simp [fPy, PyData.depthAll, PyData.depth]
      omega
theorem shaped_lst {ps : List PyData} (h : PyData.canLayAll0 ps = true ∧ PyData.depthAll ps ≤ 2) : SeqAt.shaped (.list ps) = true ∧ SeqAt.shaped (.tuple ps) = true := by
  unfold SeqAt.shaped
  simp only [PyData.canLay0, PyData.depth, h.1, Bool.true_and]
  have h2 := h.2
  exact ⟨decide_eq_true (by omega), decide_eq_true (by omega)⟩
theorem eqPy_nilL {ds : List D} {ps : List PyData} (h : D.pys ds = some ps) (hl : PyData.canLayAll0 ps = true ∧ PyData.depthAll ps ≤ 2) : eqPy (.lst ds) (.lst []) = some ps.isEmpty := by
  unfold eqPy
  simp only [D.py, h, D.pys]
  have h0 : SeqAt.shaped (.list []) = true := (shaped_lst ⟨rfl, by simp [PyData.depthAll]⟩).1
  rw [(shaped_lst hl).1, h0]
  simp only [Bool.and_self, if_true]
  cases ps with
  | nil => rfl
  | cons p ps => simp [PyData.eqv, PyData.eqvAll]
theorem eqPy_nilT {ds : List D} {ps : List PyData} (h : D.pys ds = some ps) (hl : PyData.canLayAll0 ps = true ∧ PyData.depthAll ps ≤ 2) : eqPy (.tup ds) (.tup []) = some ps.isEmpty := by
  unfold eqPy
  simp only [D.py, h, D.pys]
  have h0 : SeqAt.shaped (.tuple []) = true := (shaped_lst ⟨rfl, by simp [PyData.depthAll]⟩).2
  rw [(shaped_lst hl).2, h0]
  simp only [Bool.and_self, if_true]
  cases ps with
  | nil => rfl
  | cons p ps => simp [PyData.eqv, PyData.eqvAll]
theorem dNe_nil_ints (xs : List Int) : dNe (.lst (xs.map D.int)) (.lst []) = some (.bl (!xs.isEmpty)) := by
  unfold dNe
  rw [eqPy_nilL (pys_ints xs) (lay_ints xs)]
  cases xs <;> rfl
theorem dNe_nil_fD (xs : List Int) : dNe (.lst (xs.map fD)) (.lst []) = some (.bl (!xs.isEmpty)) := by
  unfold dNe
  rw [eqPy_nilL (pys_fD xs) (lay_fPy xs)]
  cases xs <;> rfl
theorem dEq_nil_T (xs : List Int) : dEq (.tup (xs.map D.int)) (.tup []) = some (.bl xs.isEmpty) := by
  unfold dEq
  rw [eqPy_nilT (pys_ints xs) (lay_ints xs)]
  cases xs <;> rfl
theorem dEq_nil_fD (xs : List Int) : dEq (.lst (xs.map fD)) (.lst []) = some (.bl xs.isEmpty) := by
  unfold dEq
  rw [eqPy_nilL (pys_fD xs) (lay_fPy xs)]
  cases xs <;> rfl

/-! ### products -/
def addS (a : Int) : List Int → List Int → List Int
  | [], F => F
  | _ :: _, [] => []
  | b :: ys, f :: F => (f + a * b) :: addS a ys F
def mulGo : List Int → List Int → List Int → List Int
  | [], _, F => F
  | x :: xs, ys, F => match addS x ys F with
    | [] => []
    | h :: t => h :: mulGo xs ys t
theorem addS_len (a : Int) : ∀ ys F : List Int, ys.length ≤ F.length → (addS a ys F).length = F.length
  | [], F, _ => rfl
  | _ :: _, [], h => by simp at h
  | b :: ys, f :: F, h => by
    show (addS a ys F).length + 1 = F.length + 1
    rw [addS_len a ys F (by simpa using h)]
theorem addS_zero : ∀ ys F : List Int, ys.length ≤ F.length → addS 0 ys F = F
  | [], F, _ => rfl
  | _ :: _, [], h => by simp at h
  | b :: ys, f :: F, h => by
    show (f + 0 * b) :: addS 0 ys F = _
    rw [addS_zero ys F (by simpa using h), Int.zero_mul, Int.add_zero]
/-- the law's inner loop of a product -/
theorem lmul_in (s0 s1 x7 : Sl) (k : Nat) (a : Int) (ha : a.natAbs < 2 ^ 400) : ∀ (ys F : List Int) (j : Nat) (A : List D) (x5 x6 : Sl), ys.length ≤ F.length → (∀ y ∈ ys, y.natAbs < 2 ^ 400) → A.length = k + j →
    ∃ x5' x6', loopS (tgT 2 (tgCons (tgN 5) (tgCons (tgN 6) tgNil))) (setIS 2 (eop2 dAdd (eop2 dIx (eVarV 2) (eop2 dAdd (eVar 3) (eVar 5))) (eop2 dMul (eVar 4) (eVar 6))) (eop2 dAdd (eVar 3) (eVar 5)))
      (enumD j (ys.map D.int)) none [s0, s1, .own (A ++ F.map D.int), .dat (.int k), .dat (.int a), x5, x6] = .nx [s0, s1, .own (A ++ (addS a ys F).map D.int), .dat (.int k), .dat (.int a), x5', x6'] none
  | [], F, j, A, x5, x6, _, _, _ => ⟨x5, x6, rfl⟩
  | _ :: _, [], _, _, _, _, h, _, _ => by simp at h
  | b :: ys, f :: F, j, A, x5, x6, hl, hy, hA => by
    obtain ⟨x5', x6', ih⟩ := lmul_in s0 s1 x7 k a ha ys F (j + 1) (A ++ [.int (f + a * b)]) (.dat (.int j)) (.dat (.int b)) (by simpa using hl) (fun z h => hy z (List.mem_cons_of_mem _ h)) (by simp; omega)
    refine ⟨x5', x6', ?_⟩
    have e2 : A ++ [D.int (f + a * b)] ++ F.map D.int = A ++ .int (f + a * b) :: F.map D.int := by simp
    have e3 : A ++ [D.int (f + a * b)] ++ (addS a ys F).map D.int = A ++ (addS a (b :: ys) (f :: F)).map D.int := by simp [addS]
    rw [e2, e3] at ih
    show loopS _ _ (.tup [.int (j : Nat), .int b] :: enumD (j + 1) (ys.map D.int)) none _ = _
    refine Eq.trans (loopS_go (w2 := none) (e1 := [s0, s1, .own (A ++ (f :: F).map D.int), .dat (.int k), .dat (.int a), .dat (.int j), .dat (.int b)]) rfl ?_) ih
    have hm : mulFits a b = true := mulFits_of 400 400 ha (hy b List.mem_cons_self) (by decide) (by decide) (by decide)
    have hmul : dMul (.int a) (.int b) = some (.int (a * b)) := by unfold dMul; dsimp only; rw [hm, if_pos rfl]
    have hi : eop2 dAdd (eVar 3) (eVar 5) none [s0, s1, .own (A ++ (f :: F).map D.int), .dat (.int k), .dat (.int a), .dat (.int j), .dat (.int b)] = .ok (.int ((k : Int) + j)) none := eop2_ok (eVar_ok rfl) (eVar_ok rfl) rfl
    exact setIS_ok (w2 := none) (eop2_ok (eop2_ok (eVarV_own rfl) hi (dIx_app (A := A) (x := .int f) (B := F.map D.int) (by omega))) (eop2_ok (eVar_ok rfl) (eVar_ok rfl) hmul) rfl) rfl hi (putAt_app (A := A) (x := .int f) (by omega))
/-- the law's outer loop of a product -/
theorem lmul_out (s0 : Sl) (ys : List Int) (hy : ∀ y ∈ ys, y.natAbs < 2 ^ 400) (hy0 : ys ≠ []) : ∀ (xs F : List Int) (k : Nat) (A : List D) (x3 x4 x5 x6 : Sl), (∀ x ∈ xs, x.natAbs < 2 ^ 400) → xs.length + ys.length ≤ F.length + 1 → A.length = k →
    ∃ x3' x4' x5' x6', loopS (tgT 2 (tgCons (tgN 3) (tgCons (tgN 4) tgNil))) (forS (eCall gEnum (eCons (eVar 1) eNil)) (tgT 2 (tgCons (tgN 5) (tgCons (tgN 6) tgNil))) (setIS 2 (eop2 dAdd (eop2 dIx (eVarV 2) (eop2 dAdd (eVar 3) (eVar 5))) (eop2 dMul (eVar 4) (eVar 6))) (eop2 dAdd (eVar 3) (eVar 5))))
      (enumD k (xs.map D.int)) none [s0, .dat (polyD ys), .own (A ++ F.map D.int), x3, x4, x5, x6] = .nx [s0, .dat (polyD ys), .own (A ++ (mulGo xs ys F).map D.int), x3', x4', x5', x6'] none
  | [], F, k, A, x3, x4, x5, x6, _, _, _ => ⟨x3, x4, x5, x6, rfl⟩
  | x :: xs, F, k, A, x3, x4, x5, x6, hx, hl, hA => by
    have hlen : ys.length ≤ F.length := by simp at hl; omega
    obtain ⟨y5, y6, e1⟩ := lmul_in s0 (.dat (polyD ys)) .un k x (hx x List.mem_cons_self) ys F 0 A x5 x6 hlen hy (by omega)
    have hne := addS_len x ys F hlen
    cases hF : addS x ys F with
    | nil =>
      rw [hF] at hne
      have : ys.length = 0 := by simp at hne; omega
      exact absurd (List.length_eq_zero_iff.mp this) hy0
    | cons h t =>
      rw [hF] at hne e1
      obtain ⟨z3, z4, z5, z6, ih⟩ := lmul_out s0 ys hy hy0 xs t (k + 1) (A ++ [.int h]) (.dat (.int k)) (.dat (.int x)) y5 y6 (fun z h => hx z (List.mem_cons_of_mem _ h)) (by simp at hne hl; omega) (by simp [hA])
      refine ⟨z3, z4, z5, z6, ?_⟩
      have e2 : A ++ [D.int h] ++ t.map D.int = A ++ (h :: t).map D.int := by simp
      have e3 : A ++ [D.int h] ++ (mulGo xs ys t).map D.int = A ++ (mulGo (x :: xs) ys F).map D.int := by simp [mulGo, hF]
      rw [e2, e3] at ih
      show loopS _ _ (.tup [.int (k : Nat), .int x] :: enumD (k + 1) (xs.map D.int)) none _ = _
      refine Eq.trans (loopS_go (w2 := none) (e1 := [s0, .dat (polyD ys), .own (A ++ F.map D.int), .dat (.int k), .dat (.int x), x5, x6]) rfl ?_) ih
      exact (forS_of (eCall_ok (eCons_ok (eVar_ok rfl) eNil_ok) (a := enumD 0 (ys.map D.int)) rfl)).trans e1
/-- _law_cleaned -/
theorem lclean_wh (s0 : Sl) : ∀ (q : List Int) (n : Nat), q.length < n →
    whileS (eAnd (eB (eop2 dNe (eVarV 1) (eLst (eList eNil)))) (eB (eop2 dEq (eop2 dIx (eVarV 1) (eNeg (eC (.int 1)))) (eC (.int 0))))) (popS 1) n none [s0, .own (q.reverse.map D.int)] = .nx [s0, .own ((stripR q).reverse.map D.int)] none
  | [], n + 1, _ => whileS_stop (eAnd_f (eB_ok (eop2_ok (eVarV_own rfl) (eLst_ok (eList_ok eNil_ok (by simp))) (dNe_nil_ints []))))
  | x :: r, n + 1, hn => by
    have c1 : eB (eop2 dNe (eVarV 1) (eLst (eList eNil))) none [s0, .own ((x :: r).reverse.map D.int)] = .ok true none := by
      refine eB_ok (eop2_ok (eVarV_own rfl) (eLst_ok (eList_ok eNil_ok (by simp))) ?_)
      rw [dNe_nil_ints]
      simp
    have hx : dIx (.lst ((x :: r).reverse.map D.int)) (.int (-1)) = some (.int x) := by
      show atI _ (-1) = _
      unfold atI ixN
      rw [if_neg (by decide), if_pos (by simp; omega)]
      show ((x :: r).reverse.map D.int)[(-1 + (((x :: r).reverse.map D.int).length : Int)).toNat]? = _
      rw [show (x :: r).reverse.map D.int = r.reverse.map D.int ++ [.int x] by simp, List.getElem?_append_right (by simp; omega)]
      have : (-1 + (((r.reverse.map D.int ++ [D.int x]).length : Nat) : Int)).toNat - (r.reverse.map D.int).length = 0 := by simp; omega
      rw [this]
      rfl
    have c2 := (eAnd_t c1).trans (eB_ok (eop2_ok (eop2_ok (eVarV_own rfl) (eNeg_ok eC_ok) hx) eC_ok (dEq_int x 0)) : eB (eop2 dEq (eop2 dIx (eVarV 1) (eNeg (eC (.int 1)))) (eC (.int 0))) none [s0, .own ((x :: r).reverse.map D.int)] = _)
    unfold stripR
    by_cases h : x = 0
    · rw [decide_eq_true h] at c2
      rw [if_pos h]
      have e : (x :: r).reverse.map D.int = r.reverse.map D.int ++ [.int x] := by simp
      refine Eq.trans (whileS_go c2 ?_) (lclean_wh s0 r n (by simp at hn; omega))
      rw [e]
      exact popS_ok rfl
    · rw [decide_eq_false h] at c2
      rw [if_neg h]
      exact whileS_stop c2
theorem lclean_ok (q : List Int) (h : q.length < 300) : LM.m__law_cleaned [.lst (q.reverse.map D.int)] = .ok (polyD (stripR q).reverse) := by
  unfold LM.m__law_cleaned
  refine mRun_at (w := none) (e0 := [.dat (.lst (q.reverse.map D.int)), .un]) rfl rfl ?_
  unfold LM.b__law_cleaned
  have e1 : setS 1 (eOwn (eCall gList (eCons (eVarV 0) eNil))) none [.dat (.lst (q.reverse.map D.int)), .un] = .nx [.dat (.lst (q.reverse.map D.int)), .own (q.reverse.map D.int)] none := rfl
  rw [sseq_nx e1, sseq_nx (lclean_wh _ q 300 h)]
  exact ret_ok (eCall_ok (eCons_ok (eVarV_own rfl) eNil_ok) rfl)
def stripL (p : List Int) : List Int := (stripR p.reverse).reverse
theorem rep_ok {a b : Int} (n : Nat) (h : n ≤ 16777216) {z : Int} (hz : z = (n : Int)) : dRepL (.lst [.int 0]) (.int z) = some ((List.replicate n 0).map D.int) := by
  subst hz
  unfold dRepL
  dsimp only
  rw [if_pos ⟨by omega, by omega, by simp; omega⟩]
  show some (List.replicate _ [D.int 0]).flatten = _
  rw [List.flatten_replicate_singleton]
  simp
theorem lmul_ok (xs ys : List Int) (hx : xs.all sm = true) (hy : ys.all sm = true) (hy0 : ys ≠ []) (hl : xs.length + ys.length < 250) (hg : (mulGo xs ys (List.replicate (xs.length + ys.length + 1) 0)).length < 300) :
    LM.m__law_p_times [polyD xs, polyD ys] = .ok (polyD (stripL (mulGo xs ys (List.replicate (xs.length + ys.length + 1) 0)))) := by
  unfold LM.m__law_p_times
  refine mRun_at (w := none) (e0 := [.dat (polyD xs), .dat (polyD ys), .un, .un, .un, .un, .un]) rfl rfl ?_
  unfold LM.b__law_p_times
  have e1 : setS 2 (eOwn (eop2 dRepL (eLst (eList (eCons (eC (.int 0)) eNil))) (eop2 dAdd (eop2 dAdd (eCall gLen (eCons (eVarV 0) eNil)) (eCall gLen (eCons (eVarV 1) eNil))) (eC (.int 1))))) none [.dat (polyD xs), .dat (polyD ys), .un, .un, .un, .un, .un] =
      .nx [.dat (polyD xs), .dat (polyD ys), .own ((List.replicate (xs.length + ys.length + 1) 0).map D.int), .un, .un, .un, .un] none := by
    refine setS_ok (eOwn_ok (eop2_ok (eLst_ok (eList_ok (eCons_ok eC_ok eNil_ok) (by simp))) (eop2_ok (eop2_ok (eCall_ok (eCons_ok (eVarV_ok rfl) eNil_ok) rfl) (eCall_ok (eCons_ok (eVarV_ok rfl) eNil_ok) rfl) rfl) eC_ok rfl) (rep_ok (a := 0) (b := 0) _ (by omega) ?_)))
    simp
  rw [sseq_nx e1]
  obtain ⟨x3, x4, x5, x6, e2⟩ := lmul_out (.dat (polyD xs)) ys (fun y h => sm_iff.mp (List.all_eq_true.mp hy y h)) hy0 xs (List.replicate (xs.length + ys.length + 1) 0) 0 [] .un .un .un .un (fun x h => sm_iff.mp (List.all_eq_true.mp hx x h)) (by simp; omega) rfl
  have e3 := (forS_of (b := (forS (eCall gEnum (eCons (eVar 1) eNil)) (tgT 2 (tgCons (tgN 5) (tgCons (tgN 6) tgNil))) (setIS 2 (eop2 dAdd (eop2 dIx (eVarV 2) (eop2 dAdd (eVar 3) (eVar 5))) (eop2 dMul (eVar 4) (eVar 6))) (eop2 dAdd (eVar 3) (eVar 5)))))
    (g := (tgT 2 (tgCons (tgN 3) (tgCons (tgN 4) tgNil)))) (items := eCall gEnum (eCons (eVar 0) eNil)) (e := [.dat (polyD xs), .dat (polyD ys), .own ((List.replicate (xs.length + ys.length + 1) 0).map D.int), .un, .un, .un, .un]) (w := none) (w1 := none) (ds := enumD 0 (xs.map D.int)) rfl).trans e2
  rw [sseq_nx e3]
  refine (sseq_nx (w1 := none) (e1 := [.dat (polyD xs), .dat (polyD ys), .dat (.lst ((mulGo xs ys (List.replicate (xs.length + ys.length + 1) 0)).map D.int)), x3, x4, x5, x6]) rfl).trans ?_
  have hc := lclean_ok (mulGo xs ys (List.replicate (xs.length + ys.length + 1) 0)).reverse (by simpa using hg)
  rw [List.reverse_reverse] at hc
  exact ret_ok (eFun_ok (eCons_ok (eVar_ok rfl) eNil_ok) hc)
/-! ### p_times -/
theorem pmul_in (s0 s1 : Sl) (k : Nat) (a : Int) (ha : a.natAbs < 2 ^ 400) : ∀ (ys F : List Int) (j : Nat) (A : List D) (x5 x6 : Sl), ys.length ≤ F.length → (∀ y ∈ ys, y.natAbs < 2 ^ 400) → A.length = k + j →
    ∃ x5' x6', loopS (tgT 2 (tgCons (tgN 5) (tgCons (tgN 6) tgNil))) (augIS dAdd 2 (eop2 dAdd (eVar 3) (eVar 5)) (eop2 dMul (eVar 4) (eVar 6)))
      (enumD j (ys.map D.int)) none [s0, s1, .own (A ++ F.map D.int), .dat (.int k), .dat (.int a), x5, x6] = .nx [s0, s1, .own (A ++ (addS a ys F).map D.int), .dat (.int k), .dat (.int a), x5', x6'] none
  | [], F, j, A, x5, x6, _, _, _ => ⟨x5, x6, rfl⟩
  | _ :: _, [], _, _, _, _, h, _, _ => by simp at h
  | b :: ys, f :: F, j, A, x5, x6, hl, hy, hA => by
    obtain ⟨x5', x6', ih⟩ := pmul_in s0 s1 k a ha ys F (j + 1) (A ++ [.int (f + a * b)]) (.dat (.int j)) (.dat (.int b)) (by simpa using hl) (fun z h => hy z (List.mem_cons_of_mem _ h)) (by simp; omega)
    refine ⟨x5', x6', ?_⟩
    have e2 : A ++ [D.int (f + a * b)] ++ F.map D.int = A ++ .int (f + a * b) :: F.map D.int := by simp
    have e3 : A ++ [D.int (f + a * b)] ++ (addS a ys F).map D.int = A ++ (addS a (b :: ys) (f :: F)).map D.int := by simp [addS]
    rw [e2, e3] at ih
    show loopS _ _ (.tup [.int (j : Nat), .int b] :: enumD (j + 1) (ys.map D.int)) none _ = _
    refine Eq.trans (loopS_go (w2 := none) (e1 := [s0, s1, .own (A ++ (f :: F).map D.int), .dat (.int k), .dat (.int a), .dat (.int j), .dat (.int b)]) rfl ?_) ih
    have hm : mulFits a b = true := mulFits_of 400 400 ha (hy b List.mem_cons_self) (by decide) (by decide) (by decide)
    have hmul : dMul (.int a) (.int b) = some (.int (a * b)) := by unfold dMul; dsimp only; rw [hm, if_pos rfl]
    have hi : eop2 dAdd (eVar 3) (eVar 5) none [s0, s1, .own (A ++ (f :: F).map D.int), .dat (.int k), .dat (.int a), .dat (.int j), .dat (.int b)] = .ok (.int ((k : Int) + j)) none := eop2_ok (eVar_ok rfl) (eVar_ok rfl) rfl
    exact augIS_ok (w2 := none) rfl hi (x := .int f) (dIx_app (A := A) (B := F.map D.int) (by omega)) (eop2_ok (eVar_ok rfl) (eVar_ok rfl) hmul) rfl (putAt_app (A := A) (x := .int f) (by omega))
theorem pmul_out (s0 : Sl) (ys : List Int) (hy : ∀ y ∈ ys, y.natAbs < 2 ^ 400) (hy0 : ys ≠ []) : ∀ (xs F : List Int) (k : Nat) (A : List D) (x3 x4 x5 x6 : Sl), (∀ x ∈ xs, x.natAbs < 2 ^ 400) → xs.length + ys.length ≤ F.length + 1 → A.length = k →
    ∃ x3' x4' x5' x6', loopS (tgT 2 (tgCons (tgN 3) (tgCons (tgN 4) tgNil))) (ifS (eB (eop2 dNe (eVarV 4) (eC (.int 0)))) (forS (eCall gEnum (eCons (eVar 1) eNil)) (tgT 2 (tgCons (tgN 5) (tgCons (tgN 6) tgNil))) (augIS dAdd 2 (eop2 dAdd (eVar 3) (eVar 5)) (eop2 dMul (eVar 4) (eVar 6)))) snil)
      (enumD k (xs.map D.int)) none [s0, .dat (polyD ys), .own (A ++ F.map D.int), x3, x4, x5, x6] = .nx [s0, .dat (polyD ys), .own (A ++ (mulGo xs ys F).map D.int), x3', x4', x5', x6'] none
  | [], F, k, A, x3, x4, x5, x6, _, _, _ => ⟨x3, x4, x5, x6, rfl⟩
  | x :: xs, F, k, A, x3, x4, x5, x6, hx, hl, hA => by
    have hlen : ys.length ≤ F.length := by simp at hl; omega
    have hne := addS_len x ys F hlen
    -- one turn
    have turn : ∃ y5 y6, ifS (eB (eop2 dNe (eVarV 4) (eC (.int 0)))) (forS (eCall gEnum (eCons (eVar 1) eNil)) (tgT 2 (tgCons (tgN 5) (tgCons (tgN 6) tgNil))) (augIS dAdd 2 (eop2 dAdd (eVar 3) (eVar 5)) (eop2 dMul (eVar 4) (eVar 6)))) snil none [s0, .dat (polyD ys), .own (A ++ F.map D.int), .dat (.int k), .dat (.int x), x5, x6] =
        .nx [s0, .dat (polyD ys), .own (A ++ (addS x ys F).map D.int), .dat (.int k), .dat (.int x), y5, y6] none := by
      have c0 : eB (eop2 dNe (eVarV 4) (eC (.int 0))) none [s0, .dat (polyD ys), .own (A ++ F.map D.int), .dat (.int k), .dat (.int x), x5, x6] = .ok (!decide (x = 0)) none := eB_ok (eop2_ok (eVarV_ok rfl) eC_ok (dNe_int _ _))
      by_cases z : x = 0
      · rw [decide_eq_true z] at c0
        refine ⟨x5, x6, (ifS_f c0).trans ?_⟩
        rw [z, addS_zero ys F hlen]
        rfl
      · rw [decide_eq_false z] at c0
        obtain ⟨y5, y6, e1⟩ := pmul_in s0 (.dat (polyD ys)) k x (hx x List.mem_cons_self) ys F 0 A x5 x6 hlen hy (by omega)
        exact ⟨y5, y6, (ifS_t c0).trans ((forS_of (eCall_ok (eCons_ok (eVar_ok rfl) eNil_ok) (a := enumD 0 (ys.map D.int)) rfl)).trans e1)⟩
    obtain ⟨y5, y6, e1⟩ := turn
    cases hF : addS x ys F with
    | nil =>
      rw [hF] at hne
      have : ys.length = 0 := by simp at hne; omega
      exact absurd (List.length_eq_zero_iff.mp this) hy0
    | cons h t =>
      rw [hF] at hne e1
      obtain ⟨z3, z4, z5, z6, ih⟩ := pmul_out s0 ys hy hy0 xs t (k + 1) (A ++ [.int h]) (.dat (.int k)) (.dat (.int x)) y5 y6 (fun z h => hx z (List.mem_cons_of_mem _ h)) (by simp at hne hl; omega) (by simp [hA])
      refine ⟨z3, z4, z5, z6, ?_⟩
      have e2 : A ++ [D.int h] ++ t.map D.int = A ++ (h :: t).map D.int := by simp
      have e3 : A ++ [D.int h] ++ (mulGo xs ys t).map D.int = A ++ (mulGo (x :: xs) ys F).map D.int := by simp [mulGo, hF]
      rw [e2, e3] at ih
      show loopS _ _ (.tup [.int (k : Nat), .int x] :: enumD (k + 1) (xs.map D.int)) none _ = _
      exact Eq.trans (loopS_go (w2 := none) (e1 := [s0, .dat (polyD ys), .own (A ++ F.map D.int), .dat (.int k), .dat (.int x), x5, x6]) rfl e1) ih
theorem pmul_ok (xs ys : List Int) (hx : xs.all sm = true) (hy : ys.all sm = true) (hx0 : xs ≠ []) (hy0 : ys ≠ []) (hl : xs.length + ys.length < 250) (hg : (mulGo xs ys (List.replicate (xs.length + ys.length - 1) 0)).length < 300) :
    PM.m_p_times [polyD xs, polyD ys] = .ok (polyD (stripL (mulGo xs ys (List.replicate (xs.length + ys.length - 1) 0)))) := by
  have hxl : xs.length ≠ 0 := fun z => hx0 (List.length_eq_zero_iff.mp z)
  unfold PM.m_p_times
  refine mRun_at (w := none) (e0 := [.dat (polyD xs), .dat (polyD ys), .un, .un, .un, .un, .un]) rfl rfl ?_
  unfold PM.b_p_times
  have hxe : xs.isEmpty = false := by cases xs with | nil => exact absurd rfl hx0 | cons _ _ => rfl
  have hye : ys.isEmpty = false := by cases ys with | nil => exact absurd rfl hy0 | cons _ _ => rfl
  have d1 : dEq (polyD xs) (.tup []) = some (.bl false) := by rw [← hxe]; exact dEq_nil_T xs
  have d2 : dEq (polyD ys) (.tup []) = some (.bl false) := by rw [← hye]; exact dEq_nil_T ys
  have e0 : ifS (eOr (eB (eop2 dEq (eVarV 0) (eTup eNil))) (eB (eop2 dEq (eVarV 1) (eTup eNil)))) (sbind (eTup eNil) fun d => fun w _ => .rt d w) snil none [.dat (polyD xs), .dat (polyD ys), .un, .un, .un, .un, .un] = .nx [.dat (polyD xs), .dat (polyD ys), .un, .un, .un, .un, .un] none :=
    (ifS_f ((eOr_f (eB_ok (eop2_ok (eVarV_ok rfl) (eTup_ok eNil_ok (by simp)) d1))).trans (eB_ok (eop2_ok (eVarV_ok rfl) (eTup_ok eNil_ok (by simp)) d2)))).trans rfl
  rw [sseq_nx e0]
  have e1 : setS 2 (eOwn (eop2 dRepL (eLst (eList (eCons (eC (.int 0)) eNil))) (eop2 dSub (eop2 dAdd (eCall gLen (eCons (eVarV 0) eNil)) (eCall gLen (eCons (eVarV 1) eNil))) (eC (.int 1))))) none [.dat (polyD xs), .dat (polyD ys), .un, .un, .un, .un, .un] =
      .nx [.dat (polyD xs), .dat (polyD ys), .own ((List.replicate (xs.length + ys.length - 1) 0).map D.int), .un, .un, .un, .un] none := by
    refine setS_ok (eOwn_ok (eop2_ok (eLst_ok (eList_ok (eCons_ok eC_ok eNil_ok) (by simp))) (eop2_ok (eop2_ok (eCall_ok (eCons_ok (eVarV_ok rfl) eNil_ok) rfl) (eCall_ok (eCons_ok (eVarV_ok rfl) eNil_ok) rfl) rfl) eC_ok rfl) (rep_ok (a := 0) (b := 0) _ (by omega) ?_)))
    simp
    omega
  rw [sseq_nx e1]
  obtain ⟨x3, x4, x5, x6, e2⟩ := pmul_out (.dat (polyD xs)) ys (fun y h => sm_iff.mp (List.all_eq_true.mp hy y h)) hy0 xs (List.replicate (xs.length + ys.length - 1) 0) 0 [] .un .un .un .un (fun x h => sm_iff.mp (List.all_eq_true.mp hx x h)) (by simp; omega) rfl
  have e3 := (forS_of (b := (ifS (eB (eop2 dNe (eVarV 4) (eC (.int 0)))) (forS (eCall gEnum (eCons (eVar 1) eNil)) (tgT 2 (tgCons (tgN 5) (tgCons (tgN 6) tgNil))) (augIS dAdd 2 (eop2 dAdd (eVar 3) (eVar 5)) (eop2 dMul (eVar 4) (eVar 6)))) snil))
    (g := (tgT 2 (tgCons (tgN 3) (tgCons (tgN 4) tgNil)))) (items := eCall gEnum (eCons (eVar 0) eNil)) (e := [.dat (polyD xs), .dat (polyD ys), .own ((List.replicate (xs.length + ys.length - 1) 0).map D.int), .un, .un, .un, .un]) (w := none) (w1 := none) (ds := enumD 0 (xs.map D.int)) rfl).trans e2
  rw [sseq_nx e3]
  refine (sseq_nx (w1 := none) (e1 := [.dat (polyD xs), .dat (polyD ys), .dat (.lst ((mulGo xs ys (List.replicate (xs.length + ys.length - 1) 0)).map D.int)), x3, x4, x5, x6]) rfl).trans ?_
  have hc := cleaned_ok (mulGo xs ys (List.replicate (xs.length + ys.length - 1) 0)).reverse (by simpa using hg)
  rw [List.reverse_reverse] at hc
  exact ret_ok (eFun_ok (eCons_ok (eVar_ok rfl) eNil_ok) hc)
end DL
set_option Elab.async false
set_option linter.all false
set_option autoImplicit false
set_option maxRecDepth 100000
set_option maxHeartbeats 1000000
set_option exponentiation.threshold 3000
/-! DP4: more words for mirrors. -/
namespace DL
open PySem PySem.Spec PyProof.Rows L2
theorem compE_map {α : Type} {vs : List Nat} {items : E (List D)} {g : Tg} {t : E Bool} {f : E D} {w w1 : Wo} {e : En} {xs : List α} {enc h : α → D} (hi : items w e = .ok (xs.map enc) w1) (hl : xs.length ≤ 16777216) (hg : ∀ a, ∃ e1, g (enc a) (wipeE e vs) = some e1 ∧ t w1 e1 = .ok true w1 ∧ f w1 e1 = .ok (h a) w1) :
    compE vs items g t f w e = .ok (xs.map h) w1 := by
  unfold compE
  refine (ebind_ok hi).trans ?_
  rw [List.length_map, if_pos hl]
  exact compL_map hg xs
theorem compL_mapM {α : Type} {g : Tg} {t : E Bool} {f : E D} {e : En} {w : Wo} {enc h : α → D} : ∀ xs : List α, (∀ a ∈ xs, ∃ e1, g (enc a) e = some e1 ∧ t w e1 = .ok true w ∧ f w e1 = .ok (h a) w) → compL g t f e (xs.map enc) w = .ok (xs.map h) w
  | [], _ => rfl
  | a :: r, hg => by
    obtain ⟨e1, h1, h2, h3⟩ := hg a List.mem_cons_self
    exact compL_tt h1 h2 h3 (compL_mapM r fun b hb => hg b (List.mem_cons_of_mem _ hb))
/-- .. the element known for the items that there are -/
theorem compE_mapM {α : Type} {vs : List Nat} {items : E (List D)} {g : Tg} {t : E Bool} {f : E D} {w w1 : Wo} {e : En} {xs : List α} {enc h : α → D} (hi : items w e = .ok (xs.map enc) w1) (hl : xs.length ≤ 16777216) (hg : ∀ a ∈ xs, ∃ e1, g (enc a) (wipeE e vs) = some e1 ∧ t w1 e1 = .ok true w1 ∧ f w1 e1 = .ok (h a) w1) :
    compE vs items g t f w e = .ok (xs.map h) w1 := by
  unfold compE
  refine (ebind_ok hi).trans ?_
  rw [List.length_map, if_pos hl]
  exact compL_mapM xs hg
theorem eSeq_ok {f : E D} {d : D} {xs : List D} {w w1 : Wo} {e : En} (h : f w e = .ok d w1) (hs : seqOf d = some xs) : eSeq f w e = .ok xs w1 := by
  unfold eSeq
  refine (ebind_ok h).trans ?_
  rw [hs]
  rfl
theorem expr_ok {f : E D} {d : D} {w w1 : Wo} {e : En} (h : f w e = .ok d w1) : (sbind f fun _ => fun w e => .nx e w : S) w e = .nx e w1 := by unfold sbind; rw [h]
theorem take_nat {k : Int} {d : Dr} (n : Nat) (h : DrI k d) (hk : k < 1000000) (n0 : 0 < n) (n1 : n < 1000000) : ∃ (r : Nat) (d' : Dr), r < n ∧ DrI (k + 1) d' ∧ mTake (some d) [.drw, .int n] = .ok (.int r) (some d') := by
  obtain ⟨r, d', r0, r1, h', e⟩ := take_ok (n := (n : Int)) h hk (by omega) (by omega)
  refine ⟨r.toNat, d', by omega, h', ?_⟩
  rw [e, show ((r.toNat : Nat) : Int) = r by omega]
theorem range1_ok (n : Nat) (h : n < 1000000) : gRange1 [.int (n : Int)] = some (rangeD 0 1 n) := by
  unfold gRange1 in62
  have h1 : decide (-4611686018427387904 ≤ (n : Int)) = true := decide_eq_true (by omega)
  have h2 : decide ((n : Int) < 4611686018427387904) = true := decide_eq_true (by omega)
  dsimp only
  rw [h1, h2]
  rfl
theorem eLam_ok {mC : (Wo → ER D) → Wo → List D → ER D} {fb : E D} {g : E (List D)} {ds : List D} {w w1 w2 : Wo} {e : En} {r : D} (h : g w e = .ok ds w1) (h2 : mC (fun w => fb w (unown e)) w1 ds = .ok r w2) : eLam mC fb g w e = .ok r w2 := by
  unfold eLam
  exact (ebind_ok h).trans h2
theorem caught_exc {m : Nat} {rc : Wo → ER D} {w w' : Wo} {x : Xc} (h : rc w = .exc x w') (hx : x.cls < m) : mCaught m rc w [] = .ok (excD x) w' := by
  unfold mCaught
  rw [h]
  dsimp only
  rw [if_pos hx]
theorem isbad_ok {tab : Nat → Nat → Option Bool} {rc : Wo → ER D} {w w' : Wo} {p : D} (ht : tab 0 0 = some true) (h : rc w = .exc ⟨0, some ("part", p)⟩ w') (hs : mSame [p, p] = .ok (.bl true)) : mIsBad tab 0 99 "part" rc w [p] = .ok (.bl true) w' := by
  unfold mIsBad
  have hc := caught_exc (m := 99) h (show 0 < 99 by decide)
  dsimp only
  rw [hc]
  show (if tab 0 0 = some true ∧ ("part" : Str) = "part" then _ else _) = _
  rw [if_pos ⟨ht, rfl⟩, hs]
/-! ### checks by the kernel -/
def isD : FR → D → Bool
  | .ok d, e => D.same d e
  | _, _ => false
theorem isD_ok {r : FR} {d : D} (h : isD r d = true) : r = .ok d := by
  cases r with
  | ok e => rw [D.same_eq e d h]
  | exc x => cases h
  | bad => cases h
def isT : FR → Bool
  | .ok (.bl true) => true
  | _ => false
theorem isT_ok {r : FR} (h : isT r = true) : r = .ok (.bl true) := by
  unfold isT at h
  split at h
  · rfl
  · cases h
def isB (o : Option D) (b : Bool) : Bool := match o with
  | some (.bl c) => c == b
  | _ => false
theorem isB_ok {o : Option D} {b : Bool} (h : isB o b = true) : o = some (.bl b) := by
  unfold isB at h
  split at h
  · rw [eq_of_beq h]
  · cases h
def isXc (r : FR) (x : Nat) (p : Option D) : Bool := match r with
  | .exc ⟨c, some (f, d)⟩ => decide (c = x) && decide (f.cps.toList = ("part" : Str).cps.toList) && (match p with | some q => D.same d q | none => false)
  | .exc ⟨c, none⟩ => decide (c = x) && p.isNone
  | _ => false
theorem isXc_some {r : FR} {x : Nat} {q : D} (h : isXc r x (some q) = true) : r = .exc ⟨x, some ("part", q)⟩ := by
  unfold isXc at h
  split at h
  · rename_i c f d
    simp only [Bool.and_eq_true, decide_eq_true_eq] at h
    obtain ⟨⟨h1, h2⟩, h3⟩ := h
    rw [h1, str_ext h2, D.same_eq _ _ h3]
  · simp at h
  · cases h
theorem isXc_none {r : FR} {x : Nat} (h : isXc r x none = true) : r = .exc ⟨x, none⟩ := by
  unfold isXc at h
  split at h
  · simp at h
  · rename_i c
    simp only [Bool.and_eq_true, decide_eq_true_eq] at h
    rw [h.1]
  · cases h
theorem all_lt {n : Nat} {f : Nat → Bool} (h : (List.range n).all f = true) {i : Nat} (hi : i < n) : f i = true := List.all_eq_true.mp h i (List.mem_range.mpr hi)
theorem dNe_ff (b : Bool) : dNe (.bl b) (.bl b) = some (.bl false) := by cases b <;> exact isB_ok (by decide +kernel)
end DL
set_option Elab.async false
set_option linter.all false
set_option autoImplicit false
set_option maxRecDepth 100000
set_option maxHeartbeats 4000000
namespace K06
open PySem PySem.Spec PyProof.Rows L2 DL
def topS (i : Nat) : Stmt := PySem.Challenge.pw_inallclosings_k06_whole_quotients.main.body.getD i (.Pass ⟨0, 0, 0, 0⟩)
abbrev tabE : Nat → Nat → Option Bool := tabL [0, 2, 22]
structure Mg (P : Program) (K : PySem.W.Frag) (mg : Str → Option Value) (cl : Nat → Addr) : Prop where
  b_isinstance : mg "isinstance" = none
  b_int : mg "int" = none
  b_bool : mg "bool" = none
  b_tuple : mg "tuple" = none
  b_list : mg "list" = none
  b_len : mg "len" = none
  b_range : mg "range" = none
  b_enumerate : mg "enumerate" = none
  b_reversed : mg "reversed" = none
  b_abs : mg "abs" = none
  b_max : mg "max" = none
  b_min : mg "min" = none
  b_all : mg "all" = none
  b_repr : mg "repr" = none
  b_gcd : mg "gcd" = some (.builtin "math.gcd")
  g_LEAST_LEVEL : ∃ t, mg "LEAST_LEVEL" = some (.int 3 t)
  g_MOST_LEVEL : ∃ t, mg "MOST_LEVEL" = some (.int 7 t)
  g_MOST_DEGREE : ∃ t, mg "MOST_DEGREE" = some (.int 200 t)
  g_FIGURES : ∃ t, mg "FIGURES" = some (.int 1000 t)
  g_BEYOND : ∃ t, mg "BEYOND" = some (.int (10 ^ 1000) t)
  g_MOST_QUOTIENT : ∃ t, mg "MOST_QUOTIENT" = some (.int 28 t)
  g_FAR : ∃ t, mg "FAR" = some (.int 100 t)
  x_BadNumber : X1 P K mg cl 0 "BadNumber" "part"
  x_BadLevel : X0 K mg cl 2 "BadLevel"
  x_BadPolynomial : X1 P K mg cl 22 "BadPolynomial" "part"
  x_DrawError : mg "DrawError" = some (.ref (cl 99))
  exm : ∀ q, q < 99 → PySem.W.exmOne K (.ref (cl q)) (.ref (cl 99)) = some true
  tab : TabX K cl tabE
  fld : FldX K cl "part"
section
variable {P : Program} {w : World} {K : PySem.W.Frag} {mg : Str → Option Value} {base : Heap} {cl : Nat → Addr}

/-! is_whole -/
abbrev s_is_whole : Stmt := topS 8
theorem sc_is_whole : FnScope ["thing"] ["thing"] (defScope s_is_whole) := ⟨rfl, rfl, rfl, by decide +kernel, rfl, by decide +kernel, by decide +kernel⟩
theorem d_is_whole {f : Addr} {fd : FuncData} (F : Fun K "is_whole" "is_whole" s_is_whole f fd) (hm : mg "is_whole" = some (.ref f)) (hb : Binds K fd ["thing"] []) (M : Mg P K mg cl) : Def P w K mg base cl 1 "is_whole" PM.m_is_whole :=
  Def.of F sc_is_whole hm hb fun cdv A up s H W C B => (db_one (ds_ret (de_and (de_isi .int M.b_isinstance (dv_var 0) M.b_int (by first | rfl | decide +kernel)) (de_one (de_not (de_isi .bool M.b_isinstance (dv_var 0) M.b_bool (by first | rfl | decide +kernel)))))))
/-! is_between -/
abbrev s_is_between : Stmt := topS 9
theorem sc_is_between : FnScope ["thing", "low", "high"] ["thing", "low", "high"] (defScope s_is_between) := ⟨rfl, rfl, rfl, by decide +kernel, rfl, by decide +kernel, by decide +kernel⟩
theorem d_is_between {f : Addr} {fd : FuncData} (F : Fun K "is_between" "is_between" s_is_between f fd) (hm : mg "is_between" = some (.ref f)) (hb : Binds K fd ["thing", "low", "high"] []) (M : Mg P K mg cl) (D_is_whole : Def P w K mg base cl 1 "is_whole" PM.m_is_whole) : Def P w K mg base cl 2 "is_between" PM.m_is_between :=
  Def.of F sc_is_between hm hb fun cdv A up s H W C B => (db_one (ds_ret (de_and (de_fn B D_is_whole (da_cons (de_var 0) da_nil)) (de_one (de_chain op_le od_le op_le od_le (de_var 1) (de_var 0) (de_var 2))))))
/-! need_between -/
abbrev s_need_between : Stmt := topS 10
theorem sc_need_between : FnScope ["number", "low", "high", "part"] ["number", "low", "high", "part"] (defScope s_need_between) := ⟨rfl, rfl, rfl, by decide +kernel, rfl, by decide +kernel, by decide +kernel⟩
theorem d_need_between {f : Addr} {fd : FuncData} (F : Fun K "need_between" "need_between" s_need_between f fd) (hm : mg "need_between" = some (.ref f)) (hb : Binds K fd ["number", "low", "high", "part"] []) (M : Mg P K mg cl) (D_is_between : Def P w K mg base cl 2 "is_between" PM.m_is_between) : Def P w K mg base cl 3 "need_between" PM.m_need_between :=
  Def.of F sc_need_between hm hb fun cdv A up s H W C B => (db_one (ds_if (dt_not (dt_val (de_fn B D_is_between (da_cons (de_var 0) (da_cons (de_var 1) (da_cons (de_var 2) da_nil)))))) (db_one (ds_raise1 B M.x_BadNumber (de_var 3))) db_nil))
/-! is_level_told -/
abbrev s_is_level_told : Stmt := topS 14
theorem sc_is_level_told : FnScope ["thing"] ["thing"] (defScope s_is_level_told) := ⟨rfl, rfl, rfl, by decide +kernel, rfl, by decide +kernel, by decide +kernel⟩
theorem d_is_level_told {f : Addr} {fd : FuncData} (F : Fun K "is_level_told" "is_level_told" s_is_level_told f fd) (hm : mg "is_level_told" = some (.ref f)) (hb : Binds K fd ["thing"] []) (M : Mg P K mg cl) (D_is_between : Def P w K mg base cl 2 "is_between" PM.m_is_between) : Def P w K mg base cl 3 "is_level_told" PM.m_is_level_told :=
  Def.of F sc_is_level_told hm hb fun cdv A up s H W C B => (db_one (ds_ret (de_or (de_fn B D_is_between (da_cons (de_var 0) (da_cons de_int (da_cons de_int da_nil)))) (de_one (de_fn B D_is_between (da_cons (de_var 0) (da_cons (de_gI M.g_LEAST_LEVEL) (da_cons (de_gI M.g_MOST_LEVEL) da_nil))))))))
/-! need_level -/
abbrev s_need_level : Stmt := topS 15
theorem sc_need_level : FnScope ["level"] ["level"] (defScope s_need_level) := ⟨rfl, rfl, rfl, by decide +kernel, rfl, by decide +kernel, by decide +kernel⟩
theorem d_need_level {f : Addr} {fd : FuncData} (F : Fun K "need_level" "need_level" s_need_level f fd) (hm : mg "need_level" = some (.ref f)) (hb : Binds K fd ["level"] []) (M : Mg P K mg cl) (D_is_level_told : Def P w K mg base cl 3 "is_level_told" PM.m_is_level_told) : Def P w K mg base cl 4 "need_level" PM.m_need_level :=
  Def.of F sc_need_level hm hb fun cdv A up s H W C B => (db_one (ds_if (dt_not (dt_val (de_fn B D_is_level_told (da_cons (de_var 0) da_nil)))) (db_one (ds_raise0 B M.x_BadLevel)) db_nil))
/-! least_told -/
abbrev s_least_told : Stmt := topS 16
theorem sc_least_told : FnScope ["level"] ["level"] (defScope s_least_told) := ⟨rfl, rfl, rfl, by decide +kernel, rfl, by decide +kernel, by decide +kernel⟩
theorem d_least_told {f : Addr} {fd : FuncData} (F : Fun K "least_told" "least_told" s_least_told f fd) (hm : mg "least_told" = some (.ref f)) (hb : Binds K fd ["level"] []) (M : Mg P K mg cl) : Def P w K mg base cl 1 "least_told" PM.m_least_told :=
  Def.of F sc_least_told hm hb fun cdv A up s H W C B => (db_one (ds_ret (de_ix (dv_of (de_tup (da_cons (de_tup (da_cons (de_neg de_int) (da_cons de_int da_nil))) (da_cons (de_tup (da_cons (de_neg de_int) (da_cons de_int (da_cons de_int da_nil)))) (da_cons (de_tup (da_cons (de_neg de_int) (da_cons (de_neg de_int) (da_cons de_int da_nil)))) (da_cons (de_tup (da_cons (de_neg de_int) (da_cons de_int (da_cons de_int da_nil)))) (da_cons (de_tup (da_cons de_int (da_cons (de_neg de_int) (da_cons (de_neg de_int) (da_cons de_int da_nil))))) da_nil))))))) (dv_of (de_sub (de_var 0) (de_gI M.g_LEAST_LEVEL))))))
/-! cleaned -/
abbrev s_cleaned : Stmt := topS 22
theorem sc_cleaned : FnScope ["row", "many"] ["row"] (defScope s_cleaned) := ⟨rfl, rfl, rfl, by decide +kernel, rfl, by decide +kernel, by decide +kernel⟩
theorem d_cleaned {f : Addr} {fd : FuncData} (F : Fun K "cleaned" "cleaned" s_cleaned f fd) (hm : mg "cleaned" = some (.ref f)) (hb : Binds K fd ["row"] []) (M : Mg P K mg cl) : Def P w K mg base cl 1 "cleaned" PM.m_cleaned :=
  Def.of F sc_cleaned hm hb fun cdv A up s H W C B => (db_cons (ds_set 1 (dl_dat (de_len M.b_len (dva_cons (dv_var 0) dva_nil))) sc_cleaned.nd)
    (db_cons (ds_while 300 B.po (dt_w (dw_and (dt_gt (de_var 1) de_int) (dw_and1 (dt_EQ B (dv_of (de_ix (dv_var 0) (dv_of (de_sub (de_var 1) de_int)))) (dv_of de_int))))) (db_one (ds_aug 1 iop_sub od_sub de_int sc_cleaned.nd)))
    (db_one (ds_ret (de_tupC M.b_tuple (dva_cons (dv_of (de_cutA (dv_var 0) dp_none (dp_some (de_var 1)))) dva_nil))))))
/-! p_plus -/
abbrev s_p_plus : Stmt := topS 23
theorem sc_p_plus : FnScope ["one", "other", "k", "a"] ["one", "other"] (defScope s_p_plus) := ⟨rfl, rfl, rfl, by decide +kernel, rfl, by decide +kernel, by decide +kernel⟩
theorem d_p_plus {f : Addr} {fd : FuncData} (F : Fun K "p_plus" "p_plus" s_p_plus f fd) (hm : mg "p_plus" = some (.ref f)) (hb : Binds K fd ["one", "other"] []) (M : Mg P K mg cl) (D_cleaned : Def P w K mg base cl 1 "cleaned" PM.m_cleaned) : Def P w K mg base cl 2 "p_plus" PM.m_p_plus :=
  Def.of F sc_p_plus hm hb fun cdv A up s H W C B => (db_cons (ds_if (dt_lt (de_len M.b_len (dva_cons (dv_var 0) dva_nil)) (de_len M.b_len (dva_cons (dv_var 1) dva_nil))) (db_one (ds_asg (de_tup (da_cons (de_var 1) (da_cons (de_var 0) da_nil))) (dg_tup (dgs_cons (dg_name 0 sc_p_plus.nd) (dgs_cons (dg_name 1 sc_p_plus.nd) dgs_nil))))) db_nil)
    (db_one (ds_ret (de_fn B D_cleaned (da_cons (de_own (do_comp [("k", 2), ("a", 3)] sc_p_plus.nd (show BlkOk ["one", "other", "k", "a"] (defScope s_p_plus) _ _ from blkOk_by (by decide +kernel)) (di_enum M.b_enumerate (da_cons (de_var 0) da_nil)) (by decide) (fun s H A cl fp => (dg_tup (dgs_cons (dg_name 2 sc_p_plus.nd) (dgs_cons (dg_name 3 sc_p_plus.nd) dgs_nil)))) (fun s H A cl fp => dts_nil) (fun s H A cl fp => (de_if (dt_lt (de_var 2) (de_len M.b_len (dva_cons (dv_var 1) dva_nil))) (de_add (de_var 3) (de_ix (dv_var 1) (dv_var 2))) (de_var 3))))) da_nil)))))
/-! p_scaled -/
abbrev s_p_scaled : Stmt := topS 24
theorem sc_p_scaled : FnScope ["one", "k", "a"] ["one", "k"] (defScope s_p_scaled) := ⟨rfl, rfl, rfl, by decide +kernel, rfl, by decide +kernel, by decide +kernel⟩
theorem d_p_scaled {f : Addr} {fd : FuncData} (F : Fun K "p_scaled" "p_scaled" s_p_scaled f fd) (hm : mg "p_scaled" = some (.ref f)) (hb : Binds K fd ["one", "k"] []) (M : Mg P K mg cl) (D_cleaned : Def P w K mg base cl 1 "cleaned" PM.m_cleaned) : Def P w K mg base cl 2 "p_scaled" PM.m_p_scaled :=
  Def.of F sc_p_scaled hm hb fun cdv A up s H W C B => (db_one (ds_ret (de_fn B D_cleaned (da_cons (de_own (do_comp [("a", 2)] sc_p_scaled.nd (show BlkOk ["one", "k", "a"] (defScope s_p_scaled) _ _ from blkOk_by (by decide +kernel)) (di_seq (de_var 0)) (by decide) (fun s H A cl fp => (dg_name 2 sc_p_scaled.nd)) (fun s H A cl fp => dts_nil) (fun s H A cl fp => (de_mul (de_var 2) (de_var 1))))) da_nil))))
/-! p_minus -/
abbrev s_p_minus : Stmt := topS 25
theorem sc_p_minus : FnScope ["one", "other"] ["one", "other"] (defScope s_p_minus) := ⟨rfl, rfl, rfl, by decide +kernel, rfl, by decide +kernel, by decide +kernel⟩
theorem d_p_minus {f : Addr} {fd : FuncData} (F : Fun K "p_minus" "p_minus" s_p_minus f fd) (hm : mg "p_minus" = some (.ref f)) (hb : Binds K fd ["one", "other"] []) (M : Mg P K mg cl) (D_p_plus : Def P w K mg base cl 2 "p_plus" PM.m_p_plus) (D_p_scaled : Def P w K mg base cl 2 "p_scaled" PM.m_p_scaled) : Def P w K mg base cl 3 "p_minus" PM.m_p_minus :=
  Def.of F sc_p_minus hm hb fun cdv A up s H W C B => (db_one (ds_ret (de_fn B D_p_plus (da_cons (de_var 0) (da_cons (de_fn B D_p_scaled (da_cons (de_var 1) (da_cons (de_neg de_int) da_nil))) da_nil)))))
/-! p_times -/
abbrev s_p_times : Stmt := topS 26
theorem sc_p_times : FnScope ["one", "other", "found", "k", "a", "j", "b"] ["one", "other"] (defScope s_p_times) := ⟨rfl, rfl, rfl, by decide +kernel, rfl, by decide +kernel, by decide +kernel⟩
theorem d_p_times {f : Addr} {fd : FuncData} (F : Fun K "p_times" "p_times" s_p_times f fd) (hm : mg "p_times" = some (.ref f)) (hb : Binds K fd ["one", "other"] []) (M : Mg P K mg cl) (D_cleaned : Def P w K mg base cl 1 "cleaned" PM.m_cleaned) : Def P w K mg base cl 2 "p_times" PM.m_p_times :=
  Def.of F sc_p_times hm hb fun cdv A up s H W C B => (db_cons (ds_if (dt_w (dw_or (dt_EQ B (dv_var 0) (dv_of (de_tup da_nil))) (dw_or1 (dt_EQ B (dv_var 1) (dv_of (de_tup da_nil)))))) (db_one (ds_ret (de_tup da_nil))) db_nil)
    (db_cons (ds_set 2 (dl_own (do_rep (dv_own (do_list (da_cons de_int da_nil))) (dv_of (de_sub (de_add (de_len M.b_len (dva_cons (dv_var 0) dva_nil)) (de_len M.b_len (dva_cons (dv_var 1) dva_nil))) de_int)))) sc_p_times.nd)
    (db_cons (ds_for B.po (di_enum M.b_enumerate (da_cons (de_var 0) da_nil)) (dg_tup (dgs_cons (dg_name 3 sc_p_times.nd) (dgs_cons (dg_name 4 sc_p_times.nd) dgs_nil))) (db_one (ds_if (dt_NE B (dv_var 4) (dv_of de_int)) (db_one (ds_for B.po (di_enum M.b_enumerate (da_cons (de_var 1) da_nil)) (dg_tup (dgs_cons (dg_name 5 sc_p_times.nd) (dgs_cons (dg_name 6 sc_p_times.nd) dgs_nil))) (db_one (ds_augI 2 iop_add od_add (de_add (de_var 3) (de_var 5)) (de_mul (de_var 4) (de_var 6)))))) db_nil)))
    (db_thaw 2 (db_one (ds_ret (de_fn B D_cleaned (da_cons (de_var 2) da_nil))))))))
/-! p_exact -/
abbrev s_p_exact : Stmt := topS 27
theorem sc_p_exact : FnScope ["one", "other", "left", "found", "at", "top", "k", "b"] ["one", "other"] (defScope s_p_exact) := ⟨rfl, rfl, rfl, by decide +kernel, rfl, by decide +kernel, by decide +kernel⟩
theorem d_p_exact {f : Addr} {fd : FuncData} (F : Fun K "p_exact" "p_exact" s_p_exact f fd) (hm : mg "p_exact" = some (.ref f)) (hb : Binds K fd ["one", "other"] []) (M : Mg P K mg cl) (D_cleaned : Def P w K mg base cl 1 "cleaned" PM.m_cleaned) : Def P w K mg base cl 2 "p_exact" PM.m_p_exact :=
  Def.of F sc_p_exact hm hb fun cdv A up s H W C B => (db_cons (ds_par 2 3 (dl_own (do_lstC M.b_list (dva_cons (dv_var 0) dva_nil))) (dl_own (do_rep (dv_own (do_list (da_cons de_int da_nil))) (dv_of (de_max2 M.b_max (dva_cons (dv_of de_int) (dva_cons (dv_of (de_add (de_sub (de_len M.b_len (dva_cons (dv_var 0) dva_nil)) (de_len M.b_len (dva_cons (dv_var 1) dva_nil))) de_int)) dva_nil)))))) sc_p_exact.nd)
    (db_cons (ds_for B.po (di_range3 M.b_range (da_cons (de_sub (de_len M.b_len (dva_cons (dv_var 0) dva_nil)) (de_len M.b_len (dva_cons (dv_var 1) dva_nil))) (da_cons (de_neg de_int) (da_cons (de_neg de_int) da_nil)))) (dg_name 4 sc_p_exact.nd) (db_cons (ds_set 5 (dl_dat (de_ix (dv_var 2) (dv_of (de_sub (de_add (de_var 4) (de_len M.b_len (dva_cons (dv_var 1) dva_nil))) de_int)))) sc_p_exact.nd)
    (db_cons (ds_if (dt_NE B (dv_of (de_mod (de_var 5) (de_ix (dv_var 1) (dv_of (de_neg de_int))))) (dv_of de_int)) (db_one (ds_ret de_non)) db_nil)
    (db_cons (ds_setI 3 (de_div (de_var 5) (de_ix (dv_var 1) (dv_of (de_neg de_int)))) (de_var 4))
    (db_one (ds_if (dt_NE B (dv_of (de_ix (dv_var 3) (dv_var 4))) (dv_of de_int)) (db_one (ds_for B.po (di_enum M.b_enumerate (da_cons (de_var 1) da_nil)) (dg_tup (dgs_cons (dg_name 6 sc_p_exact.nd) (dgs_cons (dg_name 7 sc_p_exact.nd) dgs_nil))) (db_one (ds_augI 2 iop_sub od_sub (de_add (de_var 4) (de_var 6)) (de_mul (de_ix (dv_var 3) (dv_var 4)) (de_var 7)))))) db_nil))))))
    (db_thaw 2 (db_thaw 3 (db_one (ds_ret (de_if (dt_EQ B (dv_of (de_fn B D_cleaned (da_cons (de_var 2) da_nil))) (dv_of (de_tup da_nil))) (de_fn B D_cleaned (da_cons (de_var 3) da_nil)) de_non)))))))
/-! p_rest -/
abbrev s_p_rest : Stmt := topS 28
theorem sc_p_rest : FnScope ["one", "other", "left", "top", "k", "b"] ["one", "other"] (defScope s_p_rest) := ⟨rfl, rfl, rfl, by decide +kernel, rfl, by decide +kernel, by decide +kernel⟩
theorem d_p_rest {f : Addr} {fd : FuncData} (F : Fun K "p_rest" "p_rest" s_p_rest f fd) (hm : mg "p_rest" = some (.ref f)) (hb : Binds K fd ["one", "other"] []) (M : Mg P K mg cl) (D_cleaned : Def P w K mg base cl 1 "cleaned" PM.m_cleaned) : Def P w K mg base cl 2 "p_rest" PM.m_p_rest :=
  Def.of F sc_p_rest hm hb fun cdv A up s H W C B => (db_cons (ds_set 2 (dl_own (do_lstC M.b_list (dva_cons (dv_var 0) dva_nil))) sc_p_rest.nd)
    (db_cons (ds_while 300 B.po (dt_ge (de_len M.b_len (dva_cons (dv_var 2) dva_nil)) (de_len M.b_len (dva_cons (dv_var 1) dva_nil))) (db_cons (ds_popTo 2 3 sc_p_rest.nd)
    (db_one (ds_if (dt_NE B (dv_var 3) (dv_of de_int)) (db_one (ds_for B.po (di_enum M.b_enumerate (da_cons (de_cut (dv_var 1) dp_none (dp_some (de_neg de_int))) da_nil)) (dg_tup (dgs_cons (dg_name 4 sc_p_rest.nd) (dgs_cons (dg_name 5 sc_p_rest.nd) dgs_nil))) (db_one (ds_augI 2 iop_sub od_sub (de_add (de_add (de_sub (de_len M.b_len (dva_cons (dv_var 2) dva_nil)) (de_len M.b_len (dva_cons (dv_var 1) dva_nil))) de_int) (de_var 4)) (de_mul (de_var 3) (de_var 5)))))) db_nil))))
    (db_thaw 2 (db_one (ds_ret (de_fn B D_cleaned (da_cons (de_var 2) da_nil)))))))
/-! p_at -/
abbrev s_p_at : Stmt := topS 29
theorem sc_p_at : FnScope ["one", "x", "found", "a"] ["one", "x"] (defScope s_p_at) := ⟨rfl, rfl, rfl, by decide +kernel, rfl, by decide +kernel, by decide +kernel⟩
theorem d_p_at {f : Addr} {fd : FuncData} (F : Fun K "p_at" "p_at" s_p_at f fd) (hm : mg "p_at" = some (.ref f)) (hb : Binds K fd ["one", "x"] []) (M : Mg P K mg cl) : Def P w K mg base cl 1 "p_at" PM.m_p_at :=
  Def.of F sc_p_at hm hb fun cdv A up s H W C B => (db_cons (ds_set 2 (dl_dat de_int) sc_p_at.nd)
    (db_cons (ds_for B.po (di_rev M.b_reversed (de_var 0)) (dg_name 3 sc_p_at.nd) (db_one (ds_set 2 (dl_dat (de_add (de_mul (de_var 2) (de_var 1)) (de_var 3))) sc_p_at.nd)))
    (db_one (ds_ret (de_var 2)))))
/-! is_polynomial_told -/
abbrev s_is_polynomial_told : Stmt := topS 30
theorem sc_is_polynomial_told : FnScope ["thing", "a"] ["thing"] (defScope s_is_polynomial_told) := ⟨rfl, rfl, rfl, by decide +kernel, rfl, by decide +kernel, by decide +kernel⟩
theorem d_is_polynomial_told {f : Addr} {fd : FuncData} (F : Fun K "is_polynomial_told" "is_polynomial_told" s_is_polynomial_told f fd) (hm : mg "is_polynomial_told" = some (.ref f)) (hb : Binds K fd ["thing"] []) (M : Mg P K mg cl) (D_is_whole : Def P w K mg base cl 1 "is_whole" PM.m_is_whole) : Def P w K mg base cl 2 "is_polynomial_told" PM.m_is_polynomial_told :=
  Def.of F sc_is_polynomial_told hm hb fun cdv A up s H W C B => (db_cons (ds_if (dt_w (dw_or (dt_not (dt_val (de_isi .tuple M.b_isinstance (dv_var 0) M.b_tuple (by first | rfl | decide +kernel)))) (dw_or1 (dt_gt (de_len M.b_len (dva_cons (dv_var 0) dva_nil)) (de_add (de_gI M.g_MOST_DEGREE) de_int))))) (db_one (ds_ret de_bl)) db_nil)
    (db_one (ds_ret (de_and (de_all M.b_all (dva_cons (dv_own (do_comp [("a", 1)] sc_is_polynomial_told.nd (show BlkOk ["thing", "a"] (defScope s_is_polynomial_told) _ _ from blkOk_by (by decide +kernel)) (di_seq (de_var 0)) (by decide) (fun s H A cl fp => (dg_name 1 sc_is_polynomial_told.nd)) (fun s H A cl fp => dts_nil) (fun s H A cl fp => (de_and (de_fn B.blk D_is_whole (da_cons (de_var 1) da_nil)) (de_one (de_chain op_lt od_lt op_lt od_lt (de_neg (de_gI M.g_BEYOND)) (de_var 1) (de_gI M.g_BEYOND))))))) dva_nil)) (de_one (de_or (de_EQ B (dv_var 0) (dv_of (de_tup da_nil))) (de_one (de_NE B (dv_of (de_ix (dv_var 0) (dv_of (de_neg de_int)))) (dv_of de_int)))))))))
/-! need_polynomial -/
abbrev s_need_polynomial : Stmt := topS 31
theorem sc_need_polynomial : FnScope ["thing", "part"] ["thing", "part"] (defScope s_need_polynomial) := ⟨rfl, rfl, rfl, by decide +kernel, rfl, by decide +kernel, by decide +kernel⟩
theorem d_need_polynomial {f : Addr} {fd : FuncData} (F : Fun K "need_polynomial" "need_polynomial" s_need_polynomial f fd) (hm : mg "need_polynomial" = some (.ref f)) (hb : Binds K fd ["thing", "part"] []) (M : Mg P K mg cl) (D_is_polynomial_told : Def P w K mg base cl 2 "is_polynomial_told" PM.m_is_polynomial_told) : Def P w K mg base cl 3 "need_polynomial" PM.m_need_polynomial :=
  Def.of F sc_need_polynomial hm hb fun cdv A up s H W C B => (db_one (ds_if (dt_not (dt_val (de_fn B D_is_polynomial_told (da_cons (de_var 0) da_nil)))) (db_one (ds_raise1 B M.x_BadPolynomial (de_var 1))) db_nil))
/-! need_few_figures -/
abbrev s_need_few_figures : Stmt := topS 32
theorem sc_need_few_figures : FnScope ["row", "a"] ["row"] (defScope s_need_few_figures) := ⟨rfl, rfl, rfl, by decide +kernel, rfl, by decide +kernel, by decide +kernel⟩
theorem d_need_few_figures {f : Addr} {fd : FuncData} (F : Fun K "need_few_figures" "need_few_figures" s_need_few_figures f fd) (hm : mg "need_few_figures" = some (.ref f)) (hb : Binds K fd ["row"] []) (M : Mg P K mg cl) : Def P w K mg base cl 3 "need_few_figures" PM.m_need_few_figures :=
  Def.of F sc_need_few_figures hm hb fun cdv A up s H W C B => (db_one (ds_if (dt_not (dt_val (de_all M.b_all (dva_cons (dv_own (do_comp [("a", 1)] sc_need_few_figures.nd (show BlkOk ["row", "a"] (defScope s_need_few_figures) _ _ from blkOk_by (by decide +kernel)) (di_seq (de_var 0)) (by decide) (fun s H A cl fp => (dg_name 1 sc_need_few_figures.nd)) (fun s H A cl fp => dts_nil) (fun s H A cl fp => (de_chain op_lt od_lt op_lt od_lt (de_neg (de_gI M.g_BEYOND)) (de_var 1) (de_gI M.g_BEYOND))))) dva_nil)))) (db_one ds_bad) db_nil))
/-! polynomial_at -/
abbrev s_polynomial_at : Stmt := topS 33
theorem sc_polynomial_at : FnScope ["polynomial", "x"] ["polynomial", "x"] (defScope s_polynomial_at) := ⟨rfl, rfl, rfl, by decide +kernel, rfl, by decide +kernel, by decide +kernel⟩
theorem d_polynomial_at {f : Addr} {fd : FuncData} (F : Fun K "polynomial_at" "polynomial_at" s_polynomial_at f fd) (hm : mg "polynomial_at" = some (.ref f)) (hb : Binds K fd ["polynomial", "x"] []) (M : Mg P K mg cl) (D_need_between : Def P w K mg base cl 3 "need_between" PM.m_need_between) (D_p_at : Def P w K mg base cl 1 "p_at" PM.m_p_at) (D_need_polynomial : Def P w K mg base cl 3 "need_polynomial" PM.m_need_polynomial) : Def P w K mg base cl 4 "polynomial_at" PM.m_polynomial_at :=
  Def.of F sc_polynomial_at hm hb fun cdv A up s H W C B => (db_cons (ds_expr (de_fn B D_need_polynomial (da_cons (de_var 0) (da_cons de_str da_nil))))
    (db_cons (ds_expr (de_fn B D_need_between (da_cons (de_var 1) (da_cons (de_neg (de_gI M.g_FAR)) (da_cons (de_gI M.g_FAR) (da_cons de_str da_nil))))))
    (db_one (ds_ret (de_fn B D_p_at (da_cons (de_var 0) (da_cons (de_var 1) da_nil)))))))
/-! fractions -/
abbrev s_fractions : Stmt := topS 35
theorem sc_fractions : FnScope ["row", "below", "found", "a", "both"] ["row", "below"] (defScope s_fractions) := ⟨rfl, rfl, rfl, by decide +kernel, rfl, by decide +kernel, by decide +kernel⟩
theorem d_fractions {f : Addr} {fd : FuncData} (F : Fun K "fractions" "fractions" s_fractions f fd) (hm : mg "fractions" = some (.ref f)) (hb : Binds K fd ["row", "below"] []) (M : Mg P K mg cl) : Def P w K mg base cl 1 "fractions" PM.m_fractions :=
  Def.of F sc_fractions hm hb fun cdv A up s H W C B => (db_cons (ds_set 2 (dl_own (do_list da_nil)) sc_fractions.nd)
    (db_cons (ds_for B.po (di_seq (de_var 0)) (dg_name 3 sc_fractions.nd) (db_cons (ds_set 4 (dl_dat (de_if (dt_gt (de_var 1) de_int) (de_gcd M.b_gcd (dva_cons (dv_var 3) (dva_cons (dv_var 1) dva_nil))) (de_neg (de_gcd M.b_gcd (dva_cons (dv_var 3) (dva_cons (dv_var 1) dva_nil)))))) sc_fractions.nd)
    (db_one (ds_app 2 (de_tup (da_cons (de_div (de_var 3) (de_var 4)) (da_cons (de_div (de_var 1) (de_var 4)) da_nil)))))))
    (db_one (ds_ret (de_tupC M.b_tuple (dva_cons (dv_var 2) dva_nil))))))
/-! padded -/
abbrev s_padded : Stmt := topS 36
theorem sc_padded : FnScope ["level", "polynomial", "least", "rest"] ["level", "polynomial"] (defScope s_padded) := ⟨rfl, rfl, rfl, by decide +kernel, rfl, by decide +kernel, by decide +kernel⟩
theorem d_padded {f : Addr} {fd : FuncData} (F : Fun K "padded" "padded" s_padded f fd) (hm : mg "padded" = some (.ref f)) (hb : Binds K fd ["level", "polynomial"] []) (M : Mg P K mg cl) (D_least_told : Def P w K mg base cl 1 "least_told" PM.m_least_told) (D_p_rest : Def P w K mg base cl 2 "p_rest" PM.m_p_rest) : Def P w K mg base cl 3 "padded" PM.m_padded :=
  Def.of F sc_padded hm hb fun cdv A up s H W C B => (db_cons (ds_set 2 (dl_dat (de_fn B D_least_told (da_cons (de_var 0) da_nil))) sc_padded.nd)
    (db_cons (ds_set 3 (dl_dat (de_fn B D_p_rest (da_cons (de_var 1) (da_cons (de_var 2) da_nil)))) sc_padded.nd)
    (db_one (ds_ret (de_own (do_cat (dv_own (do_lstC M.b_list (dva_cons (dv_var 3) dva_nil))) (dv_own (do_rep (dv_own (do_list (da_cons de_int da_nil))) (dv_of (de_sub (de_sub (de_len M.b_len (dva_cons (dv_var 2) dva_nil)) de_int) (de_len M.b_len (dva_cons (dv_var 3) dva_nil))))))))))))
/-! n_of_polynomial -/
abbrev s_n_of_polynomial : Stmt := topS 37
theorem sc_n_of_polynomial : FnScope ["level", "polynomial"] ["level", "polynomial"] (defScope s_n_of_polynomial) := ⟨rfl, rfl, rfl, by decide +kernel, rfl, by decide +kernel, by decide +kernel⟩
theorem d_n_of_polynomial {f : Addr} {fd : FuncData} (F : Fun K "n_of_polynomial" "n_of_polynomial" s_n_of_polynomial f fd) (hm : mg "n_of_polynomial" = some (.ref f)) (hb : Binds K fd ["level", "polynomial"] []) (M : Mg P K mg cl) (D_fractions : Def P w K mg base cl 1 "fractions" PM.m_fractions) (D_padded : Def P w K mg base cl 3 "padded" PM.m_padded) : Def P w K mg base cl 4 "n_of_polynomial" PM.m_n_of_polynomial :=
  Def.of F sc_n_of_polynomial hm hb fun cdv A up s H W C B => (db_one (ds_ret (de_if (dt_EQ B (dv_var 0) (dv_of de_int)) (de_tup (da_cons (de_var 1) (da_cons (de_tup (da_cons de_int da_nil)) da_nil))) (de_fn B D_fractions (da_cons (de_fn B D_padded (da_cons (de_var 0) (da_cons (de_var 1) da_nil))) (da_cons de_int da_nil))))))
/-! n_whole -/
abbrev s_n_whole : Stmt := topS 38
theorem sc_n_whole : FnScope ["level", "k"] ["level", "k"] (defScope s_n_whole) := ⟨rfl, rfl, rfl, by decide +kernel, rfl, by decide +kernel, by decide +kernel⟩
theorem d_n_whole {f : Addr} {fd : FuncData} (F : Fun K "n_whole" "n_whole" s_n_whole f fd) (hm : mg "n_whole" = some (.ref f)) (hb : Binds K fd ["level", "k"] []) (M : Mg P K mg cl) (D_n_of_polynomial : Def P w K mg base cl 4 "n_of_polynomial" PM.m_n_of_polynomial) : Def P w K mg base cl 5 "n_whole" PM.m_n_whole :=
  Def.of F sc_n_whole hm hb fun cdv A up s H W C B => (db_one (ds_ret (de_fn B D_n_of_polynomial (da_cons (de_var 0) (da_cons (de_if (dt_NE B (dv_var 1) (dv_of de_int)) (de_tup (da_cons (de_var 1) da_nil)) (de_tup da_nil)) da_nil)))))
/-! need_told -/
abbrev s_need_told : Stmt := topS 39
theorem sc_need_told : FnScope ["level", "number", "row"] ["level", "number"] (defScope s_need_told) := ⟨rfl, rfl, rfl, by decide +kernel, rfl, by decide +kernel, by decide +kernel⟩
theorem d_need_told {f : Addr} {fd : FuncData} (F : Fun K "need_told" "need_told" s_need_told f fd) (hm : mg "need_told" = some (.ref f)) (hb : Binds K fd ["level", "number"] []) (M : Mg P K mg cl) (D_need_few_figures : Def P w K mg base cl 3 "need_few_figures" PM.m_need_few_figures) : Def P w K mg base cl 4 "need_told" PM.m_need_told :=
  Def.of F sc_need_told hm hb fun cdv A up s H W C B => (db_cons (ds_if (dt_w (dw_and (dt_EQ B (dv_var 0) (dv_of de_int)) (dw_and1 (dt_gt (de_max2 M.b_max (dva_cons (dv_of (de_len M.b_len (dva_cons (dv_of (de_ix (dv_var 1) (dv_of de_int))) dva_nil))) (dva_cons (dv_of (de_len M.b_len (dva_cons (dv_of (de_ix (dv_var 1) (dv_of de_int))) dva_nil))) dva_nil))) (de_add (de_gI M.g_MOST_DEGREE) de_int))))) (db_one ds_bad) db_nil)
    (db_cons (ds_for B.po (di_seq (de_var 1)) (dg_name 2 sc_need_told.nd) (db_one (ds_expr (de_fn B D_need_few_figures (da_cons (de_var 2) da_nil)))))
    (db_one (ds_ret (de_var 1)))))
/-! whole_number -/
abbrev s_whole_number : Stmt := topS 40
theorem sc_whole_number : FnScope ["level", "k"] ["level", "k"] (defScope s_whole_number) := ⟨rfl, rfl, rfl, by decide +kernel, rfl, by decide +kernel, by decide +kernel⟩
theorem d_whole_number {f : Addr} {fd : FuncData} (F : Fun K "whole_number" "whole_number" s_whole_number f fd) (hm : mg "whole_number" = some (.ref f)) (hb : Binds K fd ["level", "k"] []) (M : Mg P K mg cl) (D_is_whole : Def P w K mg base cl 1 "is_whole" PM.m_is_whole) (D_need_level : Def P w K mg base cl 4 "need_level" PM.m_need_level) (D_n_whole : Def P w K mg base cl 5 "n_whole" PM.m_n_whole) : Def P w K mg base cl 6 "whole_number" PM.m_whole_number :=
  Def.of F sc_whole_number hm hb fun cdv A up s H W C B => (db_cons (ds_expr (de_fn B D_need_level (da_cons (de_var 0) da_nil)))
    (db_cons (ds_if (dt_w (dw_or (dt_not (dt_val (de_fn B D_is_whole (da_cons (de_var 1) da_nil)))) (dw_or1 (dt_not (dt_chain op_lt od_lt op_lt od_lt (de_neg (de_gI M.g_BEYOND)) (de_var 1) (de_gI M.g_BEYOND)))))) (db_one (ds_raise1 B M.x_BadNumber de_str)) db_nil)
    (db_one (ds_ret (de_fn B D_n_whole (da_cons (de_var 0) (da_cons (de_var 1) da_nil)))))))
/-! d_polynomials -/
abbrev s_d_polynomials : Stmt := topS 43
theorem sc_d_polynomials : FnScope ["many", "found"] ["many"] (defScope s_d_polynomials) := ⟨rfl, rfl, rfl, by decide +kernel, rfl, by decide +kernel, by decide +kernel⟩
theorem d_d_polynomials {f : Addr} {fd : FuncData} (F : Fun K "d_polynomials" "d_polynomials" s_d_polynomials f fd) (hm : mg "d_polynomials" = some (.ref f)) (hb : Binds K fd ["many"] []) (M : Mg P K mg cl) (D_p_minus : Def P w K mg base cl 3 "p_minus" PM.m_p_minus) : Def P w K mg base cl 4 "d_polynomials" PM.m_d_polynomials :=
  Def.of F sc_d_polynomials hm hb fun cdv A up s H W C B => (db_cons (ds_set 1 (dl_own (do_list (da_cons (de_tup (da_cons de_int da_nil)) (da_cons (de_tup (da_cons de_int (da_cons de_int da_nil))) da_nil)))) sc_d_polynomials.nd)
    (db_cons (ds_while 300 B.po (dt_lt (de_len M.b_len (dva_cons (dv_var 1) dva_nil)) (de_var 0)) (db_one (ds_app 1 (de_fn B D_p_minus (da_cons (de_tup (da_cons de_int (da_star (de_ix (dv_var 1) (dv_of (de_neg de_int))) da_nil))) (da_cons (de_ix (dv_var 1) (dv_of (de_neg de_int))) da_nil))))))
    (db_one (ds_ret (de_own (do_cut (dv_var 1) dp_none (dp_some (de_var 0))))))))
/-! quotient_polynomials -/
abbrev s_quotient_polynomials : Stmt := topS 44
theorem sc_quotient_polynomials : FnScope ["n", "k", "rows", "found", "j"] ["n", "k"] (defScope s_quotient_polynomials) := ⟨rfl, rfl, rfl, by decide +kernel, rfl, by decide +kernel, by decide +kernel⟩
theorem d_quotient_polynomials {f : Addr} {fd : FuncData} (F : Fun K "quotient_polynomials" "quotient_polynomials" s_quotient_polynomials f fd) (hm : mg "quotient_polynomials" = some (.ref f)) (hb : Binds K fd ["n", "k"] []) (M : Mg P K mg cl) (D_p_times : Def P w K mg base cl 2 "p_times" PM.m_p_times) (D_p_exact : Def P w K mg base cl 2 "p_exact" PM.m_p_exact) (D_d_polynomials : Def P w K mg base cl 4 "d_polynomials" PM.m_d_polynomials) : Def P w K mg base cl 5 "quotient_polynomials" PM.m_quotient_polynomials :=
  Def.of F sc_quotient_polynomials hm hb fun cdv A up s H W C B => (db_cons (ds_par 2 3 (dl_dat (de_fn B D_d_polynomials (da_cons (de_var 0) da_nil))) (dl_own (do_list (da_cons (de_tup (da_cons de_int da_nil)) da_nil))) sc_quotient_polynomials.nd)
    (db_cons (ds_for B.po (di_range2 M.b_range (da_cons de_int (da_cons (de_add (de_var 1) de_int) da_nil))) (dg_name 4 sc_quotient_polynomials.nd) (db_one (ds_app 3 (de_fn B D_p_exact (da_cons (de_fn B D_p_times (da_cons (de_ix (dv_var 3) (dv_of (de_neg de_int))) (da_cons (de_ix (dv_var 2) (dv_of (de_sub (de_var 0) (de_var 4)))) da_nil))) (da_cons (de_ix (dv_var 2) (dv_of (de_sub (de_var 4) de_int))) da_nil))))))
    (db_thaw 3 (db_one (ds_ret (de_var 3))))))
/-! quotient_told -/
abbrev s_quotient_told : Stmt := topS 45
theorem sc_quotient_told : FnScope ["level", "n", "k"] ["level", "n", "k"] (defScope s_quotient_told) := ⟨rfl, rfl, rfl, by decide +kernel, rfl, by decide +kernel, by decide +kernel⟩
theorem d_quotient_told {f : Addr} {fd : FuncData} (F : Fun K "quotient_told" "quotient_told" s_quotient_told f fd) (hm : mg "quotient_told" = some (.ref f)) (hb : Binds K fd ["level", "n", "k"] []) (M : Mg P K mg cl) (D_n_of_polynomial : Def P w K mg base cl 4 "n_of_polynomial" PM.m_n_of_polynomial) (D_quotient_polynomials : Def P w K mg base cl 5 "quotient_polynomials" PM.m_quotient_polynomials) : Def P w K mg base cl 6 "quotient_told" PM.m_quotient_told :=
  Def.of F sc_quotient_told hm hb fun cdv A up s H W C B => (db_one (ds_ret (de_fn B D_n_of_polynomial (da_cons (de_var 0) (da_cons (de_ix (dv_of (de_fn B D_quotient_polynomials (da_cons (de_var 1) (da_cons (de_var 2) da_nil)))) (dv_var 2)) da_nil)))))
/-! quotient -/
abbrev s_quotient : Stmt := topS 46
theorem sc_quotient : FnScope ["level", "n", "k"] ["level", "n", "k"] (defScope s_quotient) := ⟨rfl, rfl, rfl, by decide +kernel, rfl, by decide +kernel, by decide +kernel⟩
theorem d_quotient {f : Addr} {fd : FuncData} (F : Fun K "quotient" "quotient" s_quotient f fd) (hm : mg "quotient" = some (.ref f)) (hb : Binds K fd ["level", "n", "k"] []) (M : Mg P K mg cl) (D_need_between : Def P w K mg base cl 3 "need_between" PM.m_need_between) (D_need_level : Def P w K mg base cl 4 "need_level" PM.m_need_level) (D_need_told : Def P w K mg base cl 4 "need_told" PM.m_need_told) (D_quotient_told : Def P w K mg base cl 6 "quotient_told" PM.m_quotient_told) : Def P w K mg base cl 7 "quotient" PM.m_quotient :=
  Def.of F sc_quotient hm hb fun cdv A up s H W C B => (db_cons (ds_expr (de_fn B D_need_level (da_cons (de_var 0) da_nil)))
    (db_cons (ds_expr (de_fn B D_need_between (da_cons (de_var 1) (da_cons de_int (da_cons (de_gI M.g_MOST_QUOTIENT) (da_cons de_str da_nil))))))
    (db_cons (ds_expr (de_fn B D_need_between (da_cons (de_var 2) (da_cons de_int (da_cons (de_var 1) (da_cons de_str da_nil))))))
    (db_one (ds_ret (de_fn B D_need_told (da_cons (de_var 0) (da_cons (de_fn B D_quotient_told (da_cons (de_var 0) (da_cons (de_var 1) (da_cons (de_var 2) da_nil)))) da_nil))))))))
/-! quotients -/
abbrev s_quotients : Stmt := topS 47
theorem sc_quotients : FnScope ["level", "n", "one"] ["level", "n"] (defScope s_quotients) := ⟨rfl, rfl, rfl, by decide +kernel, rfl, by decide +kernel, by decide +kernel⟩
theorem d_quotients {f : Addr} {fd : FuncData} (F : Fun K "quotients" "quotients" s_quotients f fd) (hm : mg "quotients" = some (.ref f)) (hb : Binds K fd ["level", "n"] []) (M : Mg P K mg cl) (D_need_between : Def P w K mg base cl 3 "need_between" PM.m_need_between) (D_need_level : Def P w K mg base cl 4 "need_level" PM.m_need_level) (D_n_of_polynomial : Def P w K mg base cl 4 "n_of_polynomial" PM.m_n_of_polynomial) (D_need_told : Def P w K mg base cl 4 "need_told" PM.m_need_told) (D_quotient_polynomials : Def P w K mg base cl 5 "quotient_polynomials" PM.m_quotient_polynomials) : Def P w K mg base cl 6 "quotients" PM.m_quotients :=
  Def.of F sc_quotients hm hb fun cdv A up s H W C B => (db_cons (ds_expr (de_fn B D_need_level (da_cons (de_var 0) da_nil)))
    (db_cons (ds_expr (de_fn B D_need_between (da_cons (de_var 1) (da_cons de_int (da_cons (de_gI M.g_MOST_QUOTIENT) (da_cons de_str da_nil))))))
    (db_one (ds_ret (de_tupC M.b_tuple (dva_cons (dv_own (do_comp [("one", 2)] sc_quotients.nd (show BlkOk ["level", "n", "one"] (defScope s_quotients) _ _ from blkOk_by (by decide +kernel)) (di_seq (de_fn B D_quotient_polynomials (da_cons (de_var 1) (da_cons (de_var 1) da_nil)))) (by decide) (fun s H A cl fp => (dg_name 2 sc_quotients.nd)) (fun s H A cl fp => dts_nil) (fun s H A cl fp => (de_fn B.blk D_need_told (da_cons (de_var 0) (da_cons (de_fn B.blk D_n_of_polynomial (da_cons (de_var 0) (da_cons (de_var 2) da_nil))) da_nil)))))) dva_nil))))))
end
end K06
set_option Elab.async false
set_option linter.all false
set_option autoImplicit false
set_option maxRecDepth 100000
set_option maxHeartbeats 4000000
namespace K06
open PySem PySem.Spec PyProof.Rows L2 DL LamX
section
variable {P : Program} {w : World} {K : PySem.W.Frag} {mg : Str → Option Value} {base : Heap} {cl : Nat → Addr}

/-! _law_blend -/
abbrev s__law_blend : Stmt := topS 50
theorem sc__law_blend : FnScope ["draw", "laps", "found", "prime", "stirred", "cell"] ["draw"] (defScope s__law_blend) := ⟨rfl, rfl, rfl, by decide +kernel, rfl, by decide +kernel, by decide +kernel⟩
theorem d__law_blend {f : Addr} {fd : FuncData} (F : Fun K "_law_blend" "_law_blend" s__law_blend f fd) (hm : mg "_law_blend" = some (.ref f)) (hb : Binds K fd ["draw"] []) (M : Mg P K mg cl) : DefW P w K mg base cl 1 "_law_blend" mBlend :=
  DefW.of F sc__law_blend hm hb fun cdv A up s H W C a L Cc cs B hD => (db_cons (ds_par 1 2 (dl_dat (de_add (de_turn 0 B hD) de_int)) (dl_dat de_int) sc__law_blend.nd)
    (db_cons (ds_setTurn 0 B hD (de_var 1))
    (db_cons (ds_for B.po (di_seq (de_own (do_list (da_cons de_int (da_cons de_int (da_cons de_int da_nil)))))) (dg_name 3 sc__law_blend.nd) (db_cons (ds_set 4 (dl_dat (de_mod (de_int1 M.b_int (dva_cons (dv_of (de_add (de_mul (de_var 1) de_int) (de_div (de_var 3) de_int))) dva_nil)) (de_var 3))) sc__law_blend.nd)
    (db_cons (ds_for B.po (di_seq (de_cells 0 B hD)) (dg_name 5 sc__law_blend.nd) (db_one (ds_set 4 (dl_dat (de_mod (de_int1 M.b_int (dva_cons (dv_of (de_add (de_add (de_mul (de_var 4) de_int) (de_int1 M.b_int (dva_cons (dv_var 5) dva_nil))) de_int)) dva_nil)) (de_var 3))) sc__law_blend.nd)))
    (db_one (ds_set 2 (dl_dat (de_add (de_mul (de_var 2) de_int) (de_mod (de_int1 M.b_int (dva_cons (dv_of (de_pow (de_var 4) de_int)) dva_nil)) (de_var 3)))) sc__law_blend.nd)))))
    (db_one (ds_ret (de_var 2))))))
/-! _law_take -/
abbrev s__law_take : Stmt := topS 51
theorem sc__law_take : FnScope ["draw", "size", "found"] ["draw", "size"] (defScope s__law_take) := ⟨rfl, rfl, rfl, by decide +kernel, rfl, by decide +kernel, by decide +kernel⟩
theorem d__law_take {f : Addr} {fd : FuncData} (F : Fun K "_law_take" "_law_take" s__law_take f fd) (hm : mg "_law_take" = some (.ref f)) (hb : Binds K fd ["draw", "size"] []) (M : Mg P K mg cl) (D__law_blend : DefW P w K mg base cl 1 "_law_blend" mBlend) : DefW P w K mg base cl 2 "_law_take" mTake :=
  DefW.of F sc__law_take hm hb fun cdv A up s H W C a L Cc cs B hD => (db_cons (ds_while 300 B.po (dt_w (dw_and (dt_EQ B (dv_of (de_rest 0 B hD)) (dv_of de_int)) (dw_and1 (dt_large 0 B hD)))) (db_one (ds_popLarge 0 B hD)))
    (db_cons (ds_if (dt_EQ B (dv_of (de_rest 0 B hD)) (dv_of de_int)) (db_one (ds_setRest 0 B hD (de_fnW B hD D__law_blend (da_cons (de_var 0) da_nil)))) db_nil)
    (db_cons (ds_set 2 (dl_dat (de_mod (de_int1 M.b_int (dva_cons (dv_of (de_rest 0 B hD)) dva_nil)) (de_var 1))) sc__law_take.nd)
    (db_cons (ds_setRest 0 B hD (de_div (de_int1 M.b_int (dva_cons (dv_of (de_rest 0 B hD)) dva_nil)) (de_var 1)))
    (db_one (ds_ret (de_var 2)))))))
/-! _law_pick -/
abbrev s__law_pick : Stmt := topS 52
theorem sc__law_pick : FnScope ["draw", "some"] ["draw", "some"] (defScope s__law_pick) := ⟨rfl, rfl, rfl, by decide +kernel, rfl, by decide +kernel, by decide +kernel⟩
theorem d__law_pick {f : Addr} {fd : FuncData} (F : Fun K "_law_pick" "_law_pick" s__law_pick f fd) (hm : mg "_law_pick" = some (.ref f)) (hb : Binds K fd ["draw", "some"] []) (M : Mg P K mg cl) (D__law_take : DefW P w K mg base cl 2 "_law_take" mTake) : DefW P w K mg base cl 3 "_law_pick" mPick :=
  DefW.of F sc__law_pick hm hb fun cdv A up s H W C a L Cc cs B hD => (db_one (ds_ret (de_ix (dv_var 1) (dv_of (de_fnW B hD D__law_take (da_cons (de_var 0) (da_cons (de_len M.b_len (dva_cons (dv_var 1) dva_nil)) da_nil)))))))
/-! _law_fraction -/
abbrev s__law_fraction : Stmt := topS 56
theorem sc__law_fraction : FnScope ["top", "under", "one", "other", "sign"] ["top", "under"] (defScope s__law_fraction) := ⟨rfl, rfl, rfl, by decide +kernel, rfl, by decide +kernel, by decide +kernel⟩
theorem d__law_fraction {f : Addr} {fd : FuncData} (F : Fun K "_law_fraction" "_law_fraction" s__law_fraction f fd) (hm : mg "_law_fraction" = some (.ref f)) (hb : Binds K fd ["top", "under"] []) (M : Mg P K mg cl) : Def P w K mg base cl 1 "_law_fraction" LM.m__law_fraction :=
  Def.of F sc__law_fraction hm hb fun cdv A up s H W C B => (db_cons (ds_par 2 3 (dl_dat (de_abs M.b_abs (dva_cons (dv_var 0) dva_nil))) (dl_dat (de_abs M.b_abs (dva_cons (dv_var 1) dva_nil))) sc__law_fraction.nd)
    (db_cons (ds_while 300 B.po (dt_NE B (dv_var 3) (dv_of de_int)) (db_one (ds_par 2 3 (dl_dat (de_var 3)) (dl_dat (de_mod (de_int1 M.b_int (dva_cons (dv_var 2) dva_nil)) (de_int1 M.b_int (dva_cons (dv_var 3) dva_nil)))) sc__law_fraction.nd)))
    (db_cons (ds_set 4 (dl_dat (de_if (dt_lt (de_var 1) de_int) (de_neg de_int) de_int)) sc__law_fraction.nd)
    (db_one (ds_ret (de_if (dt_NE B (dv_var 2) (dv_of de_int)) (de_tup (da_cons (de_div (de_mul (de_var 4) (de_var 0)) (de_var 2)) (da_cons (de_div (de_mul (de_var 4) (de_var 1)) (de_var 2)) da_nil))) (de_tup (da_cons de_int (da_cons de_int da_nil)))))))))
/-! _law_plus -/
abbrev s__law_plus : Stmt := topS 57
theorem sc__law_plus : FnScope ["one", "other"] ["one", "other"] (defScope s__law_plus) := ⟨rfl, rfl, rfl, by decide +kernel, rfl, by decide +kernel, by decide +kernel⟩
theorem d__law_plus {f : Addr} {fd : FuncData} (F : Fun K "_law_plus" "_law_plus" s__law_plus f fd) (hm : mg "_law_plus" = some (.ref f)) (hb : Binds K fd ["one", "other"] []) (M : Mg P K mg cl) (D__law_fraction : Def P w K mg base cl 1 "_law_fraction" LM.m__law_fraction) : Def P w K mg base cl 2 "_law_plus" LM.m__law_plus :=
  Def.of F sc__law_plus hm hb fun cdv A up s H W C B => (db_one (ds_ret (de_fn B D__law_fraction (da_cons (de_add (de_mul (de_ix (dv_var 0) (dv_of de_int)) (de_ix (dv_var 1) (dv_of de_int))) (de_mul (de_ix (dv_var 1) (dv_of de_int)) (de_ix (dv_var 0) (dv_of de_int)))) (da_cons (de_mul (de_ix (dv_var 0) (dv_of de_int)) (de_ix (dv_var 1) (dv_of de_int))) da_nil)))))
/-! _law_times -/
abbrev s__law_times : Stmt := topS 58
theorem sc__law_times : FnScope ["one", "other"] ["one", "other"] (defScope s__law_times) := ⟨rfl, rfl, rfl, by decide +kernel, rfl, by decide +kernel, by decide +kernel⟩
theorem d__law_times {f : Addr} {fd : FuncData} (F : Fun K "_law_times" "_law_times" s__law_times f fd) (hm : mg "_law_times" = some (.ref f)) (hb : Binds K fd ["one", "other"] []) (M : Mg P K mg cl) (D__law_fraction : Def P w K mg base cl 1 "_law_fraction" LM.m__law_fraction) : Def P w K mg base cl 2 "_law_times" LM.m__law_times :=
  Def.of F sc__law_times hm hb fun cdv A up s H W C B => (db_one (ds_ret (de_fn B D__law_fraction (da_cons (de_mul (de_ix (dv_var 0) (dv_of de_int)) (de_ix (dv_var 1) (dv_of de_int))) (da_cons (de_mul (de_ix (dv_var 0) (dv_of de_int)) (de_ix (dv_var 1) (dv_of de_int))) da_nil)))))
/-! _law_least -/
abbrev s__law_least : Stmt := topS 59
theorem sc__law_least : FnScope ["level"] ["level"] (defScope s__law_least) := ⟨rfl, rfl, rfl, by decide +kernel, rfl, by decide +kernel, by decide +kernel⟩
theorem d__law_least {f : Addr} {fd : FuncData} (F : Fun K "_law_least" "_law_least" s__law_least f fd) (hm : mg "_law_least" = some (.ref f)) (hb : Binds K fd ["level"] []) (M : Mg P K mg cl) : Def P w K mg base cl 1 "_law_least" LM.m__law_least :=
  Def.of F sc__law_least hm hb fun cdv A up s H W C B => (db_one (ds_ret (de_ix (dv_own (do_list (da_cons (de_tup (da_cons (de_neg de_int) (da_cons de_int da_nil))) (da_cons (de_tup (da_cons (de_neg de_int) (da_cons de_int (da_cons de_int da_nil)))) (da_cons (de_tup (da_cons (de_neg de_int) (da_cons (de_neg de_int) (da_cons de_int da_nil)))) (da_cons (de_tup (da_cons (de_neg de_int) (da_cons de_int (da_cons de_int da_nil)))) (da_cons (de_tup (da_cons de_int (da_cons (de_neg de_int) (da_cons (de_neg de_int) (da_cons de_int da_nil))))) da_nil))))))) (dv_of (de_sub (de_var 0) de_int)))))
/-! _law_rest -/
abbrev s__law_rest : Stmt := topS 60
theorem sc__law_rest : FnScope ["row", "least", "found", "size", "at", "top", "k"] ["row", "least"] (defScope s__law_rest) := ⟨rfl, rfl, rfl, by decide +kernel, rfl, by decide +kernel, by decide +kernel⟩
theorem d__law_rest {f : Addr} {fd : FuncData} (F : Fun K "_law_rest" "_law_rest" s__law_rest f fd) (hm : mg "_law_rest" = some (.ref f)) (hb : Binds K fd ["row", "least"] []) (M : Mg P K mg cl) (D__law_plus : Def P w K mg base cl 2 "_law_plus" LM.m__law_plus) (D__law_times : Def P w K mg base cl 2 "_law_times" LM.m__law_times) : Def P w K mg base cl 3 "_law_rest" LM.m__law_rest :=
  Def.of F sc__law_rest hm hb fun cdv A up s H W C B => (db_cons (ds_par 2 3 (dl_own (do_lstC M.b_list (dva_cons (dv_var 0) dva_nil))) (dl_dat (de_sub (de_len M.b_len (dva_cons (dv_var 1) dva_nil)) de_int)) sc__law_rest.nd)
    (db_cons (ds_for B.po (di_range3 M.b_range (da_cons (de_sub (de_len M.b_len (dva_cons (dv_var 2) dva_nil)) de_int) (da_cons (de_sub (de_var 3) de_int) (da_cons (de_neg de_int) da_nil)))) (dg_name 4 sc__law_rest.nd) (db_cons (ds_set 5 (dl_dat (de_ix (dv_var 2) (dv_var 4))) sc__law_rest.nd)
    (db_cons (ds_for B.po (di_range1 M.b_range (da_cons (de_var 3) da_nil)) (dg_name 6 sc__law_rest.nd) (db_one (ds_setI 2 (de_fn B D__law_plus (da_cons (de_ix (dv_var 2) (dv_of (de_add (de_sub (de_var 4) (de_var 3)) (de_var 6)))) (da_cons (de_fn B D__law_times (da_cons (de_var 5) (da_cons (de_tup (da_cons (de_neg (de_ix (dv_var 1) (dv_var 6))) (da_cons de_int da_nil))) da_nil))) da_nil))) (de_add (de_sub (de_var 4) (de_var 3)) (de_var 6)))))
    (db_one (ds_set 2 (dl_own (do_cut (dv_var 2) dp_none (dp_some (de_var 4)))) sc__law_rest.nd)))))
    (db_one (ds_ret (de_tupC M.b_tuple (dva_cons (dv_own (do_cat (dv_var 2) (dv_own (do_rep (dv_own (do_list (da_cons (de_tup (da_cons de_int (da_cons de_int da_nil))) da_nil))) (dv_of (de_sub (de_var 3) (de_len M.b_len (dva_cons (dv_var 2) dva_nil)))))))) dva_nil))))))
/-! _law_whole -/
abbrev s__law_whole : Stmt := topS 61
theorem sc__law_whole : FnScope ["k", "least"] ["k", "least"] (defScope s__law_whole) := ⟨rfl, rfl, rfl, by decide +kernel, rfl, by decide +kernel, by decide +kernel⟩
theorem d__law_whole {f : Addr} {fd : FuncData} (F : Fun K "_law_whole" "_law_whole" s__law_whole f fd) (hm : mg "_law_whole" = some (.ref f)) (hb : Binds K fd ["k", "least"] []) (M : Mg P K mg cl) (D__law_rest : Def P w K mg base cl 3 "_law_rest" LM.m__law_rest) : Def P w K mg base cl 4 "_law_whole" LM.m__law_whole :=
  Def.of F sc__law_whole hm hb fun cdv A up s H W C B => (db_one (ds_ret (de_fn B D__law_rest (da_cons (de_own (do_list (da_cons (de_tup (da_cons (de_var 0) (da_cons de_int da_nil))) da_nil))) (da_cons (de_var 1) da_nil)))))
/-! _law_cleaned -/
abbrev s__law_cleaned : Stmt := topS 62
theorem sc__law_cleaned : FnScope ["row", "found"] ["row"] (defScope s__law_cleaned) := ⟨rfl, rfl, rfl, by decide +kernel, rfl, by decide +kernel, by decide +kernel⟩
theorem d__law_cleaned {f : Addr} {fd : FuncData} (F : Fun K "_law_cleaned" "_law_cleaned" s__law_cleaned f fd) (hm : mg "_law_cleaned" = some (.ref f)) (hb : Binds K fd ["row"] []) (M : Mg P K mg cl) : Def P w K mg base cl 1 "_law_cleaned" LM.m__law_cleaned :=
  Def.of F sc__law_cleaned hm hb fun cdv A up s H W C B => (db_cons (ds_set 1 (dl_own (do_lstC M.b_list (dva_cons (dv_var 0) dva_nil))) sc__law_cleaned.nd)
    (db_cons (ds_while 300 B.po (dt_w (dw_and (dt_NE B (dv_var 1) (dv_own (do_list da_nil))) (dw_and1 (dt_EQ B (dv_of (de_ix (dv_var 1) (dv_of (de_neg de_int)))) (dv_of de_int))))) (db_one (ds_pop 1)))
    (db_one (ds_ret (de_tupC M.b_tuple (dva_cons (dv_var 1) dva_nil))))))
/-! _law_p_plus -/
abbrev s__law_p_plus : Stmt := topS 63
theorem sc__law_p_plus : FnScope ["one", "other", "many", "k"] ["one", "other"] (defScope s__law_p_plus) := ⟨rfl, rfl, rfl, by decide +kernel, rfl, by decide +kernel, by decide +kernel⟩
theorem d__law_p_plus {f : Addr} {fd : FuncData} (F : Fun K "_law_p_plus" "_law_p_plus" s__law_p_plus f fd) (hm : mg "_law_p_plus" = some (.ref f)) (hb : Binds K fd ["one", "other"] []) (M : Mg P K mg cl) (D__law_cleaned : Def P w K mg base cl 1 "_law_cleaned" LM.m__law_cleaned) : Def P w K mg base cl 2 "_law_p_plus" LM.m__law_p_plus :=
  Def.of F sc__law_p_plus hm hb fun cdv A up s H W C B => (db_cons (ds_set 2 (dl_dat (de_max2 M.b_max (dva_cons (dv_of (de_len M.b_len (dva_cons (dv_var 0) dva_nil))) (dva_cons (dv_of (de_len M.b_len (dva_cons (dv_var 1) dva_nil))) dva_nil)))) sc__law_p_plus.nd)
    (db_one (ds_ret (de_fn B D__law_cleaned (da_cons (de_own (do_comp [("k", 3)] sc__law_p_plus.nd (show BlkOk ["one", "other", "many", "k"] (defScope s__law_p_plus) _ _ from blkOk_by (by decide +kernel)) (di_range1 M.b_range (da_cons (de_var 2) da_nil)) (by decide) (fun s H A cl fp => (dg_name 3 sc__law_p_plus.nd)) (fun s H A cl fp => dts_nil) (fun s H A cl fp => (de_add (de_if (dt_lt (de_var 3) (de_len M.b_len (dva_cons (dv_var 0) dva_nil))) (de_ix (dv_var 0) (dv_var 3)) de_int) (de_if (dt_lt (de_var 3) (de_len M.b_len (dva_cons (dv_var 1) dva_nil))) (de_ix (dv_var 1) (dv_var 3)) de_int))))) da_nil)))))
/-! _law_p_times -/
abbrev s__law_p_times : Stmt := topS 64
theorem sc__law_p_times : FnScope ["one", "other", "found", "k", "a", "j", "b"] ["one", "other"] (defScope s__law_p_times) := ⟨rfl, rfl, rfl, by decide +kernel, rfl, by decide +kernel, by decide +kernel⟩
theorem d__law_p_times {f : Addr} {fd : FuncData} (F : Fun K "_law_p_times" "_law_p_times" s__law_p_times f fd) (hm : mg "_law_p_times" = some (.ref f)) (hb : Binds K fd ["one", "other"] []) (M : Mg P K mg cl) (D__law_cleaned : Def P w K mg base cl 1 "_law_cleaned" LM.m__law_cleaned) : Def P w K mg base cl 2 "_law_p_times" LM.m__law_p_times :=
  Def.of F sc__law_p_times hm hb fun cdv A up s H W C B => (db_cons (ds_set 2 (dl_own (do_rep (dv_own (do_list (da_cons de_int da_nil))) (dv_of (de_add (de_add (de_len M.b_len (dva_cons (dv_var 0) dva_nil)) (de_len M.b_len (dva_cons (dv_var 1) dva_nil))) de_int)))) sc__law_p_times.nd)
    (db_cons (ds_for B.po (di_enum M.b_enumerate (da_cons (de_var 0) da_nil)) (dg_tup (dgs_cons (dg_name 3 sc__law_p_times.nd) (dgs_cons (dg_name 4 sc__law_p_times.nd) dgs_nil))) (db_one (ds_for B.po (di_enum M.b_enumerate (da_cons (de_var 1) da_nil)) (dg_tup (dgs_cons (dg_name 5 sc__law_p_times.nd) (dgs_cons (dg_name 6 sc__law_p_times.nd) dgs_nil))) (db_one (ds_setI 2 (de_add (de_ix (dv_var 2) (dv_of (de_add (de_var 3) (de_var 5)))) (de_mul (de_var 4) (de_var 6))) (de_add (de_var 3) (de_var 5)))))))
    (db_thaw 2 (db_one (ds_ret (de_fn B D__law_cleaned (da_cons (de_var 2) da_nil)))))))
/-! _law_divided -/
abbrev s__law_divided : Stmt := topS 65
theorem sc__law_divided : FnScope ["one", "other", "rest", "found", "divisor", "at", "top", "factor", "k", "b", "a"] ["one", "other"] (defScope s__law_divided) := ⟨rfl, rfl, rfl, by decide +kernel, rfl, by decide +kernel, by decide +kernel⟩
def b__law_divided : S := (sseq (parS2 2 3 (eOwn (compE [10] (eSeq (eVar 0)) (tgN 10) (epure true) (eIf (eB (eIsi .int (eVarV 10))) (eTup (eCons (eVar 10) (eCons (eC (.int 1)) eNil))) (eVar 10)))) (eDat (eLst (eList eNil))))
    (sseq (setS 4 (eOwn (compE [10] (eSeq (eVar 1)) (tgN 10) (epure true) (eIf (eB (eIsi .int (eVarV 10))) (eTup (eCons (eVar 10) (eCons (eC (.int 1)) eNil))) (eVar 10)))))
    (sseq (forS (eCall gRange3 (eCons (eop2 dSub (eCall gLen (eCons (eVarV 2) eNil)) (eCall gLen (eCons (eVarV 4) eNil))) (eCons (eNeg (eC (.int 1))) (eCons (eNeg (eC (.int 1))) eNil)))) (tgN 5) (sseq (setS 6 (eDat (eop2 dIx (eVarV 4) (eNeg (eC (.int 1))))))
    (sseq (setS 7 (eDat (eFun LM.m__law_times (eCons (eop2 dIx (eVarV 2) (eop2 dSub (eop2 dAdd (eVar 5) (eCall gLen (eCons (eVarV 4) eNil))) (eC (.int 1)))) (eCons (eFun LM.m__law_fraction (eCons (eop2 dIx (eVarV 6) (eC (.int 1))) (eCons (eop2 dIx (eVarV 6) (eC (.int 0))) eNil))) eNil)))))
    (sseq (setS 3 (eDat (eLst (eop2 dCatL (eLst (eList (eCons (eVar 7) eNil))) (eVarV 3)))))
    (sseq (thawS 4) (forS (eCall gEnum (eCons (eVar 4) eNil)) (tgT 2 (tgCons (tgN 8) (tgCons (tgN 9) tgNil))) (setIS 2 (eFun LM.m__law_plus (eCons (eop2 dIx (eVarV 2) (eop2 dAdd (eVar 5) (eVar 8))) (eCons (eFun LM.m__law_times (eCons (eVar 7) (eCons (eTup (eCons (eNeg (eop2 dIx (eVarV 9) (eC (.int 0)))) (eCons (eop2 dIx (eVarV 9) (eC (.int 1))) eNil))) eNil))) eNil))) (eop2 dAdd (eVar 5) (eVar 8)))))))))
    (sseq (whileS (eAnd (eB (eop2 dNe (eVarV 2) (eLst (eList eNil)))) (eB (eop2 dEq (eop2 dIx (eop2 dIx (eVarV 2) (eNeg (eC (.int 1)))) (eC (.int 0))) (eC (.int 0))))) (popS 2) 300)
    (sseq (thawS 2) (sbind (eTup (eCons (eVar 3) (eCons (eVar 2) eNil))) fun d => fun w _ => .rt d w))))))
def m__law_divided : List D → FR := mRun 2 11 b__law_divided
theorem d__law_divided {f : Addr} {fd : FuncData} (F : Fun K "_law_divided" "_law_divided" s__law_divided f fd) (hm : mg "_law_divided" = some (.ref f)) (hb : Binds K fd ["one", "other"] []) (M : Mg P K mg cl) (D__law_fraction : Def P w K mg base cl 1 "_law_fraction" LM.m__law_fraction) (D__law_plus : Def P w K mg base cl 2 "_law_plus" LM.m__law_plus) (D__law_times : Def P w K mg base cl 2 "_law_times" LM.m__law_times) : Def P w K mg base cl 3 "_law_divided" m__law_divided :=
  Def.of F sc__law_divided hm hb fun cdv A up s H W C B => (db_cons (ds_par 2 3 (dl_own (do_comp [("a", 10)] sc__law_divided.nd (show BlkOk ["one", "other", "rest", "found", "divisor", "at", "top", "factor", "k", "b", "a"] (defScope s__law_divided) _ _ from blkOk_by (by decide +kernel)) (di_seq (de_var 0)) (by decide) (fun s H A cl fp => (dg_name 10 sc__law_divided.nd)) (fun s H A cl fp => dts_nil) (fun s H A cl fp => (de_if (dt_val (de_isi .int M.b_isinstance (dv_var 10) M.b_int (by first | rfl | decide +kernel))) (de_tup (da_cons (de_var 10) (da_cons de_int da_nil))) (de_var 10))))) (dl_dat (de_own (do_list da_nil))) sc__law_divided.nd)
    (db_cons (ds_setComp [("a", 10)] 4 sc__law_divided.nd (show BlkOk ["one", "other", "rest", "found", "divisor", "at", "top", "factor", "k", "b", "a"] (defScope s__law_divided) _ _ from blkOk_by (by decide +kernel)) (di_seq (de_var 1)) (by decide) (fun s H A cl fp => (dg_name 10 sc__law_divided.nd)) (fun s H A cl fp => dts_nil) (fun s H A cl fp => (de_if (dt_val (de_isi .int M.b_isinstance (dv_var 10) M.b_int (by first | rfl | decide +kernel))) (de_tup (da_cons (de_var 10) (da_cons de_int da_nil))) (de_var 10))))
    (db_cons (ds_for B.po (di_range3 M.b_range (da_cons (de_sub (de_len M.b_len (dva_cons (dv_var 2) dva_nil)) (de_len M.b_len (dva_cons (dv_var 4) dva_nil))) (da_cons (de_neg de_int) (da_cons (de_neg de_int) da_nil)))) (dg_name 5 sc__law_divided.nd) (db_cons (ds_set 6 (dl_dat (de_ix (dv_var 4) (dv_of (de_neg de_int)))) sc__law_divided.nd)
    (db_cons (ds_set 7 (dl_dat (de_fn B D__law_times (da_cons (de_ix (dv_var 2) (dv_of (de_sub (de_add (de_var 5) (de_len M.b_len (dva_cons (dv_var 4) dva_nil))) de_int))) (da_cons (de_fn B D__law_fraction (da_cons (de_ix (dv_var 6) (dv_of de_int)) (da_cons (de_ix (dv_var 6) (dv_of de_int)) da_nil))) da_nil)))) sc__law_divided.nd)
    (db_cons (ds_set 3 (dl_dat (de_own (do_cat (dv_own (do_list (da_cons (de_var 7) da_nil))) (dv_var 3)))) sc__law_divided.nd)
    (db_thaw 4 (db_one (ds_for B.po (di_enum M.b_enumerate (da_cons (de_var 4) da_nil)) (dg_tup (dgs_cons (dg_name 8 sc__law_divided.nd) (dgs_cons (dg_name 9 sc__law_divided.nd) dgs_nil))) (db_one (ds_setI 2 (de_fn B D__law_plus (da_cons (de_ix (dv_var 2) (dv_of (de_add (de_var 5) (de_var 8)))) (da_cons (de_fn B D__law_times (da_cons (de_var 7) (da_cons (de_tup (da_cons (de_neg (de_ix (dv_var 9) (dv_of de_int))) (da_cons (de_ix (dv_var 9) (dv_of de_int)) da_nil))) da_nil))) da_nil))) (de_add (de_var 5) (de_var 8)))))))))))
    (db_cons (ds_while 300 B.po (dt_w (dw_and (dt_NE B (dv_var 2) (dv_own (do_list da_nil))) (dw_and1 (dt_EQ B (dv_of (de_ix (dv_of (de_ix (dv_var 2) (dv_of (de_neg de_int)))) (dv_of de_int))) (dv_of de_int))))) (db_one (ds_pop 2)))
    (db_thaw 2 (db_one (ds_ret (de_tup (da_cons (de_var 3) (da_cons (de_var 2) da_nil))))))))))
/-! _law_letters -/
abbrev s__law_letters : Stmt := topS 66
theorem sc__law_letters : FnScope ["n", "found", "k", "a"] ["n"] (defScope s__law_letters) := ⟨rfl, rfl, rfl, by decide +kernel, rfl, by decide +kernel, by decide +kernel⟩
def b__law_letters : S := (sseq (setS 1 (eOwn (eList (eCons (eTup eNil) (eCons (eTup (eCons (eC (.int 1)) eNil)) eNil)))))
    (sseq (forS (eCall gRange1 (eCons (eVar 0) eNil)) (tgN 2) (appS 1 (eFun LM.m__law_p_plus (eCons (eIf (eB (eop2 dNe (eop2 dIx (eVarV 1) (eNeg (eC (.int 1)))) (eTup eNil))) (eop2 dCatT (eTup (eCons (eC (.int 0)) eNil)) (eop2 dIx (eVarV 1) (eNeg (eC (.int 1))))) (eTup eNil)) (eCons (eCall gTuple (eCons (eLst (compE [3] (eSeq (eop2 dIx (eVarV 1) (eNeg (eC (.int 2))))) (tgN 3) (epure true) (eNeg (eVar 3)))) eNil)) eNil)))))
    (sbind (eLst (eCut gCutL (eVarV 1) (ePart (eC (.int 1))) eNoPart)) fun d => fun w _ => .rt d w)))
def m__law_letters : List D → FR := mRun 1 4 b__law_letters
theorem d__law_letters {f : Addr} {fd : FuncData} (F : Fun K "_law_letters" "_law_letters" s__law_letters f fd) (hm : mg "_law_letters" = some (.ref f)) (hb : Binds K fd ["n"] []) (M : Mg P K mg cl) (D__law_p_plus : Def P w K mg base cl 2 "_law_p_plus" LM.m__law_p_plus) : Def P w K mg base cl 3 "_law_letters" m__law_letters :=
  Def.of F sc__law_letters hm hb fun cdv A up s H W C B => (db_cons (ds_set 1 (dl_own (do_list (da_cons (de_tup da_nil) (da_cons (de_tup (da_cons de_int da_nil)) da_nil)))) sc__law_letters.nd)
    (db_cons (ds_for B.po (di_range1 M.b_range (da_cons (de_var 0) da_nil)) (dg_name 2 sc__law_letters.nd) (db_one (ds_app 1 (de_fn B D__law_p_plus (da_cons (de_if (dt_NE B (dv_of (de_ix (dv_var 1) (dv_of (de_neg de_int)))) (dv_of (de_tup da_nil))) (de_catT (dv_of (de_tup (da_cons de_int da_nil))) (dv_of (de_ix (dv_var 1) (dv_of (de_neg de_int))))) (de_tup da_nil)) (da_cons (de_tupC M.b_tuple (dva_cons (dv_own (do_comp [("a", 3)] sc__law_letters.nd (show BlkOk ["n", "found", "k", "a"] (defScope s__law_letters) _ _ from blkOk_by (by decide +kernel)) (di_seq (de_ix (dv_var 1) (dv_of (de_neg de_int)))) (by decide) (fun s H A cl fp => (dg_name 3 sc__law_letters.nd)) (fun s H A cl fp => dts_nil) (fun s H A cl fp => (de_neg (de_var 3))))) dva_nil)) da_nil))))))
    (db_one (ds_ret (de_own (do_cut (dv_var 1) (dp_some de_int) dp_none))))))
/-! _law_quotients -/
abbrev s__law_quotients : Stmt := topS 67
theorem sc__law_quotients : FnScope ["n", "letters", "found", "k", "whole", "rest", "a", "b"] ["n", "letters"] (defScope s__law_quotients) := ⟨rfl, rfl, rfl, by decide +kernel, rfl, by decide +kernel, by decide +kernel⟩
def b__law_quotients : S := (sseq (setS 2 (eOwn (eList (eCons (eTup (eCons (eC (.int 1)) eNil)) eNil))))
    (sseq (forS (eCall gRange2 (eCons (eC (.int 1)) (eCons (eop2 dAdd (eVar 0) (eC (.int 1))) eNil))) (tgN 3) (sseq (asgS (tgT 2 (tgCons (tgN 4) (tgCons (tgN 5) tgNil))) (eFun m__law_divided (eCons (eFun LM.m__law_p_times (eCons (eop2 dIx (eVarV 2) (eNeg (eC (.int 1)))) (eCons (eop2 dIx (eVarV 1) (eop2 dSub (eVar 0) (eVar 3))) eNil))) (eCons (eop2 dIx (eVarV 1) (eop2 dSub (eVar 3) (eC (.int 1)))) eNil))))
    (appS 2 (eIf (eAnd (eB (eop2 dEq (eVarV 5) (eLst (eList eNil)))) (eB (eop2 dEq (eLst (compE [6, 7] (eSeq (eVar 4)) (tgT 2 (tgCons (tgN 6) (tgCons (tgN 7) tgNil))) (eB (eop2 dNe (eVarV 7) (eC (.int 1)))) (eC (.int 1)))) (eLst (eList eNil))))) (eCall gTuple (eCons (eLst (compE [6, 7] (eSeq (eVar 4)) (tgT 2 (tgCons (tgN 6) (tgCons (tgN 7) tgNil))) (epure true) (eCall gInt (eCons (eVarV 6) eNil)))) eNil)) (eC .non)))))
    (sseq (thawS 2) (sbind (eVar 2) fun d => fun w _ => .rt d w))))
def m__law_quotients : List D → FR := mRun 2 8 b__law_quotients
theorem d__law_quotients {f : Addr} {fd : FuncData} (F : Fun K "_law_quotients" "_law_quotients" s__law_quotients f fd) (hm : mg "_law_quotients" = some (.ref f)) (hb : Binds K fd ["n", "letters"] []) (M : Mg P K mg cl) (D__law_p_times : Def P w K mg base cl 2 "_law_p_times" LM.m__law_p_times) (D__law_divided : Def P w K mg base cl 3 "_law_divided" m__law_divided) : Def P w K mg base cl 4 "_law_quotients" m__law_quotients :=
  Def.of F sc__law_quotients hm hb fun cdv A up s H W C B => (db_cons (ds_set 2 (dl_own (do_list (da_cons (de_tup (da_cons de_int da_nil)) da_nil))) sc__law_quotients.nd)
    (db_cons (ds_for B.po (di_range2 M.b_range (da_cons de_int (da_cons (de_add (de_var 0) de_int) da_nil))) (dg_name 3 sc__law_quotients.nd) (db_cons (ds_asg (de_fn B D__law_divided (da_cons (de_fn B D__law_p_times (da_cons (de_ix (dv_var 2) (dv_of (de_neg de_int))) (da_cons (de_ix (dv_var 1) (dv_of (de_sub (de_var 0) (de_var 3)))) da_nil))) (da_cons (de_ix (dv_var 1) (dv_of (de_sub (de_var 3) de_int))) da_nil))) (dg_tup (dgs_cons (dg_name 4 sc__law_quotients.nd) (dgs_cons (dg_name 5 sc__law_quotients.nd) dgs_nil))))
    (db_one (ds_app 2 (de_if (dt_w (dw_and (dt_EQ B (dv_var 5) (dv_own (do_list da_nil))) (dw_and1 (dt_EQ B (dv_own (do_comp [("a", 6), ("b", 7)] sc__law_quotients.nd (show BlkOk ["n", "letters", "found", "k", "whole", "rest", "a", "b"] (defScope s__law_quotients) _ _ from blkOk_by (by decide +kernel)) (di_seq (de_var 4)) (by decide) (fun s H A cl fp => (dg_tup (dgs_cons (dg_name 6 sc__law_quotients.nd) (dgs_cons (dg_name 7 sc__law_quotients.nd) dgs_nil)))) (fun s H A cl fp => (dts_one (dt_NE B.blk (dv_var 7) (dv_of de_int)))) (fun s H A cl fp => de_int))) (dv_own (do_list da_nil)))))) (de_tupC M.b_tuple (dva_cons (dv_own (do_comp [("a", 6), ("b", 7)] sc__law_quotients.nd (show BlkOk ["n", "letters", "found", "k", "whole", "rest", "a", "b"] (defScope s__law_quotients) _ _ from blkOk_by (by decide +kernel)) (di_seq (de_var 4)) (by decide) (fun s H A cl fp => (dg_tup (dgs_cons (dg_name 6 sc__law_quotients.nd) (dgs_cons (dg_name 7 sc__law_quotients.nd) dgs_nil)))) (fun s H A cl fp => dts_nil) (fun s H A cl fp => (de_int1 M.b_int (dva_cons (dv_var 6) dva_nil))))) dva_nil)) de_non)))))
    (db_thaw 2 (db_one (ds_ret (de_var 2))))))
abbrev s__law_same : Stmt := topS 54
theorem sc_same : FnScope ["told", "due"] ["told", "due"] (defScope s__law_same) := ⟨rfl, rfl, rfl, by decide +kernel, rfl, by decide +kernel, by decide +kernel⟩
theorem d__law_same {f : Addr} {fd : FuncData} (F : Fun K "_law_same" "_law_same" s__law_same f fd) (hm : mg "_law_same" = some (.ref f)) (hb : Binds K fd ["told", "due"] []) (M : Mg P K mg cl) : Def P w K mg base cl 1 "_law_same" mSame :=
  Def.le (m := mRun 2 2 bSame) (Def.of F sc_same hm hb fun cdv A up s H W C B => db_one (ds_ret (de_eqS (de_repr B M.b_repr (dva_cons (dv_var 0) dva_nil)) (de_repr B M.b_repr (dva_cons (dv_var 1) dva_nil))))) mSame_le
abbrev s__law_caught : Stmt := topS 53
theorem sc_caught : FnScope ["work", "caught", "error"] ["work"] (defScope s__law_caught) := ⟨rfl, rfl, rfl, by decide +kernel, rfl, by decide +kernel, by decide +kernel⟩
theorem d__law_caught {f : Addr} {fd : FuncData} (k k0 : Nat) (hk : k0 ≤ k) (F : Fun K "_law_caught" "_law_caught" s__law_caught f fd) (hm : mg "_law_caught" = some (.ref f)) (hb : Binds K fd ["work"] []) (M : Mg P K mg cl) : DefC P w K mg base cl (k + 1) k0 "_law_caught" (mCaught 99) :=
  DefC.of F sc_caught hm hb (mCaught_le 99) fun cdv A up s H W C a L Cc cs g rc B hD hC =>
    db_cons (ds_set 1 (dl_dat de_non) sc_caught.nd) (db_cons (ds_try 2 1 99 B sc_caught.nd M.exm M.x_DrawError (fun W pn xe B' => db_one (ds_expr (de_work 0 B' (hD.wx W) (hC.tr pn xe W) hk)))) (db_one (ds_ret (de_var 1))))
abbrev s__law_is_bad_number : Stmt := topS 55
theorem sc_isbad : FnScope ["work", "part", "error"] ["work", "part"] (defScope s__law_is_bad_number) := ⟨rfl, rfl, rfl, by decide +kernel, rfl, by decide +kernel, by decide +kernel⟩
theorem d__law_is_bad_number {f : Addr} {fd : FuncData} (k k0 : Nat) (hk : k0 + 1 ≤ k) (F : Fun K "_law_is_bad_number" "_law_is_bad_number" s__law_is_bad_number f fd) (hm : mg "_law_is_bad_number" = some (.ref f)) (hb : Binds K fd ["work", "part"] []) (M : Mg P K mg cl)
    (D_caught : DefC P w K mg base cl (k0 + 1) k0 "_law_caught" (mCaught 99)) (D_same : Def P w K mg base cl 1 "_law_same" mSame) : DefC P w K mg base cl (k + 1) k0 "_law_is_bad_number" (mIsBad tabE 0 99 "part") :=
  DefC.of F sc_isbad hm hb (mIsBad_le tabE 0 99 "part") fun cdv A up s H W C a L Cc cs g rc B hD hC =>
    db_cons (ds_set 2 (dl_dat (de_fnC B hD hC D_caught (da_cons (de_var 0) da_nil) hk)) sc_isbad.nd)
      (db_one (ds_ret (de_and (de_isx 0 B M.tab M.b_isinstance (de_var 2) M.x_BadNumber.gm) (de_one (de_fn B D_same (da_cons (de_fld B M.fld (de_var 2)) (da_cons (de_var 1) da_nil)) (by omega))))))
end
end K06
set_option Elab.async false
set_option linter.all false
set_option autoImplicit false
set_option maxRecDepth 100000
set_option maxHeartbeats 4000000
namespace K06
open PySem PySem.Spec PyProof.Rows L2 DL LamX
section
variable {P : Program} {w : World} {K : PySem.W.Frag} {mg : Str → Option Value} {base : Heap} {cl : Nat → Addr}

/-! law -/
abbrev s_law : Stmt := topS 68
theorem sc_law : FnScope ["script", "draw", "letters", "lap", "level", "n", "least", "due", "told", "k", "one", "binomial", "j", "a"] ["script"] (defScope s_law) := ⟨rfl, rfl, rfl, by decide +kernel, rfl, by decide +kernel, by decide +kernel⟩
def b_law0 (as : Addr) (ns : List Int) : S := (setS 2 (eDat (eFun m__law_letters (eCons (eC (.int 28)) eNil))))
def b_law1 (as : Addr) (ns : List Int) : S := (forS (eCall gRange1 (eCons (eop2 dAdd (eC (.int 2)) (eCall gMin2 (eCons (eScrLen 0 as ns) (eCons (eC (.int 3)) eNil)))) eNil)) (tgN 3) (sseq (parS2 4 5 (eDat (eFunW mPick (eCons (eVar 1) (eCons (eLst (eList (eCons (eC (.int 3)) (eCons (eC (.int 4)) (eCons (eC (.int 5)) (eCons (eC (.int 6)) (eCons (eC (.int 7)) eNil))))))) eNil)))) (eDat (eFunW mPick (eCons (eVar 1) (eCons (eLst (eList (eCons (eFunW mTake (eCons (eVar 1) (eCons (eC (.int 13)) eNil))) (eCons (eFunW mTake (eCons (eVar 1) (eCons (eC (.int 17)) eNil))) eNil)))) eNil)))))
    (sseq (asgS (tgT 2 (tgCons (tgN 6) (tgCons (tgN 7) tgNil))) (eTup (eCons (eFun LM.m__law_least (eCons (eVar 4) eNil)) (eCons (eFun m__law_quotients (eCons (eVar 5) (eCons (eVar 2) eNil))) eNil))))
    (sseq (ifS (eOr (eB (eop2 dIn (eC .non) (eVarV 7))) (eNot (eB (eFun mSame (eCons (eFun PM.m_quotients (eCons (eC (.int 0)) (eCons (eVar 5) eNil))) (eCons (eCall gTuple (eCons (eLst (compE [10] (eSeq (eVar 7)) (tgN 10) (epure true) (eTup (eCons (eVar 10) (eCons (eTup (eCons (eC (.int 1)) eNil)) eNil))))) eNil)) eNil)))))) (sbind (eC (.bl false)) fun d => fun w _ => .rt d w) snil)
    (sseq (setS 8 (eDat (eFun PM.m_quotients (eCons (eVar 4) (eCons (eVar 5) eNil)))))
    (sseq (ifS (eNot (eB (eFun mSame (eCons (eVar 8) (eCons (eCall gTuple (eCons (eLst (compE [10] (eSeq (eVar 7)) (tgN 10) (epure true) (eFun LM.m__law_rest (eCons (eLst (compE [13] (eSeq (eVar 10)) (tgN 13) (epure true) (eTup (eCons (eVar 13) (eCons (eC (.int 1)) eNil))))) (eCons (eVar 6) eNil))))) eNil)) eNil))))) (sbind (eC (.bl false)) fun d => fun w _ => .rt d w) snil)
    (sseq (forS (eCall gEnum (eCons (eVar 7) eNil)) (tgT 2 (tgCons (tgN 9) (tgCons (tgN 10) tgNil))) (sseq (ifS (eOr (eB (eop2 dNe (eCall gLen (eCons (eVarV 10) eNil)) (eop2 dAdd (eop2 dMul (eVar 9) (eop2 dSub (eVar 5) (eVar 9))) (eC (.int 1))))) (eOr (eB (eop2 dNe (eop2 dIx (eVarV 10) (eNeg (eC (.int 1)))) (eC (.int 1)))) (eB (eop2 dNe (eVarV 10) (eop2 dIx (eVarV 7) (eop2 dSub (eVar 5) (eVar 9))))))) (sbind (eC (.bl false)) fun d => fun w _ => .rt d w) snil)
    (ifS (eB (eop2 dNe (eop2 dEq (eop2 dIx (eVarV 8) (eVarV 9)) (eFun LM.m__law_whole (eCons (eC (.int 0)) (eCons (eVar 6) eNil)))) (eop2 dGt (eop2 dMod (eCall gInt (eCons (eVarV 9) eNil)) (eVar 4)) (eop2 dMod (eCall gInt (eCons (eVarV 5) eNil)) (eVar 4))))) (sbind (eC (.bl false)) fun d => fun w _ => .rt d w) snil)))
    (sseq (ifS (eB (eop2 dNe (eop2 dEq (eLst (compE [10] (eSeq (eVar 8)) (tgN 10) (eB (eop2 dEq (eVarV 10) (eFun LM.m__law_whole (eCons (eC (.int 0)) (eCons (eVar 6) eNil))))) (eC (.int 1)))) (eLst (eList eNil))) (eOrV (eop2 dLt (eVar 5) (eVar 4)) (eop2 dEq (eop2 dMod (eCall gInt (eCons (eop2 dAdd (eVar 5) (eC (.int 1))) eNil)) (eVar 4)) (eC (.int 0)))))) (sbind (eC (.bl false)) fun d => fun w _ => .rt d w) snil)
    (sseq (parS2 9 11 (eDat (eFunW mTake (eCons (eVar 1) (eCons (eop2 dAdd (eVar 5) (eC (.int 1))) eNil)))) (eDat (eC (.int 1))))
    (sseq (forS (eCall gRange1 (eCons (eVar 9) eNil)) (tgN 12) (setS 11 (eDat (eop2 dDiv (eop2 dMul (eVar 11) (eop2 dSub (eVar 5) (eVar 12))) (eop2 dAdd (eVar 12) (eC (.int 1)))))))
    (ifS (eOr (eB (eop2 dNe (eFun PM.m_polynomial_at (eCons (eop2 dIx (eVarV 7) (eVarV 9)) (eCons (eC (.int 2)) eNil))) (eVarV 11))) (eNot (eB (eFun mSame (eCons (eLst (eList (eCons (eFun PM.m_quotient (eCons (eC (.int 0)) (eCons (eVar 5) (eCons (eVar 9) eNil)))) (eCons (eFun PM.m_quotient (eCons (eVar 4) (eCons (eVar 5) (eCons (eVar 9) eNil)))) eNil)))) (eCons (eLst (eList (eCons (eTup (eCons (eop2 dIx (eVarV 7) (eVarV 9)) (eCons (eTup (eCons (eC (.int 1)) eNil)) eNil))) (eCons (eop2 dIx (eVarV 8) (eVarV 9)) eNil)))) eNil)))))) (sbind (eC (.bl false)) fun d => fun w _ => .rt d w) snil)))))))))))
def b_law2 (as : Addr) (ns : List Int) : S := (ifS (eOr (eB (eop2 dNe (eFun PM.m_quotient (eCons (eC (.int 0)) (eCons (eC (.int 4)) (eCons (eC (.int 2)) eNil)))) (eTup (eCons (eTup (eCons (eC (.int 2)) (eCons (eC (.int 0)) (eCons (eNeg (eC (.int 3))) (eCons (eC (.int 0)) (eCons (eC (.int 1)) eNil)))))) (eCons (eTup (eCons (eC (.int 1)) eNil)) eNil))))) (eB (eop2 dNe (eFun PM.m_quotient (eCons (eC (.int 5)) (eCons (eC (.int 4)) (eCons (eC (.int 2)) eNil)))) (eFun PM.m_whole_number (eCons (eC (.int 5)) (eCons (eC (.int 1)) eNil)))))) (sbind (eC (.bl false)) fun d => fun w _ => .rt d w) snil)
def b_law3 (as : Addr) (ns : List Int) : S := (ifS (eNot (eB (eLam (mIsBad tabE 0 99 "part") (eFun PM.m_quotient (eCons (eC (.int 0)) (eCons (eFunW mPick (eCons (eVar 1) (eCons (eLst (eList (eCons (eC (.int 29)) (eCons (eNeg (eC (.int 1))) (eCons (eC .non) eNil))))) eNil))) (eCons (eC (.int 0)) eNil)))) (eCons (eC (.str "n")) eNil)))) (sbind (eC (.bl false)) fun d => fun w _ => .rt d w) snil)
def b_law4 (as : Addr) (ns : List Int) : S := (ifS (eNot (eB (eLam (mIsBad tabE 0 99 "part") (eFun PM.m_quotient (eCons (eC (.int 0)) (eCons (eC (.int 4)) (eCons (eFunW mPick (eCons (eVar 1) (eCons (eLst (eList (eCons (eC (.int 5)) (eCons (eNeg (eC (.int 1))) (eCons (eC .non) (eCons (eC (.bl true)) eNil)))))) eNil))) eNil)))) (eCons (eC (.str "k")) eNil)))) (sbind (eC (.bl false)) fun d => fun w _ => .rt d w) snil)
def b_law5 (as : Addr) (ns : List Int) : S := (sbind (eAndV (eop2 dEq (eop2 dIx (eFun PM.m_quotient (eCons (eC (.int 0)) (eCons (eC (.int 28)) (eCons (eC (.int 14)) eNil)))) (eC (.int 1))) (eTup (eCons (eC (.int 1)) eNil))) (eAndV (eop2 dEq (eCall gLen (eCons (eop2 dIx (eFun PM.m_quotient (eCons (eC (.int 0)) (eCons (eC (.int 28)) (eCons (eC (.int 14)) eNil)))) (eC (.int 0))) eNil)) (eC (.int 197))) (eIsX tabE 2 (eLam (mCaught 99) (eFun PM.m_quotients (eCons (eFunW mPick (eCons (eVar 1) (eCons (eLst (eList (eCons (eC (.int 1)) (eCons (eC (.int 8)) (eCons (eC .non) eNil))))) eNil))) (eCons (eC (.int 3)) eNil))) eNil)))) fun d => fun w _ => .rt d w)
def b_law (as : Addr) (ns : List Int) : S := (sseq (b_law0 as ns) (sseq (b_law1 as ns) (sseq (b_law2 as ns) (sseq (b_law3 as ns) (sseq (b_law4 as ns) (b_law5 as ns))))))
def N_law : List Str := ["script", "draw", "letters", "lap", "level", "n", "least", "due", "told", "k", "one", "binomial", "j", "a"]
abbrev k_law : Nat := 10
theorem d_law0 {f cc Pt a L Cc as : Addr} {cs ns : List Int} {A : Around} {up : List Env} {s : Shared} {H : Hp} {W : XK} {C : Ct} (B : Bd cl k_law (cxOf (L2.CX P w) P w K mg base ["script", "draw", "letters", "lap", "level", "n", "least", "due", "told", "k", "one", "binomial", "j", "a"] "law" (defScope s_law) f (.ref cc) A up s H W) C) (hL : LawC C a L Cc cs Pt "law.<locals>.<lambda>") (hs : SqL C.κ.K C.Hb0 as (ns.map V.int)) (TB : TabB base mg cc Pt) (M : Mg P K mg cl) (D_polynomial_at : Def P w K mg base cl 4 "polynomial_at" PM.m_polynomial_at) (D_whole_number : Def P w K mg base cl 6 "whole_number" PM.m_whole_number) (D_quotient : Def P w K mg base cl 7 "quotient" PM.m_quotient) (D_quotients : Def P w K mg base cl 6 "quotients" PM.m_quotients) (D__law_same : Def P w K mg base cl 1 "_law_same" mSame) (D__law_least : Def P w K mg base cl 1 "_law_least" LM.m__law_least) (D__law_rest : Def P w K mg base cl 3 "_law_rest" LM.m__law_rest) (D__law_whole : Def P w K mg base cl 4 "_law_whole" LM.m__law_whole) (D__law_letters : Def P w K mg base cl 3 "_law_letters" m__law_letters) (D__law_quotients : Def P w K mg base cl 4 "_law_quotients" m__law_quotients) (D__law_take : DefW P w K mg base cl 2 "_law_take" mTake) (D__law_pick : DefW P w K mg base cl 3 "_law_pick" mPick) (D__law_caught : DefC P w K mg base cl 9 8 "_law_caught" (mCaught 99)) (D__law_is_bad_number : DefC P w K mg base cl 10 8 "_law_is_bad_number" (mIsBad tabE 0 99 "part")) : DS (cxOf (L2.CX P w) P w K mg base ["script", "draw", "letters", "lap", "level", "n", "least", "due", "told", "k", "one", "binomial", "j", "a"] "law" (defScope s_law) f (.ref cc) A up s H W) C ((defBody s_law).getD 1 (.Pass ⟨0, 0, 0, 0⟩)) (b_law0 as ns) :=
  have hD := hL.drc
  (ds_set 2 (dl_dat (de_fn B D__law_letters (da_cons de_int da_nil))) sc_law.nd)
theorem d_law1 {f cc Pt a L Cc as : Addr} {cs ns : List Int} {A : Around} {up : List Env} {s : Shared} {H : Hp} {W : XK} {C : Ct} (B : Bd cl k_law (cxOf (L2.CX P w) P w K mg base ["script", "draw", "letters", "lap", "level", "n", "least", "due", "told", "k", "one", "binomial", "j", "a"] "law" (defScope s_law) f (.ref cc) A up s H W) C) (hL : LawC C a L Cc cs Pt "law.<locals>.<lambda>") (hs : SqL C.κ.K C.Hb0 as (ns.map V.int)) (TB : TabB base mg cc Pt) (M : Mg P K mg cl) (D_polynomial_at : Def P w K mg base cl 4 "polynomial_at" PM.m_polynomial_at) (D_whole_number : Def P w K mg base cl 6 "whole_number" PM.m_whole_number) (D_quotient : Def P w K mg base cl 7 "quotient" PM.m_quotient) (D_quotients : Def P w K mg base cl 6 "quotients" PM.m_quotients) (D__law_same : Def P w K mg base cl 1 "_law_same" mSame) (D__law_least : Def P w K mg base cl 1 "_law_least" LM.m__law_least) (D__law_rest : Def P w K mg base cl 3 "_law_rest" LM.m__law_rest) (D__law_whole : Def P w K mg base cl 4 "_law_whole" LM.m__law_whole) (D__law_letters : Def P w K mg base cl 3 "_law_letters" m__law_letters) (D__law_quotients : Def P w K mg base cl 4 "_law_quotients" m__law_quotients) (D__law_take : DefW P w K mg base cl 2 "_law_take" mTake) (D__law_pick : DefW P w K mg base cl 3 "_law_pick" mPick) (D__law_caught : DefC P w K mg base cl 9 8 "_law_caught" (mCaught 99)) (D__law_is_bad_number : DefC P w K mg base cl 10 8 "_law_is_bad_number" (mIsBad tabE 0 99 "part")) : DS (cxOf (L2.CX P w) P w K mg base ["script", "draw", "letters", "lap", "level", "n", "least", "due", "told", "k", "one", "binomial", "j", "a"] "law" (defScope s_law) f (.ref cc) A up s H W) C ((defBody s_law).getD 2 (.Pass ⟨0, 0, 0, 0⟩)) (b_law1 as ns) :=
  have hD := hL.drc
  (ds_for B.po (di_range1 M.b_range (da_cons (de_add de_int (de_min2 M.b_min (dva_cons (dv_of (de_scrLen 0 hs M.b_len)) (dva_cons (dv_of de_int) dva_nil)))) da_nil)) (dg_name 3 sc_law.nd) (db_cons (ds_par 4 5 (dl_dat (de_fnW B hD D__law_pick (da_cons (de_var 1) (da_cons (de_own (do_list (da_cons de_int (da_cons de_int (da_cons de_int (da_cons de_int (da_cons de_int da_nil))))))) da_nil)))) (dl_dat (de_fnW B hD D__law_pick (da_cons (de_var 1) (da_cons (de_own (do_list (da_cons (de_fnW B hD D__law_take (da_cons (de_var 1) (da_cons de_int da_nil))) (da_cons (de_fnW B hD D__law_take (da_cons (de_var 1) (da_cons de_int da_nil))) da_nil)))) da_nil)))) sc_law.nd)
    (db_cons (ds_asg (de_tup (da_cons (de_fn B D__law_least (da_cons (de_var 4) da_nil)) (da_cons (de_fn B D__law_quotients (da_cons (de_var 5) (da_cons (de_var 2) da_nil))) da_nil))) (dg_tup (dgs_cons (dg_name 6 sc_law.nd) (dgs_cons (dg_name 7 sc_law.nd) dgs_nil))))
    (db_cons (ds_if (dt_w (dw_or (dt_IN B (dv_of de_non) (dv_var 7)) (dw_or1 (dt_not (dt_val (de_fn B D__law_same (da_cons (de_fn B D_quotients (da_cons de_int (da_cons (de_var 5) da_nil))) (da_cons (de_tupC M.b_tuple (dva_cons (dv_own (do_comp [("one", 10)] sc_law.nd (show BlkOk ["script", "draw", "letters", "lap", "level", "n", "least", "due", "told", "k", "one", "binomial", "j", "a"] (defScope s_law) _ _ from blkOk_by (by decide +kernel)) (di_seq (de_var 7)) (by decide) (fun s H A cl fp => (dg_name 10 sc_law.nd)) (fun s H A cl fp => dts_nil) (fun s H A cl fp => (de_tup (da_cons (de_var 10) (da_cons (de_tup (da_cons de_int da_nil)) da_nil)))))) dva_nil)) da_nil)))))))) (db_one (ds_ret de_bl)) db_nil)
    (db_cons (ds_set 8 (dl_dat (de_fn B D_quotients (da_cons (de_var 4) (da_cons (de_var 5) da_nil)))) sc_law.nd)
    (db_cons (ds_if (dt_not (dt_val (de_fn B D__law_same (da_cons (de_var 8) (da_cons (de_tupC M.b_tuple (dva_cons (dv_own (do_comp [("one", 10)] sc_law.nd (show BlkOk ["script", "draw", "letters", "lap", "level", "n", "least", "due", "told", "k", "one", "binomial", "j", "a"] (defScope s_law) _ _ from blkOk_by (by decide +kernel)) (di_seq (de_var 7)) (by decide) (fun s H A cl fp => (dg_name 10 sc_law.nd)) (fun s H A cl fp => dts_nil) (fun s H A cl fp => (de_fn B.blk D__law_rest (da_cons (de_own (do_comp [("a", 13)] sc_law.nd (blkOk_by (by kernel_rfl)) (di_seq (de_var 10)) (by decide) (fun s H A cl fp => (dg_name 13 sc_law.nd)) (fun s H A cl fp => dts_nil) (fun s H A cl fp => (de_tup (da_cons (de_var 13) (da_cons de_int da_nil)))))) (da_cons (de_var 6) da_nil)))))) dva_nil)) da_nil))))) (db_one (ds_ret de_bl)) db_nil)
    (db_cons (ds_for B.po (di_enum M.b_enumerate (da_cons (de_var 7) da_nil)) (dg_tup (dgs_cons (dg_name 9 sc_law.nd) (dgs_cons (dg_name 10 sc_law.nd) dgs_nil))) (db_cons (ds_if (dt_w (dw_or (dt_NE B (dv_of (de_len M.b_len (dva_cons (dv_var 10) dva_nil))) (dv_of (de_add (de_mul (de_var 9) (de_sub (de_var 5) (de_var 9))) de_int))) (dw_or (dt_NE B (dv_of (de_ix (dv_var 10) (dv_of (de_neg de_int)))) (dv_of de_int)) (dw_or1 (dt_NE B (dv_var 10) (dv_of (de_ix (dv_var 7) (dv_of (de_sub (de_var 5) (de_var 9)))))))))) (db_one (ds_ret de_bl)) db_nil)
    (db_one (ds_if (dt_NE B (dv_of (de_EQ B (dv_of (de_ix (dv_var 8) (dv_var 9))) (dv_of (de_fn B D__law_whole (da_cons de_int (da_cons (de_var 6) da_nil)))))) (dv_of (de_gt (de_mod (de_int1 M.b_int (dva_cons (dv_var 9) dva_nil)) (de_var 4)) (de_mod (de_int1 M.b_int (dva_cons (dv_var 5) dva_nil)) (de_var 4))))) (db_one (ds_ret de_bl)) db_nil))))
    (db_cons (ds_if (dt_NE B (dv_of (de_EQ B (dv_own (do_comp [("one", 10)] sc_law.nd (show BlkOk ["script", "draw", "letters", "lap", "level", "n", "least", "due", "told", "k", "one", "binomial", "j", "a"] (defScope s_law) _ _ from blkOk_by (by decide +kernel)) (di_seq (de_var 8)) (by decide) (fun s H A cl fp => (dg_name 10 sc_law.nd)) (fun s H A cl fp => (dts_one (dt_EQ B.blk (dv_var 10) (dv_of (de_fn B.blk D__law_whole (da_cons de_int (da_cons (de_var 6) da_nil))))))) (fun s H A cl fp => de_int))) (dv_own (do_list da_nil)))) (dv_of (de_or (de_lt (de_var 5) (de_var 4)) (de_one (de_EQ B (dv_of (de_mod (de_int1 M.b_int (dva_cons (dv_of (de_add (de_var 5) de_int)) dva_nil)) (de_var 4))) (dv_of de_int)))))) (db_one (ds_ret de_bl)) db_nil)
    (db_cons (ds_par 9 11 (dl_dat (de_fnW B hD D__law_take (da_cons (de_var 1) (da_cons (de_add (de_var 5) de_int) da_nil)))) (dl_dat de_int) sc_law.nd)
    (db_cons (ds_for B.po (di_range1 M.b_range (da_cons (de_var 9) da_nil)) (dg_name 12 sc_law.nd) (db_one (ds_set 11 (dl_dat (de_div (de_mul (de_var 11) (de_sub (de_var 5) (de_var 12))) (de_add (de_var 12) de_int))) sc_law.nd)))
    (db_one (ds_if (dt_w (dw_or (dt_NE B (dv_of (de_fn B D_polynomial_at (da_cons (de_ix (dv_var 7) (dv_var 9)) (da_cons de_int da_nil)))) (dv_var 11)) (dw_or1 (dt_not (dt_val (de_fn B D__law_same (da_cons (de_own (do_list (da_cons (de_fn B D_quotient (da_cons de_int (da_cons (de_var 5) (da_cons (de_var 9) da_nil)))) (da_cons (de_fn B D_quotient (da_cons (de_var 4) (da_cons (de_var 5) (da_cons (de_var 9) da_nil)))) da_nil)))) (da_cons (de_own (do_list (da_cons (de_tup (da_cons (de_ix (dv_var 7) (dv_var 9)) (da_cons (de_tup (da_cons de_int da_nil)) da_nil))) (da_cons (de_ix (dv_var 8) (dv_var 9)) da_nil)))) da_nil)))))))) (db_one (ds_ret de_bl)) db_nil))))))))))))
theorem d_law2 {f cc Pt a L Cc as : Addr} {cs ns : List Int} {A : Around} {up : List Env} {s : Shared} {H : Hp} {W : XK} {C : Ct} (B : Bd cl k_law (cxOf (L2.CX P w) P w K mg base ["script", "draw", "letters", "lap", "level", "n", "least", "due", "told", "k", "one", "binomial", "j", "a"] "law" (defScope s_law) f (.ref cc) A up s H W) C) (hL : LawC C a L Cc cs Pt "law.<locals>.<lambda>") (hs : SqL C.κ.K C.Hb0 as (ns.map V.int)) (TB : TabB base mg cc Pt) (M : Mg P K mg cl) (D_polynomial_at : Def P w K mg base cl 4 "polynomial_at" PM.m_polynomial_at) (D_whole_number : Def P w K mg base cl 6 "whole_number" PM.m_whole_number) (D_quotient : Def P w K mg base cl 7 "quotient" PM.m_quotient) (D_quotients : Def P w K mg base cl 6 "quotients" PM.m_quotients) (D__law_same : Def P w K mg base cl 1 "_law_same" mSame) (D__law_least : Def P w K mg base cl 1 "_law_least" LM.m__law_least) (D__law_rest : Def P w K mg base cl 3 "_law_rest" LM.m__law_rest) (D__law_whole : Def P w K mg base cl 4 "_law_whole" LM.m__law_whole) (D__law_letters : Def P w K mg base cl 3 "_law_letters" m__law_letters) (D__law_quotients : Def P w K mg base cl 4 "_law_quotients" m__law_quotients) (D__law_take : DefW P w K mg base cl 2 "_law_take" mTake) (D__law_pick : DefW P w K mg base cl 3 "_law_pick" mPick) (D__law_caught : DefC P w K mg base cl 9 8 "_law_caught" (mCaught 99)) (D__law_is_bad_number : DefC P w K mg base cl 10 8 "_law_is_bad_number" (mIsBad tabE 0 99 "part")) : DS (cxOf (L2.CX P w) P w K mg base ["script", "draw", "letters", "lap", "level", "n", "least", "due", "told", "k", "one", "binomial", "j", "a"] "law" (defScope s_law) f (.ref cc) A up s H W) C ((defBody s_law).getD 3 (.Pass ⟨0, 0, 0, 0⟩)) (b_law2 as ns) :=
  have hD := hL.drc
  (ds_if (dt_w (dw_or (dt_NE B (dv_of (de_fn B D_quotient (da_cons de_int (da_cons de_int (da_cons de_int da_nil))))) (dv_of (de_tup (da_cons (de_tup (da_cons de_int (da_cons de_int (da_cons (de_neg de_int) (da_cons de_int (da_cons de_int da_nil)))))) (da_cons (de_tup (da_cons de_int da_nil)) da_nil))))) (dw_or1 (dt_NE B (dv_of (de_fn B D_quotient (da_cons de_int (da_cons de_int (da_cons de_int da_nil))))) (dv_of (de_fn B D_whole_number (da_cons de_int (da_cons de_int da_nil)))))))) (db_one (ds_ret de_bl)) db_nil)
theorem d_law3 {f cc Pt a L Cc as : Addr} {cs ns : List Int} {A : Around} {up : List Env} {s : Shared} {H : Hp} {W : XK} {C : Ct} (B : Bd cl k_law (cxOf (L2.CX P w) P w K mg base ["script", "draw", "letters", "lap", "level", "n", "least", "due", "told", "k", "one", "binomial", "j", "a"] "law" (defScope s_law) f (.ref cc) A up s H W) C) (hL : LawC C a L Cc cs Pt "law.<locals>.<lambda>") (hs : SqL C.κ.K C.Hb0 as (ns.map V.int)) (TB : TabB base mg cc Pt) (M : Mg P K mg cl) (D_polynomial_at : Def P w K mg base cl 4 "polynomial_at" PM.m_polynomial_at) (D_whole_number : Def P w K mg base cl 6 "whole_number" PM.m_whole_number) (D_quotient : Def P w K mg base cl 7 "quotient" PM.m_quotient) (D_quotients : Def P w K mg base cl 6 "quotients" PM.m_quotients) (D__law_same : Def P w K mg base cl 1 "_law_same" mSame) (D__law_least : Def P w K mg base cl 1 "_law_least" LM.m__law_least) (D__law_rest : Def P w K mg base cl 3 "_law_rest" LM.m__law_rest) (D__law_whole : Def P w K mg base cl 4 "_law_whole" LM.m__law_whole) (D__law_letters : Def P w K mg base cl 3 "_law_letters" m__law_letters) (D__law_quotients : Def P w K mg base cl 4 "_law_quotients" m__law_quotients) (D__law_take : DefW P w K mg base cl 2 "_law_take" mTake) (D__law_pick : DefW P w K mg base cl 3 "_law_pick" mPick) (D__law_caught : DefC P w K mg base cl 9 8 "_law_caught" (mCaught 99)) (D__law_is_bad_number : DefC P w K mg base cl 10 8 "_law_is_bad_number" (mIsBad tabE 0 99 "part")) : DS (cxOf (L2.CX P w) P w K mg base ["script", "draw", "letters", "lap", "level", "n", "least", "due", "told", "k", "one", "binomial", "j", "a"] "law" (defScope s_law) f (.ref cc) A up s H W) C ((defBody s_law).getD 4 (.Pass ⟨0, 0, 0, 0⟩)) (b_law3 as ns) :=
  have hD := hL.drc
  (ds_if (dt_not (dt_val (de_lam (k0 := 7) B hL D__law_is_bad_number (mIsBad_ne tabE 0 99 "part") (da_cons de_str da_nil) TB rfl (lamS_by (show lamSB (defScope s_law) _ = true from by decide +kernel)) (fun _ => rfl) (fun A up s2 H2 W f' c' C' B' hD' => (de_fn B' D_quotient (da_cons de_int (da_cons (de_fnW B' hD' D__law_pick (da_cons (de_var 1) (da_cons (de_own (do_list (da_cons de_int (da_cons (de_neg de_int) (da_cons de_non da_nil))))) da_nil))) (da_cons de_int da_nil)))))))) (db_one (ds_ret de_bl)) db_nil)
theorem d_law4 {f cc Pt a L Cc as : Addr} {cs ns : List Int} {A : Around} {up : List Env} {s : Shared} {H : Hp} {W : XK} {C : Ct} (B : Bd cl k_law (cxOf (L2.CX P w) P w K mg base ["script", "draw", "letters", "lap", "level", "n", "least", "due", "told", "k", "one", "binomial", "j", "a"] "law" (defScope s_law) f (.ref cc) A up s H W) C) (hL : LawC C a L Cc cs Pt "law.<locals>.<lambda>") (hs : SqL C.κ.K C.Hb0 as (ns.map V.int)) (TB : TabB base mg cc Pt) (M : Mg P K mg cl) (D_polynomial_at : Def P w K mg base cl 4 "polynomial_at" PM.m_polynomial_at) (D_whole_number : Def P w K mg base cl 6 "whole_number" PM.m_whole_number) (D_quotient : Def P w K mg base cl 7 "quotient" PM.m_quotient) (D_quotients : Def P w K mg base cl 6 "quotients" PM.m_quotients) (D__law_same : Def P w K mg base cl 1 "_law_same" mSame) (D__law_least : Def P w K mg base cl 1 "_law_least" LM.m__law_least) (D__law_rest : Def P w K mg base cl 3 "_law_rest" LM.m__law_rest) (D__law_whole : Def P w K mg base cl 4 "_law_whole" LM.m__law_whole) (D__law_letters : Def P w K mg base cl 3 "_law_letters" m__law_letters) (D__law_quotients : Def P w K mg base cl 4 "_law_quotients" m__law_quotients) (D__law_take : DefW P w K mg base cl 2 "_law_take" mTake) (D__law_pick : DefW P w K mg base cl 3 "_law_pick" mPick) (D__law_caught : DefC P w K mg base cl 9 8 "_law_caught" (mCaught 99)) (D__law_is_bad_number : DefC P w K mg base cl 10 8 "_law_is_bad_number" (mIsBad tabE 0 99 "part")) : DS (cxOf (L2.CX P w) P w K mg base ["script", "draw", "letters", "lap", "level", "n", "least", "due", "told", "k", "one", "binomial", "j", "a"] "law" (defScope s_law) f (.ref cc) A up s H W) C ((defBody s_law).getD 5 (.Pass ⟨0, 0, 0, 0⟩)) (b_law4 as ns) :=
  have hD := hL.drc
  (ds_if (dt_not (dt_val (de_lam (k0 := 7) B hL D__law_is_bad_number (mIsBad_ne tabE 0 99 "part") (da_cons de_str da_nil) TB rfl (lamS_by (show lamSB (defScope s_law) _ = true from by decide +kernel)) (fun _ => rfl) (fun A up s2 H2 W f' c' C' B' hD' => (de_fn B' D_quotient (da_cons de_int (da_cons de_int (da_cons (de_fnW B' hD' D__law_pick (da_cons (de_var 1) (da_cons (de_own (do_list (da_cons de_int (da_cons (de_neg de_int) (da_cons de_non (da_cons de_bl da_nil)))))) da_nil))) da_nil)))))))) (db_one (ds_ret de_bl)) db_nil)
theorem d_law5 {f cc Pt a L Cc as : Addr} {cs ns : List Int} {A : Around} {up : List Env} {s : Shared} {H : Hp} {W : XK} {C : Ct} (B : Bd cl k_law (cxOf (L2.CX P w) P w K mg base ["script", "draw", "letters", "lap", "level", "n", "least", "due", "told", "k", "one", "binomial", "j", "a"] "law" (defScope s_law) f (.ref cc) A up s H W) C) (hL : LawC C a L Cc cs Pt "law.<locals>.<lambda>") (hs : SqL C.κ.K C.Hb0 as (ns.map V.int)) (TB : TabB base mg cc Pt) (M : Mg P K mg cl) (D_polynomial_at : Def P w K mg base cl 4 "polynomial_at" PM.m_polynomial_at) (D_whole_number : Def P w K mg base cl 6 "whole_number" PM.m_whole_number) (D_quotient : Def P w K mg base cl 7 "quotient" PM.m_quotient) (D_quotients : Def P w K mg base cl 6 "quotients" PM.m_quotients) (D__law_same : Def P w K mg base cl 1 "_law_same" mSame) (D__law_least : Def P w K mg base cl 1 "_law_least" LM.m__law_least) (D__law_rest : Def P w K mg base cl 3 "_law_rest" LM.m__law_rest) (D__law_whole : Def P w K mg base cl 4 "_law_whole" LM.m__law_whole) (D__law_letters : Def P w K mg base cl 3 "_law_letters" m__law_letters) (D__law_quotients : Def P w K mg base cl 4 "_law_quotients" m__law_quotients) (D__law_take : DefW P w K mg base cl 2 "_law_take" mTake) (D__law_pick : DefW P w K mg base cl 3 "_law_pick" mPick) (D__law_caught : DefC P w K mg base cl 9 8 "_law_caught" (mCaught 99)) (D__law_is_bad_number : DefC P w K mg base cl 10 8 "_law_is_bad_number" (mIsBad tabE 0 99 "part")) : DS (cxOf (L2.CX P w) P w K mg base ["script", "draw", "letters", "lap", "level", "n", "least", "due", "told", "k", "one", "binomial", "j", "a"] "law" (defScope s_law) f (.ref cc) A up s H W) C ((defBody s_law).getD 6 (.Pass ⟨0, 0, 0, 0⟩)) (b_law5 as ns) :=
  have hD := hL.drc
  (ds_ret (de_and (de_EQ B (dv_of (de_ix (dv_of (de_fn B D_quotient (da_cons de_int (da_cons de_int (da_cons de_int da_nil))))) (dv_of de_int))) (dv_of (de_tup (da_cons de_int da_nil)))) (de_and (de_EQ B (dv_of (de_len M.b_len (dva_cons (dv_of (de_ix (dv_of (de_fn B D_quotient (da_cons de_int (da_cons de_int (da_cons de_int da_nil))))) (dv_of de_int))) dva_nil))) (dv_of de_int)) (de_one (de_isx 2 B M.tab M.b_isinstance (de_lam (k0 := 7) B hL D__law_caught (mCaught_ne 99) da_nil TB rfl (lamS_by (show lamSB (defScope s_law) _ = true from by decide +kernel)) (fun _ => rfl) (fun A up s2 H2 W f' c' C' B' hD' => (de_fn B' D_quotients (da_cons (de_fnW B' hD' D__law_pick (da_cons (de_var 1) (da_cons (de_own (do_list (da_cons de_int (da_cons de_int (da_cons de_non da_nil))))) da_nil))) (da_cons de_int da_nil))))) M.x_BadLevel.gm)))))
theorem d_law {f cc Pt a L Cc as : Addr} {cs ns : List Int} {A : Around} {up : List Env} {s : Shared} {H : Hp} {W : XK} {C : Ct} (B : Bd cl k_law (cxOf (L2.CX P w) P w K mg base ["script", "draw", "letters", "lap", "level", "n", "least", "due", "told", "k", "one", "binomial", "j", "a"] "law" (defScope s_law) f (.ref cc) A up s H W) C) (hL : LawC C a L Cc cs Pt "law.<locals>.<lambda>") (hs : SqL C.κ.K C.Hb0 as (ns.map V.int)) (TB : TabB base mg cc Pt) (M : Mg P K mg cl) (D_polynomial_at : Def P w K mg base cl 4 "polynomial_at" PM.m_polynomial_at) (D_whole_number : Def P w K mg base cl 6 "whole_number" PM.m_whole_number) (D_quotient : Def P w K mg base cl 7 "quotient" PM.m_quotient) (D_quotients : Def P w K mg base cl 6 "quotients" PM.m_quotients) (D__law_same : Def P w K mg base cl 1 "_law_same" mSame) (D__law_least : Def P w K mg base cl 1 "_law_least" LM.m__law_least) (D__law_rest : Def P w K mg base cl 3 "_law_rest" LM.m__law_rest) (D__law_whole : Def P w K mg base cl 4 "_law_whole" LM.m__law_whole) (D__law_letters : Def P w K mg base cl 3 "_law_letters" m__law_letters) (D__law_quotients : Def P w K mg base cl 4 "_law_quotients" m__law_quotients) (D__law_take : DefW P w K mg base cl 2 "_law_take" mTake) (D__law_pick : DefW P w K mg base cl 3 "_law_pick" mPick) (D__law_caught : DefC P w K mg base cl 9 8 "_law_caught" (mCaught 99)) (D__law_is_bad_number : DefC P w K mg base cl 10 8 "_law_is_bad_number" (mIsBad tabE 0 99 "part")) :
    DB (cxOf (L2.CX P w) P w K mg base ["script", "draw", "letters", "lap", "level", "n", "least", "due", "told", "k", "one", "binomial", "j", "a"] "law" (defScope s_law) f (.ref cc) A up s H W) C (defBody s_law).tail (b_law as ns) :=
  have hD := hL.drc
  (db_cons (d_law0 B hL hs TB M D_polynomial_at D_whole_number D_quotient D_quotients D__law_same D__law_least D__law_rest D__law_whole D__law_letters D__law_quotients D__law_take D__law_pick D__law_caught D__law_is_bad_number)
    (db_cons (d_law1 B hL hs TB M D_polynomial_at D_whole_number D_quotient D_quotients D__law_same D__law_least D__law_rest D__law_whole D__law_letters D__law_quotients D__law_take D__law_pick D__law_caught D__law_is_bad_number)
    (db_cons (d_law2 B hL hs TB M D_polynomial_at D_whole_number D_quotient D_quotients D__law_same D__law_least D__law_rest D__law_whole D__law_letters D__law_quotients D__law_take D__law_pick D__law_caught D__law_is_bad_number)
    (db_cons (d_law3 B hL hs TB M D_polynomial_at D_whole_number D_quotient D_quotients D__law_same D__law_least D__law_rest D__law_whole D__law_letters D__law_quotients D__law_take D__law_pick D__law_caught D__law_is_bad_number)
    (db_cons (d_law4 B hL hs TB M D_polynomial_at D_whole_number D_quotient D_quotients D__law_same D__law_least D__law_rest D__law_whole D__law_letters D__law_quotients D__law_take D__law_pick D__law_caught D__law_is_bad_number)
    (db_one (d_law5 B hL hs TB M D_polynomial_at D_whole_number D_quotient D_quotients D__law_same D__law_least D__law_rest D__law_whole D__law_letters D__law_quotients D__law_take D__law_pick D__law_caught D__law_is_bad_number)))))))
end
end K06
set_option Elab.async false
set_option linter.all false
set_option autoImplicit false
set_option maxRecDepth 100000
set_option maxHeartbeats 1000000
set_option exponentiation.threshold 3000
/-! K06T0: _law_divided, p_exact. -/
namespace K06
open PySem PySem.Spec PyProof.Rows L2 DL
/-- the quotient's numbers, the least power first, and the rest, the greatest power first -/
def divGo : Nat → List Int → List Int → List Int → Option (List Int × List Int)
  | 0, _, _, _ => none
  | n + 1, bs, q, acc => if q.length ≤ bs.length then some (acc, q) else match q with
    | [] => none
    | top :: r => if sm top && (r.take bs.length).all sm then divGo n bs (subR top bs r) (top :: acc) else none
abbrev divIn : S := (setIS 2 (eFun LM.m__law_plus (eCons (eop2 dIx (eVarV 2) (eop2 dAdd (eVar 5) (eVar 8))) (eCons (eFun LM.m__law_times (eCons (eVar 7) (eCons (eTup (eCons (eNeg (eop2 dIx (eVarV 9) (eC (.int 0)))) (eCons (eop2 dIx (eVarV 9) (eC (.int 1))) eNil))) eNil))) eNil))) (eop2 dAdd (eVar 5) (eVar 8)))
theorem div_in (s0 s1 f3 s4 s6 : Sl) (at_ : Nat) (t : Int) (ht : t.natAbs < 2 ^ 400) : ∀ (bs xs : List Int) (k : Nat) (A B : List D) (x8 x9 x10 : Sl), bs.length = xs.length → (∀ b ∈ bs, b.natAbs < 2 ^ 400) → (∀ x ∈ xs, x.natAbs < 2 ^ 400) → A.length = at_ + k →
    ∃ x8' x9', loopS (tgT 2 (tgCons (tgN 8) (tgCons (tgN 9) tgNil))) divIn (enumD k (bs.map fD)) none [s0, s1, .own (A ++ (xs.map fD ++ B)), f3, s4, .dat (.int at_), s6, .dat (fD t), x8, x9, x10] =
      .nx [s0, s1, .own (A ++ ((zipA t bs xs).map fD ++ B)), f3, s4, .dat (.int at_), s6, .dat (fD t), x8', x9', x10] none
  | [], [], k, A, B, x8, x9, x10, _, _, _, _ => ⟨x8, x9, rfl⟩
  | [], _ :: _, _, _, _, _, _, _, h, _, _, _ => by simp at h
  | _ :: _, [], _, _, _, _, _, _, h, _, _, _ => by simp at h
  | b :: bs, x :: xs, k, A, B, x8, x9, x10, hl, hb, hx, hA => by
    obtain ⟨x8', x9', ih⟩ := div_in s0 s1 f3 s4 s6 at_ t ht bs xs (k + 1) (A ++ [fD (x + t * -b)]) B (.dat (.int k)) (.dat (fD b)) x10 (by simpa using hl) (fun z h => hb z (List.mem_cons_of_mem _ h)) (fun z h => hx z (List.mem_cons_of_mem _ h)) (by simp; omega)
    refine ⟨x8', x9', ?_⟩
    have e2 : A ++ [fD (x + t * -b)] ++ (xs.map fD ++ B) = A ++ fD (x + t * -b) :: (xs.map fD ++ B) := by simp
    have e3 : A ++ [fD (x + t * -b)] ++ ((zipA t bs xs).map fD ++ B) = A ++ ((zipA t (b :: bs) (x :: xs)).map fD ++ B) := by simp [zipA]
    rw [e2, e3] at ih
    show loopS _ _ (.tup [.int (k : Nat), fD b] :: enumD (k + 1) (bs.map fD)) none _ = _
    refine Eq.trans (loopS_go (w2 := none) (e1 := [s0, s1, .own (A ++ ((x :: xs).map fD ++ B)), f3, s4, .dat (.int at_), s6, .dat (fD t), .dat (.int k), .dat (fD b), x10]) rfl ?_) ih
    have hi : eop2 dAdd (eVar 5) (eVar 8) none [s0, s1, .own (A ++ ((x :: xs).map fD ++ B)), f3, s4, .dat (.int at_), s6, .dat (fD t), .dat (.int k), .dat (fD b), x10] = .ok (.int ((at_ : Int) + k)) none := eop2_ok (eVar_ok rfl) (eVar_ok rfl) rfl
    have hnb : (-b).natAbs < 2 ^ 400 := by rw [Int.natAbs_neg]; exact hb b List.mem_cons_self
    have p1 : (t * -b).natAbs < 2 ^ 1000 := Nat.lt_of_lt_of_le (natAbs_mul_lt ht hnb) (Nat.pow_le_pow_right (by decide) (by decide))
    have p2 : x.natAbs < 2 ^ 1000 := Nat.lt_of_lt_of_le (hx x List.mem_cons_self) (Nat.pow_le_pow_right (by decide) (by decide))
    have h0 : dIx (fD b) (.int 0) = some (.int b) := rfl
    have h1 : dIx (fD b) (.int 1) = some (.int 1) := rfl
    exact setIS_ok (w2 := none) (eFun_ok (eCons_ok (eop2_ok (eVarV_own rfl) hi (dIx_app (A := A) (x := fD x) (B := xs.map fD ++ B) (by omega))) (eCons_ok (eFun_ok (eCons_ok (eVar_ok rfl) (eCons_ok (eTup_ok (eCons_ok (eNeg_ok (eop2_ok (eVarV_ok rfl) eC_ok h0)) (eCons_ok (eop2_ok (eVarV_ok rfl) eC_ok h1) eNil_ok)) (by simp)) eNil_ok)) (times_ok ht hnb)) eNil_ok)) (plus_ok p2 p1)) rfl hi (putAt_app (A := A) (x := fD x) (by omega))
abbrev divBody : S := (sseq (setS 6 (eDat (eop2 dIx (eVarV 4) (eNeg (eC (.int 1))))))
    (sseq (setS 7 (eDat (eFun LM.m__law_times (eCons (eop2 dIx (eVarV 2) (eop2 dSub (eop2 dAdd (eVar 5) (eCall gLen (eCons (eVarV 4) eNil))) (eC (.int 1)))) (eCons (eFun LM.m__law_fraction (eCons (eop2 dIx (eVarV 6) (eC (.int 1))) (eCons (eop2 dIx (eVarV 6) (eC (.int 0))) eNil))) eNil)))))
    (sseq (setS 3 (eDat (eLst (eop2 dCatL (eLst (eList (eCons (eVar 7) eNil))) (eVarV 3)))))
    (sseq (thawS 4) (forS (eCall gEnum (eCons (eVar 4) eNil)) (tgT 2 (tgCons (tgN 8) (tgCons (tgN 9) tgNil))) divIn)))))
theorem last_ix {A : List D} {x : D} : dIx (.lst (A ++ [x])) (.int (-1)) = some x := by
  show atI _ (-1) = _
  unfold atI ixN
  rw [if_neg (by decide), if_pos (by simp; omega)]
  show (A ++ [x])[(-1 + (((A ++ [x]).length : Nat) : Int)).toNat]? = _
  rw [show (-1 + (((A ++ [x]).length : Nat) : Int)).toNat = A.length by simp; omega, List.getElem?_append_right (Nat.le_refl _), Nat.sub_self]
  rfl
theorem div_out (s0 s1 : Sl) (bs : List Int) (hb : ∀ b ∈ bs, b.natAbs < 2 ^ 400) (hm : bs.length < 1000) : ∀ (n : Nat) (q acc dg rm : List Int) (z : Nat) (s4 x5 x6 x7 x8 x9 x10 : Sl), (s4 = .own ((bs ++ [1]).map fD) ∨ s4 = .dat (.lst ((bs ++ [1]).map fD))) → divGo n bs.reverse q acc = some (dg, rm) → 2 * q.length + acc.length + z < 1000000 →
    ∃ z' s4' x5' x6' x7' x8' x9', z' + rm.length = z + q.length ∧ loopS (tgN 5) divBody (rangeD ((q.length : Int) - 1 - bs.length) (-1) (q.length - bs.length)) none [s0, s1, .own (q.reverse.map fD ++ (List.replicate z 0).map fD), .dat (.lst (acc.map fD)), s4, x5, x6, x7, x8, x9, x10] =
      .nx [s0, s1, .own (rm.reverse.map fD ++ (List.replicate z' 0).map fD), .dat (.lst (dg.map fD)), s4', x5', x6', x7', x8', x9', x10] none
  | 0, _, _, _, _, _, _, _, _, _, _, _, _, _, h, _ => by simp [divGo] at h
  | n + 1, q, acc, dg, rm, z, s4, x5, x6, x7, x8, x9, x10, h4, h, hq => by
    unfold divGo at h
    rw [List.length_reverse] at h
    by_cases y : q.length ≤ bs.length
    · rw [if_pos y] at h
      cases h
      refine ⟨z, s4, x5, x6, x7, x8, x9, rfl, ?_⟩
      rw [show q.length - bs.length = 0 by omega]
      rfl
    · rw [if_neg y] at h
      cases q with
      | nil => cases h
      | cons t r =>
        dsimp only at h
        split at h
        · rename_i hs
          rw [Bool.and_eq_true, List.all_eq_true] at hs
          obtain ⟨hs1, hs2⟩ := hs
          have ht := sm_iff.mp hs1
          have hlr : bs.length ≤ r.length := by simp at y; omega
          obtain ⟨r1, hr1⟩ : ∃ r1, r1 = r.take bs.length := ⟨_, rfl⟩
          obtain ⟨r2, hr2⟩ : ∃ r2, r2 = r.drop bs.length := ⟨_, rfl⟩
          have er : r = r1 ++ r2 := by rw [hr1, hr2, List.take_append_drop]
          have l1 : bs.length = r1.length := by rw [hr1, List.length_take]; omega
          rw [← hr1] at hs2
          have esub : (subR t bs.reverse r).reverse = r2.reverse ++ zipA t bs r1.reverse := by
            rw [er, subR_app _ _ _ _ (by simpa using l1), List.reverse_append, zipA_rev _ _ _ l1]
          have lsub : (subR t bs.reverse r).length = r.length := by
            have := congrArg List.length esub
            rw [List.length_reverse, List.length_append, List.length_reverse] at this
            rw [this, er, List.length_append]
            simp [zipA, ← l1]
            omega
          obtain ⟨a, ha⟩ : ∃ a, a = r2.length := ⟨_, rfl⟩
          have lr : r.length = bs.length + a := by rw [er, List.length_append, ha]; omega
          have eR : rangeD (((t :: r).length : Int) - 1 - bs.length) (-1) ((t :: r).length - bs.length) = .int a :: rangeD ((r.length : Int) - 1 - bs.length) (-1) (r.length - bs.length) := by
            rw [show (t :: r).length - bs.length = (r.length - bs.length) + 1 by simp; omega]
            show D.int _ :: rangeD _ _ _ = _
            rw [show (((t :: r).length : Nat) : Int) - 1 - bs.length = (a : Int) by simp; omega, show ((a : Nat) : Int) + -1 = (r.length : Int) - 1 - bs.length by omega]
          have eF : (t :: r).reverse.map fD ++ (List.replicate z 0).map fD = r2.reverse.map fD ++ ((r1.reverse ++ [t]).map fD ++ (List.replicate z 0).map fD) := by rw [er]; simp
          have hV : ∀ e : En, e[4]? = some s4 → eVarV 4 none e = .ok (.lst ((bs ++ [1]).map fD)) none := fun e he => by
            rcases h4 with y4 | y4
            · exact eVarV_own (he.trans (congrArg some y4))
            · exact eVarV_ok (he.trans (congrArg some y4))
          have e6 : setS 6 (eDat (eop2 dIx (eVarV 4) (eNeg (eC (.int 1))))) none [s0, s1, .own (r2.reverse.map fD ++ ((r1.reverse ++ [t]).map fD ++ (List.replicate z 0).map fD)), .dat (.lst (acc.map fD)), s4, .dat (.int a), x6, x7, x8, x9, x10] =
              .nx [s0, s1, .own (r2.reverse.map fD ++ ((r1.reverse ++ [t]).map fD ++ (List.replicate z 0).map fD)), .dat (.lst (acc.map fD)), s4, .dat (.int a), .dat (fD 1), x7, x8, x9, x10] none := by
            refine setS_ok (eDat_ok (eop2_ok (hV _ rfl) (eNeg_ok eC_ok) ?_))
            rw [show List.map fD (bs ++ [1]) = List.map fD bs ++ [fD 1] by simp]
            exact last_ix
          have ht1 : t * 1 = t := Int.mul_one t
          have e7 : setS 7 (eDat (eFun LM.m__law_times (eCons (eop2 dIx (eVarV 2) (eop2 dSub (eop2 dAdd (eVar 5) (eCall gLen (eCons (eVarV 4) eNil))) (eC (.int 1)))) (eCons (eFun LM.m__law_fraction (eCons (eop2 dIx (eVarV 6) (eC (.int 1))) (eCons (eop2 dIx (eVarV 6) (eC (.int 0))) eNil))) eNil)))) none [s0, s1, .own (r2.reverse.map fD ++ ((r1.reverse ++ [t]).map fD ++ (List.replicate z 0).map fD)), .dat (.lst (acc.map fD)), s4, .dat (.int a), .dat (fD 1), x7, x8, x9, x10] =
              .nx [s0, s1, .own (r2.reverse.map fD ++ ((r1.reverse ++ [t]).map fD ++ (List.replicate z 0).map fD)), .dat (.lst (acc.map fD)), s4, .dat (.int a), .dat (fD 1), .dat (fD t), x8, x9, x10] none := by
            have hf : LM.m__law_fraction [.int 1, .int 1] = .ok (fD 1) := fraction_one (by decide)
            have ht2 := times_ok ht (show (1 : Int).natAbs < 2 ^ 400 by decide)
            rw [ht1] at ht2
            refine setS_ok (eDat_ok (eFun_ok (eCons_ok (eop2_ok (eVarV_own rfl) (eop2_ok (eop2_ok (eVar_ok rfl) (eCall_ok (eCons_ok (hV _ rfl) eNil_ok) rfl) rfl) eC_ok rfl) (?_ : _ = some (fD t))) (eCons_ok (eFun_ok (eCons_ok (eop2_ok (eVarV_ok rfl) eC_ok rfl) (eCons_ok (eop2_ok (eVarV_ok rfl) eC_ok rfl) eNil_ok)) hf) eNil_ok)) ht2))
            rw [show r2.reverse.map fD ++ ((r1.reverse ++ [t]).map fD ++ (List.replicate z 0).map fD) = (r2.reverse.map fD ++ r1.reverse.map fD) ++ fD t :: (List.replicate z 0).map fD by simp]
            refine dIx_app ?_
            simp
            omega
          have e3 : setS 3 (eDat (eLst (eop2 dCatL (eLst (eList (eCons (eVar 7) eNil))) (eVarV 3)))) none [s0, s1, .own (r2.reverse.map fD ++ ((r1.reverse ++ [t]).map fD ++ (List.replicate z 0).map fD)), .dat (.lst (acc.map fD)), s4, .dat (.int a), .dat (fD 1), .dat (fD t), x8, x9, x10] =
              .nx [s0, s1, .own (r2.reverse.map fD ++ ((r1.reverse ++ [t]).map fD ++ (List.replicate z 0).map fD)), .dat (.lst ((t :: acc).map fD)), s4, .dat (.int a), .dat (fD 1), .dat (fD t), x8, x9, x10] none := by
            refine setS_ok (eDat_ok (eLst_ok (eop2_ok (eLst_ok (eList_ok (eCons_ok (eVar_ok rfl) eNil_ok) (by simp))) (eVarV_ok rfl) ?_)))
            unfold dCatL
            dsimp only
            rw [if_pos (by simp; omega)]
            rfl
          have e4 : thawS 4 none [s0, s1, .own (r2.reverse.map fD ++ ((r1.reverse ++ [t]).map fD ++ (List.replicate z 0).map fD)), .dat (.lst ((t :: acc).map fD)), s4, .dat (.int a), .dat (fD 1), .dat (fD t), x8, x9, x10] =
              .nx [s0, s1, .own (r2.reverse.map fD ++ ((r1.reverse ++ [t]).map fD ++ (List.replicate z 0).map fD)), .dat (.lst ((t :: acc).map fD)), .dat (.lst ((bs ++ [1]).map fD)), .dat (.int a), .dat (fD 1), .dat (fD t), x8, x9, x10] none := by
            rcases h4 with y | y <;> rw [y] <;> rfl
          have ezip : zipA t (bs ++ [1]) (r1.reverse ++ [t]) = zipA t bs r1.reverse ++ [0] := by
            unfold zipA
            rw [List.zipWith_append (by simpa using l1)]
            simp
            omega
          obtain ⟨x8', x9', e8⟩ := div_in s0 s1 (.dat (.lst ((t :: acc).map fD))) (.dat (.lst ((bs ++ [1]).map fD))) (.dat (fD 1)) a t ht (bs ++ [1]) (r1.reverse ++ [t]) 0 (r2.reverse.map fD) ((List.replicate z 0).map fD) x8 x9 x10 (by simp; omega)
            (fun b hb' => by
              rcases List.mem_append.mp hb' with y | y
              · exact hb b y
              · rw [List.mem_singleton.mp y]; decide)
            (fun x hx => by
              rcases List.mem_append.mp hx with y | y
              · exact sm_iff.mp (hs2 x (List.mem_reverse.mp y))
              · rw [List.mem_singleton.mp y]; exact ht) (by simp; omega)
          have e9 : forS (eCall gEnum (eCons (eVar 4) eNil)) (tgT 2 (tgCons (tgN 8) (tgCons (tgN 9) tgNil))) divIn none [s0, s1, .own (r2.reverse.map fD ++ ((r1.reverse ++ [t]).map fD ++ (List.replicate z 0).map fD)), .dat (.lst ((t :: acc).map fD)), .dat (.lst ((bs ++ [1]).map fD)), .dat (.int a), .dat (fD 1), .dat (fD t), x8, x9, x10] =
              .nx [s0, s1, .own ((subR t bs.reverse r).reverse.map fD ++ (List.replicate (z + 1) 0).map fD), .dat (.lst ((t :: acc).map fD)), .dat (.lst ((bs ++ [1]).map fD)), .dat (.int a), .dat (fD 1), .dat (fD t), x8', x9', x10] none := by
            refine (forS_of (eCall_ok (eCons_ok (eVar_ok rfl) eNil_ok) (a := enumD 0 ((bs ++ [1]).map fD)) rfl)).trans ?_
            rw [e8, ezip, esub]
            simp [List.replicate_succ]
          obtain ⟨z', s4', y5, y6, y7, y8, y9, hz, ih⟩ := div_out s0 s1 bs hb hm n (subR t bs.reverse r) (t :: acc) dg rm (z + 1) (.dat (.lst ((bs ++ [1]).map fD))) (.dat (.int a)) (.dat (fD 1)) (.dat (fD t)) x8' x9' x10 (.inr rfl) h (by rw [lsub]; simp at hq ⊢; omega)
          have hz2 : z' + rm.length = z + 1 + r.length := by rw [← lsub]; exact hz
          refine ⟨z', s4', y5, y6, y7, y8, y9, by simp only [List.length_cons]; omega, ?_⟩
          rw [lsub] at ih
          rw [eR, eF]
          refine Eq.trans (loopS_go (w2 := none) (e1 := [s0, s1, .own (r2.reverse.map fD ++ ((r1.reverse ++ [t]).map fD ++ (List.replicate z 0).map fD)), .dat (.lst (acc.map fD)), s4, .dat (.int a), x6, x7, x8, x9, x10]) rfl ?_) ih
          unfold divBody
          rw [sseq_nx e6, sseq_nx e7, sseq_nx e3, sseq_nx e4]
          exact e9
        · cases h
end K06
set_option Elab.async false
set_option linter.all false
set_option autoImplicit false
set_option maxRecDepth 100000
set_option maxHeartbeats 1000000
set_option exponentiation.threshold 3000
namespace K06
open PySem PySem.Spec PyProof.Rows L2 DL
theorem range3_ok (i c : Int) (n : Nat) (hi : -1000000 < i) (hi2 : i < 1000000) (hn : n = (i - -1).toNat) : gRange3 [.int i, .int (-1), .int (-1)] = some (rangeD i (-1) n) := by
  subst hn
  unfold gRange3 in62
  have h1 : decide (-4611686018427387904 ≤ i) = true := decide_eq_true (by omega)
  have h2 : decide (i < 4611686018427387904) = true := decide_eq_true (by omega)
  dsimp only
  rw [h1, h2]
  rfl
theorem popz (s0 s1 s3 s4 s5 s6 s7 s8 s9 s10 : Sl) : ∀ c n : Nat, c < n →
    whileS (eAnd (eB (eop2 dNe (eVarV 2) (eLst (eList eNil)))) (eB (eop2 dEq (eop2 dIx (eop2 dIx (eVarV 2) (eNeg (eC (.int 1)))) (eC (.int 0))) (eC (.int 0))))) (popS 2) n none [s0, s1, .own ((List.replicate c 0).map fD), s3, s4, s5, s6, s7, s8, s9, s10] = .nx [s0, s1, .own [], s3, s4, s5, s6, s7, s8, s9, s10] none
  | 0, n + 1, _ => whileS_stop (eAnd_f (eB_ok (eop2_ok (eVarV_own rfl) (eLst_ok (eList_ok eNil_ok (by simp))) (dNe_nil_fD []))))
  | c + 1, n + 1, h => by
    have e : (List.replicate (c + 1) 0).map fD = (List.replicate c 0).map fD ++ [fD 0] := by
      rw [List.replicate_succ']
      simp
    have c1 : eB (eop2 dNe (eVarV 2) (eLst (eList eNil))) none [s0, s1, .own ((List.replicate (c + 1) 0).map fD), s3, s4, s5, s6, s7, s8, s9, s10] = .ok true none :=
      eB_ok (eop2_ok (eVarV_own rfl) (eLst_ok (eList_ok eNil_ok (by simp))) (dNe_nil_fD (List.replicate (c + 1) 0)))
    have hx : dIx (.lst ((List.replicate (c + 1) 0).map fD)) (.int (-1)) = some (fD 0) := by
      rw [e]
      exact last_ix
    have h0 : dIx (fD 0) (.int 0) = some (.int 0) := rfl
    refine Eq.trans (whileS_go ((eAnd_t c1).trans (eB_ok (eop2_ok (eop2_ok (eop2_ok (eVarV_own rfl) (eNeg_ok eC_ok) hx) eC_ok h0) eC_ok (dEq_int 0 0)))) ?_) (popz s0 s1 s3 s4 s5 s6 s7 s8 s9 s10 c n (by omega))
    rw [e]
    exact popS_ok rfl
theorem toF_ok (xs : List Int) (i : Nat) (e : En) (he : e[i]? = some (.dat (polyD xs))) (hl : xs.length ≤ 16777216) (h10 : 10 < e.length) : compE [10] (eSeq (eVar i)) (tgN 10) (epure true) (eIf (eB (eIsi .int (eVarV 10))) (eTup (eCons (eVar 10) (eCons (eC (.int 1)) eNil))) (eVar 10)) none e = .ok (xs.map fD) none := by
  refine compE_map (enc := D.int) (h := fD) (eSeq_ok (eVar_ok he) rfl) hl fun a => ⟨_, rfl, rfl, ?_⟩
  have g10 : ((wipeE e [10]).set 10 (.dat (.int a)))[10]? = some (.dat (.int a)) := by
    rw [List.getElem?_set_self]
    show 10 < ((wipeE e []).set 10 Sl.un).length
    rw [List.length_set]
    exact h10
  have hi : eIsi .int (eVarV 10) none ((wipeE e [10]).set 10 (.dat (.int a))) = .ok (.bl true) none := by
    unfold eIsi
    exact (ebind_ok (eVarV_ok g10)).trans rfl
  exact (eIf_t (eB_ok hi)).trans (eTup_ok (eCons_ok (eVar_ok g10) (eCons_ok eC_ok eNil_ok)) (by simp))
theorem divided_ok (p bs dg rm : List Int) (hb : bs.all sm = true) (hm : bs.length < 200) (hp : p.length < 250) (h : divGo 300 bs.reverse p.reverse [] = some (dg, rm)) (hz : rm = List.replicate rm.length 0) : m__law_divided [polyD p, polyD (bs ++ [1])] = .ok (.tup [.lst (dg.map fD), .lst []]) := by
  have hb' : ∀ b ∈ bs, b.natAbs < 2 ^ 400 := fun b h => sm_iff.mp (List.all_eq_true.mp hb b h)
  unfold m__law_divided
  refine mRun_at (w := none) (e0 := [.dat (polyD p), .dat (polyD (bs ++ [1])), .un, .un, .un, .un, .un, .un, .un, .un, .un]) rfl rfl ?_
  unfold b__law_divided
  have e1 : parS2 2 3 (eOwn (compE [10] (eSeq (eVar 0)) (tgN 10) (epure true) (eIf (eB (eIsi .int (eVarV 10))) (eTup (eCons (eVar 10) (eCons (eC (.int 1)) eNil))) (eVar 10)))) (eDat (eLst (eList eNil))) none [.dat (polyD p), .dat (polyD (bs ++ [1])), .un, .un, .un, .un, .un, .un, .un, .un, .un] =
      .nx [.dat (polyD p), .dat (polyD (bs ++ [1])), .own (p.map fD), .dat (.lst []), .un, .un, .un, .un, .un, .un, .un] none :=
    parS2_ok (eOwn_ok (toF_ok p 0 _ rfl (by omega) (by simp))) (eDat_ok (eLst_ok (eList_ok eNil_ok (by simp))))
  have e2 : setS 4 (eOwn (compE [10] (eSeq (eVar 1)) (tgN 10) (epure true) (eIf (eB (eIsi .int (eVarV 10))) (eTup (eCons (eVar 10) (eCons (eC (.int 1)) eNil))) (eVar 10)))) none [.dat (polyD p), .dat (polyD (bs ++ [1])), .own (p.map fD), .dat (.lst []), .un, .un, .un, .un, .un, .un, .un] =
      .nx [.dat (polyD p), .dat (polyD (bs ++ [1])), .own (p.map fD), .dat (.lst []), .own ((bs ++ [1]).map fD), .un, .un, .un, .un, .un, .un] none :=
    setS_ok (eOwn_ok (toF_ok (bs ++ [1]) 1 _ rfl (by simp; omega) (by simp)))
  rw [sseq_nx e1, sseq_nx e2]
  obtain ⟨z', s4', x5, x6, x7, x8, x9, hz', e3⟩ := div_out (.dat (polyD p)) (.dat (polyD (bs ++ [1]))) bs hb' (by omega) 300 p.reverse [] dg rm 0 (.own ((bs ++ [1]).map fD)) .un .un .un .un .un .un (.inl rfl) h (by simp; omega)
  have hrest : p.reverse.reverse.map fD ++ (List.replicate 0 0).map fD = p.map fD := by simp
  rw [hrest, List.length_reverse] at e3
  have e4 : forS (eCall gRange3 (eCons (eop2 dSub (eCall gLen (eCons (eVarV 2) eNil)) (eCall gLen (eCons (eVarV 4) eNil))) (eCons (eNeg (eC (.int 1))) (eCons (eNeg (eC (.int 1))) eNil)))) (tgN 5) divBody none [.dat (polyD p), .dat (polyD (bs ++ [1])), .own (p.map fD), .dat (.lst []), .own ((bs ++ [1]).map fD), .un, .un, .un, .un, .un, .un] =
      .nx [.dat (polyD p), .dat (polyD (bs ++ [1])), .own (rm.reverse.map fD ++ (List.replicate z' 0).map fD), .dat (.lst (dg.map fD)), s4', x5, x6, x7, x8, x9, .un] none := by
    refine (forS_of (eCall_ok (eCons_ok (eop2_ok (eCall_ok (eCons_ok (eVarV_own rfl) eNil_ok) rfl) (eCall_ok (eCons_ok (eVarV_own rfl) eNil_ok) rfl) (rfl : dSub _ _ = some (D.int _))) (eCons_ok (eNeg_ok eC_ok) (eCons_ok (eNeg_ok eC_ok) eNil_ok))) (range3_ok _ 0 (p.length - bs.length) (by simp; omega) (by simp; omega) (by simp; omega)))).trans (Eq.trans ?_ e3)
    congr 2
    simp
    omega
  rw [sseq_nx e4]
  have erest : rm.reverse.map fD ++ (List.replicate z' 0).map fD = (List.replicate (rm.length + z') 0).map fD := by
    rw [← List.map_append]
    congr 1
    rw [show rm.reverse = List.replicate rm.length 0 by
      have := congrArg List.reverse hz
      rw [List.reverse_replicate] at this
      exact this]
    exact List.replicate_append_replicate
  rw [erest, sseq_nx (popz _ _ _ _ _ _ _ _ _ _ (rm.length + z') 300 (by simp at hz'; omega))]
  refine (sseq_nx (w1 := none) (e1 := [.dat (polyD p), .dat (polyD (bs ++ [1])), .dat (.lst []), .dat (.lst (dg.map fD)), s4', x5, x6, x7, x8, x9, .un]) rfl).trans ?_
  exact ret_ok (eTup_ok (eCons_ok (eVar_ok rfl) (eCons_ok (eVar_ok rfl) eNil_ok)) (by simp))
end K06
set_option Elab.async false
set_option linter.all false
set_option autoImplicit false
set_option maxRecDepth 100000
set_option maxHeartbeats 1000000
set_option exponentiation.threshold 3000
namespace K06
open PySem PySem.Spec PyProof.Rows L2 DL
abbrev exIn : S := (augIS dSub 2 (eop2 dAdd (eVar 4) (eVar 6)) (eop2 dMul (eop2 dIx (eVarV 3) (eVarV 4)) (eVar 7)))
theorem ex_in (s0 s1 s5 : Sl) (at_ : Nat) (t : Int) (fs : List D) (ht : t.natAbs < 2 ^ 400) (hf : dIx (.lst fs) (.int at_) = some (.int t)) : ∀ (bs xs : List Int) (k : Nat) (A B : List D) (x6 x7 : Sl), bs.length = xs.length → (∀ b ∈ bs, b.natAbs < 2 ^ 400) → A.length = at_ + k →
    ∃ x6' x7', loopS (tgT 2 (tgCons (tgN 6) (tgCons (tgN 7) tgNil))) exIn (enumD k (bs.map D.int)) none [s0, s1, .own (A ++ (xs.map D.int ++ B)), .own fs, .dat (.int at_), s5, x6, x7] =
      .nx [s0, s1, .own (A ++ ((zipA t bs xs).map D.int ++ B)), .own fs, .dat (.int at_), s5, x6', x7'] none
  | [], [], k, A, B, x6, x7, _, _, _ => ⟨x6, x7, rfl⟩
  | [], _ :: _, _, _, _, _, _, h, _, _ => by simp at h
  | _ :: _, [], _, _, _, _, _, h, _, _ => by simp at h
  | b :: bs, x :: xs, k, A, B, x6, x7, hl, hb, hA => by
    obtain ⟨x6', x7', ih⟩ := ex_in s0 s1 s5 at_ t fs ht hf bs xs (k + 1) (A ++ [.int (x + t * -b)]) B (.dat (.int k)) (.dat (.int b)) (by simpa using hl) (fun z h => hb z (List.mem_cons_of_mem _ h)) (by simp; omega)
    refine ⟨x6', x7', ?_⟩
    have e2 : A ++ [D.int (x + t * -b)] ++ (xs.map D.int ++ B) = A ++ .int (x + t * -b) :: (xs.map D.int ++ B) := by simp
    have e3 : A ++ [D.int (x + t * -b)] ++ ((zipA t bs xs).map D.int ++ B) = A ++ ((zipA t (b :: bs) (x :: xs)).map D.int ++ B) := by simp [zipA]
    rw [e2, e3] at ih
    show loopS _ _ (.tup [.int (k : Nat), .int b] :: enumD (k + 1) (bs.map D.int)) none _ = _
    refine Eq.trans (loopS_go (w2 := none) (e1 := [s0, s1, .own (A ++ ((x :: xs).map D.int ++ B)), .own fs, .dat (.int at_), s5, .dat (.int k), .dat (.int b)]) rfl ?_) ih
    have hm : mulFits t b = true := mulFits_of 400 400 ht (hb b List.mem_cons_self) (by decide) (by decide) (by decide)
    have hmul : dMul (.int t) (.int b) = some (.int (t * b)) := by unfold dMul; dsimp only; rw [hm, if_pos rfl]
    have hi : eop2 dAdd (eVar 4) (eVar 6) none [s0, s1, .own (A ++ ((x :: xs).map D.int ++ B)), .own fs, .dat (.int at_), s5, .dat (.int k), .dat (.int b)] = .ok (.int ((at_ : Int) + k)) none := eop2_ok (eVar_ok rfl) (eVar_ok rfl) rfl
    refine augIS_ok (w2 := none) rfl hi (x := .int x) (dIx_app (A := A) (B := xs.map D.int ++ B) (by omega)) (eop2_ok (eop2_ok (eVarV_own rfl) (eVarV_ok rfl) hf) (eVar_ok rfl) hmul) (r := .int (x + t * -b)) ?_ (putAt_app (A := A) (x := .int x) (by omega))
    show some (D.int _) = _
    rw [Int.mul_neg, Int.sub_eq_add_neg]
abbrev exBody : S := (sseq (setS 5 (eDat (eop2 dIx (eVarV 2) (eop2 dSub (eop2 dAdd (eVar 4) (eCall gLen (eCons (eVarV 1) eNil))) (eC (.int 1))))))
    (sseq (ifS (eB (eop2 dNe (eop2 dMod (eVar 5) (eop2 dIx (eVarV 1) (eNeg (eC (.int 1))))) (eC (.int 0)))) (sbind (eC .non) fun d => fun w _ => .rt d w) snil)
    (sseq (setIS 3 (eop2 dDiv (eVar 5) (eop2 dIx (eVarV 1) (eNeg (eC (.int 1))))) (eVar 4))
    (ifS (eB (eop2 dNe (eop2 dIx (eVarV 3) (eVarV 4)) (eC (.int 0)))) (forS (eCall gEnum (eCons (eVar 1) eNil)) (tgT 2 (tgCons (tgN 6) (tgCons (tgN 7) tgNil))) exIn) snil))))
theorem last_ixT {A : List D} {x : D} : dIx (.tup (A ++ [x])) (.int (-1)) = some x := last_ix
theorem ex_out (s0 : Sl) (bs : List Int) (hb : ∀ b ∈ bs, b.natAbs < 2 ^ 400) (hm : bs.length < 1000) : ∀ (n : Nat) (q acc dg rm : List Int) (z : Nat) (x4 x5 x6 x7 : Sl), divGo n bs.reverse q acc = some (dg, rm) → q.length < 100000 →
    ∃ z' x4' x5' x6' x7', z' + rm.length = z + q.length ∧ loopS (tgN 4) exBody (rangeD ((q.length : Int) - 1 - bs.length) (-1) (q.length - bs.length)) none [s0, .dat (polyD (bs ++ [1])), .own (q.reverse.map D.int ++ (List.replicate z 0).map D.int), .own ((List.replicate (q.length - bs.length) 0).map D.int ++ acc.map D.int), x4, x5, x6, x7] =
      .nx [s0, .dat (polyD (bs ++ [1])), .own (rm.reverse.map D.int ++ (List.replicate z' 0).map D.int), .own (dg.map D.int), x4', x5', x6', x7'] none
  | 0, _, _, _, _, _, _, _, _, _, h, _ => by simp [divGo] at h
  | n + 1, q, acc, dg, rm, z, x4, x5, x6, x7, h, hq => by
    unfold divGo at h
    rw [List.length_reverse] at h
    by_cases y : q.length ≤ bs.length
    · rw [if_pos y] at h
      cases h
      refine ⟨z, x4, x5, x6, x7, rfl, ?_⟩
      rw [show q.length - bs.length = 0 by omega]
      rfl
    · rw [if_neg y] at h
      cases q with
      | nil => cases h
      | cons t r =>
        dsimp only at h
        split at h
        · rename_i hs
          rw [Bool.and_eq_true, List.all_eq_true] at hs
          obtain ⟨hs1, hs2⟩ := hs
          have ht := sm_iff.mp hs1
          have hlr : bs.length ≤ r.length := by simp at y; omega
          obtain ⟨r1, hr1⟩ : ∃ r1, r1 = r.take bs.length := ⟨_, rfl⟩
          obtain ⟨r2, hr2⟩ : ∃ r2, r2 = r.drop bs.length := ⟨_, rfl⟩
          have er : r = r1 ++ r2 := by rw [hr1, hr2, List.take_append_drop]
          have l1 : bs.length = r1.length := by rw [hr1, List.length_take]; omega
          have esub : (subR t bs.reverse r).reverse = r2.reverse ++ zipA t bs r1.reverse := by
            rw [er, subR_app _ _ _ _ (by simpa using l1), List.reverse_append, zipA_rev _ _ _ l1]
          have lsub : (subR t bs.reverse r).length = r.length := by
            have := congrArg List.length esub
            rw [List.length_reverse, List.length_append, List.length_reverse] at this
            rw [this, er, List.length_append]
            simp [zipA, ← l1]
            omega
          obtain ⟨a, ha⟩ : ∃ a, a = r2.length := ⟨_, rfl⟩
          have lr : r.length = bs.length + a := by rw [er, List.length_append, ha]; omega
          have lq : (t :: r).length - bs.length = a + 1 := by simp; omega
          have lr2 : r.length - bs.length = a := by omega
          have eR : rangeD (((t :: r).length : Int) - 1 - bs.length) (-1) ((t :: r).length - bs.length) = .int a :: rangeD ((r.length : Int) - 1 - bs.length) (-1) (r.length - bs.length) := by
            rw [lq, lr2]
            show D.int _ :: rangeD _ _ _ = _
            rw [show (((t :: r).length : Nat) : Int) - 1 - bs.length = (a : Int) by simp; omega, show ((a : Nat) : Int) + -1 = (r.length : Int) - 1 - bs.length by omega]
          have eF : (t :: r).reverse.map D.int ++ (List.replicate z 0).map D.int = r2.reverse.map D.int ++ ((r1.reverse ++ [t]).map D.int ++ (List.replicate z 0).map D.int) := by rw [er]; simp
          have eA : (List.replicate ((t :: r).length - bs.length) 0).map D.int ++ acc.map D.int = (List.replicate a 0).map D.int ++ .int 0 :: acc.map D.int := by
            rw [lq, List.replicate_succ']
            simp
          have e5 : setS 5 (eDat (eop2 dIx (eVarV 2) (eop2 dSub (eop2 dAdd (eVar 4) (eCall gLen (eCons (eVarV 1) eNil))) (eC (.int 1))))) none [s0, .dat (polyD (bs ++ [1])), .own (r2.reverse.map D.int ++ ((r1.reverse ++ [t]).map D.int ++ (List.replicate z 0).map D.int)), .own ((List.replicate a 0).map D.int ++ .int 0 :: acc.map D.int), .dat (.int a), x5, x6, x7] =
              .nx [s0, .dat (polyD (bs ++ [1])), .own (r2.reverse.map D.int ++ ((r1.reverse ++ [t]).map D.int ++ (List.replicate z 0).map D.int)), .own ((List.replicate a 0).map D.int ++ .int 0 :: acc.map D.int), .dat (.int a), .dat (.int t), x6, x7] none := by
            refine setS_ok (eDat_ok (eop2_ok (eVarV_own rfl) (eop2_ok (eop2_ok (eVar_ok rfl) (eCall_ok (eCons_ok (eVarV_ok rfl) eNil_ok) rfl) rfl) eC_ok rfl) (?_ : _ = some (D.int t))))
            rw [show r2.reverse.map D.int ++ ((r1.reverse ++ [t]).map D.int ++ (List.replicate z 0).map D.int) = (r2.reverse.map D.int ++ r1.reverse.map D.int) ++ D.int t :: (List.replicate z 0).map D.int by simp]
            refine dIx_app ?_
            simp
            omega
          have hlast : dIx (polyD (bs ++ [1])) (.int (-1)) = some (.int 1) := by
            unfold polyD
            rw [show List.map D.int (bs ++ [1]) = List.map D.int bs ++ [D.int 1] by simp]
            exact last_ixT
          have hmod : dMod (.int t) (.int 1) = some (.int 0) := by
            unfold dMod
            dsimp only
            rw [if_pos (by decide), Int.emod_one]
          have hdiv : dDiv (.int t) (.int 1) = some (.int t) := by unfold dDiv; dsimp only; rw [show divFits 1 = true by decide +kernel, if_pos rfl, Int.ediv_one]
          have e6 : ifS (eB (eop2 dNe (eop2 dMod (eVar 5) (eop2 dIx (eVarV 1) (eNeg (eC (.int 1))))) (eC (.int 0)))) (sbind (eC .non) fun d => fun w _ => .rt d w) snil none [s0, .dat (polyD (bs ++ [1])), .own (r2.reverse.map D.int ++ ((r1.reverse ++ [t]).map D.int ++ (List.replicate z 0).map D.int)), .own ((List.replicate a 0).map D.int ++ .int 0 :: acc.map D.int), .dat (.int a), .dat (.int t), x6, x7] =
              .nx [s0, .dat (polyD (bs ++ [1])), .own (r2.reverse.map D.int ++ ((r1.reverse ++ [t]).map D.int ++ (List.replicate z 0).map D.int)), .own ((List.replicate a 0).map D.int ++ .int 0 :: acc.map D.int), .dat (.int a), .dat (.int t), x6, x7] none :=
            (ifS_f (eB_ok (eop2_ok (eop2_ok (eVar_ok rfl) (eop2_ok (eVarV_ok rfl) (eNeg_ok eC_ok) hlast) hmod) eC_ok (dNe_int 0 0)))).trans rfl
          have e7 : setIS 3 (eop2 dDiv (eVar 5) (eop2 dIx (eVarV 1) (eNeg (eC (.int 1))))) (eVar 4) none [s0, .dat (polyD (bs ++ [1])), .own (r2.reverse.map D.int ++ ((r1.reverse ++ [t]).map D.int ++ (List.replicate z 0).map D.int)), .own ((List.replicate a 0).map D.int ++ .int 0 :: acc.map D.int), .dat (.int a), .dat (.int t), x6, x7] =
              .nx [s0, .dat (polyD (bs ++ [1])), .own (r2.reverse.map D.int ++ ((r1.reverse ++ [t]).map D.int ++ (List.replicate z 0).map D.int)), .own ((List.replicate a 0).map D.int ++ .int t :: acc.map D.int), .dat (.int a), .dat (.int t), x6, x7] none :=
            setIS_ok (w2 := none) (eop2_ok (eVar_ok rfl) (eop2_ok (eVarV_ok rfl) (eNeg_ok eC_ok) hlast) hdiv) rfl (eVar_ok rfl) (putAt_app (A := (List.replicate a 0).map D.int) (x := .int 0) (by simp))
          have hfix : dIx (.lst ((List.replicate a 0).map D.int ++ .int t :: acc.map D.int)) (.int a) = some (.int t) := dIx_app (by simp)
          have ezip : zipA t (bs ++ [1]) (r1.reverse ++ [t]) = zipA t bs r1.reverse ++ [0] := by
            unfold zipA
            rw [List.zipWith_append (by simpa using l1)]
            simp
            omega
          have eacc : (List.replicate a 0).map D.int ++ D.int t :: acc.map D.int = (List.replicate (r.length - bs.length) 0).map D.int ++ (t :: acc).map D.int := by rw [lr2]; rfl
          have turn : ∃ x6' x7', ifS (eB (eop2 dNe (eop2 dIx (eVarV 3) (eVarV 4)) (eC (.int 0)))) (forS (eCall gEnum (eCons (eVar 1) eNil)) (tgT 2 (tgCons (tgN 6) (tgCons (tgN 7) tgNil))) exIn) snil none [s0, .dat (polyD (bs ++ [1])), .own (r2.reverse.map D.int ++ ((r1.reverse ++ [t]).map D.int ++ (List.replicate z 0).map D.int)), .own ((List.replicate a 0).map D.int ++ .int t :: acc.map D.int), .dat (.int a), .dat (.int t), x6, x7] =
              .nx [s0, .dat (polyD (bs ++ [1])), .own ((subR t bs.reverse r).reverse.map D.int ++ (List.replicate (z + 1) 0).map D.int), .own ((List.replicate (r.length - bs.length) 0).map D.int ++ (t :: acc).map D.int), .dat (.int a), .dat (.int t), x6', x7'] none := by
            have c0 : eB (eop2 dNe (eop2 dIx (eVarV 3) (eVarV 4)) (eC (.int 0))) none [s0, .dat (polyD (bs ++ [1])), .own (r2.reverse.map D.int ++ ((r1.reverse ++ [t]).map D.int ++ (List.replicate z 0).map D.int)), .own ((List.replicate a 0).map D.int ++ .int t :: acc.map D.int), .dat (.int a), .dat (.int t), x6, x7] = .ok (!decide (t = 0)) none := eB_ok (eop2_ok (eop2_ok (eVarV_own rfl) (eVarV_ok rfl) hfix) eC_ok (dNe_int _ _))
            rw [← eacc]
            by_cases y0 : t = 0
            · rw [decide_eq_true y0] at c0
              refine ⟨x6, x7, (ifS_f c0).trans ?_⟩
              have : (subR t bs.reverse r).reverse.map D.int ++ (List.replicate (z + 1) 0).map D.int = r2.reverse.map D.int ++ ((r1.reverse ++ [t]).map D.int ++ (List.replicate z 0).map D.int) := by
                rw [y0, subR_zero _ _ (by simpa using hlr), er, List.replicate_succ]
                simp
              rw [this]
              rfl
            · rw [decide_eq_false y0] at c0
              obtain ⟨x6', x7', e8⟩ := ex_in s0 (.dat (polyD (bs ++ [1]))) (.dat (.int t)) a t ((List.replicate a 0).map D.int ++ .int t :: acc.map D.int) ht hfix (bs ++ [1]) (r1.reverse ++ [t]) 0 (r2.reverse.map D.int) ((List.replicate z 0).map D.int) x6 x7 (by simp; omega)
                (fun b hb' => by
                  rcases List.mem_append.mp hb' with y | y
                  · exact hb b y
                  · rw [List.mem_singleton.mp y]; decide) (by simp; omega)
              refine ⟨x6', x7', (ifS_t c0).trans ((forS_of (eCall_ok (eCons_ok (eVar_ok rfl) eNil_ok) (a := enumD 0 ((bs ++ [1]).map D.int)) rfl)).trans ?_)⟩
              rw [e8, ezip, esub]
              simp [List.replicate_succ]
          obtain ⟨x6', x7', e9⟩ := turn
          obtain ⟨z', y4, y5, y6, y7, hz, ih⟩ := ex_out s0 bs hb hm n (subR t bs.reverse r) (t :: acc) dg rm (z + 1) (.dat (.int a)) (.dat (.int t)) x6' x7' h (by rw [lsub]; simp at hq; omega)
          have hz2 : z' + rm.length = z + 1 + r.length := by rw [← lsub]; exact hz
          refine ⟨z', y4, y5, y6, y7, by simp only [List.length_cons]; omega, ?_⟩
          rw [lsub] at ih
          rw [eR, eF, eA]
          refine Eq.trans (loopS_go (w2 := none) (e1 := [s0, .dat (polyD (bs ++ [1])), .own (r2.reverse.map D.int ++ ((r1.reverse ++ [t]).map D.int ++ (List.replicate z 0).map D.int)), .own ((List.replicate a 0).map D.int ++ .int 0 :: acc.map D.int), .dat (.int a), x5, x6, x7]) rfl ?_) ih
          unfold exBody
          rw [sseq_nx e5, sseq_nx e6, sseq_nx e7]
          exact e9
        · cases h
theorem stripR_zero : ∀ (n : Nat), stripR (List.replicate n 0) = []
  | 0 => rfl
  | n + 1 => by
    rw [List.replicate_succ]
    unfold stripR
    rw [if_pos rfl, stripR_zero n]
theorem exact_ok (p bs dg rm : List Int) (hb : bs.all sm = true) (hm : bs.length < 200) (hp : p.length < 250) (hpm : bs.length < p.length) (h : divGo 300 bs.reverse p.reverse [] = some (dg, rm)) (hz : rm = List.replicate rm.length 0) (hd : dg.length < 300) : PM.m_p_exact [polyD p, polyD (bs ++ [1])] = .ok (polyD (stripL dg)) := by
  have hb' : ∀ b ∈ bs, b.natAbs < 2 ^ 400 := fun b h => sm_iff.mp (List.all_eq_true.mp hb b h)
  unfold PM.m_p_exact
  refine mRun_at (w := none) (e0 := [.dat (polyD p), .dat (polyD (bs ++ [1])), .un, .un, .un, .un, .un, .un]) rfl rfl ?_
  unfold PM.b_p_exact
  have hlp : gLen [polyD p] = some (.int p.length) := by show some (D.int _) = _; simp
  have hlb : gLen [polyD (bs ++ [1])] = some (.int (bs.length + 1 : Nat)) := by show some (D.int _) = _; simp
  have hmax : gMax2 [.int 0, .int ((p.length : Int) - ((bs.length + 1 : Nat) : Int) + 1)] = some (.int ((p.length - bs.length : Nat) : Int)) := by
    show some (D.int _) = _
    rw [if_pos (by omega)]
    refine congrArg (fun z => some (D.int z)) ?_
    omega
  have e1 : parS2 2 3 (eOwn (eCall gList (eCons (eVarV 0) eNil))) (eOwn (eop2 dRepL (eLst (eList (eCons (eC (.int 0)) eNil))) (eCall gMax2 (eCons (eC (.int 0)) (eCons (eop2 dAdd (eop2 dSub (eCall gLen (eCons (eVarV 0) eNil)) (eCall gLen (eCons (eVarV 1) eNil))) (eC (.int 1))) eNil))))) none [.dat (polyD p), .dat (polyD (bs ++ [1])), .un, .un, .un, .un, .un, .un] =
      .nx [.dat (polyD p), .dat (polyD (bs ++ [1])), .own (p.reverse.reverse.map D.int ++ (List.replicate 0 0).map D.int), .own ((List.replicate (p.reverse.length - bs.length) 0).map D.int ++ [].map D.int), .un, .un, .un, .un] none := by
    have h1 : p.reverse.reverse.map D.int ++ (List.replicate 0 0).map D.int = p.map D.int := by simp
    have h2 : (List.replicate (p.reverse.length - bs.length) 0).map D.int ++ [].map D.int = (List.replicate (p.length - bs.length) 0).map D.int := by simp
    rw [h1, h2]
    exact parS2_ok (eOwn_ok (eCall_ok (eCons_ok (eVarV_ok rfl) eNil_ok) rfl)) (eOwn_ok (eop2_ok (eLst_ok (eList_ok (eCons_ok eC_ok eNil_ok) (by simp))) (eCall_ok (eCons_ok eC_ok (eCons_ok (eop2_ok (eop2_ok (eCall_ok (eCons_ok (eVarV_ok rfl) eNil_ok) hlp) (eCall_ok (eCons_ok (eVarV_ok rfl) eNil_ok) hlb) rfl) eC_ok rfl) eNil_ok)) hmax) (rep_ok (a := 0) (b := 0) _ (by omega) rfl)))
  rw [sseq_nx e1]
  obtain ⟨z', x4, x5, x6, x7, hz', e3⟩ := ex_out (.dat (polyD p)) bs hb' (by omega) 300 p.reverse [] dg rm 0 .un .un .un .un h (by simp; omega)
  have e4 : forS (eCall gRange3 (eCons (eop2 dSub (eCall gLen (eCons (eVarV 0) eNil)) (eCall gLen (eCons (eVarV 1) eNil))) (eCons (eNeg (eC (.int 1))) (eCons (eNeg (eC (.int 1))) eNil)))) (tgN 4) exBody none [.dat (polyD p), .dat (polyD (bs ++ [1])), .own (p.reverse.reverse.map D.int ++ (List.replicate 0 0).map D.int), .own ((List.replicate (p.reverse.length - bs.length) 0).map D.int ++ [].map D.int), .un, .un, .un, .un] =
      .nx [.dat (polyD p), .dat (polyD (bs ++ [1])), .own (rm.reverse.map D.int ++ (List.replicate z' 0).map D.int), .own (dg.map D.int), x4, x5, x6, x7] none := by
    refine (forS_of (eCall_ok (eCons_ok (eop2_ok (eCall_ok (eCons_ok (eVarV_ok rfl) eNil_ok) hlp) (eCall_ok (eCons_ok (eVarV_ok rfl) eNil_ok) hlb) (rfl : dSub _ _ = some (D.int _))) (eCons_ok (eNeg_ok eC_ok) (eCons_ok (eNeg_ok eC_ok) eNil_ok))) (range3_ok _ 0 (p.length - bs.length) (by omega) (by omega) (by omega)))).trans (Eq.trans ?_ e3)
    rw [List.length_reverse]
    congr 2
    omega
  rw [sseq_nx e4]
  have erest : rm.reverse.map D.int ++ (List.replicate z' 0).map D.int = (List.replicate (rm.length + z') 0).reverse.map D.int := by
    rw [← List.map_append, List.reverse_replicate]
    congr 1
    rw [show rm.reverse = List.replicate rm.length 0 by
      have := congrArg List.reverse hz
      rw [List.reverse_replicate] at this
      exact this]
    exact List.replicate_append_replicate
  rw [erest]
  refine (sseq_nx (w1 := none) (e1 := [.dat (polyD p), .dat (polyD (bs ++ [1])), .dat (.lst ((List.replicate (rm.length + z') 0).reverse.map D.int)), .own (dg.map D.int), x4, x5, x6, x7]) rfl).trans ?_
  refine (sseq_nx (w1 := none) (e1 := [.dat (polyD p), .dat (polyD (bs ++ [1])), .dat (.lst ((List.replicate (rm.length + z') 0).reverse.map D.int)), .dat (.lst (dg.map D.int)), x4, x5, x6, x7]) rfl).trans ?_
  have c1 := cleaned_ok (List.replicate (rm.length + z') 0) (by simp at hz' ⊢; omega)
  rw [stripR_zero] at c1
  have c2 := cleaned_ok dg.reverse (by simpa using hd)
  rw [List.reverse_reverse] at c2
  exact ret_ok ((eIf_t (eB_ok (eop2_ok (eFun_ok (eCons_ok (eVar_ok rfl) eNil_ok) c1) (eTup_ok eNil_ok (by simp)) (dEq_nil_T [])))).trans (eFun_ok (eCons_ok (eVar_ok rfl) eNil_ok) c2))
end K06
set_option Elab.async false
set_option linter.all false
set_option autoImplicit false
set_option maxRecDepth 1000000
set_option maxHeartbeats 0
set_option exponentiation.threshold 3000
namespace K06
open PySem PySem.Spec PyProof.Rows L2 DL
/-- D(0), .., D(28) -/
def tL : List (List Int) := [[1],
  [0, 1],
  [-1, 0, 1],
  [0, -2, 0, 1],
  [1, 0, -3, 0, 1],
  [0, 3, 0, -4, 0, 1],
  [-1, 0, 6, 0, -5, 0, 1],
  [0, -4, 0, 10, 0, -6, 0, 1],
  [1, 0, -10, 0, 15, 0, -7, 0, 1],
  [0, 5, 0, -20, 0, 21, 0, -8, 0, 1],
  [-1, 0, 15, 0, -35, 0, 28, 0, -9, 0, 1],
  [0, -6, 0, 35, 0, -56, 0, 36, 0, -10, 0, 1],
  [1, 0, -21, 0, 70, 0, -84, 0, 45, 0, -11, 0, 1],
  [0, 7, 0, -56, 0, 126, 0, -120, 0, 55, 0, -12, 0, 1],
  [-1, 0, 28, 0, -126, 0, 210, 0, -165, 0, 66, 0, -13, 0, 1],
  [0, -8, 0, 84, 0, -252, 0, 330, 0, -220, 0, 78, 0, -14, 0, 1],
  [1, 0, -36, 0, 210, 0, -462, 0, 495, 0, -286, 0, 91, 0, -15, 0, 1],
  [0, 9, 0, -120, 0, 462, 0, -792, 0, 715, 0, -364, 0, 105, 0, -16, 0, 1],
  [-1, 0, 45, 0, -330, 0, 924, 0, -1287, 0, 1001, 0, -455, 0, 120, 0, -17, 0, 1],
  [0, -10, 0, 165, 0, -792, 0, 1716, 0, -2002, 0, 1365, 0, -560, 0, 136, 0, -18, 0, 1],
  [1, 0, -55, 0, 495, 0, -1716, 0, 3003, 0, -3003, 0, 1820, 0, -680, 0, 153, 0, -19, 0, 1],
  [0, 11, 0, -220, 0, 1287, 0, -3432, 0, 5005, 0, -4368, 0, 2380, 0, -816, 0, 171, 0, -20, 0, 1],
  [-1, 0, 66, 0, -715, 0, 3003, 0, -6435, 0, 8008, 0, -6188, 0, 3060, 0, -969, 0, 190, 0, -21, 0, 1],
  [0, -12, 0, 286, 0, -2002, 0, 6435, 0, -11440, 0, 12376, 0, -8568, 0, 3876, 0, -1140, 0, 210, 0, -22, 0, 1],
  [1, 0, -78, 0, 1001, 0, -5005, 0, 12870, 0, -19448, 0, 18564, 0, -11628, 0, 4845, 0, -1330, 0, 231, 0, -23, 0, 1],
  [0, 13, 0, -364, 0, 3003, 0, -11440, 0, 24310, 0, -31824, 0, 27132, 0, -15504, 0, 5985, 0, -1540, 0, 253, 0, -24, 0, 1],
  [-1, 0, 91, 0, -1365, 0, 8008, 0, -24310, 0, 43758, 0, -50388, 0, 38760, 0, -20349, 0, 7315, 0, -1771, 0, 276, 0, -25, 0, 1],
  [0, -14, 0, 455, 0, -4368, 0, 19448, 0, -48620, 0, 75582, 0, -77520, 0, 54264, 0, -26334, 0, 8855, 0, -2024, 0, 300, 0, -26, 0, 1],
  [1, 0, -105, 0, 1820, 0, -12376, 0, 43758, 0, -92378, 0, 125970, 0, -116280, 0, 74613, 0, -33649, 0, 10626, 0, -2300, 0, 325, 0, -27, 0, 1]]
/-- Q(n, 0), .., Q(n, n), n to 16 -/
def tQ : List (List (List Int)) := [[[1]],
  [[1], [1]],
  [[1], [0, 1], [1]],
  [[1], [-1, 0, 1], [-1, 0, 1], [1]],
  [[1], [0, -2, 0, 1], [2, 0, -3, 0, 1], [0, -2, 0, 1], [1]],
  [[1], [1, 0, -3, 0, 1], [-2, 0, 7, 0, -5, 0, 1], [-2, 0, 7, 0, -5, 0, 1], [1, 0, -3, 0, 1], [1]],
  [[1], [0, 3, 0, -4, 0, 1], [3, 0, -13, 0, 16, 0, -7, 0, 1], [0, 6, 0, -23, 0, 22, 0, -8, 0, 1], [3, 0, -13, 0, 16, 0, -7, 0, 1], [0, 3, 0, -4, 0, 1], [1]],
  [[1], [-1, 0, 6, 0, -5, 0, 1], [-3, 0, 22, 0, -40, 0, 29, 0, -9, 0, 1], [3, 0, -28, 0, 81, 0, -90, 0, 46, 0, -11, 0, 1], [3, 0, -28, 0, 81, 0, -90, 0, 46, 0, -11, 0, 1], [-3, 0, 22, 0, -40, 0, 29, 0, -9, 0, 1], [-1, 0, 6, 0, -5, 0, 1], [1]],
  [[1], [0, -4, 0, 10, 0, -6, 0, 1], [4, 0, -34, 0, 86, 0, -91, 0, 46, 0, -11, 0, 1], [0, -12, 0, 106, 0, -292, 0, 359, 0, -229, 0, 79, 0, -14, 0, 1], [6, 0, -68, 0, 277, 0, -532, 0, 533, 0, -296, 0, 92, 0, -15, 0, 1], [0, -12, 0, 106, 0, -292, 0, 359, 0, -229, 0, 79, 0, -14, 0, 1], [4, 0, -34, 0, 86, 0, -91, 0, 46, 0, -11, 0, 1], [0, -4, 0, 10, 0, -6, 0, 1], [1]],
  [[1], [1, 0, -10, 0, 15, 0, -7, 0, 1], [-4, 0, 50, 0, -166, 0, 239, 0, -174, 0, 67, 0, -13, 0, 1], [-4, 0, 70, 0, -416, 0, 1073, 0, -1415, 0, 1057, 0, -467, 0, 121, 0, -17, 0, 1], [6, 0, -110, 0, 711, 0, -2121, 0, 3416, 0, -3244, 0, 1900, 0, -694, 0, 154, 0, -19, 0, 1], [6, 0, -110, 0, 711, 0, -2121, 0, 3416, 0, -3244, 0, 1900, 0, -694, 0, 154, 0, -19, 0, 1], [-4, 0, 70, 0, -416, 0, 1073, 0, -1415, 0, 1057, 0, -467, 0, 121, 0, -17, 0, 1], [-4, 0, 50, 0, -166, 0, 239, 0, -174, 0, 67, 0, -13, 0, 1], [1, 0, -10, 0, 15, 0, -7, 0, 1], [1]],
  [[1], [0, 5, 0, -20, 0, 21, 0, -8, 0, 1], [5, 0, -70, 0, 296, 0, -553, 0, 541, 0, -297, 0, 92, 0, -15, 0, 1], [0, 20, 0, -310, 0, 1604, 0, -3993, 0, 5547, 0, -4665, 0, 2472, 0, -831, 0, 172, 0, -20, 0, 1], [10, 0, -210, 0, 1677, 0, -6755, 0, 15540, 0, -21988, 0, 20101, 0, -12217, 0, 4983, 0, -1348, 0, 232, 0, -23, 0, 1], [0, 30, 0, -580, 0, 4111, 0, -14270, 0, 28396, 0, -35421, 0, 29136, 0, -16214, 0, 6140, 0, -1559, 0, 254, 0, -24, 0, 1], [10, 0, -210, 0, 1677, 0, -6755, 0, 15540, 0, -21988, 0, 20101, 0, -12217, 0, 4983, 0, -1348, 0, 232, 0, -23, 0, 1], [0, 20, 0, -310, 0, 1604, 0, -3993, 0, 5547, 0, -4665, 0, 2472, 0, -831, 0, 172, 0, -20, 0, 1], [5, 0, -70, 0, 296, 0, -553, 0, 541, 0, -297, 0, 92, 0, -15, 0, 1], [0, 5, 0, -20, 0, 21, 0, -8, 0, 1], [1]],
  [[1], [-1, 0, 15, 0, -35, 0, 28, 0, -9, 0, 1], [-5, 0, 95, 0, -496, 0, 1163, 0, -1461, 0, 1068, 0, -468, 0, 121, 0, -17, 0, 1], [5, 0, -140, 0, 1381, 0, -6202, 0, 14999, 0, -21691, 0, 20009, 0, -12202, 0, 4982, 0, -1348, 0, 232, 0, -23, 0, 1], [10, 0, -300, 0, 3327, 0, -18068, 0, 56187, 0, -109580, 0, 141781, 0, -126131, 0, 78781, 0, -34826, 0, 10838, 0, -2322, 0, 326, 0, -27, 0, 1], [-10, 0, 330, 0, -4177, 0, 26679, 0, -97316, 0, 221742, 0, -335722, 0, 351996, 0, -262342, 0, 140926, 0, -54710, 0, 15205, 0, -2949, 0, 379, 0, -29, 0, 1], [-10, 0, 330, 0, -4177, 0, 26679, 0, -97316, 0, 221742, 0, -335722, 0, 351996, 0, -262342, 0, 140926, 0, -54710, 0, 15205, 0, -2949, 0, 379, 0, -29, 0, 1], [10, 0, -300, 0, 3327, 0, -18068, 0, 56187, 0, -109580, 0, 141781, 0, -126131, 0, 78781, 0, -34826, 0, 10838, 0, -2322, 0, 326, 0, -27, 0, 1], [5, 0, -140, 0, 1381, 0, -6202, 0, 14999, 0, -21691, 0, 20009, 0, -12202, 0, 4982, 0, -1348, 0, 232, 0, -23, 0, 1], [-5, 0, 95, 0, -496, 0, 1163, 0, -1461, 0, 1068, 0, -468, 0, 121, 0, -17, 0, 1], [-1, 0, 15, 0, -35, 0, 28, 0, -9, 0, 1], [1]],
  [[1], [0, -6, 0, 35, 0, -56, 0, 36, 0, -10, 0, 1], [6, 0, -125, 0, 791, 0, -2269, 0, 3544, 0, -3300, 0, 1912, 0, -695, 0, 154, 0, -19, 0, 1], [0, -30, 0, 715, 0, -5866, 0, 23972, 0, -56745, 0, 84737, 0, -84190, 0, 57446, 0, -27320, 0, 9046, 0, -2045, 0, 301, 0, -26, 0, 1], [15, 0, -500, 0, 6483, 0, -43542, 0, 172974, 0, -440285, 0, 758060, 0, -916764, 0, 798885, 0, -509559, 0, 239529, 0, -82799, 0, 20777, 0, -3680, 0, 436, 0, -31, 0, 1], [0, -60, 0, 1970, 0, -25052, 0, 164887, 0, -647001, 0, 1652725, 0, -2911300, 0, 3675715, 0, -3413380, 0, 2369875, 0, -1240775, 0, 490525, 0, -145481, 0, 31845, 0, -4989, 0, 529, 0, -34, 0, 1], [20, 0, -750, 0, 11384, 0, -92941, 0, 460135, 0, -1483579, 0, 3277697, 0, -5153258, 0, 5928722, 0, -5090628, 0, 3303802, 0, -1630698, 0, 611929, 0, -173239, 0, 36368, 0, -5486, 0, 562, 0, -35, 0, 1], [0, -60, 0, 1970, 0, -25052, 0, 164887, 0, -647001, 0, 1652725, 0, -2911300, 0, 3675715, 0, -3413380, 0, 2369875, 0, -1240775, 0, 490525, 0, -145481, 0, 31845, 0, -4989, 0, 529, 0, -34, 0, 1], [15, 0, -500, 0, 6483, 0, -43542, 0, 172974, 0, -440285, 0, 758060, 0, -916764, 0, 798885, 0, -509559, 0, 239529, 0, -82799, 0, 20777, 0, -3680, 0, 436, 0, -31, 0, 1], [0, -30, 0, 715, 0, -5866, 0, 23972, 0, -56745, 0, 84737, 0, -84190, 0, 57446, 0, -27320, 0, 9046, 0, -2045, 0, 301, 0, -26, 0, 1], [6, 0, -125, 0, 791, 0, -2269, 0, 3544, 0, -3300, 0, 1912, 0, -695, 0, 154, 0, -19, 0, 1], [0, -6, 0, 35, 0, -56, 0, 36, 0, -10, 0, 1], [1]],
  [[1], [1, 0, -21, 0, 70, 0, -84, 0, 45, 0, -11, 0, 1], [-6, 0, 161, 0, -1211, 0, 4166, 0, -7896, 0, 9076, 0, -6656, 0, 3181, 0, -986, 0, 191, 0, -21, 0, 1], [-6, 0, 245, 0, -3591, 0, 24543, 0, -92790, 0, 215899, 0, -330965, 0, 349509, 0, -261510, 0, 140754, 0, -54690, 0, 15204, 0, -2949, 0, 379, 0, -29, 0, 1], [15, 0, -665, 0, 11158, 0, -94285, 0, 468951, 0, -1505360, 0, 3307985, 0, -5179801, 0, 5944088, 0, -5096595, 0, 3305341, 0, -1630951, 0, 611953, 0, -173240, 0, 36368, 0, -5486, 0, 562, 0, -35, 0, 1], [15, 0, -770, 0, 15708, 0, -168051, 0, 1063980, 0, -4327925, 0, 12019248, 0, -23831324, 0, 34855124, 0, -38499049, 0, 32646932, 0, -21481858, 0, 11029325, 0, -4421184, 0, 1377184, 0, -329652, 0, 59435, 0, -7804, 0, 704, 0, -39, 0, 1], [-20, 0, 1050, 0, -22134, 0, 248111, 0, -1672290, 0, 7346081, 0, -22283853, 0, 48689271, 0, -79045404, 0, 97561247, 0, -93083298, 0, 69450577, 0, -40810305, 0, 18941423, 0, -6934129, 0, 1989646, 0, -441945, 0, 74412, 0, -9175, 0, 781, 0, -41, 0, 1], [-20, 0, 1050, 0, -22134, 0, 248111, 0, -1672290, 0, 7346081, 0, -22283853, 0, 48689271, 0, -79045404, 0, 97561247, 0, -93083298, 0, 69450577, 0, -40810305, 0, 18941423, 0, -6934129, 0, 1989646, 0, -441945, 0, 74412, 0, -9175, 0, 781, 0, -41, 0, 1], [15, 0, -770, 0, 15708, 0, -168051, 0, 1063980, 0, -4327925, 0, 12019248, 0, -23831324, 0, 34855124, 0, -38499049, 0, 32646932, 0, -21481858, 0, 11029325, 0, -4421184, 0, 1377184, 0, -329652, 0, 59435, 0, -7804, 0, 704, 0, -39, 0, 1], [15, 0, -665, 0, 11158, 0, -94285, 0, 468951, 0, -1505360, 0, 3307985, 0, -5179801, 0, 5944088, 0, -5096595, 0, 3305341, 0, -1630951, 0, 611953, 0, -173240, 0, 36368, 0, -5486, 0, 562, 0, -35, 0, 1], [-6, 0, 245, 0, -3591, 0, 24543, 0, -92790, 0, 215899, 0, -330965, 0, 349509, 0, -261510, 0, 140754, 0, -54690, 0, 15204, 0, -2949, 0, 379, 0, -29, 0, 1], [-6, 0, 161, 0, -1211, 0, 4166, 0, -7896, 0, 9076, 0, -6656, 0, 3181, 0, -986, 0, 191, 0, -21, 0, 1], [1, 0, -21, 0, 70, 0, -84, 0, 45, 0, -11, 0, 1], [1]],
  [[1], [0, 7, 0, -56, 0, 126, 0, -120, 0, 55, 0, -12, 0, 1], [7, 0, -203, 0, 1792, 0, -7274, 0, 16414, 0, -22748, 0, 20476, 0, -12323, 0, 4999, 0, -1349, 0, 232, 0, -23, 0, 1], [0, 42, 0, -1421, 0, 16828, 0, -101156, 0, 359648, 0, -825223, 0, 1292984, 0, -1436938, 0, 1161359, 0, -692818, 0, 306869, 0, -100603, 0, 24077, 0, -4087, 0, 466, 0, -32, 0, 1], [21, 0, -1015, 0, 19299, 0, -192594, 0, 1156770, 0, -4543824, 0, 12350213, 0, -24180833, 0, 35116634, 0, -38639803, 0, 32701622, 0, -21497062, 0, 11032274, 0, -4421563, 0, 1377213, 0, -329653, 0, 59435, 0, -7804, 0, 704, 0, -39, 0, 1], [0, 105, 0, -5180, 0, 101591, 0, -1060480, 0, 6766119, 0, -28695564, 0, 85626955, 0, -187199054, 0, 308837548, 0, -392963018, 0, 391823759, 0, -309633223, 0, 195348302, 0, -98766247, 0, 40026154, 0, -12955893, 0, 3322653, 0, -665848, 0, 101975, 0, -11519, 0, 904, 0, -44, 0, 1], [35, 0, -2030, 0, 48937, 0, -652349, 0, 5424272, 0, -30210278, 0, 118444649, 0, -339445501, 0, 732213609, 0, -1216369540, 0, 1584115241, 0, -1639515823, 0, 1362145686, 0, -914792792, 0, 498617540, 0, -220839841, 0, 79336340, 0, -22998299, 0, 5329373, 0, -972554, 0, 136573, 0, -14232, 0, 1036, 0, -47, 0, 1], [0, 140, 0, -7630, 0, 169778, 0, -2054023, 0, 15335572, 0, -76593538, 0, 270786246, 0, -705893696, 0, 1398300674, 0, -2152673135, 0, 2619447643, 0, -2551294344, 0, 2007124546, 0, -1283171568, 0, 668841537, 0, -284405594, 0, 98428985, 0, -27569765, 0, 6189254, 0, -1096746, 0, 149858, 0, -15223, 0, 1082, 0, -48, 0, 1], [35, 0, -2030, 0, 48937, 0, -652349, 0, 5424272, 0, -30210278, 0, 118444649, 0, -339445501, 0, 732213609, 0, -1216369540, 0, 1584115241, 0, -1639515823, 0, 1362145686, 0, -914792792, 0, 498617540, 0, -220839841, 0, 79336340, 0, -22998299, 0, 5329373, 0, -972554, 0, 136573, 0, -14232, 0, 1036, 0, -47, 0, 1], [0, 105, 0, -5180, 0, 101591, 0, -1060480, 0, 6766119, 0, -28695564, 0, 85626955, 0, -187199054, 0, 308837548, 0, -392963018, 0, 391823759, 0, -309633223, 0, 195348302, 0, -98766247, 0, 40026154, 0, -12955893, 0, 3322653, 0, -665848, 0, 101975, 0, -11519, 0, 904, 0, -44, 0, 1], [21, 0, -1015, 0, 19299, 0, -192594, 0, 1156770, 0, -4543824, 0, 12350213, 0, -24180833, 0, 35116634, 0, -38639803, 0, 32701622, 0, -21497062, 0, 11032274, 0, -4421563, 0, 1377213, 0, -329653, 0, 59435, 0, -7804, 0, 704, 0, -39, 0, 1], [0, 42, 0, -1421, 0, 16828, 0, -101156, 0, 359648, 0, -825223, 0, 1292984, 0, -1436938, 0, 1161359, 0, -692818, 0, 306869, 0, -100603, 0, 24077, 0, -4087, 0, 466, 0, -32, 0, 1], [7, 0, -203, 0, 1792, 0, -7274, 0, 16414, 0, -22748, 0, 20476, 0, -12323, 0, 4999, 0, -1349, 0, 232, 0, -23, 0, 1], [0, 7, 0, -56, 0, 126, 0, -120, 0, 55, 0, -12, 0, 1], [1]],
  [[1], [-1, 0, 28, 0, -126, 0, 210, 0, -165, 0, 66, 0, -13, 0, 1], [-7, 0, 252, 0, -2576, 0, 12174, 0, -32206, 0, 52834, 0, -57044, 0, 41941, 0, -21335, 0, 7506, 0, -1792, 0, 277, 0, -25, 0, 1], [7, 0, -392, 0, 7966, 0, -76532, 0, 413131, 0, -1396010, 0, 3166283, 0, -5053684, 0, 5865308, 0, -5061769, 0, 3294503, 0, -1628629, 0, 611627, 0, -173213, 0, 36367, 0, -5486, 0, 562, 0, -35, 0, 1], [21, 0, -1288, 0, 30310, 0, -364948, 0, 2626368, 0, -12392886, 0, 40717851, 0, -97123360, 0, 173361739, 0, -236830189, 0, 251773728, 0, -210809463, 0, 140142465, 0, -74296044, 0, 31436584, 0, -10584235, 0, 2814133, 0, -582966, 0, 92058, 0, -10698, 0, 862, 0, -43, 0, 1], [-21, 0, 1540, 0, -45724, 0, 726554, 0, -6972305, 0, 43778410, 0, -190719108, 0, 602559547, 0, -1427942243, 0, 2604449768, 0, -3728903506, 0, 4254268495, 0, -3911280202, 0, 2921152947, 0, -1781583181, 0, 889639960, 0, -363735917, 0, 121426688, 0, -32899102, 0, 7161807, 0, -1233319, 0, 164090, 0, -16259, 0, 1129, 0, -49, 0, 1], [-35, 0, 2660, 0, -83062, 0, 1414950, 0, -14874096, 0, 104350594, 0, -516387943, 0, 1877709711, 0, -5175325407, 0, 11075121374, 0, -18751894858, 0, 25495418136, 0, -28159572507, 0, 25490992274, 0, -19035789650, 0, 11778144848, 0, -6052286774, 0, 2583605797, 0, -914492142, 0, 267234818, 0, -64000628, 0, 12422317, 0, -1922152, 0, 231383, 0, -20873, 0, 1327, 0, -53, 0, 1], [35, 0, -2800, 0, 93212, 0, -1712408, 0, 19544873, 0, -148975408, 0, 799703814, 0, -3149736876, 0, 9397654182, 0, -21778774018, 0, 39982693729, 0, -59058488240, 0, 71050179659, 0, -70280161881, 0, 57568763984, 0, -39249778175, 0, 22344447578, 0, -10635825754, 0, 4230684719, 0, -1402710797, 0, 385744160, 0, -87297994, 0, 16071049, 0, -2366448, 0, 271903, 0, -23476, 0, 1432, 0, -55, 0, 1], [35, 0, -2800, 0, 93212, 0, -1712408, 0, 19544873, 0, -148975408, 0, 799703814, 0, -3149736876, 0, 9397654182, 0, -21778774018, 0, 39982693729, 0, -59058488240, 0, 71050179659, 0, -70280161881, 0, 57568763984, 0, -39249778175, 0, 22344447578, 0, -10635825754, 0, 4230684719, 0, -1402710797, 0, 385744160, 0, -87297994, 0, 16071049, 0, -2366448, 0, 271903, 0, -23476, 0, 1432, 0, -55, 0, 1], [-35, 0, 2660, 0, -83062, 0, 1414950, 0, -14874096, 0, 104350594, 0, -516387943, 0, 1877709711, 0, -5175325407, 0, 11075121374, 0, -18751894858, 0, 25495418136, 0, -28159572507, 0, 25490992274, 0, -19035789650, 0, 11778144848, 0, -6052286774, 0, 2583605797, 0, -914492142, 0, 267234818, 0, -64000628, 0, 12422317, 0, -1922152, 0, 231383, 0, -20873, 0, 1327, 0, -53, 0, 1], [-21, 0, 1540, 0, -45724, 0, 726554, 0, -6972305, 0, 43778410, 0, -190719108, 0, 602559547, 0, -1427942243, 0, 2604449768, 0, -3728903506, 0, 4254268495, 0, -3911280202, 0, 2921152947, 0, -1781583181, 0, 889639960, 0, -363735917, 0, 121426688, 0, -32899102, 0, 7161807, 0, -1233319, 0, 164090, 0, -16259, 0, 1129, 0, -49, 0, 1], [21, 0, -1288, 0, 30310, 0, -364948, 0, 2626368, 0, -12392886, 0, 40717851, 0, -97123360, 0, 173361739, 0, -236830189, 0, 251773728, 0, -210809463, 0, 140142465, 0, -74296044, 0, 31436584, 0, -10584235, 0, 2814133, 0, -582966, 0, 92058, 0, -10698, 0, 862, 0, -43, 0, 1], [7, 0, -392, 0, 7966, 0, -76532, 0, 413131, 0, -1396010, 0, 3166283, 0, -5053684, 0, 5865308, 0, -5061769, 0, 3294503, 0, -1628629, 0, 611627, 0, -173213, 0, 36367, 0, -5486, 0, 562, 0, -35, 0, 1], [-7, 0, 252, 0, -2576, 0, 12174, 0, -32206, 0, 52834, 0, -57044, 0, 41941, 0, -21335, 0, 7506, 0, -1792, 0, 277, 0, -25, 0, 1], [-1, 0, 28, 0, -126, 0, 210, 0, -165, 0, 66, 0, -13, 0, 1], [1]],
  [[1], [0, -8, 0, 84, 0, -252, 0, 330, 0, -220, 0, 78, 0, -14, 0, 1], [8, 0, -308, 0, 3612, 0, -19650, 0, 60172, 0, -115126, 0, 146446, 0, -128603, 0, 79612, 0, -34998, 0, 10858, 0, -2323, 0, 326, 0, -27, 0, 1], [0, -56, 0, 2548, 0, -40992, 0, 338598, 0, -1675518, 0, 5426372, 0, -12187842, 0, 19764273, 0, -23810967, 0, 21743433, 0, -15252147, 0, 8280993, 0, -3487587, 0, 1135353, 0, -282780, 0, 52857, 0, -7173, 0, 667, 0, -38, 0, 1], [28, 0, -1848, 0, 48286, 0, -667104, 0, 5602482, 0, -31135116, 0, 121303877, 0, -345342500, 0, 740823134, 0, -1225592240, 0, 1591528561, 0, -1644046988, 0, 1364264237, 0, -915549848, 0, 498822596, 0, -220881197, 0, 79342355, 0, -22998895, 0, 5329409, 0, -972555, 0, 136573, 0, -14232, 0, 1036, 0, -47, 0, 1], [0, -168, 0, 11564, 0, -321104, 0, 4822254, 0, -44946490, 0, 282350470, 0, -1263793866, 0, 4195933801, 0, -10650904247, 0, 21156789802, 0, -33486225503, 0, 42829842393, 0, -44751971216, 0, 38515196400, 0, -27464986530, 0, 16290224513, 0, -8051785218, 0, 3316118833, 0, -1135466842, 0, 321742752, 0, -74875636, 0, 14148896, 0, -2135065, 0, 251030, 0, -22149, 0, 1379, 0, -54, 0, 1], [56, 0, -4620, 0, 160636, 0, -3133698, 0, 38716272, 0, -325474360, 0, 1956496322, 0, -8728623901, 0, 29755619490, 0, -79333087883, 0, 168558130616, 0, -289765924884, 0, 408013285348, 0, -475232169556, 0, 461446122617, 0, -375763412509, 0, 257734330449, 0, -149319460803, 0, 73167973280, 0, -30317847955, 0, 10603536695, 0, -3118737104, 0, 766882707, 0, -156296617, 0, 26079421, 0, -3500961, 0, 368670, 0, -29314, 0, 1654, 0, -59, 0, 1], [0, -280, 0, 22540, 0, -760116, 0, 14305002, 0, -170012560, 0, 1376434120, 0, -8007268220, 0, 34825078899, 0, -116716260770, 0, 308626148737, 0, -655942632389, 0, 1137257863315, 0, -1627639499338, 0, 1941240165123, 0, -1943942175458, 0, 1643993905528, 0, -1179264643597, 0, 719617161496, 0, -374183352089, 0, 165844874728, 0, -62588928019, 0, 20061179675, 0, -5437590257, 0, 1238389988, 0, -234828931, 0, 36607159, 0, -4608457, 0, 456668, 0, -34277, 0, 1831, 0, -62, 0, 1], [70, 0, -6160, 0, 231924, 0, -4972488, 0, 68374949, 0, -645665440, 0, 4387704092, 0, -22232314328, 0, 86396522797, 0, -263461358388, 0, 642376454208, 0, -1271746526836, 0, 2070317892064, 0, -2800173286956, 0, 3173074310893, 0, -3032662943226, 0, 2457352100343, 0, -1694608650009, 0, 997090522446, 0, -501218250977, 0, 215259609062, 0, -78882021994, 0, 24596164297, 0, -6496493637, 0, 1443956066, 0, -267592746, 0, 40819173, 0, -5034214, 0, 489233, 0, -36048, 0, 1892, 0, -63, 0, 1], [0, -280, 0, 22540, 0, -760116, 0, 14305002, 0, -170012560, 0, 1376434120, 0, -8007268220, 0, 34825078899, 0, -116716260770, 0, 308626148737, 0, -655942632389, 0, 1137257863315, 0, -1627639499338, 0, 1941240165123, 0, -1943942175458, 0, 1643993905528, 0, -1179264643597, 0, 719617161496, 0, -374183352089, 0, 165844874728, 0, -62588928019, 0, 20061179675, 0, -5437590257, 0, 1238389988, 0, -234828931, 0, 36607159, 0, -4608457, 0, 456668, 0, -34277, 0, 1831, 0, -62, 0, 1], [56, 0, -4620, 0, 160636, 0, -3133698, 0, 38716272, 0, -325474360, 0, 1956496322, 0, -8728623901, 0, 29755619490, 0, -79333087883, 0, 168558130616, 0, -289765924884, 0, 408013285348, 0, -475232169556, 0, 461446122617, 0, -375763412509, 0, 257734330449, 0, -149319460803, 0, 73167973280, 0, -30317847955, 0, 10603536695, 0, -3118737104, 0, 766882707, 0, -156296617, 0, 26079421, 0, -3500961, 0, 368670, 0, -29314, 0, 1654, 0, -59, 0, 1], [0, -168, 0, 11564, 0, -321104, 0, 4822254, 0, -44946490, 0, 282350470, 0, -1263793866, 0, 4195933801, 0, -10650904247, 0, 21156789802, 0, -33486225503, 0, 42829842393, 0, -44751971216, 0, 38515196400, 0, -27464986530, 0, 16290224513, 0, -8051785218, 0, 3316118833, 0, -1135466842, 0, 321742752, 0, -74875636, 0, 14148896, 0, -2135065, 0, 251030, 0, -22149, 0, 1379, 0, -54, 0, 1], [28, 0, -1848, 0, 48286, 0, -667104, 0, 5602482, 0, -31135116, 0, 121303877, 0, -345342500, 0, 740823134, 0, -1225592240, 0, 1591528561, 0, -1644046988, 0, 1364264237, 0, -915549848, 0, 498822596, 0, -220881197, 0, 79342355, 0, -22998895, 0, 5329409, 0, -972555, 0, 136573, 0, -14232, 0, 1036, 0, -47, 0, 1], [0, -56, 0, 2548, 0, -40992, 0, 338598, 0, -1675518, 0, 5426372, 0, -12187842, 0, 19764273, 0, -23810967, 0, 21743433, 0, -15252147, 0, 8280993, 0, -3487587, 0, 1135353, 0, -282780, 0, 52857, 0, -7173, 0, 667, 0, -38, 0, 1], [8, 0, -308, 0, 3612, 0, -19650, 0, 60172, 0, -115126, 0, 146446, 0, -128603, 0, 79612, 0, -34998, 0, 10858, 0, -2323, 0, 326, 0, -27, 0, 1], [0, -8, 0, 84, 0, -252, 0, 330, 0, -220, 0, 78, 0, -14, 0, 1], [1]]]
/-- Q(28, 0), .., Q(28, 14) -/
def tQ28 : List (List Int) := [[1],
  [0, -14, 0, 455, 0, -4368, 0, 19448, 0, -48620, 0, 75582, 0, -77520, 0, 54264, 0, -26334, 0, 8855, 0, -2024, 0, 300, 0, -26, 0, 1],
  [14, 0, -1729, 0, 64883, 0, -1150123, 0, 11764688, 0, -77699128, 0, 355862768, 0, -1187011978, 0, 2987013068, 0, -5820778858, 0, 8959034798, 0, -11055878188, 0, 11063492816, 0, -9052470696, 0, 6091228876, 0, -3382002691, 0, 1551167806, 0, -586987497, 0, 182570507, 0, -46352917, 0, 9503432, 0, -1548172, 0, 195616, 0, -18471, 0, 1226, 0, -51, 0, 1],
  [0, -182, 0, 27391, 0, -1487486, 0, 42433872, 0, -744115593, 0, 8786877918, 0, -74241295116, 0, 468713875260, 0, -2284111946634, 0, 8809984656611, 0, -27435806523916, 0, 70098991188902, 0, -148884737588901, 0, 265720798899675, 0, -402090575847984, 0, 519714506289420, 0, -577303779796254, 0, 553873703072100, 0, -460807606579179, 0, 333483192459375, 0, -210402048704724, 0, 115896965744295, 0, -55772023761909, 0, 23442463131435, 0, -8597590100613, 0, 2745804662955, 0, -761287516573, 0, 182445844211, 0, -37573418101, 0, 6597897375, 0, -977743626, 0, 120600210, 0, -12150984, 0, 973914, 0, -59709, 0, 2629, 0, -74, 0, 1],
  [91, 0, -20748, 0, 1892709, 0, -92447186, 0, 2794959102, 0, -57155085039, 0, 839691974635, 0, -9257684710872, 0, 79154962297878, 0, -538469938041410, 0, 2974570386060546, 0, -13567234242379818, 0, 51801353392129342, 0, -167488322266683792, 0, 463089246512163121, 0, -1104086830787198822, 0, 2286176650562432941, 0, -4136807496915203173, 0, 6576370520058352730, 0, -9227301075163902595, 0, 11472483187432807681, 0, -12682858633403331363, 0, 12503069920879655362, 0, -11018383426135520207, 0, 8697538803581812658, 0, -6159592619370150326, 0, 3918465968171501962, 0, -2241070453863928502, 0, 1152851959004448482, 0, -533466928357927275, 0, 221984678445726761, 0, -83005002678408866, 0, 27857356219035166, 0, -8377279323962069, 0, 2252289703264955, 0, -539828436039705, 0, 114927097474175, 0, -21634971105716, 0, 3581017130608, 0, -517502736131, 0, 64718046013, 0, -6925289175, 0, 624847753, 0, -46614367, 0, 2798073, 0, -129856, 0, 4372, 0, -95, 0, 1],
  [0, -1092, 0, 271726, 0, -28012348, 0, 1608495317, 0, -59049663959, 0, 1503959168569, 0, -28064046759118, 0, 399039261995603, 0, -4454366603337752, 0, 39964366083617212, 0, -293728952912386778, 0, 1796562299635113597, 0, -9266098440724844647, 0, 40755510842146350689, 0, -154345802985651881260, 0, 507506566178884019969, 0, -1459410478831499841364, 0, 3693675482789338090011, 0, -8273833765553355469877, 0, 16483699239662654224661, 0, -29334937987565750323911, 0, 46812478644956893831538, 0, -67213012160836627544234, 0, 87087613226796908051853, 0, -102096466884056987840296, 0, 108546148974451166700494, 0, -104866146504784639009213, 0, 92218986566334409934184, 0, -73927022901844886055804, 0, 54089158858161765356216, 0, -36154691389876221995083, 0, 22094781739085314764628, 0, -12351227030607576730589, 0, 6317601808005549481492, 0, -2956944075716639383762, 0, 1266215191624856029898, 0, -495865475930004805393, 0, 177467148433420488426, 0, -57990212898901079870, 0, 17279338873664613451, 0, -4687511560977857156, 0, 1155429651897445834, 0, -258158553974193863, 0, 52132708171349514, 0, -9481956632325229, 0, 1546771463992597, 0, -225163080254346, 0, 29070148631707, 0, -3303839026357, 0, 327475552410, 0, -27980132819, 0, 2030001769, 0, -122590217, 0, 5994785, 0, -228029, 0, 6329, 0, -114, 0, 1],
  [364, 0, -114114, 0, 15423408, 0, -1197688635, 0, 60418675317, 0, -2131439044735, 0, 55324146798845, 0, -1097023981094225, 0, 17107586743625905, 0, -214725160667280045, 0, 2210520701535451484, 0, -18959631059102896064, 0, 137285677808140608006, 0, -848741206168972854916, 0, 4523762868110989403350, 0, -20963734166437421083973, 0, 85093561759470398411851, 0, -304521524654010834534723, 0, 966370415734726524018884, 0, -2733431335121376885592235, 0, 6923203686187951661083012, 0, -15766213455132243442372994, 0, 32402061757213251879153097, 0, -60295372330395631034756418, 0, 101896100575193182161912611, 0, -156804758176049847576465133, 0, 220260643870997918469674137, 0, -283029039245021415531990708, 0, 333336845460120744935509463, 0, -360449589931257686150033917, 0, 358410272148668903149253271, 0, -328153676348671938459105853, 0, 276978451187015244696881863, 0, -215737586152613398212376389, 0, 155198332426993082769299395, 0, -103188918126123170765188632, 0, 63445625593455216192857950, 0, -36088261303138019000223735, 0, 18994775350611080924056046, 0, -9252288936457091462805975, 0, 4170491047569846693533413, 0, -1739223815217939383634835, 0, 670794443945400092533508, 0, -239138076828025768984353, 0, 78742997265583314051433, 0, -23926013219715283381945, 0, 6700693472256436147466, 0, -1727231730233903927860, 0, 409105722569395808285, 0, -88861587561237415527, 0, 17659289331407207158, 0, -3202015908883535960, 0, 528041390494612375, 0, -78897433587454827, 0, 10633248920171242, 0, -1285784641397510, 0, 138612153468627, 0, -13219332372355, 0, 1104758418354, 0, -79948483657, 0, 4934249929, 0, -254542143, 0, 10675752, 0, -349630, 0, 8386, 0, -131, 0, 1],
  [0, -4004, 0, 1311310, 0, -187343156, 0, 15585219221, 0, -853890972935, 0, 33131409924977, 0, -956355700996848, 0, 21290511958418019, 0, -375795687861650732, 0, 5376139768053348208, 0, -63466958203143222969, 0, 627614154954129795389, 0, -5265291016150338420607, 0, 37885352571809243705241, 0, -236017589717868047811862, 0, 1283599395457834002058325, 0, -6138813341182812722912404, 0, 25983884125341587096449785, 0, -97898116813414527738488213, 0, 330001208904563408126726901, 0, -999810863467667040701460185, 0, 2733825097822996385828988022, 0, -6771536722606647889123764761, 0, 15244901267576058049744567481, 0, -31289709234503154929878529974, 0, 58710089035667695086920166399, 0, -100958200580007182929159742027, 0, 159466959325496034179476348806, 0, -231841434474485367954480985737, 0, 310820621239365671095933245802, 0, -384908195951649268714237014531, 0, 440952602287300669667305323749, 0, -467957682679274971750165697508, 0, 460608073129568300773464406880, 0, -420957850564400366752786294710, 0, 357555969520892232373644293345, 0, -282495131883861518260165542344, 0, 207755004639182994465747871190, 0, -142307619406716824627261418934, 0, 90835389731939079743908682040, 0, -54050378470775526123294960419, 0, 29990120213088429277348057481, 0, -15519049346537539899641547608, 0, 7490022484939809370847282896, 0, -3371374274419752749875978632, 0, 1415015022936249657947402054, 0, -553627271829670168885837289, 0, 201833634826151930053106012, 0, -68524923892093023212659384, 0, 21651098278047980203756733, 0, -6360896232359946910935322, 0, 1735888252378289271931282, 0, -439509875017657137338016, 0, 103097684036527736118724, 0, -22369365157186142760046, 0, 4480868334947767443376, 0, -826848893091048420233, 0, 140200625692848030975, 0, -21780413822536256121, 0, 3089614230961711735, 0, -398612687192054817, 0, 46558484919027402, 0, -4896393171124074, 0, 460634358601434, 0, -38461619371350, 0, 2823004680557, 0, -179967379024, 0, 9813171362, 0, -448510601, 0, 16711417, 0, -487485, 0, 10441, 0, -146, 0, 1],
  [1001, 0, -380380, 0, 64409345, 0, -6474671346, 0, 435235393593, 0, -20936065330271, 0, 754147877742427, 0, -21033809331247574, 0, 466187719804243324, 0, -8384516138038363118, 0, 124504425613001485718, 0, -1548850531696801267543, 0, 16343991597528678295778, 0, -147877402040246064204184, 0, 1158016124851016837374747, 0, -7913661514565018203871420, 0, 47539945122037885078185218, 0, -252683673466074020828352205, 0, 1195235199807131104715264450, 0, -5057667191858680885216491646, 0, 19235665155719481313914505252, 0, -66034075004942500032468795219, 0, 205401983322790561743178965915, 0, -580946496992209362078729131769, 0, 1498809002407179626046793893511, 0, -3537507854436999869882983244422, 0, 7658481768194168971042371670770, 0, -15245325470524614207644190421422, 0, 27966916330860524562305558903959, 0, -47375069952516885348426810474637, 0, 74243999160395409939148750779270, 0, -107824916809696242645652280779557, 0, 145344875798585927657833653113241, 0, -182104503418996039042866550546170, 0, 212346220432984835893071246200814, 0, -230718390167910871481949686645298, 0, 233827757502748555114775024293367, 0, -221259752659899342387655228722228, 0, 195647278293696565384375586978693, 0, -161785953798806429088755847255698, 0, 125196916083469325965953744541194, 0, -90715884621662379375582907604648, 0, 61577616697256933891233323812419, 0, -39173082762533347171342408278240, 0, 23362348682479416318796401250015, 0, -13065044388254437457790600951306, 0, 6852291393729106005181650638787, 0, -3370691583943589241106785761834, 0, 1555071504496522526741476973605, 0, -672792284682598708279208627422, 0, 272911640291463294235124013189, 0, -103763120437670591559735818952, 0, 36963213384993775035164400221, 0, -12330532251477326474210266628, 0, 3849549022272799067850733055, 0, -1123910053733841920308574144, 0, 306596762817202561156914078, 0, -78068571741906989177623006, 0, 18533073156930546412767098, 0, -4096332156704351138436643, 0, 841683031839970807080302, 0, -160487505141447701234101, 0, 28339878342738513798308, 0, -4624011761274177397028, 0, 695279716241020633292, 0, -96051908578856950710, 0, 12149090187184952303, 0, -1401256755334227467, 0, 146683133544583371, 0, -13858686714918929, 0, 1174032654703941, 0, -88472570593400, 0, 5873490374918, 0, -339388451146, 0, 16808012501, 0, -699101006, 0, 23750345, 0, -632864, 0, 12404, 0, -159, 0, 1],
  [0, -10010, 0, 3868865, 0, -668810142, 0, 68931029596, 0, -4772972105187, 0, 237645350239063, 0, -8903344721976578, 0, 259482164031778338, 0, -6036507258711162866, 0, 114441675524331413649, 0, -1798553093580751939313, 0, 23770730231615705466059, 0, -267465305670575015597979, 0, 2589387555360401259321318, 0, -21769119303330073266102170, 0, 160221939925018316511585908, 0, -1039816350252316155392934298, 0, 5988481993202034388677319918, 0, -30780816395205331780028472749, 0, 141929069353930613664491661739, 0, -589787084557849769535813633568, 0, 2218016995066181770001017476538, 0, -7577479096397498778701386694138, 0, 23597754137523831646878851067677, 0, -67199549339490467382120358027823, 0, 175492159371816353523620659625120, 0, -421390805676118232846662059130270, 0, 932596128372334595424370958222935, 0, -1906525506476484897186277468987222, 0, 3607557161470787299051664913903527, 0, -6330168615038414105274696356655073, 0, 10317948676875156201568690589263611, 0, -15647031902619466273350680869698638, 0, 22108540138326778900619386186994802, 0, -29144399263911043790495418903431693, 0, 35887773583712116594535789358450623, 0, -41325560392754369402002142661474674, 0, 44546540906230062762768522279764307, 0, -44991910800551917155661179643771235, 0, 42613224038004243424533053198578355, 0, -37876684074286864322393392044598675, 0, 31616261364228084705227458626436763, 0, -24798192823571886131262525900518527, 0, 18286393074589368355107654480880971, 0, -12683249020197636651326955554893085, 0, 8277371074021761473804136298852457, 0, -5084499647955029500366875597208539, 0, 2940370589089838097002783622248412, 0, -1601134767392964869994335751838159, 0, 821049241215829302025842841543394, 0, -396496001625599044671258987566570, 0, 180309335860934954709716148748036, 0, -77207028158241807175889517547769, 0, 31122251365303405699658115682703, 0, -11807084169885248705732454887551, 0, 4214225306560506852012924608941, 0, -1414504505531717773866399372261, 0, 446241819626605424720269710019, 0, -132233189282210444804367702993, 0, 36778474036165850842482573641, 0, -9593094720781245774044331182, 0, 2344281732746003161844594986, 0, -536119130405210008926414515, 0, 114593874898585025943449140, 0, -22860435009682907615728126, 0, 4249346088514071062084059, 0, -734635716808092822480336, 0, 117875925919695403670570, 0, -17512535193839394346921, 0, 2402527466661701741834, 0, -303416941271414702147, 0, 35149636242604445325, 0, -3719884553950322123, 0, 357925287394388591, 0, -31136949034579782, 0, 2432729549264444, 0, -169346985339623, 0, 10401459895509, 0, -556900753450, 0, 25592553244, 0, -989164681, 0, 31269923, 0, -776381, 0, 14197, 0, -170, 0, 1],
  [2002, 0, -855855, 0, 165810645, 0, -19395851761, 0, 1541551518078, 0, -88911926794015, 0, 3885251346869865, 0, -132694144918463379, 0, 3628183761645599586, 0, -80973908475160381364, 0, 1499040121569086179792, 0, -23336333378993790769582, 0, 309117934336735927102207, 0, -3520096695971997596965506, 0, 34773947300216211524008822, 0, -300403393814740955454348915, 0, 2285654196785445632463324132, 0, -15415233060013961428877870932, 0, 92687797422108028432071412488, 0, -499440178207779682852344494737, 0, 2423122640006933309099654357459, 0, -10630495787417389846468116669448, 0, 42335767672463252786828933107056, 0, -153595918795311085659353738209044, 0, 509309281492245490460600038216105, 0, -1548128776243151198747595810011232, 0, 4325581002311686299590415793968494, 0, -11137473191299520346603643311809440, 0, 26487464655859364603062726446957753, 0, -58308750906360348280885242658511727, 0, 119048303449099347024008955361751564, 0, -225839394120169105608555360197956109, 0, 398743674583715735345326614804635629, 0, -656266938573709865026732800567233729, 0, 1008285183907409601183288851696837812, 0, -1448031822033621909846743944537296862, 0, 1946237504768736643411028644403576115, 0, -2450902432945627158604233418951713538, 0, 2894802452992012715471528935904708062, 0, -3209873330585848834181548955065747424, 0, 3344346517982207491784011373119633148, 0, -3276681080821506417062978974558875442, 0, 3021133980385849917667731987256335799, 0, -2623020316695132644427211529940754255, 0, 2145768254410228040077608932734204613, 0, -1654774184229340023176326772775988497, 0, 1203558197364441149109339814430017349, 0, -825921173646348937842601227168336816, 0, 534930626012857457498469139401328228, 0, -327085821885088312897516152937468099, 0, 188852788685505287849939095368639776, 0, -102978976198396470689853922167684267, 0, 53036783907688513798339345738138887, 0, -25800184767919812673238968182548689, 0, 11854199564765617742782467524647258, 0, -5143808096654454547522121135166017, 0, 2107615918691914537518214160659867, 0, -815256390497156996622643688495027, 0, 297621534431901877833324017853292, 0, -102504117074756663566777677873669, 0, 33291303432369708604801408329540, 0, -10190670367911959446351853852347, 0, 2938250941280538459370419483412, 0, -797406578887701358631400864764, 0, 203526858726269120644724469708, 0, -48810407971990375866209374501, 0, 10987445825077169333572208388, 0, -2318787870089663656908009386, 0, 458170091042554252541713613, 0, -84633604941700337205709075, 0, 14590716359936390486979160, 0, -2343164078224489368744377, 0, 349775839334225862176780, 0, -48415507863262728766082, 0, 6197137981248971137064, 0, -731218541593539054227, 0, 79248583025556353049, 0, -7856415773805100329, 0, 709015549235664807, 0, -57920939485788799, 0, 4254629190082652, 0, -278773123821804, 0, 16134521983884, 0, -814886264152, 0, 35362742497, 0, -1291983715, 0, 38645780, 0, -908774, 0, 15754, 0, -179, 0, 1],
  [0, -18018, 0, 7672665, 0, -1480202724, 0, 172384845204, 0, -13640954890420, 0, 783597033838255, 0, -34128141485508520, 0, 1163058095202979574, 0, -31781044862186197511, 0, 710207816643844037941, 0, -13194027869254220873647, 0, 206623519631037984735353, 0, -2760435366403623785878523, 0, 31788669065246804580271460, 0, -318423473383076197175966078, 0, 2796729473312996476853923246, 0, -21691550767825052979286424567, 0, 149511289009889458025170470304, 0, -921007753392770728795277559194, 0, 5096529988404688498514092491060, 0, -25451291645244733953829347318673, 0, 115181814283346692232817264340333, 0, -474184596696941708580818219337236, 0, 1781992736460621663855137744114321, 0, -6132480291733603276806367237524134, 0, 19382069533116485308305700271901366, 0, -56410130852691124237924837129111606, 0, 151556233553986238450391026089525772, 0, -376732850637240065540766387955146582, 0, 868247808887433016774209326307207349, 0, -1858844222217979610119805061034566084, 0, 3703454074690215396099471899814182086, 0, -6877860686391820684488418398395286323, 0, 11924681692331808734909831260292814390, 0, -19328699012945873197569962528283969533, 0, 29328554823592227090725191181674393671, 0, -41709817186469854998404137308008148370, 0, 55658721617707233290418591051104899585, 0, -69763147197998017936302147479476930541, 0, 82211470329913960112392299677521408986, 0, -91166414963050984948817237246681340392, 0, 95210476589627974439862866133023926318, 0, -93713788284001274522871839956471086704, 0, 86992969663951826072324381296273706434, 0, -76206569522313044188288838449732903140, 0, 63032946396520398037056443582547420347, 0, -49251968804226497351652252205707179595, 0, 36370513429489992055844586356498036097, 0, -25392762438050924699661115049011591374, 0, 16766646192792300200162896884397800211, 0, -10473112521920236503839660145642686486, 0, 6190033158679290220023189354684740946, 0, -3462333818949893569872299153571893626, 0, 1832953840886742681756070720225883744, 0, -918470456437880073762683116773213338, 0, 435622831238699627687986300898018525, 0, -195552950383472760875308228856554295, 0, 83076490554520682362104472556603940, 0, -33394744902299954376643596525328424, 0, 12698839968659537684196064131433487, 0, -4566758175959814925330743825288877, 0, 1552577184972339261746017970439933, 0, -498783714380011041867655289301767, 0, 151344103323006948542062877303134, 0, -43346964135970047020849412746436, 0, 11711176659894990501818981878370, 0, -2982358048016783740028623096982, 0, 715256427543659242482069902343, 0, -161392900516061009511106224620, 0, 34225799492525759054876205382, 0, -6812986971083232611319019876, 0, 1271277873785573304639245719, 0, -222021389713679855597811779, 0, 36228639621852409773536792, 0, -5512792447570819439144446, 0, 780562891756678537483662, 0, -102587276157494076074288, 0, 12480143034816998778288, 0, -1400911563941828731123, 0, 144575158315046733512, 0, -13660200203127459322, 0, 1175978347215051696, 0, -91719109236568629, 0, 6437628569263327, 0, -403370724619135, 0, 22342848114083, 0, -1080783754102, 0, 44954030840, 0, -1575337289, 0, 45229007, 0, -1021565, 0, 17021, 0, -186, 0, 1],
  [3003, 0, -1369368, 0, 285351066, 0, -36204607868, 0, 3146335886265, 0, -199900063962014, 0, 9684768109410625, 0, -368723253941158628, 0, 11288663456116652884, 0, -283104042268642665923, 0, 5905967099084761833279, 0, -103841298237782658542619, 0, 1556387784908948245615922, 0, -20084588089195024517428245, 0, 225131366157310743569405062, 0, -2209270728559177067907375396, 0, 19114213767560445232711576613, 0, -146725342283172194698038161704, 0, 1005017705188816776598430490246, 0, -6174565409720447732678557220975, 0, 34185434797911108839991703271632, 0, -171290581558717624687712873427203, 0, 779789552955205246954440540492642, 0, -3236851161821729275789389048566781, 0, 12291093306391628633853577781250547, 0, -42823914793513139806981391898990494, 0, 137281479905580734169772890296863493, 0, -405952394310117560440206194185398357, 0, 1109937852238006455509360074205861478, 0, -2812083429446728478826708965981439669, 0, 6615137608949166446270972840214150994, 0, -14475762837868271731833960925853872642, 0, 29518045206075229614716414123984634099, 0, -56179072919537310453529952950176186072, 0, 99942327926949170880258683074363500482, 0, -166422811929426986329723786158083430660, 0, 259730013883632487364320375727185455877, 0, -380359648245098184877530670777021755183, 0, 523249994767135335925165355398016813546, 0, -676878456245274196868091567212205520874, 0, 824156594294369243813289789769792313886, 0, -945335350659264322583774283043886572826, 0, 1022324906145864479020082147293589979124, 0, -1043134538760840023708868201103497668356, 0, 1004926922548034141537792456077239130343, 0, -914618400803361535555586379149721669362, 0, 786865099032217790560224728802792513111, 0, -640228555612089042501785584995220586476, 0, 492879046612822535111663195299393782681, 0, -359161358361548593727787024381596498777, 0, 247818588835870259483161175435143357703, 0, -161957980047524377975938673197497074222, 0, 100277278883436816631159732536397672365, 0, -58832928521641959704478324384826518169, 0, 32713024575822780625283823642227279580, 0, -17240358680545358534684971291390143582, 0, 8612289679598584334236837462615583048, 0, -4077904888806409395417031268947699777, 0, 1830116321555795948262229382472813116, 0, -778390473939887498012824065037594554, 0, 313706856053650642900471712286768588, 0, -119774454659226663927506764460800554, 0, 43311043618958670538100657076334683, 0, -14827955248119944085021446569972986, 0, 4804386425610811116077671248808936, 0, -1472532338379938055221953043260857, 0, 426703904613869694791055686537753, 0, -116829923459034585197619004374413, 0, 30202420451571431134846802123520, 0, -7366220961191110467716959057992, 0, 1693461920890182690769861899427, 0, -366605833658498991547324872966, 0, 74650127608795504665773183901, 0, -14279924850879406398006581803, 0, 2562588226200802120867329091, 0, -430736143218261760562063351, 0, 67696299355898501584122454, 0, -9928637637429169869802960, 0, 1355909211555405154381379, 0, -171993370241040131687538, 0, 20207642826166308077212, 0, -2192093154043153088840, 0, 218756361358811270716, 0, -19998705216720153702, 0, 1666762920636937768, 0, -125924143615786328, 0, 8566197801326545, 0, -520488924407987, 0, 27971537978898, 0, -1313430610858, 0, 53056862501, 0, -1806590150, 0, 50421937, 0, -1107600, 0, 17956, 0, -191, 0, 1],
  [0, -24024, 0, 10702692, 0, -2172153984, 0, 267585984094, 0, -22511978619702, 0, 1381045241951700, 0, -64474273624405010, 0, 2362191662444084841, 0, -69553036736506225471, 0, 1677793104110232961197, 0, -33693336079421654459339, 0, 571025937882821861787947, 0, -8263842999244410246040877, 0, 103174396519507762937526825, 0, -1121322991213813785718470912, 0, 10693212623489046017355876013, 0, -90109145881622673778139121959, 0, 675225336917691205798672301761, 0, -4524824130675093935171485888342, 0, 27254488981914313746567775623020, 0, -148236875235174498459008653663635, 0, 731088270725878325153050739947622, 0, -3281933009039553628237021506009300, 0, 13456850863710285802588024135520446, 0, -50558154933787271972016664157971241, 0, 174558023002083070905188981086951948, 0, -555334221955399015099993458399810692, 0, 1631957954047728286639431224395660508, 0, -4440121251785309673519310539095447726, 0, 11208015691532425861147990852694321389, 0, -26300219238896583438081872980026495375, 0, 57474255424347278280391831453920755908, 0, -117165671314572435842568734652688421436, 0, 223160757495450230840675923186005426436, 0, -397699226196833645971246399868774143795, 0, 664041912066791519380231302543147346985, 0, -1040118615963168258121846069427562521179, 0, 1530104052390052044476612149208569890243, 0, -2116302059641874142827992378280274404848, 0, 2754779469265222605565066250331840051925, 0, -3377928322410421581300748254812162941844, 0, 3905171690432903239430511960328514346253, 0, -4259896083617112708847989945601801541295, 0, 4387759970603991424428399146836521205106, 0, -4270330647213648564922149160268452142264, 0, 3929341735664657411995982453925619643612, 0, -3420256248210254997160345624615363926060, 0, 2817706554899074384473059110811036248444, 0, -2197993577855811540156361895181949502381, 0, 1624142039099238771389164113898518153833, 0, -1137209624161713249602654588008731958243, 0, 754756664235980385971514197279318064482, 0, -474934300605032338380685844669629519805, 0, 283406585550504769112268159948646254602, 0, -160400361057730797248924742775350370393, 0, 86112939061547126506026555797652227438, 0, -43855813418520787205215170971518242391, 0, 21187941275521625833316691376269493463, 0, -9710444344882182610585257496569585469, 0, 4221263229583976463897798463299368093, 0, -1740366499925370590643557813568881646, 0, 680382138438802485753876883248280078, 0, -252158774108420802254889448641052117, 0, 88567507594252852780086559126619774, 0, -29471208595489655970437593906774663, 0, 9286693450277276623612957329184318, 0, -2769817387443110892719883535113649, 0, 781491196881848249390786351886162, 0, -208450353563819929325677455603352, 0, 52525894835343302058508627408592, 0, -12493504177843026036441266531624, 0, 2802465657887856349864911928849, 0, -592243481270414638419207707821, 0, 117780046658806876052418623024, 0, -22014320909714393330916751787, 0, 3861787516308713469491684540, 0, -634800529215209110784491222, 0, 97608593083746141115601657, 0, -14011525162306355743578947, 0, 1873567693048198909993835, 0, -232787174384206464202801, 0, 26799853857212657108425, 0, -2849715925516740168020, 0, 278856707855147361113, 0, -25006217962881617964, 0, 2044982409745233962, 0, -151647199419498104, 0, 10128833776609802, 0, -604451599781679, 0, 31913494618336, 0, -1472648453844, 0, 58477688374, 0, -1957873353, 0, 53744925, 0, -1161469, 0, 18529, 0, -194, 0, 1],
  [3432, 0, -1597596, 0, 340708368, 0, -44354071762, 0, 3964768561754, 0, -259699681678892, 0, 12998359659192418, 0, -512163759787771859, 0, 16251652429426570429, 0, -422926276764781207743, 0, 9164036883318041550813, 0, -167484021709305512702517, 0, 2610924876716213670049951, 0, -35061486521305776301849371, 0, 409144260615689337055938369, 0, -4181377627948352741592007838, 0, 37687394110504681445179710576, 0, -301467977640998969208221558710, 0, 2152412342403252762652228263414, 0, -13787592920874385560381440097594, 0, 79609637291840502932500208454734, 0, -416113703920228604730588258949322, 0, 1976615095762509890273764029125200, 0, -8563423083203791567704007613248156, 0, 33947782994339882953642229724735709, 0, -123515886982266865350036483588080366, 0, 413606038949579637252227391148964563, 0, -1277954613424003498436362948715029861, 0, 3652041892337326526654805883501178972, 0, -9673824291153621596949320602933035171, 0, 23800333251937562526365980639043214188, 0, -54488703667901179022738397729903539964, 0, 116285600196514218462163240214065834645, 0, -231710014365285884068809465536928840875, 0, 431734324785305621609014667708435703400, 0, -753266437065349264583982036734770121371, 0, 1232268758410010286694149172627825023602, 0, -1892394477546855287610623053589640438989, 0, 2731207512248706964404164059671086605526, 0, -3708403602142983376947978708801651671798, 0, 4741636236560310381303384508690176356476, 0, -5714354194404072211870390228344874628530, 0, 6496257598621800468503356706263545738061, 0, -6971852218201451487701754899608175885844, 0, 7068498803550224657242259201052334926611, 0, -6774546230578261195868508455769401846156, 0, 6141336344440168538743569490130114067971, 0, -5268748419048945283286885377914813191105, 0, 4279801079825115203774313463010238793971, 0, -3293054559562124047363881985617848078320, 0, 2401041965214805025460522082893462699127, 0, -1659477431520564012299712008132297561737, 0, 1087522856184789819585026757708178052300, 0, -675935360765407626028826363369535318724, 0, 398525144359997650177533245703132220827, 0, -222922525186763210814967675235939722601, 0, 118316004762300359681640690081312646859, 0, -59586466373032075489636641379418477553, 0, 28475346022503087953011520122554066344, 0, -12911874446123494939252639910389631541, 0, 5554803221741242462170802626231022632, 0, -2266967464271435436153469014826212500, 0, 877474356594286831562303117193752532, 0, -322053285405384124022293691523129597, 0, 112044890336491395236798449695987955, 0, -36937566790752902777933654789161999, 0, 11533732610539499501235104997982967, 0, -3409425538185819708819747067116197, 0, 953576663487976567677126209096935, 0, -252181461484837522711439334650619, 0, 63014143670831258046455410729828, 0, -14865365353888391170523707865742, 0, 3307720267342536960532844426164, 0, -693512277937357358753723199885, 0, 136853884876900712083474290114, 0, -25385539744555486457712363484, 0, 4420052497132391830819882761, 0, -721264715244178900893083475, 0, 110108909350078429596438008, 0, -15694727428521487773270491, 0, 2084140762707433057056531, 0, -257193372263221964939642, 0, 29412266196768625513080, 0, -3107018216694232099115, 0, 302077887453439729068, 0, -26917180471086654302, 0, 2187568509086758131, 0, -161228788421880026, 0, 10704050088816580, 0, -635000317967438, 0, 33331327913414, 0, -1529270202760, 0, 60384049769, 0, -2010492911, 0, 54888248, 0, -1179806, 0, 18722, 0, -195, 0, 1]]
def gL (n : Nat) : List Int := tL.getD n []
def gQ (n k : Nat) : List Int := if n = 28 then tQ28.getD k [] else (tQ.getD n []).getD k []
def lettersD : D := .lst (tL.map polyD)
def chkStep (q a b r : List Int) : Bool :=
  let p := stripL (mulGo q a (List.replicate (q.length + a.length - 1) 0))
  p == stripL (mulGo q a (List.replicate (q.length + a.length + 1) 0)) && q.all sm && a.all sm && !q.isEmpty && !a.isEmpty && decide (q.length + a.length < 250) && b == b.dropLast ++ [1] && b.dropLast.all sm && decide (b.dropLast.length < 200) &&
  decide (p.length < 250) && decide (b.dropLast.length < p.length) && decide ((mulGo q a (List.replicate (q.length + a.length - 1) 0)).length < 300) && decide ((mulGo q a (List.replicate (q.length + a.length + 1) 0)).length < 300) && match divGo 300 b.dropLast.reverse p.reverse [] with
    | some (dg, rm) => dg == r && stripL dg == r && rm == List.replicate rm.length 0 && decide (dg.length < 300)
    | none => false
theorem c_steps : ((List.range 17).all fun n => (List.range n).all fun j => chkStep (gQ n j) (gL (n - 1 - j)) (gL j) (gQ n (j + 1))) = true := by decide +kernel
theorem c_steps28 : ((List.range 14).all fun j => chkStep (gQ 28 j) (gL (28 - 1 - j)) (gL j) (gQ 28 (j + 1))) = true := by decide +kernel
theorem letters_val : m__law_letters [.int 28] = .ok lettersD := isD_ok (by decide +kernel)
theorem d_steps : ((List.range 27).all fun k => isD (PM.m_p_minus [.tup (.int 0 :: (gL (k + 1)).map D.int), polyD (gL k)]) (polyD (gL (k + 2)))) = true := by decide +kernel
end K06
set_option Elab.async false
set_option linter.all false
set_option autoImplicit false
set_option maxRecDepth 1000000
set_option maxHeartbeats 4000000
set_option exponentiation.threshold 3000
namespace K06
open PySem PySem.Spec PyProof.Rows L2 DL
/-- d_polynomials(many) -/
theorem dp_wh (many : Nat) (hm : many ≤ 29) : ∀ (n k : Nat), 2 ≤ k → k ≤ 29 → 30 ≤ k + n →
    ∃ k', many ≤ k' ∧ k' ≤ 29 ∧ whileS (eB (eop2 dLt (eCall gLen (eCons (eVarV 1) eNil)) (eVar 0))) (appS 1 (eFun PM.m_p_minus (eCons (eTup (eCons (eC (.int 0)) (eStar (eop2 dIx (eVarV 1) (eNeg (eC (.int 1)))) eNil))) (eCons (eop2 dIx (eVarV 1) (eNeg (eC (.int 2)))) eNil)))) n none [.dat (.int many), .own ((tL.take k).map polyD)] = .nx [.dat (.int many), .own ((tL.take k').map polyD)] none
  | 0, k, h2, h61, hk => by omega
  | n + 1, k, h2, h61, hk => by
    have hlen : ((tL.take k).map polyD).length = k := by
      rw [List.length_map, List.length_take]
      have : tL.length = 29 := by decide +kernel
      omega
    have hc : eB (eop2 dLt (eCall gLen (eCons (eVarV 1) eNil)) (eVar 0)) none [.dat (.int many), .own ((tL.take k).map polyD)] = .ok (decide (k < many)) none := by
      refine eB_ok (eop2_ok (eCall_ok (eCons_ok (eVarV_own rfl) eNil_ok) rfl) (eVar_ok rfl) ?_)
      show some (D.bl (decide (_ < _))) = _
      rw [hlen]
      refine congrArg (fun b => some (D.bl b)) (decide_eq_decide.mpr ?_)
      omega
    by_cases z : k < many
    · rw [decide_eq_true z] at hc
      obtain ⟨k', a, b, ih⟩ := dp_wh many hm n (k + 1) (by omega) (by omega) (by omega)
      refine ⟨k', a, b, Eq.trans (whileS_go hc ?_) ih⟩
      have hk62 : tL.length = 29 := by decide +kernel
      obtain ⟨j, rfl⟩ : ∃ j, k = j + 2 := ⟨k - 2, by omega⟩
      have st := isD_ok (all_lt d_steps (i := j) (by omega))
      have get : ∀ i : Nat, tL[i]? = if i < 29 then some (gL i) else none := fun i => by
        by_cases y : i < 29
        · rw [if_pos y, List.getElem?_eq_getElem (by omega)]
          unfold gL
          rw [List.getD_eq_getElem?_getD, List.getElem?_eq_getElem (by omega)]
          rfl
        · rw [if_neg y, List.getElem?_eq_none (by omega)]
      have e2 : (tL.take (j + 2)).map polyD = (tL.take j).map polyD ++ [polyD (gL j), polyD (gL (j + 1))] := by
        rw [List.take_succ, List.take_succ, get, get, if_pos (by omega), if_pos (by omega)]
        simp
      have e3 : (tL.take (j + 3)).map polyD = (tL.take (j + 2)).map polyD ++ [polyD (gL (j + 2))] := by
        rw [List.take_succ, get, if_pos (by omega)]
        simp
      have i1 : dIx (.lst ((tL.take (j + 2)).map polyD)) (.int (-1)) = some (polyD (gL (j + 1))) := by
        show atI _ (-1) = _
        unfold atI ixN
        rw [if_neg (by decide), if_pos (by rw [hlen]; omega), hlen]
        show ((tL.take (j + 2)).map polyD)[(-1 + ((j + 2 : Nat) : Int)).toNat]? = _
        rw [show (-1 + ((j + 2 : Nat) : Int)).toNat = j + 1 by omega, e2, List.getElem?_append_right (by simp; omega)]
        simp [hk62, show min j 29 = j by omega]
      have i2 : dIx (.lst ((tL.take (j + 2)).map polyD)) (.int (-2)) = some (polyD (gL j)) := by
        show atI _ (-2) = _
        unfold atI ixN
        rw [if_neg (by decide), if_pos (by rw [hlen]; omega), hlen]
        show ((tL.take (j + 2)).map polyD)[(-2 + ((j + 2 : Nat) : Int)).toNat]? = _
        rw [show (-2 + ((j + 2 : Nat) : Int)).toNat = j by omega, e2, List.getElem?_append_right (by simp; omega)]
        simp [hk62, show min j 29 = j by omega]
      have len : (gL (j + 1)).length < 1000 := by
        have : ((List.range 29).all fun i => decide ((gL i).length < 1000)) = true := by decide +kernel
        exact of_decide_eq_true (all_lt this (i := j + 1) (by omega))
      have es : eStar (eop2 dIx (eVarV 1) (eNeg (eC (.int 1)))) eNil none [.dat (.int many), .own ((tL.take (j + 2)).map polyD)] = .ok ((gL (j + 1)).map D.int) none := by
        have e0 : eop2 dIx (eVarV 1) (eNeg (eC (.int 1))) none [.dat (.int many), .own ((tL.take (j + 2)).map polyD)] = .ok (polyD (gL (j + 1))) none := eop2_ok (eVarV_own rfl) (eNeg_ok eC_ok) i1
        unfold eStar
        refine (ebind_ok e0).trans ?_
        show ER.ok ((gL (j + 1)).map D.int ++ []) none = _
        rw [List.append_nil]
      rw [e3]
      exact appS_ok rfl (eFun_ok (eCons_ok (eTup_ok (eCons_ok eC_ok es) (by simp; omega)) (eCons_ok (eop2_ok (eVarV_own rfl) (eNeg_ok eC_ok) i2) eNil_ok)) st) (by rw [hlen]; omega)
    · rw [decide_eq_false z] at hc
      exact ⟨k, by omega, h61, whileS_stop hc⟩
theorem dpoly_ok (many : Nat) (hm : many ≤ 29) : PM.m_d_polynomials [.int many] = .ok (.lst ((tL.take many).map polyD)) := by
  unfold PM.m_d_polynomials
  refine mRun_at (w := none) (e0 := [.dat (.int many), .un]) rfl rfl ?_
  unfold PM.b_d_polynomials
  have e1 : setS 1 (eOwn (eList (eCons (eTup (eCons (eC (.int 1)) eNil)) (eCons (eTup (eCons (eC (.int 0)) (eCons (eC (.int 1)) eNil))) eNil)))) none [.dat (.int many), .un] = .nx [.dat (.int many), .own ((tL.take 2).map polyD)] none := rfl
  obtain ⟨k', a, b, e2⟩ := dp_wh many hm 300 2 (by omega) (by omega) (by omega)
  rw [sseq_nx e1]
  rw [sseq_nx e2]
  refine ret_ok (eLst_ok (eCut_ok (eVarV_own rfl) eNoPart_ok (ePart_ok (eVar_ok rfl)) ?_))
  show some (cutD _ none (some (many : Int))) = _
  have hk62 : tL.length = 29 := by decide +kernel
  have e3 : (tL.take k').map polyD = (tL.take many).map polyD ++ (tL.take k' |>.drop many).map polyD := by
    rw [← List.map_append]
    congr 1
    have := List.take_append_drop many (tL.take k')
    rw [List.take_take, Nat.min_eq_left a] at this
    exact this.symm
  rw [e3, cutD_to (by simp [hk62]; omega)]
theorem tL_len : tL.length = 29 := by decide +kernel
theorem tL_get {i : Nat} (h : i < 29) : tL[i]? = some (gL i) := by
  have := tL_len
  rw [List.getElem?_eq_getElem (by omega)]
  unfold gL
  rw [List.getD_eq_getElem?_getD, List.getElem?_eq_getElem (by omega)]
  rfl
/-- what a step gives, for the program and for the law -/
structure StepF (q a b r : List Int) : Prop where
  mul : ∃ p, PM.m_p_times [polyD q, polyD a] = .ok (polyD p) ∧ LM.m__law_p_times [polyD q, polyD a] = .ok (polyD p) ∧ PM.m_p_exact [polyD p, polyD b] = .ok (polyD r) ∧ m__law_divided [polyD p, polyD b] = .ok (.tup [.lst (r.map fD), .lst []])
theorem stepF {q a b r : List Int} (h : chkStep q a b r = true) : StepF q a b r := by
  unfold chkStep at h
  simp only [Bool.and_eq_true, decide_eq_true_eq, Bool.not_eq_true'] at h
  obtain ⟨⟨⟨⟨⟨⟨⟨⟨⟨⟨⟨⟨⟨h1, h2⟩, h3⟩, h4⟩, h5⟩, h6⟩, h7⟩, h8⟩, h9⟩, h10⟩, h11⟩, h12⟩, h13⟩, h14⟩ := h
  have h1 := eq_of_beq h1
  have h7 := eq_of_beq h7
  split at h14
  · rename_i dg rm hdiv
    simp only [Bool.and_eq_true, decide_eq_true_eq] at h14
    obtain ⟨⟨⟨g1, g2⟩, g3⟩, g4⟩ := h14
    have g1 := eq_of_beq g1
    have g2 := eq_of_beq g2
    have g3 := eq_of_beq g3
    have q0 : q ≠ [] := fun z => by rw [z] at h4; cases h4
    have a0 : a ≠ [] := fun z => by rw [z] at h5; cases h5
    refine ⟨_, pmul_ok q a h2 h3 q0 a0 h6 h12, ?_, ?_, ?_⟩
    · rw [lmul_ok q a h2 h3 a0 h6 h13, ← h1]
    · have := exact_ok _ b.dropLast dg rm h8 h9 h10 h11 hdiv g3 g4
      rw [← h7, g2] at this
      exact this
    · have := divided_ok _ b.dropLast dg rm h8 h9 h10 hdiv g3
      rw [← h7, g1] at this
      exact this
  · cases h14
def qL (n m : Nat) : List D := (List.range m).map fun j => polyD (gQ n j)
theorem qL_succ (n m : Nat) : qL n (m + 1) = qL n m ++ [polyD (gQ n m)] := by
  unfold qL
  rw [List.range_succ, List.map_append]
  rfl
theorem qL_len (n m : Nat) : (qL n m).length = m := by unfold qL; simp
theorem rangeD_succ (lo : Int) (c : Nat) : rangeD lo 1 (c + 1) = .int lo :: rangeD (lo + 1) 1 c := rfl
theorem rows_at {n i : Nat} {z : Int} (hn : n ≤ 29) (h : i < n) (hz : z = (i : Int)) : dIx (.lst ((tL.take n).map polyD)) (.int z) = some (polyD (gL i)) := by
  subst hz
  show atI _ _ = _
  unfold atI ixN
  have hl : ((tL.take n).map polyD).length = n := by rw [List.length_map, List.length_take, tL_len]; omega
  rw [if_pos (Int.natCast_nonneg _), if_pos (by rw [hl]; omega)]
  show ((tL.take n).map polyD)[i]? = _
  rw [List.getElem?_map, List.getElem?_take_of_lt h, tL_get (by omega)]
  rfl
/-- the program's loop -/
theorem qp_loop (n kk : Nat) (hn : n ≤ 28) (hk : kk ≤ n) (st : ∀ j, j < kk → StepF (gQ n j) (gL (n - 1 - j)) (gL j) (gQ n (j + 1))) : ∀ (c j : Nat) (x4 : Sl), j + c = kk → ∃ x4', loopS (tgN 4) (appS 3 (eFun PM.m_p_exact (eCons (eFun PM.m_p_times (eCons (eop2 dIx (eVarV 3) (eNeg (eC (.int 1)))) (eCons (eop2 dIx (eVarV 2) (eop2 dSub (eVar 0) (eVar 4))) eNil))) (eCons (eop2 dIx (eVarV 2) (eop2 dSub (eVar 4) (eC (.int 1)))) eNil)))) (rangeD ((j : Int) + 1) 1 c) none
    [.dat (.int n), .dat (.int kk), .dat (.lst ((tL.take n).map polyD)), .own (qL n (j + 1)), x4] = .nx [.dat (.int n), .dat (.int kk), .dat (.lst ((tL.take n).map polyD)), .own (qL n (kk + 1)), x4'] none
  | 0, j, x4, h => by
    have : j = kk := by omega
    subst this
    exact ⟨x4, rfl⟩
  | c + 1, j, x4, h => by
    obtain ⟨p, s1, s2, s3, s4⟩ := (st j (by omega)).mul
    obtain ⟨x4', ih⟩ := qp_loop n kk hn hk st c (j + 1) (.dat (.int ((j : Int) + 1))) (by omega)
    refine ⟨x4', ?_⟩
    rw [rangeD_succ]
    rw [show ((j + 1 : Nat) : Int) = (j : Int) + 1 by omega] at ih
    refine Eq.trans (loopS_go (w2 := none) (e1 := [.dat (.int n), .dat (.int kk), .dat (.lst ((tL.take n).map polyD)), .own (qL n (j + 1)), .dat (.int ((j : Int) + 1))]) rfl ?_) ih
    rw [qL_succ n (j + 1)]
    have hlast : dIx (.lst (qL n (j + 1))) (.int (-1)) = some (polyD (gQ n j)) := by rw [qL_succ]; exact last_ix
    exact appS_ok rfl (eFun_ok (eCons_ok (eFun_ok (eCons_ok (eop2_ok (eVarV_own rfl) (eNeg_ok eC_ok) hlast) (eCons_ok (eop2_ok (eVarV_ok rfl) (eop2_ok (eVar_ok rfl) (eVar_ok rfl) rfl) (rows_at (i := n - 1 - j) (by omega) (by omega) (by omega))) eNil_ok)) s1) (eCons_ok (eop2_ok (eVarV_ok rfl) (eop2_ok (eVar_ok rfl) eC_ok rfl) (rows_at (i := j) (by omega) (by omega) (by omega))) eNil_ok)) s3) (by rw [qL_len]; omega)
theorem range2_ok (k : Nat) (h : k < 1000000) : gRange2 [.int 1, .int ((k : Int) + 1)] = some (rangeD 1 1 k) := by
  unfold gRange2 in62
  have h1 : decide (-4611686018427387904 ≤ (1 : Int)) = true := by decide
  have h2 : decide ((1 : Int) < 4611686018427387904) = true := by decide
  have h3 : decide (-4611686018427387904 ≤ (k : Int) + 1) = true := decide_eq_true (by omega)
  have h4 : decide ((k : Int) + 1 < 4611686018427387904) = true := decide_eq_true (by omega)
  dsimp only
  rw [h1, h2, h3, h4]
  have e : (((k : Int) + 1) - 1).toNat = k := by omega
  show some (rangeD 1 1 (((k : Int) + 1) - 1).toNat) = _
  rw [e]
theorem gQ_zero {n : Nat} (hn : n < 17 ∨ n = 28) : gQ n 0 = [1] := by
  rcases hn with h | h
  · have : ((List.range 17).all fun n => gQ n 0 == [1]) = true := by decide +kernel
    exact eq_of_beq (all_lt this h)
  · subst h; decide +kernel
theorem qpoly_ok (n kk : Nat) (hn : n < 17 ∨ n = 28) (hk : kk ≤ n) (st : ∀ j, j < kk → StepF (gQ n j) (gL (n - 1 - j)) (gL j) (gQ n (j + 1))) : PM.m_quotient_polynomials [.int n, .int kk] = .ok (.lst (qL n (kk + 1))) := by
  unfold PM.m_quotient_polynomials
  refine mRun_at (w := none) (e0 := [.dat (.int n), .dat (.int kk), .un, .un, .un]) rfl rfl ?_
  unfold PM.b_quotient_polynomials
  have e1 : parS2 2 3 (eDat (eFun PM.m_d_polynomials (eCons (eVar 0) eNil))) (eOwn (eList (eCons (eTup (eCons (eC (.int 1)) eNil)) eNil))) none [.dat (.int n), .dat (.int kk), .un, .un, .un] = .nx [.dat (.int n), .dat (.int kk), .dat (.lst ((tL.take n).map polyD)), .own (qL n 1), .un] none := by
    have h0 : qL n 1 = [.tup [.int 1]] := by
      unfold qL
      show [polyD (gQ n 0)] = _
      rw [gQ_zero hn]
      rfl
    rw [h0]
    exact parS2_ok (eDat_ok (eFun_ok (eCons_ok (eVar_ok rfl) eNil_ok) (dpoly_ok n (by omega)))) (eOwn_ok (eList_ok (eCons_ok (eTup_ok (eCons_ok eC_ok eNil_ok) (by simp)) eNil_ok) (by simp)))
  rw [sseq_nx e1]
  obtain ⟨x4, e2⟩ := qp_loop n kk (by omega) hk st kk 0 .un (by omega)
  have e3 := (forS_of (g := tgN 4) (b := (appS 3 (eFun PM.m_p_exact (eCons (eFun PM.m_p_times (eCons (eop2 dIx (eVarV 3) (eNeg (eC (.int 1)))) (eCons (eop2 dIx (eVarV 2) (eop2 dSub (eVar 0) (eVar 4))) eNil))) (eCons (eop2 dIx (eVarV 2) (eop2 dSub (eVar 4) (eC (.int 1)))) eNil))))) (items := eCall gRange2 (eCons (eC (.int 1)) (eCons (eop2 dAdd (eVar 1) (eC (.int 1))) eNil))) (w := none) (e := [.dat (.int n), .dat (.int kk), .dat (.lst ((tL.take n).map polyD)), .own (qL n 1), .un]) (eCall_ok (eCons_ok eC_ok (eCons_ok (eop2_ok (eVar_ok rfl) eC_ok rfl) eNil_ok)) (range2_ok kk (by omega)))).trans e2
  rw [sseq_nx e3]
  refine (sseq_nx (w1 := none) (e1 := [.dat (.int n), .dat (.int kk), .dat (.lst ((tL.take n).map polyD)), .dat (.lst (qL n (kk + 1))), x4]) rfl).trans ?_
  exact ret_ok (eVar_ok rfl)
theorem letters_at {i : Nat} {z : Int} (h : i < 29) (hz : z = (i : Int)) : dIx lettersD (.int z) = some (polyD (gL i)) := by
  have := rows_at (n := 29) (Nat.le_refl _) h hz
  rwa [List.take_of_length_le (by rw [tL_len]; omega)] at this
/-- the law's loop -/
theorem lq_loop (n : Nat) (hn : n < 17) : ∀ (c j : Nat) (x3 x4 x5 x6 x7 : Sl), j + c = n → ∃ x3' x4' x5' x6' x7', loopS (tgN 3) (sseq (asgS (tgT 2 (tgCons (tgN 4) (tgCons (tgN 5) tgNil))) (eFun m__law_divided (eCons (eFun LM.m__law_p_times (eCons (eop2 dIx (eVarV 2) (eNeg (eC (.int 1)))) (eCons (eop2 dIx (eVarV 1) (eop2 dSub (eVar 0) (eVar 3))) eNil))) (eCons (eop2 dIx (eVarV 1) (eop2 dSub (eVar 3) (eC (.int 1)))) eNil))))
    (appS 2 (eIf (eAnd (eB (eop2 dEq (eVarV 5) (eLst (eList eNil)))) (eB (eop2 dEq (eLst (compE [6, 7] (eSeq (eVar 4)) (tgT 2 (tgCons (tgN 6) (tgCons (tgN 7) tgNil))) (eB (eop2 dNe (eVarV 7) (eC (.int 1)))) (eC (.int 1)))) (eLst (eList eNil))))) (eCall gTuple (eCons (eLst (compE [6, 7] (eSeq (eVar 4)) (tgT 2 (tgCons (tgN 6) (tgCons (tgN 7) tgNil))) (epure true) (eCall gInt (eCons (eVarV 6) eNil)))) eNil)) (eC .non)))) (rangeD ((j : Int) + 1) 1 c) none
    [.dat (.int n), .dat lettersD, .own (qL n (j + 1)), x3, x4, x5, x6, x7] = .nx [.dat (.int n), .dat lettersD, .own (qL n (n + 1)), x3', x4', x5', x6', x7'] none
  | 0, j, x3, x4, x5, x6, x7, h => by
    have : j = n := by omega
    subst this
    exact ⟨x3, x4, x5, x6, x7, rfl⟩
  | c + 1, j, x3, x4, x5, x6, x7, h => by
    obtain ⟨p, s1, s2, s3, s4⟩ := (stepF (all_lt (all_lt c_steps hn) (show j < n by omega))).mul
    have hlen : (gQ n (j + 1)).length < 1000 := by
      have : ((List.range 17).all fun n => (List.range 18).all fun j => decide ((gQ n j).length < 1000)) = true := by decide +kernel
      exact of_decide_eq_true (all_lt (all_lt this hn) (show j + 1 < 18 by omega))
    obtain ⟨y3, y4, y5, y6, y7, ih⟩ := lq_loop n hn c (j + 1) (.dat (.int ((j : Int) + 1))) (.dat (.lst ((gQ n (j + 1)).map fD))) (.dat (.lst [])) x6 x7 (by omega)
    refine ⟨y3, y4, y5, y6, y7, ?_⟩
    rw [rangeD_succ]
    rw [show ((j + 1 : Nat) : Int) = (j : Int) + 1 by omega] at ih
    refine Eq.trans (loopS_go (w2 := none) (e1 := [.dat (.int n), .dat lettersD, .own (qL n (j + 1)), .dat (.int ((j : Int) + 1)), x4, x5, x6, x7]) rfl ?_) ih
    have hlast : dIx (.lst (qL n (j + 1))) (.int (-1)) = some (polyD (gQ n j)) := by rw [qL_succ]; exact last_ix
    have a1 : asgS (tgT 2 (tgCons (tgN 4) (tgCons (tgN 5) tgNil))) (eFun m__law_divided (eCons (eFun LM.m__law_p_times (eCons (eop2 dIx (eVarV 2) (eNeg (eC (.int 1)))) (eCons (eop2 dIx (eVarV 1) (eop2 dSub (eVar 0) (eVar 3))) eNil))) (eCons (eop2 dIx (eVarV 1) (eop2 dSub (eVar 3) (eC (.int 1)))) eNil))) none [.dat (.int n), .dat lettersD, .own (qL n (j + 1)), .dat (.int ((j : Int) + 1)), x4, x5, x6, x7] =
        .nx [.dat (.int n), .dat lettersD, .own (qL n (j + 1)), .dat (.int ((j : Int) + 1)), .dat (.lst ((gQ n (j + 1)).map fD)), .dat (.lst []), x6, x7] none := by
      unfold asgS
      refine (sbind_ok (eFun_ok (eCons_ok (eFun_ok (eCons_ok (eop2_ok (eVarV_own rfl) (eNeg_ok eC_ok) hlast) (eCons_ok (eop2_ok (eVarV_ok rfl) (eop2_ok (eVar_ok rfl) (eVar_ok rfl) rfl) (letters_at (i := n - 1 - j) (by omega) (by omega))) eNil_ok)) s2) (eCons_ok (eop2_ok (eVarV_ok rfl) (eop2_ok (eVar_ok rfl) eC_ok rfl) (letters_at (i := j) (by omega) (by omega))) eNil_ok)) s4)).trans ?_
      rfl
    rw [sseq_nx a1, qL_succ n (j + 1)]
    have c1 : compE [6, 7] (eSeq (eVar 4)) (tgT 2 (tgCons (tgN 6) (tgCons (tgN 7) tgNil))) (eB (eop2 dNe (eVarV 7) (eC (.int 1)))) (eC (.int 1)) none [.dat (.int n), .dat lettersD, .own (qL n (j + 1)), .dat (.int ((j : Int) + 1)), .dat (.lst ((gQ n (j + 1)).map fD)), .dat (.lst []), x6, x7] = .ok [] none := by
      unfold compE
      refine (ebind_ok (eSeq_ok (eVar_ok rfl) rfl)).trans ?_
      rw [List.length_map, if_pos (by omega)]
      have key : ∀ xs : List Int, compL (tgT 2 (tgCons (tgN 6) (tgCons (tgN 7) tgNil))) (eB (eop2 dNe (eVarV 7) (eC (.int 1)))) (eC (.int 1)) (wipeE [.dat (.int n), .dat lettersD, .own (qL n (j + 1)), .dat (.int ((j : Int) + 1)), .dat (.lst ((gQ n (j + 1)).map fD)), .dat (.lst []), x6, x7] [6, 7]) (xs.map fD) none = .ok [] none := fun xs => by
        induction xs with
        | nil => rfl
        | cons x xs ih => exact (compL_ff rfl (eB_ok (eop2_ok (eVarV_ok rfl) eC_ok (dNe_int 1 1)))).trans ih
      exact key _
    have c2 : compE [6, 7] (eSeq (eVar 4)) (tgT 2 (tgCons (tgN 6) (tgCons (tgN 7) tgNil))) (epure true) (eCall gInt (eCons (eVarV 6) eNil)) none [.dat (.int n), .dat lettersD, .own (qL n (j + 1)), .dat (.int ((j : Int) + 1)), .dat (.lst ((gQ n (j + 1)).map fD)), .dat (.lst []), x6, x7] = .ok ((gQ n (j + 1)).map D.int) none :=
      compE_map (enc := fD) (h := D.int) (eSeq_ok (eVar_ok rfl) rfl) (by omega) fun a => ⟨_, rfl, rfl, eCall_ok (eCons_ok (eVarV_ok rfl) eNil_ok) rfl⟩
    exact appS_ok rfl ((eIf_t ((eAnd_t (eB_ok (eop2_ok (eVarV_ok rfl) (eLst_ok (eList_ok eNil_ok (by simp))) (dEq_nil_fD [])))).trans (eB_ok (eop2_ok (eLst_ok c1) (eLst_ok (eList_ok eNil_ok (by simp))) (dEq_nil_fD []))))).trans (eCall_ok (eCons_ok (eLst_ok c2) eNil_ok) rfl)) (by rw [qL_len]; omega)
theorem lquot_ok (n : Nat) (hn : n < 17) : m__law_quotients [.int n, lettersD] = .ok (.lst (qL n (n + 1))) := by
  unfold m__law_quotients
  refine mRun_at (w := none) (e0 := [.dat (.int n), .dat lettersD, .un, .un, .un, .un, .un, .un]) rfl rfl ?_
  unfold b__law_quotients
  have e1 : setS 2 (eOwn (eList (eCons (eTup (eCons (eC (.int 1)) eNil)) eNil))) none [.dat (.int n), .dat lettersD, .un, .un, .un, .un, .un, .un] = .nx [.dat (.int n), .dat lettersD, .own (qL n 1), .un, .un, .un, .un, .un] none := by
    have h0 : qL n 1 = [.tup [.int 1]] := by
      unfold qL
      show [polyD (gQ n 0)] = _
      rw [gQ_zero (.inl hn)]
      rfl
    rw [h0]
    rfl
  rw [sseq_nx e1]
  obtain ⟨x3, x4, x5, x6, x7, e2⟩ := lq_loop n hn n 0 .un .un .un .un .un (by omega)
  refine (sseq_nx ((forS_of (eCall_ok (eCons_ok eC_ok (eCons_ok (eop2_ok (eVar_ok rfl) eC_ok rfl) eNil_ok)) (range2_ok n (by omega)))).trans e2)).trans ?_
  refine (sseq_nx (w1 := none) (e1 := [.dat (.int n), .dat lettersD, .dat (.lst (qL n (n + 1))), x3, x4, x5, x6, x7]) rfl).trans ?_
  exact ret_ok (eVar_ok rfl)
end K06
set_option Elab.async false
set_option linter.all false
set_option autoImplicit false
set_option maxRecDepth 1000000
set_option maxHeartbeats 0
set_option exponentiation.threshold 3000
namespace K06
open PySem PySem.Spec PyProof.Rows L2 DL
def bsOf (l : Nat) : List Int := [[-1], [-2, 0], [-1, -1], [-3, 0], [1, -2, -1]].getD l []
def resOf (l : Nat) (p : List Int) : Option (List Int) := remGo 300 (bsOf l).reverse p.reverse
def rowOf (l : Nat) (p : List Int) : List Int := padR (bsOf l).length ((resOf l p).getD [])
def rowD (l : Nat) (p : List Int) : D := .tup ((rowOf l p).map fD)
def n0D (p : List Int) : D := .tup [polyD p, .tup [.int 1]]
def lv (l : Nat) : Int := (l : Int) + 3
theorem c_level : ((List.range 5).all fun l => isD (PM.m_least_told [.int (lv l)]) (polyD (bsOf l ++ [1])) && isD (LM.m__law_least [.int (lv l)]) (polyD (bsOf l ++ [1])) && isD (PM.m_need_level [.int (lv l)]) .non &&
  (bsOf l).all sm && decide ((bsOf l).length < 300) && (resOf l [0]).isSome) = true := by decide +kernel
def binN (n : Nat) : Nat → Int
  | 0 => 1
  | j + 1 => binN n j * ((n : Int) - j) / ((j : Int) + 1)
def told0 (n : Nat) : D := .tup ((List.range (n + 1)).map fun k => n0D (gQ n k))
def toldL (l n : Nat) : D := .tup ((List.range (n + 1)).map fun k => rowD l (gQ n k))
def small (l n k : Nat) : Bool := decide ((n : Int) % lv l < (k : Int) % lv l)
theorem c_nk : ((List.range 17).all fun n => (List.range (n + 1)).all fun k => isD (PM.m_need_told [.int 0, n0D (gQ n k)]) (n0D (gQ n k)) && decide (((gQ n k).length : Int) = (k : Int) * ((n : Int) - k) + 1) && gQ n k == (gQ n k).dropLast ++ [1] &&
  isB (dNe (polyD (gQ n k)) (polyD (gQ n (n - k)))) false && isD (PM.m_polynomial_at [polyD (gQ n k), .int 2]) (.int (binN n k)) && decide ((binN n k).natAbs < 2 ^ 100)) = true := by decide +kernel
theorem c_n : ((List.range 17).all fun n => isT (mSame [told0 n, told0 n]) && isB (dIn .non (.lst (qL n (n + 1)))) false && isD (PM.m_need_between [.int n, .int 0, .int 28, .str "n"]) .non && (List.range (n + 1)).all fun k => isD (PM.m_need_between [.int k, .int 0, .int n, .str "k"]) .non) = true := by decide +kernel
theorem c_lnk : ((List.range 5).all fun l => (List.range 17).all fun n => (List.range (n + 1)).all fun k => (resOf l (gQ n k)).isSome && isD (PM.m_need_told [.int (lv l), rowD l (gQ n k)]) (rowD l (gQ n k)) && isB (dEq (rowD l (gQ n k)) (rowD l [0])) (small l n k) &&
  isT (mSame [.lst [n0D (gQ n k), rowD l (gQ n k)], .lst [n0D (gQ n k), rowD l (gQ n k)]])) = true := by decide +kernel
theorem c_ln : ((List.range 5).all fun l => (List.range 17).all fun n => isT (mSame [toldL l n, toldL l n]) && ((List.range (n + 1)).all (fun k => !small l n k) == (decide ((n : Int) < lv l) || decide (((n : Int) + 1) % lv l = 0)))) = true := by decide +kernel
theorem c_28 : isD (PM.m_need_told [.int 0, n0D (gQ 28 14)]) (n0D (gQ 28 14)) && isD (PM.m_need_between [.int 28, .int 0, .int 28, .str "n"]) .non && isD (PM.m_need_between [.int 14, .int 0, .int 28, .str "k"]) .non && decide ((gQ 28 14).length = 197) && isD (PM.m_need_level [.int 0]) .non = true := by decide +kernel
end K06
set_option Elab.async false
set_option linter.all false
set_option autoImplicit false
set_option maxRecDepth 1000000
set_option maxHeartbeats 4000000
set_option exponentiation.threshold 3000
namespace K06
open PySem PySem.Spec PyProof.Rows L2 DL
structure LevelF (l : Nat) : Prop where
  told : PM.m_least_told [.int (lv l)] = .ok (polyD (bsOf l ++ [1]))
  mine : LM.m__law_least [.int (lv l)] = .ok (polyD (bsOf l ++ [1]))
  need : PM.m_need_level [.int (lv l)] = .ok .non
  sm : ∀ b ∈ bsOf l, b.natAbs < 2 ^ 400
  len : (bsOf l).length < 300
  zero : (resOf l [0]).isSome = true
theorem levelF {l : Nat} (h : l < 5) : LevelF l := by
  have q := all_lt c_level h
  simp only [Bool.and_eq_true, List.all_eq_true] at q
  obtain ⟨⟨⟨⟨⟨a1, a2⟩, a3⟩, a4⟩, a5⟩, a6⟩ := q
  exact ⟨isD_ok a1, isD_ok a2, isD_ok a3, fun b hb => sm_iff.mp (a4 b hb), of_decide_eq_true a5, a6⟩
theorem res_some {l : Nat} {p : List Int} (h : (resOf l p).isSome = true) : remGo 300 (bsOf l).reverse p.reverse = some ((resOf l p).getD []) := by
  unfold resOf at h ⊢
  cases e : remGo 300 (bsOf l).reverse p.reverse with
  | none => rw [e] at h; cases h
  | some r => rfl
theorem lv_ne (l : Nat) : lv l ≠ 0 := by unfold lv; omega
theorem nop_ok {l : Nat} {p : List Int} (hl : l < 5) (h : (resOf l p).isSome = true) : PM.m_n_of_polynomial [.int (lv l), polyD p] = .ok (rowD l p) :=
  have F := levelF hl
  n_of_polynomial_ok 300 (lv l) p (bsOf l) _ (lv_ne l) F.told F.sm (Nat.le_refl _) F.len (res_some h)
theorem lrest_ok {l : Nat} {p : List Int} (hl : l < 5) (hp : p.length < 1000000) (h : (resOf l p).isSome = true) : LM.m__law_rest [.lst (p.map fD), polyD (bsOf l ++ [1])] = .ok (rowD l p) :=
  have F := levelF hl
  law_rest_ok 300 p (bsOf l) _ F.sm (by have := F.len; omega) hp (res_some h)
theorem gQ_len {n k : Nat} (hn : n < 17) (hk : k < n + 1) : (gQ n k).length < 1000 := by
  have : ((List.range 17).all fun n => (List.range 18).all fun j => decide ((gQ n j).length < 1000)) = true := by decide +kernel
  exact of_decide_eq_true (all_lt (all_lt this hn) (show k < 18 by omega))
structure NkF (n k : Nat) : Prop where
  told : PM.m_need_told [.int 0, n0D (gQ n k)] = .ok (n0D (gQ n k))
  len : ((gQ n k).length : Int) = (k : Int) * ((n : Int) - k) + 1
  last : gQ n k = (gQ n k).dropLast ++ [1]
  turn : dNe (polyD (gQ n k)) (polyD (gQ n (n - k))) = some (.bl false)
  two : PM.m_polynomial_at [polyD (gQ n k), .int 2] = .ok (.int (binN n k))
  bin : (binN n k).natAbs < 2 ^ 100
theorem nkF {n k : Nat} (hn : n < 17) (hk : k < n + 1) : NkF n k := by
  have q := all_lt (all_lt c_nk hn) hk
  simp only [Bool.and_eq_true, decide_eq_true_eq] at q
  obtain ⟨⟨⟨⟨⟨a1, a2⟩, a3⟩, a4⟩, a5⟩, a6⟩ := q
  exact ⟨isD_ok a1, a2, eq_of_beq a3, isB_ok a4, isD_ok a5, a6⟩
structure LnkF (l n k : Nat) : Prop where
  res : (resOf l (gQ n k)).isSome = true
  told : PM.m_need_told [.int (lv l), rowD l (gQ n k)] = .ok (rowD l (gQ n k))
  zero : dEq (rowD l (gQ n k)) (rowD l [0]) = some (.bl (small l n k))
  same : mSame [.lst [n0D (gQ n k), rowD l (gQ n k)], .lst [n0D (gQ n k), rowD l (gQ n k)]] = .ok (.bl true)
theorem lnkF {l n k : Nat} (hl : l < 5) (hn : n < 17) (hk : k < n + 1) : LnkF l n k := by
  have q := all_lt (all_lt (all_lt c_lnk hl) hn) hk
  simp only [Bool.and_eq_true] at q
  obtain ⟨⟨⟨a1, a2⟩, a3⟩, a4⟩ := q
  exact ⟨a1, isD_ok a2, isB_ok a3, isT_ok a4⟩
theorem steps17 {n : Nat} (hn : n < 17) : ∀ j, j < n → StepF (gQ n j) (gL (n - 1 - j)) (gL j) (gQ n (j + 1)) := fun j hj => stepF (all_lt (all_lt c_steps hn) hj)
theorem need0 : PM.m_need_level [.int 0] = .ok .non := isD_ok (by decide +kernel)
/-- quotients(level, n) -/
theorem quotients_ok {n : Nat} {L : Int} {f : Nat → D} (hn : n < 17) (h1 : PM.m_need_level [.int L] = .ok .non) (hf : ∀ k, k < n + 1 → PM.m_n_of_polynomial [.int L, polyD (gQ n k)] = .ok (f k) ∧ PM.m_need_told [.int L, f k] = .ok (f k)) : PM.m_quotients [.int L, .int n] = .ok (.tup ((List.range (n + 1)).map f)) := by
  have q := all_lt c_n hn
  simp only [Bool.and_eq_true] at q
  unfold PM.m_quotients
  refine mRun_at (w := none) (e0 := [.dat (.int L), .dat (.int n), .un]) rfl rfl ?_
  unfold PM.b_quotients
  have e1 := expr_ok (e := [.dat (.int L), .dat (.int n), .un]) (w := none) (w1 := none) (f := eFun PM.m_need_level (eCons (eVar 0) eNil)) (eFun_ok (eCons_ok (eVar_ok rfl) eNil_ok) h1)
  have e2 := expr_ok (e := [.dat (.int L), .dat (.int n), .un]) (w := none) (w1 := none) (f := eFun PM.m_need_between (eCons (eVar 1) (eCons (eC (.int 0)) (eCons (eC (.int 28)) (eCons (eC (.str "n")) eNil))))) (eFun_ok (eCons_ok (eVar_ok rfl) (eCons_ok eC_ok (eCons_ok eC_ok (eCons_ok eC_ok eNil_ok)))) (isD_ok q.1.2))
  rw [sseq_nx e1, sseq_nx e2]
  refine ret_ok (eCall_ok (eCons_ok (eLst_ok (compE_mapM (α := Nat) (xs := List.range (n + 1)) (enc := fun k => polyD (gQ n k)) (h := f) (eSeq_ok (eFun_ok (eCons_ok (eVar_ok rfl) (eCons_ok (eVar_ok rfl) eNil_ok)) (qpoly_ok n n (.inl hn) (Nat.le_refl _) (steps17 hn))) rfl) (by simp; omega) fun k hk => ⟨_, rfl, rfl, ?_⟩)) eNil_ok) rfl)
  obtain ⟨g1, g2⟩ := hf k (List.mem_range.mp hk)
  exact eFun_ok (eCons_ok (eVar_ok rfl) (eCons_ok (eFun_ok (eCons_ok (eVar_ok rfl) (eCons_ok (eVar_ok rfl) eNil_ok)) g1) eNil_ok)) g2
theorem qL_at {n m k : Nat} {z : Int} (h : k < m) (hz : z = (k : Int)) : dIx (.lst (qL n m)) (.int z) = some (polyD (gQ n k)) := by
  subst hz
  show atI _ _ = _
  unfold atI ixN
  rw [if_pos (Int.natCast_nonneg _), if_pos (by rw [qL_len]; omega)]
  show (qL n m)[k]? = _
  unfold qL
  rw [List.getElem?_map, List.getElem?_range h]
  rfl
theorem tup_at {f : Nat → D} {m k : Nat} {z : Int} (h : k < m) (hz : z = (k : Int)) : dIx (.tup ((List.range m).map f)) (.int z) = some (f k) := by
  subst hz
  show atI _ _ = _
  unfold atI ixN
  rw [if_pos (Int.natCast_nonneg _), if_pos (by simp; omega)]
  show ((List.range m).map f)[k]? = _
  rw [List.getElem?_map, List.getElem?_range h]
  rfl
/-- quotient(level, n, k) -/
theorem quotient_ok {n k : Nat} {L : Int} {x : D} (hn : n < 17 ∨ n = 28) (hk : k ≤ n) (st : ∀ j, j < k → StepF (gQ n j) (gL (n - 1 - j)) (gL j) (gQ n (j + 1))) (h1 : PM.m_need_level [.int L] = .ok .non) (h2 : PM.m_need_between [.int n, .int 0, .int 28, .str "n"] = .ok .non) (h3 : PM.m_need_between [.int k, .int 0, .int n, .str "k"] = .ok .non)
    (hx : PM.m_n_of_polynomial [.int L, polyD (gQ n k)] = .ok x) (ht : PM.m_need_told [.int L, x] = .ok x) : PM.m_quotient [.int L, .int n, .int k] = .ok x := by
  have hq : PM.m_quotient_told [.int L, .int n, .int k] = .ok x := by
    unfold PM.m_quotient_told
    refine mRun_at (w := none) (e0 := [.dat (.int L), .dat (.int n), .dat (.int k)]) rfl rfl ?_
    unfold PM.b_quotient_told
    exact ret_ok (eFun_ok (eCons_ok (eVar_ok rfl) (eCons_ok (eop2_ok (eFun_ok (eCons_ok (eVar_ok rfl) (eCons_ok (eVar_ok rfl) eNil_ok)) (qpoly_ok n k hn hk st)) (eVarV_ok rfl) (qL_at (Nat.lt_succ_self k) rfl)) eNil_ok)) hx)
  unfold PM.m_quotient
  refine mRun_at (w := none) (e0 := [.dat (.int L), .dat (.int n), .dat (.int k)]) rfl rfl ?_
  unfold PM.b_quotient
  have e1 := expr_ok (e := [.dat (.int L), .dat (.int n), .dat (.int k)]) (w := none) (w1 := none) (f := eFun PM.m_need_level (eCons (eVar 0) eNil)) (eFun_ok (eCons_ok (eVar_ok rfl) eNil_ok) h1)
  have e2 := expr_ok (e := [.dat (.int L), .dat (.int n), .dat (.int k)]) (w := none) (w1 := none) (f := eFun PM.m_need_between (eCons (eVar 1) (eCons (eC (.int 0)) (eCons (eC (.int 28)) (eCons (eC (.str "n")) eNil))))) (eFun_ok (eCons_ok (eVar_ok rfl) (eCons_ok eC_ok (eCons_ok eC_ok (eCons_ok eC_ok eNil_ok)))) h2)
  have e3 := expr_ok (e := [.dat (.int L), .dat (.int n), .dat (.int k)]) (w := none) (w1 := none) (f := eFun PM.m_need_between (eCons (eVar 2) (eCons (eC (.int 0)) (eCons (eVar 1) (eCons (eC (.str "k")) eNil))))) (eFun_ok (eCons_ok (eVar_ok rfl) (eCons_ok eC_ok (eCons_ok (eVar_ok rfl) (eCons_ok eC_ok eNil_ok)))) h3)
  rw [sseq_nx e1, sseq_nx e2, sseq_nx e3]
  exact ret_ok (eFun_ok (eCons_ok (eVar_ok rfl) (eCons_ok (eFun_ok (eCons_ok (eVar_ok rfl) (eCons_ok (eVar_ok rfl) (eCons_ok (eVar_ok rfl) eNil_ok))) hq) eNil_ok)) ht)
theorem between_n {n : Nat} (hn : n < 17) : PM.m_need_between [.int n, .int 0, .int 28, .str "n"] = .ok .non := by
  have q := all_lt c_n hn
  simp only [Bool.and_eq_true] at q
  exact isD_ok q.1.2
theorem between_k {n k : Nat} (hn : n < 17) (hk : k < n + 1) : PM.m_need_between [.int k, .int 0, .int n, .str "k"] = .ok .non := by
  have q := all_lt c_n hn
  simp only [Bool.and_eq_true] at q
  exact isD_ok (all_lt q.2 hk)
abbrev st0 : S := (parS2 4 5 (eDat (eFunW mPick (eCons (eVar 1) (eCons (eLst (eList (eCons (eC (.int 3)) (eCons (eC (.int 4)) (eCons (eC (.int 5)) (eCons (eC (.int 6)) (eCons (eC (.int 7)) eNil))))))) eNil)))) (eDat (eFunW mPick (eCons (eVar 1) (eCons (eLst (eList (eCons (eFunW mTake (eCons (eVar 1) (eCons (eC (.int 13)) eNil))) (eCons (eFunW mTake (eCons (eVar 1) (eCons (eC (.int 17)) eNil))) eNil)))) eNil)))))
abbrev st1 : S := (asgS (tgT 2 (tgCons (tgN 6) (tgCons (tgN 7) tgNil))) (eTup (eCons (eFun LM.m__law_least (eCons (eVar 4) eNil)) (eCons (eFun m__law_quotients (eCons (eVar 5) (eCons (eVar 2) eNil))) eNil))))
abbrev st2 : S := (ifS (eOr (eB (eop2 dIn (eC .non) (eVarV 7))) (eNot (eB (eFun mSame (eCons (eFun PM.m_quotients (eCons (eC (.int 0)) (eCons (eVar 5) eNil))) (eCons (eCall gTuple (eCons (eLst (compE [10] (eSeq (eVar 7)) (tgN 10) (epure true) (eTup (eCons (eVar 10) (eCons (eTup (eCons (eC (.int 1)) eNil)) eNil))))) eNil)) eNil)))))) (sbind (eC (.bl false)) fun d => fun w _ => .rt d w) snil)
abbrev st3 : S := (setS 8 (eDat (eFun PM.m_quotients (eCons (eVar 4) (eCons (eVar 5) eNil)))))
abbrev st4 : S := (ifS (eNot (eB (eFun mSame (eCons (eVar 8) (eCons (eCall gTuple (eCons (eLst (compE [10] (eSeq (eVar 7)) (tgN 10) (epure true) (eFun LM.m__law_rest (eCons (eLst (compE [13] (eSeq (eVar 10)) (tgN 13) (epure true) (eTup (eCons (eVar 13) (eCons (eC (.int 1)) eNil))))) (eCons (eVar 6) eNil))))) eNil)) eNil))))) (sbind (eC (.bl false)) fun d => fun w _ => .rt d w) snil)
abbrev st5 : S := (forS (eCall gEnum (eCons (eVar 7) eNil)) (tgT 2 (tgCons (tgN 9) (tgCons (tgN 10) tgNil))) (sseq (ifS (eOr (eB (eop2 dNe (eCall gLen (eCons (eVarV 10) eNil)) (eop2 dAdd (eop2 dMul (eVar 9) (eop2 dSub (eVar 5) (eVar 9))) (eC (.int 1))))) (eOr (eB (eop2 dNe (eop2 dIx (eVarV 10) (eNeg (eC (.int 1)))) (eC (.int 1)))) (eB (eop2 dNe (eVarV 10) (eop2 dIx (eVarV 7) (eop2 dSub (eVar 5) (eVar 9))))))) (sbind (eC (.bl false)) fun d => fun w _ => .rt d w) snil)
    (ifS (eB (eop2 dNe (eop2 dEq (eop2 dIx (eVarV 8) (eVarV 9)) (eFun LM.m__law_whole (eCons (eC (.int 0)) (eCons (eVar 6) eNil)))) (eop2 dGt (eop2 dMod (eCall gInt (eCons (eVarV 9) eNil)) (eVar 4)) (eop2 dMod (eCall gInt (eCons (eVarV 5) eNil)) (eVar 4))))) (sbind (eC (.bl false)) fun d => fun w _ => .rt d w) snil)))
abbrev st6 : S := (ifS (eB (eop2 dNe (eop2 dEq (eLst (compE [10] (eSeq (eVar 8)) (tgN 10) (eB (eop2 dEq (eVarV 10) (eFun LM.m__law_whole (eCons (eC (.int 0)) (eCons (eVar 6) eNil))))) (eC (.int 1)))) (eLst (eList eNil))) (eOrV (eop2 dLt (eVar 5) (eVar 4)) (eop2 dEq (eop2 dMod (eCall gInt (eCons (eop2 dAdd (eVar 5) (eC (.int 1))) eNil)) (eVar 4)) (eC (.int 0)))))) (sbind (eC (.bl false)) fun d => fun w _ => .rt d w) snil)
abbrev st7 : S := (parS2 9 11 (eDat (eFunW mTake (eCons (eVar 1) (eCons (eop2 dAdd (eVar 5) (eC (.int 1))) eNil)))) (eDat (eC (.int 1))))
abbrev st8 : S := (forS (eCall gRange1 (eCons (eVar 9) eNil)) (tgN 12) (setS 11 (eDat (eop2 dDiv (eop2 dMul (eVar 11) (eop2 dSub (eVar 5) (eVar 12))) (eop2 dAdd (eVar 12) (eC (.int 1)))))))
abbrev st9 : S := (ifS (eOr (eB (eop2 dNe (eFun PM.m_polynomial_at (eCons (eop2 dIx (eVarV 7) (eVarV 9)) (eCons (eC (.int 2)) eNil))) (eVarV 11))) (eNot (eB (eFun mSame (eCons (eLst (eList (eCons (eFun PM.m_quotient (eCons (eC (.int 0)) (eCons (eVar 5) (eCons (eVar 9) eNil)))) (eCons (eFun PM.m_quotient (eCons (eVar 4) (eCons (eVar 5) (eCons (eVar 9) eNil)))) eNil)))) (eCons (eLst (eList (eCons (eTup (eCons (eop2 dIx (eVarV 7) (eVarV 9)) (eCons (eTup (eCons (eC (.int 1)) eNil)) eNil))) (eCons (eop2 dIx (eVarV 8) (eVarV 9)) eNil)))) eNil)))))) (sbind (eC (.bl false)) fun d => fun w _ => .rt d w) snil)
abbrev lapB : S := (sseq st0 (sseq st1 (sseq st2 (sseq st3 (sseq st4 (sseq st5 (sseq st6 (sseq st7 (sseq st8 st9)))))))))
abbrev kBody : S := (sseq (ifS (eOr (eB (eop2 dNe (eCall gLen (eCons (eVarV 10) eNil)) (eop2 dAdd (eop2 dMul (eVar 9) (eop2 dSub (eVar 5) (eVar 9))) (eC (.int 1))))) (eOr (eB (eop2 dNe (eop2 dIx (eVarV 10) (eNeg (eC (.int 1)))) (eC (.int 1)))) (eB (eop2 dNe (eVarV 10) (eop2 dIx (eVarV 7) (eop2 dSub (eVar 5) (eVar 9))))))) (sbind (eC (.bl false)) fun d => fun w _ => .rt d w) snil)
    (ifS (eB (eop2 dNe (eop2 dEq (eop2 dIx (eVarV 8) (eVarV 9)) (eFun LM.m__law_whole (eCons (eC (.int 0)) (eCons (eVar 6) eNil)))) (eop2 dGt (eop2 dMod (eCall gInt (eCons (eVarV 9) eNil)) (eVar 4)) (eop2 dMod (eCall gInt (eCons (eVarV 5) eNil)) (eVar 4))))) (sbind (eC (.bl false)) fun d => fun w _ => .rt d w) snil))
theorem whole0 {l : Nat} (hl : l < 5) : LM.m__law_whole [.int 0, polyD (bsOf l ++ [1])] = .ok (rowD l [0]) := by
  unfold LM.m__law_whole
  refine mRun_at (w := none) (e0 := [.dat (.int 0), .dat (polyD (bsOf l ++ [1]))]) rfl rfl ?_
  unfold LM.b__law_whole
  exact ret_ok (eFun_ok (eCons_ok (eLst_ok (eList_ok (eCons_ok (eTup_ok (eCons_ok (eVar_ok rfl) (eCons_ok eC_ok eNil_ok)) (by simp)) eNil_ok) (by simp))) (eCons_ok (eVar_ok rfl) eNil_ok)) (lrest_ok (p := [0]) hl (by simp) (levelF hl).zero))
theorem mod_lv {l : Nat} (z : Int) : dMod (.int z) (.int (lv l)) = some (.int (z % lv l)) := by
  unfold dMod
  dsimp only
  rw [if_pos (by unfold lv; omega)]
theorem k_loop (w : Wo) (s0 x3 x11 x12 x13 : Sl) {l n : Nat} (hl : l < 5) (hn : n < 17) : ∀ (c j : Nat) (x9 x10 : Sl), j + c = n + 1 → ∃ x9' x10', loopS (tgT 2 (tgCons (tgN 9) (tgCons (tgN 10) tgNil))) kBody (enumD j ((List.range' j c).map fun k => polyD (gQ n k))) w [s0, .dat .drw, .dat lettersD, x3, .dat (.int (lv l)), .dat (.int n), .dat (polyD (bsOf l ++ [1])), .dat (.lst (qL n (n + 1))), .dat (toldL l n), x9, x10, x11, x12, x13] = .nx [s0, .dat .drw, .dat lettersD, x3, .dat (.int (lv l)), .dat (.int n), .dat (polyD (bsOf l ++ [1])), .dat (.lst (qL n (n + 1))), .dat (toldL l n), x9', x10', x11, x12, x13] w
  | 0, j, x9, x10, _ => ⟨x9, x10, rfl⟩
  | c + 1, j, x9, x10, h => by
    have F := nkF hn (show j < n + 1 by omega)
    have G := lnkF hl hn (show j < n + 1 by omega)
    obtain ⟨x9', x10', ih⟩ := k_loop w s0 x3 x11 x12 x13 hl hn c (j + 1) (.dat (.int j)) (.dat (polyD (gQ n j))) (by omega)
    refine ⟨x9', x10', ?_⟩
    rw [List.range'_succ]
    show loopS _ _ (.tup [.int (j : Nat), polyD (gQ n j)] :: enumD (j + 1) _) w _ = _
    refine Eq.trans (loopS_go (w2 := w) (e1 := [s0, .dat .drw, .dat lettersD, x3, .dat (.int (lv l)), .dat (.int n), .dat (polyD (bsOf l ++ [1])), .dat (.lst (qL n (n + 1))), .dat (toldL l n), .dat (.int j), .dat (polyD (gQ n j)), x11, x12, x13]) rfl ?_) ih
    have hlen : gLen [polyD (gQ n j)] = some (.int ((gQ n j).length : Nat)) := by show some (D.int _) = _; rw [List.length_map]
    have hmul : dMul (.int (j : Int)) (.int ((n : Int) - j)) = some (.int ((j : Int) * ((n : Int) - j))) := by
      unfold dMul
      dsimp only
      rw [mulFits_of 10 10 (by omega) (by omega) (by decide) (by decide) (by decide), if_pos rfl]
    have hne : dNe (.int ((gQ n j).length : Nat)) (.int ((j : Int) * ((n : Int) - j) + 1)) = some (.bl false) := by
      rw [dNe_int, decide_eq_true F.len]
      rfl
    have hlast : dIx (polyD (gQ n j)) (.int (-1)) = some (.int 1) := by
      have e : (gQ n j).map D.int = (gQ n j).dropLast.map D.int ++ [D.int 1] := by
        have := congrArg (List.map D.int) F.last
        rw [List.map_append] at this
        exact this
      unfold polyD
      rw [e]
      exact last_ixT
    have hsz : (n : Int) - j = ((n - j : Nat) : Int) := by omega
    have i1 : ifS (eOr (eB (eop2 dNe (eCall gLen (eCons (eVarV 10) eNil)) (eop2 dAdd (eop2 dMul (eVar 9) (eop2 dSub (eVar 5) (eVar 9))) (eC (.int 1))))) (eOr (eB (eop2 dNe (eop2 dIx (eVarV 10) (eNeg (eC (.int 1)))) (eC (.int 1)))) (eB (eop2 dNe (eVarV 10) (eop2 dIx (eVarV 7) (eop2 dSub (eVar 5) (eVar 9))))))) (sbind (eC (.bl false)) fun d => fun w _ => .rt d w) snil w [s0, .dat .drw, .dat lettersD, x3, .dat (.int (lv l)), .dat (.int n), .dat (polyD (bsOf l ++ [1])), .dat (.lst (qL n (n + 1))), .dat (toldL l n), .dat (.int j), .dat (polyD (gQ n j)), x11, x12, x13] = .nx [s0, .dat .drw, .dat lettersD, x3, .dat (.int (lv l)), .dat (.int n), .dat (polyD (bsOf l ++ [1])), .dat (.lst (qL n (n + 1))), .dat (toldL l n), .dat (.int j), .dat (polyD (gQ n j)), x11, x12, x13] w :=
      (ifS_f ((eOr_f (eB_ok (eop2_ok (eCall_ok (eCons_ok (eVarV_ok rfl) eNil_ok) hlen) (eop2_ok (eop2_ok (eVar_ok rfl) (eop2_ok (eVar_ok rfl) (eVar_ok rfl) rfl) hmul) eC_ok rfl) hne))).trans ((eOr_f (eB_ok (eop2_ok (eop2_ok (eVarV_ok rfl) (eNeg_ok eC_ok) hlast) eC_ok (dNe_int 1 1)))).trans (eB_ok (eop2_ok (eVarV_ok rfl) (eop2_ok (eVarV_ok rfl) (eop2_ok (eVar_ok rfl) (eVar_ok rfl) rfl) (qL_at (k := n - j) (by omega) hsz)) F.turn))))).trans rfl
    refine (sseq_nx i1).trans ?_
    exact (ifS_f (eB_ok (eop2_ok (eop2_ok (eop2_ok (eVarV_ok rfl) (eVarV_ok rfl) (tup_at (show j < n + 1 by omega) rfl)) (eFun_ok (eCons_ok eC_ok (eCons_ok (eVar_ok rfl) eNil_ok)) (whole0 hl)) G.zero) (eop2_ok (eop2_ok (eCall_ok (eCons_ok (eVarV_ok rfl) eNil_ok) rfl) (eVar_ok rfl) (mod_lv _)) (eop2_ok (eCall_ok (eCons_ok (eVarV_ok rfl) eNil_ok) rfl) (eVar_ok rfl) (mod_lv _)) rfl) (dNe_ff _)))).trans rfl
theorem bin_loop (w : Wo) (s0 x3 x4 x6 x7 x8 x9 x10 x13 : Sl) {n t : Nat} (hn : n < 17) (ht : t < n + 1) : ∀ (c j : Nat) (x12 : Sl), j + c = t → ∃ x12', loopS (tgN 12) (setS 11 (eDat (eop2 dDiv (eop2 dMul (eVar 11) (eop2 dSub (eVar 5) (eVar 12))) (eop2 dAdd (eVar 12) (eC (.int 1)))))) (rangeD (j : Int) 1 c) w
    [s0, .dat .drw, .dat lettersD, x3, x4, .dat (.int n), x6, x7, x8, x9, x10, .dat (.int (binN n j)), x12, x13] = .nx [s0, .dat .drw, .dat lettersD, x3, x4, .dat (.int n), x6, x7, x8, x9, x10, .dat (.int (binN n t)), x12', x13] w
  | 0, j, x12, h => by
    have : j = t := by omega
    subst this
    exact ⟨x12, rfl⟩
  | c + 1, j, x12, h => by
    have F := nkF hn (show j < n + 1 by omega)
    obtain ⟨x12', ih⟩ := bin_loop w s0 x3 x4 x6 x7 x8 x9 x10 x13 hn ht c (j + 1) (.dat (.int j)) (by omega)
    refine ⟨x12', ?_⟩
    rw [rangeD_succ]
    rw [show ((j + 1 : Nat) : Int) = (j : Int) + 1 by omega] at ih
    refine Eq.trans (loopS_go (w2 := w) (e1 := [s0, .dat .drw, .dat lettersD, x3, x4, .dat (.int n), x6, x7, x8, x9, x10, .dat (.int (binN n j)), .dat (.int j), x13]) rfl ?_) ih
    have hmul : dMul (.int (binN n j)) (.int ((n : Int) - j)) = some (.int (binN n j * ((n : Int) - j))) := by
      unfold dMul
      dsimp only
      rw [mulFits_of 100 10 F.bin (by omega) (by decide) (by decide) (by decide), if_pos rfl]
    have hdiv : dDiv (.int (binN n j * ((n : Int) - j))) (.int ((j : Int) + 1)) = some (.int (binN n (j + 1))) := by
      unfold dDiv divFits
      dsimp only
      have h1 : decide (0 < (j : Int) + 1) = true := decide_eq_true (by omega)
      have h2 : decide (((j : Int) + 1).natAbs.log2 < 9000) = true := decide_eq_true (by have := log2_lt_of (n := ((j : Int) + 1).natAbs) (k := 10) (by omega) (by decide); omega)
      rw [h1, h2]
      rfl
    exact setS_ok (eDat_ok (eop2_ok (eop2_ok (eVar_ok rfl) (eop2_ok (eVar_ok rfl) (eVar_ok rfl) rfl) hmul) (eop2_ok (eVar_ok rfl) eC_ok rfl) hdiv))
theorem toldL_val (l n : Nat) : toldL l n = .tup ((List.range (n + 1)).map fun k => rowD l (gQ n k)) := rfl
theorem lap_ok (s0 x3 x4 x5 x6 x7 x8 x9 x10 x11 x12 x13 : Sl) {k : Int} {d : Dr} (h : DrI k d) (hk : k < 100000) : ∃ (d' : Dr) (y4 y5 y6 y7 y8 y9 y10 y11 y12 y13 : Sl), DrI (k + 5) d' ∧
    lapB (some d) [s0, .dat .drw, .dat lettersD, x3, x4, x5, x6, x7, x8, x9, x10, x11, x12, x13] = .nx [s0, .dat .drw, .dat lettersD, x3, y4, y5, y6, y7, y8, y9, y10, y11, y12, y13] (some d') := by
  obtain ⟨X, d1, hX, h1, e1⟩ := pick_ok (xs := [.int 3, .int 4, .int 5, .int 6, .int 7]) h (by omega) (by simp) (by simp) true
  obtain ⟨l, hl, rfl⟩ : ∃ l, l < 5 ∧ X = .int (lv l) := by
    simp only [List.mem_cons, List.mem_nil_iff, or_false] at hX
    rcases hX with rfl | rfl | rfl | rfl | rfl
    · exact ⟨0, by decide, rfl⟩
    · exact ⟨1, by decide, rfl⟩
    · exact ⟨2, by decide, rfl⟩
    · exact ⟨3, by decide, rfl⟩
    · exact ⟨4, by decide, rfl⟩
  obtain ⟨n1, d2, hn1, h2, e2⟩ := take_nat 13 h1 (by omega) (by decide) (by decide)
  obtain ⟨n2, d3, hn2, h3, e3⟩ := take_nat 17 h2 (by omega) (by decide) (by decide)
  obtain ⟨Y, d4, hY, h4, e4⟩ := pick_ok (xs := [.int n1, .int n2]) h3 (by omega) (by simp) (by simp) true
  obtain ⟨n, hn, rfl⟩ : ∃ n : Nat, n < 17 ∧ Y = .int n := by
    simp only [List.mem_cons, List.mem_nil_iff, or_false] at hY
    rcases hY with rfl | rfl
    · exact ⟨n1, by omega, rfl⟩
    · exact ⟨n2, hn2, rfl⟩
  have LF := levelF hl
  have s_0 : st0 (some d) [s0, .dat .drw, .dat lettersD, x3, x4, x5, x6, x7, x8, x9, x10, x11, x12, x13] = .nx [s0, .dat .drw, .dat lettersD, x3, .dat (.int (lv l)), .dat (.int n), x6, x7, x8, x9, x10, x11, x12, x13] (some d4) := parS2_ok (eDat_ok (eFunW_ok (eCons_ok (eVar_ok rfl) (eCons_ok (eLst_ok (eList_ok (eCons_ok eC_ok (eCons_ok eC_ok (eCons_ok eC_ok (eCons_ok eC_ok (eCons_ok eC_ok eNil_ok))))) (by simp))) eNil_ok)) e1)) (eDat_ok (eFunW_ok (eCons_ok (eVar_ok rfl) (eCons_ok (eLst_ok (eList_ok (eCons_ok (eFunW_ok (eCons_ok (eVar_ok rfl) (eCons_ok eC_ok eNil_ok)) e2) (eCons_ok (eFunW_ok (eCons_ok (eVar_ok rfl) (eCons_ok eC_ok eNil_ok)) e3) eNil_ok)) (by simp))) eNil_ok)) e4))
  have s_1 : st1 (some d4) [s0, .dat .drw, .dat lettersD, x3, .dat (.int (lv l)), .dat (.int n), x6, x7, x8, x9, x10, x11, x12, x13] = .nx [s0, .dat .drw, .dat lettersD, x3, .dat (.int (lv l)), .dat (.int n), .dat (polyD (bsOf l ++ [1])), .dat (.lst (qL n (n + 1))), x8, x9, x10, x11, x12, x13] (some d4) := by
    unfold st1 asgS
    refine (sbind_ok (eTup_ok (eCons_ok (eFun_ok (eCons_ok (eVar_ok rfl) eNil_ok) LF.mine) (eCons_ok (eFun_ok (eCons_ok (eVar_ok rfl) (eCons_ok (eVar_ok rfl) eNil_ok)) (lquot_ok n hn)) eNil_ok)) (by simp))).trans ?_
    rfl
  have qn := all_lt c_n hn
  simp only [Bool.and_eq_true] at qn
  have quo0 : PM.m_quotients [.int 0, .int n] = .ok (told0 n) := quotients_ok (f := fun k => n0D (gQ n k)) hn need0 fun k hk => ⟨n_of_polynomial_zero _, (nkF hn hk).told⟩
  have quoL : PM.m_quotients [.int (lv l), .int n] = .ok (toldL l n) := quotients_ok (f := fun k => rowD l (gQ n k)) hn LF.need fun k hk => ⟨nop_ok hl (lnkF hl hn hk).res, (lnkF hl hn hk).told⟩
  have s_2 : st2 (some d4) [s0, .dat .drw, .dat lettersD, x3, .dat (.int (lv l)), .dat (.int n), .dat (polyD (bsOf l ++ [1])), .dat (.lst (qL n (n + 1))), x8, x9, x10, x11, x12, x13] = .nx [s0, .dat .drw, .dat lettersD, x3, .dat (.int (lv l)), .dat (.int n), .dat (polyD (bsOf l ++ [1])), .dat (.lst (qL n (n + 1))), x8, x9, x10, x11, x12, x13] (some d4) := (ifS_f ((eOr_f (eB_ok (eop2_ok eC_ok (eVarV_ok rfl) (isB_ok qn.1.1.2)))).trans (eNot_ok (b := true) (eB_ok (eFun_ok (eCons_ok (eFun_ok (eCons_ok eC_ok (eCons_ok (eVar_ok rfl) eNil_ok)) quo0) (eCons_ok (eCall_ok (eCons_ok (eLst_ok (compE_mapM (α := Nat) (xs := List.range (n + 1)) (enc := fun k => polyD (gQ n k)) (h := fun k => n0D (gQ n k)) (eSeq_ok (eVar_ok rfl) rfl) (by simp; omega) fun k hk => ⟨_, rfl, rfl, eTup_ok (eCons_ok (eVar_ok rfl) (eCons_ok (eTup_ok (eCons_ok eC_ok eNil_ok) (by simp)) eNil_ok)) (by simp)⟩)) eNil_ok) rfl) eNil_ok)) (isT_ok qn.1.1.1)))))).trans rfl
  have s_3 : st3 (some d4) [s0, .dat .drw, .dat lettersD, x3, .dat (.int (lv l)), .dat (.int n), .dat (polyD (bsOf l ++ [1])), .dat (.lst (qL n (n + 1))), x8, x9, x10, x11, x12, x13] = .nx [s0, .dat .drw, .dat lettersD, x3, .dat (.int (lv l)), .dat (.int n), .dat (polyD (bsOf l ++ [1])), .dat (.lst (qL n (n + 1))), .dat (toldL l n), x9, x10, x11, x12, x13] (some d4) := setS_ok (eDat_ok (eFun_ok (eCons_ok (eVar_ok rfl) (eCons_ok (eVar_ok rfl) eNil_ok)) quoL))
  have ql := all_lt (all_lt c_ln hl) hn
  simp only [Bool.and_eq_true] at ql
  have s_4 : st4 (some d4) [s0, .dat .drw, .dat lettersD, x3, .dat (.int (lv l)), .dat (.int n), .dat (polyD (bsOf l ++ [1])), .dat (.lst (qL n (n + 1))), .dat (toldL l n), x9, x10, x11, x12, x13] = .nx [s0, .dat .drw, .dat lettersD, x3, .dat (.int (lv l)), .dat (.int n), .dat (polyD (bsOf l ++ [1])), .dat (.lst (qL n (n + 1))), .dat (toldL l n), x9, x10, x11, x12, x13] (some d4) := (ifS_f (eNot_ok (b := true) (eB_ok (eFun_ok (eCons_ok (eVar_ok rfl) (eCons_ok (eCall_ok (eCons_ok (eLst_ok (compE_mapM (α := Nat) (xs := List.range (n + 1)) (enc := fun k => polyD (gQ n k)) (h := fun k => rowD l (gQ n k)) (eSeq_ok (eVar_ok rfl) rfl) (by simp; omega) fun k hk => ⟨_, rfl, rfl, eFun_ok (eCons_ok (eLst_ok (compE_map (xs := gQ n k) (enc := D.int) (h := fD) (eSeq_ok (eVar_ok rfl) rfl) (by have := gQ_len hn (List.mem_range.mp hk); omega) (fun a => ⟨_, rfl, rfl, eTup_ok (eCons_ok (eVar_ok rfl) (eCons_ok eC_ok eNil_ok)) (by simp)⟩))) (eCons_ok (eVar_ok rfl) eNil_ok)) (lrest_ok hl (by have := gQ_len hn (List.mem_range.mp hk); omega) (lnkF hl hn (List.mem_range.mp hk)).res)⟩)) eNil_ok) rfl) eNil_ok)) (isT_ok ql.1))))).trans rfl
  obtain ⟨x9', x10', e5⟩ := k_loop (some d4) s0 x3 x11 x12 x13 hl hn (n + 1) 0 x9 x10 (by omega)
  have s_5 : st5 (some d4) [s0, .dat .drw, .dat lettersD, x3, .dat (.int (lv l)), .dat (.int n), .dat (polyD (bsOf l ++ [1])), .dat (.lst (qL n (n + 1))), .dat (toldL l n), x9, x10, x11, x12, x13] = .nx [s0, .dat .drw, .dat lettersD, x3, .dat (.int (lv l)), .dat (.int n), .dat (polyD (bsOf l ++ [1])), .dat (.lst (qL n (n + 1))), .dat (toldL l n), x9', x10', x11, x12, x13] (some d4) := by
    refine (forS_of (eCall_ok (eCons_ok (eVar_ok rfl) eNil_ok) (a := enumD 0 (qL n (n + 1))) rfl)).trans ?_
    rw [← List.range_eq_range'] at e5
    exact e5
  have c6 : ∃ m : Nat, compE [10] (eSeq (eVar 8)) (tgN 10) (eB (eop2 dEq (eVarV 10) (eFun LM.m__law_whole (eCons (eC (.int 0)) (eCons (eVar 6) eNil))))) (eC (.int 1)) (some d4) [s0, .dat .drw, .dat lettersD, x3, .dat (.int (lv l)), .dat (.int n), .dat (polyD (bsOf l ++ [1])), .dat (.lst (qL n (n + 1))), .dat (toldL l n), x9', x10', x11, x12, x13] = .ok ((List.replicate m (1 : Int)).map D.int) (some d4) ∧ (List.replicate m (1 : Int)).isEmpty = (List.range (n + 1)).all fun k => !small l n k := by
    have key : ∀ ks : List Nat, (∀ k ∈ ks, k < n + 1) → ∃ m : Nat, compL (tgN 10) (eB (eop2 dEq (eVarV 10) (eFun LM.m__law_whole (eCons (eC (.int 0)) (eCons (eVar 6) eNil))))) (eC (.int 1)) (wipeE [s0, .dat .drw, .dat lettersD, x3, .dat (.int (lv l)), .dat (.int n), .dat (polyD (bsOf l ++ [1])), .dat (.lst (qL n (n + 1))), .dat (toldL l n), x9', x10', x11, x12, x13] [10]) (ks.map fun k => rowD l (gQ n k)) (some d4) = .ok ((List.replicate m (1 : Int)).map D.int) (some d4) ∧ (List.replicate m (1 : Int)).isEmpty = ks.all fun k => !small l n k := fun ks => by
      induction ks with
      | nil => intro _; exact ⟨0, rfl, rfl⟩
      | cons k ks ih =>
        intro hks
        obtain ⟨m, g1, g2⟩ := ih fun z hz => hks z (List.mem_cons_of_mem _ hz)
        have ez := (lnkF hl hn (hks k List.mem_cons_self)).zero
        cases hb : small l n k with
        | true =>
          rw [hb] at ez
          refine ⟨m + 1, ?_, by simp [hb]⟩
          rw [List.replicate_succ, List.map_cons, List.map_cons]
          exact compL_tt rfl (eB_ok (eop2_ok (eVarV_ok rfl) (eFun_ok (eCons_ok eC_ok (eCons_ok (eVar_ok rfl) eNil_ok)) (whole0 hl)) ez)) rfl g1
        | false =>
          rw [hb] at ez
          refine ⟨m, ?_, by rw [g2]; simp [hb]⟩
          rw [List.map_cons]
          exact (compL_ff rfl (eB_ok (eop2_ok (eVarV_ok rfl) (eFun_ok (eCons_ok eC_ok (eCons_ok (eVar_ok rfl) eNil_ok)) (whole0 hl)) ez))).trans g1
    obtain ⟨m, g1, g2⟩ := key (List.range (n + 1)) fun k hk => List.mem_range.mp hk
    refine ⟨m, ?_, g2⟩
    unfold compE
    refine (ebind_ok (eSeq_ok (eVar_ok rfl) rfl)).trans ?_
    rw [List.length_map, if_pos (by simp; omega)]
    exact g1
  obtain ⟨m6, c6, c7⟩ := c6
  have hb7 := eq_of_beq ql.2
  rw [← c7] at hb7
  have hnil : dEq (.lst ((List.replicate m6 (1 : Int)).map D.int)) (.lst []) = some (.bl (List.replicate m6 (1 : Int)).isEmpty) := by
    unfold dEq
    rw [eqPy_nilL (pys_ints _) (lay_ints _)]
    cases m6 <;> rfl
  have hor : eOrV (eop2 dLt (eVar 5) (eVar 4)) (eop2 dEq (eop2 dMod (eCall gInt (eCons (eop2 dAdd (eVar 5) (eC (.int 1))) eNil)) (eVar 4)) (eC (.int 0))) (some d4) [s0, .dat .drw, .dat lettersD, x3, .dat (.int (lv l)), .dat (.int n), .dat (polyD (bsOf l ++ [1])), .dat (.lst (qL n (n + 1))), .dat (toldL l n), x9', x10', x11, x12, x13] = .ok (.bl (decide ((n : Int) < lv l) || decide (((n : Int) + 1) % lv l = 0))) (some d4) := by
    have a1 : eop2 dLt (eVar 5) (eVar 4) (some d4) [s0, .dat .drw, .dat lettersD, x3, .dat (.int (lv l)), .dat (.int n), .dat (polyD (bsOf l ++ [1])), .dat (.lst (qL n (n + 1))), .dat (toldL l n), x9', x10', x11, x12, x13] = .ok (.bl (decide ((n : Int) < lv l))) (some d4) := eop2_ok (eVar_ok rfl) (eVar_ok rfl) rfl
    have a2 : eop2 dEq (eop2 dMod (eCall gInt (eCons (eop2 dAdd (eVar 5) (eC (.int 1))) eNil)) (eVar 4)) (eC (.int 0)) (some d4) [s0, .dat .drw, .dat lettersD, x3, .dat (.int (lv l)), .dat (.int n), .dat (polyD (bsOf l ++ [1])), .dat (.lst (qL n (n + 1))), .dat (toldL l n), x9', x10', x11, x12, x13] = .ok (.bl (decide (((n : Int) + 1) % lv l = 0))) (some d4) := eop2_ok (eop2_ok (eCall_ok (eCons_ok (eop2_ok (eVar_ok rfl) eC_ok rfl) eNil_ok) rfl) (eVar_ok rfl) (mod_lv _)) eC_ok (dEq_int _ _)
    unfold eOrV
    refine (ebind_ok a1).trans ?_
    cases hd : decide ((n : Int) < lv l) with
    | true => rfl
    | false => exact a2
  rw [← hb7] at hor
  have s_6 : st6 (some d4) [s0, .dat .drw, .dat lettersD, x3, .dat (.int (lv l)), .dat (.int n), .dat (polyD (bsOf l ++ [1])), .dat (.lst (qL n (n + 1))), .dat (toldL l n), x9', x10', x11, x12, x13] = .nx [s0, .dat .drw, .dat lettersD, x3, .dat (.int (lv l)), .dat (.int n), .dat (polyD (bsOf l ++ [1])), .dat (.lst (qL n (n + 1))), .dat (toldL l n), x9', x10', x11, x12, x13] (some d4) := (ifS_f (eB_ok (eop2_ok (eop2_ok (eLst_ok c6) (eLst_ok (eList_ok eNil_ok (by simp))) hnil) hor (dNe_ff _)))).trans rfl
  obtain ⟨kk, d5, hkk, h5, e7⟩ := take_nat (n + 1) h4 (by omega) (by omega) (by omega)
  have s_7 : st7 (some d4) [s0, .dat .drw, .dat lettersD, x3, .dat (.int (lv l)), .dat (.int n), .dat (polyD (bsOf l ++ [1])), .dat (.lst (qL n (n + 1))), .dat (toldL l n), x9', x10', x11, x12, x13] = .nx [s0, .dat .drw, .dat lettersD, x3, .dat (.int (lv l)), .dat (.int n), .dat (polyD (bsOf l ++ [1])), .dat (.lst (qL n (n + 1))), .dat (toldL l n), .dat (.int kk), x10', .dat (.int (binN n 0)), x12, x13] (some d5) := parS2_ok (eDat_ok (eFunW_ok (eCons_ok (eVar_ok rfl) (eCons_ok (eop2_ok (eVar_ok rfl) eC_ok (rfl : dAdd (.int (n : Int)) (.int 1) = some (.int ((n + 1 : Nat) : Int)))) eNil_ok)) e7)) (eDat_ok eC_ok)
  obtain ⟨x12', e8⟩ := bin_loop (some d5) s0 x3 (.dat (.int (lv l))) (.dat (polyD (bsOf l ++ [1]))) (.dat (.lst (qL n (n + 1)))) (.dat (toldL l n)) (.dat (.int kk)) x10' x13 hn hkk kk 0 x12 (by omega)
  have s_8 : st8 (some d5) [s0, .dat .drw, .dat lettersD, x3, .dat (.int (lv l)), .dat (.int n), .dat (polyD (bsOf l ++ [1])), .dat (.lst (qL n (n + 1))), .dat (toldL l n), .dat (.int kk), x10', .dat (.int (binN n 0)), x12, x13] = .nx [s0, .dat .drw, .dat lettersD, x3, .dat (.int (lv l)), .dat (.int n), .dat (polyD (bsOf l ++ [1])), .dat (.lst (qL n (n + 1))), .dat (toldL l n), .dat (.int kk), x10', .dat (.int (binN n kk)), x12', x13] (some d5) := (forS_of (eCall_ok (eCons_ok (eVar_ok rfl) eNil_ok) (range1_ok kk (by omega)))).trans e8
  have F := nkF hn hkk
  have G := lnkF hl hn hkk
  have q0 : PM.m_quotient [.int 0, .int n, .int kk] = .ok (n0D (gQ n kk)) := quotient_ok (.inl hn) (by omega) (fun j hj => steps17 hn j (by omega)) need0 (between_n hn) (between_k hn hkk) (n_of_polynomial_zero _) F.told
  have qL' : PM.m_quotient [.int (lv l), .int n, .int kk] = .ok (rowD l (gQ n kk)) := quotient_ok (.inl hn) (by omega) (fun j hj => steps17 hn j (by omega)) LF.need (between_n hn) (between_k hn hkk) (nop_ok hl G.res) G.told
  have dq : ∀ i : Int, dNe (.int i) (.int i) = some (.bl false) := fun i => by rw [dNe_int, decide_eq_true rfl]; rfl
  have s_9 : st9 (some d5) [s0, .dat .drw, .dat lettersD, x3, .dat (.int (lv l)), .dat (.int n), .dat (polyD (bsOf l ++ [1])), .dat (.lst (qL n (n + 1))), .dat (toldL l n), .dat (.int kk), x10', .dat (.int (binN n kk)), x12', x13] = .nx [s0, .dat .drw, .dat lettersD, x3, .dat (.int (lv l)), .dat (.int n), .dat (polyD (bsOf l ++ [1])), .dat (.lst (qL n (n + 1))), .dat (toldL l n), .dat (.int kk), x10', .dat (.int (binN n kk)), x12', x13] (some d5) := (ifS_f ((eOr_f (eB_ok (eop2_ok (eFun_ok (eCons_ok (eop2_ok (eVarV_ok rfl) (eVarV_ok rfl) (qL_at hkk rfl)) (eCons_ok eC_ok eNil_ok)) F.two) (eVarV_ok rfl) (dq _)))).trans (eNot_ok (b := true) (eB_ok (eFun_ok (eCons_ok (eLst_ok (eList_ok (eCons_ok (eFun_ok (eCons_ok eC_ok (eCons_ok (eVar_ok rfl) (eCons_ok (eVar_ok rfl) eNil_ok))) q0) (eCons_ok (eFun_ok (eCons_ok (eVar_ok rfl) (eCons_ok (eVar_ok rfl) (eCons_ok (eVar_ok rfl) eNil_ok))) qL') eNil_ok)) (by simp))) (eCons_ok (eLst_ok (eList_ok (eCons_ok (eTup_ok (eCons_ok (eop2_ok (eVarV_ok rfl) (eVarV_ok rfl) (qL_at hkk rfl)) (eCons_ok (eTup_ok (eCons_ok eC_ok eNil_ok) (by simp)) eNil_ok)) (by simp)) (eCons_ok (eop2_ok (eVarV_ok rfl) (eVarV_ok rfl) (tup_at hkk rfl)) eNil_ok)) (by simp))) eNil_ok)) G.same))))).trans rfl
  refine ⟨d5, .dat (.int (lv l)), .dat (.int n), .dat (polyD (bsOf l ++ [1])), .dat (.lst (qL n (n + 1))), .dat (toldL l n), .dat (.int kk), x10', .dat (.int (binN n kk)), x12', x13, h5.up (by omega), ?_⟩
  unfold lapB
  rw [sseq_nx s_0, sseq_nx s_1, sseq_nx s_2, sseq_nx s_3, sseq_nx s_4, sseq_nx s_5, sseq_nx s_6, sseq_nx s_7, sseq_nx s_8]
  exact s_9
end K06
set_option Elab.async false
set_option linter.all false
set_option autoImplicit false
set_option maxRecDepth 1000000
set_option maxHeartbeats 4000000
set_option exponentiation.threshold 3000
namespace K06
open PySem PySem.Spec PyProof.Rows L2 DL
theorem laps_ok (s0 : Sl) : ∀ (items : List D) (x3 x4 x5 x6 x7 x8 x9 x10 x11 x12 x13 : Sl) (k : Int) (d : Dr), DrI k d → k + 5 * items.length < 100000 → ∃ (d' : Dr) (y3 y4 y5 y6 y7 y8 y9 y10 y11 y12 y13 : Sl), DrI (k + 5 * items.length) d' ∧
    loopS (tgN 3) lapB items (some d) [s0, .dat .drw, .dat lettersD, x3, x4, x5, x6, x7, x8, x9, x10, x11, x12, x13] = .nx [s0, .dat .drw, .dat lettersD, y3, y4, y5, y6, y7, y8, y9, y10, y11, y12, y13] (some d')
  | [], x3, x4, x5, x6, x7, x8, x9, x10, x11, x12, x13, k, d, h, _ => ⟨d, x3, x4, x5, x6, x7, x8, x9, x10, x11, x12, x13, by simpa using h, rfl⟩
  | i :: r, x3, x4, x5, x6, x7, x8, x9, x10, x11, x12, x13, k, d, h, hk => by
    simp only [List.length_cons] at hk ⊢
    obtain ⟨d1, y4, y5, y6, y7, y8, y9, y10, y11, y12, y13, h1, e1⟩ := lap_ok s0 (.dat i) x4 x5 x6 x7 x8 x9 x10 x11 x12 x13 h (by omega)
    obtain ⟨d2, z3, z4, z5, z6, z7, z8, z9, z10, z11, z12, z13, h2, e2⟩ := laps_ok s0 r (.dat i) y4 y5 y6 y7 y8 y9 y10 y11 y12 y13 (k + 5) d1 h1 (by omega)
    exact ⟨d2, z3, z4, z5, z6, z7, z8, z9, z10, z11, z12, z13, h2.up (by omega), Eq.trans (loopS_go rfl e1) e2⟩
theorem law_true (as : Addr) (ns : List Int) (h : ns.length ≤ 63) (hb : ∀ z ∈ ns, Builtin.Int.intBits z ≤ 1048576) : ∃ w', b_law as ns (some (dr0 ns)) (.dat (.raw (.ref as)) :: .dat .drw :: List.replicate (N_law.length - 2) .un) = .rt (.bl true) w' := by
  have hl : (.dat (.raw (.ref as)) :: .dat .drw :: List.replicate (N_law.length - 2) .un : En) = [.dat (.raw (.ref as)), .dat .drw, .un, .un, .un, .un, .un, .un, .un, .un, .un, .un, .un, .un] := rfl
  rw [hl]
  have s0 : b_law0 as ns (some (dr0 ns)) [.dat (.raw (.ref as)), .dat .drw, .un, .un, .un, .un, .un, .un, .un, .un, .un, .un, .un, .un] = .nx [.dat (.raw (.ref as)), .dat .drw, .dat lettersD, .un, .un, .un, .un, .un, .un, .un, .un, .un, .un, .un] (some (dr0 ns)) :=
    setS_ok (eDat_ok (eFun_ok (eCons_ok eC_ok eNil_ok) letters_val))
  obtain ⟨q, hq⟩ : ∃ q : Nat, q = 2 + (if (3 : Int) < ns.length then 3 else ns.length) := ⟨_, rfl⟩
  have hq0 : q ≤ 66 := by rw [hq]; split <;> omega
  have items : eCall gRange1 (eCons (eop2 dAdd (eC (.int 2)) (eCall gMin2 (eCons (eScrLen 0 as ns) (eCons (eC (.int 3)) eNil)))) eNil) (some (dr0 ns)) [.dat (.raw (.ref as)), .dat .drw, .dat lettersD, .un, .un, .un, .un, .un, .un, .un, .un, .un, .un, .un] = .ok (rangeD 0 1 q) (some (dr0 ns)) := by
    have e1 : eScrLen 0 as ns (some (dr0 ns)) [.dat (.raw (.ref as)), .dat .drw, .dat lettersD, .un, .un, .un, .un, .un, .un, .un, .un, .un, .un, .un] = .ok (.int ns.length) (some (dr0 ns)) := by
      show (if V.ref as = .ref as then _ else _) = _
      rw [if_pos rfl]
    refine eCall_ok (eCons_ok (eop2_ok eC_ok (eCall_ok (eCons_ok e1 (eCons_ok eC_ok eNil_ok)) rfl) (?_ : _ = some (D.int (q : Int)))) eNil_ok) (range1_ok q (by omega))
    show some (D.int (2 + (if (3 : Int) < (ns.length : Int) then (3 : Int) else (ns.length : Int)))) = _
    rw [hq]
    refine congrArg (fun z => some (D.int z)) ?_
    split <;> simp
  have rlen : (rangeD 0 1 q).length = q := rangeD_len _ _ _
  obtain ⟨d1, y3, y4, y5, y6, y7, y8, y9, y10, y11, y12, y13, h1, e1⟩ := laps_ok (.dat (.raw (.ref as))) (rangeD 0 1 q) .un .un .un .un .un .un .un .un .un .un .un 0 (dr0 ns) (DrI.start h) (by rw [rlen]; omega)
  rw [rlen] at h1
  have s1 : b_law1 as ns (some (dr0 ns)) [.dat (.raw (.ref as)), .dat .drw, .dat lettersD, .un, .un, .un, .un, .un, .un, .un, .un, .un, .un, .un] = .nx [.dat (.raw (.ref as)), .dat .drw, .dat lettersD, y3, y4, y5, y6, y7, y8, y9, y10, y11, y12, y13] (some d1) := (forS_of items).trans e1
  -- by hand
  have q42 : PM.m_quotient [.int 0, .int 4, .int 2] = .ok (n0D (gQ 4 2)) := quotient_ok (n := 4) (k := 2) (.inl (by decide)) (by decide) (fun j hj => steps17 (by decide) j (by omega)) need0 (between_n (n := 4) (by decide)) (between_k (n := 4) (k := 2) (by decide) (by decide)) (n_of_polynomial_zero _) (nkF (n := 4) (k := 2) (by decide) (by decide)).told
  have q52 : PM.m_quotient [.int 5, .int 4, .int 2] = .ok (rowD 2 (gQ 4 2)) := quotient_ok (n := 4) (k := 2) (L := lv 2) (.inl (by decide)) (by decide) (fun j hj => steps17 (by decide) j (by omega)) (levelF (by decide)).need (between_n (n := 4) (by decide)) (between_k (n := 4) (k := 2) (by decide) (by decide)) (nop_ok (l := 2) (by decide) (lnkF (l := 2) (n := 4) (k := 2) (by decide) (by decide) (by decide)).res) (lnkF (l := 2) (n := 4) (k := 2) (by decide) (by decide) (by decide)).told
  have w51 : PM.m_whole_number [.int 5, .int 1] = .ok (rowD 2 [1]) := isD_ok (by decide +kernel)
  have s2 : b_law2 as ns (some d1) [.dat (.raw (.ref as)), .dat .drw, .dat lettersD, y3, y4, y5, y6, y7, y8, y9, y10, y11, y12, y13] = .nx [.dat (.raw (.ref as)), .dat .drw, .dat lettersD, y3, y4, y5, y6, y7, y8, y9, y10, y11, y12, y13] (some d1) :=
    (ifS_f ((eOr_f (eB_ok (eop2_ok (eFun_ok (eCons_ok eC_ok (eCons_ok eC_ok (eCons_ok eC_ok eNil_ok))) q42) (eTup_ok (eCons_ok (eTup_ok (eCons_ok eC_ok (eCons_ok eC_ok (eCons_ok (eNeg_ok eC_ok) (eCons_ok eC_ok (eCons_ok eC_ok eNil_ok))))) (by simp)) (eCons_ok (eTup_ok (eCons_ok eC_ok eNil_ok) (by simp)) eNil_ok)) (by simp)) (isB_ok (by decide +kernel))))).trans (eB_ok (eop2_ok (eFun_ok (eCons_ok eC_ok (eCons_ok eC_ok (eCons_ok eC_ok eNil_ok))) q52) (eFun_ok (eCons_ok eC_ok (eCons_ok eC_ok eNil_ok)) w51) (isB_ok (by decide +kernel)))))).trans rfl
  have tab0 : tabE 0 0 = some true := by decide +kernel
  obtain ⟨X, d2, hX, h2, e2⟩ := pick_ok (xs := [.int 29, .int (-1), .non]) h1 (by omega) (by simp) (by simp) true
  have x2 : PM.m_quotient [.int 0, X, .int 0] = .exc ⟨0, some ("part", .str "n")⟩ := by
    simp only [List.mem_cons, List.mem_nil_iff, or_false] at hX
    rcases hX with rfl | rfl | rfl <;> exact isXc_some (by decide +kernel)
  have same_n : mSame [.str "n", .str "n"] = .ok (.bl true) := isT_ok (by decide +kernel)
  have same_k : mSame [.str "k", .str "k"] = .ok (.bl true) := isT_ok (by decide +kernel)
  have s3 : b_law3 as ns (some d1) [.dat (.raw (.ref as)), .dat .drw, .dat lettersD, y3, y4, y5, y6, y7, y8, y9, y10, y11, y12, y13] = .nx [.dat (.raw (.ref as)), .dat .drw, .dat lettersD, y3, y4, y5, y6, y7, y8, y9, y10, y11, y12, y13] (some d2) :=
    (ifS_f (eNot_ok (b := true) (eB_ok (eLam_ok (eCons_ok eC_ok eNil_ok) (isbad_ok tab0 (eFun_exc (eCons_ok eC_ok (eCons_ok (eFunW_ok (eCons_ok (eVar_ok rfl) (eCons_ok (eLst_ok (eList_ok (eCons_ok eC_ok (eCons_ok (eNeg_ok eC_ok) (eCons_ok eC_ok eNil_ok))) (by simp))) eNil_ok)) e2) (eCons_ok eC_ok eNil_ok))) x2) same_n))))).trans rfl
  obtain ⟨Y, d3, hY, h3, e3⟩ := pick_ok (xs := [.int 5, .int (-1), .non, .bl true]) h2 (by omega) (by simp) (by simp) true
  have x3 : PM.m_quotient [.int 0, .int 4, Y] = .exc ⟨0, some ("part", .str "k")⟩ := by
    simp only [List.mem_cons, List.mem_nil_iff, or_false] at hY
    rcases hY with rfl | rfl | rfl | rfl <;> exact isXc_some (by decide +kernel)
  have s4 : b_law4 as ns (some d2) [.dat (.raw (.ref as)), .dat .drw, .dat lettersD, y3, y4, y5, y6, y7, y8, y9, y10, y11, y12, y13] = .nx [.dat (.raw (.ref as)), .dat .drw, .dat lettersD, y3, y4, y5, y6, y7, y8, y9, y10, y11, y12, y13] (some d3) :=
    (ifS_f (eNot_ok (b := true) (eB_ok (eLam_ok (eCons_ok eC_ok eNil_ok) (isbad_ok tab0 (eFun_exc (eCons_ok eC_ok (eCons_ok eC_ok (eCons_ok (eFunW_ok (eCons_ok (eVar_ok rfl) (eCons_ok (eLst_ok (eList_ok (eCons_ok eC_ok (eCons_ok (eNeg_ok eC_ok) (eCons_ok eC_ok (eCons_ok eC_ok eNil_ok)))) (by simp))) eNil_ok)) e3) eNil_ok))) x3) same_k))))).trans rfl
  obtain ⟨Z, d4, hZ, h4, e4⟩ := pick_ok (xs := [.int 1, .int 8, .non]) h3 (by omega) (by simp) (by simp) true
  have x4 : PM.m_quotients [Z, .int 3] = .exc ⟨2, none⟩ := by
    simp only [List.mem_cons, List.mem_nil_iff, or_false] at hZ
    rcases hZ with rfl | rfl | rfl <;> exact isXc_none (by decide +kernel)
  have q28 := c_28
  simp only [Bool.and_eq_true, decide_eq_true_eq] at q28
  obtain ⟨⟨⟨⟨g1, g2⟩, g3⟩, g4⟩, g5⟩ := q28
  have between28 : PM.m_need_between [.int 14, .int 0, .int 28, .str "k"] = .ok .non := isD_ok g3
  have qq : PM.m_quotient [.int 0, .int 28, .int 14] = .ok (n0D (gQ 28 14)) := quotient_ok (n := 28) (k := 14) (.inr rfl) (by decide) (fun j hj => stepF (all_lt c_steps28 hj)) need0 (isD_ok g2) between28 (n_of_polynomial_zero _) (isD_ok g1)
  refine ⟨some d4, ?_⟩
  have c1 : eop2 dEq (eop2 dIx (eFun PM.m_quotient (eCons (eC (.int 0)) (eCons (eC (.int 28)) (eCons (eC (.int 14)) eNil)))) (eC (.int 1))) (eTup (eCons (eC (.int 1)) eNil)) (some d3) [.dat (.raw (.ref as)), .dat .drw, .dat lettersD, y3, y4, y5, y6, y7, y8, y9, y10, y11, y12, y13] = .ok (.bl true) (some d3) :=
    eop2_ok (eop2_ok (eFun_ok (eCons_ok eC_ok (eCons_ok eC_ok (eCons_ok eC_ok eNil_ok))) qq) eC_ok rfl) (eTup_ok (eCons_ok eC_ok eNil_ok) (by simp)) (isB_ok (by decide +kernel))
  have hlen : gLen [polyD (gQ 28 14)] = some (.int 197) := by
    show some (D.int _) = _
    rw [List.length_map, g4]
    rfl
  have c2 : eop2 dEq (eCall gLen (eCons (eop2 dIx (eFun PM.m_quotient (eCons (eC (.int 0)) (eCons (eC (.int 28)) (eCons (eC (.int 14)) eNil)))) (eC (.int 0))) eNil)) (eC (.int 197)) (some d3) [.dat (.raw (.ref as)), .dat .drw, .dat lettersD, y3, y4, y5, y6, y7, y8, y9, y10, y11, y12, y13] = .ok (.bl true) (some d3) :=
    eop2_ok (eCall_ok (eCons_ok (eop2_ok (eFun_ok (eCons_ok eC_ok (eCons_ok eC_ok (eCons_ok eC_ok eNil_ok))) qq) eC_ok rfl) eNil_ok) hlen) eC_ok (dEq_int 197 197)
  have c3 : eIsX tabE 2 (eLam (mCaught 99) (eFun PM.m_quotients (eCons (eFunW mPick (eCons (eVar 1) (eCons (eLst (eList (eCons (eC (.int 1)) (eCons (eC (.int 8)) (eCons (eC .non) eNil))))) eNil))) (eCons (eC (.int 3)) eNil))) eNil) (some d3) [.dat (.raw (.ref as)), .dat .drw, .dat lettersD, y3, y4, y5, y6, y7, y8, y9, y10, y11, y12, y13] = .ok (.bl true) (some d4) := by
    unfold eIsX
    refine (ebind_ok (eLam_ok eNil_ok (caught_exc (eFun_exc (eCons_ok (eFunW_ok (eCons_ok (eVar_ok rfl) (eCons_ok (eLst_ok (eList_ok (eCons_ok eC_ok (eCons_ok eC_ok (eCons_ok eC_ok eNil_ok))) (by simp))) eNil_ok)) e4) (eCons_ok eC_ok eNil_ok)) x4) (by decide)))).trans ?_
    rfl
  have s5 : b_law5 as ns (some d3) [.dat (.raw (.ref as)), .dat .drw, .dat lettersD, y3, y4, y5, y6, y7, y8, y9, y10, y11, y12, y13] = .rt (.bl true) (some d4) := by
    unfold b_law5
    refine ret_ok ?_
    unfold eAndV
    refine (ebind_ok c1).trans ?_
    show ebind _ _ (some d3) _ = _
    exact (ebind_ok c2).trans c3
  unfold b_law
  rw [sseq_nx s0, sseq_nx s1, sseq_nx s2, sseq_nx s3, sseq_nx s4]
  exact s5
end K06
set_option Elab.async false
set_option linter.all false
set_option autoImplicit false
set_option maxRecDepth 100000
set_option maxHeartbeats 4000000
namespace K06
open PySem PySem.Spec PyProof.Rows L2 DL LamX
abbrev s__law_begun : Stmt := topS 49
theorem sc__law_begun : FnScope ["script", "large", "cell"] ["script"] (defScope s__law_begun) := ⟨rfl, rfl, rfl, by decide +kernel, rfl, by decide +kernel, by decide +kernel⟩

theorem x1_BadNumber {P : Program} {K : PySem.W.Frag} {mg : Str → Option Value} {Cs : List Addr} {D C fI cda cc N : Addr} {nm q : Str} {bs bm : List Value} {sn : List Str} {sub : List Value} {ab : Bool} {col : Option Bool} {dd : Option Addr} {k0 k1 k2 k3 k5 : Option Value}
    {oc : Value} {od : Option Addr} {kV doc pm ct : Value} {an : Option Addr} {osl : Array (Option Value)} {name qual : Str} {ccl cl' : Value} {cdd cld : Option Addr} {ccs csl : Array (Option Value)} {vs : Array Value} {file : Str} {tf : Tok}
    (ms : mg "super" = none) (gm : mg "BadNumber" = some (.ref C)) (e : clOf Cs D 0 = C)
    (l : K.lookup C = some (excClassObj nm q C N bs bm true sn sub ab col dd k0 k1 k2 k3 k5 "ValueError.__new__")) (hr : PySem.HandSPX.refsVE bm = true) (sa : PySem.W.findIn K (.ref C) "__setattr__" = some (some (.builtin "object.__setattr__")))
    (s1 : PySem.W.subIn K (.ref C) (.type "BaseException") = some true) (s2 : PySem.W.typeIn K (.ref C) = some (.type "type")) (s3 : PySem.W.keepIn K (.ref C) = true)
    (i : PySem.W.findIn K (.ref C) "__init__" = some (some (.ref fI))) (ti : PySem.W.typeIn K (.ref fI) = some (.type "function"))
    (li : K.lookup fI = some ⟨oc, od, .func (PySem.W.ksFn name qual (defArgs (clsDef (topS 3))) (defBody (clsDef (topS 3))) (defScope (clsDef (topS 3))) .none kV doc pm an (.ref cda) ct cc), osl⟩) (ci : PySem.W.codeIn K (.ref cda) qual = true)
    (lc : K.lookup cda = some ⟨ccl, cdd, .fields vs, ccs⟩) (hv : vs[2]? = some (.str file tf)) (hf : ((P.main.file : Str) == file) = true) (lcc : K.lookup cc = some ⟨cl', cld, .cell (some (.ref C)), csl⟩)
    (opq : PySem.W.nsIn K cStatics "thirdparty.any" = some none) (hm : PySem.W.ks_superIn K C C "__init__" = some (some (.builtin "ValueError.__init__"))) (hB : PySem.W.subIn K (.ref C) (.type "ValueError") = some true) (hC : PySem.W.mroIn K C (.ref C) = some true) (hno : PySem.W.findIn K (.ref C) "part" = some none)
    (hpm : (P.main.scope.names.lookup ("super" : Str)).isSome = false) : X1 P K mg (clOf Cs D) 0 "BadNumber" "part" := by
  subst e
  refine ⟨gm, ⟨⟨nm, q, N, bs, bm, sn, sub, ab, col, dd, k0, k1, k2, k3, k5, l, hr⟩, sa, s1, s2, s3⟩, fI, clsDef (topS 3), (PySem.W.ksFn name qual (defArgs (clsDef (topS 3))) (defBody (clsDef (topS 3))) (defScope (clsDef (topS 3))) .none kV doc pm an (.ref cda) ct cc), i, ti, ?_, ?_⟩
  · refine ⟨⟨oc, od, kV, doc, pm, ct, an, osl, cc, cda, name, qual, _, _, _, _, _, _, _, _, _, _, _, _, _, vs, file, tf, ccl, cl', cdd, cld, ccs, csl, rfl, li, ci, rfl, rfl, rfl, lc, hv, hf, lcc, fun L => ⟨_, rfl⟩, fun L => rfl, fun L => rfl, fun L => rfl⟩, rfl, rfl, rfl, by decide +kernel, rfl, rfl, rfl, rfl, by decide +kernel, hpm, ms, opq, hm, hB, hC, hno⟩
  · exact .all fun us hl => match us, hl with | [_, _], _ => rfl

theorem x1_BadPolynomial {P : Program} {K : PySem.W.Frag} {mg : Str → Option Value} {Cs : List Addr} {D C fI cda cc N : Addr} {nm q : Str} {bs bm : List Value} {sn : List Str} {sub : List Value} {ab : Bool} {col : Option Bool} {dd : Option Addr} {k0 k1 k2 k3 k5 : Option Value}
    {oc : Value} {od : Option Addr} {kV doc pm ct : Value} {an : Option Addr} {osl : Array (Option Value)} {name qual : Str} {ccl cl' : Value} {cdd cld : Option Addr} {ccs csl : Array (Option Value)} {vs : Array Value} {file : Str} {tf : Tok}
    (ms : mg "super" = none) (gm : mg "BadPolynomial" = some (.ref C)) (e : clOf Cs D 22 = C)
    (l : K.lookup C = some (excClassObj nm q C N bs bm true sn sub ab col dd k0 k1 k2 k3 k5 "ValueError.__new__")) (hr : PySem.HandSPX.refsVE bm = true) (sa : PySem.W.findIn K (.ref C) "__setattr__" = some (some (.builtin "object.__setattr__")))
    (s1 : PySem.W.subIn K (.ref C) (.type "BaseException") = some true) (s2 : PySem.W.typeIn K (.ref C) = some (.type "type")) (s3 : PySem.W.keepIn K (.ref C) = true)
    (i : PySem.W.findIn K (.ref C) "__init__" = some (some (.ref fI))) (ti : PySem.W.typeIn K (.ref fI) = some (.type "function"))
    (li : K.lookup fI = some ⟨oc, od, .func (PySem.W.ksFn name qual (defArgs (clsDef (topS 6))) (defBody (clsDef (topS 6))) (defScope (clsDef (topS 6))) .none kV doc pm an (.ref cda) ct cc), osl⟩) (ci : PySem.W.codeIn K (.ref cda) qual = true)
    (lc : K.lookup cda = some ⟨ccl, cdd, .fields vs, ccs⟩) (hv : vs[2]? = some (.str file tf)) (hf : ((P.main.file : Str) == file) = true) (lcc : K.lookup cc = some ⟨cl', cld, .cell (some (.ref C)), csl⟩)
    (opq : PySem.W.nsIn K cStatics "thirdparty.any" = some none) (hm : PySem.W.ks_superIn K C C "__init__" = some (some (.builtin "ValueError.__init__"))) (hB : PySem.W.subIn K (.ref C) (.type "ValueError") = some true) (hC : PySem.W.mroIn K C (.ref C) = some true) (hno : PySem.W.findIn K (.ref C) "part" = some none)
    (hpm : (P.main.scope.names.lookup ("super" : Str)).isSome = false) : X1 P K mg (clOf Cs D) 22 "BadPolynomial" "part" := by
  subst e
  refine ⟨gm, ⟨⟨nm, q, N, bs, bm, sn, sub, ab, col, dd, k0, k1, k2, k3, k5, l, hr⟩, sa, s1, s2, s3⟩, fI, clsDef (topS 6), (PySem.W.ksFn name qual (defArgs (clsDef (topS 6))) (defBody (clsDef (topS 6))) (defScope (clsDef (topS 6))) .none kV doc pm an (.ref cda) ct cc), i, ti, ?_, ?_⟩
  · refine ⟨⟨oc, od, kV, doc, pm, ct, an, osl, cc, cda, name, qual, _, _, _, _, _, _, _, _, _, _, _, _, _, vs, file, tf, ccl, cl', cdd, cld, ccs, csl, rfl, li, ci, rfl, rfl, rfl, lc, hv, hf, lcc, fun L => ⟨_, rfl⟩, fun L => rfl, fun L => rfl, fun L => rfl⟩, rfl, rfl, rfl, by decide +kernel, rfl, rfl, rfl, rfl, by decide +kernel, hpm, ms, opq, hm, hB, hC, hno⟩
  · exact .all fun us hl => match us, hl with | [_, _], _ => rfl

theorem fb_law {P : Program} {w : World} {K : PySem.W.Frag} {base : Heap} {mg : Str → Option Value} {cl : Nat → Addr} {f : Addr} {fd : FuncData} (F : Fun K "_law_begun" "_law_begun" s__law_begun f fd) (M : Mg P K mg cl) : FnG P w K mg base 2 f fd ["script"] (spBegun K) := fn_begun (cl := cl) F sc__law_begun rfl rfl
    (fun cdv A up s H W C as ns B hs => ⟨ds_setComp [("cell", 2)] 1 sc__law_begun.nd (show BlkOk ["script", "large", "cell"] (defScope s__law_begun) _ _ from blkOk_by (by decide +kernel)) (di_scr 0 hs) (by decide) (fun s H A cl fp => dg_name 2 sc__law_begun.nd) (fun s H A cl fp => dts_one (dt_ge (de_abs M.b_abs (dva_cons (dv_var 2) dva_nil)) (de_pow de_int de_int))) (fun s H A cl fp => de_sub (de_abs M.b_abs (dva_cons (dv_var 2) dva_nil)) (de_pow de_int de_int)),
      do_comp [("cell", 2)] sc__law_begun.nd (show BlkOk ["script", "large", "cell"] (defScope s__law_begun) _ _ from blkOk_by (by decide +kernel)) (di_scr 0 hs) (by decide) (fun s H A cl fp => dg_name 2 sc__law_begun.nd) (fun s H A cl fp => dts_nil) (fun s H A cl fp => de_abs M.b_abs (dva_cons (dv_var 2) dva_nil))⟩)
    (fun cdv A up s H W => ⟨pe_str, pe_var (i := 1) rfl (.inl rfl), pe_str, pe_str, pe_int, pe_str, pe_int⟩)
theorem all_mk {P : Program} {w : World} {K : PySem.W.Frag} {h : Heap} {mg : Str → Option Value} {fa fl cc Pt C_BadNumber C_BadLevel C_BadPolynomial C_D : Addr} {oc : Value} {od an : Option Addr} {osl : Array (Option Value)} {kV doc pm ct : Value} {t_LEAST_LEVEL t_MOST_LEVEL t_MOST_DEGREE t_FIGURES t_MOST_QUOTIENT t_FAR : Tok} (X : K.In h) (G : h.Ns mainGlobals mg) (hfa : mg "law" = some (.ref fa)) (hpm : (P.main.scope.names.lookup ("super" : Str)).isSome = false)
    (hT : h.get? Pt = some { cls := .none, data := .fields #[] }) (nT : K.lookup Pt = none) (hcd : PySem.W.codeHdIn K cc Pt = true)
    (al : PySem.W.nsIn K mainGlobals "law" = some (some (.ref fl))) (ll : K.lookup fl = some ⟨oc, od, .func (PySem.W.fnOf "law" "law" (defArgs s_law) (defBody s_law) (defScope s_law) .none kV doc pm an (.ref cc) ct), osl⟩) (lc : PySem.W.codeIn K (.ref cc) "law" = true)
    (i_is_whole : ∃ f, InKd K "is_whole" s_is_whole f)
    (i_is_between : ∃ f, InKd K "is_between" s_is_between f)
    (i_need_between : ∃ f, InKd K "need_between" s_need_between f)
    (i_is_level_told : ∃ f, InKd K "is_level_told" s_is_level_told f)
    (i_need_level : ∃ f, InKd K "need_level" s_need_level f)
    (i_least_told : ∃ f, InKd K "least_told" s_least_told f)
    (i_cleaned : ∃ f, InKd K "cleaned" s_cleaned f)
    (i_p_plus : ∃ f, InKd K "p_plus" s_p_plus f)
    (i_p_scaled : ∃ f, InKd K "p_scaled" s_p_scaled f)
    (i_p_minus : ∃ f, InKd K "p_minus" s_p_minus f)
    (i_p_times : ∃ f, InKd K "p_times" s_p_times f)
    (i_p_exact : ∃ f, InKd K "p_exact" s_p_exact f)
    (i_p_rest : ∃ f, InKd K "p_rest" s_p_rest f)
    (i_p_at : ∃ f, InKd K "p_at" s_p_at f)
    (i_is_polynomial_told : ∃ f, InKd K "is_polynomial_told" s_is_polynomial_told f)
    (i_need_polynomial : ∃ f, InKd K "need_polynomial" s_need_polynomial f)
    (i_need_few_figures : ∃ f, InKd K "need_few_figures" s_need_few_figures f)
    (i_polynomial_at : ∃ f, InKd K "polynomial_at" s_polynomial_at f)
    (i_fractions : ∃ f, InKd K "fractions" s_fractions f)
    (i_padded : ∃ f, InKd K "padded" s_padded f)
    (i_n_of_polynomial : ∃ f, InKd K "n_of_polynomial" s_n_of_polynomial f)
    (i_n_whole : ∃ f, InKd K "n_whole" s_n_whole f)
    (i_need_told : ∃ f, InKd K "need_told" s_need_told f)
    (i_whole_number : ∃ f, InKd K "whole_number" s_whole_number f)
    (i_d_polynomials : ∃ f, InKd K "d_polynomials" s_d_polynomials f)
    (i_quotient_polynomials : ∃ f, InKd K "quotient_polynomials" s_quotient_polynomials f)
    (i_quotient_told : ∃ f, InKd K "quotient_told" s_quotient_told f)
    (i_quotient : ∃ f, InKd K "quotient" s_quotient f)
    (i_quotients : ∃ f, InKd K "quotients" s_quotients f)
    (i__law_blend : ∃ f, InKd K "_law_blend" s__law_blend f)
    (i__law_take : ∃ f, InKd K "_law_take" s__law_take f)
    (i__law_pick : ∃ f, InKd K "_law_pick" s__law_pick f)
    (i__law_fraction : ∃ f, InKd K "_law_fraction" s__law_fraction f)
    (i__law_plus : ∃ f, InKd K "_law_plus" s__law_plus f)
    (i__law_times : ∃ f, InKd K "_law_times" s__law_times f)
    (i__law_least : ∃ f, InKd K "_law_least" s__law_least f)
    (i__law_rest : ∃ f, InKd K "_law_rest" s__law_rest f)
    (i__law_whole : ∃ f, InKd K "_law_whole" s__law_whole f)
    (i__law_cleaned : ∃ f, InKd K "_law_cleaned" s__law_cleaned f)
    (i__law_p_plus : ∃ f, InKd K "_law_p_plus" s__law_p_plus f)
    (i__law_p_times : ∃ f, InKd K "_law_p_times" s__law_p_times f)
    (i__law_divided : ∃ f, InKd K "_law_divided" s__law_divided f)
    (i__law_letters : ∃ f, InKd K "_law_letters" s__law_letters f)
    (i__law_quotients : ∃ f, InKd K "_law_quotients" s__law_quotients f)
    (i__law_same : ∃ f, InKd K "_law_same" s__law_same f)
    (i__law_caught : ∃ f, InKd K "_law_caught" s__law_caught f)
    (i__law_is_bad_number : ∃ f, InKd K "_law_is_bad_number" s__law_is_bad_number f)
    (i__law_begun : ∃ f, InKd K "_law_begun" s__law_begun f)
    (z_isinstance : PySem.W.nsIn K mainGlobals "isinstance" = some none)
    (z_int : PySem.W.nsIn K mainGlobals "int" = some none)
    (z_bool : PySem.W.nsIn K mainGlobals "bool" = some none)
    (z_tuple : PySem.W.nsIn K mainGlobals "tuple" = some none)
    (z_list : PySem.W.nsIn K mainGlobals "list" = some none)
    (z_len : PySem.W.nsIn K mainGlobals "len" = some none)
    (z_range : PySem.W.nsIn K mainGlobals "range" = some none)
    (z_enumerate : PySem.W.nsIn K mainGlobals "enumerate" = some none)
    (z_reversed : PySem.W.nsIn K mainGlobals "reversed" = some none)
    (z_abs : PySem.W.nsIn K mainGlobals "abs" = some none)
    (z_max : PySem.W.nsIn K mainGlobals "max" = some none)
    (z_min : PySem.W.nsIn K mainGlobals "min" = some none)
    (z_all : PySem.W.nsIn K mainGlobals "all" = some none)
    (z_repr : PySem.W.nsIn K mainGlobals "repr" = some none)
    (z_super : PySem.W.nsIn K mainGlobals "super" = some none)
    (z_gcd : PySem.W.nsIn K mainGlobals "gcd" = some (some (.builtin "math.gcd")))
    (y_LEAST_LEVEL : PySem.W.nsIn K mainGlobals "LEAST_LEVEL" = some (some (.int 3 t_LEAST_LEVEL)))
    (y_MOST_LEVEL : PySem.W.nsIn K mainGlobals "MOST_LEVEL" = some (some (.int 7 t_MOST_LEVEL)))
    (y_MOST_DEGREE : PySem.W.nsIn K mainGlobals "MOST_DEGREE" = some (some (.int 200 t_MOST_DEGREE)))
    (y_FIGURES : PySem.W.nsIn K mainGlobals "FIGURES" = some (some (.int 1000 t_FIGURES)))
    (y_MOST_QUOTIENT : PySem.W.nsIn K mainGlobals "MOST_QUOTIENT" = some (some (.int 28 t_MOST_QUOTIENT)))
    (y_FAR : PySem.W.nsIn K mainGlobals "FAR" = some (some (.int 100 t_FAR)))
    (y_BEYOND : ∃ t, mg "BEYOND" = some (.int (10 ^ 1000) t))
    (aD : PySem.W.nsIn K mainGlobals "DrawError" = some (some (.ref C_D)))
    (a_BadNumber : PySem.W.nsIn K mainGlobals "BadNumber" = some (some (.ref C_BadNumber)))
    (x_BadNumber : X1 P K mg (clOf [C_BadNumber, C_D, C_BadLevel, C_D, C_D, C_D, C_D, C_D, C_D, C_D, C_D, C_D, C_D, C_D, C_D, C_D, C_D, C_D, C_D, C_D, C_D, C_D, C_BadPolynomial] C_D) 0 "BadNumber" "part")
    (a_BadLevel : PySem.W.nsIn K mainGlobals "BadLevel" = some (some (.ref C_BadLevel)))
    (x_BadLevel : PySem.W.excIn K C_BadLevel HandSPX.veTail "ValueError.__new__" = true)
    (a_BadPolynomial : PySem.W.nsIn K mainGlobals "BadPolynomial" = some (some (.ref C_BadPolynomial)))
    (x_BadPolynomial : X1 P K mg (clOf [C_BadNumber, C_D, C_BadLevel, C_D, C_D, C_D, C_D, C_D, C_D, C_D, C_D, C_D, C_D, C_D, C_D, C_D, C_D, C_D, C_D, C_D, C_D, C_D, C_BadPolynomial] C_D) 22 "BadPolynomial" "part")
    (hcls : clsAll K "part" [0, 2, 22] C_D [C_BadNumber, C_D, C_BadLevel, C_D, C_D, C_D, C_D, C_D, C_D, C_D, C_D, C_D, C_D, C_D, C_D, C_D, C_D, C_D, C_D, C_D, C_D, C_D, C_BadPolynomial] = true) :
    ∃ (K : PySem.W.Frag) (fd : FuncData) (cc Pt : Addr) (sp : Sp), K.In h ∧ h.get? Pt = some { cls := .none, data := .fields #[] } ∧ K.lookup Pt = none ∧ PySem.W.CodeHd h cc Pt ∧ (∀ (s : Shared) (u : Value), BindsTo s fd ⟨[u], []⟩ [("script", u)]) ∧
      (∀ (H : Hp) (a : Addr) (ns : List Int), ns.length ≤ 63 → (∀ z ∈ ns, Builtin.Int.intBits z ≤ 1048576) → H Pt = some (.tbl #[]) → SqL K H a (ns.map V.int) → (∀ b, H b ≠ none → b = a ∨ b = Pt) → (H a ≠ none → ∃ o, H a = some (.frz o (.lst (ns.map V.int)))) → sp [.ref a] H (fun v _ => v = .bl true) fun _ _ _ => False) ∧
      ∀ base : Heap, K.In base → base.Ns mainGlobals mg → TabB base mg cc Pt → FnG P w K mg base 11 fa fd ["script"] sp := by
  have e := hfa.symm.trans (PySem.W.mg_of X G al)
  cases e
  have M : Mg P K mg (clOf [C_BadNumber, C_D, C_BadLevel, C_D, C_D, C_D, C_D, C_D, C_D, C_D, C_D, C_D, C_D, C_D, C_D, C_D, C_D, C_D, C_D, C_D, C_D, C_D, C_BadPolynomial] C_D) := by
    exact { b_isinstance := PySem.W.mg_none_of X G z_isinstance
            b_int := PySem.W.mg_none_of X G z_int
            b_bool := PySem.W.mg_none_of X G z_bool
            b_tuple := PySem.W.mg_none_of X G z_tuple
            b_list := PySem.W.mg_none_of X G z_list
            b_len := PySem.W.mg_none_of X G z_len
            b_range := PySem.W.mg_none_of X G z_range
            b_enumerate := PySem.W.mg_none_of X G z_enumerate
            b_reversed := PySem.W.mg_none_of X G z_reversed
            b_abs := PySem.W.mg_none_of X G z_abs
            b_max := PySem.W.mg_none_of X G z_max
            b_min := PySem.W.mg_none_of X G z_min
            b_all := PySem.W.mg_none_of X G z_all
            b_repr := PySem.W.mg_none_of X G z_repr
            b_gcd := PySem.W.mg_of X G z_gcd
            g_LEAST_LEVEL := ⟨t_LEAST_LEVEL, PySem.W.mg_of X G y_LEAST_LEVEL⟩
            g_MOST_LEVEL := ⟨t_MOST_LEVEL, PySem.W.mg_of X G y_MOST_LEVEL⟩
            g_MOST_DEGREE := ⟨t_MOST_DEGREE, PySem.W.mg_of X G y_MOST_DEGREE⟩
            g_FIGURES := ⟨t_FIGURES, PySem.W.mg_of X G y_FIGURES⟩
            g_BEYOND := y_BEYOND
            g_MOST_QUOTIENT := ⟨t_MOST_QUOTIENT, PySem.W.mg_of X G y_MOST_QUOTIENT⟩
            g_FAR := ⟨t_FAR, PySem.W.mg_of X G y_FAR⟩
            x_BadNumber := x_BadNumber
            x_BadLevel := x0_mk hcls (n := 2) (PySem.W.mg_of X G a_BadLevel) x_BadLevel
            x_BadPolynomial := x_BadPolynomial
            x_DrawError := PySem.W.mg_of X G aD
            exm := fun q _ => clsAll_exm hcls q
            tab := clsAll_tab hcls
            fld := clsAll_fld hcls }
  obtain ⟨f_is_whole, a_is_whole, fd_is_whole, F_is_whole⟩ := i_is_whole
  have gm_is_whole := PySem.W.mg_of X G a_is_whole
  have b_is_whole := F_is_whole.binds (ps := ["thing"]) fun _ _ _ _ _ _ us hl => match us, hl with | [_], _ => rfl
  obtain ⟨f_is_between, a_is_between, fd_is_between, F_is_between⟩ := i_is_between
  have gm_is_between := PySem.W.mg_of X G a_is_between
  have b_is_between := F_is_between.binds (ps := ["thing", "low", "high"]) fun _ _ _ _ _ _ us hl => match us, hl with | [_, _, _], _ => rfl
  obtain ⟨f_need_between, a_need_between, fd_need_between, F_need_between⟩ := i_need_between
  have gm_need_between := PySem.W.mg_of X G a_need_between
  have b_need_between := F_need_between.binds (ps := ["number", "low", "high", "part"]) fun _ _ _ _ _ _ us hl => match us, hl with | [_, _, _, _], _ => rfl
  obtain ⟨f_is_level_told, a_is_level_told, fd_is_level_told, F_is_level_told⟩ := i_is_level_told
  have gm_is_level_told := PySem.W.mg_of X G a_is_level_told
  have b_is_level_told := F_is_level_told.binds (ps := ["thing"]) fun _ _ _ _ _ _ us hl => match us, hl with | [_], _ => rfl
  obtain ⟨f_need_level, a_need_level, fd_need_level, F_need_level⟩ := i_need_level
  have gm_need_level := PySem.W.mg_of X G a_need_level
  have b_need_level := F_need_level.binds (ps := ["level"]) fun _ _ _ _ _ _ us hl => match us, hl with | [_], _ => rfl
  obtain ⟨f_least_told, a_least_told, fd_least_told, F_least_told⟩ := i_least_told
  have gm_least_told := PySem.W.mg_of X G a_least_told
  have b_least_told := F_least_told.binds (ps := ["level"]) fun _ _ _ _ _ _ us hl => match us, hl with | [_], _ => rfl
  obtain ⟨f_cleaned, a_cleaned, fd_cleaned, F_cleaned⟩ := i_cleaned
  have gm_cleaned := PySem.W.mg_of X G a_cleaned
  have b_cleaned := F_cleaned.binds (ps := ["row"]) fun _ _ _ _ _ _ us hl => match us, hl with | [_], _ => rfl
  obtain ⟨f_p_plus, a_p_plus, fd_p_plus, F_p_plus⟩ := i_p_plus
  have gm_p_plus := PySem.W.mg_of X G a_p_plus
  have b_p_plus := F_p_plus.binds (ps := ["one", "other"]) fun _ _ _ _ _ _ us hl => match us, hl with | [_, _], _ => rfl
  obtain ⟨f_p_scaled, a_p_scaled, fd_p_scaled, F_p_scaled⟩ := i_p_scaled
  have gm_p_scaled := PySem.W.mg_of X G a_p_scaled
  have b_p_scaled := F_p_scaled.binds (ps := ["one", "k"]) fun _ _ _ _ _ _ us hl => match us, hl with | [_, _], _ => rfl
  obtain ⟨f_p_minus, a_p_minus, fd_p_minus, F_p_minus⟩ := i_p_minus
  have gm_p_minus := PySem.W.mg_of X G a_p_minus
  have b_p_minus := F_p_minus.binds (ps := ["one", "other"]) fun _ _ _ _ _ _ us hl => match us, hl with | [_, _], _ => rfl
  obtain ⟨f_p_times, a_p_times, fd_p_times, F_p_times⟩ := i_p_times
  have gm_p_times := PySem.W.mg_of X G a_p_times
  have b_p_times := F_p_times.binds (ps := ["one", "other"]) fun _ _ _ _ _ _ us hl => match us, hl with | [_, _], _ => rfl
  obtain ⟨f_p_exact, a_p_exact, fd_p_exact, F_p_exact⟩ := i_p_exact
  have gm_p_exact := PySem.W.mg_of X G a_p_exact
  have b_p_exact := F_p_exact.binds (ps := ["one", "other"]) fun _ _ _ _ _ _ us hl => match us, hl with | [_, _], _ => rfl
  obtain ⟨f_p_rest, a_p_rest, fd_p_rest, F_p_rest⟩ := i_p_rest
  have gm_p_rest := PySem.W.mg_of X G a_p_rest
  have b_p_rest := F_p_rest.binds (ps := ["one", "other"]) fun _ _ _ _ _ _ us hl => match us, hl with | [_, _], _ => rfl
  obtain ⟨f_p_at, a_p_at, fd_p_at, F_p_at⟩ := i_p_at
  have gm_p_at := PySem.W.mg_of X G a_p_at
  have b_p_at := F_p_at.binds (ps := ["one", "x"]) fun _ _ _ _ _ _ us hl => match us, hl with | [_, _], _ => rfl
  obtain ⟨f_is_polynomial_told, a_is_polynomial_told, fd_is_polynomial_told, F_is_polynomial_told⟩ := i_is_polynomial_told
  have gm_is_polynomial_told := PySem.W.mg_of X G a_is_polynomial_told
  have b_is_polynomial_told := F_is_polynomial_told.binds (ps := ["thing"]) fun _ _ _ _ _ _ us hl => match us, hl with | [_], _ => rfl
  obtain ⟨f_need_polynomial, a_need_polynomial, fd_need_polynomial, F_need_polynomial⟩ := i_need_polynomial
  have gm_need_polynomial := PySem.W.mg_of X G a_need_polynomial
  have b_need_polynomial := F_need_polynomial.binds (ps := ["thing", "part"]) fun _ _ _ _ _ _ us hl => match us, hl with | [_, _], _ => rfl
  obtain ⟨f_need_few_figures, a_need_few_figures, fd_need_few_figures, F_need_few_figures⟩ := i_need_few_figures
  have gm_need_few_figures := PySem.W.mg_of X G a_need_few_figures
  have b_need_few_figures := F_need_few_figures.binds (ps := ["row"]) fun _ _ _ _ _ _ us hl => match us, hl with | [_], _ => rfl
  obtain ⟨f_polynomial_at, a_polynomial_at, fd_polynomial_at, F_polynomial_at⟩ := i_polynomial_at
  have gm_polynomial_at := PySem.W.mg_of X G a_polynomial_at
  have b_polynomial_at := F_polynomial_at.binds (ps := ["polynomial", "x"]) fun _ _ _ _ _ _ us hl => match us, hl with | [_, _], _ => rfl
  obtain ⟨f_fractions, a_fractions, fd_fractions, F_fractions⟩ := i_fractions
  have gm_fractions := PySem.W.mg_of X G a_fractions
  have b_fractions := F_fractions.binds (ps := ["row", "below"]) fun _ _ _ _ _ _ us hl => match us, hl with | [_, _], _ => rfl
  obtain ⟨f_padded, a_padded, fd_padded, F_padded⟩ := i_padded
  have gm_padded := PySem.W.mg_of X G a_padded
  have b_padded := F_padded.binds (ps := ["level", "polynomial"]) fun _ _ _ _ _ _ us hl => match us, hl with | [_, _], _ => rfl
  obtain ⟨f_n_of_polynomial, a_n_of_polynomial, fd_n_of_polynomial, F_n_of_polynomial⟩ := i_n_of_polynomial
  have gm_n_of_polynomial := PySem.W.mg_of X G a_n_of_polynomial
  have b_n_of_polynomial := F_n_of_polynomial.binds (ps := ["level", "polynomial"]) fun _ _ _ _ _ _ us hl => match us, hl with | [_, _], _ => rfl
  obtain ⟨f_n_whole, a_n_whole, fd_n_whole, F_n_whole⟩ := i_n_whole
  have gm_n_whole := PySem.W.mg_of X G a_n_whole
  have b_n_whole := F_n_whole.binds (ps := ["level", "k"]) fun _ _ _ _ _ _ us hl => match us, hl with | [_, _], _ => rfl
  obtain ⟨f_need_told, a_need_told, fd_need_told, F_need_told⟩ := i_need_told
  have gm_need_told := PySem.W.mg_of X G a_need_told
  have b_need_told := F_need_told.binds (ps := ["level", "number"]) fun _ _ _ _ _ _ us hl => match us, hl with | [_, _], _ => rfl
  obtain ⟨f_whole_number, a_whole_number, fd_whole_number, F_whole_number⟩ := i_whole_number
  have gm_whole_number := PySem.W.mg_of X G a_whole_number
  have b_whole_number := F_whole_number.binds (ps := ["level", "k"]) fun _ _ _ _ _ _ us hl => match us, hl with | [_, _], _ => rfl
  obtain ⟨f_d_polynomials, a_d_polynomials, fd_d_polynomials, F_d_polynomials⟩ := i_d_polynomials
  have gm_d_polynomials := PySem.W.mg_of X G a_d_polynomials
  have b_d_polynomials := F_d_polynomials.binds (ps := ["many"]) fun _ _ _ _ _ _ us hl => match us, hl with | [_], _ => rfl
  obtain ⟨f_quotient_polynomials, a_quotient_polynomials, fd_quotient_polynomials, F_quotient_polynomials⟩ := i_quotient_polynomials
  have gm_quotient_polynomials := PySem.W.mg_of X G a_quotient_polynomials
  have b_quotient_polynomials := F_quotient_polynomials.binds (ps := ["n", "k"]) fun _ _ _ _ _ _ us hl => match us, hl with | [_, _], _ => rfl
  obtain ⟨f_quotient_told, a_quotient_told, fd_quotient_told, F_quotient_told⟩ := i_quotient_told
  have gm_quotient_told := PySem.W.mg_of X G a_quotient_told
  have b_quotient_told := F_quotient_told.binds (ps := ["level", "n", "k"]) fun _ _ _ _ _ _ us hl => match us, hl with | [_, _, _], _ => rfl
  obtain ⟨f_quotient, a_quotient, fd_quotient, F_quotient⟩ := i_quotient
  have gm_quotient := PySem.W.mg_of X G a_quotient
  have b_quotient := F_quotient.binds (ps := ["level", "n", "k"]) fun _ _ _ _ _ _ us hl => match us, hl with | [_, _, _], _ => rfl
  obtain ⟨f_quotients, a_quotients, fd_quotients, F_quotients⟩ := i_quotients
  have gm_quotients := PySem.W.mg_of X G a_quotients
  have b_quotients := F_quotients.binds (ps := ["level", "n"]) fun _ _ _ _ _ _ us hl => match us, hl with | [_, _], _ => rfl
  obtain ⟨f__law_blend, a__law_blend, fd__law_blend, F__law_blend⟩ := i__law_blend
  have gm__law_blend := PySem.W.mg_of X G a__law_blend
  have b__law_blend := F__law_blend.binds (ps := ["draw"]) fun _ _ _ _ _ _ us hl => match us, hl with | [_], _ => rfl
  obtain ⟨f__law_take, a__law_take, fd__law_take, F__law_take⟩ := i__law_take
  have gm__law_take := PySem.W.mg_of X G a__law_take
  have b__law_take := F__law_take.binds (ps := ["draw", "size"]) fun _ _ _ _ _ _ us hl => match us, hl with | [_, _], _ => rfl
  obtain ⟨f__law_pick, a__law_pick, fd__law_pick, F__law_pick⟩ := i__law_pick
  have gm__law_pick := PySem.W.mg_of X G a__law_pick
  have b__law_pick := F__law_pick.binds (ps := ["draw", "some"]) fun _ _ _ _ _ _ us hl => match us, hl with | [_, _], _ => rfl
  obtain ⟨f__law_fraction, a__law_fraction, fd__law_fraction, F__law_fraction⟩ := i__law_fraction
  have gm__law_fraction := PySem.W.mg_of X G a__law_fraction
  have b__law_fraction := F__law_fraction.binds (ps := ["top", "under"]) fun _ _ _ _ _ _ us hl => match us, hl with | [_, _], _ => rfl
  obtain ⟨f__law_plus, a__law_plus, fd__law_plus, F__law_plus⟩ := i__law_plus
  have gm__law_plus := PySem.W.mg_of X G a__law_plus
  have b__law_plus := F__law_plus.binds (ps := ["one", "other"]) fun _ _ _ _ _ _ us hl => match us, hl with | [_, _], _ => rfl
  obtain ⟨f__law_times, a__law_times, fd__law_times, F__law_times⟩ := i__law_times
  have gm__law_times := PySem.W.mg_of X G a__law_times
  have b__law_times := F__law_times.binds (ps := ["one", "other"]) fun _ _ _ _ _ _ us hl => match us, hl with | [_, _], _ => rfl
  obtain ⟨f__law_least, a__law_least, fd__law_least, F__law_least⟩ := i__law_least
  have gm__law_least := PySem.W.mg_of X G a__law_least
  have b__law_least := F__law_least.binds (ps := ["level"]) fun _ _ _ _ _ _ us hl => match us, hl with | [_], _ => rfl
  obtain ⟨f__law_rest, a__law_rest, fd__law_rest, F__law_rest⟩ := i__law_rest
  have gm__law_rest := PySem.W.mg_of X G a__law_rest
  have b__law_rest := F__law_rest.binds (ps := ["row", "least"]) fun _ _ _ _ _ _ us hl => match us, hl with | [_, _], _ => rfl
  obtain ⟨f__law_whole, a__law_whole, fd__law_whole, F__law_whole⟩ := i__law_whole
  have gm__law_whole := PySem.W.mg_of X G a__law_whole
  have b__law_whole := F__law_whole.binds (ps := ["k", "least"]) fun _ _ _ _ _ _ us hl => match us, hl with | [_, _], _ => rfl
  obtain ⟨f__law_cleaned, a__law_cleaned, fd__law_cleaned, F__law_cleaned⟩ := i__law_cleaned
  have gm__law_cleaned := PySem.W.mg_of X G a__law_cleaned
  have b__law_cleaned := F__law_cleaned.binds (ps := ["row"]) fun _ _ _ _ _ _ us hl => match us, hl with | [_], _ => rfl
  obtain ⟨f__law_p_plus, a__law_p_plus, fd__law_p_plus, F__law_p_plus⟩ := i__law_p_plus
  have gm__law_p_plus := PySem.W.mg_of X G a__law_p_plus
  have b__law_p_plus := F__law_p_plus.binds (ps := ["one", "other"]) fun _ _ _ _ _ _ us hl => match us, hl with | [_, _], _ => rfl
  obtain ⟨f__law_p_times, a__law_p_times, fd__law_p_times, F__law_p_times⟩ := i__law_p_times
  have gm__law_p_times := PySem.W.mg_of X G a__law_p_times
  have b__law_p_times := F__law_p_times.binds (ps := ["one", "other"]) fun _ _ _ _ _ _ us hl => match us, hl with | [_, _], _ => rfl
  obtain ⟨f__law_divided, a__law_divided, fd__law_divided, F__law_divided⟩ := i__law_divided
  have gm__law_divided := PySem.W.mg_of X G a__law_divided
  have b__law_divided := F__law_divided.binds (ps := ["one", "other"]) fun _ _ _ _ _ _ us hl => match us, hl with | [_, _], _ => rfl
  obtain ⟨f__law_letters, a__law_letters, fd__law_letters, F__law_letters⟩ := i__law_letters
  have gm__law_letters := PySem.W.mg_of X G a__law_letters
  have b__law_letters := F__law_letters.binds (ps := ["n"]) fun _ _ _ _ _ _ us hl => match us, hl with | [_], _ => rfl
  obtain ⟨f__law_quotients, a__law_quotients, fd__law_quotients, F__law_quotients⟩ := i__law_quotients
  have gm__law_quotients := PySem.W.mg_of X G a__law_quotients
  have b__law_quotients := F__law_quotients.binds (ps := ["n", "letters"]) fun _ _ _ _ _ _ us hl => match us, hl with | [_, _], _ => rfl
  obtain ⟨f__law_same, a__law_same, fd__law_same, F__law_same⟩ := i__law_same
  have gm__law_same := PySem.W.mg_of X G a__law_same
  have b__law_same := F__law_same.binds (ps := ["told", "due"]) fun _ _ _ _ _ _ us hl => match us, hl with | [_, _], _ => rfl
  obtain ⟨f__law_caught, a__law_caught, fd__law_caught, F__law_caught⟩ := i__law_caught
  have gm__law_caught := PySem.W.mg_of X G a__law_caught
  have b__law_caught := F__law_caught.binds (ps := ["work"]) fun _ _ _ _ _ _ us hl => match us, hl with | [_], _ => rfl
  obtain ⟨f__law_is_bad_number, a__law_is_bad_number, fd__law_is_bad_number, F__law_is_bad_number⟩ := i__law_is_bad_number
  have gm__law_is_bad_number := PySem.W.mg_of X G a__law_is_bad_number
  have b__law_is_bad_number := F__law_is_bad_number.binds (ps := ["work", "part"]) fun _ _ _ _ _ _ us hl => match us, hl with | [_, _], _ => rfl
  obtain ⟨f__law_begun, a__law_begun, fd__law_begun, F__law_begun⟩ := i__law_begun
  have gm__law_begun := PySem.W.mg_of X G a__law_begun
  have b__law_begun := F__law_begun.binds (ps := ["script"]) fun _ _ _ _ _ _ us hl => match us, hl with | [_], _ => rfl
  refine ⟨K, PySem.W.fnOf "law" "law" (defArgs s_law) (defBody s_law) (defScope s_law) .none kV doc pm an (.ref cc) ct, cc, Pt, spLaw K Pt, X, hT, nT, PySem.W.codeHd_of_K X hcd, fun s v => .of_eq rfl, fun H a ns hl hbits hH hS hA hZ => ⟨a, ns, rfl, hS, hl, hbits, hH, fun z => ?_, fun _ => rfl⟩, fun base _ _ TB => ?_⟩
  · subst z
    obtain ⟨o, z⟩ := hZ (by rw [hH]; simp)
    rw [hH] at z
    cases z
  have D_is_whole := d_is_whole (w := w) (base := base) F_is_whole gm_is_whole b_is_whole M 
  have D_is_between := d_is_between (w := w) (base := base) F_is_between gm_is_between b_is_between M D_is_whole
  have D_need_between := d_need_between (w := w) (base := base) F_need_between gm_need_between b_need_between M D_is_between
  have D_is_level_told := d_is_level_told (w := w) (base := base) F_is_level_told gm_is_level_told b_is_level_told M D_is_between
  have D_need_level := d_need_level (w := w) (base := base) F_need_level gm_need_level b_need_level M D_is_level_told
  have D_least_told := d_least_told (w := w) (base := base) F_least_told gm_least_told b_least_told M 
  have D_cleaned := d_cleaned (w := w) (base := base) F_cleaned gm_cleaned b_cleaned M 
  have D_p_plus := d_p_plus (w := w) (base := base) F_p_plus gm_p_plus b_p_plus M D_cleaned
  have D_p_scaled := d_p_scaled (w := w) (base := base) F_p_scaled gm_p_scaled b_p_scaled M D_cleaned
  have D_p_minus := d_p_minus (w := w) (base := base) F_p_minus gm_p_minus b_p_minus M D_p_plus D_p_scaled
  have D_p_times := d_p_times (w := w) (base := base) F_p_times gm_p_times b_p_times M D_cleaned
  have D_p_exact := d_p_exact (w := w) (base := base) F_p_exact gm_p_exact b_p_exact M D_cleaned
  have D_p_rest := d_p_rest (w := w) (base := base) F_p_rest gm_p_rest b_p_rest M D_cleaned
  have D_p_at := d_p_at (w := w) (base := base) F_p_at gm_p_at b_p_at M 
  have D_is_polynomial_told := d_is_polynomial_told (w := w) (base := base) F_is_polynomial_told gm_is_polynomial_told b_is_polynomial_told M D_is_whole
  have D_need_polynomial := d_need_polynomial (w := w) (base := base) F_need_polynomial gm_need_polynomial b_need_polynomial M D_is_polynomial_told
  have D_need_few_figures := d_need_few_figures (w := w) (base := base) F_need_few_figures gm_need_few_figures b_need_few_figures M 
  have D_polynomial_at := d_polynomial_at (w := w) (base := base) F_polynomial_at gm_polynomial_at b_polynomial_at M D_need_between D_p_at D_need_polynomial
  have D_fractions := d_fractions (w := w) (base := base) F_fractions gm_fractions b_fractions M 
  have D_padded := d_padded (w := w) (base := base) F_padded gm_padded b_padded M D_least_told D_p_rest
  have D_n_of_polynomial := d_n_of_polynomial (w := w) (base := base) F_n_of_polynomial gm_n_of_polynomial b_n_of_polynomial M D_fractions D_padded
  have D_n_whole := d_n_whole (w := w) (base := base) F_n_whole gm_n_whole b_n_whole M D_n_of_polynomial
  have D_need_told := d_need_told (w := w) (base := base) F_need_told gm_need_told b_need_told M D_need_few_figures
  have D_whole_number := d_whole_number (w := w) (base := base) F_whole_number gm_whole_number b_whole_number M D_is_whole D_need_level D_n_whole
  have D_d_polynomials := d_d_polynomials (w := w) (base := base) F_d_polynomials gm_d_polynomials b_d_polynomials M D_p_minus
  have D_quotient_polynomials := d_quotient_polynomials (w := w) (base := base) F_quotient_polynomials gm_quotient_polynomials b_quotient_polynomials M D_p_times D_p_exact D_d_polynomials
  have D_quotient_told := d_quotient_told (w := w) (base := base) F_quotient_told gm_quotient_told b_quotient_told M D_n_of_polynomial D_quotient_polynomials
  have D_quotient := d_quotient (w := w) (base := base) F_quotient gm_quotient b_quotient M D_need_between D_need_level D_need_told D_quotient_told
  have D_quotients := d_quotients (w := w) (base := base) F_quotients gm_quotients b_quotients M D_need_between D_need_level D_n_of_polynomial D_need_told D_quotient_polynomials
  have D__law_blend := d__law_blend (w := w) (base := base) F__law_blend gm__law_blend b__law_blend M 
  have D__law_take := d__law_take (w := w) (base := base) F__law_take gm__law_take b__law_take M D__law_blend
  have D__law_pick := d__law_pick (w := w) (base := base) F__law_pick gm__law_pick b__law_pick M D__law_take
  have D__law_fraction := d__law_fraction (w := w) (base := base) F__law_fraction gm__law_fraction b__law_fraction M 
  have D__law_plus := d__law_plus (w := w) (base := base) F__law_plus gm__law_plus b__law_plus M D__law_fraction
  have D__law_times := d__law_times (w := w) (base := base) F__law_times gm__law_times b__law_times M D__law_fraction
  have D__law_least := d__law_least (w := w) (base := base) F__law_least gm__law_least b__law_least M 
  have D__law_rest := d__law_rest (w := w) (base := base) F__law_rest gm__law_rest b__law_rest M D__law_plus D__law_times
  have D__law_whole := d__law_whole (w := w) (base := base) F__law_whole gm__law_whole b__law_whole M D__law_rest
  have D__law_cleaned := d__law_cleaned (w := w) (base := base) F__law_cleaned gm__law_cleaned b__law_cleaned M 
  have D__law_p_plus := d__law_p_plus (w := w) (base := base) F__law_p_plus gm__law_p_plus b__law_p_plus M D__law_cleaned
  have D__law_p_times := d__law_p_times (w := w) (base := base) F__law_p_times gm__law_p_times b__law_p_times M D__law_cleaned
  have D__law_divided := d__law_divided (w := w) (base := base) F__law_divided gm__law_divided b__law_divided M D__law_fraction D__law_plus D__law_times
  have D__law_letters := d__law_letters (w := w) (base := base) F__law_letters gm__law_letters b__law_letters M D__law_p_plus
  have D__law_quotients := d__law_quotients (w := w) (base := base) F__law_quotients gm__law_quotients b__law_quotients M D__law_p_times D__law_divided
  have D__law_same := d__law_same (w := w) (base := base) F__law_same gm__law_same b__law_same M 
  have D__law_caught := d__law_caught (w := w) (base := base) 8 8 (by decide) F__law_caught gm__law_caught b__law_caught M 
  have D__law_is_bad_number := d__law_is_bad_number (w := w) (base := base) 9 8 (by decide) F__law_is_bad_number gm__law_is_bad_number b__law_is_bad_number M D__law_caught D__law_same
  have FB := fb_law (w := w) (base := base) F__law_begun M
  exact law_fn ll lc sc_law FB gm__law_begun F__law_begun.kp b__law_begun (by decide) rfl rfl rfl (fun A up s H W => ⟨.inl rfl, .inr rfl, rfl, rfl, rfl, rfl⟩)
    (fun A up s H W C a L Cc as cs ns B hL hs => d_law B hL hs TB M D_polynomial_at D_whole_number D_quotient D_quotients D__law_same D__law_least D__law_rest D__law_whole D__law_letters D__law_quotients D__law_take D__law_pick D__law_caught D__law_is_bad_number) law_true
end K06
open PySem PySem.W PyProof.Rows
set_option maxHeartbeats 0 in
theorem PySem.Challenge.cw_inallclosings_k06_whole_quotients_holds : PySem.Challenge.rw_inallclosings_k06_whole_quotients.Holds := by
  w_on; o_law; k_head; (case hw => w_witness2)
  k_fill
  refine DL.walk_ofG (l := PySem.Challenge.rw_inallclosings_k06_whole_quotients) (n := 63) (k := 11) (x := "script") rfl (by decide) rfl ⟨rfl, by decide, by decide⟩ ?F
  case F =>
    intro w mg fa h Y XP G hmg
    have KX := km_in_of Y
    refine' K06.all_mk (P := PySem.Challenge.rw_inallclosings_k06_whole_quotients.prog) (w := w) KX G hmg rfl (km_tabs_of Y _ (List.mem_singleton.mpr rfl)) ?nT ?hcd ?al ?ll ?lc ?i_is_whole ?i_is_between ?i_need_between ?i_is_level_told ?i_need_level ?i_least_told ?i_cleaned ?i_p_plus ?i_p_scaled ?i_p_minus ?i_p_times ?i_p_exact ?i_p_rest ?i_p_at ?i_is_polynomial_told ?i_need_polynomial ?i_need_few_figures ?i_polynomial_at ?i_fractions ?i_padded ?i_n_of_polynomial ?i_n_whole ?i_need_told ?i_whole_number ?i_d_polynomials ?i_quotient_polynomials ?i_quotient_told ?i_quotient ?i_quotients ?i__law_blend ?i__law_take ?i__law_pick ?i__law_fraction ?i__law_plus ?i__law_times ?i__law_least ?i__law_rest ?i__law_whole ?i__law_cleaned ?i__law_p_plus ?i__law_p_times ?i__law_divided ?i__law_letters ?i__law_quotients ?i__law_same ?i__law_caught ?i__law_is_bad_number ?i__law_begun ?z_isinstance ?z_int ?z_bool ?z_tuple ?z_list ?z_len ?z_range ?z_enumerate ?z_reversed ?z_abs ?z_max ?z_min ?z_all ?z_repr ?z_super ?z_gcd ?y_LEAST_LEVEL ?y_MOST_LEVEL ?y_MOST_DEGREE ?y_FIGURES ?y_MOST_QUOTIENT ?y_FAR ?y_BEYOND ?aD ?a_BadNumber ?x_BadNumber ?a_BadLevel ?x_BadLevel ?a_BadPolynomial ?x_BadPolynomial ?hcls
    (case al => k_is)
    (case ll => k_is)
    (case lc => k_is)
    (case nT => kernel_rfl)
    (case hcd => kernel_rfl)
    (case aD => k_is)
    (case a_BadNumber => k_is)
    (case a_BadLevel => k_is)
    (case a_BadPolynomial => k_is)
    (case i_is_whole => (refine' ⟨_, DL.inKd_mk ?a ?l ?c ?k⟩; (case a => k_is); (case l => k_is); (case c => k_is); (case k => k_is)))
    (case i_is_between => (refine' ⟨_, DL.inKd_mk ?a ?l ?c ?k⟩; (case a => k_is); (case l => k_is); (case c => k_is); (case k => k_is)))
    (case i_need_between => (refine' ⟨_, DL.inKd_mk ?a ?l ?c ?k⟩; (case a => k_is); (case l => k_is); (case c => k_is); (case k => k_is)))
    (case i_is_level_told => (refine' ⟨_, DL.inKd_mk ?a ?l ?c ?k⟩; (case a => k_is); (case l => k_is); (case c => k_is); (case k => k_is)))
    (case i_need_level => (refine' ⟨_, DL.inKd_mk ?a ?l ?c ?k⟩; (case a => k_is); (case l => k_is); (case c => k_is); (case k => k_is)))
    (case i_least_told => (refine' ⟨_, DL.inKd_mk ?a ?l ?c ?k⟩; (case a => k_is); (case l => k_is); (case c => k_is); (case k => k_is)))
    (case i_cleaned => (refine' ⟨_, DL.inKd_mk ?a ?l ?c ?k⟩; (case a => k_is); (case l => k_is); (case c => k_is); (case k => k_is)))
    (case i_p_plus => (refine' ⟨_, DL.inKd_mk ?a ?l ?c ?k⟩; (case a => k_is); (case l => k_is); (case c => k_is); (case k => k_is)))
    (case i_p_scaled => (refine' ⟨_, DL.inKd_mk ?a ?l ?c ?k⟩; (case a => k_is); (case l => k_is); (case c => k_is); (case k => k_is)))
    (case i_p_minus => (refine' ⟨_, DL.inKd_mk ?a ?l ?c ?k⟩; (case a => k_is); (case l => k_is); (case c => k_is); (case k => k_is)))
    (case i_p_times => (refine' ⟨_, DL.inKd_mk ?a ?l ?c ?k⟩; (case a => k_is); (case l => k_is); (case c => k_is); (case k => k_is)))
    (case i_p_exact => (refine' ⟨_, DL.inKd_mk ?a ?l ?c ?k⟩; (case a => k_is); (case l => k_is); (case c => k_is); (case k => k_is)))
    (case i_p_rest => (refine' ⟨_, DL.inKd_mk ?a ?l ?c ?k⟩; (case a => k_is); (case l => k_is); (case c => k_is); (case k => k_is)))
    (case i_p_at => (refine' ⟨_, DL.inKd_mk ?a ?l ?c ?k⟩; (case a => k_is); (case l => k_is); (case c => k_is); (case k => k_is)))
    (case i_is_polynomial_told => (refine' ⟨_, DL.inKd_mk ?a ?l ?c ?k⟩; (case a => k_is); (case l => k_is); (case c => k_is); (case k => k_is)))
    (case i_need_polynomial => (refine' ⟨_, DL.inKd_mk ?a ?l ?c ?k⟩; (case a => k_is); (case l => k_is); (case c => k_is); (case k => k_is)))
    (case i_need_few_figures => (refine' ⟨_, DL.inKd_mk ?a ?l ?c ?k⟩; (case a => k_is); (case l => k_is); (case c => k_is); (case k => k_is)))
    (case i_polynomial_at => (refine' ⟨_, DL.inKd_mk ?a ?l ?c ?k⟩; (case a => k_is); (case l => k_is); (case c => k_is); (case k => k_is)))
    (case i_fractions => (refine' ⟨_, DL.inKd_mk ?a ?l ?c ?k⟩; (case a => k_is); (case l => k_is); (case c => k_is); (case k => k_is)))
    (case i_padded => (refine' ⟨_, DL.inKd_mk ?a ?l ?c ?k⟩; (case a => k_is); (case l => k_is); (case c => k_is); (case k => k_is)))
    (case i_n_of_polynomial => (refine' ⟨_, DL.inKd_mk ?a ?l ?c ?k⟩; (case a => k_is); (case l => k_is); (case c => k_is); (case k => k_is)))
    (case i_n_whole => (refine' ⟨_, DL.inKd_mk ?a ?l ?c ?k⟩; (case a => k_is); (case l => k_is); (case c => k_is); (case k => k_is)))
    (case i_need_told => (refine' ⟨_, DL.inKd_mk ?a ?l ?c ?k⟩; (case a => k_is); (case l => k_is); (case c => k_is); (case k => k_is)))
    (case i_whole_number => (refine' ⟨_, DL.inKd_mk ?a ?l ?c ?k⟩; (case a => k_is); (case l => k_is); (case c => k_is); (case k => k_is)))
    (case i_d_polynomials => (refine' ⟨_, DL.inKd_mk ?a ?l ?c ?k⟩; (case a => k_is); (case l => k_is); (case c => k_is); (case k => k_is)))
    (case i_quotient_polynomials => (refine' ⟨_, DL.inKd_mk ?a ?l ?c ?k⟩; (case a => k_is); (case l => k_is); (case c => k_is); (case k => k_is)))
    (case i_quotient_told => (refine' ⟨_, DL.inKd_mk ?a ?l ?c ?k⟩; (case a => k_is); (case l => k_is); (case c => k_is); (case k => k_is)))
    (case i_quotient => (refine' ⟨_, DL.inKd_mk ?a ?l ?c ?k⟩; (case a => k_is); (case l => k_is); (case c => k_is); (case k => k_is)))
    (case i_quotients => (refine' ⟨_, DL.inKd_mk ?a ?l ?c ?k⟩; (case a => k_is); (case l => k_is); (case c => k_is); (case k => k_is)))
    (case i__law_blend => (refine' ⟨_, DL.inKd_mk ?a ?l ?c ?k⟩; (case a => k_is); (case l => k_is); (case c => k_is); (case k => k_is)))
    (case i__law_take => (refine' ⟨_, DL.inKd_mk ?a ?l ?c ?k⟩; (case a => k_is); (case l => k_is); (case c => k_is); (case k => k_is)))
    (case i__law_pick => (refine' ⟨_, DL.inKd_mk ?a ?l ?c ?k⟩; (case a => k_is); (case l => k_is); (case c => k_is); (case k => k_is)))
    (case i__law_fraction => (refine' ⟨_, DL.inKd_mk ?a ?l ?c ?k⟩; (case a => k_is); (case l => k_is); (case c => k_is); (case k => k_is)))
    (case i__law_plus => (refine' ⟨_, DL.inKd_mk ?a ?l ?c ?k⟩; (case a => k_is); (case l => k_is); (case c => k_is); (case k => k_is)))
    (case i__law_times => (refine' ⟨_, DL.inKd_mk ?a ?l ?c ?k⟩; (case a => k_is); (case l => k_is); (case c => k_is); (case k => k_is)))
    (case i__law_least => (refine' ⟨_, DL.inKd_mk ?a ?l ?c ?k⟩; (case a => k_is); (case l => k_is); (case c => k_is); (case k => k_is)))
    (case i__law_rest => (refine' ⟨_, DL.inKd_mk ?a ?l ?c ?k⟩; (case a => k_is); (case l => k_is); (case c => k_is); (case k => k_is)))
    (case i__law_whole => (refine' ⟨_, DL.inKd_mk ?a ?l ?c ?k⟩; (case a => k_is); (case l => k_is); (case c => k_is); (case k => k_is)))
    (case i__law_cleaned => (refine' ⟨_, DL.inKd_mk ?a ?l ?c ?k⟩; (case a => k_is); (case l => k_is); (case c => k_is); (case k => k_is)))
    (case i__law_p_plus => (refine' ⟨_, DL.inKd_mk ?a ?l ?c ?k⟩; (case a => k_is); (case l => k_is); (case c => k_is); (case k => k_is)))
    (case i__law_p_times => (refine' ⟨_, DL.inKd_mk ?a ?l ?c ?k⟩; (case a => k_is); (case l => k_is); (case c => k_is); (case k => k_is)))
    (case i__law_divided => (refine' ⟨_, DL.inKd_mk ?a ?l ?c ?k⟩; (case a => k_is); (case l => k_is); (case c => k_is); (case k => k_is)))
    (case i__law_letters => (refine' ⟨_, DL.inKd_mk ?a ?l ?c ?k⟩; (case a => k_is); (case l => k_is); (case c => k_is); (case k => k_is)))
    (case i__law_quotients => (refine' ⟨_, DL.inKd_mk ?a ?l ?c ?k⟩; (case a => k_is); (case l => k_is); (case c => k_is); (case k => k_is)))
    (case i__law_same => (refine' ⟨_, DL.inKd_mk ?a ?l ?c ?k⟩; (case a => k_is); (case l => k_is); (case c => k_is); (case k => k_is)))
    (case i__law_caught => (refine' ⟨_, DL.inKd_mk ?a ?l ?c ?k⟩; (case a => k_is); (case l => k_is); (case c => k_is); (case k => k_is)))
    (case i__law_is_bad_number => (refine' ⟨_, DL.inKd_mk ?a ?l ?c ?k⟩; (case a => k_is); (case l => k_is); (case c => k_is); (case k => k_is)))
    (case i__law_begun => (refine' ⟨_, DL.inKd_mk ?a ?l ?c ?k⟩; (case a => k_is); (case l => k_is); (case c => k_is); (case k => k_is)))
    (case z_isinstance => k_is)
    (case z_int => k_is)
    (case z_bool => k_is)
    (case z_tuple => k_is)
    (case z_list => k_is)
    (case z_len => k_is)
    (case z_range => k_is)
    (case z_enumerate => k_is)
    (case z_reversed => k_is)
    (case z_abs => k_is)
    (case z_max => k_is)
    (case z_min => k_is)
    (case z_all => k_is)
    (case z_repr => k_is)
    (case z_super => k_is)
    (case z_gcd => k_is)
    (case y_LEAST_LEVEL => k_is)
    (case y_MOST_LEVEL => k_is)
    (case y_MOST_DEGREE => k_is)
    (case y_FIGURES => k_is)
    (case y_MOST_QUOTIENT => k_is)
    (case y_FAR => k_is)
    (case y_BEYOND => (obtain ⟨v, e1, e2⟩ := XP.2.val _ (by first | exact List.mem_cons_self | simp); cases e2; exact ⟨_, e1⟩))
    (case hcls => kernel_rfl)
    (case x_BadNumber => (refine' K06.x1_BadNumber (PySem.W.mg_none_of KX G ?a) (PySem.W.mg_of KX G ?g) rfl ?l ?r ?sa ?s1 ?s2 ?s3 ?i ?ti ?li ?ci ?lc ?hv ?hf ?lcc ?opq ?hm ?hB ?hC ?hno rfl; (case a => k_is); (case g => k_is); (case l => k_is); (case r => kernel_rfl); (case sa => k_is); (case s1 => k_is); (case s2 => k_is); (case s3 => k_is); (case i => k_is); (case ti => k_is); (case li => k_is); (case ci => k_is); (case lc => k_is); (case hv => rfl); (case hf => kernel_rfl); (case lcc => k_is); (case opq => k_is); (case hm => kernel_rfl); (case hB => k_is); (case hC => k_is); (case hno => k_is)))
    (case x_BadLevel => k_exc)
    (case x_BadPolynomial => (refine' K06.x1_BadPolynomial (PySem.W.mg_none_of KX G ?a) (PySem.W.mg_of KX G ?g) rfl ?l ?r ?sa ?s1 ?s2 ?s3 ?i ?ti ?li ?ci ?lc ?hv ?hf ?lcc ?opq ?hm ?hB ?hC ?hno rfl; (case a => k_is); (case g => k_is); (case l => k_is); (case r => kernel_rfl); (case sa => k_is); (case s1 => k_is); (case s2 => k_is); (case s3 => k_is); (case i => k_is); (case ti => k_is); (case li => k_is); (case ci => k_is); (case lc => k_is); (case hv => rfl); (case hf => kernel_rfl); (case lcc => k_is); (case opq => k_is); (case hm => kernel_rfl); (case hB => k_is); (case hC => k_is); (case hno => k_is)))
#print axioms PySem.Challenge.cw_inallclosings_k06_whole_quotients_holds
