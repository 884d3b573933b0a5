import PyProof.Rows.All
import Wide.All
import OpenK.AllK
import Wide.FinOn
import HandS.ForMost
import HandS.Exc
import HandS.ExcInit
import HandS.ExcOwn
import HandS.TryOnly
import HandS.CallSlots
import HandS.Flow
import HandS.Wide
import HandS.WordsExc
import HandS.Deep
import HandS.ExcField
import HandS.ExcIs
import HandS.HeadHook1
import HandS.IsInst
import HandS.Defaults
import KE.KStateDown
import HandS.Ends
import HandS.Head0
import HandS.Head1
import HandS.Head2
import HandS.HeadEnd
import HandS.HeadHook2
import HandS.HeadHook4
import HandS.EndBits
import PySem.Challenge.RW_bestreply_k21_shares
set_option Elab.async false
set_option linter.all false
set_option maxRecDepth 100000
set_option maxHeartbeats 0
namespace DL
open PySem PySem.Spec PyProof.Rows L2
/-! ## deep values -/
inductive D where
  | unb
  | non
  | bl (b : Bool)
  | int (i : Int)
  | str (s : Str)
  | tup (l : List D)
  | lst (l : List D)
  | ins (c : Str) (l : List D)
  | ml (l : List D)
  | mi (c : Str) (l : List D)
instance : Inhabited D := ⟨.unb⟩
/-- the fields of the program's own classes, in the order in which they are stored -/
def flds (c : Str) : List Str :=
  if c = "Game" then ["called", "table"]
  else if c = "Trial" then ["mine", "its", "sizes", "more"]
  else if c = "Table" then ["wide", "lines", "chosen", "last"]
  else if c = "Book" then ["now", "held", "past", "on"]
  else if c = "Desk" then ["kept_book"]
  else []
/-- what stands behind the module's top -/
structure Mo where
  K : PySem.W.Frag
  mg : Str → Option Value
def Ex (H H' : Hp) : Prop := ∀ a o, H a = some o → H' a = some o
theorem Ex.refl (H : Hp) : Ex H H := fun _ _ h => h
theorem Ex.trans {H H1 H2 : Hp} (a : Ex H H1) (b : Ex H1 H2) : Ex H H2 := fun x o h => b x o (a x o h)
theorem Ex.new {H : Hp} {p : Addr} {o : HO} (h : H p = none) : Ex H (upd H p o) := fun a u e => by
  rw [upd_ne (ne_of_none e h)]
  exact e
theorem ex_l {K : PySem.W.Frag} {H H' : Hp} {a : Addr} {xs : List V} (e : Ex H H') (h : SqL K H a xs) : SqL K H' a xs := by
  rcases h with (h | ⟨o, h⟩) | h
  · exact .inl (.inl (e _ _ h))
  · exact .inl (.inr ⟨o, e _ _ h⟩)
  · exact .inr h
theorem ex_t {K : PySem.W.Frag} {H H' : Hp} {a : Addr} {xs : List V} (e : Ex H H') (h : SqT K H a xs) : SqT K H' a xs := by
  rcases h with (h | ⟨o, h⟩) | h
  · exact .inl (.inl (e _ _ h))
  · exact .inl (.inr ⟨o, e _ _ h⟩)
  · exact .inr h
/-! ## what a value stands for: frozen, owned -/
mutual
inductive Rp (M : Mo) (F : Hp) : D → V → Prop
  | non : Rp M F .non .non
  | bl (b : Bool) : Rp M F (.bl b) (.bl b)
  | int (i : Int) : Rp M F (.int i) (.int i)
  | str (s : Str) : Rp M F (.str s) (.str s)
  | tup {a : Addr} {xs : List V} {l : List D} : SqT M.K F a xs → RpL M F l xs → Rp M F (.tup l) (.ref a)
  | lst {a : Addr} {xs : List V} {l : List D} : SqL M.K F a xs → RpL M F l xs → Rp M F (.lst l) (.ref a)
  | ins {c : Str} {a C dx : Addr} {fs : List (Str × V)} {l : List D} : M.mg c = some (.ref C) → fs.map (·.1) = flds c → F a = some (.ins C dx fs) → RpL M F l (fs.map (·.2)) → Rp M F (.ins c l) (.ref a)
inductive RpL (M : Mo) (F : Hp) : List D → List V → Prop
  | nil : RpL M F [] []
  | cons {d : D} {l : List D} {v : V} {xs : List V} : Rp M F d v → RpL M F l xs → RpL M F (d :: l) (v :: xs)
end
mutual
theorem Rp.mono {M : Mo} {F F' : Hp} (e : Ex F F') : ∀ {d : D} {v : V}, Rp M F d v → Rp M F' d v
  | _, _, .non => .non
  | _, _, .bl b => .bl b
  | _, _, .int i => .int i
  | _, _, .str s => .str s
  | _, _, .tup h q => .tup (ex_t e h) (RpL.mono e q)
  | _, _, .lst h q => .lst (ex_l e h) (RpL.mono e q)
  | _, _, .ins h1 h0 h2 q => .ins h1 h0 (e _ _ h2) (RpL.mono e q)
theorem RpL.mono {M : Mo} {F F' : Hp} (e : Ex F F') : ∀ {l : List D} {xs : List V}, RpL M F l xs → RpL M F' l xs
  | _, _, .nil => .nil
  | _, _, .cons h q => .cons (h.mono e) (RpL.mono e q)
end
theorem RpL.length {M : Mo} {F : Hp} : ∀ {l : List D} {xs : List V}, RpL M F l xs → l.length = xs.length
  | _, _, .nil => rfl
  | _, _, .cons _ q => congrArg (· + 1) q.length
theorem RpL.get {M : Mo} {F : Hp} : ∀ {l : List D} {xs : List V} {i : Nat} {d : D}, RpL M F l xs → l[i]? = some d → ∃ v, xs[i]? = some v ∧ Rp M F d v
  | _, _, _, _, .nil, e => by simp at e
  | _, _, 0, _, .cons h _, e => by simp at e; subst e; exact ⟨_, rfl, h⟩
  | _, _, i + 1, _, .cons _ q, e => by
    obtain ⟨v, h1, h2⟩ := q.get (i := i) (by simpa using e)
    exact ⟨v, by simpa using h1, h2⟩
theorem RpL.getV {M : Mo} {F : Hp} : ∀ {l : List D} {xs : List V} {i : Nat} {v : V}, RpL M F l xs → xs[i]? = some v → ∃ d, l[i]? = some d ∧ Rp M F d v
  | _, _, _, _, .nil, e => by simp at e
  | _, _, 0, _, .cons h _, e => by simp at e; subst e; exact ⟨_, rfl, h⟩
  | _, _, i + 1, _, .cons _ q, e => by
    obtain ⟨v, h1, h2⟩ := q.getV (i := i) (by simpa using e)
    exact ⟨v, by simpa using h1, h2⟩
theorem RpL.append {M : Mo} {F : Hp} : ∀ {l m : List D} {xs ys : List V}, RpL M F l xs → RpL M F m ys → RpL M F (l ++ m) (xs ++ ys)
  | _, _, _, _, .nil, q => q
  | _, _, _, _, .cons h p, q => .cons h (p.append q)
theorem RpL.drop {M : Mo} {F : Hp} : ∀ {l : List D} {xs : List V} (n : Nat), RpL M F l xs → RpL M F (l.drop n) (xs.drop n)
  | _, _, 0, h => h
  | _, _, _ + 1, .nil => .nil
  | _, _, n + 1, .cons _ q => RpL.drop n q
theorem RpL.take {M : Mo} {F : Hp} : ∀ {l : List D} {xs : List V} (n : Nat), RpL M F l xs → RpL M F (l.take n) (xs.take n)
  | _, _, 0, _ => .nil
  | _, _, _ + 1, .nil => .nil
  | _, _, n + 1, .cons h q => .cons h (RpL.take n q)
theorem RpL.set {M : Mo} {F : Hp} {d : D} {v : V} (h : Rp M F d v) : ∀ {l : List D} {xs : List V} (n : Nat), RpL M F l xs → RpL M F (l.set n d) (xs.set n v)
  | _, _, _, .nil => .nil
  | _, _, 0, .cons _ q => .cons h q
  | _, _, n + 1, .cons p q => .cons p (RpL.set h n q)
theorem RpL.ints {M : Mo} {F : Hp} : ∀ (ns : List Int), RpL M F (ns.map D.int) (ns.map V.int)
  | [] => .nil
  | n :: r => .cons (.int n) (RpL.ints r)
theorem RpL.ints_inv {M : Mo} {F : Hp} : ∀ {ns : List Int} {xs : List V}, RpL M F (ns.map D.int) xs → xs = ns.map V.int
  | [], _, .nil => rfl
  | n :: r, _, .cons h q => by
    cases h
    rw [RpL.ints_inv q]
    rfl
abbrev Own := Addr → Option (List Nat)
mutual
inductive Ow (M : Mo) (W : Own) (F H : Hp) : List Nat → D → V → Prop
  | fz {p : List Nat} {d : D} {v : V} : Rp M F d v → Ow M W F H p d v
  | ml {p : List Nat} {a : Addr} {xs : List V} {l : List D} : W a = some p → H a = some (.lst xs) → OwL M W F H p 0 l xs → Ow M W F H p (.ml l) (.ref a)
  | mi {p : List Nat} {c : Str} {a C dx : Addr} {fs : List (Str × V)} {l : List D} : W a = some p → W dx = some p → dx ≠ a → M.mg c = some (.ref C) ∧ fs.map (·.1) = flds c → H a = some (.ins C dx fs) → H dx = some (.own a) →
      OwL M W F H p 0 l (fs.map (·.2)) → Ow M W F H p (.mi c l) (.ref a)
inductive OwL (M : Mo) (W : Own) (F H : Hp) : List Nat → Nat → List D → List V → Prop
  | nil {p : List Nat} {k : Nat} : OwL M W F H p k [] []
  | cons {p : List Nat} {k : Nat} {d : D} {l : List D} {v : V} {xs : List V} : Ow M W F H (p ++ [k]) d v → OwL M W F H p (k + 1) l xs → OwL M W F H p k (d :: l) (v :: xs)
end
mutual
theorem Ow.tr {M : Mo} {W W' : Own} {F F' H H' : Hp} (e : Ex F F') : ∀ {p p' : List Nat} {d : D} {v : V}, (∀ a q, W a = some (p ++ q) → W' a = some (p' ++ q) ∧ ∀ o, H a = some o → H' a = some o) → Ow M W F H p d v → Ow M W' F' H' p' d v
  | _, _, _, _, _, .fz h => .fz (h.mono e)
  | p, p', _, _, k, .ml (a := a) h1 h2 q => by
    have z := k a [] (by rw [List.append_nil]; exact h1)
    rw [List.append_nil] at z
    exact .ml z.1 (z.2 _ h2) (OwL.tr e (p := p) (p' := p') k q)
  | p, p', _, _, k, .mi (a := a) (dx := dx) h1 h2 h3 h4 h5 h6 q => by
    have z := k a [] (by rw [List.append_nil]; exact h1)
    have y := k dx [] (by rw [List.append_nil]; exact h2)
    rw [List.append_nil] at z y
    exact .mi z.1 y.1 h3 h4 (z.2 _ h5) (y.2 _ h6) (OwL.tr e (p := p) (p' := p') k q)
theorem OwL.tr {M : Mo} {W W' : Own} {F F' H H' : Hp} (e : Ex F F') : ∀ {p p' : List Nat} {k : Nat} {l : List D} {xs : List V}, (∀ a q, W a = some (p ++ q) → W' a = some (p' ++ q) ∧ ∀ o, H a = some o → H' a = some o) → OwL M W F H p k l xs → OwL M W' F' H' p' k l xs
  | _, _, _, _, _, _, .nil => .nil
  | p, p', j, _, _, k, .cons h q => .cons (Ow.tr e (p := p ++ [j]) (p' := p' ++ [j]) (fun a r z => by
      have y := k a ([j] ++ r) (by rw [← List.append_assoc]; exact z)
      rw [← List.append_assoc] at y
      exact y) h) (OwL.tr e k q)
end
/-! the owned thing, frozen -/
mutual
def frz : D → D
  | .ml l => .lst (frzL l)
  | .mi c l => .ins c (frzL l)
  | .unb => .unb
  | .non => .non
  | .bl b => .bl b
  | .int i => .int i
  | .str s => .str s
  | .tup l => .tup l
  | .lst l => .lst l
  | .ins c l => .ins c l
def frzL : List D → List D
  | [] => []
  | d :: l => frz d :: frzL l
end
theorem Rp.frz_eq {M : Mo} {F : Hp} {d : D} {v : V} (h : Rp M F d v) : frz d = d := by
  cases h <;> (unfold frz; rfl)
mutual
theorem Ow.frz {M : Mo} {W : Own} {F F' H : Hp} (e : Ex F F') : ∀ {p : List Nat} {d : D} {v : V}, (∀ a q o, W a = some (p ++ q) → H a = some o → F' a = some o) → Ow M W F H p d v → Rp M F' (frz d) v
  | _, _, _, _, .fz h => by
    rw [h.frz_eq]
    exact h.mono e
  | p, _, _, k, .ml (a := a) h1 h2 q => by
    unfold DL.frz
    exact .lst (SqL.of (k a [] _ (by rw [List.append_nil]; exact h1) h2)) (OwL.frz e k q)
  | p, _, _, k, .mi (a := a) h1 h2 h3 h4 h5 h6 q => by
    unfold DL.frz
    exact .ins h4.1 h4.2 (k a [] _ (by rw [List.append_nil]; exact h1) h5) (OwL.frz e k q)
theorem OwL.frz {M : Mo} {W : Own} {F F' H : Hp} (e : Ex F F') : ∀ {p : List Nat} {k : Nat} {l : List D} {xs : List V}, (∀ a q o, W a = some (p ++ q) → H a = some o → F' a = some o) → OwL M W F H p k l xs → RpL M F' (frzL l) xs
  | _, _, _, _, _, .nil => by
    unfold frzL
    exact .nil
  | p, j, _, _, k, .cons h q => by
    unfold frzL
    exact .cons (Ow.frz e (p := p ++ [j]) (fun a r o z y => k a ([j] ++ r) o (by rw [← List.append_assoc]; exact z) y) h) (OwL.frz e k q)
end
/-! ## the state of a body -/
structure Ent where
  H0 : Hp
  F0 : Hp
  W0 : Own
  P : Nat → Option V
structure RelB (e : Ent) (W : Own) (F H : Hp) : Prop where
  pres : ∀ b o, e.W0 b = none → e.H0 b = some o → H b = some o
  exF0 : Ex e.F0 F
  exF : Ex F H
  sep : ∀ a, W a ≠ none → F a = none ∧ (e.W0 a ≠ none ∨ e.H0 a = none) ∧ H a ≠ none
  fresh : ∀ a r q, W a = some (r :: q) → e.H0 a = none ∨ ∃ i v q0, r = i + 1 ∧ e.P i = some v ∧ e.W0 a = some (r :: q0)
  new : ∀ b, F b ≠ none → e.F0 b ≠ none ∨ e.H0 b = none
  stay : ∀ b, e.H0 b ≠ none → H b ≠ none
structure Rel (M : Mo) (e : Ent) (W : Own) (F H : Hp) (env : List D) (σ : L2.St) : Prop extends RelB e W F H where
  len : env.length = σ.length
  slot : ∀ i d, env[i]? = some d → d ≠ .unb → ∃ v, σ[i]? = some (some v) ∧ Ow M W F H [i + 1] d v
  pin : ∀ i v, e.P i = some v → σ[i]? = some (some v)
/-! ## results -/
inductive R (α : Type) where
  | ok (a : α) (env : List D)
  | ex (c : Str) (fs : List D) (env : List D)
  | bad
def bindR {α β : Type} (r : R α) (f : α → List D → R β) : R β := match r with
  | .ok a env => f a env
  | .ex c fs env => .ex c fs env
  | .bad => .bad
@[simp] theorem bindR_ok {α β : Type} (a : α) (env : List D) (f : α → List D → R β) : bindR (.ok a env) f = f a env := rfl
@[simp] theorem bindR_ex {α β : Type} (c : Str) (fs env : List D) (f : α → List D → R β) : bindR (.ex c fs env) f = .ex c fs env := rfl
@[simp] theorem bindR_bad {α β : Type} (f : α → List D → R β) : bindR .bad f = .bad := rfl
/-- the fields of the program's own exceptions -/
def eflds (c : Str) : List Str :=
  if c = "BadCount" then ["what", "count"]
  else if c = "NoName" then ["name"]
  else if c = "Twice" then ["name"]
  else if c = "NoSide" then ["side"]
  else if c = "NoChoice" then ["side", "choice"]
  else if c = "BadMix" then ["side"]
  else if c = "Uneven" then ["square"]
  else if c = "NoRing" then ["ranks"]
  else if c = "NoClaim" then ["name"]
  else if c = "Broken" then ["name"]
  else if c = "BadRow" then ["row", "place"]
  else []
/-- an exception of the class c, its fields in the order of eflds, as it lies behind -/
def XR (M : Mo) (F : Hp) (c : Str) (fs : List D) (cls : Value) (dd : Option Addr) : Prop :=
  ∃ C : Addr, cls = .ref C ∧ M.mg c = some (.ref C) ∧ ((fs = [] ∧ eflds c = [] ∧ dd = none) ∨ ∃ dx gs, eflds c ≠ [] ∧ dd = some dx ∧ F dx = some (.xd gs) ∧ gs.map (·.1) = (eflds c).reverse ∧ RpL M F fs.reverse (gs.map (·.2)))
theorem XR.mono {M : Mo} {F F' : Hp} {c : Str} {fs : List D} {cls : Value} {dd : Option Addr} (h : XR M F c fs cls dd) (e : Ex F F') : XR M F' c fs cls dd := by
  obtain ⟨C, h1, h2, h3⟩ := h
  refine ⟨C, h1, h2, ?_⟩
  rcases h3 with h3 | ⟨dx, gs, h0, h4, h5, h6, h7⟩
  · exact .inl h3
  · exact .inr ⟨dx, gs, h0, h4, e _ _ h5, h6, h7.mono e⟩
section
variable {α β : Type} (M : Mo) (e : Ent) (wx : WX) (rep : Hp → α → β → Prop)
def At (F : Hp) (σ : L2.St) (r : R α) (Q : β → Hp → Prop) : Prop := match r with
  | .ok d env' => ∀ W' F' H' v, Rel M e W' F' H' env' σ → Ex F F' → rep F' d v → Q v H'
  | .ex c fs env' => ∀ W' F' H' cls dd, Rel M e W' F' H' env' σ → Ex F F' → XR M F' c fs cls dd → wx cls dd σ H'
  | .bad => False
def tR (den : List D → R α) : L2.St → Hp → (β → Hp → Prop) → Prop := fun σ H Q => ∃ W F env, Rel M e W F H env σ ∧ At M e wx rep F σ (den env) Q
end
/-- the frame of a judgement: what stood at the entry, what the code wishes of exceptions -/
structure J where
  e : Ent
  wx : WX
abbrev tE (M : Mo) (j : J) (den : List D → R D) : TE := tR M j.e j.wx (Rp M) den
abbrev tT (M : Mo) (j : J) (den : List D → R Bool) : TT := tR M j.e j.wx (fun _ a b => a = b) den
abbrev tA (M : Mo) (j : J) (den : List D → R (List D)) : TA := tR M j.e j.wx (RpL M) den
abbrev mo (X : Cx) : Mo := ⟨X.K, X.mg⟩
abbrev DE (X : Cx) (j : J) (e : Expr) (den : List D → R D) : Prop := PE X e (tE (mo X) j den)
abbrev DT (X : Cx) (j : J) (e : Expr) (den : List D → R Bool) : Prop := PT X e (tT (mo X) j den)
abbrev DA (X : Cx) (j : J) (es : List Expr) (den : List D → R (List D)) : Prop := PA X es (tA (mo X) j den)
/-- what is new is new, in what is known and in the heap -/
structure Grow (F H F' H' : Hp) : Prop where
  exF : Ex F F'
  exH : Ex H H'
  sub : Ex F' H'
  new : ∀ b, F' b ≠ none → F b ≠ none ∨ H b = none
theorem Grow.refl {F H : Hp} (e : Ex F H) : Grow F H F H := ⟨Ex.refl F, Ex.refl H, e, fun _ h => .inl h⟩
theorem Ex.none {F H : Hp} (e : Ex F H) {b : Addr} (h : H b = Option.none) : F b = Option.none := by
  cases q : F b with
  | none => rfl
  | some o =>
    rw [e b o q] at h
    cases h
theorem Grow.one {F H : Hp} (e : Ex F H) {p : Addr} {o : HO} (n : H p = none) : Grow F H (upd F p o) (upd H p o) :=
  ⟨Ex.new (e.none n), Ex.new n, fun b u q => by
    by_cases h : b = p
    · subst h
      rw [upd_same] at q ⊢
      exact q
    · rw [upd_ne h] at q ⊢
      exact e b u q, fun b h => by
    by_cases hb : b = p
    · subst hb
      exact .inr n
    · rw [upd_ne hb] at h
      exact .inl h⟩
theorem Grow.trans {F H F1 H1 F2 H2 : Hp} (a : Grow F H F1 H1) (b : Grow F1 H1 F2 H2) : Grow F H F2 H2 :=
  ⟨a.exF.trans b.exF, a.exH.trans b.exH, b.sub, fun c h => by
    rcases b.new c h with h | h
    · exact a.new c h
    · exact .inr (a.exH.none h)⟩
theorem RelB.grow {e : Ent} {W : Own} {F H F' H' : Hp} (r : RelB e W F H) (g : Grow F H F' H') : RelB e W F' H' where
  pres := fun b o h1 h2 => g.exH _ _ (r.pres b o h1 h2)
  exF0 := r.exF0.trans g.exF
  exF := g.sub
  sep := fun a ha => by
    obtain ⟨h1, h2, h3⟩ := r.sep a ha
    refine ⟨?_, h2, ?_⟩
    · cases q : F' a with
      | none => rfl
      | some o =>
        rcases g.new a (by rw [q]; simp) with h | h
        · exact absurd h1 h
        · exact absurd h h3
    · cases q : H a with
      | none => exact absurd q h3
      | some o => rw [g.exH a o q]; simp
  new := fun b hb => by
    rcases g.new b hb with h | h
    · exact r.new b h
    · refine .inr ?_
      cases q : e.H0 b with
      | none => rfl
      | some o => exact absurd h (r.stay b (by rw [q]; simp))
  stay := fun b hb => by
    have h := r.stay b hb
    cases q : H b with
    | none => exact absurd q h
    | some o => rw [g.exH b o q]; simp
  fresh := r.fresh
theorem Rel.grow {M : Mo} {e : Ent} {W : Own} {F H F' H' : Hp} {env : List D} {σ : L2.St} (r : Rel M e W F H env σ) (g : Grow F H F' H') : Rel M e W F' H' env σ where
  toRelB := r.toRelB.grow g
  len := r.len
  slot := fun i d h1 h2 => by
    obtain ⟨v, h3, h4⟩ := r.slot i d h1 h2
    exact ⟨v, h3, h4.tr g.exF fun a q z => ⟨z, fun o y => g.exH a o y⟩⟩
  pin := r.pin
theorem At.mono {α β : Type} {M : Mo} {e : Ent} {wx : WX} {rep : Hp → α → β → Prop} {F F1 : Hp} {σ : L2.St} {r : R α} {Q : β → Hp → Prop} (h : At M e wx rep F σ r Q) (x : Ex F F1) : At M e wx rep F1 σ r Q := by
  cases r with
  | ok d env' => exact fun W' F' H' v a b c => h W' F' H' v a (x.trans b) c
  | ex c fs env' => exact fun W' F' H' cls dd a b c => h W' F' H' cls dd a (x.trans b) c
  | bad => exact h
/-- one thing behind another one -/
theorem At.bind {α β γ δ : Type} {M : Mo} {e : Ent} {wx : WX} {rep : Hp → α → β → Prop} {rep2 : Hp → γ → δ → Prop} {F : Hp} {σ : L2.St} {r : R α} {f : α → List D → R γ} {Q : δ → Hp → Prop} {P : β → Hp → Prop}
    (h : At M e wx rep2 F σ (bindR r f) Q)
    (k : ∀ d env1 W1 F1 H1 v, r = .ok d env1 → Rel M e W1 F1 H1 env1 σ → Ex F F1 → rep F1 d v → At M e wx rep2 F1 σ (f d env1) Q → P v H1) : At M e wx rep F σ r P := by
  cases r with
  | ok d env' => exact fun W' F' H' v a b c => k d env' W' F' H' v rfl a b c (h.mono b)
  | ex c fs env' => exact h
  | bad => exact h
theorem At.now {α β : Type} {M : Mo} {e : Ent} {wx : WX} {rep : Hp → α → β → Prop} {F : Hp} {W : Own} {H : Hp} {σ : L2.St} {d : α} {env : List D} {v : β} {Q : β → Hp → Prop} (h : At M e wx rep F σ (.ok d env) Q) (r : Rel M e W F H env σ) (p : rep F d v) : Q v H := h W F H v r (Ex.refl F) p
theorem PE.mono {X : Cx} {e : Expr} {t t' : TE} (h : PE X e t) (k : ∀ σ H Q, t' σ H Q → t σ H Q) : PE X e t' := ⟨fun pins s σ H Q I q => h.run pins s σ H Q I (k σ H Q q)⟩
theorem PT.mono {X : Cx} {e : Expr} {t t' : TT} (h : PT X e t) (k : ∀ σ H Q, t' σ H Q → t σ H Q) : PT X e t' := ⟨fun pins s σ H Q I q => h.run pins s σ H Q I (k σ H Q q)⟩
theorem PW.mono {X : Cx} {e : Expr} {t t' : TT} (h : PW X e t) (k : ∀ σ H Q, t' σ H Q → t σ H Q) : PW X e t' := ⟨fun whole pins s σ H Q I q => h.run whole pins s σ H Q I (k σ H Q q)⟩
theorem PA.mono {X : Cx} {e : List Expr} {t t' : TA} (h : PA X e t) (k : ∀ σ H Q, t' σ H Q → t σ H Q) : PA X e t' := ⟨fun pos pins s σ H Q I q => h.run pos pins s σ H Q I (k σ H Q q)⟩
theorem PS.mono {X : Cx} {e : Stmt} {t t' : TS} (h : PS X e t) (k : ∀ D σ H, t' D σ H → t D σ H) : PS X e t' := ⟨fun pins s σ H D I q => h.run pins s σ H D I (k D σ H q)⟩
theorem PSs.mono {X : Cx} {e : List Stmt} {t t' : TS} (h : PSs X e t) (k : ∀ D σ H, t' D σ H → t D σ H) : PSs X e t' := ⟨fun pins s σ H D I q => h.run pins s σ H D I (k D σ H q)⟩
theorem PI.mono {X : Cx} {tg iter : Expr} {t t' : TI} (h : PI X tg iter t) (k : ∀ σ H R, t' σ H R → t σ H R) : PI X tg iter t' := ⟨fun pins s σ H R I q => h.run pins s σ H R I (k σ H R q)⟩
section
variable {α β : Type} {M : Mo} {e : Ent} {wx : WX} {rep : Hp → α → β → Prop} {F F' H H' : Hp} {W : Own} {env : List D} {σ : L2.St}
/-- a thing that only makes new objects -/
theorem At.grow {d : α} {v : β} {Q : β → Hp → Prop} (h : At M e wx rep F σ (.ok d env) Q) (r : Rel M e W F H env σ) (g : Grow F H F' H') (p : rep F' d v) : Q v H' := h W F' H' v (r.grow g) g.exF p
end
end DL
namespace DL
open PySem PySem.Spec PyProof.Rows L2
/-! ## operators on values -/
def OpD (X : Cx) (op : Value → Value → Sem Value) (f : D → D → Option D) : Prop :=
  ∀ (pins : List (Addr × Obj)) (s : Shared) (σ : L2.St) (F H : Hp) (dx dy d : D) (x y : V) (v u : Value) (Q : VK), Inv X pins σ H s → Ex F H → Rp (mo X) F dx x → Rp (mo X) F dy y → RelV x v → RelV y u →
    f dx dy = some d → (∀ F' H' z, Grow F H F' H' → Rp (mo X) F' d z → Q z H') → wpAny (model X.prog X.w) X.A (op v u) (EP X pins σ Q) X.xe s
def UnD (X : Cx) (op : Value → Sem Value) (f : D → Option D) : Prop :=
  ∀ (pins : List (Addr × Obj)) (s : Shared) (σ : L2.St) (F H : Hp) (dx d : D) (x : V) (v : Value) (Q : VK), Inv X pins σ H s → Ex F H → Rp (mo X) F dx x → RelV x v →
    f dx = some d → (∀ F' H' z, Grow F H F' H' → Rp (mo X) F' d z → Q z H') → wpAny (model X.prog X.w) X.A (op v) (EP X pins σ Q) X.xe s
/-- a built-in that is called -/
def CallD (X : Cx) (g : Value) (f : List D → Option D) : Prop :=
  ∀ (pins : List (Addr × Obj)) (s : Shared) (σ : L2.St) (F H : Hp) (ds : List D) (d : D) (xs : List V) (us : List Value) (Q : VK), Inv X pins σ H s → Ex F H → RpL (mo X) F ds xs → Vals xs us →
    f ds = some d → (∀ F' H' z, Grow F H F' H' → Rp (mo X) F' d z → Q z H') → wpAny (model X.prog X.w) X.A (call g us) (EP X pins σ Q) X.xe s
/-- a subscript -/
def IxD (X : Cx) (f : D → D → Option D) : Prop := OpD X getItem f
def opR (o : Option D) (env : List D) : R D := match o with
  | some d => .ok d env
  | none => .bad
@[simp] theorem opR_some (d : D) (env : List D) : opR (some d) env = .ok d env := rfl
@[simp] theorem opR_none (env : List D) : opR none env = .bad := rfl
def rOpD (X : Cx) (f : D → D → Option D) : R2 := fun x y H Q => ∃ F dx dy d, Ex F H ∧ Rp (mo X) F dx x ∧ Rp (mo X) F dy y ∧ f dx dy = some d ∧ ∀ F' H' z, Grow F H F' H' → Rp (mo X) F' d z → Q z H'
theorem OpD.r {X : Cx} {op : Value → Value → Sem Value} {f : D → D → Option D} (h : OpD X op f) : OpR X op (rOpD X f) := fun pins s σ H x y v u Q I rx ry ⟨F, dx, dy, d, e, p1, p2, e1, q⟩ =>
  h pins s σ F H dx dy d x y v u Q I e p1 p2 rx ry e1 q
def rUnD (X : Cx) (f : D → Option D) : V → Hp → VK → Prop := fun x H Q => ∃ F dx d, Ex F H ∧ Rp (mo X) F dx x ∧ f dx = some d ∧ ∀ F' H' z, Grow F H F' H' → Rp (mo X) F' d z → Q z H'
theorem UnD.r {X : Cx} {op : Value → Sem Value} {f : D → Option D} (h : UnD X op f) : UnR X op (rUnD X f) := fun pins s σ H x v Q I rx ⟨F, dx, d, e, p1, e1, q⟩ =>
  h pins s σ F H dx d x v Q I e p1 rx e1 q
def rCallD (X : Cx) (f : List D → Option D) : List V → Hp → VK → Prop := fun xs H Q => ∃ F ds d, Ex F H ∧ RpL (mo X) F ds xs ∧ f ds = some d ∧ ∀ F' H' z, Grow F H F' H' → Rp (mo X) F' d z → Q z H'
theorem CallD.r {X : Cx} {g : Value} {f : List D → Option D} (h : CallD X g f) : CallR X g (rCallD X f) := fun pins s σ H xs us Q I rx ⟨F, ds, d, e, p1, e1, q⟩ =>
  h pins s σ F H ds d xs us Q I e p1 rx e1 q
/-! ## denotations -/
def constD (d : D) : List D → R D := fun env => .ok d env
def isOwn : D → Bool
  | .ml _ => true
  | .mi _ _ => true
  | .unb => true
  | _ => false
def varD (i : Nat) : List D → R D := fun env => if isOwn (env.getD i .unb) then .bad else .ok (env.getD i .unb) env
def binD (f : D → D → Option D) (da db : List D → R D) : List D → R D := fun env => bindR (da env) fun x env1 => bindR (db env1) fun y env2 => opR (f x y) env2
def unD (f : D → Option D) (da : List D → R D) : List D → R D := fun env => bindR (da env) fun x env1 => opR (f x) env1
def nilD : List D → R (List D) := fun env => .ok [] env
def consD (da : List D → R D) (dr : List D → R (List D)) : List D → R (List D) := fun env => bindR (da env) fun x env1 => bindR (dr env1) fun xs env2 => .ok (x :: xs) env2
def callBD (f : List D → Option D) (da : List D → R (List D)) : List D → R D := fun env => bindR (da env) fun xs env1 => opR (f xs) env1
def testD (da : List D → R D) : List D → R Bool := fun env => bindR (da env) fun x env1 => match x with
  | .bl b => .ok b env1
  | _ => .bad
def andD (da db : List D → R Bool) : List D → R Bool := fun env => bindR (da env) fun b env1 => if b = true then db env1 else .ok false env1
def orD (da db : List D → R Bool) : List D → R Bool := fun env => bindR (da env) fun b env1 => if b = true then .ok true env1 else db env1
def notD (da : List D → R Bool) : List D → R Bool := fun env => bindR (da env) fun b env1 => .ok (!b) env1
def blD (da : List D → R Bool) : List D → R D := fun env => bindR (da env) fun b env1 => .ok (.bl b) env1
def ifD (dt : List D → R Bool) (da db : List D → R D) : List D → R D := fun env => bindR (dt env) fun b env1 => if b = true then da env1 else db env1
def tupD (da : List D → R (List D)) : List D → R D := fun env => bindR (da env) fun xs env1 => if xs.length ≤ 1000 then .ok (.tup xs) env1 else .bad
def lstD (da : List D → R (List D)) : List D → R D := fun env => bindR (da env) fun xs env1 => if xs.length ≤ 1000 then .ok (.lst xs) env1 else .bad
theorem le_line {n : Nat} (h : n ≤ 1000) : n ≤ sizeLine := Nat.le_trans h (by decide)
section
variable {X : Cx} {j : J} {a b c : Expr} {es : List Expr} {pos : Pos} {da db dc : List D → R D} {dt du : List D → R Bool} {dl : List D → R (List D)}
theorem e_const {e : Expr} {d : D} {v : V} (h : PE X e (tC v)) (r : ∀ F, Rp (mo X) F d v) : DE X j e (constD d) :=
  PE.mono h fun σ H Q ⟨W, F, env, rel, q⟩ => q W F H v rel (Ex.refl F) (r F)
theorem e_int {i : Int} {k : Nat} : DE X j (.Constant (.int i) k pos) (constD (.int i)) := e_const pe_int fun _ => .int i
theorem e_bl {i : Bool} {k : Nat} : DE X j (.Constant (.bool i) k pos) (constD (.bl i)) := e_const pe_bl fun _ => .bl i
theorem e_non {k : Nat} : DE X j (.Constant .none k pos) (constD .non) := e_const pe_non fun _ => .non
theorem e_str {i : Str} {k : Nat} : DE X j (.Constant (.str i) k pos) (constD (.str i)) := e_const pe_str fun _ => .str i
/-- a constant of the module -/
theorem e_glob {x : Str} {v : V} {u : Value} {d : D} (hg : Gl X x) (hm : X.mg x = some u) (r : RelV v u) (p : ∀ F, Rp (mo X) F d v) (hd : (x == ("__debug__" : Str)) = false := by decide) : DE X j (.Name x pos) (constD d) := e_const (pe_glob hg hm r hd) p
theorem Ow.rp {M : Mo} {W : Own} {F H : Hp} {p : List Nat} {d : D} {v : V} (h : Ow M W F H p d v) (n : isOwn d = false) : Rp M F d v := by
  cases h with
  | fz h => exact h
  | ml _ _ _ => exact absurd n (by unfold isOwn; simp)
  | mi _ _ _ _ _ _ _ => exact absurd n (by unfold isOwn; simp)
theorem getD_some {env : List D} {i : Nat} (h : isOwn (env.getD i .unb) = false) : env[i]? = some (env.getD i .unb) ∧ env.getD i .unb ≠ .unb := by
  constructor
  · rw [List.getD_eq_getElem?_getD] at h ⊢
    cases q : env[i]? with
    | none => rw [q] at h; exact absurd h (by unfold isOwn; simp)
    | some d => rfl
  · intro e
    rw [e] at h
    exact absurd h (by unfold isOwn; simp)
theorem e_var (i : Nat) {x : Str} (h : PE X (.Name x pos) (tVar i)) : DE X j (.Name x pos) (varD i) :=
  PE.mono h fun σ H Q ⟨W, F, env, rel, q⟩ => by
    unfold varD at q
    cases o : isOwn (env.getD i .unb) with
    | true => rw [o, if_pos rfl] at q; exact q.elim
    | false =>
      rw [o, if_neg (by simp)] at q
      obtain ⟨h1, h2⟩ := getD_some o
      obtain ⟨v, h3, h4⟩ := rel.slot i _ h1 h2
      exact ⟨v, h3, q W F H v rel (Ex.refl F) (h4.rp o)⟩
theorem e_bin {op : Operator} {f : D → D → Option D} (ho : OpD X (binaryOp op) f) (ha : DE X j a da) (hb : DE X j b db) : DE X j (.BinOp a op b pos) (binD f da db) :=
  PE.mono (pe_op ho.r ha hb) fun σ H Q ⟨W, F, env, rel, q⟩ => ⟨W, F, env, rel, At.bind q fun d env1 W1 F1 H1 v _ r1 x1 p1 q1 => ⟨W1, F1, env1, r1, At.bind q1 fun d2 env2 W2 F2 H2 v2 _ r2 x2 p2 q2 => by
    cases o : f d d2 with
    | none => rw [o] at q2; exact q2.elim
    | some z =>
      rw [o] at q2
      exact ⟨F2, d, d2, z, r2.exF, p1.mono x2, p2, o, fun F' H' y g p => At.grow q2 r2 g p⟩⟩⟩
theorem e_cmp {op : CmpOp} {f : D → D → Option D} (ho : OpD X (compareOp op) f) (ha : DE X j a da) (hb : DE X j b db) (hm : behindInMarks op b = false) : DE X j (.Compare a [op] [b] pos) (binD f da db) :=
  PE.mono (pe_cmpR ho.r ha hb hm) fun σ H Q ⟨W, F, env, rel, q⟩ => ⟨W, F, env, rel, At.bind q fun d env1 W1 F1 H1 v _ r1 x1 p1 q1 => ⟨W1, F1, env1, r1, At.bind q1 fun d2 env2 W2 F2 H2 v2 _ r2 x2 p2 q2 => by
    cases o : f d d2 with
    | none => rw [o] at q2; exact q2.elim
    | some z =>
      rw [o] at q2
      exact ⟨F2, d, d2, z, r2.exF, p1.mono x2, p2, o, fun F' H' y g p => At.grow q2 r2 g p⟩⟩⟩
theorem e_un {op : UnaryOp} {f : D → Option D} (ho : UnD X (unaryOp op) f) (ha : DE X j a da) : DE X j (.UnaryOp op a pos) (unD f da) :=
  PE.mono (pe_un ho.r ha) fun σ H Q ⟨W, F, env, rel, q⟩ => ⟨W, F, env, rel, At.bind q fun d env1 W1 F1 H1 v _ r1 x1 p1 q1 => by
    cases o : f d with
    | none => rw [o] at q1; exact q1.elim
    | some z =>
      rw [o] at q1
      exact ⟨F1, d, z, r1.exF, p1, o, fun F' H' y g p => At.grow q1 r1 g p⟩⟩
/-- an expression as a test -/
theorem t_of {t : TE} (h : PT X a (tB t)) (k : ∀ σ H Q, tE (mo X) j da σ H Q → t σ H Q) : DT X j a (testD da) :=
  PT.mono h fun σ H Q ⟨W, F, env, rel, q⟩ => k σ H _ ⟨W, F, env, rel, At.bind q fun d env1 W1 F1 H1 v _ r1 x1 p1 q1 => by
    cases p1 with
    | bl b => exact ⟨b, rfl, q1 W1 F1 H1 b r1 (Ex.refl F1) rfl⟩
    | _ => exact q1.elim⟩
theorem t_val (h : DE X j a da) (he : ∀ whole, isTrue a X.env whole = (do let v ← whole; standAt a.pos; holding [v] (truthy v)) := by intro _; rfl) : DT X j a (testD da) := t_of (pt_val h he) fun _ _ _ q => q
theorem t_cmp {op : CmpOp} {f : D → D → Option D} (ho : OpD X (compareOp op) f) (ha : DE X j a da) (hb : DE X j b db) (hm : behindInMarks op b = false) : DT X j (.Compare a [op] [b] pos) (testD (binD f da db)) := by
  refine PT.mono (pt_cmpR ho.r ha hb hm) fun σ H Q ⟨W, F, env, rel, q⟩ => ?_
  refine ⟨W, F, env, rel, ?_⟩
  have q : At (mo X) j.e j.wx (fun _ a b => a = b) F σ (bindR (da env) fun x env1 => bindR (bindR (db env1) fun y env2 => opR (f x y) env2) fun z env3 => match z with
    | .bl b => .ok b env3
    | _ => .bad) Q := by
    show At (mo X) j.e j.wx (fun _ a b => a = b) F σ _ Q
    have e : testD (binD f da db) env = (bindR (da env) fun x env1 => bindR (bindR (db env1) fun y env2 => opR (f x y) env2) fun z env3 => match z with
      | .bl b => .ok b env3
      | _ => .bad) := by
      unfold testD binD
      cases da env <;> rfl
    rw [← e]
    exact q
  refine At.bind q fun d env1 W1 F1 H1 v _ r1 x1 p1 q1 => ⟨W1, F1, env1, r1, ?_⟩
  have q1 : At (mo X) j.e j.wx (fun _ a b => a = b) F1 σ (bindR (db env1) fun y env2 => bindR (opR (f d y) env2) fun z env3 => match z with
    | .bl b => .ok b env3
    | _ => .bad) Q := by
    have e : (bindR (bindR (db env1) fun y env2 => opR (f d y) env2) fun z env3 => match z with
      | .bl b => (.ok b env3 : R Bool)
      | _ => .bad) = (bindR (db env1) fun y env2 => bindR (opR (f d y) env2) fun z env3 => match z with
      | .bl b => .ok b env3
      | _ => .bad) := by
      cases db env1 <;> rfl
    rw [← e]
    exact q1
  refine At.bind q1 fun d2 env2 W2 F2 H2 v2 _ r2 x2 p2 q2 => ?_
  cases o : f d d2 with
  | none => rw [o] at q2; exact q2.elim
  | some z =>
    rw [o] at q2
    refine ⟨F2, d, d2, z, r2.exF, p1.mono x2, p2, o, fun F' H' y g p => ?_⟩
    cases p with
    | bl b => exact ⟨b, rfl, q2 W2 F' H' b (r2.grow g) g.exF rfl⟩
    | _ => exact q2.elim
theorem t_and1 (ha : DT X j a dt) : PW X (.BoolOp .And [a] pos) (tT (mo X) j dt) := pw_and1 ha
theorem t_or1 (ha : DT X j a dt) : PW X (.BoolOp .Or [a] pos) (tT (mo X) j dt) := pw_or1 ha
theorem t_and (ha : DT X j a dt) (hb : PW X (.BoolOp .And (b :: es) pos) (tT (mo X) j du)) : PW X (.BoolOp .And (a :: b :: es) pos) (tT (mo X) j (andD dt du)) :=
  PW.mono (pw_and ha hb) fun σ H Q ⟨W, F, env, rel, q⟩ => ⟨W, F, env, rel, At.bind q fun d env1 W1 F1 H1 v _ r1 x1 p1 q1 => by
    subst p1
    cases d with
    | true => exact ⟨W1, F1, env1, r1, q1⟩
    | false => exact q1 W1 F1 H1 false r1 (Ex.refl F1) rfl⟩
theorem t_or (ha : DT X j a dt) (hb : PW X (.BoolOp .Or (b :: es) pos) (tT (mo X) j du)) : PW X (.BoolOp .Or (a :: b :: es) pos) (tT (mo X) j (orD dt du)) :=
  PW.mono (pw_or ha hb) fun σ H Q ⟨W, F, env, rel, q⟩ => ⟨W, F, env, rel, At.bind q fun d env1 W1 F1 H1 v _ r1 x1 p1 q1 => by
    subst p1
    cases d with
    | true => exact q1 W1 F1 H1 true r1 (Ex.refl F1) rfl
    | false => exact ⟨W1, F1, env1, r1, q1⟩⟩
theorem t_pw (h : PW X a (tT (mo X) j dt)) : DT X j a dt := h.pt
theorem t_not (ha : DT X j a dt) : DT X j (.UnaryOp .Not a pos) (notD dt) :=
  PT.mono (pt_not ha) fun σ H Q ⟨W, F, env, rel, q⟩ => ⟨W, F, env, rel, At.bind q fun d env1 W1 F1 H1 v _ r1 x1 p1 q1 => by
    subst p1
    exact q1 W1 F1 H1 (!d) r1 (Ex.refl F1) rfl⟩
/-- not, and, or as values -/
theorem e_not (ha : DE X j a da) : DE X j (.UnaryOp .Not a pos) (blD (notD (testD da))) :=
  PE.mono (pe_not ha) fun σ H Q ⟨W, F, env, rel, q⟩ => ⟨W, F, env, rel, by
    have q : At (mo X) j.e j.wx (Rp (mo X)) F σ (bindR (da env) fun x env1 => match x with
      | .bl b => .ok (.bl (!b)) env1
      | _ => .bad) Q := by
      have e : blD (notD (testD da)) env = (bindR (da env) fun x env1 => match x with
        | .bl b => .ok (.bl (!b)) env1
        | _ => .bad) := by
        unfold blD notD testD
        cases da env with
        | ok d env1 => cases d <;> rfl
        | _ => rfl
      rw [← e]
      exact q
    exact At.bind q fun d env1 W1 F1 H1 v _ r1 x1 p1 q1 => by
      cases p1 with
      | bl b => exact ⟨b, rfl, q1 W1 F1 H1 _ r1 (Ex.refl F1) (.bl _)⟩
      | _ => exact q1.elim⟩
def andV (da db : List D → R D) : List D → R D := fun env => bindR (da env) fun x env1 => match x with
  | .bl true => db env1
  | .bl false => .ok (.bl false) env1
  | _ => .bad
def orV (da db : List D → R D) : List D → R D := fun env => bindR (da env) fun x env1 => match x with
  | .bl true => .ok (.bl true) env1
  | .bl false => db env1
  | _ => .bad
theorem e_one {op : BoolOp} (ha : DE X j a da) : DE X j (.BoolOp op [a] pos) da := pe_one ha
theorem e_and (ha : DE X j a da) (hb : DE X j (.BoolOp .And (b :: es) pos) db) : DE X j (.BoolOp .And (a :: b :: es) pos) (andV da db) :=
  PE.mono (pe_and ha hb) fun σ H Q ⟨W, F, env, rel, q⟩ => ⟨W, F, env, rel, At.bind q fun d env1 W1 F1 H1 v _ r1 x1 p1 q1 => by
    cases p1 with
    | bl b =>
      refine ⟨b, rfl, ?_⟩
      cases b with
      | true => exact ⟨W1, F1, env1, r1, q1⟩
      | false => exact q1 W1 F1 H1 _ r1 (Ex.refl F1) (.bl _)
    | _ => exact q1.elim⟩
theorem e_or (ha : DE X j a da) (hb : DE X j (.BoolOp .Or (b :: es) pos) db) : DE X j (.BoolOp .Or (a :: b :: es) pos) (orV da db) :=
  PE.mono (pe_or ha hb) fun σ H Q ⟨W, F, env, rel, q⟩ => ⟨W, F, env, rel, At.bind q fun d env1 W1 F1 H1 v _ r1 x1 p1 q1 => by
    cases p1 with
    | bl b =>
      refine ⟨b, rfl, ?_⟩
      cases b with
      | true => exact q1 W1 F1 H1 _ r1 (Ex.refl F1) (.bl _)
      | false => exact ⟨W1, F1, env1, r1, q1⟩
    | _ => exact q1.elim⟩
theorem e_if (hc : DT X j c dt) (ha : DE X j a da) (hb : DE X j b db) : DE X j (.IfExp c a b pos) (ifD dt da db) :=
  PE.mono (pe_ifExp hc ha hb) fun σ H Q ⟨W, F, env, rel, q⟩ => ⟨W, F, env, rel, At.bind q fun d env1 W1 F1 H1 v _ r1 x1 p1 q1 => by
    subst p1
    cases d with
    | true => exact ⟨W1, F1, env1, r1, q1⟩
    | false => exact ⟨W1, F1, env1, r1, q1⟩⟩
/-- plain arguments -/
abbrev DL (X : Cx) (j : J) (es : List Expr) (den : List D → R (List D)) : Prop := PA X es (tR (mo X) j.e j.wx (RpL (mo X)) den)
theorem l_nil : DL X j [] nilD := PA.mono pa_nil fun σ H Q ⟨W, F, env, rel, q⟩ => q W F H [] rel (Ex.refl F) .nil
theorem l_cons (ha : DE X j a da) (hr : DL X j es dl) (hs : starEach (a :: es) X.env = (false, eval a X.env) :: starEach es X.env := by rfl) : DL X j (a :: es) (consD da dl) :=
  PA.mono (pa_cons ha hr hs) fun σ H Q ⟨W, F, env, rel, q⟩ => ⟨W, F, env, rel, At.bind q fun d env1 W1 F1 H1 v _ r1 x1 p1 q1 => ⟨W1, F1, env1, r1, At.bind q1 fun d2 env2 W2 F2 H2 v2 _ r2 x2 p2 q2 =>
    q2 W2 F2 H2 (v :: v2) r2 (Ex.refl F2) (.cons (p1.mono x2) p2)⟩⟩
theorem e_tup {k : Nat} (h : DL X j es dl) : DE X j (.Tuple es k pos) (tupD dl) :=
  PE.mono (pe_tup h) fun σ H Q ⟨W, F, env, rel, q⟩ => ⟨W, F, env, rel, At.bind q fun d env1 W1 F1 H1 v _ r1 x1 p1 q1 => by
    by_cases z : d.length ≤ 1000
    · rw [if_pos z] at q1
      exact ⟨le_line (by rw [← p1.length]; exact z), fun p n => At.grow q1 r1 (Grow.one r1.exF n) (.tup (SqT.of upd_same) (p1.mono (Ex.new (r1.exF.none n))))⟩
    · rw [if_neg z] at q1
      exact q1.elim⟩
theorem e_lst (h : DL X j es dl) : DE X j (.List es pos) (lstD dl) :=
  PE.mono (pe_lst h) fun σ H Q ⟨W, F, env, rel, q⟩ => ⟨W, F, env, rel, At.bind q fun d env1 W1 F1 H1 v _ r1 x1 p1 q1 => by
    by_cases z : d.length ≤ 1000
    · rw [if_pos z] at q1
      exact ⟨le_line (by rw [← p1.length]; exact z), fun p n => At.grow q1 r1 (Grow.one r1.exF n) (.lst (SqL.of upd_same) (p1.mono (Ex.new (r1.exF.none n))))⟩
    · rw [if_neg z] at q1
      exact q1.elim⟩
/-- a built-in by its name -/
theorem e_callB {id : String} {f : List D → Option D} {x : Str} {p : Pos} (hc : CallD X (.builtin id) f) (hg : Gl X x) (hm : X.mg x = none) (hv : bootBuiltins x = some (.builtin id)) (ha : DL X j (a :: es) dl) (hn : x ≠ "__name__" := by decide) (hdb : (x == ("__debug__" : Str)) = false := by decide)
    (he : starEach (a :: es) X.env = (false, eval a X.env) :: starEach es X.env := by rfl) (hpl : (backTo pos (starEach es X.env)).any (·.1) = false := by rfl) :
    DE X j (.Call (.Name x p) (a :: es) [] pos) (callBD f dl) :=
  PE.mono (pe_callB hc.r hg hm hv ha hn hdb he hpl) fun σ H Q ⟨W, F, env, rel, q⟩ => ⟨W, F, env, rel, At.bind q fun d env1 W1 F1 H1 v _ r1 x1 p1 q1 => by
    cases o : f d with
    | none => rw [o] at q1; exact q1.elim
    | some z =>
      rw [o] at q1
      exact ⟨F1, d, z, r1.exF, p1, o, fun F' H' y g p => At.grow q1 r1 g p⟩⟩
theorem e_callT {T : String} {f : List D → Option D} {x : Str} {p : Pos} (hc : CallD X (.type T) f) (hg : Gl X x) (hm : X.mg x = none) (hv : bootBuiltins x = some (.type T)) (ha : DL X j (a :: es) dl) (hn : x ≠ "__name__" := by decide) (hdb : (x == ("__debug__" : Str)) = false := by decide)
    (he : starEach (a :: es) X.env = (false, eval a X.env) :: starEach es X.env := by rfl) (hpl : (backTo pos (starEach es X.env)).any (·.1) = false := by rfl) :
    DE X j (.Call (.Name x p) (a :: es) [] pos) (callBD f dl) :=
  PE.mono (pe_callTy hc.r hg hm hv ha hn hdb he hpl) fun σ H Q ⟨W, F, env, rel, q⟩ => ⟨W, F, env, rel, At.bind q fun d env1 W1 F1 H1 v _ r1 x1 p1 q1 => by
    cases o : f d with
    | none => rw [o] at q1; exact q1.elim
    | some z =>
      rw [o] at q1
      exact ⟨F1, d, z, r1.exF, p1, o, fun F' H' y g p => At.grow q1 r1 g p⟩⟩
end
end DL
namespace DL
open PySem PySem.Spec PyProof.Rows L2
/-! ## plain data, for == -/
mutual
def D.py : D → Option PyData
  | .non => some .none
  | .bl b => some (.bool b)
  | .int i => some (.int i)
  | .str s => some (.str s)
  | .tup l => match pyL l with
    | some ds => some (.tuple ds)
    | none => none
  | .lst l => match pyL l with
    | some ds => some (.list ds)
    | none => none
  | .unb => none
  | .ins _ _ => none
  | .ml _ => none
  | .mi _ _ => none
def pyL : List D → Option (List PyData)
  | [] => some []
  | d :: l => match D.py d with
    | some x => match pyL l with
      | some xs => some (x :: xs)
      | none => none
    | none => none
end
mutual
theorem Rp.dp {M : Mo} {F : Hp} : ∀ {d : D} {v : V} {p : PyData}, Rp M F d v → d.py = some p → Dp M.K F v p
  | _, _, _, .non, e => by
    simp only [D.py, Option.some.injEq] at e
    subst e
    exact .non
  | _, _, _, .bl b, e => by
    simp only [D.py, Option.some.injEq] at e
    subst e
    exact .bl b
  | _, _, _, .int b, e => by
    simp only [D.py, Option.some.injEq] at e
    subst e
    exact .int b
  | _, _, _, .str b, e => by
    simp only [D.py, Option.some.injEq] at e
    subst e
    exact .str b
  | _, _, _, .tup (l := l) h q, e => by
    unfold D.py at e
    cases o : pyL l with
    | none => rw [o] at e; cases e
    | some ds =>
      rw [o] at e
      cases e
      exact .tup h (RpL.dp q o)
  | _, _, _, .lst (l := l) h q, e => by
    unfold D.py at e
    cases o : pyL l with
    | none => rw [o] at e; cases e
    | some ds =>
      rw [o] at e
      cases e
      exact .lst h (RpL.dp q o)
  | _, _, _, .ins _ _ _ _, e => by
    unfold D.py at e
    cases e
theorem RpL.dp {M : Mo} {F : Hp} : ∀ {l : List D} {vs : List V} {ps : List PyData}, RpL M F l vs → pyL l = some ps → DpAll M.K F vs ps
  | _, _, _, .nil, e => by
    simp only [pyL, Option.some.injEq] at e
    subst e
    exact .nil
  | _, _, _, .cons (d := d) (l := l) h q, e => by
    unfold pyL at e
    cases o : D.py d with
    | none => rw [o] at e; cases e
    | some x =>
      cases o2 : pyL l with
      | none => rw [o, o2] at e; cases e
      | some xs =>
        rw [o, o2] at e
        cases e
        exact .cons (Rp.dp h o) (RpL.dp q o2)
end
/-- what == is told of -/
def fine (d : D) : Bool := match d.py with
  | some p => SeqAt.shaped p
  | none => false
def D.eqb (x y : D) : Bool := match x.py, y.py with
  | some p, some q => PyData.eqv p q
  | _, _ => false
def eqD (x y : D) : Option D := if fine x && fine y then some (.bl (x.eqb y)) else none
def neD (x y : D) : Option D := if fine x && fine y then some (.bl (!x.eqb y)) else none
def memD (x : D) (l : List D) : Bool := l.any fun z => z.eqb x
/-! ## numbers -/
def fitsMul (a b : Int) : Prop := a.natAbs < 2 ^ 64 ∨ b.natAbs < 2 ^ 64 ∨ (a.natAbs < 2 ^ 1000000 ∧ b.natAbs < 2 ^ 1000000)
instance (a b : Int) : Decidable (fitsMul a b) := by unfold fitsMul; infer_instance
def fitsDiv (b : Int) : Prop := b ≠ 0 ∧ b.natAbs < 2 ^ 9000
instance (b : Int) : Decidable (fitsDiv b) := by unfold fitsDiv; infer_instance
def fitsPow (a b : Int) : Prop := 0 ≤ b ∧ b ≤ 1000000 ∧ a.natAbs < 2 ^ 64
instance (a b : Int) : Decidable (fitsPow a b) := by unfold fitsPow; infer_instance
def addD : D → D → Option D
  | .int a, .int b => some (.int (a + b))
  | .str a, .str b => if a.length + b.length ≤ sizeLine then some (.str (a ++ b)) else none
  | .lst a, .lst b => if a.length + b.length ≤ sizeLine then some (.lst (a ++ b)) else none
  | _, _ => none
def subD : D → D → Option D
  | .int a, .int b => some (.int (a - b))
  | _, _ => none
def mulD : D → D → Option D
  | .int a, .int b => if fitsMul a b then some (.int (a * b)) else none
  | _, _ => none
def repD : D → D → Option D
  | .lst a, .int b => if -(2 ^ 63) ≤ b ∧ b < 2 ^ 63 ∧ a.length * b.toNat ≤ sizeLine then some (.lst (List.replicate b.toNat a).flatten) else none
  | _, _ => none
def fdivD : D → D → Option D
  | .int a, .int b => if fitsDiv b then some (.int (a.fdiv b)) else none
  | _, _ => none
def modD : D → D → Option D
  | .int a, .int b => if b ≠ 0 then some (.int (a.fmod b)) else none
  | _, _ => none
def powD : D → D → Option D
  | .int a, .int b => if fitsPow a b then some (.int (a ^ b.toNat)) else none
  | _, _ => none
def ltD : D → D → Option D
  | .int a, .int b => some (.bl (decide (a < b)))
  | _, _ => none
def leD : D → D → Option D
  | .int a, .int b => some (.bl (decide (a ≤ b)))
  | _, _ => none
def gtD : D → D → Option D
  | .int a, .int b => some (.bl (decide (b < a)))
  | _, _ => none
def geD : D → D → Option D
  | .int a, .int b => some (.bl (decide (b ≤ a)))
  | _, _ => none
def negD : D → Option D
  | .int a => some (.int (-a))
  | _ => none
def isNon : D → Bool
  | .non => true
  | _ => false
def isNonD : D → D → Option D
  | x, .non => some (.bl (isNon x))
  | _, _ => none
def notNonD : D → D → Option D
  | x, .non => some (.bl (!isNon x))
  | _, _ => none
/-- x in a list, a tuple (data), a sign in a text -/
def inD : D → D → Option D
  | x, .lst l => if fine x && fine (.lst l) then some (.bl (memD x l)) else none
  | x, .tup l => if fine x && fine (.tup l) then some (.bl (memD x l)) else none
  | .str a, .str b => some (.bl (!(Builtin.Str.occurrences b a 0 b.length 1).isEmpty))
  | _, _ => none
def notInD : D → D → Option D
  | x, .lst l => if fine x && fine (.lst l) then some (.bl (!memD x l)) else none
  | x, .tup l => if fine x && fine (.tup l) then some (.bl (!memD x l)) else none
  | .str a, .str b => some (.bl (!(!(Builtin.Str.occurrences b a 0 b.length 1).isEmpty)))
  | _, _ => none
def ixD : D → D → Option D
  | .lst l, .int i => atI l i
  | .tup l, .int i => atI l i
  | .str z, .int i => if z.length ≤ sizeLine then (atI z.cps.toList i).map fun c => .str ⟨#[c]⟩ else none
  | _, _ => none
def intsOf : List D → Option (List Int)
  | [] => some []
  | .int i :: l => (intsOf l).map (i :: ·)
  | _ => none
def blsOf : List D → Option (List Bool)
  | [] => some []
  | .bl i :: l => (blsOf l).map (i :: ·)
  | _ => none
def strsOf : List D → Option (List Str)
  | [] => some []
  | .str i :: l => (strsOf l).map (i :: ·)
  | _ => none
def maxI : List Int → Int
  | [] => 0
  | [a] => a
  | a :: l => max a (maxI l)
def minI : List Int → Int
  | [] => 0
  | [a] => a
  | a :: l => min a (minI l)
def absD : List D → Option D
  | [.int a] => some (.int (if a < 0 then -a else a))
  | _ => none
def lenD : List D → Option D
  | [.lst l] => some (.int l.length)
  | [.tup l] => some (.int l.length)
  | [.str z] => if z.length ≤ sizeLine then some (.int z.length) else none
  | _ => none
def sumD : List D → Option D
  | [.lst l] => (intsOf l).map fun ns => .int ns.sum
  | _ => none
def maxD : List D → Option D
  | [.lst l] => match intsOf l with
    | some ns => if 0 < ns.length then some (.int (maxI ns)) else none
    | none => none
  | _ => none
def minD : List D → Option D
  | [.lst l] => match intsOf l with
    | some ns => if 0 < ns.length then some (.int (minI ns)) else none
    | none => none
  | [.int a, .int b] => some (.int (if b < a then b else a))
  | _ => none
def anyD : List D → Option D
  | [.lst l] => (blsOf l).map fun ns => .bl (ns.any id)
  | _ => none
def allD : List D → Option D
  | [.lst l] => (blsOf l).map fun ns => .bl (ns.all id)
  | _ => none
def intD : List D → Option D
  | [.int a] => some (.int a)
  | [.bl b] => some (.int (if b then 1 else 0))
  | _ => none
def strD : List D → Option D
  | [.int a] => if a.natAbs < 2 ^ 1900 then some (.str (toString a)) else none
  | _ => none
def listD : List D → Option D
  | [.lst l] => some (.lst l)
  | [.tup l] => some (.lst l)
  | _ => none
def tupleD : List D → Option D
  | [.lst l] => some (.tup l)
  | [.tup l] => some (.tup l)
  | _ => none
/-! ## and what they are worth -/
theorem intsOf_map : ∀ (ns : List Int), intsOf (ns.map D.int) = some ns
  | [] => rfl
  | n :: r => by
    show (intsOf (r.map D.int)).map (n :: ·) = some (n :: r)
    rw [intsOf_map r]
    rfl
theorem intsOf_eq : ∀ {l : List D} {ns : List Int}, intsOf l = some ns → l = ns.map D.int
  | [], _, e => by cases e; rfl
  | d :: l, ns, e => by
    cases d with
    | int i =>
      have e : (intsOf l).map (i :: ·) = some ns := e
      cases o : intsOf l with
      | none => rw [o] at e; cases e
      | some r =>
        rw [o] at e
        cases e
        rw [intsOf_eq o]
        rfl
    | _ => cases e
theorem blsOf_map : ∀ (ns : List Bool), blsOf (ns.map D.bl) = some ns
  | [] => rfl
  | n :: r => by
    show (blsOf (r.map D.bl)).map (n :: ·) = some (n :: r)
    rw [blsOf_map r]
    rfl
theorem blsOf_eq : ∀ {l : List D} {ns : List Bool}, blsOf l = some ns → l = ns.map D.bl
  | [], _, e => by cases e; rfl
  | d :: l, ns, e => by
    cases d with
    | bl i =>
      have e : (blsOf l).map (i :: ·) = some ns := e
      cases o : blsOf l with
      | none => rw [o] at e; cases e
      | some r =>
        rw [o] at e
        cases e
        rw [blsOf_eq o]
        rfl
    | _ => cases e
theorem strsOf_map : ∀ (ns : List Str), strsOf (ns.map D.str) = some ns
  | [] => rfl
  | n :: r => by
    show (strsOf (r.map D.str)).map (n :: ·) = some (n :: r)
    rw [strsOf_map r]
    rfl
theorem strsOf_eq : ∀ {l : List D} {ns : List Str}, strsOf l = some ns → l = ns.map D.str
  | [], _, e => by cases e; rfl
  | d :: l, ns, e => by
    cases d with
    | str i =>
      have e : (strsOf l).map (i :: ·) = some ns := e
      cases o : strsOf l with
      | none => rw [o] at e; cases e
      | some r =>
        rw [o] at e
        cases e
        rw [strsOf_eq o]
        rfl
    | _ => cases e
theorem RpL.bls_inv {M : Mo} {F : Hp} : ∀ {ns : List Bool} {xs : List V}, RpL M F (ns.map D.bl) xs → xs = ns.map V.bl
  | [], _, .nil => rfl
  | n :: r, _, .cons h q => by
    cases h
    rw [RpL.bls_inv q]
    rfl
theorem RpL.strs_inv {M : Mo} {F : Hp} : ∀ {ns : List Str} {xs : List V}, RpL M F (ns.map D.str) xs → xs = ns.map V.str
  | [], _, .nil => rfl
  | n :: r, _, .cons h q => by
    cases h
    rw [RpL.strs_inv q]
    rfl
theorem RpL.rep {M : Mo} {F : Hp} {l : List D} {xs : List V} (h : RpL M F l xs) : ∀ n : Nat, RpL M F (List.replicate n l).flatten (List.replicate n xs).flatten
  | 0 => .nil
  | n + 1 => by
    rw [List.replicate_succ, List.replicate_succ, List.flatten_cons, List.flatten_cons]
    exact h.append (RpL.rep h n)
theorem RpL.strs {M : Mo} {F : Hp} : ∀ (ns : List Str), RpL M F (ns.map D.str) (ns.map V.str)
  | [] => .nil
  | n :: r => .cons (.str n) (RpL.strs r)
theorem RpL.bls {M : Mo} {F : Hp} : ∀ (ns : List Bool), RpL M F (ns.map D.bl) (ns.map V.bl)
  | [] => .nil
  | n :: r => .cons (.bl n) (RpL.bls r)
theorem maxI_spec : ∀ {ns : List Int}, 0 < ns.length → maxI ns ∈ ns ∧ ∀ y ∈ ns, y ≤ maxI ns
  | [], h => absurd h (Nat.lt_irrefl 0)
  | [a], _ => ⟨List.mem_singleton.mpr rfl, fun y hy => by
    rw [List.mem_singleton.mp hy]
    exact Int.le_refl a⟩
  | a :: b :: r, _ => by
    obtain ⟨h1, h2⟩ := maxI_spec (ns := b :: r) (Nat.succ_pos _)
    have e : maxI (a :: b :: r) = max a (maxI (b :: r)) := rfl
    rw [e]
    constructor
    · rcases Int.le_total a (maxI (b :: r)) with h | h
      · rw [Int.max_eq_right h]
        exact List.mem_cons_of_mem _ h1
      · rw [Int.max_eq_left h]
        exact List.mem_cons_self
    · intro y hy
      rcases List.mem_cons.mp hy with rfl | hy
      · exact Int.le_max_left _ _
      · exact Int.le_trans (h2 y hy) (Int.le_max_right _ _)
theorem minI_spec : ∀ {ns : List Int}, 0 < ns.length → minI ns ∈ ns ∧ ∀ y ∈ ns, minI ns ≤ y
  | [], h => absurd h (Nat.lt_irrefl 0)
  | [a], _ => ⟨List.mem_singleton.mpr rfl, fun y hy => by
    rw [List.mem_singleton.mp hy]
    exact Int.le_refl a⟩
  | a :: b :: r, _ => by
    obtain ⟨h1, h2⟩ := minI_spec (ns := b :: r) (Nat.succ_pos _)
    have e : minI (a :: b :: r) = min a (minI (b :: r)) := rfl
    rw [e]
    constructor
    · rcases Int.le_total a (minI (b :: r)) with h | h
      · rw [Int.min_eq_left h]
        exact List.mem_cons_self
      · rw [Int.min_eq_right h]
        exact List.mem_cons_of_mem _ h1
    · intro y hy
      rcases List.mem_cons.mp hy with rfl | hy
      · exact Int.min_le_left _ _
      · exact Int.le_trans (Int.min_le_right _ _) (h2 y hy)
theorem maxI_uniq {ns : List Int} {m : Int} (h1 : m ∈ ns) (h2 : ∀ y ∈ ns, y ≤ m) : m = maxI ns := by
  obtain ⟨a, b⟩ := maxI_spec (List.length_pos_of_mem h1)
  have := b m h1
  have := h2 _ a
  omega
theorem minI_uniq {ns : List Int} {m : Int} (h1 : m ∈ ns) (h2 : ∀ y ∈ ns, m ≤ y) : m = minI ns := by
  obtain ⟨a, b⟩ := minI_spec (List.length_pos_of_mem h1)
  have := b m h1
  have := h2 _ a
  omega
theorem log2_of_lt {n k : Nat} (hk : 0 < k) (h : n < 2 ^ k) : n.log2 < k := by
  rcases Nat.eq_zero_or_pos n with h0 | hp
  · subst h0
    exact Nat.lt_of_le_of_lt (by decide) hk
  · exact (Nat.log2_lt (Nat.ne_of_gt hp)).mpr h
theorem fitsMul.ok {a b : Int} (h : fitsMul a b) : IntMulOk a b := by
  rcases h with h | h | ⟨h1, h2⟩
  · exact .of_left (intBits_le_64 (by omega) (by omega))
  · exact .of_right (intBits_le_64 (by omega) (by omega))
  · have b1 : ∀ x : Int, Builtin.Int.intBits x ≤ x.natAbs.log2 + 1 := fun x => by
      unfold Builtin.Int.intBits
      split <;> omega
    have z1 := b1 a
    have z2 := b1 b
    have y1 : a.natAbs.log2 < 1000000 := log2_of_lt (by omega) h1
    have y2 : b.natAbs.log2 < 1000000 := log2_of_lt (by omega) h2
    have e : bitsLine = 134217728 := by decide
    unfold IntMulOk
    intro z
    rw [Bool.and_eq_true] at z
    have w := z.2
    unfold Builtin.Int.intTooBig at w
    have w2 := of_decide_eq_true w
    rw [e] at w2
    omega
section
variable {X : Cx}
theorem Rp.lst_inv {M : Mo} {F : Hp} {l : List D} {v : V} (h : Rp M F (.lst l) v) : ∃ a xs, v = .ref a ∧ SqL M.K F a xs ∧ RpL M F l xs := by
  cases h with
  | lst h q => exact ⟨_, _, rfl, h, q⟩
theorem Rp.tup_inv {M : Mo} {F : Hp} {l : List D} {v : V} (h : Rp M F (.tup l) v) : ∃ a xs, v = .ref a ∧ SqT M.K F a xs ∧ RpL M F l xs := by
  cases h with
  | tup h q => exact ⟨_, _, rfl, h, q⟩
theorem Rp.int_inv {M : Mo} {F : Hp} {i : Int} {v : V} (h : Rp M F (.int i) v) : v = .int i := by
  cases h; rfl
theorem Rp.str_inv {M : Mo} {F : Hp} {i : Str} {v : V} (h : Rp M F (.str i) v) : v = .str i := by
  cases h; rfl
theorem Rp.bl_inv {M : Mo} {F : Hp} {i : Bool} {v : V} (h : Rp M F (.bl i) v) : v = .bl i := by
  cases h; rfl
theorem Rp.non_inv {M : Mo} {F : Hp} {v : V} (h : Rp M F .non v) : v = .non := by
  cases h; rfl
theorem RpL.one_inv {M : Mo} {F : Hp} {d : D} {xs : List V} (h : RpL M F [d] xs) : ∃ v, xs = [v] ∧ Rp M F d v := by
  cases h with
  | cons h q => cases q; exact ⟨_, rfl, h⟩
theorem RpL.two_inv {M : Mo} {F : Hp} {d e : D} {xs : List V} (h : RpL M F [d, e] xs) : ∃ v w, xs = [v, w] ∧ Rp M F d v ∧ Rp M F e w := by
  cases h with
  | cons h q =>
    obtain ⟨w, rfl, z⟩ := RpL.one_inv q
    exact ⟨_, _, rfl, h, z⟩
theorem o_int2 {op : Value → Value → Sem Value} {g : Int → Int → V} {gd : Int → Int → D} {C : Int → Int → Prop} (h : OpR X op (rI C g)) (hg : ∀ F i j, Rp (mo X) F (gd i j) (g i j)) (f : D → D → Option D)
    (hf : ∀ dx dy d, f dx dy = some d → ∃ i j, dx = .int i ∧ dy = .int j ∧ C i j ∧ d = gd i j) : OpD X op f := fun pins s σ F H dx dy d x y v u Q I e p1 p2 rx ry e1 q => by
  obtain ⟨i, k, rfl, rfl, hc, rfl⟩ := hf _ _ _ e1
  exact h pins s σ H x y v u Q I rx ry ⟨i, k, p1.int_inv, p2.int_inv, hc, q F H _ (Grow.refl e) (hg F i k)⟩
theorem o_int0 {op : Value → Value → Sem Value} {g : Int → Int → V} {gd : Int → Int → D} (h : OpR X op (rI0 g)) (hg : ∀ F i j, Rp (mo X) F (gd i j) (g i j)) (f : D → D → Option D)
    (hf : ∀ dx dy d, f dx dy = some d → ∃ i j, dx = .int i ∧ dy = .int j ∧ d = gd i j) : OpD X op f := fun pins s σ F H dx dy d x y v u Q I e p1 p2 rx ry e1 q => by
  obtain ⟨i, k, rfl, rfl, rfl⟩ := hf _ _ _ e1
  exact h pins s σ H x y v u Q I rx ry ⟨i, k, p1.int_inv, p2.int_inv, q F H _ (Grow.refl e) (hg F i k)⟩
theorem od_sub : OpD X (binaryOp .Sub) subD := o_int0 op_sub (gd := fun i j => .int (i - j)) (fun _ _ _ => .int _) _ fun dx dy d e => by
  unfold subD at e
  split at e <;> first | exact ⟨_, _, rfl, rfl, (Option.some.inj e).symm⟩ | cases e
theorem od_lt : OpD X (compareOp .Lt) ltD := o_int0 op_lt (gd := fun i j => .bl (decide (i < j))) (fun _ _ _ => .bl _) _ fun dx dy d e => by
  unfold ltD at e
  split at e <;> first | exact ⟨_, _, rfl, rfl, (Option.some.inj e).symm⟩ | cases e
theorem od_le : OpD X (compareOp .LtE) leD := o_int0 op_le (gd := fun i j => .bl (decide (i ≤ j))) (fun _ _ _ => .bl _) _ fun dx dy d e => by
  unfold leD at e
  split at e <;> first | exact ⟨_, _, rfl, rfl, (Option.some.inj e).symm⟩ | cases e
theorem od_gt : OpD X (compareOp .Gt) gtD := o_int0 op_gt (gd := fun i j => .bl (decide (j < i))) (fun _ _ _ => .bl _) _ fun dx dy d e => by
  unfold gtD at e
  split at e <;> first | exact ⟨_, _, rfl, rfl, (Option.some.inj e).symm⟩ | cases e
theorem od_ge : OpD X (compareOp .GtE) geD := o_int0 op_ge (gd := fun i j => .bl (decide (j ≤ i))) (fun _ _ _ => .bl _) _ fun dx dy d e => by
  unfold geD at e
  split at e <;> first | exact ⟨_, _, rfl, rfl, (Option.some.inj e).symm⟩ | cases e
theorem od_mod : OpD X (binaryOp .Mod) modD := o_int2 op_modN (gd := fun i j => .int (i.fmod j)) (fun _ _ _ => .int _) _ fun dx dy d e => by
  unfold modD at e
  split at e
  · split at e
    · rename_i h
      exact ⟨_, _, rfl, rfl, h, (Option.some.inj e).symm⟩
    · cases e
  · cases e
theorem op_fdivX : OpR X (binaryOp .FloorDiv) (rI (fun _ j => fitsDiv j) fun i j => .int (i.fdiv j)) := opI fun _ _ _ _ _ _ _ hc q => floordiv_int hc.1 q (.inl (PyProof.noPylong_of_log2 (log2_of_lt (by omega) hc.2)))
theorem od_fdiv : OpD X (binaryOp .FloorDiv) fdivD := o_int2 op_fdivX (gd := fun i j => .int (i.fdiv j)) (fun _ _ _ => .int _) _ fun dx dy d e => by
  unfold fdivD at e
  split at e
  · split at e
    · rename_i h
      exact ⟨_, _, rfl, rfl, h, (Option.some.inj e).symm⟩
    · cases e
  · cases e
theorem od_pow : OpD X (binaryOp .Pow) powD := o_int2 op_pow (gd := fun i j => .int (i ^ j.toNat)) (fun _ _ _ => .int _) _ fun dx dy d e => by
  unfold powD at e
  split at e
  · split at e
    · rename_i h
      exact ⟨_, _, rfl, rfl, h, (Option.some.inj e).symm⟩
    · cases e
  · cases e
theorem op_mulX : OpR X (binaryOp .Mult) (rI fitsMul fun i j => .int (i * j)) := opI fun _ _ _ _ _ _ _ hc q => mul_int q hc.ok
theorem Inv.lnew' {pins : List (Addr × Obj)} {s : Shared} {σ : L2.St} {H : Hp} {Q : VK} {xs : List V} {its : List Value} (I : Inv X pins σ H s) (r : Vals xs its) (hz : xs.length ≤ sizeLine) (q : ∀ p, H p = none → Q (.ref p) (upd H p (.lst xs))) :
    EP X pins σ Q (.ref s.heap.objs.size) { s with heap := s.heap.push { cls := .type "list", data := .seq its.toArray } } :=
  ⟨.ref _, _, I.lnew (t' := s.toks) r hz, rfl, q _ I.fresh⟩
theorem op_catS : OpR X (binaryOp .Add) (fun x y H Q => ∃ l b xs zs, x = .ref l ∧ y = .ref b ∧ SqL X.K H l xs ∧ SqL X.K H b zs ∧ xs.length + zs.length ≤ sizeLine ∧ ∀ p, H p = none → Q (.ref p) (upd H p (.lst (xs ++ zs)))) := by
  intro pins s σ H x y v u Q I rx ry h
  obtain ⟨l, b, xs, zs, rfl, rfl, hH, hB, hz, q⟩ := h
  cases rx
  cases ry
  obtain ⟨its, r, pl, z⟩ := I.list hH
  obtain ⟨its2, r2, pl2, z2⟩ := I.list hB
  have hl := r.length
  have hl2 := r2.length
  obtain ⟨⟨cls, dd, data, sl⟩, ho, hc, n, hd⟩ := pl.isList
  obtain ⟨⟨cls2, dd2, data2, sl2⟩, ho2, hc2, n2, hd2⟩ := pl2.isList
  simp only at hc hd hc2 hd2
  subst hc hd hc2 hd2
  refine concat_meets ⟨_, ho, rfl⟩ ⟨_, ho2, rfl⟩ noFill_list_add seq_list_add PySem.F.slot_list_add PySem.F.entry_list_add (PySem.F.args_list_add_2 _ _) (list_addW l b its.toArray its2.toArray n n2 dd dd2 sl sl2 (by rw [List.size_toArray, List.size_toArray]; omega)) ⟨ho, ho2, ?_⟩
  have ea : its.toArray ++ its2.toArray = (its ++ its2).toArray := by simp
  rw [ea]
  exact Inv.lnew' I (r.append r2) (by rw [List.length_append]; omega) q
theorem od_add : OpD X (binaryOp .Add) addD := fun pins s σ F H dx dy d x y v u Q I e p1 p2 rx ry e1 q => by
  unfold addD at e1
  split at e1
  · cases e1
    exact op_add pins s σ H x y v u Q I rx ry ⟨_, _, p1.int_inv, p2.int_inv, q F H _ (Grow.refl e) (.int _)⟩
  · split at e1
    · rename_i h
      cases e1
      exact op_add_str pins s σ H x y v u Q I rx ry ⟨_, _, p1.str_inv, p2.str_inv, h, q F H _ (Grow.refl e) (.str _)⟩
    · cases e1
  · split at e1
    · rename_i h
      cases e1
      obtain ⟨a, xs, rfl, h1, h2⟩ := p1.lst_inv
      obtain ⟨b, ys, rfl, h3, h4⟩ := p2.lst_inv
      exact op_catS pins s σ H _ _ v u Q I rx ry ⟨a, b, xs, ys, rfl, rfl, ex_l e h1, ex_l e h3, by rw [← h2.length, ← h4.length]; exact h, fun p n => q _ _ _ (Grow.one e n) (.lst (SqL.of upd_same) ((h2.append h4).mono (Ex.new (e.none n))))⟩
    · cases e1
  · cases e1
theorem od_mul : OpD X (binaryOp .Mult) mulD := fun pins s σ F H dx dy d x y v u Q I e p1 p2 rx ry e1 q => by
  unfold mulD at e1
  split at e1
  · split at e1
    · rename_i h
      cases e1
      exact op_mulX pins s σ H x y v u Q I rx ry ⟨_, _, p1.int_inv, p2.int_inv, h, q F H _ (Grow.refl e) (.int _)⟩
    · cases e1
  · cases e1
theorem od_eq (hu : X.A.units + 64 < cLine) : OpD X (compareOp .Eq) eqD := fun pins s σ F H dx dy d x y v u Q I e p1 p2 rx ry e1 q => by
  unfold eqD at e1
  split at e1
  · rename_i h
    rw [Bool.and_eq_true] at h
    unfold fine at h
    cases o1 : dx.py with
    | none => rw [o1] at h; exact absurd h.1 (by simp)
    | some a =>
      cases o2 : dy.py with
      | none => rw [o2] at h; exact absurd h.2 (by simp)
      | some b =>
        rw [o1, o2] at h
        have e2 : dx.eqb dy = PyData.eqv a b := by
          unfold D.eqb
          rw [o1, o2]
        rw [e2] at e1
        cases e1
        exact op_eqD hu pins s σ H x y v u Q I rx ry ⟨a, b, Rp.dp (p1.mono e) o1, Rp.dp (p2.mono e) o2, h.1, h.2, q F H _ (Grow.refl e) (.bl _)⟩
  · cases e1
theorem od_ne (hu : X.A.units + 64 < cLine) : OpD X (compareOp .NotEq) neD := fun pins s σ F H dx dy d x y v u Q I e p1 p2 rx ry e1 q => by
  unfold neD at e1
  split at e1
  · rename_i h
    rw [Bool.and_eq_true] at h
    unfold fine at h
    cases o1 : dx.py with
    | none => rw [o1] at h; exact absurd h.1 (by simp)
    | some a =>
      cases o2 : dy.py with
      | none => rw [o2] at h; exact absurd h.2 (by simp)
      | some b =>
        rw [o1, o2] at h
        have e2 : dx.eqb dy = PyData.eqv a b := by
          unfold D.eqb
          rw [o1, o2]
        rw [e2] at e1
        cases e1
        exact op_neD hu pins s σ H x y v u Q I rx ry ⟨a, b, Rp.dp (p1.mono e) o1, Rp.dp (p2.mono e) o2, h.1, h.2, q F H _ (Grow.refl e) (.bl _)⟩
  · cases e1
theorem od_isN : OpD X (compareOp .Is) isNonD := fun pins s σ F H dx dy d x y v u Q I e p1 p2 rx ry e1 q => by
  unfold isNonD at e1
  split at e1
  · cases e1
    cases p2
    refine op_isN pins s σ H x _ v u Q I rx ry ⟨rfl, ?_⟩
    have z : ∀ {x : V}, Rp (mo X) F dx x → decide (x = V.non) = isNon dx := fun p1 => by
      cases p1 <;> first | rfl | exact decide_eq_false (fun h => nomatch h)
    rw [z p1]
    exact q F H _ (Grow.refl e) (.bl _)
  · cases e1
theorem od_notN : OpD X (compareOp .IsNot) notNonD := fun pins s σ F H dx dy d x y v u Q I e p1 p2 rx ry e1 q => by
  unfold notNonD at e1
  split at e1
  · cases e1
    cases p2
    refine op_notN pins s σ H x _ v u Q I rx ry ⟨rfl, ?_⟩
    have z : ∀ {x : V}, Rp (mo X) F dx x → (!decide (x = V.non)) = !isNon dx := fun p1 => by
      cases p1 <;> first | rfl | (rw [decide_eq_false (fun h => nomatch h)]; rfl)
    rw [z p1]
    exact q F H _ (Grow.refl e) (.bl _)
  · cases e1
theorem ud_neg : UnD X (unaryOp .USub) negD := fun pins s σ F H dx d x v Q I e p1 rx e1 q => by
  unfold negD at e1
  split at e1
  · cases e1
    exact un_neg pins s σ H x v Q I rx ⟨_, p1.int_inv, q F H _ (Grow.refl e) (.int _)⟩
  · cases e1
/-- what the items of a list of data are -/
theorem py_list {l : List D} {p : PyData} (h : (D.lst l).py = some p) : ∃ ps, pyL l = some ps ∧ p = .list ps := by
  unfold D.py at h
  cases o : pyL l with
  | none => rw [o] at h; cases h
  | some ps => rw [o] at h; exact ⟨ps, rfl, (Option.some.inj h).symm⟩
theorem py_tuple {l : List D} {p : PyData} (h : (D.tup l).py = some p) : ∃ ps, pyL l = some ps ∧ p = .tuple ps := by
  unfold D.py at h
  cases o : pyL l with
  | none => rw [o] at h; cases h
  | some ps => rw [o] at h; exact ⟨ps, rfl, (Option.some.inj h).symm⟩
theorem memD_eq {x : D} {d : PyData} (hx : x.py = some d) : ∀ {l : List D} {ps : List PyData}, pyL l = some ps → memD x l = ps.any fun z => PyData.eqv z d
  | [], _, e => by
    simp only [pyL, Option.some.injEq] at e
    subst e
    rfl
  | y :: l, ps, e => by
    unfold pyL at e
    cases o : D.py y with
    | none => rw [o] at e; cases e
    | some z =>
      cases o2 : pyL l with
      | none => rw [o, o2] at e; cases e
      | some zs =>
        rw [o, o2] at e
        cases e
        show (y.eqb x || memD x l) = _
        rw [List.any_cons, memD_eq hx o2]
        unfold D.eqb
        rw [o, hx]
/-- x in (a, b, ..), data of any depth -/
theorem op_inT (hu : X.A.units + 65 < cLine) : OpR X (compareOp .In) (fun x y H Q => ∃ d ds, Dp X.K H x d ∧ Dp X.K H y (.tuple ds) ∧ SeqAt.shaped d = true ∧ SeqAt.shaped (.tuple ds) = true ∧ Q (.bl (ds.any fun z => PyData.eqv z d)) H) := by
  intro pins s σ H x y v u Q I rx ry h
  obtain ⟨d, ds, hd, he, sd, se, q⟩ := h
  obtain ⟨as, r1⟩ := Dp.reads I d x v hd rx
  obtain ⟨bs, r2⟩ := Dp.reads I (.tuple ds) y u he ry
  exact SeqAt.in_tuple_reads r2 r1 (SeqAt.canLay_of_shaped se) (SeqAt.canLay_of_shaped sd) (room_in_shaped sd hu) ⟨.bl _, H, I, rfl, q⟩
theorem op_notInT (hu : X.A.units + 65 < cLine) : OpR X (compareOp .NotIn) (fun x y H Q => ∃ d ds, Dp X.K H x d ∧ Dp X.K H y (.tuple ds) ∧ SeqAt.shaped d = true ∧ SeqAt.shaped (.tuple ds) = true ∧ Q (.bl (!ds.any fun z => PyData.eqv z d)) H) := by
  intro pins s σ H x y v u Q I rx ry h
  obtain ⟨d, ds, hd, he, sd, se, q⟩ := h
  obtain ⟨as, r1⟩ := Dp.reads I d x v hd rx
  obtain ⟨bs, r2⟩ := Dp.reads I (.tuple ds) y u he ry
  exact SeqAt.notIn_tuple_reads r2 r1 (SeqAt.canLay_of_shaped se) (SeqAt.canLay_of_shaped sd) (room_in_shaped sd hu) ⟨.bl _, H, I, rfl, q⟩
theorem fine_some {d : D} (h : fine d = true) : ∃ p, d.py = some p ∧ SeqAt.shaped p = true := by
  unfold fine at h
  cases o : d.py with
  | none => rw [o] at h; exact absurd h (by simp)
  | some p => rw [o] at h; exact ⟨p, rfl, h⟩
theorem od_in (hu : X.A.units + 65 < cLine) : OpD X (compareOp .In) inD := fun pins s σ F H dx dy d x y v u Q I e p1 p2 rx ry e1 q => by
  unfold inD at e1
  split at e1
  · split at e1
    · rename_i h
      rw [Bool.and_eq_true] at h
      obtain ⟨a, ea, sa⟩ := fine_some h.1
      obtain ⟨b, eb, sb⟩ := fine_some h.2
      obtain ⟨ps, ep, rfl⟩ := py_list eb
      rw [memD_eq ea ep] at e1
      cases e1
      exact op_inD hu pins s σ H x y v u Q I rx ry ⟨a, ps, Rp.dp (p1.mono e) ea, Rp.dp (p2.mono e) eb, sa, sb, q F H _ (Grow.refl e) (.bl _)⟩
    · cases e1
  · split at e1
    · rename_i h
      rw [Bool.and_eq_true] at h
      obtain ⟨a, ea, sa⟩ := fine_some h.1
      obtain ⟨b, eb, sb⟩ := fine_some h.2
      obtain ⟨ps, ep, rfl⟩ := py_tuple eb
      rw [memD_eq ea ep] at e1
      cases e1
      exact op_inT hu pins s σ H x y v u Q I rx ry ⟨a, ps, Rp.dp (p1.mono e) ea, Rp.dp (p2.mono e) eb, sa, sb, q F H _ (Grow.refl e) (.bl _)⟩
    · cases e1
  · cases e1
    exact op_in_str pins s σ H x y v u Q I rx ry ⟨_, _, p1.str_inv, p2.str_inv, q F H _ (Grow.refl e) (.bl _)⟩
  · cases e1
theorem od_notIn (hu : X.A.units + 65 < cLine) : OpD X (compareOp .NotIn) notInD := fun pins s σ F H dx dy d x y v u Q I e p1 p2 rx ry e1 q => by
  unfold notInD at e1
  split at e1
  · split at e1
    · rename_i h
      rw [Bool.and_eq_true] at h
      obtain ⟨a, ea, sa⟩ := fine_some h.1
      obtain ⟨b, eb, sb⟩ := fine_some h.2
      obtain ⟨ps, ep, rfl⟩ := py_list eb
      rw [memD_eq ea ep] at e1
      cases e1
      exact op_notInD hu pins s σ H x y v u Q I rx ry ⟨a, ps, Rp.dp (p1.mono e) ea, Rp.dp (p2.mono e) eb, sa, sb, q F H _ (Grow.refl e) (.bl _)⟩
    · cases e1
  · split at e1
    · rename_i h
      rw [Bool.and_eq_true] at h
      obtain ⟨a, ea, sa⟩ := fine_some h.1
      obtain ⟨b, eb, sb⟩ := fine_some h.2
      obtain ⟨ps, ep, rfl⟩ := py_tuple eb
      rw [memD_eq ea ep] at e1
      cases e1
      exact op_notInT hu pins s σ H x y v u Q I rx ry ⟨a, ps, Rp.dp (p1.mono e) ea, Rp.dp (p2.mono e) eb, sa, sb, q F H _ (Grow.refl e) (.bl _)⟩
    · cases e1
  · cases e1
    exact op_notIn_str pins s σ H x y v u Q I rx ry ⟨_, _, p1.str_inv, p2.str_inv, q F H _ (Grow.refl e) (.bl _)⟩
  · cases e1
/-! ## subscripts, built-ins -/
theorem atI_rp {M : Mo} {F : Hp} {l : List D} {xs : List V} {i : Int} {d : D} (h : RpL M F l xs) (e : atI l i = some d) : ∃ v, atI xs i = some v ∧ Rp M F d v := by
  unfold atI at e ⊢
  rw [← h.length]
  cases o : ixN l.length i with
  | none => rw [o] at e; cases e
  | some k =>
    rw [o] at e
    exact h.get e
theorem ix_D : IxR X (rOpD X ixD) := fun value slice pins s σ H x y v u Q I rx ry ⟨F, dx, dy, d, e, p1, p2, e1, q⟩ hs => by
  unfold ixD at e1
  split at e1
  · obtain ⟨a, xs, rfl, h1, h2⟩ := p1.lst_inv
    obtain ⟨z, h3, h4⟩ := atI_rp h2 e1
    exact ix_list value slice pins s σ H _ y v u Q I rx ry ⟨a, xs, _, z, rfl, p2.int_inv, ex_l e h1, h3, q F H z (Grow.refl e) h4⟩ hs
  · obtain ⟨a, xs, rfl, h1, h2⟩ := p1.tup_inv
    obtain ⟨z, h3, h4⟩ := atI_rp h2 e1
    exact ix_tup value slice pins s σ H _ y v u Q I rx ry ⟨a, xs, _, z, rfl, p2.int_inv, ex_t e h1, h3, q F H z (Grow.refl e) h4⟩ hs
  · split at e1
    · rename_i hz
      cases o : atI (Array.toList (Str.cps ‹Str›)) ‹Int› with
      | none => rw [o] at e1; cases e1
      | some c =>
        rw [o] at e1
        cases e1
        exact ix_str value slice pins s σ H x y v u Q I rx ry ⟨_, _, c, p1.str_inv, p2.int_inv, hz, o, q F H _ (Grow.refl e) (.str _)⟩ hs
    · cases e1
  · cases e1
theorem e_ix {j : J} {a b : Expr} {pos : Pos} {da db : List D → R D} (ha : DE X j a da) (hb : DE X j b db) (hs : PlainIx b) : DE X j (.Subscript a b pos) (binD ixD da db) :=
  PE.mono (pe_ix ix_D ha hb hs) fun σ H Q ⟨W, F, env, rel, q⟩ => ⟨W, F, env, rel, At.bind q fun d env1 W1 F1 H1 v _ r1 x1 p1 q1 => ⟨W1, F1, env1, r1, At.bind q1 fun d2 env2 W2 F2 H2 v2 _ r2 x2 p2 q2 => by
    cases o : ixD d d2 with
    | none => rw [o] at q2; exact q2.elim
    | some z =>
      rw [o] at q2
      exact ⟨F2, d, d2, z, r2.exF, p1.mono x2, p2, o, fun F' H' y g p => At.grow q2 r2 g p⟩⟩⟩
theorem cd_abs : CallD X (.builtin "abs") absD := fun pins s σ F H ds d xs us Q I e p r e1 q => by
  unfold absD at e1
  split at e1
  · cases e1
    obtain ⟨v, rfl, h⟩ := p.one_inv
    exact call_abs pins s σ H _ us Q I r ⟨_, by rw [h.int_inv], q F H _ (Grow.refl e) (.int _)⟩
  · cases e1
theorem cd_len : CallD X (.builtin "len") lenD := fun pins s σ F H ds d xs us Q I e p r e1 q => by
  unfold lenD at e1
  split at e1
  · cases e1
    obtain ⟨v, rfl, h⟩ := p.one_inv
    obtain ⟨a, ys, rfl, h1, h2⟩ := h.lst_inv
    refine call_len_seq pins s σ H _ us Q I r ⟨a, ys, rfl, .inl (ex_l e h1), ?_⟩
    rw [← h2.length]
    exact q F H _ (Grow.refl e) (.int _)
  · cases e1
    obtain ⟨v, rfl, h⟩ := p.one_inv
    obtain ⟨a, ys, rfl, h1, h2⟩ := h.tup_inv
    refine call_len_seq pins s σ H _ us Q I r ⟨a, ys, rfl, .inr (ex_t e h1), ?_⟩
    rw [← h2.length]
    exact q F H _ (Grow.refl e) (.int _)
  · split at e1
    · rename_i hz
      cases e1
      obtain ⟨v, rfl, h⟩ := p.one_inv
      exact call_len_str pins s σ H _ us Q I r ⟨_, by rw [h.str_inv], hz, q F H _ (Grow.refl e) (.int _)⟩
    · cases e1
  · cases e1
theorem cd_sum (hc : X.calm = true) : CallD X (.builtin "sum") sumD := fun pins s σ F H ds d xs us Q I e p r e1 q => by
  unfold sumD at e1
  split at e1
  · rename_i l
    cases o : intsOf l with
    | none => rw [o] at e1; cases e1
    | some ns =>
      rw [o] at e1
      cases e1
      obtain ⟨v, rfl, h⟩ := p.one_inv
      obtain ⟨a, ys, rfl, h1, h2⟩ := h.lst_inv
      rw [intsOf_eq o] at h2
      rw [h2.ints_inv] at h1
      exact cr_sum hc pins s σ H _ us Q I r ⟨a, ns, rfl, ex_l e h1, q F H _ (Grow.refl e) (.int _)⟩
  · cases e1
theorem cd_max (hc : X.calm = true) : CallD X (.builtin "max") maxD := fun pins s σ F H ds d xs us Q I e p r e1 q => by
  unfold maxD at e1
  split at e1
  · rename_i l
    cases o : intsOf l with
    | none => rw [o] at e1; cases e1
    | some ns =>
      rw [o] at e1
      simp only at e1
      split at e1
      · rename_i hn
        cases e1
        obtain ⟨v, rfl, h⟩ := p.one_inv
        obtain ⟨a, ys, rfl, h1, h2⟩ := h.lst_inv
        rw [intsOf_eq o] at h2
        rw [h2.ints_inv] at h1
        exact cr_max hc pins s σ H _ us Q I r ⟨a, ns, rfl, ex_l e h1, hn, fun m m1 m2 => by
          rw [maxI_uniq m1 m2]
          exact q F H _ (Grow.refl e) (.int _)⟩
      · cases e1
  · cases e1
theorem cd_min (hc : X.calm = true) : CallD X (.builtin "min") minD := fun pins s σ F H ds d xs us Q I e p r e1 q => by
  unfold minD at e1
  split at e1
  · rename_i l
    cases o : intsOf l with
    | none => rw [o] at e1; cases e1
    | some ns =>
      rw [o] at e1
      simp only at e1
      split at e1
      · rename_i hn
        cases e1
        obtain ⟨v, rfl, h⟩ := p.one_inv
        obtain ⟨a, ys, rfl, h1, h2⟩ := h.lst_inv
        rw [intsOf_eq o] at h2
        rw [h2.ints_inv] at h1
        exact cr_min hc pins s σ H _ us Q I r ⟨a, ns, rfl, ex_l e h1, hn, fun m m1 m2 => by
          rw [minI_uniq m1 m2]
          exact q F H _ (Grow.refl e) (.int _)⟩
      · cases e1
  · cases e1
    obtain ⟨v, w, rfl, h1, h2⟩ := p.two_inv
    exact call_min2 hc pins s σ H _ us Q I r ⟨_, _, by rw [h1.int_inv, h2.int_inv], q F H _ (Grow.refl e) (.int _)⟩
  · cases e1
theorem cd_any (hc : X.calm = true) : CallD X (.builtin "any") anyD := fun pins s σ F H ds d xs us Q I e p r e1 q => by
  unfold anyD at e1
  split at e1
  · rename_i l
    cases o : blsOf l with
    | none => rw [o] at e1; cases e1
    | some ns =>
      rw [o] at e1
      cases e1
      obtain ⟨v, rfl, h⟩ := p.one_inv
      obtain ⟨a, ys, rfl, h1, h2⟩ := h.lst_inv
      rw [blsOf_eq o] at h2
      rw [h2.bls_inv] at h1
      exact cr_any hc pins s σ H _ us Q I r ⟨a, ns, rfl, ex_l e h1, q F H _ (Grow.refl e) (.bl _)⟩
  · cases e1
theorem cd_all (hc : X.calm = true) : CallD X (.builtin "all") allD := fun pins s σ F H ds d xs us Q I e p r e1 q => by
  unfold allD at e1
  split at e1
  · rename_i l
    cases o : blsOf l with
    | none => rw [o] at e1; cases e1
    | some ns =>
      rw [o] at e1
      cases e1
      obtain ⟨v, rfl, h⟩ := p.one_inv
      obtain ⟨a, ys, rfl, h1, h2⟩ := h.lst_inv
      rw [blsOf_eq o] at h2
      rw [h2.bls_inv] at h1
      exact cr_all hc pins s σ H _ us Q I r ⟨a, ns, rfl, ex_l e h1, q F H _ (Grow.refl e) (.bl _)⟩
  · cases e1
theorem cd_int : CallD X (.type "int") intD := fun pins s σ F H ds d xs us Q I e p r e1 q => by
  unfold intD at e1
  split at e1
  · cases e1
    obtain ⟨v, rfl, h⟩ := p.one_inv
    exact call_int1 pins s σ H _ us Q I r (.inl ⟨_, by rw [h.int_inv], q F H _ (Grow.refl e) (.int _)⟩)
  · cases e1
    obtain ⟨v, rfl, h⟩ := p.one_inv
    exact call_int1 pins s σ H _ us Q I r (.inr ⟨_, by rw [h.bl_inv], q F H _ (Grow.refl e) (.int _)⟩)
  · cases e1
theorem cd_str : CallD X (.type "str") strD := fun pins s σ F H ds d xs us Q I e p r e1 q => by
  unfold strD at e1
  split at e1
  · split at e1
    · rename_i hz
      cases e1
      obtain ⟨v, rfl, h⟩ := p.one_inv
      exact call_str_int pins s σ H _ us Q I r ⟨_, by rw [h.int_inv], Nat.lt_of_lt_of_le (log2_of_lt (by omega) hz) (by omega), q F H _ (Grow.refl e) (.str _)⟩
    · cases e1
  · cases e1
theorem cd_list : CallD X (.type "list") listD := fun pins s σ F H ds d xs us Q I e p r e1 q => by
  unfold listD at e1
  split at e1
  · cases e1
    obtain ⟨v, rfl, h⟩ := p.one_inv
    obtain ⟨a, ys, rfl, h1, h2⟩ := h.lst_inv
    exact call_list_of pins s σ H _ us Q I r ⟨a, ys, rfl, .inl (ex_l e h1), fun l n => q _ _ _ (Grow.one e n) (.lst (SqL.of upd_same) (h2.mono (Ex.new (e.none n))))⟩
  · cases e1
    obtain ⟨v, rfl, h⟩ := p.one_inv
    obtain ⟨a, ys, rfl, h1, h2⟩ := h.tup_inv
    exact call_list_of pins s σ H _ us Q I r ⟨a, ys, rfl, .inr (ex_t e h1), fun l n => q _ _ _ (Grow.one e n) (.lst (SqL.of upd_same) (h2.mono (Ex.new (e.none n))))⟩
  · cases e1
theorem cd_tuple : CallD X (.type "tuple") tupleD := fun pins s σ F H ds d xs us Q I e p r e1 q => by
  unfold tupleD at e1
  split at e1
  · cases e1
    obtain ⟨v, rfl, h⟩ := p.one_inv
    obtain ⟨a, ys, rfl, h1, h2⟩ := h.lst_inv
    exact call_tuple_of pins s σ H _ us Q I r ⟨a, ys, rfl, .inl ⟨ex_l e h1, fun l n => q _ _ _ (Grow.one e n) (.tup (SqT.of upd_same) (h2.mono (Ex.new (e.none n))))⟩⟩
  · cases e1
    obtain ⟨v, rfl, h⟩ := p.one_inv
    obtain ⟨a, ys, rfl, h1, h2⟩ := h.tup_inv
    exact call_tuple_of pins s σ H _ us Q I r ⟨a, ys, rfl, .inr ⟨ex_t e h1, q F H _ (Grow.refl e) (.tup h1 h2)⟩⟩
  · cases e1
end
end DL
namespace DL
open PySem PySem.Spec PyProof.Rows L2
/-! ## the state, changed -/
section
variable {M : Mo} {e : Ent} {W : Own} {F H : Hp} {env : List D} {σ : L2.St}
theorem Rel.set {i : Nat} {d : D} {v : V} (r : Rel M e W F H env σ) (p : Rp M F d v) (hp : e.P i = none) : Rel M e W F H (env.set i d) (σ.set i (some v)) where
  toRelB := r.toRelB
  len := by rw [List.length_set, List.length_set]; exact r.len
  slot := fun k d' h1 h2 => by
    by_cases h : i = k
    · subst h
      have hlt : i < env.length := by
        have := (List.getElem?_eq_some_iff.mp h1).1
        rwa [List.length_set] at this
      rw [List.getElem?_set_self hlt] at h1
      cases h1
      exact ⟨v, List.getElem?_set_self (by rw [← r.len]; exact hlt), .fz p⟩
    · rw [List.getElem?_set_ne h] at h1 ⊢
      exact r.slot k d' h1 h2
  pin := fun k w h => by
    have : i ≠ k := fun z => by
      subst z
      rw [hp] at h
      cases h
    rw [List.getElem?_set_ne this]
    exact r.pin k w h
/-- a slot is forgotten -/
theorem Rel.forget (r : Rel M e W F H env σ) (i : Nat) : Rel M e W F H (env.set i .unb) σ where
  toRelB := r.toRelB
  len := by rw [List.length_set]; exact r.len
  slot := fun k d' h1 h2 => by
    by_cases h : i = k
    · subst h
      have hlt : i < env.length := by
        have := (List.getElem?_eq_some_iff.mp h1).1
        rwa [List.length_set] at this
      rw [List.getElem?_set_self hlt] at h1
      cases h1
      exact absurd rfl h2
    · rw [List.getElem?_set_ne h] at h1
      exact r.slot k d' h1 h2
  pin := r.pin
/-- the owned things change their places: their roots by a map -/
theorem Rel.reroot {W' : Own} {F' : Hp} (r : Rel M e W F H env σ) (hW : ∀ a, W' a ≠ none → W a ≠ none) (hF : Ex F F') (hF2 : Ex F' H) (sep : ∀ a, W' a ≠ none → F' a = none) (hnew : ∀ b, F' b ≠ none → F b ≠ none ∨ e.H0 b = none)
    (hfr : ∀ a r q, W' a = some (r :: q) → e.H0 a = none ∨ ∃ i v q0, r = i + 1 ∧ e.P i = some v ∧ e.W0 a = some (r :: q0)) {env' : List D} {σ' : L2.St} (len : env'.length = σ'.length)
    (hs : ∀ i d, env'[i]? = some d → d ≠ .unb → ∃ v, σ'[i]? = some (some v) ∧ Ow M W' F' H [i + 1] d v) (hp : ∀ i v, e.P i = some v → σ'[i]? = some (some v)) : Rel M e W' F' H env' σ' where
  pres := r.pres
  exF0 := r.exF0.trans hF
  exF := hF2
  sep := fun a h => ⟨sep a h, (r.sep a (hW a h)).2⟩
  fresh := hfr
  new := fun b h => (hnew b h).elim (r.new b) .inr
  stay := r.stay
  len := len
  slot := hs
  pin := hp
def rootIs (o : Option (List Nat)) (k : Nat) : Bool := match o with
  | some (r :: _) => r == k
  | _ => false
theorem rootIs_iff {o : Option (List Nat)} {k : Nat} : rootIs o k = true ↔ ∃ q, o = some (k :: q) := by
  unfold rootIs
  constructor
  · intro h
    split at h
    · exact ⟨_, by rw [eq_of_beq h]⟩
    · cases h
  · rintro ⟨q, rfl⟩
    exact beq_self_eq_true k
/-- what the root k holds is frozen -/
def frzW (W : Own) (k : Nat) : Own := fun a => if rootIs (W a) k = true then none else W a
def frzF (W : Own) (k : Nat) (F H : Hp) : Hp := fun a => if rootIs (W a) k = true then H a else F a
theorem frzF_ex (r : RelB e W F H) (k : Nat) : Ex F (frzF W k F H) := fun a o h => by
  unfold frzF
  by_cases z : rootIs (W a) k = true
  · obtain ⟨q, hq⟩ := rootIs_iff.mp z
    have := (r.sep a (by rw [hq]; simp)).1
    rw [this] at h
    cases h
  · rw [if_neg z]
    exact h
theorem frzF_sub (r : RelB e W F H) (k : Nat) : Ex (frzF W k F H) H := fun a o h => by
  unfold frzF at h
  by_cases z : rootIs (W a) k = true
  · rw [if_pos z] at h
    exact h
  · rw [if_neg z] at h
    exact r.exF a o h
theorem frzW_eq {a : Addr} {k : Nat} {p : List Nat} (h : frzW W k a = some p) : W a = some p ∧ rootIs (W a) k = false := by
  unfold frzW at h
  by_cases z : rootIs (W a) k = true
  · rw [if_pos z] at h
    cases h
  · rw [if_neg z] at h
    exact ⟨h, by simpa using z⟩
theorem RelB.freeze (r : RelB e W F H) (k : Nat) (hk : ∀ i, k = i + 1 → e.P i = none) : RelB e (frzW W k) (frzF W k F H) H where
  pres := r.pres
  exF0 := r.exF0.trans (frzF_ex r k)
  exF := frzF_sub r k
  sep := fun a h => by
    cases q : frzW W k a with
    | none => exact absurd q h
    | some p =>
      obtain ⟨h1, h2⟩ := frzW_eq q
      have z := r.sep a (by rw [h1]; simp)
      refine ⟨?_, z.2⟩
      unfold frzF
      rw [if_neg (by rw [h2]; simp)]
      exact z.1
  fresh := fun a c q h => r.fresh a c q (frzW_eq h).1
  new := fun b h => by
    unfold frzF at h
    by_cases z : rootIs (W b) k = true
    · obtain ⟨q, hq⟩ := rootIs_iff.mp z
      rcases r.fresh b k q hq with f | ⟨i, v, q0, hi, hv, _⟩
      · exact .inr f
      · rw [hk i hi] at hv
        cases hv
    · rw [if_neg z] at h
      exact r.new b h
  stay := r.stay
theorem Ow.thaw {p : List Nat} {c : Nat} {q : List Nat} {k : Nat} {d : D} {v : V} (r : RelB e W F H) (h : Ow M W F H (c :: q) d v) (hc : c ≠ k) : Ow M (frzW W k) (frzF W k F H) H (c :: q) d v :=
  h.tr (frzF_ex r k) fun a z y => ⟨by
    unfold frzW
    rw [if_neg]
    · exact y
    · intro w
      obtain ⟨q', hq⟩ := rootIs_iff.mp w
      rw [y] at hq
      injection hq with hq
      injection hq with h1 _
      exact hc h1, fun _ x => x⟩
theorem Ow.froze {k : Nat} {d : D} {v : V} (r : RelB e W F H) (h : Ow M W F H [k] d v) : Rp M (frzF W k F H) (DL.frz d) v :=
  h.frz (frzF_ex r k) fun a q o z y => by
    unfold frzF
    rw [if_pos (rootIs_iff.mpr ⟨q, z⟩)]
    exact y
theorem Rel.freeze0 (r : Rel M e W F H env σ) : Rel M e (frzW W 0) (frzF W 0 F H) H env σ where
  toRelB := r.toRelB.freeze 0 fun i h => by omega
  len := r.len
  slot := fun i d h1 h2 => by
    obtain ⟨v, h3, h4⟩ := r.slot i d h1 h2
    exact ⟨v, h3, Ow.thaw (p := []) r.toRelB h4 (by omega)⟩
  pin := r.pin
/-- a slot's owned thing is frozen where it is -/
theorem Rel.freezeAt (r : Rel M e W F H env σ) {i : Nat} {d : D} (hi : env[i]? = some d) (hd : d ≠ .unb) (hp : e.P i = none) : ∃ v, σ[i]? = some (some v) ∧ Rp M (frzF W (i + 1) F H) (frz d) v ∧ Rel M e (frzW W (i + 1)) (frzF W (i + 1) F H) H (env.set i (frz d)) σ := by
  obtain ⟨v, h3, h4⟩ := r.slot i d hi hd
  have rp := Ow.froze r.toRelB h4
  refine ⟨v, h3, rp, ⟨r.toRelB.freeze (i + 1) fun k h => by
    have : k = i := by omega
    rw [this]
    exact hp, by rw [List.length_set]; exact r.len, fun k d' h1 h2 => ?_, r.pin⟩⟩
  by_cases h : i = k
  · subst h
    rw [List.getElem?_set_self (List.getElem?_eq_some_iff.mp hi).1] at h1
    cases h1
    exact ⟨v, h3, .fz rp⟩
  · rw [List.getElem?_set_ne h] at h1
    obtain ⟨v, h5, h6⟩ := r.slot k d' h1 h2
    exact ⟨v, h5, Ow.thaw (p := []) r.toRelB h6 (by omega)⟩
/-- the owned thing at the root 0 goes to a slot -/
def mvW (W : Own) (i : Nat) : Own := fun a => match W a with
  | some (r :: q) => if r = 0 then some ((i + 1) :: q) else if r = i + 1 then none else some (r :: q)
  | o => o
theorem Rel.setO {i : Nat} {d : D} {v : V} (r : Rel M e W F H env σ) (p : Ow M W F H [0] d v) (hp : e.P i = none) : Rel M e (mvW W i) F H (env.set i d) (σ.set i (some v)) := by
  have hW : ∀ a, mvW W i a ≠ none → W a ≠ none := fun a h z => h (by unfold mvW; rw [z])
  refine r.reroot hW (Ex.refl F) r.exF (fun a h => (r.sep a (hW a h)).1) (fun b h => .inl h) (fun a c q h => ?_) (by rw [List.length_set, List.length_set]; exact r.len) (fun k d' h1 h2 => ?_) (fun k w h => ?_)
  · unfold mvW at h
    split at h
    · rename_i r' q' hq
      split at h
      · rename_i h0
        subst h0
        rcases r.fresh a 0 q' hq with f | ⟨i', v', q0, hi', _⟩
        · exact .inl f
        · omega
      · split at h
        · cases h
        · injection h with h
          injection h with h1 h2
          subst h1
          exact r.fresh a _ q' hq
    · exact r.fresh a c q h
  · by_cases h : i = k
    · subst h
      have hlt : i < env.length := by
        have := (List.getElem?_eq_some_iff.mp h1).1
        rwa [List.length_set] at this
      rw [List.getElem?_set_self hlt] at h1
      cases h1
      refine ⟨v, List.getElem?_set_self (by rw [← r.len]; exact hlt), p.tr (Ex.refl F) fun a q z => ⟨?_, fun _ x => x⟩⟩
      unfold mvW
      rw [z]
      rfl
    · rw [List.getElem?_set_ne h] at h1 ⊢
      obtain ⟨v', h5, h6⟩ := r.slot k d' h1 h2
      refine ⟨v', h5, h6.tr (Ex.refl F) fun a q z => ⟨?_, fun _ x => x⟩⟩
      unfold mvW
      rw [z]
      show (if k + 1 = 0 then _ else if k + 1 = i + 1 then none else some ((k + 1) :: q)) = some ([k + 1] ++ q)
      rw [if_neg (by omega), if_neg (by omega)]
      rfl
  · have : i ≠ k := fun z => by
      subst z
      rw [hp] at h
      cases h
    rw [List.getElem?_set_ne this]
    exact r.pin k w h
/-- a slot's thing goes to the root 0; the slot is forgotten -/
def upW (W : Own) (i : Nat) : Own := fun a => match W a with
  | some (r :: q) => if r = i + 1 then some (0 :: q) else if r = 0 then none else some (r :: q)
  | o => o
theorem Rel.takeO {i : Nat} {d : D} (r : Rel M e W F H env σ) (hi : env[i]? = some d) (hd : d ≠ .unb) (hp : e.P i = none) : ∃ v, σ[i]? = some (some v) ∧ Ow M (upW W i) F H [0] d v ∧ Rel M e (upW W i) F H (env.set i .unb) σ := by
  obtain ⟨v, h3, h4⟩ := r.slot i d hi hd
  have hW : ∀ a, upW W i a ≠ none → W a ≠ none := fun a h z => h (by unfold upW; rw [z])
  refine ⟨v, h3, h4.tr (Ex.refl F) fun a q z => ⟨?_, fun _ x => x⟩, r.reroot hW (Ex.refl F) r.exF (fun a h => (r.sep a (hW a h)).1) (fun b h => .inl h) (fun a c q h => ?_) (by rw [List.length_set]; exact r.len) (fun k d' h1 h2 => ?_) r.pin⟩
  · unfold upW
    rw [z]
    show (if i + 1 = i + 1 then _ else _) = _
    rw [if_pos rfl]
    rfl
  · unfold upW at h
    split at h
    · rename_i r' q' hq
      split at h
      · rename_i h0
        subst h0
        rcases r.fresh a _ q' hq with f | ⟨i', v', q0, hi', hv, _⟩
        · exact .inl f
        · have : i' = i := by omega
          rw [this, hp] at hv
          cases hv
      · split at h
        · cases h
        · injection h with h
          injection h with h1 h2
          subst h1
          exact r.fresh a _ q' hq
    · exact r.fresh a c q h
  · by_cases h : i = k
    · subst h
      have hlt : i < env.length := by
        have := (List.getElem?_eq_some_iff.mp h1).1
        rwa [List.length_set] at this
      rw [List.getElem?_set_self hlt] at h1
      cases h1
      exact absurd rfl h2
    · rw [List.getElem?_set_ne h] at h1
      obtain ⟨v', h5, h6⟩ := r.slot k d' h1 h2
      refine ⟨v', h5, h6.tr (Ex.refl F) fun a q z => ⟨?_, fun _ x => x⟩⟩
      unfold upW
      rw [z]
      show (if k + 1 = i + 1 then _ else if k + 1 = 0 then none else some ((k + 1) :: q)) = some ([k + 1] ++ q)
      rw [if_neg (by omega), if_neg (by omega)]
      rfl
/-- an owned object of the slot i is written -/
theorem Rel.write {i : Nat} {a : Addr} {q : List Nat} {o : HO} {d : D} {v : V} (r : Rel M e W F H env σ) (ha : W a = some ((i + 1) :: q)) (hv : σ[i]? = some (some v)) (p : Ow M W F (upd H a o) [i + 1] d v) : Rel M e W F (upd H a o) (env.set i d) σ := by
  have hn : F a = none := (r.sep a (by rw [ha]; simp)).1
  have hb := r.sep a (by rw [ha]; simp)
  refine ⟨⟨fun b u h1 h2 => ?_, r.exF0, fun b u h => ?_, fun b h => ?_, r.fresh, r.new, fun b h => ?_⟩, by rw [List.length_set]; exact r.len, fun k d' h1 h2 => ?_, r.pin⟩
  · have : b ≠ a := fun z => by
      subst z
      rcases hb.2.1 with w | w
      · exact w h1
      · rw [w] at h2
        cases h2
    rw [upd_ne this]
    exact r.pres b u h1 h2
  · have : b ≠ a := fun z => by
      subst z
      rw [hn] at h
      cases h
    rw [upd_ne this]
    exact r.exF b u h
  · obtain ⟨h1, h2, h3⟩ := r.sep b h
    refine ⟨h1, h2, ?_⟩
    by_cases z : b = a
    · rw [z, upd_same]
      simp
    · rw [upd_ne z]
      exact h3
  · by_cases z : b = a
    · rw [z, upd_same]
      simp
    · rw [upd_ne z]
      exact r.stay b h
  · by_cases h : i = k
    · subst h
      have hlt : i < env.length := by
        have := (List.getElem?_eq_some_iff.mp h1).1
        rwa [List.length_set] at this
      rw [List.getElem?_set_self hlt] at h1
      cases h1
      exact ⟨v, hv, p⟩
    · rw [List.getElem?_set_ne h] at h1
      obtain ⟨v', h5, h6⟩ := r.slot k d' h1 h2
      refine ⟨v', h5, h6.tr (Ex.refl F) fun b q' z => ⟨z, fun u y => ?_⟩⟩
      have : b ≠ a := fun w => by
        subst w
        rw [ha] at z
        injection z with z
        injection z with z1 _
        omega
      rw [upd_ne this]
      exact y
/-- a new owned object at the root 0 -/
def newW (W : Own) (a : Addr) : Own := fun b => if b = a then some [0] else if rootIs (W b) 0 = true then none else W b
theorem Rel.newO {a : Addr} {xs : List V} {l : List D} (r : Rel M e W F H env σ) (n : H a = none) (p : RpL M F l xs) : Rel M e (newW W a) F (upd H a (.lst xs)) env σ ∧ Ow M (newW W a) F (upd H a (.lst xs)) [0] (.ml l) (.ref a) := by
  have nW : W a = none := by
    cases q : W a with
    | none => rfl
    | some z => exact absurd n (r.sep a (by rw [q]; simp)).2.2
  have h0 : e.H0 a = none := by
    cases q : e.H0 a with
    | none => rfl
    | some z => exact absurd n (r.stay a (by rw [q]; simp))
  have old : ∀ b, b ≠ a → newW W a b ≠ none → W b ≠ none := fun b hb h z => h (by
    unfold newW
    rw [if_neg hb, z]
    rfl)
  refine ⟨⟨⟨fun b u h1 h2 => ?_, r.exF0, fun b u h => ?_, fun b h => ?_, fun b c q h => ?_, r.new, fun b h => ?_⟩, r.len, fun k d' h1 h2 => ?_, r.pin⟩, .ml (by unfold newW; rw [if_pos rfl]) upd_same ?_⟩
  · have : b ≠ a := fun z => by
      subst z
      rw [h0] at h2
      cases h2
    rw [upd_ne this]
    exact r.pres b u h1 h2
  · have := r.exF b u h
    rw [upd_ne (ne_of_none this n)]
    exact this
  · by_cases z : b = a
    · subst z
      exact ⟨r.exF.none n, .inr h0, by rw [upd_same]; simp⟩
    · obtain ⟨h1, h2, h3⟩ := r.sep b (old b z h)
      exact ⟨h1, h2, by rw [upd_ne z]; exact h3⟩
  · unfold newW at h
    split at h
    · rename_i z
      subst z
      exact .inl h0
    · split at h
      · cases h
      · exact r.fresh b c q h
  · by_cases z : b = a
    · rw [z, upd_same]
      simp
    · rw [upd_ne z]
      exact r.stay b h
  · obtain ⟨v', h5, h6⟩ := r.slot k d' h1 h2
    refine ⟨v', h5, h6.tr (Ex.refl F) fun b q' z => ?_⟩
    have : b ≠ a := fun w => by
      subst w
      rw [nW] at z
      cases z
    refine ⟨?_, fun u y => by rw [upd_ne this]; exact y⟩
    unfold newW
    rw [if_neg this, if_neg]
    · exact z
    · intro w
      obtain ⟨q2, h7⟩ := rootIs_iff.mp w
      rw [z] at h7
      injection h7 with h7
      injection h7 with h8 _
      omega
  · have : ∀ {l : List D} {xs : List V} {H' : Hp} {W' : Own} {k : Nat}, RpL M F l xs → OwL M W' F H' [0] k l xs := by
      intro l
      induction l with
      | nil => intro xs H' W' k h; cases h; exact .nil
      | cons d l ih => intro xs H' W' k h; cases h with
        | cons h q => exact .cons (.fz h) (ih q)
    exact this p
end
end DL
namespace DL
open PySem PySem.Spec PyProof.Rows L2
/-! ## statements -/
inductive O where
  | nx (env : List D)
  | rt (d : D) (env : List D)
  | bk (env : List D)
  | ct (env : List D)
  | ex (c : Str) (fs : List D) (env : List D)
  | bad
def AtS (M : Mo) (j : J) (F : Hp) (o : O) (Dn : Ends) : Prop := match o with
  | .nx env' => ∀ W' F' H' σ', Rel M j.e W' F' H' env' σ' → Ex F F' → Dn.nx σ' H'
  | .rt d env' => ∀ W' F' H' σ' v, Rel M j.e W' F' H' env' σ' → Ow M W' F' H' [0] d v → Dn.rt v H'
  | .bk env' => ∀ W' F' H' σ', Rel M j.e W' F' H' env' σ' → Ex F F' → Dn.bk σ' H'
  | .ct env' => ∀ W' F' H' σ', Rel M j.e W' F' H' env' σ' → Ex F F' → Dn.ct σ' H'
  | .ex c fs env' => ∀ W' F' H' σ' cls dd, Rel M j.e W' F' H' env' σ' → Ex F F' → XR M F' c fs cls dd → j.wx cls dd σ' H'
  | .bad => False
def tS (M : Mo) (j : J) (den : List D → O) : TS := fun Dn σ H => ∃ W F env, Rel M j.e W F H env σ ∧ AtS M j F (den env) Dn
abbrev DS (X : Cx) (j : J) (st : Stmt) (den : List D → O) : Prop := PS X st (tS (mo X) j den)
abbrev DSs (X : Cx) (j : J) (st : List Stmt) (den : List D → O) : Prop := PSs X st (tS (mo X) j den)
theorem AtS.mono {M : Mo} {j : J} {F F1 : Hp} {o : O} {Dn : Ends} (h : AtS M j F o Dn) (x : Ex F F1) : AtS M j F1 o Dn := by
  cases o with
  | nx env => exact fun W' F' H' σ' a b => h W' F' H' σ' a (x.trans b)
  | bk env => exact fun W' F' H' σ' a b => h W' F' H' σ' a (x.trans b)
  | ct env => exact fun W' F' H' σ' a b => h W' F' H' σ' a (x.trans b)
  | rt d env => exact h
  | ex c fs env => exact fun W' F' H' σ' cls dd a b c => h W' F' H' σ' cls dd a (x.trans b) c
  | bad => exact h
/-- an expression in a statement -/
def bindS {α : Type} (r : R α) (f : α → List D → O) : O := match r with
  | .ok a env => f a env
  | .ex c fs env => .ex c fs env
  | .bad => .bad
@[simp] theorem bindS_ok {α : Type} (a : α) (env : List D) (f : α → List D → O) : bindS (.ok a env) f = f a env := rfl
@[simp] theorem bindS_ex {α : Type} (c : Str) (fs env : List D) (f : α → List D → O) : bindS (.ex c fs env) f = .ex c fs env := rfl
@[simp] theorem bindS_bad {α : Type} (f : α → List D → O) : bindS .bad f = .bad := rfl
theorem AtS.bind {α β : Type} {M : Mo} {j : J} {rep : Hp → α → β → Prop} {F : Hp} {σ : L2.St} {r : R α} {f : α → List D → O} {Dn : Ends} {P : β → Hp → Prop} (h : AtS M j F (bindS r f) Dn)
    (k : ∀ d env1 W1 F1 H1 v, r = .ok d env1 → Rel M j.e W1 F1 H1 env1 σ → Ex F F1 → rep F1 d v → AtS M j F1 (f d env1) Dn → P v H1) : At M j.e j.wx rep F σ r P := by
  cases r with
  | ok d env' => exact fun W' F' H' v a b c => k d env' W' F' H' v rfl a b c (h.mono b)
  | ex c fs env' => exact fun W' F' H' cls dd a b c => h W' F' H' σ cls dd a b c
  | bad => exact h
/-! ### what makes an owned thing -/
def AtO (M : Mo) (j : J) (F : Hp) (σ : L2.St) (r : R D) (Q : VK) : Prop := match r with
  | .ok d env' => ∀ W' F' H' v, Rel M j.e W' F' H' env' σ → Ex F F' → Ow M W' F' H' [0] d v → Q v H'
  | .ex c fs env' => ∀ W' F' H' cls dd, Rel M j.e W' F' H' env' σ → Ex F F' → XR M F' c fs cls dd → j.wx cls dd σ H'
  | .bad => False
def tO (M : Mo) (j : J) (den : List D → R D) : TE := fun σ H Q => ∃ W F env, Rel M j.e W F H env σ ∧ AtO M j F σ (den env) Q
abbrev DO (X : Cx) (j : J) (e : Expr) (den : List D → R D) : Prop := PE X e (tO (mo X) j den)
def frzD (da : List D → R D) : List D → R D := fun env => bindR (da env) fun d env1 => .ok (frz d) env1
/-- made, and frozen at once -/
theorem e_frzo {X : Cx} {j : J} {e : Expr} {da : List D → R D} (h : DO X j e da) : DE X j e (frzD da) :=
  PE.mono h fun σ H Q ⟨W, F, env, rel, q⟩ => ⟨W, F, env, rel, by
    unfold frzD at q
    cases o : da env with
    | ok d env1 =>
      rw [o] at q
      exact fun W' F' H' v a b c => q (frzW W' 0) (frzF W' 0 F' H') H' v a.freeze0 (b.trans (frzF_ex a.toRelB 0)) (Ow.froze a.toRelB c)
    | ex c fs env1 =>
      rw [o] at q
      exact q
    | bad =>
      rw [o] at q
      exact q⟩
/-! ### blocks -/
def skipD : List D → O := fun env => .nx env
def seqD (da db : List D → O) : List D → O := fun env => match da env with
  | .nx env1 => db env1
  | r => r
def ifS (dt : List D → R Bool) (da db : List D → O) : List D → O := fun env => bindS (dt env) fun b env1 => if b = true then da env1 else db env1
def asgD (i : Nat) (da : List D → R D) : List D → O := fun env => bindS (da env) fun d env1 => .nx (env1.set i d)
def exprD (da : List D → R D) : List D → O := fun env => bindS (da env) fun _ env1 => .nx env1
def retD (da : List D → R D) : List D → O := fun env => bindS (da env) fun d env1 => .rt d env1
def retN : List D → O := fun env => .rt .non env
def retV (i : Nat) : List D → O := fun env => match env.getD i .unb with
  | .unb => .bad
  | d => .rt d (env.set i .unb)
def brkD : List D → O := fun env => .bk env
def cntD : List D → O := fun env => .ct env
section
variable {X : Cx} {j : J} {a b c e : Expr} {st : Stmt} {es : List Expr} {sts : List Stmt} {pos pos' : Pos} {da db : List D → R D} {dt : List D → R Bool} {sa sb : List D → O}
theorem ss_nil : DSs X j [] skipD := PSs.mono pss_nil fun Dn σ H ⟨W, F, env, rel, q⟩ => q W F H σ rel (Ex.refl F)
theorem ss_cons (ha : DS X j st sa) (hb : DSs X j sts sb) : DSs X j (st :: sts) (seqD sa sb) :=
  PSs.mono (pss_cons ha hb) fun Dn σ H ⟨W, F, env, rel, q⟩ => ⟨W, F, env, rel, by
    unfold seqD at q
    cases o : sa env with
    | nx env1 =>
      rw [o] at q
      exact fun W' F' H' σ' r x => ⟨W', F', env1, r, q.mono x⟩
    | _ =>
      rw [o] at q
      exact q⟩
theorem ss_one (ha : DS X j st sa) : DSs X j [st] sa := pss_one ha
theorem s_if {p q : List Stmt} (hc : DT X j c dt) (ha : DSs X j p sa) (hb : DSs X j q sb) : DS X j (.If c p q pos) (ifS dt sa sb) :=
  PS.mono (ps_if hc ha hb) fun Dn σ H ⟨W, F, env, rel, q⟩ => ⟨W, F, env, rel, AtS.bind q fun d env1 W1 F1 H1 v _ r1 x1 p1 q1 => by
    subst p1
    cases d with
    | true => exact ⟨W1, F1, env1, r1, q1⟩
    | false => exact ⟨W1, F1, env1, r1, q1⟩⟩
theorem s_doc {x : Str} {k : Nat} : DS X j (.Expr (.Constant (.str x) k pos) pos') skipD := PS.mono ps_doc fun Dn σ H ⟨W, F, env, rel, q⟩ => q W F H σ rel (Ex.refl F)
theorem s_pass : DS X j (.Pass pos) skipD := PS.mono ps_pass fun Dn σ H ⟨W, F, env, rel, q⟩ => q W F H σ rel (Ex.refl F)
theorem s_brk : DS X j (.Break pos) brkD := PS.mono ps_break fun Dn σ H ⟨W, F, env, rel, q⟩ => q W F H σ rel (Ex.refl F)
theorem s_cnt : DS X j (.Continue pos) cntD := PS.mono ps_continue fun Dn σ H ⟨W, F, env, rel, q⟩ => q W F H σ rel (Ex.refl F)
theorem s_expr (ha : DE X j e da) (hs : swapsWith e none pos.line X.env = pure false := by rfl) : DS X j (.Expr e pos) (exprD da) :=
  PS.mono (ps_expr ha hs) fun Dn σ H ⟨W, F, env, rel, q⟩ => ⟨W, F, env, rel, AtS.bind q fun d env1 W1 F1 H1 v _ r1 x1 p1 q1 => q1 W1 F1 H1 σ r1 (Ex.refl F1)⟩
theorem s_ret (ha : DE X j e da) : DS X j (.Return (some e) pos) (retD da) :=
  PS.mono (ps_ret ha) fun Dn σ H ⟨W, F, env, rel, q⟩ => ⟨W, F, env, rel, AtS.bind q fun d env1 W1 F1 H1 v _ r1 x1 p1 q1 => q1 W1 F1 H1 σ v r1 (.fz p1)⟩
theorem s_retN : DS X j (.Return none pos) retN := PS.mono ps_retN fun Dn σ H ⟨W, F, env, rel, q⟩ => q W F H σ .non rel (.fz .non)
theorem s_retO (ha : DO X j e da) : DS X j (.Return (some e) pos) (retD da) :=
  PS.mono (ps_ret ha) fun Dn σ H ⟨W, F, env, rel, q⟩ => ⟨W, F, env, rel, by
    unfold retD at q
    cases o : da env with
    | ok d env1 =>
      rw [o] at q
      exact fun W' F' H' v r x p => q W' F' H' σ v r p
    | ex c fs env1 =>
      rw [o] at q
      exact fun W' F' H' cls dd r x y => q W' F' H' σ cls dd r x y
    | bad =>
      rw [o] at q
      exact q⟩
/-- return x, x owned: it goes with it -/
theorem s_retV (i : Nat) {x : Str} {p : Pos} (h : PE X (.Name x p) (tVar i)) (hp : j.e.P i = none) : DS X j (.Return (some (.Name x p)) pos) (retV i) :=
  PS.mono (ps_ret h) fun Dn σ H ⟨W, F, env, rel, q⟩ => by
    have q : AtS (mo X) j F (retV i env) Dn := q
    have key : env.getD i .unb ≠ .unb → AtS (mo X) j F (.rt (env.getD i .unb) (env.set i .unb)) Dn → tRet (tVar i) Dn σ H := fun hd q => by
      have hi : env[i]? = some (env.getD i .unb) := by
        rw [List.getD_eq_getElem?_getD] at hd ⊢
        cases z : env[i]? with
        | none => rw [z] at hd; exact absurd rfl hd
        | some d => rfl
      obtain ⟨v, h3, h4, h5⟩ := rel.takeO hi hd hp
      exact ⟨v, h3, q _ _ _ σ v h5 h4⟩
    unfold retV at q
    split at q
    · exact q.elim
    · rename_i h1
      exact key h1 q
/-- x = e -/
theorem s_set (i : Nat) {x : Str} (hN : X.N.Nodup) (hp : j.e.P i = none) (ha : DE X j e da) (hi : X.N[i]? = some x := by rfl) (hx : Loc X.env.scope x := by first | exact Or.inl rfl | exact Or.inr rfl) (hs : swapsWith e (some (.Name x pos')) pos.line X.env = pure false := by rfl)
    (hf : X.fn x = true ∨ X.env.scope.names.lookup x = some .local := by first | exact .inl rfl | exact .inr rfl) : DS X j (.Assign [.Name x pos'] e pos) (asgD i da) :=
  PS.mono (ps_set hN hi hx ha hs hf) fun Dn σ H ⟨W, F, env, rel, q⟩ => ⟨W, F, env, rel, AtS.bind q fun d env1 W1 F1 H1 v _ r1 x1 p1 q1 => q1 W1 F1 H1 _ (r1.set p1 hp) (Ex.refl F1)⟩
/-- x = e, what e makes is owned -/
theorem s_setO (i : Nat) {x : Str} (hN : X.N.Nodup) (hp : j.e.P i = none) (ha : DO X j e da) (hi : X.N[i]? = some x := by rfl) (hx : Loc X.env.scope x := by first | exact Or.inl rfl | exact Or.inr rfl) (hs : swapsWith e (some (.Name x pos')) pos.line X.env = pure false := by rfl)
    (hf : X.fn x = true ∨ X.env.scope.names.lookup x = some .local := by first | exact .inl rfl | exact .inr rfl) : DS X j (.Assign [.Name x pos'] e pos) (asgD i da) :=
  PS.mono (ps_set hN hi hx ha hs hf) fun Dn σ H ⟨W, F, env, rel, q⟩ => ⟨W, F, env, rel, by
    unfold asgD at q
    cases o : da env with
    | ok d env1 =>
      rw [o] at q
      exact fun W' F' H' v r x p => q _ F' H' _ (r.setO p hp) x
    | ex c fs env1 =>
      rw [o] at q
      exact fun W' F' H' cls dd r x y => q W' F' H' σ cls dd r x y
    | bad =>
      rw [o] at q
      exact q⟩
end
/-! ## defs -/
inductive FR where
  | ret (d : D) (outs : List D)
  | exc (c : Str) (fs : List D) (outs : List D)
  | bad
inductive Ar where
  | v (d : D)
  | io (i : Nat)
def ownd : D → Bool
  | .ml _ => true
  | .mi _ _ => true
  | _ => false
def outsOk (M : Mo) (W : Own) (F H : Hp) (io : List Nat) (outs : List D) (vs : List V) : Prop :=
  ∀ (t k : Nat) (d : D), io[t]? = some k → outs[t]? = some d → d ≠ .unb → ∃ v, vs[k]? = some v ∧ Ow M W F H [k + 1] d v
def pinOf (io : List Nat) (vs : List V) : Nat → Option V := fun i => if i ∈ io then vs[i]? else none
/-- the promise of a def: n parameters, those at io are owned by the caller and changed -/
def spD (M : Mo) (n : Nat) (io : List Nat) (f : List D → FR) : Sp := fun vs H Q E => ∃ (W : Own) (F : Hp) (ds : List D),
  vs.length = n ∧ ds.length = n ∧ RelB ⟨H, F, W, pinOf io vs⟩ W F H ∧ (∀ i d, ds[i]? = some d → d ≠ .unb ∧ ∃ v, vs[i]? = some v ∧ Ow M W F H [i + 1] d v) ∧
  match f ds with
  | .ret d outs => ∀ W' F' H' v, RelB ⟨H, F, W, pinOf io vs⟩ W' F' H' → Ow M W' F' H' [0] d v → outsOk M W' F' H' io outs vs → Q v H'
  | .exc c fs outs => ∀ W' F' H' cls dd, RelB ⟨H, F, W, pinOf io vs⟩ W' F' H' → XR M F' c fs cls dd → outsOk M W' F' H' io outs vs → E cls dd H'
  | .bad => False
def outsD (io : List Nat) (env : List D) : List D := io.map fun i => env.getD i .unb
/-- a body as a function: N names -/
def runD (N : Nat) (io : List Nat) (den : List D → O) : List D → FR := fun ds => match den (ds ++ List.replicate (N - ds.length) .unb) with
  | .nx env => .ret .non (outsD io env)
  | .rt d env => .ret d (outsD io env)
  | .ex c fs env => .exc c fs (outsD io env)
  | _ => .bad
/-- what a body leans on -/
structure Wf (X : Cx) (j : J) (io : List Nat) : Prop where
  nd : X.N.Nodup
  calm : X.calm = true
  take : Takes X j.wx
  pass : PassesOwn (model X.prog X.w) X.A X.env X.xe
  pin : ∀ i, i ∉ io → j.e.P i = none
theorem outs_rel {M : Mo} {H F : Hp} {W0 W : Own} {io : List Nat} {vs : List V} {F' H' : Hp} {env : List D} {σ : L2.St} (r : Rel M ⟨H, F, W0, pinOf io vs⟩ W F' H' env σ) (hio : ∀ i ∈ io, i < vs.length) : outsOk M W F' H' io (outsD io env) vs := fun t k d h1 h2 h3 => by
  unfold outsD at h2
  rw [List.getElem?_map, h1] at h2
  have h2 : env.getD k .unb = d := Option.some.inj h2
  have hk : k ∈ io := List.mem_of_getElem? h1
  have hi : env[k]? = some d := by
    rw [List.getD_eq_getElem?_getD] at h2
    cases q : env[k]? with
    | none => rw [q] at h2; exact absurd h2.symm h3
    | some z => rw [q] at h2; exact congrArg some h2
  obtain ⟨v, h4, h5⟩ := r.slot k d hi h3
  have hv : vs[k]? = some (vs[k]'(hio k hk)) := List.getElem?_eq_getElem _
  have := r.pin k _ (show pinOf io vs k = some _ by unfold pinOf; rw [if_pos hk]; exact hv)
  rw [h4] at this
  cases this
  exact ⟨_, hv, h5⟩
section
variable {P : Program} {w : World} {K : PySem.W.Frag} {mg : Str → Option Value} {base : Heap}
/-- THE RULE of a def -/
theorem fn_den {x qual : Str} {st : Stmt} {f : Addr} {fd : FuncData} {N ps : List Str} {k : Nat} {io : List Nat} {den : List D → O} (F : Fun K x qual st f fd) (S : FnScope N ps (defScope st)) (hio : ∀ i ∈ io, i < ps.length)
    (hbody : ∀ (cdv : Value) (A : Around) (outer : List Env) (s : Shared) (H : Hp) (E : XK) (j : J), Room k (A.deeper (envOfC qual (defScope st) s.heap.objs.size f cdv)) →
      Wf (cxOf (L2.CX P w) P w K mg base N qual (defScope st) f cdv A outer s H E) j io → DSs (cxOf (L2.CX P w) P w K mg base N qual (defScope st) f cdv A outer s H E) j (defBody st) den) :
    FnOk P w K mg base (L2.CX P w) (k + 1) f fd ps (spD ⟨K, mg⟩ ps.length io (runD N.length io den)) := by
  refine F.okX S (fun vs H Q E h => ?_) (fun cdv A outer s H vs Q E hr h => ?_)
  · obtain ⟨_, _, _, h, _⟩ := h
    exact h
  · obtain ⟨W, F, ds, hv, hl, rb, sl, q⟩ := h
    have hN : ps.length ≤ N.length := by
      have := congrArg List.length S.pre
      rw [List.length_take] at this
      omega
    refine ⟨_, hbody cdv A outer s H E ⟨⟨H, F, W, pinOf io vs⟩, fun cls dd _ H' => E cls dd H'⟩ hr ⟨S.nd, rfl, takes_of rfl rfl rfl rfl, passes_of rfl, fun i hi => if_neg hi⟩, ?_⟩
    refine ⟨W, F, ds ++ List.replicate (N.length - ds.length) .unb, ⟨rb, ?_, fun i d h1 h2 => ?_, fun i v h1 => ?_⟩, ?_⟩
    · unfold L2.start
      rw [List.length_append, List.length_append, List.length_replicate, List.length_replicate, List.length_map, hl, hv]
    · by_cases hi : i < ds.length
      · rw [List.getElem?_append_left hi] at h1
        obtain ⟨_, v, h3, h4⟩ := sl i d h1
        refine ⟨v, ?_, h4⟩
        unfold L2.start
        rw [List.getElem?_append_left (by rw [List.length_map, hv, ← hl]; exact hi), List.getElem?_map, h3]
        rfl
      · rw [List.getElem?_append_right (by omega), List.getElem?_replicate] at h1
        split at h1
        · cases h1
          exact absurd rfl h2
        · cases h1
    · have h1 : pinOf io vs i = some v := h1
      unfold pinOf at h1
      split at h1
      · have hi : i < vs.length := (List.getElem?_eq_some_iff.mp h1).1
        unfold L2.start
        rw [List.getElem?_append_left (by rw [List.length_map]; exact hi), List.getElem?_map, h1]
        rfl
      · cases h1
    · have hio' : ∀ i ∈ io, i < vs.length := fun i h => by
        rw [hv]
        exact hio i h
      unfold runD at q
      cases o : den (ds ++ List.replicate (N.length - ds.length) .unb) with
      | nx env =>
        rw [o] at q
        exact fun W' F' H' σ' r _ => q W' F' H' .non r.toRelB (.fz .non) (outs_rel r hio')
      | rt d env =>
        rw [o] at q
        exact fun W' F' H' σ' v r p => q W' F' H' v r.toRelB p (outs_rel r hio')
      | ex c fs env =>
        rw [o] at q
        exact fun W' F' H' σ' cls dd r _ p => q W' F' H' cls dd r.toRelB p (outs_rel r hio')
      | bk env => rw [o] at q; exact q.elim
      | ct env => rw [o] at q; exact q.elim
      | bad => rw [o] at q; exact q.elim
end
end DL
namespace DL
open PySem PySem.Spec PyProof.Rows L2
/-! ## calls of defs -/
def RaL (M : Mo) (σ : L2.St) (F : Hp) : List Ar → List V → Prop
  | [], vs => vs = []
  | .v d :: as, vs => ∃ v r, vs = v :: r ∧ Rp M F d v ∧ RaL M σ F as r
  | .io i :: as, vs => ∃ v r, vs = v :: r ∧ σ[i]? = some (some v) ∧ RaL M σ F as r
abbrev DAr (X : Cx) (j : J) (es : List Expr) (den : List D → R (List Ar)) : Prop := PA X es (fun σ H Q => tR (mo X) j.e j.wx (RaL (mo X) σ) den σ H Q)
def nilA : List D → R (List Ar) := fun env => .ok [] env
def consA (da : List D → R D) (dr : List D → R (List Ar)) : List D → R (List Ar) := fun env => bindR (da env) fun x env1 => bindR (dr env1) fun xs env2 => .ok (.v x :: xs) env2
def ioA (i : Nat) (dr : List D → R (List Ar)) : List D → R (List Ar) := fun env => if ownd (env.getD i .unb) = true then bindR (dr env) fun xs env2 => .ok (.io i :: xs) env2 else .bad
theorem RaL.mono {M : Mo} {σ : L2.St} {F F' : Hp} (x : Ex F F') : ∀ {as : List Ar} {vs : List V}, RaL M σ F as vs → RaL M σ F' as vs
  | [], _, h => h
  | .v d :: as, _, ⟨v, r, e, p, q⟩ => ⟨v, r, e, p.mono x, RaL.mono x q⟩
  | .io i :: as, _, ⟨v, r, e, p, q⟩ => ⟨v, r, e, p, RaL.mono x q⟩
theorem ownd_some {env : List D} {i : Nat} (h : ownd (env.getD i .unb) = true) : env[i]? = some (env.getD i .unb) ∧ env.getD i .unb ≠ .unb := by
  constructor
  · rw [List.getD_eq_getElem?_getD] at h ⊢
    cases q : env[i]? with
    | none => rw [q] at h; exact absurd h (by unfold ownd; simp)
    | some d => rfl
  · intro e
    rw [e] at h
    exact absurd h (by unfold ownd; simp)
section
variable {X : Cx} {j : J} {a : Expr} {es : List Expr} {pos : Pos} {da : List D → R D} {dr : List D → R (List Ar)}
theorem a_nil : DAr X j [] nilA := PA.mono pa_nil fun σ H Q ⟨W, F, env, rel, q⟩ => q W F H [] rel (Ex.refl F) rfl
theorem a_cons (ha : DE X j a da) (hr : DAr X j es dr) (hs : starEach (a :: es) X.env = (false, eval a X.env) :: starEach es X.env := by rfl) : DAr X j (a :: es) (consA da dr) :=
  PA.mono (pa_cons ha hr hs) fun σ H Q ⟨W, F, env, rel, q⟩ => ⟨W, F, env, rel, At.bind q fun d env1 W1 F1 H1 v _ r1 x1 p1 q1 => ⟨W1, F1, env1, r1, At.bind q1 fun d2 env2 W2 F2 H2 v2 _ r2 x2 p2 q2 =>
    q2 W2 F2 H2 (v :: v2) r2 (Ex.refl F2) ⟨v, v2, rfl, p1.mono x2, p2⟩⟩⟩
theorem a_io (i : Nat) {x : Str} (h : PE X (.Name x pos) (tVar i)) (hr : DAr X j es dr) (hs : starEach ((.Name x pos) :: es) X.env = (false, eval (.Name x pos) X.env) :: starEach es X.env := by rfl) : DAr X j ((.Name x pos) :: es) (ioA i dr) :=
  PA.mono (pa_cons h hr hs) fun σ H Q ⟨W, F, env, rel, q⟩ => by
    unfold ioA at q
    by_cases o : ownd (env.getD i .unb) = true
    · rw [if_pos o] at q
      obtain ⟨h1, h2⟩ := ownd_some o
      obtain ⟨v, h3, h4⟩ := rel.slot i _ h1 h2
      exact ⟨v, h3, W, F, env, rel, At.bind q fun d2 env2 W2 F2 H2 v2 _ r2 x2 p2 q2 => q2 W2 F2 H2 (v :: v2) r2 (Ex.refl F2) ⟨v, v2, rfl, h3, p2⟩⟩
    · rw [if_neg o] at q
      exact q.elim
end
def valsOf (as : List Ar) (env : List D) : List D := as.map fun a => match a with
  | .v d => d
  | .io i => env.getD i .unb
def ioOf : Nat → List Ar → List (Nat × Nat)
  | _, [] => []
  | k, .v _ :: r => ioOf (k + 1) r
  | k, .io i :: r => (k, i) :: ioOf (k + 1) r
def okIo (n : Nat) (io : List Nat) (as : List Ar) (env : List D) : Bool :=
  decide (as.length = n) && (decide ((ioOf 0 as).map (·.1) = io) && decide ((ioOf 0 as).map (·.2)).Nodup && (ioOf 0 as).all fun p => ownd (env.getD p.2 .unb))
def wback : List Nat → List D → List D → List D
  | i :: is, d :: ds, env => wback is ds (env.set i d)
  | _, _, env => env
/-- the call of a def: what it hands back may be owned -/
def callO (n : Nat) (io : List Nat) (f : List D → FR) (da : List D → R (List Ar)) : List D → R D := fun env => bindR (da env) fun as env1 =>
  if okIo n io as env1 = true then match f (valsOf as env1) with
    | .ret d outs => .ok d (wback ((ioOf 0 as).map (·.2)) outs env1)
    | .exc c fs outs => .ex c fs (wback ((ioOf 0 as).map (·.2)) outs env1)
    | .bad => .bad
  else .bad
theorem ioOf_lt : ∀ {as : List Ar} {k : Nat} {p : Nat × Nat}, p ∈ ioOf k as → k ≤ p.1
  | [], _, _, h => by simp [ioOf] at h
  | .v _ :: r, k, p, h => by
    have := ioOf_lt (as := r) (k := k + 1) (p := p) h
    omega
  | .io i :: r, k, p, h => by
    rcases List.mem_cons.mp h with h | h
    · rw [h]
      exact Nat.le_refl _
    · have := ioOf_lt (as := r) (k := k + 1) (p := p) h
      omega
theorem ioOf_fst : ∀ {as : List Ar} {k : Nat}, ((ioOf k as).map (·.1)).Nodup
  | [], _ => List.nodup_nil
  | .v _ :: r, k => ioOf_fst (as := r) (k := k + 1)
  | .io i :: r, k => by
    show (k :: (ioOf (k + 1) r).map (·.1)).Nodup
    refine List.nodup_cons.mpr ⟨fun h => ?_, ioOf_fst (as := r) (k := k + 1)⟩
    obtain ⟨p, hp, e⟩ := List.mem_map.mp h
    have := ioOf_lt hp
    omega
theorem ral_io {M : Mo} {σ : L2.St} {F : Hp} : ∀ {as : List Ar} {vs : List V} {k : Nat} {p : Nat × Nat}, RaL M σ F as vs → p ∈ ioOf k as → ∃ v, vs[p.1 - k]? = some v ∧ σ[p.2]? = some (some v) ∧ as[p.1 - k]? = some (.io p.2)
  | [], _, _, _, _, h => by simp [ioOf] at h
  | .v _ :: r, _, k, p, ⟨v, vs, e, _, q⟩, h => by
    have hl := ioOf_lt (as := r) (k := k + 1) (p := p) h
    obtain ⟨w, h1, h2, h3⟩ := ral_io (k := k + 1) q h
    have e1 : p.1 - k = (p.1 - (k + 1)) + 1 := by omega
    exact ⟨w, by rw [e, e1, List.getElem?_cons_succ]; exact h1, h2, by rw [e1, List.getElem?_cons_succ]; exact h3⟩
  | .io i :: r, _, k, p, ⟨v, vs, e, s, q⟩, h => by
    rcases List.mem_cons.mp h with h | h
    · rw [h, e]
      exact ⟨v, by simp, s, by simp⟩
    · have hl := ioOf_lt (as := r) (k := k + 1) (p := p) h
      obtain ⟨w, h1, h2, h3⟩ := ral_io (k := k + 1) q h
      have e1 : p.1 - k = (p.1 - (k + 1)) + 1 := by omega
      exact ⟨w, by rw [e, e1, List.getElem?_cons_succ]; exact h1, h2, by rw [e1, List.getElem?_cons_succ]; exact h3⟩
theorem ral_len {M : Mo} {σ : L2.St} {F : Hp} : ∀ {as : List Ar} {vs : List V}, RaL M σ F as vs → as.length = vs.length
  | [], _, h => by rw [show _ = ([] : List V) from h]; rfl
  | .v _ :: r, _, ⟨v, vs, e, _, q⟩ => by rw [e, List.length_cons, List.length_cons, ral_len q]
  | .io i :: r, _, ⟨v, vs, e, s, q⟩ => by rw [e, List.length_cons, List.length_cons, ral_len q]
theorem ral_v {M : Mo} {σ : L2.St} {F : Hp} : ∀ {as : List Ar} {vs : List V} {i : Nat} {d : D}, RaL M σ F as vs → as[i]? = some (.v d) → ∃ v, vs[i]? = some v ∧ Rp M F d v
  | [], _, _, _, _, h => by simp at h
  | .v _ :: r, _, 0, _, ⟨v, vs, e, p, q⟩, h => by
    simp at h
    subst h
    exact ⟨v, by rw [e]; rfl, p⟩
  | .v _ :: r, _, i + 1, _, ⟨v, vs, e, p, q⟩, h => by
    rw [List.getElem?_cons_succ] at h
    obtain ⟨w, h1, h2⟩ := ral_v q h
    exact ⟨w, by rw [e, List.getElem?_cons_succ]; exact h1, h2⟩
  | .io _ :: r, _, 0, _, _, h => by simp at h
  | .io _ :: r, _, i + 1, _, ⟨v, vs, e, p, q⟩, h => by
    rw [List.getElem?_cons_succ] at h
    obtain ⟨w, h1, h2⟩ := ral_v q h
    exact ⟨w, by rw [e, List.getElem?_cons_succ]; exact h1, h2⟩
theorem ioOf_mem : ∀ {as : List Ar} {k n i : Nat}, as[n]? = some (.io i) → (n + k, i) ∈ ioOf k as
  | [], _, _, _, h => by simp at h
  | .v _ :: r, k, 0, _, h => by simp at h
  | .v _ :: r, k, n + 1, i, h => by
    rw [List.getElem?_cons_succ] at h
    have := ioOf_mem (k := k + 1) h
    rw [show n + 1 + k = n + (k + 1) by omega]
    exact this
  | .io _ :: r, k, 0, i, h => by
    simp at h
    subst h
    exact List.mem_cons.mpr (.inl (by simp))
  | .io _ :: r, k, n + 1, i, h => by
    rw [List.getElem?_cons_succ] at h
    have := ioOf_mem (k := k + 1) h
    rw [show n + 1 + k = n + (k + 1) by omega]
    exact List.mem_cons.mpr (.inr this)
def toK (ps : List (Nat × Nat)) (i : Nat) : Option Nat := (ps.find? fun p => p.2 == i).map (·.1)
def toI (ps : List (Nat × Nat)) (k : Nat) : Option Nat := (ps.find? fun p => p.1 == k).map (·.2)
theorem toK_mem {ps : List (Nat × Nat)} {i k : Nat} (h : toK ps i = some k) : (k, i) ∈ ps := by
  unfold toK at h
  cases q : ps.find? fun p => p.2 == i with
  | none => rw [q] at h; cases h
  | some p =>
    rw [q] at h
    have h : p.1 = k := Option.some.inj h
    have h2 : p.2 = i := by simpa using List.find?_some q
    have := List.mem_of_find?_eq_some q
    rw [← h, ← h2]
    exact this
theorem toI_mem {ps : List (Nat × Nat)} {i k : Nat} (h : toI ps k = some i) : (k, i) ∈ ps := by
  unfold toI at h
  cases q : ps.find? fun p => p.1 == k with
  | none => rw [q] at h; cases h
  | some p =>
    rw [q] at h
    have h : p.2 = i := Option.some.inj h
    have h2 : p.1 = k := by simpa using List.find?_some q
    have := List.mem_of_find?_eq_some q
    rw [← h, ← h2]
    exact this
theorem pair_snd : ∀ {ps : List (Nat × Nat)} {a b i : Nat}, (ps.map (·.2)).Nodup → (a, i) ∈ ps → (b, i) ∈ ps → a = b
  | [], _, _, _, _, h, _ => by simp at h
  | p :: ps, a, b, i, nd, h1, h2 => by
    obtain ⟨n1, n2⟩ := List.nodup_cons.mp nd
    rcases List.mem_cons.mp h1 with h1 | h1 <;> rcases List.mem_cons.mp h2 with h2 | h2
    · rw [← h1] at h2
      exact (Prod.mk.inj h2).1.symm
    · exact absurd (List.mem_map.mpr ⟨_, h2, by rw [← h1]⟩) n1
    · exact absurd (List.mem_map.mpr ⟨_, h1, by rw [← h2]⟩) n1
    · exact pair_snd n2 h1 h2
theorem pair_fst : ∀ {ps : List (Nat × Nat)} {a b i : Nat}, (ps.map (·.1)).Nodup → (i, a) ∈ ps → (i, b) ∈ ps → a = b
  | [], _, _, _, _, h, _ => by simp at h
  | p :: ps, a, b, i, nd, h1, h2 => by
    obtain ⟨n1, n2⟩ := List.nodup_cons.mp nd
    rcases List.mem_cons.mp h1 with h1 | h1 <;> rcases List.mem_cons.mp h2 with h2 | h2
    · rw [← h1] at h2
      exact (Prod.mk.inj h2).2.symm
    · exact absurd (List.mem_map.mpr ⟨_, h2, by rw [← h1]⟩) n1
    · exact absurd (List.mem_map.mpr ⟨_, h1, by rw [← h2]⟩) n1
    · exact pair_fst n2 h1 h2
theorem mem_toK {ps : List (Nat × Nat)} {i k : Nat} (nd : (ps.map (·.2)).Nodup) (h : (k, i) ∈ ps) : toK ps i = some k := by
  cases q : toK ps i with
  | some k' => rw [pair_snd nd h (toK_mem q)]
  | none =>
    unfold toK at q
    have : ps.find? (fun p => p.2 == i) = none := by
      cases z : ps.find? fun p => p.2 == i with
      | none => rfl
      | some p => rw [z] at q; cases q
    exact absurd (List.find?_eq_none.mp this _ h) (by simp)
theorem mem_toI {ps : List (Nat × Nat)} {i k : Nat} (nd : (ps.map (·.1)).Nodup) (h : (k, i) ∈ ps) : toI ps k = some i := by
  cases q : toI ps k with
  | some k' => rw [pair_fst nd h (toI_mem q)]
  | none =>
    unfold toI at q
    have : ps.find? (fun p => p.1 == k) = none := by
      cases z : ps.find? fun p => p.1 == k with
      | none => rfl
      | some p => rw [z] at q; cases q
    exact absurd (List.find?_eq_none.mp this _ h) (by simp)
/-- what is owned, as the callee sees it, and behind the call -/
def inW (ps : List (Nat × Nat)) (W : Own) : Own := fun a => match W a with
  | some ((i + 1) :: q) => (toK ps i).map fun k => (k + 1) :: q
  | _ => none
def outW (ps : List (Nat × Nat)) (W W' : Own) : Own := fun a => match W' a with
  | some (0 :: q) => some (0 :: q)
  | some ((k + 1) :: q) => (toI ps k).map fun i => (i + 1) :: q
  | some [] => none
  | none => match W a with
    | some ((i + 1) :: q) => if (toK ps i).isSome = true then none else some ((i + 1) :: q)
    | _ => none
theorem inW_some {ps : List (Nat × Nat)} {W : Own} {a : Addr} {p : List Nat} (h : inW ps W a = some p) : ∃ i k q, W a = some ((i + 1) :: q) ∧ toK ps i = some k ∧ p = (k + 1) :: q := by
  unfold inW at h
  split at h
  · rename_i i q hq
    cases z : toK ps i with
    | none => rw [z] at h; cases h
    | some k =>
      rw [z] at h
      exact ⟨i, k, q, hq, z, (Option.some.inj h).symm⟩
  · cases h
theorem inW_ne {ps : List (Nat × Nat)} {W : Own} {a : Addr} (h : inW ps W a ≠ none) : W a ≠ none := by
  cases q : inW ps W a with
  | none => exact absurd q h
  | some p =>
    obtain ⟨i, k, r, e, _⟩ := inW_some q
    rw [e]
    simp
theorem outW_cases {ps : List (Nat × Nat)} {W W' : Own} {a : Addr} {p : List Nat} (h : outW ps W W' a = some p) :
    (∃ q, W' a = some (0 :: q) ∧ p = 0 :: q) ∨ (∃ k i q, W' a = some ((k + 1) :: q) ∧ toI ps k = some i ∧ p = (i + 1) :: q) ∨ (∃ i q, W' a = none ∧ W a = some ((i + 1) :: q) ∧ toK ps i = none ∧ p = (i + 1) :: q) := by
  unfold outW at h
  split at h
  · rename_i q hq
    exact .inl ⟨q, hq, (Option.some.inj h).symm⟩
  · rename_i k q hq
    cases z : toI ps k with
    | none => rw [z] at h; cases h
    | some i =>
      rw [z] at h
      exact .inr (.inl ⟨k, i, q, hq, z, (Option.some.inj h).symm⟩)
  · cases h
  · rename_i hn
    split at h
    · rename_i i q hq
      cases z : toK ps i with
      | none =>
        rw [z] at h
        exact .inr (.inr ⟨i, q, hn, hq, z, (Option.some.inj h).symm⟩)
      | some k => rw [z] at h; cases h
    · cases h
section
variable {M : Mo} {e : Ent} {W : Own} {F H : Hp} {env : List D} {σ : L2.St} {as : List Ar} {vs : List V} {io : List Nat}
theorem Rel.enter (r : Rel M e W F H env σ) (ra : RaL M σ F as vs) {n : Nat} (ok : okIo n io as env = true) :
    RelB ⟨H, F, inW (ioOf 0 as) W, pinOf io vs⟩ (inW (ioOf 0 as) W) F H ∧ (∀ i d, (valsOf as env)[i]? = some d → d ≠ .unb ∧ ∃ v, vs[i]? = some v ∧ Ow M (inW (ioOf 0 as) W) F H [i + 1] d v) := by
  unfold okIo at ok
  rw [Bool.and_eq_true, Bool.and_eq_true, Bool.and_eq_true] at ok
  obtain ⟨_, ⟨o1, o2⟩, o3⟩ := ok
  have o1 := of_decide_eq_true o1
  have o2 := of_decide_eq_true o2
  refine ⟨⟨fun _ _ _ h => h, Ex.refl F, r.exF, fun a h => ?_, fun a c q h => ?_, fun _ h => .inl h, fun _ h => h⟩, fun i d h => ?_⟩
  · have z := r.sep a (inW_ne h)
    exact ⟨z.1, .inl h, z.2.2⟩
  · obtain ⟨i, k, q', h1, h2, h3⟩ := inW_some h
    have h4 : c = k + 1 := by
      injection h3
    subst h4
    have hm := toK_mem h2
    obtain ⟨v, h6, h7, _⟩ := ral_io ra hm
    refine .inr ⟨k, v, q, rfl, ?_, h⟩
    show pinOf io vs k = some v
    unfold pinOf
    rw [if_pos (by rw [← o1]; exact List.mem_map.mpr ⟨_, hm, rfl⟩)]
    exact h6
  · unfold valsOf at h
    rw [List.getElem?_map] at h
    cases q : as[i]? with
    | none => rw [q] at h; cases h
    | some x =>
      rw [q] at h
      cases x with
      | v d' =>
        have h : d' = d := Option.some.inj h
        subst h
        obtain ⟨v, h1, h2⟩ := ral_v ra q
        refine ⟨fun z => ?_, v, h1, .fz h2⟩
        subst z
        cases h2
      | io n =>
        have h : env.getD n .unb = d := Option.some.inj h
        have hm := ioOf_mem (k := 0) q
        have ho : ownd (env.getD n .unb) = true := List.all_eq_true.mp o3 _ hm
        obtain ⟨h1, h2⟩ := ownd_some ho
        rw [h] at h1 h2
        obtain ⟨v, h3, h4⟩ := r.slot n d h1 h2
        obtain ⟨w, h5, h6, _⟩ := ral_io ra hm
        have : w = v := by
          rw [h3] at h6
          cases h6
          rfl
        subst this
        refine ⟨h2, w, by simpa using h5, h4.tr (Ex.refl F) fun a q z => ⟨?_, fun _ x => x⟩⟩
        have hk : toK (ioOf 0 as) n = some i := by
          have := mem_toK o2 hm
          simpa using this
        unfold inW
        rw [z]
        show (toK (ioOf 0 as) n).map _ = _
        rw [hk]
        rfl
theorem wback_get : ∀ {is : List Nat} {ds env : List D} {i : Nat} {d : D}, is.Nodup → (wback is ds env)[i]? = some d → (i ∉ is ∧ env[i]? = some d) ∨ (∃ t : Nat, is[t]? = some i ∧ (ds[t]? = some d ∨ (ds[t]? = none ∧ env[i]? = some d)))
  | [], _, _, _, _, _, h => by
    unfold wback at h
    exact .inl ⟨by simp, h⟩
  | i0 :: is, [], env, i, d, nd, h => by
    unfold wback at h
    by_cases hi : i ∈ i0 :: is
    · obtain ⟨t, ht⟩ := List.mem_iff_getElem?.mp hi
      exact .inr ⟨t, ht, .inr ⟨rfl, h⟩⟩
    · exact .inl ⟨hi, h⟩
  | i0 :: is, d0 :: ds, env, i, d, nd, h => by
    unfold wback at h
    obtain ⟨n1, n2⟩ := List.nodup_cons.mp nd
    rcases wback_get n2 h with ⟨h1, h2⟩ | ⟨t, h1, h2⟩
    · by_cases z : i0 = i
      · subst z
        have hlt : i0 < env.length := by
          have := (List.getElem?_eq_some_iff.mp h2).1
          rwa [List.length_set] at this
        rw [List.getElem?_set_self hlt] at h2
        exact .inr ⟨0, rfl, .inl (by simpa using h2)⟩
      · rw [List.getElem?_set_ne z] at h2
        exact .inl ⟨by simp only [List.mem_cons, not_or]; exact ⟨fun y => z y.symm, h1⟩, h2⟩
    · refine .inr ⟨t + 1, by rw [List.getElem?_cons_succ]; exact h1, ?_⟩
      rw [List.getElem?_cons_succ]
      rcases h2 with h2 | ⟨h2, h3⟩
      · exact .inl h2
      · have z : i0 ≠ i := fun y => by
          subst y
          exact n1 (List.mem_of_getElem? h1)
        rw [List.getElem?_set_ne z] at h3
        exact .inr ⟨h2, h3⟩
theorem wback_len : ∀ {is : List Nat} {ds env : List D}, (wback is ds env).length = env.length
  | [], _, _ => by unfold wback; rfl
  | _ :: _, [], _ => by unfold wback; rfl
  | i :: is, d :: ds, env => by
    unfold wback
    rw [wback_len, List.length_set]
theorem Rel.leave {W' : Own} {F' H' : Hp} {outs : List D} (r : Rel M e W F H env σ) (ra : RaL M σ F as vs) {n : Nat} (ok : okIo n io as env = true) (hl : outs.length = io.length) (rb : RelB ⟨H, F, inW (ioOf 0 as) W, pinOf io vs⟩ W' F' H') (oo : outsOk M W' F' H' io outs vs) :
    Rel M e (outW (ioOf 0 as) W W') F' H' (wback ((ioOf 0 as).map (·.2)) outs env) σ ∧ ∀ d v, Ow M W' F' H' [0] d v → Ow M (outW (ioOf 0 as) W W') F' H' [0] d v := by
  unfold okIo at ok
  rw [Bool.and_eq_true, Bool.and_eq_true, Bool.and_eq_true] at ok
  obtain ⟨_, ⟨o1, o2⟩, o3⟩ := ok
  have o1 := of_decide_eq_true o1
  have o2 := of_decide_eq_true o2
  have n1 := ioOf_fst (as := as) (k := 0)
  have stay : ∀ b, H b ≠ none → H' b ≠ none := rb.stay
  have key : ∀ a i q, W a = some ((i + 1) :: q) → toK (ioOf 0 as) i = none → W' a = none ∧ inW (ioOf 0 as) W a = none := fun a i q h1 h2 => by
    have h3 : inW (ioOf 0 as) W a = none := by
      unfold inW
      rw [h1]
      show (toK (ioOf 0 as) i).map _ = none
      rw [h2]
      rfl
    refine ⟨?_, h3⟩
    cases z : W' a with
    | none => rfl
    | some p =>
      rcases (rb.sep a (by rw [z]; simp)).2.1 with y | y
      · exact absurd h3 y
      · exact absurd y (r.sep a (by rw [h1]; simp)).2.2
  refine ⟨⟨⟨fun b o h1 h2 => ?_, r.exF0.trans rb.exF0, rb.exF, fun a h => ?_, fun a c q h => ?_, fun b h => ?_, fun b h => stay b (r.stay b h)⟩, by rw [wback_len]; exact r.len, fun i d h1 h2 => ?_, r.pin⟩, fun d v h => ?_⟩
  · refine rb.pres b o ?_ (r.pres b o h1 h2)
    show inW (ioOf 0 as) W b = none
    cases z : inW (ioOf 0 as) W b with
    | none => rfl
    | some p =>
      have hw := inW_ne (ps := ioOf 0 as) (W := W) (a := b) (by rw [z]; simp)
      rcases (r.sep b hw).2.1 with y | y
      · exact absurd h1 y
      · rw [y] at h2
        cases h2
  · cases z : outW (ioOf 0 as) W W' a with
    | none => exact absurd z h
    | some p =>
      rcases outW_cases z with ⟨q, h1, _⟩ | ⟨k, i, q, h1, h2, _⟩ | ⟨i, q, h1, h2, h3, _⟩
      · have y := rb.sep a (by rw [h1]; simp)
        refine ⟨y.1, ?_, y.2.2⟩
        rcases y.2.1 with x | x
        · exact (r.sep a (inW_ne x)).2.1
        · refine .inr ?_
          cases w : e.H0 a with
          | none => rfl
          | some o => exact absurd x (r.stay a (by rw [w]; simp))
      · have y := rb.sep a (by rw [h1]; simp)
        refine ⟨y.1, ?_, y.2.2⟩
        rcases y.2.1 with x | x
        · exact (r.sep a (inW_ne x)).2.1
        · refine .inr ?_
          cases w : e.H0 a with
          | none => rfl
          | some o => exact absurd x (r.stay a (by rw [w]; simp))
      · have y := r.sep a (by rw [h2]; simp)
        refine ⟨?_, y.2.1, stay a y.2.2⟩
        cases w : F' a with
        | none => rfl
        | some o =>
          rcases rb.new a (by rw [w]; simp) with x | x
          · exact absurd y.1 x
          · exact absurd x y.2.2
  · rcases outW_cases h with ⟨q', h1, h2⟩ | ⟨k, i, q', h1, h2, h3⟩ | ⟨i, q', h1, h2, h3, h4⟩
    · injection h2 with h2 _
      rcases rb.fresh a 0 q' h1 with x | ⟨n, v, q0, hn, _⟩
      · refine .inl ?_
        cases w : e.H0 a with
        | none => rfl
        | some o => exact absurd x (r.stay a (by rw [w]; simp))
      · omega
    · injection h3 with h3 _
      rcases rb.fresh a (k + 1) q' h1 with x | ⟨n, v, q0, hn, hv, hw⟩
      · refine .inl ?_
        cases w : e.H0 a with
        | none => rfl
        | some o => exact absurd x (r.stay a (by rw [w]; simp))
      · obtain ⟨i2, k2, q2, e1, e2, e3⟩ := inW_some hw
        have ek : k2 = k := by
          injection e3 with e3 _
          omega
        subst ek
        have ei : i2 = i := pair_fst n1 (toK_mem e2) (toI_mem h2)
        subst ei
        rw [h3]
        exact r.fresh a (i2 + 1) q2 e1
    · injection h4 with h4 _
      rw [h4]
      exact r.fresh a (i + 1) q' h2
  · rcases rb.new b h with x | x
    · exact r.new b x
    · refine .inr ?_
      cases w : e.H0 b with
      | none => rfl
      | some o => exact absurd x (r.stay b (by rw [w]; simp))
  · rcases wback_get o2 h1 with ⟨h3, h4⟩ | ⟨t, h3, h4⟩
    · obtain ⟨v, h5, h6⟩ := r.slot i d h4 h2
      have hk : toK (ioOf 0 as) i = none := by
        cases z : toK (ioOf 0 as) i with
        | none => rfl
        | some k => exact absurd (List.mem_map.mpr ⟨_, toK_mem z, rfl⟩) h3
      refine ⟨v, h5, h6.tr (show Ex F F' from rb.exF0) fun a q z => ?_⟩
      obtain ⟨z1, z2⟩ := key a i q z hk
      refine ⟨?_, fun o x => rb.pres a o z2 x⟩
      unfold outW
      rw [z1, z]
      show (if (toK (ioOf 0 as) i).isSome = true then none else some ((i + 1) :: q)) = _
      rw [hk]
      rfl
    · -- a slot that was handed in
      have hp : ∃ k, (ioOf 0 as)[t]? = some (k, i) := by
        rw [List.getElem?_map] at h3
        cases z : (ioOf 0 as)[t]? with
        | none => rw [z] at h3; cases h3
        | some p =>
          rw [z] at h3
          have h3 : p.2 = i := Option.some.inj h3
          exact ⟨p.1, by rw [← h3]⟩
      obtain ⟨k, hp⟩ := hp
      have hm : (k, i) ∈ ioOf 0 as := List.mem_of_getElem? hp
      have hio : io[t]? = some k := by
        rw [← o1, List.getElem?_map, hp]
        rfl
      rcases h4 with h4 | ⟨h4, _⟩
      · obtain ⟨v, h5, h6⟩ := oo t k d hio h4 h2
        obtain ⟨w, h7, h8, _⟩ := ral_io ra hm
        have h7 : vs[k]? = some w := h7
        rw [h5] at h7
        cases h7
        refine ⟨v, h8, h6.tr (Ex.refl F') fun a q z => ⟨?_, fun _ x => x⟩⟩
        unfold outW
        rw [z]
        show (toI (ioOf 0 as) k).map _ = _
        rw [mem_toI n1 hm]
        rfl
      · exfalso
        have h9 : t < io.length := (List.getElem?_eq_some_iff.mp hio).1
        rw [← hl] at h9
        rw [List.getElem?_eq_getElem h9] at h4
        cases h4
  · refine h.tr (Ex.refl F') fun a q z => ⟨?_, fun _ x => x⟩
    unfold outW
    rw [z]
    rfl
end
end DL
namespace DL
open PySem PySem.Spec PyProof.Rows L2
def OutLen (io : List Nat) (f : List D → FR) : Prop := ∀ ds, (∀ d outs, f ds = .ret d outs → outs.length = io.length) ∧ (∀ c fs outs, f ds = .exc c fs outs → outs.length = io.length)
theorem outLen_run {N : Nat} {io : List Nat} {den : List D → O} : OutLen io (runD N io den) := fun ds => by
  have z : ∀ env, (outsD io env).length = io.length := fun env => by
    unfold outsD
    rw [List.length_map]
  constructor
  · intro d outs h
    unfold runD at h
    split at h <;> first | (injection h with h1 h2; rw [← h2]; exact z _) | cases h
  · intro c fs outs h
    unfold runD at h
    split at h <;> first | (injection h with h1 h2 h3; rw [← h3]; exact z _) | cases h
section
variable {X : Cx} {j : J} {k n : Nat} {f : Addr} {fd : FuncData} {ps : List Str} {io : List Nat} {g : List D → FR} {x : Str} {p pos : Pos} {e : Expr} {es : List Expr} {da : List D → R (List Ar)}
/-- what a call comes to -/
theorem call_at {σ : L2.St} {W : Own} {F H : Hp} {env : List D} {as : List Ar} {vs : List V} {Q : VK} (lo : OutLen io g) (rel : Rel (mo X) j.e W F H env σ) (ra : RaL (mo X) σ F as vs)
    (q : AtO (mo X) j F σ (if okIo n io as env = true then match g (valsOf as env) with
      | .ret d outs => .ok d (wback ((ioOf 0 as).map (·.2)) outs env)
      | .exc c fs outs => .ex c fs (wback ((ioOf 0 as).map (·.2)) outs env)
      | .bad => .bad
    else .bad) Q) : spD (mo X) n io g vs H Q (WE j.wx σ) := by
  by_cases ok : okIo n io as env = true
  · rw [if_pos ok] at q
    obtain ⟨rb, sl⟩ := rel.enter ra ok
    have hv : vs.length = n := by
      unfold okIo at ok
      rw [Bool.and_eq_true] at ok
      rw [← ral_len ra]
      exact of_decide_eq_true ok.1
    refine ⟨inW (ioOf 0 as) W, F, valsOf as env, hv, ?_, rb, sl, ?_⟩
    · unfold valsOf
      rw [List.length_map, ral_len ra]
      exact hv
    · obtain ⟨l1, l2⟩ := lo (valsOf as env)
      cases o : g (valsOf as env) with
      | ret d outs =>
        rw [o] at q
        intro W' F' H' v rb' p oo
        obtain ⟨r2, h2⟩ := rel.leave ra ok (l1 d outs o) rb' oo
        exact q _ F' H' v r2 rb'.exF0 (h2 d v p)
      | exc c fs outs =>
        rw [o] at q
        intro W' F' H' cls dd rb' p oo
        obtain ⟨r2, h2⟩ := rel.leave ra ok (l2 c fs outs o) rb' oo
        exact q _ F' H' cls dd r2 rb'.exF0 p
      | bad =>
        rw [o] at q
        exact q
  · rw [if_neg ok] at q
    exact q.elim
theorem AtO.mono {M : Mo} {j : J} {F F1 : Hp} {σ : L2.St} {r : R D} {Q : VK} (h : AtO M j F σ r Q) (x : Ex F F1) : AtO M j F1 σ r Q := by
  cases r with
  | ok d env' => exact fun W' F' H' v a b c => h W' F' H' v a (x.trans b) c
  | ex c fs env' => exact fun W' F' H' cls dd a b c => h W' F' H' cls dd a (x.trans b) c
  | bad => exact h
theorem AtO.bind {α β : Type} {M : Mo} {j : J} {rep : Hp → α → β → Prop} {F : Hp} {σ : L2.St} {r : R α} {f : α → List D → R D} {Q : VK} {P : β → Hp → Prop} (h : AtO M j F σ (bindR r f) Q)
    (k : ∀ d env1 W1 F1 H1 v, r = .ok d env1 → Rel M j.e W1 F1 H1 env1 σ → Ex F F1 → rep F1 d v → AtO M j F1 σ (f d env1) Q → P v H1) : At M j.e j.wx rep F σ r P := by
  cases r with
  | ok d env' => exact fun W' F' H' v a b c => k d env' W' F' H' v rfl a b c (h.mono b)
  | ex c fs env' => exact h
  | bad => exact h
theorem o_call (F : FnOk X.prog X.w X.K X.mg X.base (L2.CX X.prog X.w) k f fd ps (spD (mo X) n io g)) (hr : Room k X.A) (hm : X.mg x = some (.ref f)) (hk : PySem.W.keepIn X.K (.ref f) = true) (hb : Binds X.K fd ps []) (tk : Takes X j.wx) (lo : OutLen io g) (ha : DAr X j (e :: es) da)
    (hg : Gl X x := by rfl) (hdb : (x == ("__debug__" : Str)) = false := by decide) (he : starEach (e :: es) X.env = (false, eval e X.env) :: starEach es X.env := by rfl) (hpl : (backTo pos (starEach es X.env)).any (·.1) = false := by rfl) :
    DO X j (.Call (.Name x p) (e :: es) [] pos) (callO n io g da) :=
  PE.mono (pe_callS F hr hg hm hk hb (fun σ => passAt tk σ) ha hdb he hpl) fun σ H Q ⟨W, F', env, rel, q⟩ => ⟨W, F', env, rel, AtO.bind q fun as env1 W1 F1 H1 vs o r1 x1 p1 q1 =>
    call_at lo r1 p1 q1⟩
end
/-! ## loops -/
section
variable (dc : List D → R Bool) (db : List D → O)
def whN : Nat → List D → Option O
  | 0, _ => none
  | n + 1, env => match dc env with
    | .ok true env1 => match db env1 with
      | .nx env2 => whN n env2
      | .ct env2 => whN n env2
      | .bk env2 => some (.nx env2)
      | .rt d env2 => some (.rt d env2)
      | .ex c fs env2 => some (.ex c fs env2)
      | .bad => some .bad
    | .ok false env1 => some (.nx env1)
    | .ex c fs env1 => some (.ex c fs env1)
    | .bad => some .bad
open Classical in
/-- while, where it ends -/
noncomputable def whileD : List D → O := fun env => if h : ∃ n o, whN dc db n env = some o then Classical.choose (Classical.choose_spec h) else .bad
end
theorem whN_mono {dc : List D → R Bool} {db : List D → O} : ∀ {n m : Nat} {env : List D} {o : O}, whN dc db n env = some o → n ≤ m → whN dc db m env = some o
  | 0, _, _, _, h, _ => by cases h
  | n + 1, 0, _, _, _, h => by omega
  | n + 1, m + 1, env, o, h, hm => by
    unfold whN at h ⊢
    cases q : dc env with
    | ok b env1 =>
      rw [q] at h
      cases b with
      | true =>
        simp only at h ⊢
        cases q2 : db env1 with
        | nx env2 =>
          rw [q2] at h
          exact whN_mono h (by omega)
        | ct env2 =>
          rw [q2] at h
          exact whN_mono h (by omega)
        | bk env2 => rw [q2] at h; exact h
        | rt d env2 => rw [q2] at h; exact h
        | ex c fs env2 => rw [q2] at h; exact h
        | bad => rw [q2] at h; exact h
      | false => exact h
    | ex c fs env1 => rw [q] at h; exact h
    | bad => rw [q] at h; exact h
theorem whileD_of {dc : List D → R Bool} {db : List D → O} {n : Nat} {env : List D} {o : O} (h : whN dc db n env = some o) : whileD dc db env = o := by
  unfold whileD
  have hx : ∃ n o, whN dc db n env = some o := ⟨n, o, h⟩
  rw [dif_pos hx]
  have h2 := Classical.choose_spec (Classical.choose_spec hx)
  generalize Classical.choose (Classical.choose_spec hx) = r at h2 ⊢
  rcases Nat.le_total n (Classical.choose hx) with l | l
  · rw [whN_mono h l] at h2
    exact (Option.some.inj h2).symm
  · rw [whN_mono h2 l] at h
    exact Option.some.inj h
theorem whileD_has {dc : List D → R Bool} {db : List D → O} {env : List D} (h : whileD dc db env ≠ .bad) : ∃ n, whN dc db n env = some (whileD dc db env) := by
  by_cases hx : ∃ n o, whN dc db n env = some o
  · obtain ⟨n, o, e⟩ := hx
    exact ⟨n, by rw [whileD_of e]; exact e⟩
  · unfold whileD at h
    rw [dif_neg hx] at h
    exact absurd rfl h
theorem whileD_stop {dc : List D → R Bool} {db : List D → O} {env env1 : List D} (h : dc env = .ok false env1) : whileD dc db env = .nx env1 := whileD_of (n := 1) (by unfold whN; rw [h])
theorem whileD_turn {dc : List D → R Bool} {db : List D → O} {env env1 env2 : List D} (h : dc env = .ok true env1) (h2 : db env1 = .nx env2) : whileD dc db env = whileD dc db env2 := by
  by_cases hx : ∃ n o, whN dc db n env2 = some o
  · obtain ⟨n, o, e⟩ := hx
    rw [whileD_of e]
    exact whileD_of (n := n + 1) (by unfold whN; rw [h]; simp only; rw [h2]; exact e)
  · have hy : ¬ ∃ n o, whN dc db n env = some o := fun ⟨n, o, e⟩ => by
      cases n with
      | zero => cases e
      | succ n =>
        unfold whN at e
        rw [h] at e
        simp only at e
        rw [h2] at e
        exact hx ⟨n, o, e⟩
    unfold whileD
    rw [dif_neg hx, dif_neg hy]
theorem s_while {X : Cx} {j : J} {c : Expr} {body : List Stmt} {pos : Pos} {dc : List D → R Bool} {db : List D → O} (hp : PassesOwn (model X.prog X.w) X.A X.env X.xe) (hc : DT X j c dc) (hb : DSs X j body db) : DS X j (.While c body [] pos) (whileD dc db) :=
  PS.mono (ps_while hp hc hb) fun Dn σ H ⟨W, F, env, rel, q⟩ => by
    have ne : whileD dc db env ≠ .bad := fun z => by
      rw [z] at q
      exact q
    obtain ⟨n, hn⟩ := whileD_has ne
    refine ⟨fun m σ H => ∃ W1 F1 env1 o, Rel (mo X) j.e W1 F1 H env1 σ ∧ whN dc db m env1 = some o ∧ AtS (mo X) j F1 o Dn, ⟨n, W, F, env, _, rel, hn, q⟩, fun m σ H hw => ?_⟩
    obtain ⟨W1, F1, env1, o, r1, e1, q1⟩ := hw
    cases m with
    | zero => cases e1
    | succ m =>
      refine ⟨W1, F1, env1, r1, ?_⟩
      unfold whN at e1
      cases z : dc env1 with
      | ok b env2 =>
        rw [z] at e1
        intro W2 F2 H2 v r2 x2 hb2
        subst hb2
        cases b with
        | false =>
          simp only at e1
          cases e1
          exact q1 W2 F2 H2 σ r2 x2
        | true =>
          simp only at e1
          refine ⟨fun σ' H' => ∃ W3 F3 env3, Rel (mo X) j.e W3 F3 H' env3 σ' ∧ Ex F2 F3 ∧ whN dc db m env3 = some o, fun σ' H' ⟨W3, F3, env3, r3, x3, e3⟩ => ⟨m, Nat.lt_succ_self m, W3, F3, env3, o, r3, e3, q1.mono (x2.trans x3)⟩, W2, F2, env2, r2, ?_⟩
          cases y : db env2 with
          | nx env3 =>
            rw [y] at e1
            exact fun W3 F3 H3 σ3 r3 x3 => ⟨W3, F3, env3, r3, x3, e1⟩
          | ct env3 =>
            rw [y] at e1
            exact fun W3 F3 H3 σ3 r3 x3 => ⟨W3, F3, env3, r3, x3, e1⟩
          | bk env3 =>
            rw [y] at e1
            cases e1
            exact fun W3 F3 H3 σ3 r3 x3 => q1 W3 F3 H3 σ3 r3 (x2.trans x3)
          | rt d env3 =>
            rw [y] at e1
            cases e1
            exact fun W3 F3 H3 σ3 v r3 p3 => q1 W3 F3 H3 σ3 v r3 p3
          | ex c fs env3 =>
            rw [y] at e1
            cases e1
            exact fun W3 F3 H3 σ3 cls dd r3 x3 p3 => q1 W3 F3 H3 σ3 cls dd r3 (x2.trans x3) p3
          | bad =>
            rw [y] at e1
            cases e1
            exact q1.elim
      | ex c fs env2 =>
        rw [z] at e1
        cases e1
        exact fun W2 F2 H2 cls dd r2 x2 p2 => q1 W2 F2 H2 σ cls dd r2 x2 p2
      | bad =>
        rw [z] at e1
        cases e1
        exact q1.elim
/-! ### for -/
def tG (M : Mo) (j : J) (g : D → List D → Option (List D)) : TG := fun v σ H Q => ∃ W F env d, Rel M j.e W F H env σ ∧ Rp M F d v ∧ ∃ env', g d env = some env' ∧ ∀ W' F' H' σ', Rel M j.e W' F' H' env' σ' → Ex F F' → Q σ' H'
abbrev DG (X : Cx) (j : J) (tg : Expr) (g : D → List D → Option (List D)) : Prop := PG X tg (tG (mo X) j g)
def tGs (M : Mo) (j : J) (g : List D → List D → Option (List D)) : TGs := fun vs σ H Q => ∃ W F env ds, Rel M j.e W F H env σ ∧ RpL M F ds vs ∧ ∃ env', g ds env = some env' ∧ ∀ W' F' H' σ', Rel M j.e W' F' H' env' σ' → Ex F F' → Q σ' H'
abbrev DGs (X : Cx) (j : J) (ts : List Expr) (g : List D → List D → Option (List D)) : Prop := PGs X ts (tGs (mo X) j g)
def gnD (i : Nat) : D → List D → Option (List D) := fun d env => some (env.set i d)
def gNilD : List D → List D → Option (List D) := fun ds env => match ds with
  | [] => some env
  | _ => none
def gConsD (g : D → List D → Option (List D)) (h : List D → List D → Option (List D)) : List D → List D → Option (List D) := fun ds env => match ds with
  | d :: r => match g d env with
    | some env1 => h r env1
    | none => none
  | [] => none
def gTupD (g : List D → List D → Option (List D)) : D → List D → Option (List D) := fun d env => match d with
  | .tup l => g l env
  | _ => none
theorem PG.mono {X : Cx} {tg : Expr} {t t' : TG} (h : PG X tg t) (k : ∀ v σ H Q, t' v σ H Q → t v σ H Q) : PG X tg t' := ⟨fun pins s σ H v u Q I r q => h.run pins s σ H v u Q I r (k v σ H Q q)⟩
theorem PGs.mono {X : Cx} {tg : List Expr} {t t' : TGs} (h : PGs X tg t) (k : ∀ v σ H Q, t' v σ H Q → t v σ H Q) : PGs X tg t' := ⟨fun pins s σ H v u Q I r q => h.run pins s σ H v u Q I r (k v σ H Q q)⟩
section
variable {X : Cx} {j : J} {e tg : Expr} {es : List Expr} {pos : Pos} {g : D → List D → Option (List D)} {h : List D → List D → Option (List D)}
theorem g_name (i : Nat) {x : Str} (hN : X.N.Nodup) (hp : j.e.P i = none) (hi : X.N[i]? = some x := by rfl) (hx : Loc X.env.scope x := by first | exact Or.inl rfl | exact Or.inr rfl) (hf : X.fn x = true ∨ X.env.scope.names.lookup x = some .local := by first | exact .inl rfl | exact .inr rfl) : DG X j (.Name x pos) (gnD i) :=
  PG.mono (pg_name hN hi hx hf) fun v σ H Q ⟨W, F, env, d, r, p, env', e, q⟩ => by
    have e : env.set i d = env' := Option.some.inj e
    exact q W F H _ (by rw [← e]; exact r.set p hp) (Ex.refl F)
theorem gs_nil : DGs X j [] gNilD := PGs.mono pgs_nil fun vs σ H Q ⟨W, F, env, ds, r, p, env', e, q⟩ => by
  cases p with
  | nil =>
    have e : env = env' := Option.some.inj e
    exact ⟨rfl, q W F H σ (by rw [← e]; exact r) (Ex.refl F)⟩
  | cons _ _ => cases e
theorem gs_cons {g : D → List D → Option (List D)} (hg : DG X j e g) (hh : DGs X j es h) (hs : (assignEach (e :: es) X.env).map (·.2) = assign e X.env :: (assignEach es X.env).map (·.2) := by rfl) : DGs X j (e :: es) (gConsD g h) :=
  PGs.mono (pgs_cons hg hh hs) fun vs σ H Q ⟨W, F, env, ds, r, p, env', e, q⟩ => by
    cases p with
    | nil => cases e
    | @cons d l v xs p1 p2 =>
      unfold gConsD at e
      simp only at e
      cases o : g d env with
      | none => rw [o] at e; cases e
      | some env1 =>
        rw [o] at e
        exact ⟨v, xs, rfl, W, F, env, d, r, p1, env1, o, fun W' F' H' σ' r' x' => ⟨W', F', env1, l, r', p2.mono x', env', e, fun W2 F2 H2 σ2 r2 x2 => q W2 F2 H2 σ2 r2 (x'.trans x2)⟩⟩
theorem g_tup {k n : Nat} (hc : X.calm = true) (hh : DGs X j es h) (hlen : ∀ ds env env', h ds env = some env' → ds.length = n) (hn : (assignEach es X.env).length = n := by rfl) (hst : (assignEach es X.env).findIdx? (·.1) = none := by rfl) : DG X j (.Tuple es k pos) (gTupD h) :=
  PG.mono (pg_tup hc hh hn hst) fun v σ H Q ⟨W, F, env, d, r, p, env', e, q⟩ => by
    cases p with
    | tup h1 h2 =>
      exact ⟨_, _, rfl, ex_t r.exF h1, by rw [← h2.length]; exact hlen _ _ _ e, W, F, env, _, r, h2, env', e, q⟩
    | _ => cases e
theorem gConsD_len {g : D → List D → Option (List D)} {h : List D → List D → Option (List D)} {ds env env' : List D} {n : Nat} (hlen : ∀ ds env env', h ds env = some env' → ds.length = n) (e : gConsD g h ds env = some env') : ds.length = n + 1 := by
  unfold gConsD at e
  cases ds with
  | nil => cases e
  | cons d r =>
    simp only at e
    cases o : g d env with
    | none => rw [o] at e; cases e
    | some env1 =>
      rw [o] at e
      rw [List.length_cons, hlen _ _ _ e]
theorem gNilD_len {ds env env' : List D} (e : gNilD ds env = some env') : ds.length = 0 := by
  unfold gNilD at e
  cases ds with
  | nil => rfl
  | cons d r => cases e
end
/-- what is walked: the items -/
def ItOk (M : Mo) (Ji : It) (F : Hp) (ds : List D) : Prop := ∀ i F1 H, Ex F F1 → Ex F1 H →
  (i < ds.length → Ji.go i H ∧ ∀ x H', Ji.yld i H x H' → ∃ F2 d, ds[i]? = some d ∧ Grow F1 H F2 H' ∧ Rp M F2 d x) ∧ (ds.length ≤ i → Ji.stop i H)
def tI (M : Mo) (j : J) (di : List D → R (List D)) : TI := fun σ H Rr => ∃ W F env, Rel M j.e W F H env σ ∧ At M j.e j.wx (fun F ds J => ItOk M J F ds) F σ (di env) Rr
abbrev DI (X : Cx) (j : J) (tg iter : Expr) (di : List D → R (List D)) : Prop := PI X tg iter (tI (mo X) j di)
def forGo (g : D → List D → Option (List D)) (db : List D → O) : List D → List D → O
  | [], env => .nx env
  | d :: ds, env => match g d env with
    | none => .bad
    | some env1 => match db env1 with
      | .nx e => forGo g db ds e
      | .ct e => forGo g db ds e
      | .bk e => .nx e
      | .rt d e => .rt d e
      | .ex c fs e => .ex c fs e
      | .bad => .bad
def forD (di : List D → R (List D)) (g : D → List D → Option (List D)) (db : List D → O) : List D → O := fun env => bindS (di env) fun ds env1 => forGo g db ds env1
theorem s_for {X : Cx} {j : J} {tg iter : Expr} {body : List Stmt} {pos : Pos} {di : List D → R (List D)} {g : D → List D → Option (List D)} {db : List D → O} (hp : PassesOwn (model X.prog X.w) X.A X.env X.xe) (hc : X.calm = true)
    (hi : DI X j tg iter di) (hg : DG X j tg g) (hb : DSs X j body db) (hs : ∀ x, foldedSetIterable iter X.env x = pure x := by intro _; rfl) : DS X j (.For tg iter body [] pos) (forD di g db) :=
  PS.mono (ps_for hp hc hi hg hb hs) fun Dn σ H ⟨W, F, env, rel, q⟩ => ⟨W, F, env, rel, AtS.bind q fun ds env1 W1 F1 H1 Ji _ r1 x1 p1 q1 => by
    refine ⟨fun i m σ H => m = ds.length - i ∧ i ≤ ds.length ∧ ∃ W2 F2 env2, Rel (mo X) j.e W2 F2 H env2 σ ∧ Ex F1 F2 ∧ AtS (mo X) j F2 (forGo g db (ds.drop i) env2) Dn, ⟨_, rfl, Nat.zero_le _, W1, F1, env1, r1, Ex.refl F1, q1⟩, fun i m σ H hw => ?_⟩
    obtain ⟨rfl, hi, W2, F2, env2, r2, x2, q2⟩ := hw
    by_cases hlt : i < ds.length
    · obtain ⟨go, yl⟩ := (p1 i F2 H x2 r2.exF).1 hlt
      rw [List.drop_eq_getElem_cons hlt] at q2
      unfold forGo at q2
      cases o : g ds[i] env2 with
      | none => rw [o] at q2; exact q2.elim
      | some env3 =>
        rw [o] at q2
        simp only at q2
        refine .inr ⟨go, fun σ' H' => ∃ W4 F4 env4, Rel (mo X) j.e W4 F4 H' env4 σ' ∧ Ex F1 F4 ∧ AtS (mo X) j F4 (forGo g db (ds.drop (i + 1)) env4) Dn, fun σ' H' ⟨W4, F4, env4, r4, x4, q4⟩ => ⟨ds.length - (i + 1), by omega, rfl, hlt, W4, F4, env4, r4, x4, q4⟩, fun x H' hy => ?_⟩
        obtain ⟨F3, d, e1, gr, rp⟩ := yl x H' hy
        have e2 : ds[i] = d := by
          rw [List.getElem?_eq_getElem hlt] at e1
          exact Option.some.inj e1
        refine ⟨W2, F3, env2, d, r2.grow gr, rp, env3, by rw [← e2]; exact o, fun W4 F4 H4 σ4 r4 x4 => ⟨W4, F4, env3, r4, ?_⟩⟩
        have x5 : Ex F2 F4 := gr.exF.trans x4
        cases y : db env3 with
        | nx env5 =>
          rw [y] at q2
          exact fun W5 F5 H5 σ5 r5 x6 => ⟨W5, F5, env5, r5, x2.trans (x5.trans x6), q2.mono (x5.trans x6)⟩
        | ct env5 =>
          rw [y] at q2
          exact fun W5 F5 H5 σ5 r5 x6 => ⟨W5, F5, env5, r5, x2.trans (x5.trans x6), q2.mono (x5.trans x6)⟩
        | bk env5 =>
          rw [y] at q2
          exact fun W5 F5 H5 σ5 r5 x6 => q2 W5 F5 H5 σ5 r5 (x5.trans x6)
        | rt d env5 =>
          rw [y] at q2
          exact q2
        | ex c fs env5 =>
          rw [y] at q2
          exact q2.mono x5
        | bad =>
          rw [y] at q2
          exact q2.elim
    · refine .inl ⟨(p1 i F2 H x2 r2.exF).2 (by omega), ?_⟩
      rw [List.drop_eq_nil_of_le (by omega)] at q2
      exact q2 W2 F2 H σ r2 (Ex.refl F2)⟩
/-! ### what a for walks -/
def seqOf : D → Option (List D)
  | .lst l => some l
  | .tup l => some l
  | _ => none
def itD (da : List D → R D) : List D → R (List D) := fun env => bindR (da env) fun d env1 => match d with
  | .lst l => .ok l env1
  | _ => .bad
def itT (da : List D → R D) : List D → R (List D) := fun env => bindR (da env) fun d env1 => match d with
  | .tup l => .ok l env1
  | _ => .bad
section
variable {X : Cx} {j : J} {tg l : Expr} {da : List D → R D}
theorem PI.mono' {t t' : TI} {iter : Expr} (h : PI X tg iter t) (k : ∀ σ H Rr, t' σ H Rr → t σ H Rr) : PI X tg iter t' := PI.mono h k
theorem itl_ok {M : Mo} {F : Hp} {a : Addr} {xs : List V} {ds : List D} (h : SqL M.K F a xs) (p : RpL M F ds xs) : ItOk M (Itl M.K a) F ds := fun i F1 H x1 x2 => by
  have hl := p.length
  have hS := ex_l x2 (ex_l x1 h)
  refine ⟨fun hi => ?_, fun hi => ⟨xs, hS, by omega⟩⟩
  have h1 : i < xs.length := by omega
  refine ⟨⟨xs, xs[i], hS, List.getElem?_eq_getElem h1⟩, fun x H' ⟨e, y⟩ => ?_⟩
  obtain ⟨v, h2, h3⟩ := p.get (List.getElem?_eq_getElem hi)
  have h4 := y xs hS
  rw [h2] at h4
  cases h4
  exact ⟨F1, ds[i], List.getElem?_eq_getElem hi, by rw [e]; exact Grow.refl x2, h3.mono x1⟩
theorem i_list (h : DE X j l da) : DI X j tg l (itD da) :=
  PI.mono (pi_list h) fun σ H Rr ⟨W, F, env, rel, q⟩ => ⟨W, F, env, rel, At.bind q fun d env1 W1 F1 H1 v _ r1 x1 p1 q1 => by
    cases p1 with
    | lst h1 h2 => exact ⟨_, rfl, ⟨_, ex_l r1.exF h1⟩, q1 W1 F1 H1 _ r1 (Ex.refl F1) (itl_ok (M := mo X) h1 h2)⟩
    | _ => exact q1.elim⟩
end
end DL
namespace DL
open PySem PySem.Spec PyProof.Rows L2
/-! ## more statements: a, b = x, y; a, b = e; x[i] = e; x.append(e) -/
def parD (i k : Nat) (da db : List D → R D) : List D → O := fun env => bindS (da env) fun x env1 => bindS (db env1) fun y env2 => .nx ((env2.set i x).set k y)
def asgG (da : List D → R D) (g : D → List D → Option (List D)) : List D → O := fun env => bindS (da env) fun d env1 => match g d env1 with
  | some env2 => .nx env2
  | none => .bad
section
variable {X : Cx} {j : J} {a b e tg : Expr} {pos pos' : Pos} {da db : List D → R D} {g : D → List D → Option (List D)}
theorem s_par (i k : Nat) {x y : Str} {px py pt : Pos} {kt k2 : Nat} {pt2 : Pos} (hc : X.calm = true) (hN : X.N.Nodup) (hp : j.e.P i = none) (hq : j.e.P k = none) (ha : DE X j a da) (hb : DE X j b db) (hi : X.N[i]? = some x := by rfl) (hj : X.N[k]? = some y := by rfl) (hij : i ≠ k := by decide)
    (hx : X.env.scope.names.lookup x = some .local := by rfl) (hy : X.env.scope.names.lookup y = some .local := by rfl)
    (hw : swappedStores [.Tuple [.Name x px, .Name y py] kt pt] (.Tuple [a, b] k2 pt2) X.env = pure (some [x, y]) := by rfl)
    (hs : swapsWithSole [.Tuple [.Name x px, .Name y py] kt pt] (.Tuple [a, b] k2 pt2) pos.line X.env = pure false := by rfl) (h1 : starEach (a :: [b]) X.env = (false, eval a X.env) :: starEach [b] X.env := by rfl) (h2 : starEach (b :: []) X.env = (false, eval b X.env) :: starEach [] X.env := by rfl) :
    DS X j (.Assign [.Tuple [.Name x px, .Name y py] kt pt] (.Tuple [a, b] k2 pt2) pos) (parD i k da db) :=
  PS.mono (ps_par hc hN hi hj hij hx hy (pa_cons ha (pa_cons hb pa_nil h2) h1) hw hs) fun Dn σ H ⟨W, F, env, rel, q⟩ => ⟨W, F, env, rel, AtS.bind q fun d env1 W1 F1 H1 v _ r1 x1 p1 q1 => ⟨W1, F1, env1, r1, AtS.bind q1 fun d2 env2 W2 F2 H2 v2 _ r2 x2 p2 q2 =>
    ⟨v, v2, rfl, q2 W2 F2 H2 _ ((r2.set (p1.mono x2) hp).set p2 hq) (Ex.refl F2)⟩⟩⟩
theorem s_asg (ha : DE X j e da) (hg : DG X j tg g) (hs : swapsWithSole [tg] e pos.line X.env = pure false := by rfl) (hw : swappedStores [tg] e X.env = pure none := by rfl)
    (h1 : (assignEach [tg] X.env).map (·.2) = [assign tg X.env] := by rfl) : DS X j (.Assign [tg] e pos) (asgG da g) :=
  PS.mono (ps_asg ha hg hs hw h1) fun Dn σ H ⟨W, F, env, rel, q⟩ => ⟨W, F, env, rel, AtS.bind q fun d env1 W1 F1 H1 v _ r1 x1 p1 q1 => by
    cases o : g d env1 with
    | none => rw [o] at q1; exact q1.elim
    | some env2 =>
      rw [o] at q1
      exact ⟨W1, F1, env1, d, r1, p1, env2, o, fun W' F' H' σ' r x => q1 W' F' H' σ' r x⟩⟩
end
/-- the list that an owned slot holds -/
def listAt (env : List D) (i : Nat) : Option (List D) := match env.getD i .unb with
  | .ml l => some l
  | _ => none
theorem listAt_some {env : List D} {i : Nat} {l : List D} (h : listAt env i = some l) : env[i]? = some (.ml l) := by
  unfold listAt at h
  split at h
  · rename_i l' hl
    cases h
    rw [List.getD_eq_getElem?_getD] at hl
    cases q : env[i]? with
    | none => rw [q] at hl; cases hl
    | some d => rw [q] at hl; exact congrArg some hl
  · cases h
theorem Rel.list {M : Mo} {e : Ent} {W : Own} {F H : Hp} {env : List D} {σ : L2.St} {i : Nat} {l : List D} (r : Rel M e W F H env σ) (h : listAt env i = some l) :
    ∃ a xs, σ[i]? = some (some (.ref a)) ∧ W a = some [i + 1] ∧ H a = some (.lst xs) ∧ OwL M W F H [i + 1] 0 l xs := by
  obtain ⟨v, h1, h2⟩ := r.slot i _ (listAt_some h) (fun z => nomatch z)
  cases h2 with
  | fz p => cases p
  | ml w1 w2 w3 => exact ⟨_, _, h1, w1, w2, w3⟩
theorem OwL.length {M : Mo} {W : Own} {F H : Hp} : ∀ {p : List Nat} {k : Nat} {l : List D} {xs : List V}, OwL M W F H p k l xs → l.length = xs.length
  | _, _, _, _, .nil => rfl
  | _, _, _, _, .cons _ q => congrArg (· + 1) q.length
theorem OwL.get {M : Mo} {W : Own} {F H : Hp} : ∀ {p : List Nat} {k : Nat} {l : List D} {xs : List V} {i : Nat} {d : D}, OwL M W F H p k l xs → l[i]? = some d → ∃ v, xs[i]? = some v ∧ Ow M W F H (p ++ [k + i]) d v
  | _, _, _, _, _, _, .nil, e => by simp at e
  | p, k, _, _, 0, _, .cons h _, e => by
    simp at e
    subst e
    exact ⟨_, rfl, h⟩
  | p, k, _, _, i + 1, _, .cons _ q, e => by
    obtain ⟨v, h1, h2⟩ := q.get (i := i) (by simpa using e)
    refine ⟨v, by simpa using h1, ?_⟩
    rw [show k + (i + 1) = k + 1 + i by omega]
    exact h2
theorem OwL.set {M : Mo} {W : Own} {F H : Hp} {d : D} {v : V} (h : Rp M F d v) : ∀ {p : List Nat} {k : Nat} {l : List D} {xs : List V} (n : Nat), OwL M W F H p k l xs → OwL M W F H p k (l.set n d) (xs.set n v)
  | _, _, _, _, _, .nil => .nil
  | _, _, _, _, 0, .cons _ q => .cons (.fz h) q
  | _, _, _, _, n + 1, .cons p q => .cons p (OwL.set h n q)
theorem OwL.snoc {M : Mo} {W : Own} {F H : Hp} {d : D} {v : V} (h : Rp M F d v) : ∀ {p : List Nat} {k : Nat} {l : List D} {xs : List V}, OwL M W F H p k l xs → OwL M W F H p k (l ++ [d]) (xs ++ [v])
  | _, _, _, _, .nil => .cons (.fz h) .nil
  | _, _, _, _, .cons p q => .cons p (OwL.snoc h q)
theorem OwL.upd {M : Mo} {W : Own} {F H : Hp} {p : List Nat} {k : Nat} {l : List D} {xs : List V} {a : Addr} {o : HO} {q0 : List Nat} (h : OwL M W F H p k l xs) (ha : W a = some q0) (hq : q0.length ≤ p.length) : OwL M W F (L2.upd H a o) p k l xs := by
  have : ∀ {p : List Nat} {k : Nat} {l : List D} {xs : List V}, q0.length ≤ p.length → OwL M W F H p k l xs → OwL M W F (L2.upd H a o) p k l xs := by
    intro p k l
    induction l generalizing k with
    | nil => intro xs _ h; cases h; exact .nil
    | cons d l ih =>
      intro xs hq h
      cases h with
      | cons h1 h2 =>
        refine .cons (h1.tr (Ex.refl F) fun b q z => ⟨z, fun u y => ?_⟩) (ih hq h2)
        have : b ≠ a := fun w => by
          subst w
          rw [ha] at z
          injection z with z
          rw [z] at hq
          simp only [List.length_append, List.length_cons, List.length_nil] at hq
          omega
        rw [upd_ne this]
        exact y
  exact this hq h
/-- x[k] read, x an owned list -/
def ixO (i : Nat) (dk : List D → R D) : List D → R D := fun env => if (listAt env i).isSome = true then bindR (dk env) fun k env1 => match k with
  | .int k => match listAt env1 i with
    | some l => match atI l k with
      | some d => if isOwn d = true then .bad else .ok d env1
      | none => .bad
    | none => .bad
  | _ => .bad
else .bad
theorem atI_get2 {α β : Type} {l : List α} {xs : List β} {k : Int} {d : α} (hl : l.length = xs.length) (h : atI l k = some d) : ∃ n : Nat, l[n]? = some d ∧ ∀ v, xs[n]? = some v → atI xs k = some v := by
  unfold atI at h ⊢
  rw [← hl]
  cases o : ixN l.length k with
  | none => rw [o] at h; cases h
  | some n =>
    rw [o] at h
    exact ⟨n, h, fun v hv => hv⟩
section
variable {X : Cx} {j : J} {b e : Expr} {pos px : Pos} {da dk : List D → R D}
theorem e_ixO (i : Nat) {x : Str} (h : PE X (.Name x px) (tVar i)) (hk : DE X j b dk) (hs : PlainIx b) : DE X j (.Subscript (.Name x px) b pos) (ixO i dk) :=
  PE.mono (pe_ix ix_list h hk hs) fun σ H Q ⟨W, F, env, rel, q⟩ => by
    unfold ixO at q
    by_cases o : (listAt env i).isSome = true
    · rw [if_pos o] at q
      obtain ⟨l0, e0⟩ := Option.isSome_iff_exists.mp o
      obtain ⟨a0, xs0, s0, _⟩ := rel.list e0
      refine ⟨_, s0, W, F, env, rel, At.bind q fun d env1 W1 F1 H1 v _ r1 x1 p1 q1 => ?_⟩
      cases p1 with
      | int k =>
        simp only at q1
        cases o2 : listAt env1 i with
        | none => rw [o2] at q1; exact q1.elim
        | some l =>
          rw [o2] at q1
          simp only at q1
          obtain ⟨a, xs, s1, w1, h1, ol⟩ := r1.list o2
          rw [s0] at s1
          cases s1
          cases o3 : atI l k with
          | none => rw [o3] at q1; exact q1.elim
          | some d =>
            rw [o3] at q1
            simp only at q1
            by_cases o4 : isOwn d = true
            · rw [if_pos o4] at q1
              exact q1.elim
            · rw [if_neg o4] at q1
              obtain ⟨n, g1, g2⟩ := atI_get2 ol.length o3
              obtain ⟨v, g3, g4⟩ := ol.get g1
              exact ⟨_, xs, k, v, rfl, rfl, SqL.of h1, g2 v g3, q1 W1 F1 H1 v r1 (Ex.refl F1) (g4.rp (by simpa using o4))⟩
      | _ => exact q1.elim
    · rw [if_neg o] at q
      exact q.elim
/-- len(x), x an owned list -/
def lenO (i : Nat) : List D → R D := fun env => match listAt env i with
  | some l => .ok (.int l.length) env
  | none => .bad
theorem e_lenO (i : Nat) {x y : Str} {p : Pos} (h : PE X (.Name x px) (tVar i)) (hg : Gl X y) (hm : X.mg y = none) (hv : bootBuiltins y = some (.builtin "len")) (hn : y ≠ "__name__" := by decide) (hdb : (y == ("__debug__" : Str)) = false := by decide) (hs : starEach [.Name x px] X.env = (false, eval (.Name x px) X.env) :: starEach [] X.env := by rfl)
    (he : starEach (.Name x px :: []) X.env = (false, eval (.Name x px) X.env) :: starEach [] X.env := by rfl) (hpl : (backTo pos (starEach [] X.env)).any (·.1) = false := by rfl) : DE X j (.Call (.Name y p) [.Name x px] [] pos) (lenO i) :=
  PE.mono (pe_callB call_len_seq hg hm hv (pa_cons h pa_nil hs) hn hdb he hpl) fun σ H Q ⟨W, F, env, rel, q⟩ => by
    unfold lenO at q
    cases o : listAt env i with
    | none => rw [o] at q; exact q.elim
    | some l =>
      rw [o] at q
      obtain ⟨a, xs, s1, w1, h1, ol⟩ := rel.list o
      refine ⟨_, s1, a, xs, rfl, .inl (SqL.of h1), ?_⟩
      rw [← ol.length]
      exact q W F H _ rel (Ex.refl F) (.int _)
/-- x[k] = e, x an owned list -/
def setO (i : Nat) (da dk : List D → R D) : List D → O := fun env => bindS (da env) fun d env1 => if (listAt env1 i).isSome = true then bindS (dk env1) fun k env2 => match k with
  | .int k => match listAt env2 i with
    | some l => match ixN l.length k with
      | some n => .nx (env2.set i (.ml (l.set n d)))
      | none => .bad
    | none => .bad
  | _ => .bad
else .bad
theorem s_setix (i : Nat) {x : Str} {tpos : Pos} (he : DE X j e da) (h : PE X (.Name x px) (tVar i)) (hk : DE X j b dk)
    (ha : ∀ v, assign (.Subscript (.Name x px) b tpos) X.env v = (do
      let ov ← holding [v] (eval (.Name x px) X.env)
      let iv ← holding [v, ov] (eval b X.env)
      standAt tpos
      holding [v, ov, iv] (setItem ov iv v)
      release [v, ov, iv] []) := by intro _; rfl) (hs : swapsWithSole [.Subscript (.Name x px) b tpos] e pos.line X.env = pure false := by rfl) (hw : swappedStores [.Subscript (.Name x px) b tpos] e X.env = pure none := by rfl)
    (h1 : (assignEach [.Subscript (.Name x px) b tpos] X.env).map (·.2) = [assign (.Subscript (.Name x px) b tpos) X.env] := by rfl) : DS X j (.Assign [.Subscript (.Name x px) b tpos] e pos) (setO i da dk) :=
  PS.mono (ps_asg he (pg_sub h hk set_list ha) hs hw h1) fun Dn σ H ⟨W, F, env, rel, q⟩ => ⟨W, F, env, rel, AtS.bind q fun d env1 W1 F1 H1 v _ r1 x1 p1 q1 => by
    by_cases o : (listAt env1 i).isSome = true
    · rw [if_pos o] at q1
      obtain ⟨l0, e0⟩ := Option.isSome_iff_exists.mp o
      obtain ⟨a0, xs0, s0, _⟩ := r1.list e0
      refine ⟨_, s0, W1, F1, env1, r1, AtS.bind q1 fun k env2 W2 F2 H2 v2 _ r2 x2 p2 q2 => ?_⟩
      cases p2 with
      | int k =>
        simp only at q2
        cases o2 : listAt env2 i with
        | none => rw [o2] at q2; exact q2.elim
        | some l =>
          rw [o2] at q2
          simp only at q2
          obtain ⟨a, xs, s1, w1, h1, ol⟩ := r2.list o2
          rw [s0] at s1
          cases s1
          cases o3 : ixN l.length k with
          | none => rw [o3] at q2; exact q2.elim
          | some n =>
            rw [o3] at q2
            refine ⟨_, xs, k, n, rfl, rfl, h1, by rw [← ol.length]; exact o3, q2 W2 F2 _ σ (r2.write w1 s0 ?_) (Ex.refl F2)⟩
            exact .ml w1 upd_same ((ol.upd w1 (Nat.le_refl _)).set (p1.mono x2) n)
      | _ => exact q2.elim
    · rw [if_neg o] at q1
      exact q1.elim⟩
/-- x.append(e) -/
def appO (i : Nat) (da : List D → R D) : List D → O := fun env => if (listAt env i).isSome = true then bindS (da env) fun d env1 => match listAt env1 i with
  | some l => if l.length < sizeLine then .nx (env1.set i (.ml (l ++ [d]))) else .bad
  | none => .bad
else .bad
theorem s_app (i : Nat) {x : Str} {apos cpos : Pos} (h : PE X (.Name x px) (tVar i)) (ha : DE X j e da) (hbase : attributeBase (.Name x px) "append" X.env (eval (.Name x px) X.env) = eval (.Name x px) X.env := by rfl)
    (hfew : ((backTo cpos (starEach (e :: []) X.env)).all (fun x => !x.1) && (backToKw cpos (keywordEach [] X.env)).all (fun x => x.1.isSome)
      && decide ((e :: []).length + ([] : List Keyword).length + (if ([] : List Keyword).isEmpty then 0 else 1) < 30)) = true := by rfl)
    (hline : (apos.endLine == cpos.line) = true := by rfl) (hs : starEach (e :: []) X.env = (false, eval e X.env) :: starEach [] X.env := by rfl) (hplain : (backTo cpos (starEach [] X.env)).any (·.1) = false := by rfl)
    (hsw : swapsWith (.Call (.Attribute (.Name x px) "append" apos) [e] [] cpos) none pos.line X.env = pure false := by rfl) : DS X j (.Expr (.Call (.Attribute (.Name x px) "append" apos) [e] [] cpos) pos) (appO i da) :=
  PS.mono (ps_expr (pe_bm PySem.F.plainAttrs_list PySem.F.slot_list_append PySem.F.type_list_append mt_append h (pa_cons ha pa_nil hs) hbase hfew hline hs hplain) hsw) fun Dn σ H ⟨W, F, env, rel, q⟩ => by
    unfold appO at q
    by_cases o : (listAt env i).isSome = true
    · rw [if_pos o] at q
      obtain ⟨l0, e0⟩ := Option.isSome_iff_exists.mp o
      obtain ⟨a0, xs0, s0, w0, h0, _⟩ := rel.list e0
      refine ⟨_, s0, .inl ⟨rfl, _, SqL.of h0⟩, W, F, env, rel, AtS.bind q fun d env1 W1 F1 H1 v _ r1 x1 p1 q1 => ?_⟩
      cases o2 : listAt env1 i with
      | none => rw [o2] at q1; exact q1.elim
      | some l =>
        rw [o2] at q1
        simp only at q1
        obtain ⟨a, xs, s1, w1, h1, ol⟩ := r1.list o2
        rw [s0] at s1
        cases s1
        by_cases o3 : l.length < sizeLine
        · rw [if_pos o3] at q1
          refine ⟨_, xs, v, rfl, rfl, h1, by rw [← ol.length]; exact o3, q1 W1 F1 _ σ (r1.write w1 s0 ?_) (Ex.refl F1)⟩
          exact .ml w1 upd_same ((ol.upd w1 (Nat.le_refl _)).snoc p1)
        · rw [if_neg o3] at q1
          exact q1.elim
    · rw [if_neg o] at q
      exact q.elim
end
/-! ## displays that are owned -/
theorem o_lst {X : Cx} {j : J} {es : List Expr} {pos : Pos} {dl : List D → R (List D)} (h : DL X j es dl) : DO X j (.List es pos) (fun env => bindR (dl env) fun xs env1 => if xs.length ≤ 1000 then .ok (.ml xs) env1 else .bad) :=
  PE.mono (pe_lst h) fun σ H Q ⟨W, F, env, rel, q⟩ => ⟨W, F, env, rel, AtO.bind q fun d env1 W1 F1 H1 v _ r1 x1 p1 q1 => by
    by_cases z : d.length ≤ 1000
    · rw [if_pos z] at q1
      refine ⟨le_line (by rw [← p1.length]; exact z), fun p n => ?_⟩
      obtain ⟨h1, h2⟩ := r1.newO n p1
      exact q1 _ F1 _ _ h1 (Ex.refl F1) h2
    · rw [if_neg z] at q1
      exact q1.elim⟩
/-! ## slices -/
def TOd (M : Mo) (j : J) (den : List D → R (Option Int)) : TO := fun σ H Q => tR M j.e j.wx (fun _ a b => a = b) den σ H Q
def noPartD : List D → R (Option Int) := fun env => .ok none env
def partD (da : List D → R D) : List D → R (Option Int) := fun env => bindR (da env) fun d env1 => match d with
  | .int i => .ok (some i) env1
  | _ => .bad
def cutL (l : List D) (lo hi : Option Int) : List D := (l.drop (HT.sIx l.length 0 lo)).take (HT.sIx l.length l.length hi - HT.sIx l.length 0 lo)
def cutD (d : D) (lo hi : Option Int) : Option D := match d with
  | .lst l => some (.lst (cutL l lo hi))
  | .tup l => if HT.sIx l.length 0 lo = 0 ∧ HT.sIx l.length l.length hi = l.length then none else some (.tup (cutL l lo hi))
  | .str z => if z.length ≤ sizeLine then some (.str (cutS z lo hi)) else none
  | _ => none
def sliceD (da : List D → R D) (dl dh : List D → R (Option Int)) : List D → R D := fun env => bindR (da env) fun d env1 => bindR (dl env1) fun lo env2 => bindR (dh env2) fun hi env3 => opR (cutD d lo hi) env3
section
variable {X : Cx} {j : J} {e : Expr} {pos p2 : Pos} {da : List D → R D} {dl dh : List D → R (Option Int)} {lo hi : Option Expr}
theorem PO.mono {lo : Option Expr} {t t' : TO} (h : PO X lo t) (k : ∀ σ H Q, t' σ H Q → t σ H Q) : PO X lo t' := ⟨fun pins s σ H Q I q => h.run pins s σ H Q I (k σ H Q q)⟩
theorem p_none : PO X none (TOd (mo X) j noPartD) := PO.mono po_none fun σ H Q ⟨W, F, env, rel, q⟩ => q W F H none rel (Ex.refl F) rfl
theorem p_some (h : DE X j e da) : PO X (some e) (TOd (mo X) j (partD da)) := PO.mono (po_some h) fun σ H Q ⟨W, F, env, rel, q⟩ => ⟨W, F, env, rel, At.bind q fun d env1 W1 F1 H1 v _ r1 x1 p1 q1 => by
  cases p1 with
  | int i => exact ⟨i, rfl, q1 W1 F1 H1 _ r1 (Ex.refl F1) rfl⟩
  | _ => exact q1.elim⟩
theorem RpL.cut {M : Mo} {F : Hp} {l : List D} {xs : List V} (h : RpL M F l xs) (lo hi : Option Int) : RpL M F (cutL l lo hi) (cutV xs lo hi) := by
  unfold cutL cutV
  rw [← h.length]
  exact (h.drop _).take _
theorem e_slice (h : DE X j e da) (hl : PO X lo (TOd (mo X) j dl)) (hh : PO X hi (TOd (mo X) j dh)) : DE X j (.Subscript e (.Slice lo hi none p2) pos) (sliceD da dl dh) :=
  PE.mono (pe_slice (sl_list.or (sl_tup.or sl_str)) h hl hh) fun σ H Q ⟨W, F, env, rel, q⟩ => ⟨W, F, env, rel, At.bind q fun d env1 W1 F1 H1 v _ r1 x1 p1 q1 => ⟨W1, F1, env1, r1, At.bind q1 fun lo env2 W2 F2 H2 v2 _ r2 x2 p2 q2 => ⟨W2, F2, env2, r2, At.bind q2 fun hi env3 W3 F3 H3 v3 _ r3 x3 p3 q3 => by
    subst p2 p3
    have p1 := p1.mono (x2.trans x3)
    unfold cutD at q3
    cases p1 with
    | lst h1 h2 => exact .inl ⟨_, _, rfl, ex_l r3.exF h1, fun p n => At.grow q3 r3 (Grow.one r3.exF n) (.lst (SqL.of upd_same) ((h2.cut _ _).mono (Ex.new (r3.exF.none n))))⟩
    | @tup a xs l h1 h2 =>
      simp only at q3
      split at q3
      · exact q3.elim
      · rename_i hz
        exact .inr (.inl ⟨_, _, rfl, ex_t r3.exF h1, by rw [← h2.length]; exact hz, fun p n => At.grow q3 r3 (Grow.one r3.exF n) (.tup (SqT.of upd_same) ((h2.cut _ _).mono (Ex.new (r3.exF.none n))))⟩)
    | str z =>
      simp only at q3
      split at q3
      · rename_i hz
        exact .inr (.inr ⟨z, rfl, hz, q3 W3 F3 H3 _ r3 (Ex.refl F3) (.str _)⟩)
      · exact q3.elim
    | _ => exact q3.elim⟩⟩⟩
end
end DL
namespace DL
open PySem PySem.Spec PyProof.Rows L2
/-! ## a block within a body -/
abbrev noX : WX := fun _ _ _ _ => False
def blkW (pb : Nat → Option V) (W : Own) : Own := fun a => match W a with
  | some ((i + 1) :: q) => if (pb i).isSome = true then some ((i + 1) :: q) else none
  | _ => none
theorem blkW_some {pb : Nat → Option V} {W : Own} {a : Addr} {p : List Nat} (h : blkW pb W a = some p) : ∃ i q v, p = (i + 1) :: q ∧ W a = some p ∧ pb i = some v := by
  unfold blkW at h
  split at h
  · rename_i i q hq
    split at h
    · rename_i hs
      obtain ⟨v, hv⟩ := Option.isSome_iff_exists.mp hs
      cases h
      exact ⟨i, q, v, rfl, hq, hv⟩
    · cases h
  · cases h
section
variable {M : Mo} {e : Ent} {W : Own} {F H : Hp} {env : List D} {σ : L2.St}
theorem Rel.inB {pb : Nat → Option V} (r : Rel M e W F H env σ) (hp : ∀ i v, pb i = some v → σ[i]? = some (some v)) (ho : ∀ i d, env[i]? = some d → isOwn d = true → d ≠ .unb → pb i ≠ none) : Rel M ⟨H, F, blkW pb W, pb⟩ (blkW pb W) F H env σ where
  pres := fun _ _ _ h => h
  exF0 := Ex.refl F
  exF := r.exF
  sep := fun a h => by
    cases q : blkW pb W a with
    | none => exact absurd q h
    | some p =>
      obtain ⟨i, q', v, _, h2, _⟩ := blkW_some q
      have z := r.sep a (by rw [h2]; simp)
      exact ⟨z.1, .inl h, z.2.2⟩
  fresh := fun a c q h => by
    obtain ⟨i, q', v, h1, h2, h3⟩ := blkW_some h
    injection h1 with h1 _
    exact .inr ⟨i, v, q, h1, h3, h⟩
  new := fun _ h => .inl h
  stay := fun _ h => h
  len := r.len
  slot := fun i d h1 h2 => by
    obtain ⟨v, h3, h4⟩ := r.slot i d h1 h2
    refine ⟨v, h3, ?_⟩
    cases o : isOwn d with
    | false => exact .fz (h4.rp o)
    | true =>
      refine h4.tr (Ex.refl F) fun a q z => ⟨?_, fun _ x => x⟩
      have z2 : W a = some ((i + 1) :: q) := z
      unfold blkW
      rw [z2]
      show (if (pb i).isSome = true then some ((i + 1) :: q) else none) = some ((i + 1) :: q)
      rw [if_pos (Option.isSome_iff_ne_none.mpr (ho i d h1 o h2))]
  pin := hp
theorem Rel.outB {pb : Nat → Option V} {W' : Own} {F' H' : Hp} {env' : List D} {σ' : L2.St} (r : RelB e W F H) (r' : Rel M ⟨H, F, blkW pb W, pb⟩ W' F' H' env' σ') (hp : ∀ i v, e.P i = some v → pb i = some v) : Rel M e W' F' H' env' σ' where
  pres := fun b o h1 h2 => by
    refine r'.pres b o ?_ (r.pres b o h1 h2)
    show blkW pb W b = none
    cases q : blkW pb W b with
    | none => rfl
    | some p =>
      obtain ⟨i, q', v, _, h4, _⟩ := blkW_some q
      rcases (r.sep b (by rw [h4]; simp)).2.1 with z | z
      · exact absurd h1 z
      · rw [z] at h2
        cases h2
  exF0 := r.exF0.trans r'.exF0
  exF := r'.exF
  sep := fun a h => by
    obtain ⟨h1, h2, h3⟩ := r'.sep a h
    refine ⟨h1, ?_, h3⟩
    rcases h2 with h2 | h2
    · have h2 : blkW pb W a ≠ none := h2
      cases q : blkW pb W a with
      | none => exact absurd q h2
      | some p =>
        obtain ⟨i, q', v, _, h4, _⟩ := blkW_some q
        exact (r.sep a (by rw [h4]; simp)).2.1
    · refine .inr ?_
      cases w : e.H0 a with
      | none => rfl
      | some o => exact absurd h2 (r.stay a (by rw [w]; simp))
  fresh := fun a c q h => by
    rcases r'.fresh a c q h with h2 | ⟨i, v, q0, h2, h3, h4⟩
    · refine .inl ?_
      cases w : e.H0 a with
      | none => rfl
      | some o => exact absurd h2 (r.stay a (by rw [w]; simp))
    · have h4 : blkW pb W a = some (c :: q0) := h4
      obtain ⟨i2, q2, v2, h5, h6, h7⟩ := blkW_some h4
      exact r.fresh a c q0 h6
  new := fun b h => by
    rcases r'.new b h with h2 | h2
    · exact r.new b h2
    · refine .inr ?_
      cases w : e.H0 b with
      | none => rfl
      | some o => exact absurd h2 (r.stay b (by rw [w]; simp))
  stay := fun b h => r'.stay b (r.stay b h)
  len := r'.len
  slot := r'.slot
  pin := fun i v h => r'.pin i v (hp i v h)
end
/-! ## comprehensions -/
def wipeD (env : List D) : List Nat → List D
  | [] => env
  | v :: vs => (wipeD env vs).set v .unb
def backD (env0 env : List D) : List Nat → List D
  | [] => env
  | v :: vs => (backD env0 env vs).set v (if isOwn (env0.getD v .unb) = true then .unb else env0.getD v .unb)
theorem wipeD_len (env : List D) : ∀ vs : List Nat, (wipeD env vs).length = env.length
  | [] => rfl
  | v :: vs => by unfold wipeD; rw [List.length_set, wipeD_len env vs]
theorem backD_len (env0 env : List D) : ∀ vs : List Nat, (backD env0 env vs).length = env.length
  | [] => rfl
  | v :: vs => by unfold backD; rw [List.length_set, backD_len env0 env vs]
theorem wipeD_get {env : List D} {i : Nat} {d : D} : ∀ {vs : List Nat}, (wipeD env vs)[i]? = some d → d ≠ .unb → i ∉ vs ∧ env[i]? = some d
  | [], h, _ => ⟨by simp, h⟩
  | v :: vs, h, hd => by
    unfold wipeD at h
    by_cases z : v = i
    · subst z
      have hlt : v < (wipeD env vs).length := by
        have := (List.getElem?_eq_some_iff.mp h).1
        rwa [List.length_set] at this
      rw [List.getElem?_set_self hlt] at h
      cases h
      exact absurd rfl hd
    · rw [List.getElem?_set_ne z] at h
      obtain ⟨h1, h2⟩ := wipeD_get h hd
      exact ⟨by simp only [List.mem_cons, not_or]; exact ⟨fun e => z e.symm, h1⟩, h2⟩
theorem backD_get {env0 env : List D} {i : Nat} {d : D} : ∀ {vs : List Nat}, (backD env0 env vs)[i]? = some d → d ≠ .unb → (i ∉ vs ∧ env[i]? = some d) ∨ (i ∈ vs ∧ env0[i]? = some d ∧ isOwn d = false)
  | [], h, _ => .inl ⟨by simp, h⟩
  | v :: vs, h, hd => by
    unfold backD at h
    by_cases z : v = i
    · subst z
      have hlt : v < (backD env0 env vs).length := by
        have := (List.getElem?_eq_some_iff.mp h).1
        rwa [List.length_set] at this
      rw [List.getElem?_set_self hlt] at h
      by_cases o : isOwn (env0.getD v .unb) = true
      · rw [if_pos o] at h
        cases h
        exact absurd rfl hd
      · rw [if_neg o] at h
        have o := (by simpa using o : isOwn (env0.getD v .unb) = false)
        obtain ⟨h1, _⟩ := getD_some o
        cases h
        exact .inr ⟨List.mem_cons_self, h1, o⟩
    · rw [List.getElem?_set_ne z] at h
      rcases backD_get h hd with ⟨h1, h2⟩ | ⟨h1, h2⟩
      · exact .inl ⟨by simp only [List.mem_cons, not_or]; exact ⟨fun e => z e.symm, h1⟩, h2⟩
      · exact .inr ⟨List.mem_cons_of_mem _ h1, h2⟩
theorem wipe_get {σ : L2.St} {i : Nat} : ∀ {vs : List Nat}, i ∉ vs → (wipe σ vs)[i]? = σ[i]?
  | [], _ => rfl
  | v :: vs, h => by
    simp only [List.mem_cons, not_or] at h
    unfold wipe
    rw [List.getElem?_set_ne (fun e => h.1 e.symm)]
    exact wipe_get h.2
theorem wipe_in {σ : L2.St} {i : Nat} : ∀ {vs : List Nat}, i ∈ vs → (wipe σ vs)[i]? = if i < σ.length then some none else none
  | v :: vs, h => by
    unfold wipe
    by_cases z : v = i
    · subst z
      by_cases hl : v < σ.length
      · rw [if_pos hl, List.getElem?_set_self (by rw [wipe_length]; exact hl)]
      · rw [if_neg hl, List.getElem?_eq_none]
        rw [List.length_set, wipe_length]
        omega
    · rw [List.getElem?_set_ne z]
      rcases List.mem_cons.mp h with h | h
      · exact absurd h.symm z
      · exact wipe_in h
theorem wipe_eq {σ σ' : L2.St} {vs : List Nat} (hl : σ'.length = σ.length) (h : ∀ i, i ∉ vs → σ'[i]? = σ[i]?) : wipe σ' vs = wipe σ vs := by
  refine List.ext_getElem? fun i => ?_
  by_cases z : i ∈ vs
  · rw [wipe_in z, wipe_in z, hl]
  · rw [wipe_get z, wipe_get z]
    exact h i z
/-- the slots that a target stores -/
def tGw (M : Mo) (j : J) (ss : List Nat) (g : D → List D → Option (List D)) : TG := fun v σ H Q => ∃ W F env d, Rel M j.e W F H env σ ∧ Rp M F d v ∧ ∃ env', g d env = some env' ∧ ∀ W' F' H' σ', Rel M j.e W' F' H' env' σ' → Ex F F' → σ'.length = σ.length → (∀ i, i ∉ ss → σ'[i]? = σ[i]?) → Q σ' H'
abbrev DGw (X : Cx) (j : J) (tg : Expr) (ss : List Nat) (g : D → List D → Option (List D)) : Prop := PG X tg (tGw (mo X) j ss g)
def tGsw (M : Mo) (j : J) (ss : List Nat) (g : List D → List D → Option (List D)) : TGs := fun vs σ H Q => ∃ W F env ds, Rel M j.e W F H env σ ∧ RpL M F ds vs ∧ ∃ env', g ds env = some env' ∧ ∀ W' F' H' σ', Rel M j.e W' F' H' env' σ' → Ex F F' → σ'.length = σ.length → (∀ i, i ∉ ss → σ'[i]? = σ[i]?) → Q σ' H'
abbrev DGsw (X : Cx) (j : J) (ts : List Expr) (ss : List Nat) (g : List D → List D → Option (List D)) : Prop := PGs X ts (tGsw (mo X) j ss g)
section
variable {X : Cx} {j : J} {e tg : Expr} {es : List Expr} {pos : Pos} {h : List D → List D → Option (List D)} {ss st : List Nat}
theorem w_name (i : Nat) {x : Str} (hN : X.N.Nodup) (hp : j.e.P i = none) (hi : X.N[i]? = some x := by rfl) (hx : Loc X.env.scope x := by first | exact Or.inl rfl | exact Or.inr rfl) (hf : X.fn x = true ∨ X.env.scope.names.lookup x = some .local := by first | exact .inl rfl | exact .inr rfl) : DGw X j (.Name x pos) [i] (gnD i) :=
  PG.mono (pg_name hN hi hx hf) fun v σ H Q ⟨W, F, env, d, r, p, env', e, q⟩ => by
    have e : env.set i d = env' := Option.some.inj e
    exact q W F H _ (by rw [← e]; exact r.set p hp) (Ex.refl F) (by rw [List.length_set]) fun k hk => List.getElem?_set_ne (by simp at hk; exact fun z => hk z.symm)
theorem ws_nil : DGsw X j [] [] gNilD := PGs.mono pgs_nil fun vs σ H Q ⟨W, F, env, ds, r, p, env', e, q⟩ => by
  cases p with
  | nil =>
    have e : env = env' := Option.some.inj e
    exact ⟨rfl, q W F H σ (by rw [← e]; exact r) (Ex.refl F) rfl fun _ _ => rfl⟩
  | cons _ _ => cases e
theorem ws_cons {g : D → List D → Option (List D)} (hg : DGw X j e ss g) (hh : DGsw X j es st h) (hs : (assignEach (e :: es) X.env).map (·.2) = assign e X.env :: (assignEach es X.env).map (·.2) := by rfl) : DGsw X j (e :: es) (ss ++ st) (gConsD g h) :=
  PGs.mono (pgs_cons hg hh hs) fun vs σ H Q ⟨W, F, env, ds, r, p, env', e, q⟩ => by
    cases p with
    | nil => cases e
    | @cons d l v xs p1 p2 =>
      unfold gConsD at e
      simp only at e
      cases o : g d env with
      | none => rw [o] at e; cases e
      | some env1 =>
        rw [o] at e
        exact ⟨v, xs, rfl, W, F, env, d, r, p1, env1, o, fun W' F' H' σ' r' x' l1 k1 => ⟨W', F', env1, l, r', p2.mono x', env', e, fun W2 F2 H2 σ2 r2 x2 l2 k2 => q W2 F2 H2 σ2 r2 (x'.trans x2) (l2.trans l1) fun i hi => by
          simp only [List.mem_append, not_or] at hi
          rw [k2 i hi.2, k1 i hi.1]⟩⟩
theorem w_tup {k n : Nat} (hc : X.calm = true) (hh : DGsw X j es ss h) (hlen : ∀ ds env env', h ds env = some env' → ds.length = n) (hn : (assignEach es X.env).length = n := by rfl) (hst : (assignEach es X.env).findIdx? (·.1) = none := by rfl) : DGw X j (.Tuple es k pos) ss (gTupD h) :=
  PG.mono (pg_tup hc hh hn hst) fun v σ H Q ⟨W, F, env, d, r, p, env', e, q⟩ => by
    cases p with
    | tup h1 h2 =>
      exact ⟨_, _, rfl, ex_t r.exF h1, by rw [← h2.length]; exact hlen _ _ _ e, W, F, env, _, r, h2, env', e, q⟩
    | _ => cases e
end
/-- tests of a clause -/
def yesD : List D → R Bool := fun env => .ok true env
abbrev DTs (X : Cx) (j : J) (ifs : List Expr) (dt : List D → R Bool) : Prop := PTs X ifs (tT (mo X) j dt)
theorem ts_nil {X : Cx} {j : J} : DTs X j [] yesD := ⟨fun pins s σ H Q I h => pts_nil.run pins s σ H Q I (by obtain ⟨W, F, env, rel, q⟩ := h; exact q W F H true rel (Ex.refl F) rfl)⟩
theorem ts_one {X : Cx} {j : J} {c : Expr} {dt : List D → R Bool} (h : DT X j c dt) : DTs X j [c] dt := pts_one h
def bindB {α β : Type} (r : R α) (f : α → List D → R β) : R β := match r with
  | .ok a env => f a env
  | _ => .bad
@[simp] theorem bindB_ok {α β : Type} (a : α) (env : List D) (f : α → List D → R β) : bindB (.ok a env) f = f a env := rfl
def lcGo (g : D → List D → Option (List D)) (dt : List D → R Bool) (de : List D → R D) (vs : List Nat) : List D → List D → List D → R (List D)
  | [], acc, env => .ok acc env
  | d :: ds, acc, env => match g d env with
    | none => .bad
    | some env1 => bindB (dt env1) fun b env2 => if b = true then bindB (de env2) fun y env3 => lcGo g dt de vs ds (acc ++ [y]) (wipeD env3 vs) else lcGo g dt de vs ds acc (wipeD env2 vs)
def lcD (di : List D → R (List D)) (g : D → List D → Option (List D)) (dt : List D → R Bool) (de : List D → R D) (vs : List Nat) : List D → R D := fun env => bindR (di env) fun ds env1 =>
  if ds.length ≤ 1000000 then bindB (lcGo g dt de vs ds [] (wipeD env1 vs)) fun acc env2 => .ok (.ml acc) (backD env1 env2 vs) else .bad
/-- a block's result in a block: nothing is raised -/
theorem At.bindB {α β γ : Type} {M : Mo} {e : Ent} {rep : Hp → α → β → Prop} {F : Hp} {σ : L2.St} {r : R α} {f : α → List D → R γ} {o : R γ} {P : β → Hp → Prop} (h : DL.bindB r f = o) (ho : o ≠ .bad)
    (k : ∀ d env1 W1 F1 H1 v, r = .ok d env1 → Rel M e W1 F1 H1 env1 σ → Ex F F1 → rep F1 d v → f d env1 = o → P v H1) : At M e noX rep F σ r P := by
  cases r with
  | ok d env' => exact fun W' F' H' v a b c => k d env' W' F' H' v rfl a b c h
  | ex c fs env' => exact absurd h.symm ho
  | bad => exact absurd h.symm ho
theorem Rel.wipe {M : Mo} {e : Ent} {W : Own} {F H : Hp} {env : List D} {σ σ' : L2.St} (r : Rel M e W F H env σ) (vs : List Nat) (hl : σ'.length = σ.length) (h : ∀ i, i ∉ vs → σ'[i]? = σ[i]?) (hp : ∀ i ∈ vs, e.P i = none) : Rel M e W F H (wipeD env vs) σ' where
  toRelB := r.toRelB
  len := by rw [wipeD_len, hl]; exact r.len
  slot := fun i d h1 h2 => by
    obtain ⟨h3, h4⟩ := wipeD_get h1 h2
    obtain ⟨v, h5, h6⟩ := r.slot i d h4 h2
    exact ⟨v, by rw [h i h3]; exact h5, h6⟩
  pin := fun i v hv => by
    have : i ∉ vs := fun z => by
      rw [hp i z] at hv
      cases hv
    rw [h i this]
    exact r.pin i v hv
section
variable {X : Cx} {j : J} {elt tg iter : Expr} {ifs : List Expr} {scope : Scope} {pos : Pos} {own : List (Str × Nat)} {di : List D → R (List D)} {g : D → List D → Option (List D)} {dt : List D → R Bool} {de : List D → R D} {ss : List Nat}
theorem o_lc (hc : X.calm = true) (hN : X.N.Nodup) (hp : ∀ i ∈ own.map (·.2), j.e.P i = none) (hss : ∀ i ∈ ss, i ∈ own.map (·.2)) (hi : DI X j tg iter di) (ok : BlkOk X.N X.env.scope scope own)
    (hg : ∀ (s : Shared) (H : Hp) (C : Addr) (cl : List (Str × Addr)) (fp : List Addr) (eb : Ent), (∀ i ∈ own.map (·.2), eb.P i = none) → DGw (X.blk s H scope (compEnvC scope cl C X.env) fp) ⟨eb, noX⟩ tg ss g)
    (ht : ∀ (s : Shared) (H : Hp) (C : Addr) (cl : List (Str × Addr)) (fp : List Addr) (eb : Ent), (∀ i ∈ own.map (·.2), eb.P i = none) → DTs (X.blk s H scope (compEnvC scope cl C X.env) fp) ⟨eb, noX⟩ ifs dt)
    (he : ∀ (s : Shared) (H : Hp) (C : Addr) (cl : List (Str × Addr)) (fp : List Addr) (eb : Ent), (∀ i ∈ own.map (·.2), eb.P i = none) → DE (X.blk s H scope (compEnvC scope cl C X.env) fp) ⟨eb, noX⟩ elt de)
    (hs : ∀ x, foldedSetIterable iter X.env x = pure x := by intro _; rfl) : DO X j (.ListComp elt [⟨tg, iter, ifs, 0⟩] scope pos) (lcD di g dt de (own.map (·.2))) := by
  refine PE.mono (pe_lc (wi := tI (mo X) j di) (g := fun v σ H Q => ∃ eb : Ent, (∀ i ∈ own.map (·.2), eb.P i = none) ∧ tGw (mo X) ⟨eb, noX⟩ ss g v σ H Q) (tt := fun σ H Q => ∃ eb : Ent, (∀ i ∈ own.map (·.2), eb.P i = none) ∧ tT (mo X) ⟨eb, noX⟩ dt σ H Q)
    (te := fun σ H Q => ∃ eb : Ent, (∀ i ∈ own.map (·.2), eb.P i = none) ∧ tE (mo X) ⟨eb, noX⟩ de σ H Q) hc hN hi ok
    (fun s H C cl fp => ⟨fun pins s' σ H' v u Q I r ⟨eb, h1, h2⟩ => (hg s H C cl fp eb h1).run pins s' σ H' v u Q I r h2⟩)
    (fun s H C cl fp => ⟨fun pins s' σ H' Q I ⟨eb, h1, h2⟩ => (ht s H C cl fp eb h1).run pins s' σ H' Q I h2⟩)
    (fun s H C cl fp => ⟨fun pins s' σ H' Q I ⟨eb, h1, h2⟩ => (he s H C cl fp eb h1).run pins s' σ H' Q I h2⟩) hs) fun σ H Q ⟨W, F, env, rel, q⟩ => ⟨W, F, env, rel, AtO.bind q fun ds env1 W1 F1 H1 Ji _ r1 x1 p1 q1 => ?_⟩
  generalize hvs : own.map (·.2) = vs at *
  by_cases hds0 : ¬ ds.length ≤ 1000000
  · rw [if_neg hds0] at q1
    exact q1.elim
  have hds : ds.length ≤ 1000000 := by omega
  rw [if_pos hds] at q1
  cases o : lcGo g dt de vs ds [] (wipeD env1 vs) with
  | ex c fs en => rw [o] at q1; exact q1.elim
  | bad => rw [o] at q1; exact q1.elim
  | ok acc0 env0 =>
    rw [o] at q1
    intro Dl hDl
    have wl : (wipe σ vs).length = σ.length := wipe_length σ vs
    have wg : ∀ i, i ∉ vs → (wipe σ vs)[i]? = σ[i]? := fun i h => wipe_get h
    have dW1 : W1 Dl = none := by
      cases z : W1 Dl with
      | none => rfl
      | some p => exact absurd hDl (r1.sep Dl (by rw [z]; simp)).2.2
    have dF1 : F1 Dl = none := r1.exF.none hDl
    -- the new list
    have gr : Rel (mo X) j.e W1 F1 (upd H1 Dl (.lst [])) (wipeD env1 vs) (wipe σ vs) := by
      have a := r1.wipe vs wl wg hp
      have h0 : j.e.H0 Dl = none := by
        cases z : j.e.H0 Dl with
        | none => rfl
        | some p => exact absurd hDl (r1.stay Dl (by rw [z]; simp))
      refine ⟨⟨fun b u h1 h2 => ?_, a.exF0, fun b u h => ?_, fun b h => ?_, a.fresh, a.new, fun b h => ?_⟩, a.len, fun i d h1 h2 => ?_, a.pin⟩
      · have : b ≠ Dl := fun z => by
          subst z
          rw [h0] at h2
          cases h2
        rw [upd_ne this]
        exact a.pres b u h1 h2
      · have : b ≠ Dl := fun z => by
          subst z
          rw [dF1] at h
          cases h
        rw [upd_ne this]
        exact a.exF b u h
      · have : b ≠ Dl := fun z => h (by rw [z]; exact dW1)
        rw [upd_ne this]
        exact a.sep b h
      · by_cases z : b = Dl
        · rw [z, upd_same]
          simp
        · rw [upd_ne z]
          exact a.stay b h
      · obtain ⟨v, h3, h4⟩ := a.slot i d h1 h2
        refine ⟨v, h3, h4.tr (Ex.refl F1) fun b q z => ⟨z, fun u y => ?_⟩⟩
        have : b ≠ Dl := fun w => by
          rw [w, dW1] at z
          cases z
        rw [upd_ne this]
        exact y
    refine ⟨fun i m H => m = ds.length - i ∧ i ≤ ds.length ∧ ∃ W2 F2 env2 acc xs, Rel (mo X) j.e W2 F2 H env2 (wipe σ vs) ∧ Ex F1 F2 ∧ H Dl = some (.lst xs) ∧ F2 Dl = none ∧ W2 Dl = none ∧ RpL (mo X) F2 acc xs ∧ acc.length ≤ i ∧ (∀ i ∈ vs, ∀ d, env2[i]? = some d → d = .unb) ∧ lcGo g dt de vs (ds.drop i) acc env2 = .ok acc0 env0,
      ⟨_, rfl, Nat.zero_le _, W1, F1, _, [], [], gr, Ex.refl F1, upd_same, dF1, dW1, .nil, Nat.zero_le _, fun i hi d h => Classical.byContradiction fun hd => (wipeD_get h hd).1 hi, o⟩, fun i m H hw => ?_⟩
    obtain ⟨rfl, hi, W2, F2, env2, acc, xs, r2, x2, hD, hF, hW, ra, hacc, hun, e2⟩ := hw
    by_cases hlt : i < ds.length
    · obtain ⟨go, yl⟩ := (p1 i F2 H x2 r2.exF).1 hlt
      rw [List.drop_eq_getElem_cons hlt] at e2
      unfold lcGo at e2
      cases og : g ds[i] env2 with
      | none => rw [og] at e2; cases e2
      | some env3 =>
        rw [og] at e2
        simp only at e2
        refine .inr ⟨go, fun H' => ∃ W4 F4 env4 acc4 xs4, Rel (mo X) j.e W4 F4 H' env4 (wipe σ vs) ∧ Ex F1 F4 ∧ H' Dl = some (.lst xs4) ∧ F4 Dl = none ∧ W4 Dl = none ∧ RpL (mo X) F4 acc4 xs4 ∧ acc4.length ≤ i + 1 ∧ (∀ i ∈ vs, ∀ d, env4[i]? = some d → d = .unb) ∧ lcGo g dt de vs (ds.drop (i + 1)) acc4 env4 = .ok acc0 env0,
          fun H' h => ⟨ds.length - (i + 1), by omega, rfl, hlt, h⟩, fun x H' hy => ?_⟩
        obtain ⟨F3, d, e1, grw, rp⟩ := yl x H' hy
        have ed : ds[i] = d := by
          rw [List.getElem?_eq_getElem hlt] at e1
          exact Option.some.inj e1
        have r3 := r2.grow grw
        have hD3 : H' Dl = some (.lst xs) := grw.exH _ _ hD
        have hF3 : F3 Dl = none := by
          cases z : F3 Dl with
          | none => rfl
          | some u =>
            rcases grw.new Dl (by rw [z]; simp) with y | y
            · exact absurd hF y
            · rw [y] at hD
              cases hD
        -- the block's own entry
        have hpb : ∃ pb : Nat → Option V, (∀ i ∈ vs, pb i = none) ∧ (∀ i v, pb i = some v → (wipe σ vs)[i]? = some (some v)) ∧ (∀ i v, i ∉ vs → (wipe σ vs)[i]? = some (some v) → pb i = some v) :=
          ⟨fun i => if i ∈ vs then none else match (wipe σ vs)[i]? with | some o => o | none => none, fun i h => if_pos h, fun i v h => by
            simp only at h
            by_cases z : i ∈ vs
            · rw [if_pos z] at h
              cases h
            · rw [if_neg z] at h
              cases y : (wipe σ vs)[i]? with
              | none => rw [y] at h; cases h
              | some o => rw [y] at h; exact congrArg some h, fun i v h1 h2 => by
            simp only
            rw [if_neg h1, h2]⟩
        obtain ⟨pb, pb1, pb2, pb3⟩ := hpb
        have rB := r3.inB (pb := pb) pb2 fun i d h1 h2 h3 z => by
          have hn : i ∉ vs := fun hv => h3 (hun i hv d h1)
          obtain ⟨v, h4, _⟩ := r3.slot i d h1 h3
          rw [pb3 i v hn h4] at z
          cases z
        have hpe : ∀ i v, j.e.P i = some v → pb i = some v := fun i v h => by
          have hn : i ∉ vs := fun hv => by
            rw [hp i hv] at h
            cases h
          exact pb3 i v hn (r3.pin i v h)
        refine ⟨_, pb1, blkW pb W2, F3, env2, d, rB, rp, env3, by rw [← ed]; exact og, fun W4 F4 H4 σ4 r4 x4 l4 k4 => ?_⟩
        have k4' : ∀ i, i ∉ vs → σ4[i]? = (wipe σ vs)[i]? := fun i hn => k4 i fun z => hn (hss i z)
        have wσ : wipe σ4 vs = wipe σ vs := by
          rw [wipe_eq (σ := wipe σ vs) (σ' := σ4) l4 k4']
          refine List.ext_getElem? fun i => ?_
          by_cases z : i ∈ vs
          · rw [wipe_in z, wipe_in z, wl]
          · rw [wipe_get z]
        refine ⟨wσ, _, pb1, W4, F4, env3, r4, ?_⟩
        have keepD : ∀ {W' F' H' env' σ'}, Rel (mo X) ⟨_, F3, blkW pb W2, pb⟩ W' F' H' env' σ' → H' Dl = some (.lst xs) ∧ F' Dl = none ∧ W' Dl = none := fun {W' F' H' env' σ'} r => by
          have bn : blkW pb W2 Dl = none := by
            unfold blkW
            rw [hW]
          refine ⟨r.pres Dl _ bn hD3, ?_, ?_⟩
          · cases z : F' Dl with
            | none => rfl
            | some u =>
              rcases r.new Dl (by rw [z]; simp) with y | y
              · exact absurd hF3 y
              · cases hD3.symm.trans y
          · cases z : W' Dl with
            | none => rfl
            | some u =>
              rcases (r.sep Dl (by rw [z]; simp)).2.1 with y | y
              · exact absurd bn y
              · cases hD3.symm.trans y
        have back : ∀ {W' F' H' env'}, Rel (mo X) ⟨_, F3, blkW pb W2, pb⟩ W' F' H' env' σ4 → Rel (mo X) j.e W' F' H' (wipeD env' vs) (wipe σ vs) := fun {W' F' H' env'} r =>
          (Rel.outB r3.toRelB r hpe).wipe vs (by rw [l4]) (fun i hn => (k4' i hn).symm) hp
        have unb : ∀ (env' : List D) i, i ∈ vs → ∀ d, (wipeD env' vs)[i]? = some d → d = .unb := fun env' i hv d h => Classical.byContradiction fun hd => (wipeD_get h hd).1 hv
        refine At.bindB e2 (fun z => nomatch z) fun b env5 W5 F5 H5 b' ob r5 x5 hb e5 => ?_
        subst hb
        cases b with
        | false =>
          rw [if_neg Bool.false_ne_true] at e5 ⊢
          obtain ⟨d1, d2, d3⟩ := keepD r5
          exact ⟨W5, F5, _, acc, xs, back r5, x2.trans (grw.exF.trans (x4.trans x5)), d1, d2, d3, ra.mono (grw.exF.trans (x4.trans x5)), by omega, unb _, e5⟩
        | true =>
          rw [if_pos rfl] at e5 ⊢
          refine ⟨_, pb1, W5, F5, env5, r5, At.bindB e5 (fun z => nomatch z) fun y env6 W6 F6 H6 v oy r6 x6 py e6 => ?_⟩
          obtain ⟨d1, d2, d3⟩ := keepD r6
          have xx : Ex F2 F6 := grw.exF.trans (x4.trans (x5.trans x6))
          have hlen := ra.length
          refine ⟨xs, d1, ?_, W6, F6, _, acc ++ [y], xs ++ [v], ?_, x2.trans xx, upd_same, d2, d3, (ra.mono xx).append (.cons py .nil), by rw [List.length_append]; simp; omega, unb _, e6⟩
          · rw [sizeLine_eq]
            omega
          · have a := back r6
            refine ⟨⟨fun b u h1 h2 => ?_, a.exF0, fun b u h => ?_, fun b h => ?_, a.fresh, a.new, fun b h => ?_⟩, a.len, fun i d h1 h2 => ?_, a.pin⟩
            · have : b ≠ Dl := fun z => by
                subst z
                have := r1.stay b (by rw [h2]; simp)
                exact this hDl
              rw [upd_ne this]
              exact a.pres b u h1 h2
            · have : b ≠ Dl := fun z => by
                subst z
                rw [d2] at h
                cases h
              rw [upd_ne this]
              exact a.exF b u h
            · have : b ≠ Dl := fun z => h (by rw [z]; exact d3)
              rw [upd_ne this]
              exact a.sep b h
            · by_cases z : b = Dl
              · rw [z, upd_same]
                simp
              · rw [upd_ne z]
                exact a.stay b h
            · obtain ⟨v, h3, h4⟩ := a.slot i d h1 h2
              refine ⟨v, h3, h4.tr (Ex.refl _) fun b q z => ⟨z, fun u y => ?_⟩⟩
              have : b ≠ Dl := fun w => by
                rw [w, d3] at z
                cases z
              rw [upd_ne this]
              exact y
    · -- the end
      refine .inl ⟨(p1 i F2 H x2 r2.exF).2 (by omega), ?_⟩
      rw [List.drop_eq_nil_of_le (by omega)] at e2
      have e2 : R.ok acc env2 = R.ok acc0 env0 := e2
      injection e2 with e3 e4
      subst e3 e4
      -- the slots as they stood
      have a : Rel (mo X) j.e W2 F2 H (backD env1 env2 vs) σ := {
        toRelB := r2.toRelB
        len := by rw [backD_len, r2.len, wl]
        slot := fun i d h1 h2 => by
          rcases backD_get h1 h2 with ⟨h3, h4⟩ | ⟨h3, h4, h5⟩
          · obtain ⟨v, h6, h7⟩ := r2.slot i d h4 h2
            exact ⟨v, by rw [← wg i h3]; exact h6, h7⟩
          · obtain ⟨v, h6, h7⟩ := r1.slot i d h4 h2
            exact ⟨v, h6, .fz ((h7.rp h5).mono x2)⟩
        pin := r1.pin }
      have hD0 : j.e.H0 Dl = none := by
        cases z : j.e.H0 Dl with
        | none => rfl
        | some p => exact absurd hDl (r1.stay Dl (by rw [z]; simp))
      have own2 : ∀ {l : List D} {xs : List V} {W' : Own} {k : Nat}, RpL (mo X) F2 l xs → OwL (mo X) W' F2 H [0] k l xs := by
        intro l
        induction l with
        | nil => intro xs W' k h; cases h; exact .nil
        | cons d l ih => intro xs W' k h; cases h with
          | cons h q => exact .cons (.fz h) (ih q)
      have old : ∀ b, b ≠ Dl → newW W2 Dl b ≠ none → W2 b ≠ none := fun b hb h z => h (by
        unfold newW
        rw [if_neg hb, z]
        rfl)
      refine q1 (newW W2 Dl) F2 H (.ref Dl) ⟨⟨a.pres, a.exF0, a.exF, fun b h => ?_, fun b c q h => ?_, a.new, a.stay⟩, a.len, fun k d' h1 h2 => ?_, a.pin⟩ x2 (.ml (by unfold newW; rw [if_pos rfl]) hD (own2 ra))
      · by_cases z : b = Dl
        · subst z
          exact ⟨hF, .inr hD0, by rw [hD]; simp⟩
        · exact a.sep b (old b z h)
      · unfold newW at h
        split at h
        · rename_i z
          subst z
          exact .inl hD0
        · split at h
          · cases h
          · exact a.fresh b c q h
      · obtain ⟨v', h5, h6⟩ := a.slot k d' h1 h2
        refine ⟨v', h5, h6.tr (Ex.refl F2) fun b q' z => ⟨?_, fun _ y => y⟩⟩
        have : b ≠ Dl := fun w => by
          rw [w, hW] at z
          cases z
        unfold newW
        rw [if_neg this, if_neg]
        · exact z
        · intro w
          obtain ⟨q2, h7⟩ := rootIs_iff.mp w
          rw [z] at h7
          injection h7 with h7
          injection h7 with h8 _
          omega
end
end DL
namespace DL
open PySem PySem.Spec PyProof.Rows L2
/-! ## raise -/
/-- an exception class without fields -/
structure XK0 (M : Mo) (c : Str) (C : Addr) : Prop where
  g : M.mg c = some (.ref C)
  ex : PySem.W.excIn M.K C He.veBase "ValueError.__new__" = true
  kp : PySem.W.keepIn M.K (.ref C) = true
  sb : PySem.W.subIn M.K (.ref C) (.type "BaseException") = some true
  ty : PySem.W.typeIn M.K (.ref C) = some (.type "type")
/-- one with fields: its __init__ stands at fI -/
structure XKf (M : Mo) (c : Str) (C fI : Addr) : Prop where
  g : M.mg c = some (.ref C)
  ox : OexC M.K C
  ini : PySem.W.findIn M.K (.ref C) "__init__" = some (some (.ref fI))
  tyi : PySem.W.typeIn M.K (.ref fI) = some (.type "function")
  no : ∀ f ∈ eflds c, PySem.W.findIn M.K (.ref C) f = some none
def raiseD (c : Str) (da : List D → R (List D)) : List D → O := fun env => bindS (da env) fun fs env1 => .ex c fs env1
section
variable {X : Cx} {j : J}
theorem pmk_own0 {C : Addr} {x : Str} {p pos : Pos} (T : XK0 (mo X) x C) (hg : Gl X x) (hdb : (x == ("__debug__" : Str)) = false := by decide) :
    PMk X (.Call (.Name x p) [] [] pos) (fun σ H Q => Q (.ref C) none H) := by
  intro pins s σ H Q I h
  refine wpAny_Call_Name_kw (ld_glob I hg T.g ?_ hdb)
  refine PySem.W.callWith_K0 I.kIn T.kp ?_
  show wpAny _ _ (call (.ref C) []) _ _ _
  obtain ⟨bm, N, nm, qn, bs, hdct, sn, sub, ab, col, dd, k0, k1, k2, k3, k5, mN, hC, hN, hni, Tl⟩ := exc_obj I.kIn T.ex
  refine wpAny_call_exc_subT PySem.F.excBase_ValueError Tl hC hN hni (fun h' e hm => ?_) (by show 0 ≤ sizeLine; exact Nat.zero_le _)
  exact mk_of I hm (raises_own T.sb T.ty) h (I.hok.gone hm.new)
theorem s_raise0 {x : Str} {C : Addr} {p pos pos' : Pos} (hc : X.calm = true) (tk : Takes X j.wx) (T : XK0 (mo X) x C) (hf : eflds x = [] := by rfl) (hg : Gl X x := by rfl) (hdb : (x == ("__debug__" : Str)) = false := by decide) :
    DS X j (.Raise (some (.Call (.Name x p) [] [] pos)) none pos') (raiseD x nilD) :=
  PS.mono (ps_raise hc tk (pmk_own0 T hg hdb)) fun Dn σ H ⟨W, F, env, rel, q⟩ => q W F H σ (.ref C) none rel (Ex.refl F) ⟨C, rfl, T.g, .inl ⟨rfl, hf, rfl⟩⟩
/-- self.f1 = a1; self.f2 = a2 .. of a new exception -/
def putX (C a : Addr) (fs : List (Str × V)) (H : Hp) (Q : Hp → Prop) : Prop := ∀ d, H d = none → d ≠ a → Q (upd (upd H d (exd d fs)) a (exo a C (some d)))
def spX (K : PySem.W.Frag) (C : Addr) (fl : List Str) : Sp := fun vs H Q E => ∃ a ws, vs = .ref a :: ws ∧ ws.length = fl.length ∧ OexC K C ∧ (∀ f ∈ fl, PySem.W.findIn K (.ref C) f = some none) ∧ H a = some (exo a C none) ∧ putX C a (fl.zip ws).reverse H (Q .non)
section
variable {P : Program} {w : World} {K : PySem.W.Frag} {mg : Str → Option Value} {base : Heap}
/-- __init__ with one field -/
theorem initX1 {qual f x : Str} {st : Stmt} {fI C : Addr} {fd : FuncData} {p1 p2 p3 p4 : Pos} (F : Fun K "__init__" qual st fI fd) (S : FnScope ["self", x] ["self", x] (defScope st))
    (hb : defBody st = [.Assign [.Attribute (.Name "self" p1) f p2] (.Name x p3) p4]) (h1 : Vis (defScope st) "self") (h2 : Vis (defScope st) x) (hx : (x == ("__debug__" : Str)) = false) (hx2 : (x == ("__classdict__" : Str)) = false) :
    FnOk P w K mg base CX0 1 fI fd ["self", x] (spX K C [f]) := by
  refine F.ok S (fun vs H Q E h => ?_) (fun cdv A outer s H vs Q E hr h => ?_)
  · obtain ⟨a, ws, rfl, hl, _⟩ := h
    simpa using hl
  · obtain ⟨a, ws, rfl, hl, T, no, ha, q⟩ := h
    obtain ⟨v, rfl⟩ : ∃ v, ws = [v] := by
      match ws, hl with
      | [v], _ => exact ⟨v, rfl⟩
    refine ⟨_, by rw [hb]; exact pss_one (ps_ost (pe_var (i := 0) rfl h1) (pe_var (i := 1) rfl h2 hx hx2)), ?_⟩
    refine ⟨v, rfl, .ref a, rfl, a, C, rfl, T, no f List.mem_cons_self, .inl ⟨ha, fun d nd hd => ?_⟩⟩
    exact q d nd hd
/-- .. with two -/
theorem initX2 {qual f g x y : Str} {st : Stmt} {fI C : Addr} {fd : FuncData} {p1 p2 p3 p4 q1 q2 q3 q4 : Pos} (F : Fun K "__init__" qual st fI fd) (S : FnScope ["self", x, y] ["self", x, y] (defScope st))
    (hb : defBody st = [.Assign [.Attribute (.Name "self" p1) f p2] (.Name x p3) p4, .Assign [.Attribute (.Name "self" q1) g q2] (.Name y q3) q4]) (h1 : Vis (defScope st) "self") (h2 : Vis (defScope st) x) (h3 : Vis (defScope st) y)
    (hx : (x == ("__debug__" : Str)) = false) (hx2 : (x == ("__classdict__" : Str)) = false) (hy : (y == ("__debug__" : Str)) = false) (hy2 : (y == ("__classdict__" : Str)) = false) :
    FnOk P w K mg base CX0 1 fI fd ["self", x, y] (spX K C [f, g]) := by
  refine F.ok S (fun vs H Q E h => ?_) (fun cdv A outer s H vs Q E hr h => ?_)
  · obtain ⟨a, ws, rfl, hl, _⟩ := h
    simpa using hl
  · obtain ⟨a, ws, rfl, hl, T, no, ha, q⟩ := h
    obtain ⟨v, w', rfl⟩ : ∃ v w', ws = [v, w'] := by
      match ws, hl with
      | [v, w'], _ => exact ⟨v, w', rfl⟩
    refine ⟨_, by rw [hb]; exact pss_cons (ps_ost (pe_var (i := 0) rfl h1) (pe_var (i := 1) rfl h2 hx hx2)) (pss_one (ps_ost (pe_var (i := 0) rfl h1) (pe_var (i := 2) rfl h3 hy hy2))), ?_⟩
    refine ⟨v, rfl, .ref a, rfl, a, C, rfl, T, no f List.mem_cons_self, .inl ⟨ha, fun d nd hd => ?_⟩⟩
    refine ⟨w', rfl, .ref a, rfl, a, C, rfl, T, no g (List.mem_cons_of_mem _ List.mem_cons_self), .inr ⟨d, [(f, v)], upd_same, ?_, by show 1 ≤ 900; decide, ?_⟩⟩
    · rw [upd_ne hd, upd_same]
    · have e : upd (upd (upd H d (exd d [(f, v)])) a (exo a C (some d))) d (exd d ((g, w') :: [(f, v)])) = upd (upd H d (exd d [(g, w'), (f, v)])) a (exo a C (some d)) := by
        funext b
        unfold upd
        by_cases hb : b = d
        · subst hb
          rw [if_pos rfl, if_neg hd, if_pos rfl]
        · rw [if_neg hb, if_neg hb]
          by_cases hba : b = a
          · rw [if_pos hba, if_pos hba]
          · rw [if_neg hba, if_neg hba, if_neg hb]
      rw [e]
      exact q d nd hd
end
theorem s_raise {x : Str} {C fI : Addr} {p pos pos' : Pos} {e : Expr} {es : List Expr} {fd : FuncData} {ps : List Str} {dl : List D → R (List D)} (hc : X.calm = true) (tk : Takes X j.wx) (T : XKf (mo X) x C fI) (F1 : FnOk X.prog X.w X.K X.mg X.base CX0 1 fI fd ps (spX X.K C (eflds x)))
    (hr : Room 2 X.A) (hb : Binds X.K fd ps []) (ha : DL X j (e :: es) dl) (hlen : ∀ env fs env1, dl env = .ok fs env1 → fs.length = (eflds x).length) (hg : Gl X x := by rfl) (hdb : (x == ("__debug__" : Str)) = false := by decide)
    (he : starEach (e :: es) X.env = (false, eval e X.env) :: starEach es X.env := by rfl) (hpl : (backTo pos (starEach es X.env)).any (·.1) = false := by rfl) (hsm : (eflds x).length ≤ 1000 := by decide) (hne : eflds x ≠ [] := by decide) :
    DS X j (.Raise (some (.Call (.Name x p) (e :: es) [] pos)) none pos') (raiseD x dl) :=
  PS.mono (ps_raise hc tk (pmk_oex T.ox T.ini T.tyi F1 hr hb .nil pass0 hg T.g ha hdb he hpl)) fun Dn σ H ⟨W, F, env, rel, q⟩ => ⟨W, F, env, rel, AtS.bind q fun fs env1 W1 F1 H1 vs o r1 x1 p1 q1 => by
    have hl := hlen _ _ _ o
    have hv : vs.length = (eflds x).length := by rw [← p1.length]; exact hl
    refine ⟨by rw [hv]; exact hsm, fun a na => ?_⟩
    refine ⟨a, vs, by rw [List.append_nil], hv, T.ox, T.no, upd_same, fun d nd hd => ?_⟩
    have nd1 : H1 d = none := by
      rw [upd_ne hd] at nd
      exact nd
    refine ⟨rfl, d, ((eflds x).zip vs).reverse, upd_same, ?_, nd1, ?_⟩
    · rw [upd_ne hd, upd_same]
    · have eH : upd (del (upd (upd (upd H1 a (exo a C none)) d (exd d ((eflds x).zip vs).reverse)) a (exo a C (some d))) a) d (.xd ((eflds x).zip vs).reverse) = upd H1 d (.xd ((eflds x).zip vs).reverse) := by
        funext b
        by_cases hb : b = d
        · subst hb
          rw [upd_same, upd_same]
        · rw [upd_ne hb, upd_ne hb]
          by_cases hba : b = a
          · subst hba
            rw [del_same]
            exact na.symm
          · rw [del_ne hba, upd_ne hba, upd_ne hb, upd_ne hba]
      rw [eH]
      have g := Grow.one (o := .xd ((eflds x).zip vs).reverse) r1.exF nd1
      refine q1 W1 _ _ σ (.ref C) (some d) (r1.grow g) g.exF ⟨C, rfl, T.g, .inr ⟨d, _, hne, rfl, upd_same, ?_, ?_⟩⟩
      · rw [List.map_reverse, List.map_fst_zip (by omega)]
      · rw [List.map_reverse, List.map_snd_zip (by omega)]
        have rv : ∀ {l : List D} {xs : List V}, RpL (mo X) F1 l xs → RpL (mo X) (upd F1 d (.xd ((eflds x).zip vs).reverse)) l.reverse xs.reverse := by
          intro l
          induction l with
          | nil => intro xs h; cases h; exact .nil
          | cons z l ih => intro xs h; cases h with
            | cons h1 h2 =>
              rw [List.reverse_cons, List.reverse_cons]
              exact (ih h2).append (.cons (h1.mono g.exF) .nil)
        exact rv p1⟩
end
/-! ## try: .. except C as e: .. / except C: .. -/
/-- nothing is raised in a suite -/
def noEx (o : O) : O := match o with
  | .ex _ _ _ => .bad
  | r => r
/-- which classes the clause takes: of those that matter -/
def tryD (mt : Str → Option Bool) (as : List Nat) (db : List D → O) (ds : Str → List D → List D → O) : List D → O := fun env => match db env with
  | .ex c fs env1 => match mt c with
    | some true => if as.all (fun i => !ownd (env1.getD i .unb)) = true then noEx (ds c fs env1) else .bad
    | some false => .ex c fs env1
    | none => .bad
  | r => r
/-- the name of the clause goes -/
def goneD (i : Nat) (da : List D → O) : List D → O := fun env => match da (env.set i .unb) with
  | .nx env1 => .nx (env1.set i .unb)
  | .bk env1 => .bk (env1.set i .unb)
  | .ct env1 => .ct (env1.set i .unb)
  | r => r
/-- the entry of a suite: what is pinned -/
def suiteP (as : List Nat) (P : Nat → Option V) (env : List D) (σ : L2.St) : Nat → Option V := fun i => if i ∈ as then none else match P i with
  | some v => some v
  | none => if isOwn (env.getD i .unb) = true then match σ[i]? with
    | some o => o
    | none => none
  else none
section
variable {X : Cx} {j : J}
theorem takes_noX : Takes X noX := fun u s' x => by
  obtain ⟨_, _, _, _, _, _, _, _, _, _, _, _, _, _, _, _, z⟩ := x
  exact z.elim
/-- except C: -/
theorem s_try_only {x : Str} {c : Value} {body suite : List Stmt} {b0 : Stmt} {np pos pos' : Pos} {mt : Str → Option Bool} {as : List Nat} {db : List D → O} {ds : Str → List D → List D → O} (hs : X.stack = X.env :: X.outer) (hf : X.env.frame = some X.env.locals) (hc : Names X x c)
    (tk : Takes X j.wx) (hpin : ∀ i ∈ as, j.e.P i = none) (hm : ∀ cn C b, X.mg cn = some (.ref C) → mt cn = some b → PySem.W.exmOne X.K (.ref C) c = some b)
    (hb : ∀ (W : WX) (pn : List (Addr × Obj)) (xe : Value → Shared → Prop), Takes (X.tr pn xe) W → PassesOwn (model X.prog X.w) X.A X.env xe → DSs (X.tr pn xe) ⟨j.e, W⟩ body db)
    (hsu : ∀ (a : Addr) (oe : Obj) (cls : Value) (d : Option Addr) (pn : List (Addr × Obj)) (es : Ent) (cn : Str) (fs : List D), Zc cls d oe → (∃ vs, oe.data = .fields vs) → (∀ i ∈ as, es.P i = none) → mt cn = some true → XR (mo X) es.F0 cn fs cls d →
      DSs (X.suite a ((a, oe) :: pn)) ⟨es, noX⟩ (b0 :: suite) (ds cn fs)) :
    DS X j (.Try body [.ExceptHandler (some (.Name x np)) none (b0 :: suite) pos'] [] [] pos) (tryD mt as db ds) := by
  refine PS.mono (ps_try_only (tb := fun W => tS (mo X) ⟨j.e, W⟩ db) (ts := fun a cls d Dn σ H => ∃ (es : Ent) (cn : Str) (fs : List D), (∀ i ∈ as, es.P i = none) ∧ mt cn = some true ∧ XR (mo X) es.F0 cn fs cls d ∧ tS (mo X) ⟨es, noX⟩ (ds cn fs) Dn σ H) hs hf hc tk hb
    (fun a oe cls d pn hz hf => ⟨fun pins s σ H Dn I ⟨es, cn, fs, h1, h2, h3, h4⟩ => (hsu a oe cls d pn es cn fs hz hf h1 h2 h3).run pins s σ H Dn I h4⟩)) fun Dn σ H ⟨W, F, env, rel, q⟩ => ⟨W, F, env, rel, ?_⟩
  have q : AtS (mo X) j F (tryD mt as db ds env) Dn := q
  unfold tryD at q
  cases o : db env with
  | nx e1 => rw [o] at q; exact q
  | rt d e1 => rw [o] at q; exact q
  | bk e1 => rw [o] at q; exact q
  | ct e1 => rw [o] at q; exact q
  | bad => rw [o] at q; exact q
  | ex cn fs env1 =>
    rw [o] at q
    intro W' F' H' σ' cls dd r xF xr
    obtain ⟨C, rfl, hC, hx⟩ := id xr
    simp only at q
    cases om : mt cn with
    | none => rw [om] at q; exact q.elim
    | some b =>
      rw [om] at q
      refine ⟨b, hm cn C b hC om, fun hb1 a na => ?_, fun hb1 => ?_⟩
      · subst hb1
        simp only at q
        by_cases ha : as.all (fun i => !ownd (env1.getD i .unb)) = true
        · rw [if_pos ha] at q
          have pb1 : ∀ i v, suiteP as j.e.P env1 σ' i = some v → σ'[i]? = some (some v) := fun i v h => by
            unfold suiteP at h
            by_cases hi : i ∈ as
            · rw [if_pos hi] at h
              cases h
            · rw [if_neg hi] at h
              cases z : j.e.P i with
              | some v' =>
                rw [z] at h
                cases h
                exact r.pin i v z
              | none =>
                rw [z] at h
                simp only at h
                split at h
                · cases y : σ'[i]? with
                  | none => rw [y] at h; cases h
                  | some o => rw [y] at h; exact congrArg some h
                · cases h
          have rB := r.inB (pb := suiteP as j.e.P env1 σ') pb1 fun i d h1 h2 h3 z => by
            have hd : env1.getD i .unb = d := by rw [List.getD_eq_getElem?_getD, h1]; rfl
            have hna : i ∉ as := fun hi => by
              have := List.all_eq_true.mp ha i hi
              rw [hd] at this
              cases d with
              | ml l => exact absurd this (by unfold ownd; simp)
              | mi c l => exact absurd this (by unfold ownd; simp)
              | unb => exact h3 rfl
              | _ => exact absurd h2 (by unfold isOwn; simp)
            obtain ⟨v, h4, _⟩ := r.slot i d h1 h3
            unfold suiteP at z
            rw [if_neg hna] at z
            cases y : j.e.P i with
            | some v' => rw [y] at z; cases z
            | none =>
              rw [y, hd] at z
              simp only at z
              rw [if_pos h2, h4] at z
              cases z
          refine ⟨_, cn, fs, fun i hi => if_pos hi, om, xr, _, F', env1, rB, ?_⟩
          have back : ∀ {W2 F2 H2 env2 σ2}, Rel (mo X) ⟨H', F', blkW (suiteP as j.e.P env1 σ') W', suiteP as j.e.P env1 σ'⟩ W2 F2 H2 env2 σ2 → Rel (mo X) j.e W2 F2 H2 env2 σ2 := fun r2 => Rel.outB r.toRelB r2 fun i v h => by
            unfold suiteP
            rw [if_neg (fun hi => by rw [hpin i hi] at h; cases h), h]
          cases os : ds cn fs env1 with
          | nx e2 => rw [os] at q; exact fun W2 F2 H2 σ2 r2 x2 => q W2 F2 H2 σ2 (back r2) (xF.trans x2)
          | rt d e2 => rw [os] at q; exact fun W2 F2 H2 σ2 v r2 p2 => q W2 F2 H2 σ2 v (back r2) p2
          | bk e2 => rw [os] at q; exact fun W2 F2 H2 σ2 r2 x2 => q W2 F2 H2 σ2 (back r2) (xF.trans x2)
          | ct e2 => rw [os] at q; exact fun W2 F2 H2 σ2 r2 x2 => q W2 F2 H2 σ2 (back r2) (xF.trans x2)
          | ex c2 f2 e2 => rw [os] at q; exact q.elim
          | bad => rw [os] at q; exact q
        · rw [if_neg ha] at q
          exact q.elim
      · subst hb1
        exact q W' F' H' σ' (.ref C) dd r xF xr
end
end DL
namespace DL
open PySem PySem.Spec PyProof.Rows L2
/-! ## isinstance, a built-in type -/
def tyD : D → Option String
  | .non => some "NoneType"
  | .bl _ => some "bool"
  | .int _ => some "int"
  | .str _ => some "str"
  | .tup _ => some "tuple"
  | .lst _ => some "list"
  | _ => none
def isB (t T : String) : Bool := decide (t = T) || (decide (t = "bool") && decide (T = "int"))
def isiD (T : String) (d : D) : Option D := (tyD d).map fun t => .bl (isB t T)
def tyNames : List String := ["NoneType", "bool", "int", "str", "tuple", "list"]
theorem kit_tuple : ∀ t ∈ tyNames, kitB t "tuple" = some (isB t "tuple") := by decide +kernel
theorem kit_list : ∀ t ∈ tyNames, kitB t "list" = some (isB t "list") := by decide +kernel
theorem kit_int : ∀ t ∈ tyNames, kitB t "int" = some (isB t "int") := by decide +kernel
theorem kit_bool : ∀ t ∈ tyNames, kitB t "bool" = some (isB t "bool") := by decide +kernel
theorem kit_str : ∀ t ∈ tyNames, kitB t "str" = some (isB t "str") := by decide +kernel
theorem Rp.ty {M : Mo} {F H : Hp} {d : D} {v : V} (x : Ex F H) (h : Rp M F d v) {t : String} (e : tyD d = some t) : TyX M.K H v (.type t) ∧ t ∈ tyNames := by
  cases h with
  | non => cases e; exact ⟨.base .non, by decide⟩
  | bl b => cases e; exact ⟨.base (.bl b), by decide⟩
  | int i => cases e; exact ⟨.base (.int i), by decide⟩
  | str s => cases e; exact ⟨.base (.str s), by decide⟩
  | tup h q =>
    cases e
    refine ⟨?_, by decide⟩
    rcases h with (h | ⟨o, h⟩) | h
    · exact .base (.tup (x _ _ h))
    · exact .fTuple (x _ _ h)
    · obtain ⟨_, _, _, h2, h1, _⟩ := h
      exact .kTuple h2 h1
  | lst h q =>
    cases e
    refine ⟨?_, by decide⟩
    rcases h with (h | ⟨o, h⟩) | h
    · exact .base (.lst (x _ _ h))
    · exact .base (.frz (x _ _ h))
    · obtain ⟨_, _, _, h2, h1, _⟩ := h
      exact .kList h2 h1
  | ins _ _ _ _ => cases e
section
variable {X : Cx} {j : J} {a b c e : Expr} {es : List Expr} {pos p q : Pos} {da db : List D → R D}
theorem e_isT {T : String} {x : Str} (hT : ∀ t ∈ tyNames, kitB t T = some (isB t T)) (hg : Gl X "isinstance") (hm : X.mg "isinstance" = none) (hg2 : Gl X x) (hm2 : X.mg x = none) (hv : bootBuiltins x = some (.type T)) (ha : DE X j a da)
    (hn2 : x ≠ "__name__" := by decide) (hd2 : (x == ("__debug__" : Str)) = false := by decide) (he : starEach [a, .Name x q] X.env = (false, eval a X.env) :: starEach [.Name x q] X.env := by rfl) (hpl : (backTo pos (starEach [.Name x q] X.env)).any (·.1) = false := by rfl) :
    DE X j (.Call (.Name "isinstance" p) [a, .Name x q] [] pos) (unD (isiD T) da) :=
  PE.mono (pe_callB (call_isi (X := X)) hg hm (by rfl) (pa_cons ha (pa_cons (pe_bltn (v := .ty T) hg2 hm2 hv rfl hn2 hd2) pa_nil) he) (by decide) (by decide) he hpl) fun σ H Q ⟨W, F, env, rel, q⟩ => ⟨W, F, env, rel, At.bind q fun d env1 W1 F1 H1 v _ r1 x1 p1 q1 => by
    unfold isiD at q1
    cases o : tyD d with
    | none => rw [o] at q1; exact q1.elim
    | some t =>
      rw [o] at q1
      obtain ⟨h1, h2⟩ := p1.ty r1.exF o
      exact ⟨v, .ty T, .type t, .type T, isB t T, rfl, .ty T, h1, kit_ty (hT t h2), q1 W1 F1 H1 _ r1 (Ex.refl F1) (.bl _)⟩⟩
/-! ## calls by keywords -/
/-- the arguments, as they are written: those by place, then those by name -/
theorem k_nil : PK X [] (fun σ H Q => tR (mo X) j.e j.wx (RaL (mo X) σ) nilA σ H Q) := ⟨fun ps pins s σ H Q I ⟨W, F, env, rel, q⟩ => pk_nil.run ps pins s σ H Q I (q W F H [] rel (Ex.refl F) rfl)⟩
theorem k_cons {kws : List Keyword} {nm : Option Str} {kp : Pos} {dr : List D → R (List Ar)} (ha : DE X j a da) (hr : PK X kws (fun σ H Q => tR (mo X) j.e j.wx (RaL (mo X) σ) dr σ H Q)) : PK X (⟨nm, a, kp⟩ :: kws) (fun σ H Q => tR (mo X) j.e j.wx (RaL (mo X) σ) (consA da dr) σ H Q) :=
  ⟨fun ps pins s σ H Q I ⟨W, F, env, rel, q⟩ => (pk_cons ha hr).run ps pins s σ H Q I ⟨W, F, env, rel, At.bind q fun d env1 W1 F1 H1 v _ r1 x1 p1 q1 => ⟨W1, F1, env1, r1, At.bind q1 fun d2 env2 W2 F2 H2 v2 _ r2 x2 p2 q2 =>
    q2 W2 F2 H2 (v :: v2) r2 (Ex.refl F2) ⟨v, v2, rfl, p1.mono x2, p2⟩⟩⟩⟩
/-- put in the parameters' order -/
def ordA {α : Type} (g : List Nat) (as : List α) : List α := g.filterMap fun i => as[i]?
structure KP (K : PySem.W.Frag) (fd : FuncData) (ps ks : List Str) (n : Nat) (g : List Nat) : Prop where
  to : ∀ (s : Shared) (us ws : List Value), K.In s.heap → us.length = n → ws.length = ks.length → BindsTo s fd ⟨us, ks.zip ws⟩ (ps.zip (ordA g (us ++ ws)))
def permA (g : List Nat) (n m : Nat) (da dk : List D → R (List Ar)) : List D → R (List Ar) := fun env => bindR (da env) fun as env1 => bindR (dk env1) fun ks env2 => if as.length = n ∧ ks.length = m then .ok (ordA g (as ++ ks)) env2 else .bad
theorem RaL.append {M : Mo} {σ : L2.St} {F : Hp} : ∀ {as bs : List Ar} {vs ws : List V}, RaL M σ F as vs → RaL M σ F bs ws → RaL M σ F (as ++ bs) (vs ++ ws)
  | [], _, _, _, h, k => by
    cases (show _ = _ from h)
    exact k
  | .v d :: as, _, _, _, ⟨v, r, e, p, q⟩, k => by
    subst e
    exact ⟨v, _, rfl, p, RaL.append q k⟩
  | .io i :: as, _, _, _, ⟨v, r, e, p, q⟩, k => by
    subst e
    exact ⟨v, _, rfl, p, RaL.append q k⟩
theorem RaL.get {M : Mo} {σ : L2.St} {F : Hp} : ∀ {as : List Ar} {vs : List V} (i : Nat), RaL M σ F as vs → (as[i]? = none ∧ vs[i]? = none) ∨ ∃ x v, as[i]? = some x ∧ vs[i]? = some v ∧ RaL M σ F [x] [v]
  | [], vs, i, h => by
    cases (show vs = [] from h)
    exact .inl ⟨by simp, by simp⟩
  | .v d :: as, vs, i, ⟨v, r, e, p, q⟩ => by
    subst e
    cases i with
    | zero => exact .inr ⟨_, _, rfl, rfl, v, [], rfl, p, rfl⟩
    | succ i => simpa using RaL.get i q
  | .io k :: as, vs, i, ⟨v, r, e, p, q⟩ => by
    subst e
    cases i with
    | zero => exact .inr ⟨_, _, rfl, rfl, v, [], rfl, p, rfl⟩
    | succ i => simpa using RaL.get i q
theorem RaL.ord {M : Mo} {σ : L2.St} {F : Hp} {as : List Ar} {vs : List V} (h : RaL M σ F as vs) : ∀ g : List Nat, RaL M σ F (ordA g as) (ordA g vs)
  | [] => rfl
  | i :: g => by
    have r := RaL.ord h g
    rcases h.get i with ⟨h1, h2⟩ | ⟨x, v, h1, h2, h3⟩
    · unfold ordA at r ⊢
      rw [List.filterMap_cons_none h1, List.filterMap_cons_none h2]
      exact r
    · unfold ordA at r ⊢
      rw [List.filterMap_cons_some h1, List.filterMap_cons_some h2]
      exact RaL.append (as := [x]) (vs := [v]) h3 r
theorem Vals.get {vs : List V} {us : List Value} (h : Vals vs us) (i : Nat) : (vs[i]? = none ∧ us[i]? = none) ∨ ∃ v u, vs[i]? = some v ∧ us[i]? = some u ∧ RelV v u := by
  induction h generalizing i with
  | nil => exact .inl ⟨by simp, by simp⟩
  | cons r t ih =>
    cases i with
    | zero => exact .inr ⟨_, _, rfl, rfl, r⟩
    | succ i => simpa using ih i
theorem vals_ord {vs : List V} {us : List Value} (h : Vals vs us) : ∀ g : List Nat, Vals (ordA g vs) (ordA g us)
  | [] => .nil
  | i :: g => by
    have r := vals_ord h g
    unfold ordA at r ⊢
    rcases Vals.get h i with ⟨h1, h2⟩ | ⟨v, u, h1, h2, h3⟩
    · rw [List.filterMap_cons_none h1, List.filterMap_cons_none h2]
      exact r
    · rw [List.filterMap_cons_some h1, List.filterMap_cons_some h2]
      exact .cons h3 r
theorem KP.kbn {K : PySem.W.Frag} {fd : FuncData} {ps ks : List Str} {n : Nat} {g : List Nat} (h : KP K fd ps ks n g) : KBn K fd ps n ks (fun us ws => ordA g (us ++ ws)) (fun vs zs => ordA g (vs ++ zs)) :=
  ⟨fun s us ws X l1 l2 => h.to s us ws X l1 l2, fun r1 r2 => vals_ord (r1.append r2) g⟩
variable {k n : Nat} {f : Addr} {fd : FuncData} {ps ks : List Str} {io g : List Nat} {den : List D → FR} {kws : List Keyword} {dA dK : List D → R (List Ar)}
section
variable {CX : CXT} {E : L2.St → XK} {sp : Sp} {gg : List Value → List Value → List Value} {gV : List V → List V → List V}
/-- the run of such a call: what is wished of exceptions hangs on the slots -/
theorem run_kw {pins : List (Addr × Obj)} {σ : L2.St} {H : Hp} {s : Shared} {Q : VK} {us ws : List Value} {vs zs : List V} (F : FnOk X.prog X.w X.K X.mg X.base CX k f fd ps sp) (hr : Room k X.A) (hb : KBn X.K fd ps n ks gg gV) (hx : PassesAt CX X σ (E σ))
    (I : Inv X pins σ H s) (r : Vals vs us) (rz : Vals zs ws) (l1 : vs.length = n) (l2 : zs.length = ks.length) (h : sp (gV vs zs) H Q (E σ)) : wpAny (model X.prog X.w) X.A (call (.ref f) us (ks.zip ws)) (EP X pins σ Q) X.xe s := by
  have b := hb.to s us ws I.kIn (by rw [← r.length]; exact l1) (by rw [← rz.length]; exact l2)
  have run := F.run X.A X.stack s H ⟨us, ks.zip ws⟩ (gg us ws) (gV vs zs) Q (E σ) hr I.env0 b (hb.rel r rz) h
  refine wpAny_call (codeAny_mono run fun z s1 hz => ?_)
  cases z with
  | error x => exact hx pins H s x s1 I hz
  | ok fl =>
    cases fl with
    | ret u => exact I.after hz
    | next => exact hz.elim
    | brk => exact hz.elim
    | cont => exact hz.elim
def tKw (n m : Nat) (sp : Sp) (gV : List V → List V → List V) (E : L2.St → XK) (t tk : TA) : TE := fun σ H Q => t σ H fun vs H1 => tk σ H1 fun zs H2 => vs.length = n ∧ zs.length = m ∧ sp (gV vs zs) H2 Q (E σ)
variable {x : Str} {t tk : TA}
theorem pe_kw (F : FnOk X.prog X.w X.K X.mg X.base CX k f fd ps sp) (hr : Room k X.A) (hg : Gl X x) (hm : X.mg x = some (.ref f)) (hk : PySem.W.keepIn X.K (.ref f) = true) (hb : KBn X.K fd ps n ks gg gV) (hx : ∀ σ, PassesAt CX X σ (E σ))
    (ha : PA X (e :: es) t) (hkw : PK X kws tk) (hall : (backToKw pos (keywordEach kws X.env)).all (·.1.isSome) = true) (hks : (backToKw pos (keywordEach kws X.env)).filterMap (·.1) = ks)
    (hdb : (x == ("__debug__" : Str)) = false) (he : starEach (e :: es) X.env = (false, eval e X.env) :: starEach es X.env)
    (hpl : ((backTo pos (starEach (e :: es) X.env)).any (·.1) || (backToKw pos (keywordEach kws X.env)).any (·.1.isNone)) = false) :
    PE X (.Call (.Name x p) (e :: es) kws pos) (tKw n ks.length sp gV E t tk) := ⟨fun pins s σ H Q I h => by
  refine wpAny_Call_Name_kw (ld_glob I hg hm (PySem.W.callWith_KW (h₀ := X.base) I.ok.mod.kin hk hall (thn (ha.run pos pins s σ H _ I h) fun us s1 ⟨vs, H1, I1, r, q⟩ => ?_) hpl he) hdb)
  exact thn (hkw.run pos pins s1 σ H1 _ I1 q) fun ws s2 ⟨zs, H2, I2, rz, l1, l2, q2⟩ => ⟨I2.kIn, by rw [hks]; exact run_kw F hr hb (hx σ) I2 r rz l1 l2 q2⟩⟩
theorem pe_kw0 (F : FnOk X.prog X.w X.K X.mg X.base CX k f fd ps sp) (hr : Room k X.A) (hg : Gl X x) (hm : X.mg x = some (.ref f)) (hk : PySem.W.keepIn X.K (.ref f) = true) (hb : KBn X.K fd ps 0 ks gg gV) (hx : ∀ σ, PassesAt CX X σ (E σ))
    (hkw : PK X kws tk) (hall : (backToKw pos (keywordEach kws X.env)).all (·.1.isSome) = true) (hks : (backToKw pos (keywordEach kws X.env)).filterMap (·.1) = ks)
    (hdb : (x == ("__debug__" : Str)) = false) (hpl : ((backTo pos (starEach [] X.env)).any (·.1) || (backToKw pos (keywordEach kws X.env)).any (·.1.isNone)) = false) :
    PE X (.Call (.Name x p) [] kws pos) (tKw 0 ks.length sp gV E tNil tk) := ⟨fun pins s σ H Q I h => by
  refine wpAny_Call_Name_kw (ld_glob I hg hm (PySem.W.callWith_KW0 I.ok.mod.kin hk hall ?_ hpl) hdb)
  exact thn (hkw.run pos pins s σ H _ I h) fun ws s2 ⟨zs, H2, I2, rz, l1, l2, q2⟩ => ⟨I2.kIn, by rw [hks]; exact run_kw F hr hb (hx σ) I2 .nil rz l1 l2 q2⟩⟩
end
theorem permA_at {σ : L2.St} {Q : VK} {H : Hp} {W : Own} {F : Hp} {env : List D} {N m : Nat} {G : List D → FR} (lo : OutLen io G) (tk : Takes X j.wx) (rel : Rel (mo X) j.e W F H env σ) (q : AtO (mo X) j F σ (callO N io G (permA g n m dA dK) env) Q) :
    tR (mo X) j.e j.wx (RaL (mo X) σ) dA σ H fun vs H1 => tR (mo X) j.e j.wx (RaL (mo X) σ) dK σ H1 fun zs H2 => vs.length = n ∧ zs.length = m ∧ spD (mo X) N io G (ordA g (vs ++ zs)) H2 Q (WE j.wx σ) := by
  refine ⟨W, F, env, rel, ?_⟩
  have e : callO N io G (permA g n m dA dK) env = bindR (dA env) fun as env1 => bindR (dK env1) fun ks env2 => if as.length = n ∧ ks.length = m then callO N io G (fun env => .ok (ordA g (as ++ ks)) env) env2 else .bad := by
    unfold callO permA
    cases dA env with
    | ok as env1 =>
      show bindR (bindR (dK env1) _) _ = bindR (dK env1) _
      cases dK env1 with
      | ok ks env2 =>
        show bindR (if _ then _ else _) _ = if _ then _ else _
        by_cases hc : as.length = n ∧ ks.length = m
        · rw [if_pos hc, if_pos hc]
        · rw [if_neg hc, if_neg hc]
          rfl
      | _ => rfl
    | _ => rfl
  rw [e] at q
  refine AtO.bind q fun as env1 W1 F1 H1 vs _ r1 x1 p1 q1 => ⟨W1, F1, env1, r1, AtO.bind q1 fun bs env2 W2 F2 H2 zs _ r2 x2 p2 q2 => ?_⟩
  by_cases hc : as.length = n ∧ bs.length = m
  · rw [if_pos hc] at q2
    exact ⟨by rw [← ral_len p1]; exact hc.1, by rw [← ral_len p2]; exact hc.2, call_at lo r2 ((RaL.append (p1.mono x2) p2).ord g) q2⟩
  · rw [if_neg hc] at q2
    exact q2.elim
theorem o_callK {x : Str} {N : Nat} {G : List D → FR} (F : FnOk X.prog X.w X.K X.mg X.base (L2.CX X.prog X.w) k f fd ps (spD (mo X) N io G)) (hr : Room k X.A) (hm : X.mg x = some (.ref f)) (hk : PySem.W.keepIn X.K (.ref f) = true) (hb : KP X.K fd ps ks n g) (tk : Takes X j.wx) (lo : OutLen io G)
    (ha : DAr X j (e :: es) dA) (hkw : PK X kws (fun σ H Q => tR (mo X) j.e j.wx (RaL (mo X) σ) dK σ H Q)) (hg : Gl X x := by rfl) (hall : (backToKw pos (keywordEach kws X.env)).all (·.1.isSome) = true := by rfl) (hks : (backToKw pos (keywordEach kws X.env)).filterMap (·.1) = ks := by rfl)
    (hdb : (x == ("__debug__" : Str)) = false := by decide) (he : starEach (e :: es) X.env = (false, eval e X.env) :: starEach es X.env := by rfl)
    (hpl : ((backTo pos (starEach (e :: es) X.env)).any (·.1) || (backToKw pos (keywordEach kws X.env)).any (·.1.isNone)) = false := by rfl) :
    DO X j (.Call (.Name x p) (e :: es) kws pos) (callO N io G (permA g n ks.length dA dK)) :=
  PE.mono (pe_kw F hr hg hm hk hb.kbn (fun σ => passAt tk σ) ha hkw hall hks hdb he hpl) fun σ H Q ⟨W, F', env, rel, q⟩ => permA_at lo tk rel q
theorem o_callK0 {x : Str} {N : Nat} {G : List D → FR} (F : FnOk X.prog X.w X.K X.mg X.base (L2.CX X.prog X.w) k f fd ps (spD (mo X) N io G)) (hr : Room k X.A) (hm : X.mg x = some (.ref f)) (hk : PySem.W.keepIn X.K (.ref f) = true) (hb : KP X.K fd ps ks 0 g) (tk : Takes X j.wx) (lo : OutLen io G)
    (hkw : PK X kws (fun σ H Q => tR (mo X) j.e j.wx (RaL (mo X) σ) dK σ H Q)) (hg : Gl X x := by rfl) (hall : (backToKw pos (keywordEach kws X.env)).all (·.1.isSome) = true := by rfl) (hks : (backToKw pos (keywordEach kws X.env)).filterMap (·.1) = ks := by rfl)
    (hdb : (x == ("__debug__" : Str)) = false := by decide)
    (hpl : ((backTo pos (starEach [] X.env)).any (·.1) || (backToKw pos (keywordEach kws X.env)).any (·.1.isNone)) = false := by rfl) :
    DO X j (.Call (.Name x p) [] kws pos) (callO N io G (permA g 0 ks.length nilA dK)) :=
  PE.mono (pe_kw0 F hr hg hm hk hb.kbn (fun σ => passAt tk σ) hkw hall hks hdb hpl) fun σ H Q ⟨W, F', env, rel, q⟩ => by
    obtain ⟨W1, F1, env1, r1, q1⟩ := permA_at lo tk rel q
    exact q1 W1 F1 H [] r1 (Ex.refl F1) rfl
end
end DL
namespace DL
open PySem PySem.Spec PyProof.Rows L2
/-! ## try: .. except C as e: .. -/
/-- slot i holds something of which nothing is told -/
theorem Rel.putX {M : Mo} {e : Ent} {W : Own} {F H : Hp} {env : List D} {σ : L2.St} {i : Nat} (r : Rel M e W F H env σ) (w : Option V) (hp : e.P i = none) : Rel M e W F H (env.set i .unb) (σ.set i w) where
  toRelB := r.toRelB
  len := by rw [List.length_set, List.length_set, r.len]
  slot := fun k d h1 h2 => by
    by_cases h : i = k
    · subst h
      rw [List.getElem?_set] at h1
      rw [if_pos rfl] at h1
      split at h1
      · exact absurd (Option.some.inj h1).symm h2
      · cases h1
    · rw [List.getElem?_set_ne h] at h1
      rw [List.getElem?_set_ne h]
      exact r.slot k d h1 h2
  pin := fun k v h => by
    rw [List.getElem?_set_ne (fun z => by rw [z, h] at hp; cases hp)]
    exact r.pin k v h
def goneO (i : Nat) : O → O
  | .nx e2 => .nx (e2.set i .unb)
  | .bk e2 => .bk (e2.set i .unb)
  | .ct e2 => .ct (e2.set i .unb)
  | r => r
def tryAsD (i : Nat) (mt : Str → Option Bool) (as : List Nat) (db : List D → O) (ds : Str → List D → List D → O) : List D → O := fun env => match db env with
  | .ex c fs env1 => match mt c with
    | some true => if (as.all (fun i => !ownd (env1.getD i .unb)) && decide (i < env1.length)) = true then goneO i (noEx (ds c fs (env1.set i .unb))) else .bad
    | some false => .ex c fs env1
    | none => .bad
  | r => r
/-- what a suite may know of the caught thing -/
structure Caught (X : Cx) (es : Ent) (i : Nat) (a : Addr) (oe : Obj) (cn : Str) (fs : List D) (cls : Value) (d : Option Addr) : Prop where
  zc : Zc cls d oe
  fl : ∃ vs, oe.data = .fields vs
  pin : es.P i = some (.ref a)
  xr : XR (mo X) es.F0 cn fs cls d
section
variable {X : Cx} {j : J}
theorem s_try_as (i : Nat) {n x : Str} {c : Value} {body suite : List Stmt} {b0 : Stmt} {np pos pos' : Pos} {mt : Str → Option Bool} {as : List Nat} {db : List D → O} {ds : Str → List D → List D → O} (hs : X.stack = X.env :: X.outer) (hf : X.env.frame = some X.env.locals) (hN : X.N.Nodup) (hc : Names X x c)
    (tk : Takes X j.wx) (hpin : ∀ k ∈ i :: as, j.e.P k = none) (hm : ∀ cn C b, X.mg cn = some (.ref C) → mt cn = some b → PySem.W.exmOne X.K (.ref C) c = some b)
    (hb : ∀ (W : WX) (pn : List (Addr × Obj)) (xe : Value → Shared → Prop), Takes (X.tr pn xe) W → PassesOwn (model X.prog X.w) X.A X.env xe → DSs (X.tr pn xe) ⟨j.e, W⟩ body db)
    (hsu : ∀ (a : Addr) (oe : Obj) (cls : Value) (d : Option Addr) (pn : List (Addr × Obj)) (es : Ent) (cn : Str) (fs : List D), Caught X es i a oe cn fs cls d → (∀ k ∈ as, es.P k = none) → mt cn = some true →
      DSs (X.suite a ((a, oe) :: pn)) ⟨es, noX⟩ (b0 :: suite) (ds cn fs)) (hi : X.N[i]? = some n := by rfl) (hln : X.env.kindOf n = some .local := by rfl) (hia : i ∉ as := by decide) :
    DS X j (.Try body [.ExceptHandler (some (.Name x np)) (some n) (b0 :: suite) pos'] [] [] pos) (tryAsD i mt as db ds) := by
  refine PS.mono (ps_try_as (tb := fun W => tS (mo X) ⟨j.e, W⟩ db) (ts := fun a cls d Dn σ H => ∃ (es : Ent) (cn : Str) (fs : List D), es.P i = some (.ref a) ∧ (∀ k ∈ as, es.P k = none) ∧ mt cn = some true ∧ XR (mo X) es.F0 cn fs cls d ∧ tS (mo X) ⟨es, noX⟩ (ds cn fs) Dn σ H) hs hf hN hi hln hc tk hb
    (fun a oe cls d pn hz hf => ⟨fun pins s σ H Dn I ⟨es, cn, fs, h0, h1, h2, h3, h4⟩ => (hsu a oe cls d pn es cn fs ⟨hz, hf, h0, h3⟩ h1 h2).run pins s σ H Dn I h4⟩)) fun Dn σ H ⟨W, F, env, rel, q⟩ => ⟨W, F, env, rel, ?_⟩
  have q : AtS (mo X) j F (tryAsD i mt as db ds env) Dn := q
  unfold tryAsD at q
  have hpi : j.e.P i = none := hpin i List.mem_cons_self
  have hpa : ∀ k ∈ as, j.e.P k = none := fun k hk => hpin k (List.mem_cons_of_mem _ hk)
  cases o : db env with
  | nx e1 => rw [o] at q; exact q
  | rt d e1 => rw [o] at q; exact q
  | bk e1 => rw [o] at q; exact q
  | ct e1 => rw [o] at q; exact q
  | bad => rw [o] at q; exact q
  | ex cn fs env1 =>
    rw [o] at q
    intro W' F' H' σ' cls dd r xF xr
    obtain ⟨C, rfl, hC, hx⟩ := id xr
    simp only at q
    cases om : mt cn with
    | none => rw [om] at q; exact q.elim
    | some b =>
      rw [om] at q
      refine ⟨b, hm cn C b hC om, fun hb1 a na => ?_, fun hb1 => ?_⟩
      · subst hb1
        simp only at q
        by_cases ha : (as.all (fun i => !ownd (env1.getD i .unb)) && decide (i < env1.length)) = true
        · rw [if_pos ha] at q
          obtain ⟨ha, hlt⟩ := Bool.and_eq_true_iff.mp ha
          have hlt := of_decide_eq_true hlt
          have r1 : Rel (mo X) j.e W' F' H' (env1.set i .unb) (σ'.set i (some (.ref a))) := r.putX (some (.ref a)) hpi
          have hsi : (σ'.set i (some (V.ref a)))[i]? = some (some (.ref a)) := List.getElem?_set_self (by rw [← r.len]; exact hlt)
          generalize hσ : σ'.set i (some (V.ref a)) = σ1 at r1 hsi ⊢
          generalize henv : env1.set i D.unb = env2 at r1 q ⊢
          let pb : Nat → Option V := fun k => if k = i then some (.ref a) else suiteP as j.e.P env2 σ1 k
          have pbi : pb i = some (.ref a) := if_pos rfl
          have pbn : ∀ k, k ≠ i → pb k = suiteP as j.e.P env2 σ1 k := fun k h => if_neg h
          have pb1 : ∀ k v, pb k = some v → σ1[k]? = some (some v) := fun k v h => by
            by_cases hk : k = i
            · subst hk
              rw [pbi] at h
              rw [← h]
              exact hsi
            · rw [pbn k hk] at h
              unfold suiteP at h
              by_cases hi : k ∈ as
              · rw [if_pos hi] at h
                cases h
              · rw [if_neg hi] at h
                cases z : j.e.P k with
                | some v' =>
                  rw [z] at h
                  cases h
                  exact r1.pin k v z
                | none =>
                  rw [z] at h
                  simp only at h
                  split at h
                  · cases y : σ1[k]? with
                    | none => rw [y] at h; cases h
                    | some o => rw [y] at h; exact congrArg some h
                  · cases h
          have own2 : ∀ k d, env2[k]? = some d → d ≠ .unb → k ≠ i ∧ env1[k]? = some d := fun k d h1 h2 => by
            rw [← henv] at h1
            by_cases hk : i = k
            · subst hk
              rw [List.getElem?_set_self hlt] at h1
              exact absurd (Option.some.inj h1).symm h2
            · rw [List.getElem?_set_ne hk] at h1
              exact ⟨fun z => hk z.symm, h1⟩
          have rB := r1.inB (pb := pb) pb1 fun k d h1 h2 h3 z => by
            obtain ⟨hk, h1'⟩ := own2 k d h1 h3
            have hd : env1.getD k .unb = d := by rw [List.getD_eq_getElem?_getD, h1']; rfl
            have hd2 : env2.getD k .unb = d := by rw [List.getD_eq_getElem?_getD, h1]; rfl
            have hna : k ∉ as := fun hi => by
              have := List.all_eq_true.mp ha k hi
              rw [hd] at this
              cases d with
              | ml l => exact absurd this (by unfold ownd; simp)
              | mi c l => exact absurd this (by unfold ownd; simp)
              | unb => exact h3 rfl
              | _ => exact absurd h2 (by unfold isOwn; simp)
            obtain ⟨v, h4, _⟩ := r1.slot k d h1 h3
            rw [pbn k hk] at z
            unfold suiteP at z
            rw [if_neg hna] at z
            cases y : j.e.P k with
            | some v' => rw [y] at z; cases z
            | none =>
              rw [y, hd2] at z
              simp only at z
              rw [if_pos h2, h4] at z
              cases z
          refine ⟨_, cn, fs, pbi, fun k hk => ?_, om, xr, _, F', env2, rB, ?_⟩
          · show pb k = none
            rw [pbn k (fun z => hia (z ▸ hk))]
            exact if_pos hk
          · have back : ∀ {W2 F2 H2 env3 σ2}, Rel (mo X) ⟨H', F', blkW pb W', pb⟩ W2 F2 H2 env3 σ2 → Rel (mo X) j.e W2 F2 H2 env3 σ2 := fun r2 => Rel.outB r1.toRelB r2 fun k v h => by
              have hk : k ≠ i := fun z => by
                rw [z, hpi] at h
                cases h
              rw [pbn k hk]
              unfold suiteP
              rw [if_neg (fun hi => by rw [hpa k hi] at h; cases h), h]
            cases os : ds cn fs env2 with
            | nx e2 => rw [os] at q; exact fun W2 F2 H2 σ2 r2 x2 => q W2 F2 H2 _ ((back r2).putX none hpi) (xF.trans x2)
            | rt d e2 => rw [os] at q; exact fun W2 F2 H2 σ2 v r2 p2 => q W2 F2 H2 σ2 v (back r2) p2
            | bk e2 => rw [os] at q; exact fun W2 F2 H2 σ2 r2 x2 => q W2 F2 H2 _ ((back r2).putX none hpi) (xF.trans x2)
            | ct e2 => rw [os] at q; exact fun W2 F2 H2 σ2 r2 x2 => q W2 F2 H2 _ ((back r2).putX none hpi) (xF.trans x2)
            | ex c2 f2 e2 => rw [os] at q; exact q.elim
            | bad => rw [os] at q; exact q
        · rw [if_neg ha] at q
          exact q.elim
      · subst hb1
        exact q W' F' H' σ' (.ref C) dd r xF xr
/-- isinstance(e, C) of what is caught, C a class of the program or a built-in one; no fields -/
theorem e_isE (i : Nat) {x : Str} {cV : V} {cv : Value} {C : Addr} {b : Bool} {a : Addr} {oe : Obj} {cn : Str} {es : Ent} {pn : List (Addr × Obj)} {wx : WX} {c : Expr} {p q pos : Pos} {dd : Option Addr} (hc : Caught X es i a oe cn [] (.ref C) dd) (T : ExcC X.K C) (hd : dd = none) (hg : Gl X "isinstance") (hm : X.mg "isinstance" = none)
    (hx : PE (X.suite a ((a, oe) :: pn)) (.Name x p) (tVar i)) (hcv : PE (X.suite a ((a, oe) :: pn)) c (tC cV)) (hr : ∀ u, RelV cV u → u = cv) (hk : PySem.W.kitOne X.K (.ref C) cv = some b)
    (hs2 : starEach [c] X.env = (false, eval c X.env) :: starEach [] X.env := by rfl) (he : starEach [.Name x p, c] X.env = (false, eval (.Name x p) X.env) :: starEach [c] X.env := by rfl) (hpl : (backTo pos (starEach [c] X.env)).any (·.1) = false := by rfl) :
    DE (X.suite a ((a, oe) :: pn)) ⟨es, wx⟩ (.Call (.Name "isinstance" q) [.Name x p, c] [] pos) (constD (.bl b)) := by
  subst hd
  refine PE.mono (pe_callB (call_isE T hc.zc hc.fl) hg hm (by rfl) (pa_cons hx (pa_cons hcv pa_nil hs2) he) (by decide) (by decide) he hpl) fun σ H Q ⟨W, F, env, rel, q⟩ => ?_
  exact ⟨.ref a, rel.pin i _ hc.pin, cV, cv, b, rfl, hr, hk, q W F H _ rel (Ex.refl F) (.bl b)⟩
end
end DL
namespace DL
open PySem PySem.Spec PyProof.Rows L2
/-! ## a module's defs, by what the head tells of them -/
/-- THE RULE of a def that the head tells of -/
theorem fn_denD {P : Program} {w : World} {K : PySem.W.Frag} {mg : Str → Option Value} {base : Heap} {x qual : Str} {params : Arguments} {body : List Stmt} {scope : Scope} {dvs : List V} {kws : List (Str × V)} {f : Addr} {fd : FuncData} {N ps : List Str} {k : Nat} {io : List Nat} {den : List D → O}
    (F : FunD K x qual params body scope dvs kws f fd) (S : FnScope N ps scope) (hio : ∀ i ∈ io, i < ps.length)
    (hbody : ∀ (cdv : Value) (A : Around) (outer : List Env) (s : Shared) (H : Hp) (E : XK) (j : J), Room k (A.deeper (envOfC qual scope s.heap.objs.size f cdv)) →
      Wf (cxOf (L2.CX P w) P w K mg base N qual scope f cdv A outer s H E) j io → DSs (cxOf (L2.CX P w) P w K mg base N qual scope f cdv A outer s H E) j body den) :
    FnOk P w K mg base (L2.CX P w) (k + 1) f fd ps (spD ⟨K, mg⟩ ps.length io (runD N.length io den)) := by
  refine F.ok S (fun vs H Q E h => ?_) (fun cdv A outer s H vs Q E hr h => ?_)
  · obtain ⟨_, _, _, h, _⟩ := h
    exact h
  · obtain ⟨W, F, ds, hv, hl, rb, sl, q⟩ := h
    have hN : ps.length ≤ N.length := by
      have := congrArg List.length S.pre
      rw [List.length_take] at this
      omega
    have hio' : ∀ i ∈ io, i < vs.length := fun i h => by
      rw [hv]
      exact hio i h
    refine ⟨_, hbody cdv A outer s H E ⟨⟨H, F, W, pinOf io vs⟩, fun cls dd _ H' => E cls dd H'⟩ hr ⟨S.nd, rfl, takes_of rfl rfl rfl rfl, passes_of rfl, fun i hi => if_neg hi⟩, W, F, ds ++ List.replicate (N.length - ds.length) .unb, ⟨rb, ?_, fun i d h1 h2 => ?_, fun i v h1 => ?_⟩, ?_⟩
    · show (ds ++ _).length = (L2.start N vs).length
      unfold L2.start
      simp only [List.length_append, List.length_replicate, List.length_map, hl, hv]
    · unfold L2.start
      by_cases hi : i < ds.length
      · rw [List.getElem?_append_left hi] at h1
        obtain ⟨_, v, h3, h4⟩ := sl i d h1
        refine ⟨v, ?_, h4⟩
        rw [List.getElem?_append_left (by rw [List.length_map, hv, ← hl]; exact hi), List.getElem?_map, h3] <;> rfl
      · rw [List.getElem?_append_right (by omega), List.getElem?_replicate] at h1
        split at h1
        · exact absurd (Option.some.inj h1).symm h2
        · cases h1
    · have h1 : pinOf io vs i = some v := h1
      unfold pinOf at h1
      split at h1
      · have hi : i < vs.length := (List.getElem?_eq_some_iff.mp h1).1
        unfold L2.start
        rw [List.getElem?_append_left (by rw [List.length_map]; exact hi), List.getElem?_map, h1] <;> rfl
      · cases h1
    · unfold runD at q
      cases o : den (ds ++ List.replicate (N.length - ds.length) .unb) with
      | nx env =>
        rw [o] at q
        exact fun W' F' H' σ' r _ => q W' F' H' .non r.toRelB (.fz .non) (outs_rel r hio')
      | rt d env =>
        rw [o] at q
        exact fun W' F' H' σ' v r p => q W' F' H' v r.toRelB p (outs_rel r hio')
      | ex c fs env =>
        rw [o] at q
        exact fun W' F' H' σ' cls dd r _ p => q W' F' H' cls dd r.toRelB p (outs_rel r hio')
      | bk env => rw [o] at q; exact q.elim
      | ct env => rw [o] at q; exact q.elim
      | bad => rw [o] at q; exact q.elim
/-- what the head tells, and where the names lie -/
structure Ctx (fa : List He.Fa) (fn : List He.DefD) (ex : PySem.W.Frag → Bool) (K : PySem.W.Frag) (mg : Str → Option Value) : Prop where
  h : ∃ h : Heap, K.In h ∧ h.Ns mainGlobals mg
  d : He.SaysD fa fn K
  ex : ex K = true
section
variable {fa : List He.Fa} {fn : List He.DefD} {ex : PySem.W.Frag → Bool} {K : PySem.W.Frag} {mg : Str → Option Value} {P : Program} {w : World} {base : Heap}
theorem Ctx.glo (c : Ctx fa fn ex K mg) (i : Nat) {x : Str} (e : fa[i]? = some (.glo x) := by rfl) : mg x = some (.ref (He.ga K x)) := by
  obtain ⟨h, X, G⟩ := c.h
  exact He.glo_ok X G (c.d.fact i e)
theorem Ctx.free (c : Ctx fa fn ex K mg) (i : Nat) {x : Str} (e : fa[i]? = some (.free x) := by rfl) : mg x = none := by
  obtain ⟨h, X, G⟩ := c.h
  exact He.free_ok X G (c.d.fact i e)
theorem Ctx.int (c : Ctx fa fn ex K mg) (i : Nat) {x : Str} {n : Int} (e : fa[i]? = some (.int x n) := by rfl) : ∃ t, mg x = some (.int n t) := by
  obtain ⟨h, X, G⟩ := c.h
  exact He.int_ok X G (c.d.fact i e)
theorem Ctx.str (c : Ctx fa fn ex K mg) (i : Nat) {x n : Str} (e : fa[i]? = some (.str x n) := by rfl) : ∃ t, mg x = some (.str n t) := by
  obtain ⟨h, X, G⟩ := c.h
  exact He.str_ok X G (c.d.fact i e)
theorem Ctx.exm (c : Ctx fa fn ex K mg) (i : Nat) {x y : Str} {b : Bool} (e : fa[i]? = some (.exm x y b) := by rfl) : PySem.W.exmOne K (.ref (He.ga K x)) (.ref (He.ga K y)) = some b := He.exm_ok (c.d.fact i e)
/-- an exception class of no fields: at i as a global, at k as an exception -/
theorem Ctx.xk0 (c : Ctx fa fn ex K mg) (i k : Nat) {x : Str} (e : fa[i]? = some (.glo x) := by rfl) (e2 : fa[k]? = some (.exc x) := by rfl) : XK0 ⟨K, mg⟩ x (He.ga K x) := by
  obtain ⟨h1, h2, h3, h4⟩ := He.exc_ok (c.d.fact k e2)
  exact ⟨c.glo i e, h1, h2, h3, h4⟩
end
/-- a def that is walked -/
structure Df (P : Program) (w : World) (K : PySem.W.Frag) (mg : Str → Option Value) (base : Heap) (d : He.DefD) (fd : FuncData) (ps : List Str) (io : List Nat) (g : List D → FR) (k : Nat) : Prop where
  fn : FunD K d.name d.qual d.params d.body d.scope (d.dvs K) (d.kws K) (He.fAd K d.at_) fd
  ok : FnOk P w K mg base (L2.CX P w) k (He.fAd K d.at_) fd ps (spD ⟨K, mg⟩ ps.length io g)
  lo : OutLen io g
  bd : Binds K fd ps []
theorem FunD.kp0 {K : PySem.W.Frag} {x qual : Str} {params : Arguments} {body : List Stmt} {scope : Scope} {kws : List (Str × V)} {f : Addr} {fd : FuncData} {ps ks : List Str} {n : Nat} {g : List Nat} (F : FunD K x qual params body scope [] kws f fd)
    (h : ∀ (kV doc pm : Value) (an : Option Addr) (cdv ct : Value) (us ws : List Value), us.length = n → ws.length = ks.length → bindArgs (PySem.W.fnOf x qual params body scope .none kV doc pm an cdv ct) ⟨us, ks.zip ws⟩ = pure (ps.zip (ordA g (us ++ ws)))) : KP K fd ps ks n g := by
  obtain ⟨oc, od, dV, kV, doc, pm, an, cdv, ct, osl, rfl, lk, hcd, hD, hK⟩ := F.ex
  rcases hD with ⟨_, rfl⟩ | ⟨e, _⟩
  · exact ⟨fun s us ws _ l1 l2 => .of_eq (h kV doc pm an cdv ct us ws l1 l2)⟩
  · exact absurd rfl e
section
variable {X : Cx} {j : J} {d : He.DefD} {fd : FuncData} {ps ks : List Str} {io g : List Nat} {G : List D → FR} {k m n N nk : Nat} {x : Str} {p pos : Pos} {e : Expr} {es : List Expr} {kws : List Keyword} {da dA dK : List D → R (List Ar)}
/-- f(..), f a def of the module -/
theorem o_fn (F : Df X.prog X.w X.K X.mg X.base d fd ps io G k) (hr : Room m X.A) (hm : X.mg x = some (.ref (He.fAd X.K d.at_))) (tk : Takes X j.wx) (ha : DAr X j (e :: es) da) (hn : ps.length = n := by rfl) (hk : k ≤ m := by decide)
    (hg : Gl X x := by rfl) (hdb : (x == ("__debug__" : Str)) = false := by decide) (he : starEach (e :: es) X.env = (false, eval e X.env) :: starEach es X.env := by rfl) (hpl : (backTo pos (starEach es X.env)).any (·.1) = false := by rfl) :
    DO X j (.Call (.Name x p) (e :: es) [] pos) (callO n io G da) := hn ▸ o_call F.ok (hr.mono hk) hm F.fn.kp F.bd tk F.lo ha hg hdb he hpl
theorem o_fnK (F : Df X.prog X.w X.K X.mg X.base d fd ps io G k) (hr : Room m X.A) (hm : X.mg x = some (.ref (He.fAd X.K d.at_))) (hb : KP X.K fd ps ks n g) (tk : Takes X j.wx)
    (ha : DAr X j (e :: es) dA) (hkw : PK X kws (fun σ H Q => tR (mo X) j.e j.wx (RaL (mo X) σ) dK σ H Q)) (hn : ps.length = N := by rfl) (hl : ks.length = nk := by rfl) (hk : k ≤ m := by decide) (hg : Gl X x := by rfl) (hall : (backToKw pos (keywordEach kws X.env)).all (·.1.isSome) = true := by rfl) (hks : (backToKw pos (keywordEach kws X.env)).filterMap (·.1) = ks := by rfl)
    (hdb : (x == ("__debug__" : Str)) = false := by decide) (he : starEach (e :: es) X.env = (false, eval e X.env) :: starEach es X.env := by rfl)
    (hpl : ((backTo pos (starEach (e :: es) X.env)).any (·.1) || (backToKw pos (keywordEach kws X.env)).any (·.1.isNone)) = false := by rfl) :
    DO X j (.Call (.Name x p) (e :: es) kws pos) (callO N io G (permA g n nk dA dK)) := by
  subst hn
  subst hl
  exact o_callK F.ok (hr.mono hk) hm F.fn.kp hb tk F.lo ha hkw hg hall hks hdb he hpl
theorem o_fnK0 (F : Df X.prog X.w X.K X.mg X.base d fd ps io G k) (hr : Room m X.A) (hm : X.mg x = some (.ref (He.fAd X.K d.at_))) (hb : KP X.K fd ps ks 0 g) (tk : Takes X j.wx)
    (hkw : PK X kws (fun σ H Q => tR (mo X) j.e j.wx (RaL (mo X) σ) dK σ H Q)) (hn : ps.length = N := by rfl) (hl : ks.length = nk := by rfl) (hk : k ≤ m := by decide) (hg : Gl X x := by rfl) (hall : (backToKw pos (keywordEach kws X.env)).all (·.1.isSome) = true := by rfl) (hks : (backToKw pos (keywordEach kws X.env)).filterMap (·.1) = ks := by rfl)
    (hdb : (x == ("__debug__" : Str)) = false := by decide)
    (hpl : ((backTo pos (starEach [] X.env)).any (·.1) || (backToKw pos (keywordEach kws X.env)).any (·.1.isNone)) = false := by rfl) :
    DO X j (.Call (.Name x p) [] kws pos) (callO N io G (permA g 0 nk nilA dK)) := by
  subst hn
  subst hl
  exact o_callK0 F.ok (hr.mono hk) hm F.fn.kp hb tk F.lo hkw hg hall hks hdb hpl
end
/-- the law's own def, as the end of the walk wants it -/
theorem law_sp {K : PySem.W.Frag} {mg : Str → Option Value} {g : List D → FR} (hg : ∀ ns : List Int, ns.length ≤ 63 → ∃ outs, g [.lst (ns.map D.int)] = .ret (.bl true) outs) (H : Hp) (a : Addr) (ns : List Int) (hl : ns.length ≤ 63) (hS : SqL K H a (ns.map V.int)) :
    spD ⟨K, mg⟩ 1 [] g [.ref a] H (fun v _ => v = .bl true) fun _ _ _ => False := by
  obtain ⟨outs, e⟩ := hg ns hl
  refine ⟨fun _ => none, H, [.lst (ns.map D.int)], rfl, rfl, ⟨fun b o _ h => h, Ex.refl H, Ex.refl H, fun a h => absurd rfl h, fun a r q h => (by cases h), fun b h => .inl h, fun b h => h⟩, fun i d h => ?_, ?_⟩
  · cases i with
    | zero =>
      cases h
      exact ⟨(by intro z; cases z), .ref a, rfl, .fz (.lst hS (RpL.ints ns))⟩
    | succ i => cases h
  · rw [e]
    intro W' F' H' v rb p _
    cases p with
    | fz p =>
      cases p
      rfl
end DL
namespace DL
open PySem PySem.Spec PyProof.Rows L2
/-! ## for the walks that gen.py prints -/
def lstO (dl : List D → R (List D)) : List D → R D := fun env => bindR (dl env) fun xs env1 => if xs.length ≤ 1000 then .ok (.ml xs) env1 else .bad
theorem o_lstO {X : Cx} {j : J} {es : List Expr} {pos : Pos} {dl : List D → R (List D)} (h : DL X j es dl) : DO X j (.List es pos) (lstO dl) := o_lst h
/-- the classes that a clause takes, those that it leaves -/
def mtOf (l : List (Str × Bool)) (c : Str) : Option Bool := l.lookup c
inductive ExmAll (M : Mo) (c : Value) : List (Str × Bool) → Prop
  | nil : ExmAll M c []
  | cons {x : Str} {b : Bool} {C : Addr} {r : List (Str × Bool)} : M.mg x = some (.ref C) → PySem.W.exmOne M.K (.ref C) c = some b → ExmAll M c r → ExmAll M c ((x, b) :: r)
theorem mtOf_ok {M : Mo} {c : Value} {l : List (Str × Bool)} (h : ExmAll M c l) : ∀ cn C b, M.mg cn = some (.ref C) → mtOf l cn = some b → PySem.W.exmOne M.K (.ref C) c = some b := by
  induction h with
  | nil => intro _ _ _ _ e; cases e
  | @cons x b0 C0 r h1 h2 h3 ih =>
    intro cn C b hm e
    unfold mtOf at e
    rw [List.lookup_cons] at e
    split at e
    · rename_i hq
      have hq := eq_of_beq hq
      subst hq
      rw [h1] at hm
      cases hm
      cases e
      exact h2
    · exact ih cn C b hm e
def takesOf (l : List (Str × Bool)) : List Str := (l.filter (·.2)).map (·.1)
theorem mtOf_mem {l : List (Str × Bool)} {cn : Str} (h : mtOf l cn = some true) : cn ∈ takesOf l := by
  unfold mtOf at h
  unfold takesOf
  induction l with
  | nil => cases h
  | cons q r ih =>
    rw [List.lookup_cons] at h
    split at h
    · rename_i hq
      have hq := eq_of_beq hq
      cases h1 : q.2 with
      | true => rw [List.filter_cons, if_pos h1, hq]; exact List.mem_cons_self
      | false => rw [h1] at h; cases h
    · have := ih h
      rw [List.filter_cons]
      split
      · exact List.mem_cons_of_mem _ this
      · exact this
theorem mtOf_one {l : List (Str × Bool)} {cn c : Str} (h : mtOf l cn = some true) (e : takesOf l = [c]) : cn = c := by
  have := mtOf_mem h
  rw [e] at this
  exact List.mem_singleton.mp this
/-- what is caught is of a class without fields -/
theorem caught0 {X : Cx} {es : Ent} {i : Nat} {a : Addr} {oe : Obj} {cn : Str} {fs : List D} {cls : Value} {d : Option Addr} {C : Addr} (h : Caught X es i a oe cn fs cls d) (e : eflds cn = []) (g : X.mg cn = some (.ref C)) : fs = [] ∧ cls = .ref C ∧ d = none := by
  obtain ⟨C', h1, h2, h3⟩ := h.xr
  rw [show (mo X).mg cn = some (.ref C) from g] at h2
  cases h2
  rcases h3 with ⟨h3, _, h4⟩ | ⟨dx, gs, h0, _⟩
  · exact ⟨h3, h1, h4⟩
  · exact absurd e h0
def excB (K : PySem.W.Frag) (C : Addr) : Bool := He.eqO (PySem.W.findIn K (.ref C) "__getattribute__") (some (some (.builtin "BaseException.__getattribute__"))) && (He.eqO (PySem.W.findIn K (.ref C) "__getattr__") (some none) && (decide (PySem.W.subIn K (.ref C) (.type "BaseException") = some true) && (PySem.W.hasDictIn K C &&
  (He.eqO (PySem.W.findIn K (.ref C) "__class__") (some (some (.builtin "object.__class__"))) && (He.eqO (PySem.W.specialIn K (.builtin "object.__class__") "__get__") (some (some (.builtin "getset_descriptor.__get__"))) && (decide (PySem.W.takesIn K (.builtin "object.__class__") = some true) && decide (PySem.W.mroIn K C (.type "object") = some true)))))))
theorem excB_ok {K : PySem.W.Frag} {C : Addr} (h : excB K C = true) : ExcC K C := by
  obtain ⟨h1, h⟩ := He.ba h
  obtain ⟨h2, h⟩ := He.ba h
  obtain ⟨h3, h⟩ := He.ba h
  obtain ⟨h4, h⟩ := He.ba h
  obtain ⟨h5, h⟩ := He.ba h
  obtain ⟨h6, h⟩ := He.ba h
  obtain ⟨h7, h8⟩ := He.ba h
  exact ⟨He.eqO_ok h1, He.eqO_ok h2, of_decide_eq_true h3, h4, He.eqO_ok h5, He.eqO_ok h6, of_decide_eq_true h7, of_decide_eq_true h8⟩
end DL
namespace DL
open PySem PySem.Spec PyProof.Rows L2
/-! ## the end of a law's walk -/
theorem FunD.uniq {K : PySem.W.Frag} {x qual : Str} {params : Arguments} {body : List Stmt} {scope : Scope} {dvs : List V} {kws : List (Str × V)} {f : Addr} {fd fd' : FuncData} (F : FunD K x qual params body scope dvs kws f fd) (F' : FunD K x qual params body scope dvs kws f fd') : fd' = fd := by
  obtain ⟨_, _, _, _, _, _, _, _, _, _, _, l1, _⟩ := F.ex
  obtain ⟨_, _, _, _, _, _, _, _, _, _, _, l2, _⟩ := F'.ex
  rw [l1] at l2
  injection l2 with l2
  injection l2 with _ _ l2 _
  injection l2 with l2
  exact l2.symm
theorem law_spB {K : PySem.W.Frag} {mg : Str → Option Value} {g : List D → FR} {H : Hp} {a : Addr} {ns : List Int} (hg : ∃ outs, g [.lst (ns.map D.int)] = .ret (.bl true) outs) (hS : SqL K H a (ns.map V.int)) :
    spD ⟨K, mg⟩ 1 [] g [.ref a] H (fun v _ => v = .bl true) fun _ _ _ => False := by
  obtain ⟨outs, e⟩ := hg
  refine ⟨fun _ => none, H, [.lst (ns.map D.int)], rfl, rfl, ⟨fun b o _ h => h, Ex.refl H, Ex.refl H, fun a h => absurd rfl h, fun a r q h => (by cases h), fun b h => .inl h, fun b h => h⟩, fun i d h => ?_, ?_⟩
  · cases i with
    | zero =>
      cases h
      exact ⟨(by intro z; cases z), .ref a, rfl, .fz (.lst hS (RpL.ints ns))⟩
    | succ i => cases h
  · rw [e]
    intro W' F' H' v rb p _
    cases p with
    | fz p =>
      cases p
      rfl
theorem walk_end {l : PySem.W.OpenLaw} {k i : Nat} {q : Program} {loose : List Str} {XP : (Str → Option Value) → Heap → Prop} {fa : List He.Fa} {fn : List He.DefD} {ex : PySem.W.Frag → Bool} {m : Nat} {d : DefRec} {a : He.DefD} {g : List D → FR}
    (hn : l.most = some 63) (hdf : d.params.defaults = []) (hr : Room k callerA) (hname : d.name = ("law" : Str)) (hat : a.at_ = ((("law" : Str), none) : Str × Option Str)) (hdfl : a.dfl = [])
    (hb : ∀ (kV doc pm : Value) (an : Option Addr) (cdv ct : Value) (us : List Value), us.length = 1 → bindArgs (PySem.W.fnOf a.name a.qual a.params a.body a.scope .none kV doc pm an cdv ct) ⟨us, []⟩ = pure ((["script"] : List Str).zip us)) (hm : fa[i]? = some (.glo "law"))
    (ok : ∀ (w : World) (base : Heap) (K : PySem.W.Frag) (mg : Str → Option Value), Ctx fa fn ex K mg → ∃ fd, Df l.prog w K mg base a fd ["script"] [] g k)
    (hg : ∀ ns : List Int, ns.length ≤ 63 → (∀ z ∈ ns, Builtin.Int.intBits z ≤ 1048576) → ∃ outs, g [.lst (ns.map D.int)] = .ret (.bl true) outs) :
    PySem.W.WalkO q loose XP (He.hookX m fa fn [] [] ex).says l.row.toRowW d [] (fun f vs => PySem.call f vs) := by
  refine Att.attach_callB hn hdf fun w s₀ s₁ mg mb f0 o pm cd doc a0 vs ns G Y ho hd hcd hmg hobj hints hlen hbits hg0 => ?_
  obtain ⟨K, KX, Sx⟩ := Y
  have c : Ctx fa fn ex K mg := ⟨⟨_, KX, G.T.g⟩, Sx.t.d, Sx.more⟩
  obtain ⟨fd, D0⟩ := ok w s₁.heap K mg c
  have hf : f0 = He.fAd K a.at_ := by
    have e := c.glo i hm
    rw [hname] at hmg
    rw [hmg] at e
    injection e with e
    injection e with e
    rw [e, hat]
    rfl
  subst hf
  have F0 := D0.fn
  have hdv : He.DefD.dvs K a = [] := by
    unfold He.DefD.dvs
    rw [hdfl]
    rfl
  refine law_call (k := k) (x := "script") (CX := L2.CX l.prog w) (sp := spD ⟨K, mg⟩ 1 [] g) KX G.T.g G.T.b G.T.builtins G.T.nolimit hg0 hobj hints (Nat.le_trans hlen (by decide)) hr (fun base hB hG => ?_) (fun s u => ?_) (fun H hO hS => law_spB (hg ns hlen hbits) hS) (fun H e s' hc => ?_) (fd := fd)
  · obtain ⟨fd', D1⟩ := ok w base K mg c
    have e := FunD.uniq F0 D1.fn
    subst e
    exact D1.ok
  · rw [hdv] at F0
    exact FunD.bindsA (ps := ["script"]) F0 hb s [u] rfl
  · obtain ⟨_, _, _, _, _, _, _, _, _, _, _, _, hE⟩ := hc
    exact hE
end DL
namespace DL
open PySem PySem.Spec PyProof.Rows L2
/-! ## denotations, computed: the simplifier's rules -/
/-! == of plain data -/
@[simp] theorem fine_int (a : Int) : fine (.int a) = true := rfl
@[simp] theorem fine_bl (b : Bool) : fine (.bl b) = true := rfl
@[simp] theorem fine_non : fine .non = true := rfl
theorem eqb_of {x y : D} {p q : PyData} (h : x.py = some p) (k : y.py = some q) : x.eqb y = PyData.eqv p q := by
  unfold D.eqb
  rw [h, k]
@[simp] theorem eqb_int (a b : Int) : (D.int a).eqb (.int b) = decide (a = b) := by
  rw [eqb_of (p := .int a) (q := .int b) rfl rfl, PyData.eqv]
  exact Bool.eq_iff_iff.mpr (by simp)
@[simp] theorem eqb_bl (a b : Bool) : (D.bl a).eqb (.bl b) = decide (a = b) := by
  rw [eqb_of (p := .bool a) (q := .bool b) rfl rfl, PyData.eqv]
  cases a <;> cases b <;> rfl
@[simp] theorem fine_tup2 (a b : Int) : fine (.tup [.int a, .int b]) = true := rfl
@[simp] theorem eqb_tup2 (a b c d : Int) : (D.tup [.int a, .int b]).eqb (.tup [.int c, .int d]) = (decide (a = c) && decide (b = d)) := by
  rw [eqb_of (p := .tuple [.int a, .int b]) (q := .tuple [.int c, .int d]) rfl rfl]
  simp only [PyData.eqv, PyData.eqvAll, Bool.and_true]
  exact Bool.eq_iff_iff.mpr (by simp)
section
variable (env : List D) (i k n : Nat) (f : D → D → Option D) (g : D → Option D) (h : List D → Option D) (da db dc : List D → R D) (dt du : List D → R Bool) (dl dr : List D → R (List D)) (dA : List D → R (List Ar)) (sa sb : List D → O) (d : D)
@[simp] theorem constD_ap : constD d env = .ok d env := rfl
@[simp] theorem varD_ap : varD i env = if isOwn (env.getD i .unb) = true then .bad else .ok (env.getD i .unb) env := rfl
@[simp] theorem binD_ap : binD f da db env = bindR (da env) fun x env1 => bindR (db env1) fun y env2 => opR (f x y) env2 := rfl
@[simp] theorem unD_ap : unD g da env = bindR (da env) fun x env1 => opR (g x) env1 := rfl
@[simp] theorem nilD_ap : nilD env = .ok [] env := rfl
@[simp] theorem consD_ap : consD da dl env = bindR (da env) fun x env1 => bindR (dl env1) fun xs env2 => .ok (x :: xs) env2 := rfl
@[simp] theorem callBD_ap : callBD h dl env = bindR (dl env) fun xs env1 => opR (h xs) env1 := rfl
@[simp] theorem testD_ap : testD da env = bindR (da env) fun x env1 => match x with
  | .bl b => .ok b env1
  | _ => .bad := rfl
@[simp] theorem andD_ap : andD dt du env = bindR (dt env) fun b env1 => if b = true then du env1 else .ok false env1 := rfl
@[simp] theorem orD_ap : orD dt du env = bindR (dt env) fun b env1 => if b = true then .ok true env1 else du env1 := rfl
@[simp] theorem notD_ap : notD dt env = bindR (dt env) fun b env1 => .ok (!b) env1 := rfl
@[simp] theorem blD_ap : blD dt env = bindR (dt env) fun b env1 => .ok (.bl b) env1 := rfl
@[simp] theorem ifD_ap : ifD dt da db env = bindR (dt env) fun b env1 => if b = true then da env1 else db env1 := rfl
@[simp] theorem tupD_ap : tupD dl env = bindR (dl env) fun xs env1 => if xs.length ≤ 1000 then .ok (.tup xs) env1 else .bad := rfl
@[simp] theorem lstD_ap : lstD dl env = bindR (dl env) fun xs env1 => if xs.length ≤ 1000 then .ok (.lst xs) env1 else .bad := rfl
@[simp] theorem lstO_ap : lstO dl env = bindR (dl env) fun xs env1 => if xs.length ≤ 1000 then .ok (.ml xs) env1 else .bad := rfl
@[simp] theorem andV_ap : andV da db env = bindR (da env) fun x env1 => match x with
  | .bl true => db env1
  | .bl false => .ok (.bl false) env1
  | _ => .bad := rfl
@[simp] theorem orV_ap : orV da db env = bindR (da env) fun x env1 => match x with
  | .bl true => .ok (.bl true) env1
  | .bl false => db env1
  | _ => .bad := rfl
@[simp] theorem frzD_ap : frzD da env = bindR (da env) fun x env1 => .ok (frz x) env1 := rfl
@[simp] theorem frz_int (i : Int) : frz (.int i) = .int i := rfl
@[simp] theorem frz_bl (i : Bool) : frz (.bl i) = .bl i := rfl
@[simp] theorem frz_non : frz .non = .non := rfl
@[simp] theorem frz_str (i : Str) : frz (.str i) = .str i := rfl
@[simp] theorem frz_tup (l : List D) : frz (.tup l) = .tup l := rfl
@[simp] theorem frz_lst (l : List D) : frz (.lst l) = .lst l := rfl
@[simp] theorem frz_ml (l : List D) : frz (.ml l) = .lst (frzL l) := by rw [frz]
@[simp] theorem frzL_nil : frzL [] = [] := by rw [frzL]
@[simp] theorem frzL_cons (d : D) (l : List D) : frzL (d :: l) = frz d :: frzL l := by rw [frzL]
@[simp] theorem isOwn_int (i : Int) : isOwn (.int i) = false := rfl
@[simp] theorem isOwn_bl (i : Bool) : isOwn (.bl i) = false := rfl
@[simp] theorem isOwn_non : isOwn .non = false := rfl
@[simp] theorem isOwn_str (i : Str) : isOwn (.str i) = false := rfl
@[simp] theorem isOwn_tup (l : List D) : isOwn (.tup l) = false := rfl
@[simp] theorem isOwn_lst (l : List D) : isOwn (.lst l) = false := rfl
@[simp] theorem isOwn_ml (l : List D) : isOwn (.ml l) = true := rfl
@[simp] theorem ownd_ml (l : List D) : ownd (.ml l) = true := rfl
@[simp] theorem ownd_int (i : Int) : ownd (.int i) = false := rfl
@[simp] theorem ownd_bl (i : Bool) : ownd (.bl i) = false := rfl
@[simp] theorem ownd_unb : ownd .unb = false := rfl
@[simp] theorem ownd_tup (l : List D) : ownd (.tup l) = false := rfl
@[simp] theorem ownd_lst (l : List D) : ownd (.lst l) = false := rfl
/-! statements -/
@[simp] theorem skipD_ap : skipD env = .nx env := rfl
@[simp] theorem seqD_ap : seqD sa sb env = match sa env with
  | .nx env1 => sb env1
  | r => r := rfl
@[simp] theorem ifS_ap : ifS dt sa sb env = bindS (dt env) fun b env1 => if b = true then sa env1 else sb env1 := rfl
@[simp] theorem asgD_ap : asgD i da env = bindS (da env) fun d env1 => .nx (env1.set i d) := rfl
@[simp] theorem exprD_ap : exprD da env = bindS (da env) fun _ env1 => .nx env1 := rfl
@[simp] theorem retD_ap : retD da env = bindS (da env) fun d env1 => .rt d env1 := rfl
@[simp] theorem retN_ap : retN env = .rt .non env := rfl
@[simp] theorem brkD_ap : brkD env = .bk env := rfl
@[simp] theorem cntD_ap : cntD env = .ct env := rfl
@[simp] theorem parD_ap : parD i k da db env = bindS (da env) fun x env1 => bindS (db env1) fun y env2 => .nx ((env2.set i x).set k y) := rfl
@[simp] theorem asgG_ap (g : D → List D → Option (List D)) : asgG da g env = bindS (da env) fun d env1 => match g d env1 with
  | some env2 => .nx env2
  | none => .bad := rfl
@[simp] theorem gnD_ap : gnD i d env = some (env.set i d) := rfl
@[simp] theorem gNilD_ap : gNilD [] env = some env := rfl
@[simp] theorem gConsD_ap (g : D → List D → Option (List D)) (h : List D → List D → Option (List D)) (r : List D) : gConsD g h (d :: r) env = match g d env with
  | some env1 => h r env1
  | none => none := rfl
@[simp] theorem gTupD_ap (g : List D → List D → Option (List D)) (l : List D) : gTupD g (.tup l) env = g l env := rfl
@[simp] theorem raiseD_ap (c : Str) : raiseD c dl env = bindS (dl env) fun fs env1 => .ex c fs env1 := rfl
theorem runD_ap (N : Nat) (io : List Nat) (ds : List D) : runD N io sa ds = match sa (ds ++ List.replicate (N - ds.length) .unb) with
  | .nx env => .ret .non (outsD io env)
  | .rt d env => .ret d (outsD io env)
  | .ex c fs env => .exc c fs (outsD io env)
  | _ => .bad := rfl
@[simp] theorem outsD_nil : outsD [] env = [] := rfl
@[simp] theorem outsD_cons (io : List Nat) : outsD (i :: io) env = env.getD i .unb :: outsD io env := rfl
/-! calls -/
@[simp] theorem nilA_ap : nilA env = .ok [] env := rfl
@[simp] theorem consA_ap : consA da dA env = bindR (da env) fun x env1 => bindR (dA env1) fun xs env2 => .ok (.v x :: xs) env2 := rfl
@[simp] theorem ioA_ap : ioA i dA env = if ownd (env.getD i .unb) = true then bindR (dA env) fun xs env2 => .ok (.io i :: xs) env2 else .bad := rfl
def retI (is : List Nat) (r : FR) (env : List D) : R D := match r with
  | .ret d outs => .ok d (wback is outs env)
  | .exc c fs outs => .ex c fs (wback is outs env)
  | .bad => .bad
@[simp] theorem retI_ret (is : List Nat) (outs : List D) : retI is (.ret d outs) env = .ok d (wback is outs env) := rfl
@[simp] theorem retI_exc (is : List Nat) (c : Str) (fs outs : List D) : retI is (.exc c fs outs) env = .ex c fs (wback is outs env) := rfl
@[simp] theorem wback_nil (ds : List D) : wback [] ds env = env := by
  cases ds <;> rfl
@[simp] theorem wback_cons (is : List Nat) (ds : List D) : wback (i :: is) (d :: ds) env = wback is ds (env.set i d) := rfl
@[simp] theorem callO_ap (io : List Nat) (G : List D → FR) : callO n io G dA env = bindR (dA env) fun as env1 => if okIo n io as env1 = true then retI ((ioOf 0 as).map (·.2)) (G (valsOf as env1)) env1 else .bad := by
  unfold callO
  congr 1
@[simp] theorem permA_ap (g : List Nat) (m : Nat) (dk : List D → R (List Ar)) : permA g n m dA dk env = bindR (dA env) fun as env1 => bindR (dk env1) fun ks env2 => if as.length = n ∧ ks.length = m then .ok (ordA g (as ++ ks)) env2 else .bad := rfl
@[simp] theorem okIo_ap (io : List Nat) (as : List Ar) : okIo n io as env = (decide (as.length = n) && (decide ((ioOf 0 as).map (·.1) = io) && decide ((ioOf 0 as).map (·.2)).Nodup && (ioOf 0 as).all fun p => ownd (env.getD p.2 .unb))) := rfl
@[simp] theorem valsOf_nil : valsOf [] env = [] := rfl
@[simp] theorem valsOf_v (as : List Ar) : valsOf (.v d :: as) env = d :: valsOf as env := rfl
@[simp] theorem valsOf_io (as : List Ar) : valsOf (.io i :: as) env = env.getD i .unb :: valsOf as env := rfl
@[simp] theorem ioOf_nil : ioOf k [] = [] := rfl
@[simp] theorem ioOf_v (as : List Ar) : ioOf k (.v d :: as) = ioOf (k + 1) as := rfl
@[simp] theorem ioOf_io (as : List Ar) : ioOf k (.io i :: as) = (k, i) :: ioOf (k + 1) as := rfl
@[simp] theorem ordA_nil {α : Type} (as : List α) : ordA [] as = [] := rfl
@[simp] theorem ordA_cons {α : Type} (g : List Nat) (as : List α) : ordA (i :: g) as = (as[i]?).toList ++ ordA g as := by
  unfold ordA
  rw [List.filterMap_cons]
  cases as[i]? <;> rfl
/-! the operators on numbers -/
@[simp] theorem addD_int (a b : Int) : addD (.int a) (.int b) = some (.int (a + b)) := rfl
@[simp] theorem subD_int (a b : Int) : subD (.int a) (.int b) = some (.int (a - b)) := rfl
@[simp] theorem mulD_int (a b : Int) : mulD (.int a) (.int b) = if fitsMul a b then some (.int (a * b)) else none := rfl
@[simp] theorem fdivD_int (a b : Int) : fdivD (.int a) (.int b) = if fitsDiv b then some (.int (a.fdiv b)) else none := rfl
@[simp] theorem modD_int (a b : Int) : modD (.int a) (.int b) = if b ≠ 0 then some (.int (a.fmod b)) else none := rfl
@[simp] theorem powD_int (a b : Int) : powD (.int a) (.int b) = if fitsPow a b then some (.int (a ^ b.toNat)) else none := rfl
@[simp] theorem ltD_int (a b : Int) : ltD (.int a) (.int b) = some (.bl (decide (a < b))) := rfl
@[simp] theorem leD_int (a b : Int) : leD (.int a) (.int b) = some (.bl (decide (a ≤ b))) := rfl
@[simp] theorem gtD_int (a b : Int) : gtD (.int a) (.int b) = some (.bl (decide (b < a))) := rfl
@[simp] theorem geD_int (a b : Int) : geD (.int a) (.int b) = some (.bl (decide (b ≤ a))) := rfl
@[simp] theorem negD_int (a : Int) : negD (.int a) = some (.int (-a)) := rfl
@[simp] theorem eqD_ap (x y : D) : eqD x y = if (fine x && fine y) = true then some (.bl (x.eqb y)) else none := rfl
@[simp] theorem neD_ap (x y : D) : neD x y = if (fine x && fine y) = true then some (.bl (!x.eqb y)) else none := rfl
@[simp] theorem ixD_lst (l : List D) (a : Int) : ixD (.lst l) (.int a) = atI l a := rfl
@[simp] theorem ixD_tup (l : List D) (a : Int) : ixD (.tup l) (.int a) = atI l a := rfl
@[simp] theorem listAt_ap : listAt env i = match env.getD i .unb with
  | .ml l => some l
  | _ => none := rfl
@[simp] theorem ixO_ap : ixO i da env = if (listAt env i).isSome = true then bindR (da env) fun k env1 => match k with
  | .int k => match listAt env1 i with
    | some l => match atI l k with
      | some d => if isOwn d = true then .bad else .ok d env1
      | none => .bad
    | none => .bad
  | _ => .bad
else .bad := rfl
@[simp] theorem setO_ap : setO i da db env = bindS (da env) fun d env1 => if (listAt env1 i).isSome = true then bindS (db env1) fun k env2 => match k with
  | .int k => match listAt env2 i with
    | some l => match ixN l.length k with
      | some n => .nx (env2.set i (.ml (l.set n d)))
      | none => .bad
    | none => .bad
  | _ => .bad
else .bad := rfl
@[simp] theorem isiD_ap (T : String) : isiD T d = (tyD d).map fun t => .bl (isB t T) := rfl
@[simp] theorem absD_int (a : Int) : absD [.int a] = some (.int (a.natAbs : Int)) := by
  show some (D.int (if a < 0 then -a else a)) = _
  congr 2
  split <;> omega
@[simp] theorem intD_int (a : Int) : intD [.int a] = some (.int a) := rfl
@[simp] theorem intD_bl (b : Bool) : intD [.bl b] = some (.int (if b = true then 1 else 0)) := rfl
@[simp] theorem lenD_lst (l : List D) : lenD [.lst l] = some (.int l.length) := rfl
@[simp] theorem lenD_tup (l : List D) : lenD [.tup l] = some (.int l.length) := rfl
@[simp] theorem tyD_int (a : Int) : tyD (.int a) = some "int" := rfl
@[simp] theorem tyD_tup (l : List D) : tyD (.tup l) = some "tuple" := rfl
@[simp] theorem tyD_lst (l : List D) : tyD (.lst l) = some "list" := rfl
@[simp] theorem isB_same (T : String) : isB T T = true := by simp [isB]
theorem atI_nat {α : Type} (l : List α) (m : Nat) (h : m < l.length) : atI l (m : Int) = l[m]? := by
  unfold atI ixN
  rw [if_pos (by omega), if_pos (by omega)]
  rfl
theorem atI_in {α : Type} {l : List α} {a : Int} (h0 : 0 ≤ a) (h : a < l.length) : ∃ x ∈ l, atI l a = some x := by
  obtain ⟨m, rfl⟩ := Int.eq_ofNat_of_zero_le h0
  have h : m < l.length := by omega
  exact ⟨l[m], List.getElem_mem h, by rw [atI_nat l m h, List.getElem?_eq_getElem h]⟩
@[simp] theorem atI_0 {α : Type} (x : α) (l : List α) : atI (x :: l) 0 = some x := atI_nat (x :: l) 0 (by simp)
@[simp] theorem atI_1 {α : Type} (x0 x : α) (l : List α) : atI (x0 :: x :: l) 1 = some x := atI_nat (x0 :: x :: l) 1 (by simp)
@[simp] theorem atI_2 {α : Type} (x0 x1 x : α) (l : List α) : atI (x0 :: x1 :: x :: l) 2 = some x := atI_nat (x0 :: x1 :: x :: l) 2 (by simp)
@[simp] theorem atI_3 {α : Type} (x0 x1 x2 x : α) (l : List α) : atI (x0 :: x1 :: x2 :: x :: l) 3 = some x := atI_nat (x0 :: x1 :: x2 :: x :: l) 3 (by simp)
theorem ixN_nat {n m : Nat} (h : m < n) : ixN n (m : Int) = some m := by
  unfold ixN
  rw [if_pos (by omega), if_pos (by omega)]
  rfl
@[simp] theorem ixN_0 (n : Nat) : ixN (n + 1) 0 = some 0 := ixN_nat (m := 0) (by omega)
@[simp] theorem ixN_1 (n : Nat) : ixN (n + 2) 1 = some 1 := ixN_nat (m := 1) (by omega)
@[simp] theorem ixN_30 : ixN 3 0 = some 0 := rfl
@[simp] theorem ixN_31 : ixN 3 1 = some 1 := rfl
theorem fitsPow_lit {a b : Int} (h : 0 ≤ b) (h2 : b ≤ 1000000) (h3 : a.natAbs < 18446744073709551616) : fitsPow a b := ⟨h, h2, h3⟩
theorem fitsDiv_lit {b : Int} (h : b ≠ 0) (h2 : b.natAbs < 18446744073709551616) : fitsDiv b := ⟨h, Nat.lt_of_lt_of_le h2 (Nat.pow_le_pow_right (n := 2) (i := 64) (by decide) (by decide))⟩
@[simp] theorem fitsMul_10 (a : Int) (p : Prop) [Decidable p] : fitsMul a (if p then 1 else 0) := .inr (.inl (by split <;> decide))
end
theorem fitsMul_l {a b : Int} (h : a.natAbs < 2 ^ 64) : fitsMul a b := .inl h
theorem fitsMul_r {a b : Int} (h : b.natAbs < 2 ^ 64) : fitsMul a b := .inr (.inl h)
/-- n bits -/
def Sm (n : Nat) (x : Int) : Prop := x.natAbs < 2 ^ n
theorem Sm.mono {n m : Nat} {x : Int} (h : Sm n x) (l : n ≤ m) : Sm m x := Nat.lt_of_lt_of_le h (Nat.pow_le_pow_right (by decide) l)
theorem Sm.add {n : Nat} {x y : Int} (h : Sm n x) (k : Sm n y) : Sm (n + 1) (x + y) := by
  unfold Sm at *
  have := Int.natAbs_add_le x y
  rw [Nat.pow_succ]
  omega
theorem Sm.neg {n : Nat} {x : Int} (h : Sm n x) : Sm n (-x) := by
  unfold Sm at *
  rw [Int.natAbs_neg]
  exact h
theorem Sm.sub {n : Nat} {x y : Int} (h : Sm n x) (k : Sm n y) : Sm (n + 1) (x - y) := by
  rw [Int.sub_eq_add_neg]
  exact h.add k.neg
theorem Sm.mul {n m : Nat} {x y : Int} (h : Sm n x) (k : Sm m y) : Sm (n + m) (x * y) := by
  unfold Sm at *
  rw [Int.natAbs_mul, Nat.pow_add]
  exact Nat.mul_lt_mul'' h k
theorem Sm.le {n : Nat} {x y : Int} (h : Sm n x) (k : y.natAbs ≤ x.natAbs) : Sm n y := Nat.lt_of_le_of_lt k h
theorem Sm.fits {n m : Nat} {x y : Int} (h : Sm n x) (k : Sm m y) (hn : n ≤ 1000000) (hm : m ≤ 1000000) : fitsMul x y := .inr (.inr ⟨h.mono hn, k.mono hm⟩)
theorem Sm.div {n : Nat} {x : Int} (h : Sm n x) (h0 : x ≠ 0) (hn : n ≤ 9000) : fitsDiv x := ⟨h0, h.mono hn⟩
end DL
namespace FR
/-! fractions in least terms -/
def fg (a b : Int) : Int := if b < 0 then -(Nat.gcd a.natAbs b.natAbs : Int) else (Nat.gcd a.natAbs b.natAbs : Int)
def fn (a b : Int) : Int := a.fdiv (fg a b)
def fd (a b : Int) : Int := b.fdiv (fg a b)
theorem fg_abs (a b : Int) : (fg a b).natAbs = Nat.gcd a.natAbs b.natAbs := by
  unfold fg
  split <;> omega
theorem fg_ne {a b : Int} (h : b ≠ 0) : fg a b ≠ 0 := by
  intro e
  have h1 := fg_abs a b
  rw [e] at h1
  have : 0 < Nat.gcd a.natAbs b.natAbs := Nat.gcd_pos_of_pos_right _ (by omega)
  omega
theorem fg_dvd_l (a b : Int) : fg a b ∣ a := by
  rw [← Int.natAbs_dvd_natAbs, fg_abs]
  exact Nat.gcd_dvd_left _ _
theorem fg_dvd_r (a b : Int) : fg a b ∣ b := by
  rw [← Int.natAbs_dvd_natAbs, fg_abs]
  exact Nat.gcd_dvd_right _ _
theorem fn_mul (a b : Int) : fn a b * fg a b = a := by
  unfold fn
  rw [Int.fdiv_eq_ediv_of_dvd (fg_dvd_l a b), Int.ediv_mul_cancel (fg_dvd_l a b)]
theorem fd_mul (a b : Int) : fd a b * fg a b = b := by
  unfold fd
  rw [Int.fdiv_eq_ediv_of_dvd (fg_dvd_r a b), Int.ediv_mul_cancel (fg_dvd_r a b)]
theorem fd_pos {a b : Int} (h : b ≠ 0) : 0 < fd a b := by
  have h1 := fd_mul a b
  have h2 := fg_ne (a := a) h
  have h3 := fg_abs a b
  rcases Int.lt_trichotomy (fd a b) 0 with q | q | q
  · exfalso
    by_cases hb : b < 0
    · have : fg a b < 0 := by unfold fg at h2 ⊢; rw [if_pos hb] at h2 ⊢; omega
      have := Int.mul_pos_of_neg_of_neg q this
      omega
    · have : 0 < fg a b := by unfold fg at h2 ⊢; rw [if_neg hb] at h2 ⊢; omega
      have := Int.mul_neg_of_neg_of_pos q this
      omega
  · rw [q] at h1
    omega
  · exact q
theorem fr_cop {a b : Int} (h : b ≠ 0) : Nat.Coprime (fn a b).natAbs (fd a b).natAbs := by
  unfold fn fd
  rw [Int.fdiv_eq_ediv_of_dvd (fg_dvd_l a b), Int.fdiv_eq_ediv_of_dvd (fg_dvd_r a b), Int.natAbs_ediv_of_dvd (fg_dvd_l a b), Int.natAbs_ediv_of_dvd (fg_dvd_r a b), fg_abs]
  exact Nat.coprime_div_gcd_div_gcd (Nat.gcd_pos_of_pos_right _ (by omega))
theorem red_uniq {p q p' q' : Int} (h : 0 < q) (h' : 0 < q') (c : Nat.Coprime p.natAbs q.natAbs) (c' : Nat.Coprime p'.natAbs q'.natAbs) (e : p * q' = p' * q) : p = p' ∧ q = q' := by
  have e1 : p.natAbs * q'.natAbs = p'.natAbs * q.natAbs := by rw [← Int.natAbs_mul, ← Int.natAbs_mul, e]
  have d1 : q.natAbs ∣ q'.natAbs := Nat.Coprime.dvd_of_dvd_mul_left c.symm ⟨p'.natAbs, by rw [e1, Nat.mul_comm]⟩
  have d2 : q'.natAbs ∣ q.natAbs := Nat.Coprime.dvd_of_dvd_mul_left c'.symm ⟨p.natAbs, by rw [← e1, Nat.mul_comm]⟩
  have e2 := Nat.dvd_antisymm d1 d2
  have e3 : q = q' := by omega
  subst e3
  exact ⟨Int.eq_of_mul_eq_mul_right (by omega) e, rfl⟩
theorem fr_eq {a b c d : Int} (hb : b ≠ 0) (hd : d ≠ 0) (e : a * d = c * b) : fn a b = fn c d ∧ fd a b = fd c d := by
  refine red_uniq (fd_pos hb) (fd_pos hd) (fr_cop hb) (fr_cop hd) ?_
  have h1 := fn_mul a b
  have h2 := fd_mul a b
  have h3 := fn_mul c d
  have h4 := fd_mul c d
  have n1 := fg_ne (a := a) hb
  have n2 := fg_ne (a := c) hd
  refine Int.eq_of_mul_eq_mul_right (a := fg a b * fg c d) (fun z => (Int.mul_eq_zero.mp z).elim n1 n2) ?_
  have e1 : fn a b * fd c d * (fg a b * fg c d) = a * d := by rw [← h1, ← h4] <;> grind
  have e2 : fn c d * fd a b * (fg a b * fg c d) = c * b := by grind
  rw [e1, e2, e]
theorem fr_cross (a b : Int) : fn a b * b = a * fd a b := by
  have h1 := fn_mul a b
  have h2 := fd_mul a b
  grind
theorem fn_sign {a b : Int} (h : b ≠ 0) : (0 < fn a b ↔ 0 < a * b) ∧ (fn a b < 0 ↔ a * b < 0) := by
  have h1 := fn_mul a b
  have h2 := fd_mul a b
  have h3 := fd_pos (a := a) h
  have h4 := fg_ne (a := a) h
  have e : a * b = fn a b * (fd a b * (fg a b * fg a b)) := by grind
  have hp : 0 < fg a b * fg a b := by
    rcases Int.lt_trichotomy (fg a b) 0 with q | q | q
    · exact Int.mul_pos_of_neg_of_neg q q
    · exact absurd q h4
    · exact Int.mul_pos q q
  have hq : 0 < fd a b * (fg a b * fg a b) := Int.mul_pos h3 hp
  rw [e]
  generalize fd a b * (fg a b * fg a b) = t at hq
  generalize fn a b = u
  constructor
  · exact ⟨fun z => Int.mul_pos z hq, fun z => Int.pos_of_mul_pos_left z hq⟩
  · constructor
    · intro z
      exact Int.mul_neg_of_neg_of_pos z hq
    · intro z
      rcases Int.lt_trichotomy u 0 with q | q | q
      · exact q
      · rw [q] at z; omega
      · have := Int.mul_pos q hq
        omega
theorem fn_abs_le (a b : Int) : (fn a b).natAbs ≤ a.natAbs := by
  unfold fn
  rw [Int.fdiv_eq_ediv_of_dvd (fg_dvd_l a b), Int.natAbs_ediv_of_dvd (fg_dvd_l a b)]
  exact Nat.div_le_self _ _
theorem fd_abs_le (a b : Int) : (fd a b).natAbs ≤ b.natAbs := by
  unfold fd
  rw [Int.fdiv_eq_ediv_of_dvd (fg_dvd_r a b), Int.natAbs_ediv_of_dvd (fg_dvd_r a b)]
  exact Nat.div_le_self _ _
theorem fn_zero (b : Int) : fn 0 b = 0 := by
  unfold fn
  exact Int.zero_fdiv _
end FR
namespace K21
open PySem PySem.Spec PyProof.Rows L2 DL
noncomputable section
/-! _law_state(cell): 0 cell -/
def d__law_state : List D → FR := runD 1 [] (seqD (asgD 0 (callBD absD (consD (varD 0) (nilD)))) (retD (lstO (consD (binD mulD (varD 0) (callBD intD (consD (binD geD (varD 0) (binD powD (constD (.int 10)) (constD (.int 18)))) (nilD)))) (consD (binD addD (binD modD (varD 0) (constD (.int 2147483629))) (constD (.int 7))) (consD (binD modD (varD 0) (constD (.int 2147483587))) (nilD)))))))
/-! _law_digit(state, base): 0 state, 1 base, 2 found, 3 more -/
def d__law_digit : List D → FR := runD 4 [0] (seqD (ifS (testD (binD gtD (ixO 0 (constD (.int 0))) (constD (.int 0)))) (seqD (asgD 2 (binD modD (ixO 0 (constD (.int 0))) (varD 1))) (seqD (setO 0 (binD fdivD (ixO 0 (constD (.int 0))) (varD 1)) (constD (.int 0))) (retD (varD 2)))) (skipD)) (seqD (asgD 3 (binD mulD (ixO 0 (constD (.int 1))) (binD addD (binD fdivD (ixO 0 (constD (.int 1))) (constD (.int 1009))) (constD (.int 69621))))) (seqD (setO 0 (binD addD (binD modD (binD addD (varD 3) (ixO 0 (constD (.int 2)))) (constD (.int 2147483629))) (constD (.int 7))) (constD (.int 1))) (retD (binD modD (binD fdivD (ixO 0 (constD (.int 1))) (constD (.int 97))) (varD 1))))))
/-! _law_drawn(s): 0 s, 1 kinds -/
def d__law_drawn : List D → FR := runD 2 [0] (seqD (asgD 1 (lstD (consD (binD subD (frzD (callO 2 [0] d__law_digit (ioA 0 (consA (constD (.int 13)) (nilA))))) (constD (.int 6))) (consD (binD subD (frzD (callO 2 [0] d__law_digit (ioA 0 (consA (constD (.int 2001)) (nilA))))) (constD (.int 1000))) (consD (binD addD (binD powD (constD (.int 10)) (constD (.int 20))) (frzD (callO 2 [0] d__law_digit (ioA 0 (consA (constD (.int 99)) (nilA)))))) (consD (binD mulD (unD negD (constD (.int 7))) (binD powD (constD (.int 10)) (constD (.int 12)))) (consD (constD (.int 0)) (nilD)))))))) (retD (binD ixD (varD 1) (frzD (callO 2 [0] d__law_digit (ioA 0 (consA (constD (.int 5)) (nilA))))))))
/-! _law_pair(s): 0 s, 1 found -/
def d__law_pair : List D → FR := runD 2 [0] (seqD (asgD 1 (tupD (consD (frzD (callO 1 [0] d__law_drawn (ioA 0 (nilA)))) (consD (frzD (callO 1 [0] d__law_drawn (ioA 0 (nilA)))) (nilD))))) (seqD (ifS (testD (binD eqD (binD ixD (varD 1) (constD (.int 1))) (constD (.int 0)))) (retD (tupD (consD (binD ixD (varD 1) (constD (.int 0))) (consD (binD ixD (lstD (consD (unD negD (constD (.int 3))) (consD (constD (.int 1)) (consD (constD (.int 6)) (nilD))))) (frzD (callO 2 [0] d__law_digit (ioA 0 (consA (constD (.int 3)) (nilA)))))) (nilD))))) (skipD)) (retD (varD 1))))
/-! _law_is(told, top, bottom): 0 told, 1 top, 2 bottom, 3 x, 4 y -/
def c__law_is_0 : List D → R Bool := testD (binD neD (varD 4) (constD (.int 0)))
def b__law_is_0 : List D → O := parD 3 4 (varD 4) (binD modD (varD 3) (varD 4))
def d__law_is : List D → FR := runD 5 [] (seqD (ifS (orD (notD (testD (unD (isiD "tuple") (varD 0)))) (orD (testD (binD neD (callBD lenD (consD (varD 0) (nilD))) (constD (.int 2)))) (orD (testD (binD ltD (binD ixD (varD 0) (constD (.int 1))) (constD (.int 1)))) (testD (binD neD (binD mulD (binD ixD (varD 0) (constD (.int 0))) (varD 2)) (binD mulD (varD 1) (binD ixD (varD 0) (constD (.int 1))))))))) (retD (constD (.bl false))) (skipD)) (seqD (parD 3 4 (callBD absD (consD (binD ixD (varD 0) (constD (.int 0))) (nilD))) (binD ixD (varD 0) (constD (.int 1)))) (seqD (whileD c__law_is_0 b__law_is_0) (retD (binD eqD (varD 3) (constD (.int 1)))))))
/-! divisor(one, other): 0 one, 1 other -/
def c_divisor_0 : List D → R Bool := testD (binD neD (varD 1) (constD (.int 0)))
def b_divisor_0 : List D → O := parD 0 1 (varD 1) (binD modD (varD 0) (varD 1))
def d_divisor : List D → FR := runD 2 [] (seqD (whileD c_divisor_0 b_divisor_0) (retD (varD 0)))
/-! share(above, below): 0 above, 1 below, 2 by -/
def d_share : List D → FR := runD 3 [] (seqD (ifS (testD (binD eqD (varD 1) (constD (.int 0)))) (raiseD "NoShare" nilD) (skipD)) (seqD (asgD 2 (frzD (callO 2 [] d_divisor (consA (callBD absD (consD (varD 0) (nilD))) (consA (callBD absD (consD (varD 1) (nilD))) (nilA)))))) (seqD (ifS (testD (binD ltD (varD 1) (constD (.int 0)))) (asgD 2 (unD negD (varD 2))) (skipD)) (retD (tupD (consD (binD fdivD (varD 0) (varD 2)) (consD (binD fdivD (varD 1) (varD 2)) (nilD))))))))
/-! plus(one, other): 0 one, 1 other -/
def d_plus : List D → FR := runD 2 [] (retD (callO 2 [] d_share (consA (binD addD (binD mulD (binD ixD (varD 0) (constD (.int 0))) (binD ixD (varD 1) (constD (.int 1)))) (binD mulD (binD ixD (varD 1) (constD (.int 0))) (binD ixD (varD 0) (constD (.int 1))))) (consA (binD mulD (binD ixD (varD 0) (constD (.int 1))) (binD ixD (varD 1) (constD (.int 1)))) (nilA)))))
/-! times(one, other): 0 one, 1 other -/
def d_times : List D → FR := runD 2 [] (retD (callO 2 [] d_share (consA (binD mulD (binD ixD (varD 0) (constD (.int 0))) (binD ixD (varD 1) (constD (.int 0)))) (consA (binD mulD (binD ixD (varD 0) (constD (.int 1))) (binD ixD (varD 1) (constD (.int 1)))) (nilA)))))
/-! _law_none(top): 0 top, 1 found, 2 e -/
def d__law_none : List D → FR := runD 3 [] (seqD (asgD 1 (constD (.bl false))) (seqD (tryAsD 2 (mtOf [("NoShare", true)]) [1] (exprD (frzD (callO 2 [] d_share (consA (varD 0) (consA (constD (.int 0)) (nilA)))))) (fun _ _ => asgD 1 (andV (constD (.bl true)) (constD (.bl true))))) (retD (varD 1))))
/-! less(one, other): 0 one, 1 other -/
def d_less : List D → FR := runD 2 [] (retD (callO 2 [] d_plus (consA (varD 0) (consA (tupD (consD (unD negD (binD ixD (varD 1) (constD (.int 0)))) (consD (binD ixD (varD 1) (constD (.int 1))) (nilD)))) (nilA)))))
/-! compared(one, other): 0 one, 1 other, 2 above -/
def d_compared : List D → FR := runD 3 [] (seqD (asgD 2 (binD ixD (frzD (callO 2 [] d_less (consA (varD 0) (consA (varD 1) (nilA))))) (constD (.int 0)))) (retD (binD subD (callBD intD (consD (binD gtD (varD 2) (constD (.int 0))) (nilD))) (callBD intD (consD (binD ltD (varD 2) (constD (.int 0))) (nilD))))))
/-! law(script): 0 script, 1 cell, 2 s, 3 a, 4 b, 5 c, 6 d, 7 e, 8 f, 9 across -/
def b_law_0 : List D → O := seqD (asgD 2 (callO 1 [] d__law_state (consA (varD 1) (nilA)))) (seqD (asgG (frzD (callO 1 [0] d__law_pair (ioA 2 (nilA)))) (gTupD (gConsD (gnD 3) (gConsD (gnD 4) (gNilD))))) (seqD (asgG (frzD (callO 1 [0] d__law_pair (ioA 2 (nilA)))) (gTupD (gConsD (gnD 5) (gConsD (gnD 6) (gNilD))))) (seqD (asgG (frzD (callO 1 [0] d__law_pair (ioA 2 (nilA)))) (gTupD (gConsD (gnD 7) (gConsD (gnD 8) (gNilD))))) (seqD (ifS (orD (notD (testD (frzD (callO 3 [] d__law_is (consA (frzD (callO 2 [] d_share (consA (varD 3) (consA (varD 4) (nilA))))) (consA (varD 3) (consA (varD 4) (nilA)))))))) (orD (notD (testD (frzD (callO 1 [] d__law_none (consA (varD 3) (nilA)))))) (notD (testD (frzD (callO 1 [] d__law_none (consA (constD (.int 0)) (nilA)))))))) (retD (constD (.bl false))) (skipD)) (seqD (ifS (orD (notD (testD (frzD (callO 3 [] d__law_is (consA (frzD (callO 2 [] d_plus (consA (tupD (consD (varD 3) (consD (varD 4) (nilD)))) (consA (tupD (consD (varD 5) (consD (varD 6) (nilD)))) (nilA))))) (consA (binD addD (binD mulD (varD 3) (varD 6)) (binD mulD (varD 5) (varD 4))) (consA (binD mulD (varD 4) (varD 6)) (nilA)))))))) (notD (testD (frzD (callO 3 [] d__law_is (consA (frzD (callO 2 [] d_times (consA (tupD (consD (varD 3) (consD (varD 4) (nilD)))) (consA (tupD (consD (varD 5) (consD (varD 6) (nilD)))) (nilA))))) (consA (binD mulD (varD 3) (varD 5)) (consA (binD mulD (varD 4) (varD 6)) (nilA))))))))) (retD (constD (.bl false))) (skipD)) (seqD (ifS (notD (testD (frzD (callO 3 [] d__law_is (consA (frzD (callO 2 [] d_less (consA (tupD (consD (varD 3) (consD (varD 4) (nilD)))) (consA (tupD (consD (varD 5) (consD (varD 6) (nilD)))) (nilA))))) (consA (binD subD (binD mulD (varD 3) (varD 6)) (binD mulD (varD 5) (varD 4))) (consA (binD mulD (varD 4) (varD 6)) (nilA)))))))) (retD (constD (.bl false))) (skipD)) (seqD (asgD 9 (binD mulD (binD mulD (binD subD (binD mulD (varD 3) (varD 6)) (binD mulD (varD 5) (varD 4))) (varD 4)) (varD 6))) (seqD (ifS (orD (testD (binD neD (frzD (callO 2 [] d_compared (consA (tupD (consD (varD 3) (consD (varD 4) (nilD)))) (consA (tupD (consD (varD 5) (consD (varD 6) (nilD)))) (nilA))))) (binD subD (callBD intD (consD (binD gtD (varD 9) (constD (.int 0))) (nilD))) (callBD intD (consD (binD ltD (varD 9) (constD (.int 0))) (nilD)))))) (testD (binD neD (frzD (callO 2 [] d_compared (consA (tupD (consD (varD 3) (consD (varD 4) (nilD)))) (consA (frzD (callO 2 [] d_share (consA (varD 3) (consA (varD 4) (nilA))))) (nilA))))) (constD (.int 0))))) (retD (constD (.bl false))) (skipD)) (seqD (ifS (testD (binD neD (frzD (callO 2 [] d_plus (consA (frzD (callO 2 [] d_plus (consA (tupD (consD (varD 3) (consD (varD 4) (nilD)))) (consA (tupD (consD (varD 5) (consD (varD 6) (nilD)))) (nilA))))) (consA (tupD (consD (varD 7) (consD (varD 8) (nilD)))) (nilA))))) (frzD (callO 2 [] d_plus (consA (tupD (consD (varD 7) (consD (varD 8) (nilD)))) (consA (frzD (callO 2 [] d_plus (consA (tupD (consD (varD 5) (consD (varD 6) (nilD)))) (consA (tupD (consD (varD 3) (consD (varD 4) (nilD)))) (nilA))))) (nilA))))))) (retD (constD (.bl false))) (skipD)) (seqD (ifS (testD (binD neD (frzD (callO 2 [] d_times (consA (tupD (consD (varD 3) (consD (varD 4) (nilD)))) (consA (frzD (callO 2 [] d_plus (consA (tupD (consD (varD 5) (consD (varD 6) (nilD)))) (consA (tupD (consD (varD 7) (consD (varD 8) (nilD)))) (nilA))))) (nilA))))) (frzD (callO 2 [] d_plus (consA (frzD (callO 2 [] d_times (consA (tupD (consD (varD 3) (consD (varD 4) (nilD)))) (consA (tupD (consD (varD 5) (consD (varD 6) (nilD)))) (nilA))))) (consA (frzD (callO 2 [] d_times (consA (tupD (consD (varD 7) (consD (varD 8) (nilD)))) (consA (tupD (consD (varD 3) (consD (varD 4) (nilD)))) (nilA))))) (nilA))))))) (retD (constD (.bl false))) (skipD)) (ifS (orD (testD (binD neD (frzD (callO 2 [] d_plus (permA [0, 1] 0 2 nilA (consA (tupD (consD (varD 3) (consD (varD 4) (nilD)))) (consA (tupD (consD (varD 5) (consD (varD 6) (nilD)))) (nilA)))))) (frzD (callO 2 [] d_plus (permA [1, 0] 0 2 nilA (consA (tupD (consD (varD 3) (consD (varD 4) (nilD)))) (consA (tupD (consD (varD 5) (consD (varD 6) (nilD)))) (nilA)))))))) (testD (binD neD (frzD (callO 2 [] d_share (permA [1, 0] 0 2 nilA (consA (varD 4) (consA (varD 3) (nilA)))))) (frzD (callO 2 [] d_share (consA (varD 3) (consA (varD 4) (nilA)))))))) (retD (constD (.bl false))) (skipD))))))))))))
def d_law : List D → FR := runD 10 [] (seqD (forD (itD (sliceD (binD addD (varD 0) (lstD (consD (constD (.int 0)) (nilD)))) (noPartD) (partD (constD (.int 15))))) (gnD 1) b_law_0) (retD (constD (.bl true))))
end
end K21
namespace K21
open DL PySem FR
abbrev stD (x y z : Int) : D := .ml [.int x, .int y, .int z]
structure StOk (x y z : Int) : Prop where
  x0 : 0 ≤ x
  y0 : 7 ≤ y
  y1 : y < 2147483636
  z0 : 0 ≤ z
  z1 : z < 2147483587
theorem fmod_in {a b : Int} (h : 0 < b) : 0 ≤ a.fmod b ∧ a.fmod b < b := ⟨Int.fmod_nonneg_of_pos _ h, Int.fmod_lt_of_pos _ h⟩
theorem state_ev (c : Int) : ∃ x y z, StOk x y z ∧ d__law_state [.int c] = .ret (stD x y z) [] := by
  unfold d__law_state
  simp [runD_ap, fitsPow_lit, fitsDiv_lit]
  have h1 := fmod_in (a := (c.natAbs : Int)) (b := 2147483629) (by decide)
  have h2 := fmod_in (a := (c.natAbs : Int)) (b := 2147483587) (by decide)
  refine ⟨_, _, _, ⟨?_, ?_, ?_, ?_, ?_⟩, rfl, rfl, rfl⟩
  · split <;> omega
  all_goals omega
theorem digit_ev {x y z b : Int} (h : StOk x y z) (hb : 1 ≤ b) (hb1 : b < 4096) : ∃ r x' y', StOk x' y' z ∧ 0 ≤ r ∧ r < b ∧ d__law_digit [stD x y z, .int b] = .ret (.int r) [stD x' y' z] := by
  unfold d__law_digit
  have hb0 : b ≠ 0 := by omega
  have h1 : fitsDiv b := fitsDiv_lit hb0 (by omega)
  obtain ⟨x0, y0, y1, z0, z1⟩ := h
  have h2 : fitsMul y (y.fdiv 1009 + 69621) := fitsMul_l (by omega)
  by_cases hx : 0 < x
  · have h3 := fmod_in (a := x) (b := b) (by omega)
    simp [runD_ap, fitsPow_lit, fitsDiv_lit, hb0, h1, h2, hx]
    refine ⟨_, _, _, ?_, h3.1, h3.2, rfl, rfl, rfl⟩
    exact ⟨Int.fdiv_nonneg x0 (by omega), y0, y1, z0, z1⟩
  · simp [runD_ap, fitsPow_lit, fitsDiv_lit, hb0, h1, h2, hx]
    have h3 := fun a => fmod_in (a := a) (b := b) (by omega)
    have h4 := fun a => fmod_in (a := a) (b := 2147483629) (by decide)
    refine ⟨_, _, _, ?_, (h3 _).1, (h3 _).2, rfl, rfl, rfl⟩
    have h5 := h4 (y * (y.fdiv 1009 + 69621) + z)
    exact ⟨x0, by omega, by omega, z0, z1⟩
theorem sm_lit {n : Nat} {a : Int} (m : Nat) (h : a.natAbs < m) (h2 : m ≤ 2 ^ n := by decide) : Sm n a := Nat.lt_of_lt_of_le h h2
/-- a drawn number -/
theorem drawn_ev {x y z : Int} (h : StOk x y z) : ∃ r x' y', StOk x' y' z ∧ Sm 68 r ∧ d__law_drawn [stD x y z] = .ret (.int r) [stD x' y' z] := by
  obtain ⟨r1, x1, y1, h1, a1, b1, e1⟩ := digit_ev h (b := 13) (by decide) (by decide)
  obtain ⟨r2, x2, y2, h2, a2, b2, e2⟩ := digit_ev h1 (b := 2001) (by decide) (by decide)
  obtain ⟨r3, x3, y3, h3, a3, b3, e3⟩ := digit_ev h2 (b := 99) (by decide) (by decide)
  obtain ⟨r4, x4, y4, h4, a4, b4, e4⟩ := digit_ev h3 (b := 5) (by decide) (by decide)
  have m : fitsMul (-7) 1000000000000 := fitsMul_l (by decide)
  obtain ⟨d, hd, e5⟩ := atI_in (l := [D.int (r1 - 6), .int (r2 - 1000), .int (100000000000000000000 + r3), .int (-7000000000000), .int 0]) (a := r4) a4 (by simp; omega)
  unfold d__law_drawn
  simp [runD_ap, fitsPow_lit, e1, e2, e3, e4, m, e5]
  simp at hd
  rcases hd with rfl | rfl | rfl | rfl | rfl <;> exact ⟨_, _, _, h4, sm_lit 200000000000000000000 (by omega), rfl, rfl, rfl⟩
theorem pair_ev {x y z : Int} (h : StOk x y z) : ∃ a b x' y', StOk x' y' z ∧ Sm 68 a ∧ Sm 68 b ∧ b ≠ 0 ∧ d__law_pair [stD x y z] = .ret (.tup [.int a, .int b]) [stD x' y' z] := by
  obtain ⟨a, x1, y1, h1, s1, e1⟩ := drawn_ev h
  obtain ⟨b, x2, y2, h2, s2, e2⟩ := drawn_ev h1
  unfold d__law_pair
  by_cases hb : b = 0
  · subst hb
    obtain ⟨r3, x3, y3, h3, a3, b3, e3⟩ := digit_ev h2 (b := 3) (by decide) (by decide)
    obtain ⟨d, hd, e5⟩ := atI_in (l := [D.int (-3), .int 1, .int 6]) (a := r3) a3 (by simp; omega)
    simp [runD_ap, e1, e2, e3, e5]
    simp at hd
    rcases hd with rfl | rfl | rfl <;> exact ⟨_, _, _, _, h3, s1, sm_lit 200000000000000000000 (by decide), by decide, ⟨rfl, rfl⟩, rfl, rfl⟩
  · simp [runD_ap, e1, e2, hb]
    exact ⟨_, _, _, _, h2, s1, s2, hb, ⟨rfl, rfl⟩, rfl, rfl⟩
/-! ### divisor and share -/
theorem while_gcd (dc : List D → R Bool) (db : List D → O) (mk : Int → Int → List D) (h0 : ∀ a, dc (mk a 0) = .ok false (mk a 0)) (h1 : ∀ a b, b ≠ 0 → dc (mk a b) = .ok true (mk a b)) (h2 : ∀ a b, b ≠ 0 → db (mk a b) = .nx (mk b (a.fmod b))) :
    ∀ (n : Nat) (a b : Nat), b ≤ n → whileD dc db (mk a b) = .nx (mk (Nat.gcd a b) 0)
  | n, a, 0, _ => by rw [Nat.gcd_zero_right]; exact whileD_stop (h0 a)
  | 0, a, b + 1, h => by omega
  | n + 1, a, b + 1, h => by
    have hb : ((b + 1 : Nat) : Int) ≠ 0 := by omega
    rw [whileD_turn (h1 _ _ hb) (h2 _ _ hb)]
    have e : (a : Int).fmod ((b + 1 : Nat) : Int) = ((a % (b + 1) : Nat) : Int) := by
      rw [Int.fmod_eq_emod_of_nonneg _ (by omega)]
      omega
    have hl : a % (b + 1) < b + 1 := Nat.mod_lt _ (by omega)
    rw [e, while_gcd dc db mk h0 h1 h2 n (b + 1) (a % (b + 1)) (by omega)]
    have := Nat.gcd_rec (b + 1) a
    rw [Nat.gcd_comm a (b + 1), this, Nat.gcd_comm]
theorem divisor_ev (a b : Nat) : d_divisor [.int a, .int b] = .ret (.int (Nat.gcd a b)) [] := by
  unfold d_divisor
  have e := while_gcd c_divisor_0 b_divisor_0 (fun a b => [.int a, .int b]) (by intro a; simp [c_divisor_0]) (by intro a b h; simp [c_divisor_0, h]) (by intro a b h; simp [b_divisor_0, h]) b a b (Nat.le_refl b)
  simp [runD_ap, e]
abbrev frD (a b : Int) : D := .tup [.int (fn a b), .int (fd a b)]
theorem share_ev {a b : Int} {n : Nat} (hb : b ≠ 0) (sb : Sm n b) (hn : n ≤ 9000 := by decide) : d_share [.int a, .int b] = .ret (frD a b) [] := by
  have hg : 0 < Nat.gcd a.natAbs b.natAbs := Nat.gcd_pos_of_pos_right _ (by omega)
  have hg2 : Nat.gcd a.natAbs b.natAbs ≤ b.natAbs := Nat.gcd_le_right _ (by omega)
  have hs : Sm n (Nat.gcd a.natAbs b.natAbs : Int) := sb.le (by omega)
  have f1 : fitsDiv (Nat.gcd a.natAbs b.natAbs : Int) := hs.div (by omega) hn
  have f2 : fitsDiv (-(Nat.gcd a.natAbs b.natAbs : Int)) := hs.neg.div (by omega) hn
  unfold d_share frD fn fd fg
  by_cases h : b < 0
  · simp [runD_ap, hb, h, divisor_ev, f1, f2]
  · simp [runD_ap, hb, h, divisor_ev, f1, f2]
theorem share_none (a : Int) : d_share [.int a, .int 0] = .exc "NoShare" [] [] := by
  unfold d_share
  simp [runD_ap]
theorem sm_fn {n : Nat} {a : Int} (b : Int) (h : Sm n a) : Sm n (fn a b) := h.le (fn_abs_le a b)
theorem sm_fd {n : Nat} (a : Int) {b : Int} (h : Sm n b) : Sm n (fd a b) := h.le (fd_abs_le a b)
/-- small enough for sums and products -/
theorem plus_ev {a b c d : Int} {n : Nat} (ha : Sm n a) (hb : Sm n b) (hc : Sm n c) (hd : Sm n d) (b0 : b ≠ 0) (d0 : d ≠ 0) (hn : n ≤ 4000 := by decide) : d_plus [.tup [.int a, .int b], .tup [.int c, .int d]] = .ret (frD (a * d + c * b) (b * d)) [] := by
  have m1 := ha.fits hd (by omega) (by omega)
  have m2 := hc.fits hb (by omega) (by omega)
  have m3 := hb.fits hd (by omega) (by omega)
  have e := share_ev (a := a * d + c * b) (b := b * d) (fun z => (Int.mul_eq_zero.mp z).elim b0 d0) (hb.mul hd) (by omega)
  unfold d_plus
  simp [runD_ap, m1, m2, m3, e]
theorem times_ev {a b c d : Int} {n : Nat} (ha : Sm n a) (hb : Sm n b) (hc : Sm n c) (hd : Sm n d) (b0 : b ≠ 0) (d0 : d ≠ 0) (hn : n ≤ 4000 := by decide) : d_times [.tup [.int a, .int b], .tup [.int c, .int d]] = .ret (frD (a * c) (b * d)) [] := by
  have m1 := ha.fits hc (by omega) (by omega)
  have m3 := hb.fits hd (by omega) (by omega)
  have e := share_ev (a := a * c) (b := b * d) (fun z => (Int.mul_eq_zero.mp z).elim b0 d0) (hb.mul hd) (by omega)
  unfold d_times
  simp [runD_ap, m1, m3, e]
theorem less_ev {a b c d : Int} {n : Nat} (ha : Sm n a) (hb : Sm n b) (hc : Sm n c) (hd : Sm n d) (b0 : b ≠ 0) (d0 : d ≠ 0) (hn : n ≤ 4000 := by decide) : d_less [.tup [.int a, .int b], .tup [.int c, .int d]] = .ret (frD (a * d - c * b) (b * d)) [] := by
  have e := plus_ev ha hb hc.neg hd b0 d0 hn
  have e1 : a * d + -c * b = a * d - c * b := by grind
  rw [e1] at e
  unfold d_less
  simp [runD_ap, e]
def sgn (a : Int) : Int := (if 0 < a then 1 else 0) - (if a < 0 then 1 else 0)
theorem compared_ev {a b c d : Int} {n : Nat} (ha : Sm n a) (hb : Sm n b) (hc : Sm n c) (hd : Sm n d) (b0 : b ≠ 0) (d0 : d ≠ 0) (hn : n ≤ 4000 := by decide) : d_compared [.tup [.int a, .int b], .tup [.int c, .int d]] = .ret (.int (sgn ((a * d - c * b) * (b * d)))) [] := by
  have e := less_ev ha hb hc hd b0 d0 hn
  obtain ⟨s1, s2⟩ := fn_sign (a := a * d - c * b) (b := b * d) (fun z => (Int.mul_eq_zero.mp z).elim b0 d0)
  unfold d_compared sgn
  simp [runD_ap, e, s1, s2]
theorem none_ev (a : Int) : d__law_none [.int a] = .ret (.bl true) [] := by
  unfold d__law_none tryAsD
  simp [runD_ap, share_none, mtOf, noEx, goneO]
theorem is_ev {p q A B : Int} (hq : 0 < q) (c : Nat.Coprime p.natAbs q.natAbs) (m1 : fitsMul p B) (m2 : fitsMul A q) (e : p * B = A * q) : d__law_is [.tup [.int p, .int q], .int A, .int B] = .ret (.bl true) [] := by
  have w := while_gcd c__law_is_0 b__law_is_0 (fun a b => [.tup [.int p, .int q], .int A, .int B, .int a, .int b]) (by intro a; simp [c__law_is_0]) (by intro a b h; simp [c__law_is_0, h]) (by intro a b h; simp [b__law_is_0, h]) q.natAbs p.natAbs q.natAbs (Nat.le_refl _)
  have hq2 : (q.natAbs : Int) = q := by omega
  rw [hq2] at w
  unfold d__law_is
  have h1 : ¬ q < 1 := by omega
  have g : Nat.gcd p.natAbs q.natAbs = 1 := c
  simp [runD_ap, h1, m1, m2, e, w, g]
theorem body_ev (sc : D) (cell : Int) (u2 u3 u4 u5 u6 u7 u8 u9 : D) : ∃ v2 v3 v4 v5 v6 v7 v8 v9, b_law_0 [sc, .int cell, u2, u3, u4, u5, u6, u7, u8, u9] = .nx [sc, .int cell, v2, v3, v4, v5, v6, v7, v8, v9] := by
  obtain ⟨x0, y0, z0, h0, e0⟩ := state_ev cell
  obtain ⟨a, b, x1, y1, h1, sa, sb, b0, e1⟩ := pair_ev h0
  obtain ⟨c, d, x2, y2, h2, sc', sd, d0, e2⟩ := pair_ev h1
  obtain ⟨e, f, x3, y3, h3, se, sf, f0, e3⟩ := pair_ev h2
  have bd0 : b * d ≠ 0 := fun z => (Int.mul_eq_zero.mp z).elim b0 d0
  have df0 : d * f ≠ 0 := fun z => (Int.mul_eq_zero.mp z).elim d0 f0
  have fb0 : f * b ≠ 0 := fun z => (Int.mul_eq_zero.mp z).elim f0 b0
  have sad := sa.mul sd
  have scb := sc'.mul sb
  have sbd := sb.mul sd
  have sac := sa.mul sc'
  -- the numbers fit
  have m1 := sa.fits sd (by decide) (by decide)
  have m2 := sc'.fits sb (by decide) (by decide)
  have m3 := sb.fits sd (by decide) (by decide)
  have m4 := sa.fits sc' (by decide) (by decide)
  have m5 := (sad.sub scb).fits sb (by decide) (by decide)
  have m6 := ((sad.sub scb).mul sb).fits sd (by decide) (by decide)
  -- share
  have c1 := share_ev (a := a) b0 sb
  have k1 := is_ev (p := fn a b) (q := fd a b) (A := a) (B := b) (fd_pos b0) (fr_cop b0) ((sm_fn b sa).fits sb (by decide) (by decide)) (sa.fits (sm_fd a sb) (by decide) (by decide)) (fr_cross a b)
  have isN : ∀ A B n, Sm n A → Sm n B → B ≠ 0 → n ≤ 4000 → d__law_is [frD A B, .int A, .int B] = .ret (.bl true) [] := fun A B n hA hB h hn => is_ev (fd_pos h) (fr_cop h) ((sm_fn B hA).fits hB (by omega) (by omega)) (hA.fits (sm_fd A hB) (by omega) (by omega)) (fr_cross A B)
  -- plus, times, less
  have c2 := plus_ev sa sb sc' sd b0 d0
  have k2 := isN (a * d + c * b) (b * d) 200 ((sad.add scb).mono (by decide)) (sbd.mono (by decide)) bd0 (by decide)
  have c3 := times_ev sa sb sc' sd b0 d0
  have k3 := isN (a * c) (b * d) 200 (sac.mono (by decide)) (sbd.mono (by decide)) bd0 (by decide)
  have c4 := less_ev sa sb sc' sd b0 d0
  have k4 := isN (a * d - c * b) (b * d) 200 ((sad.sub scb).mono (by decide)) (sbd.mono (by decide)) bd0 (by decide)
  have c5 := compared_ev sa sb sc' sd b0 d0
  have c6 := compared_ev sa sb (sm_fn b sa) (sm_fd a sb) b0 (by have := fd_pos (a := a) b0; omega)
  have k5 : sgn ((a * d - c * b) * (b * d)) = (if 0 < (a * d - c * b) * b * d then 1 else 0) - (if (a * d - c * b) * b * d < 0 then 1 else 0) := by
    unfold sgn
    rw [Int.mul_assoc]
  have k6 : sgn ((a * fd a b - fn a b * b) * (b * fd a b)) = 0 := by
    rw [fr_cross]
    simp [sgn]
  have c7 : d_plus [.tup [.int c, .int d], .tup [.int a, .int b]] = .ret (frD (a * d + c * b) (b * d)) [] := by
    rw [plus_ev sc' sd sa sb d0 b0, Int.add_comm, Int.mul_comm d b]
  -- sums of sums
  have s1 := (sad.add scb).mono (m := 137) (by decide)
  have s2 := sbd.mono (m := 137) (by decide)
  have q1 := fd_pos (a := a * d + c * b) bd0
  have p1 := plus_ev (sm_fn (b * d) s1) (sm_fd (a * d + c * b) s2) (se.mono (by decide)) (sf.mono (by decide)) (by omega) f0
  have p2 := plus_ev (se.mono (by decide)) (sf.mono (by decide)) (sm_fn (b * d) s1) (sm_fd (a * d + c * b) s2) f0 (by omega)
  rw [Int.add_comm (e * fd (a * d + c * b) (b * d)), Int.mul_comm f] at p2
  -- a product of a sum
  have scf := sc'.mul sf
  have sed := se.mul sd
  have sdf := sd.mul sf
  have s3 := (scf.add sed).mono (m := 137) (by decide)
  have s4 := sdf.mono (m := 137) (by decide)
  have q2 := fd_pos (a := c * f + e * d) df0
  have q3 := fd_pos (a := a * c) bd0
  have q4 := fd_pos (a := e * a) fb0
  have r1 := plus_ev sc' sd se sf d0 f0
  have r2 := times_ev (sa.mono (by decide)) (sb.mono (by decide)) (sm_fn (d * f) s3) (sm_fd (c * f + e * d) s4) b0 (by omega)
  have r4 := times_ev se sf sa sb f0 b0
  have r5 := plus_ev (sm_fn (b * d) (sac.mono (m := 137) (by decide))) (sm_fd (a * c) s2) (sm_fn (f * b) ((se.mul sa).mono (m := 137) (by decide))) (sm_fd (e * a) ((sf.mul sb).mono (m := 137) (by decide))) (by omega) (by omega)
  have t1 := fr_cross (c * f + e * d) (d * f)
  have t2 := fr_cross (a * c) (b * d)
  have t3 := fr_cross (e * a) (f * b)
  have key : frD (fn (a * c) (b * d) * fd (e * a) (f * b) + fn (e * a) (f * b) * fd (a * c) (b * d)) (fd (a * c) (b * d) * fd (e * a) (f * b)) = frD (a * fn (c * f + e * d) (d * f)) (b * fd (c * f + e * d) (d * f)) := by
    generalize fn (c * f + e * d) (d * f) = n2 at *
    generalize fd (c * f + e * d) (d * f) = k2 at *
    generalize fn (a * c) (b * d) = n3 at *
    generalize fd (a * c) (b * d) = k3 at *
    generalize fn (e * a) (f * b) = n4 at *
    generalize fd (e * a) (f * b) = k4 at *
    have z : (n3 * k4 + n4 * k3) * (b * k2) = a * n2 * (k3 * k4) := by
      refine Int.eq_of_mul_eq_mul_right (a := d * f * b) (fun z => (Int.mul_eq_zero.mp z).elim df0 b0) ?_
      have w1 : (n3 * k4 + n4 * k3) * (b * k2) * (d * f * b) = b * k2 * ((n3 * (b * d)) * (f * k4) + (n4 * (f * b)) * (d * k3)) := by grind
      have w2 : a * n2 * (k3 * k4) * (d * f * b) = a * (k3 * k4) * b * (n2 * (d * f)) := by grind
      rw [w1, w2, t1, t2, t3]
      grind
    obtain ⟨z1, z2⟩ := fr_eq (a := n3 * k4 + n4 * k3) (b := k3 * k4) (c := a * n2) (d := b * k2) (fun z => (Int.mul_eq_zero.mp z).elim (by omega) (by omega)) (fun z => (Int.mul_eq_zero.mp z).elim b0 (by omega)) z
    unfold frD
    rw [z1, z2]
  rw [key] at r5
  unfold b_law_0
  simp [e0, e1, e2, e3, c1, k1, none_ev, m1, m2, m3, m4, m5, m6, c2, k2, c3, k3, c4, k4, c5, c6, k5, k6, c7, p1, p2, r1, r2, r4, r5]
theorem loop_ev (sc : D) : ∀ (l : List Int) (u1 u2 u3 u4 u5 u6 u7 u8 u9 : D), ∃ v1 v2 v3 v4 v5 v6 v7 v8 v9, forGo (gnD 1) b_law_0 (l.map D.int) [sc, u1, u2, u3, u4, u5, u6, u7, u8, u9] = .nx [sc, v1, v2, v3, v4, v5, v6, v7, v8, v9]
  | [], u1, u2, u3, u4, u5, u6, u7, u8, u9 => ⟨_, _, _, _, _, _, _, _, _, rfl⟩
  | n :: l, u1, u2, u3, u4, u5, u6, u7, u8, u9 => by
    obtain ⟨w2, w3, w4, w5, w6, w7, w8, w9, e⟩ := body_ev sc n u2 u3 u4 u5 u6 u7 u8 u9
    obtain ⟨v1, v2, v3, v4, v5, v6, v7, v8, v9, e2⟩ := loop_ev sc l (.int n) w2 w3 w4 w5 w6 w7 w8 w9
    refine ⟨v1, v2, v3, v4, v5, v6, v7, v8, v9, ?_⟩
    simp only [List.map_cons, forGo, gnD_ap, List.set_cons_succ, List.set_cons_zero, e]
    exact e2
theorem law_eq (ns : List Int) (hl : ns.length ≤ 63) (_ : ∀ z ∈ ns, PySem.Builtin.Int.intBits z ≤ 1048576) : ∃ outs, d_law [.lst (ns.map D.int)] = .ret (.bl true) outs := by
  have hc : ∀ lo hi, cutL (ns.map D.int ++ [D.int 0]) lo hi = (((ns ++ [0]).drop (HT.sIx (ns.length + 1) 0 lo)).take (HT.sIx (ns.length + 1) (ns.length + 1) hi - HT.sIx (ns.length + 1) 0 lo)).map D.int := fun lo hi => by
    unfold cutL
    rw [show ns.map D.int ++ [D.int 0] = (ns ++ [0]).map D.int by simp, ← List.map_drop, ← List.map_take]
    simp
  obtain ⟨v1, v2, v3, v4, v5, v6, v7, v8, v9, e⟩ := loop_ev (.lst (ns.map D.int)) (((ns ++ [0]).drop (HT.sIx (ns.length + 1) 0 none)).take (HT.sIx (ns.length + 1) (ns.length + 1) (some 15) - HT.sIx (ns.length + 1) 0 none)) .unb .unb .unb .unb .unb .unb .unb .unb .unb
  rw [← hc] at e
  have hz : ns.length + 1 ≤ PySem.sizeLine := Nat.le_trans (Nat.succ_le_succ hl) (by decide)
  refine ⟨[], ?_⟩
  unfold d_law forD itD sliceD addD noPartD partD cutD
  simp [runD_ap, hz, e]
end K21
namespace K21
open PySem PySem.Spec PyProof.Rows L2 DL
noncomputable section
def topS (i : Nat) : Stmt := PySem.Challenge.pw_bestreply_k21_shares.main.body.getD i (.Pass ⟨0, 0, 0, 0⟩)
abbrev s__law_state : Stmt := topS 12
def a__law_state : He.DefD := ⟨("_law_state", none), "_law_state", "_law_state", defArgs s__law_state, defBody s__law_state, defScope s__law_state, [], []⟩
abbrev s__law_digit : Stmt := topS 13
def a__law_digit : He.DefD := ⟨("_law_digit", none), "_law_digit", "_law_digit", defArgs s__law_digit, defBody s__law_digit, defScope s__law_digit, [], []⟩
abbrev s__law_drawn : Stmt := topS 14
def a__law_drawn : He.DefD := ⟨("_law_drawn", none), "_law_drawn", "_law_drawn", defArgs s__law_drawn, defBody s__law_drawn, defScope s__law_drawn, [], []⟩
abbrev s__law_pair : Stmt := topS 15
def a__law_pair : He.DefD := ⟨("_law_pair", none), "_law_pair", "_law_pair", defArgs s__law_pair, defBody s__law_pair, defScope s__law_pair, [], []⟩
abbrev s__law_is : Stmt := topS 16
def a__law_is : He.DefD := ⟨("_law_is", none), "_law_is", "_law_is", defArgs s__law_is, defBody s__law_is, defScope s__law_is, [], []⟩
abbrev s_divisor : Stmt := topS 4
def a_divisor : He.DefD := ⟨("divisor", none), "divisor", "divisor", defArgs s_divisor, defBody s_divisor, defScope s_divisor, [], []⟩
abbrev s_share : Stmt := topS 5
def a_share : He.DefD := ⟨("share", none), "share", "share", defArgs s_share, defBody s_share, defScope s_share, [], []⟩
abbrev s_plus : Stmt := topS 6
def a_plus : He.DefD := ⟨("plus", none), "plus", "plus", defArgs s_plus, defBody s_plus, defScope s_plus, [], []⟩
abbrev s_times : Stmt := topS 7
def a_times : He.DefD := ⟨("times", none), "times", "times", defArgs s_times, defBody s_times, defScope s_times, [], []⟩
abbrev s__law_none : Stmt := topS 17
def a__law_none : He.DefD := ⟨("_law_none", none), "_law_none", "_law_none", defArgs s__law_none, defBody s__law_none, defScope s__law_none, [], []⟩
abbrev s_less : Stmt := topS 8
def a_less : He.DefD := ⟨("less", none), "less", "less", defArgs s_less, defBody s_less, defScope s_less, [], []⟩
abbrev s_compared : Stmt := topS 9
def a_compared : He.DefD := ⟨("compared", none), "compared", "compared", defArgs s_compared, defBody s_compared, defScope s_compared, [], []⟩
abbrev s_law : Stmt := topS 18
def a_law : He.DefD := ⟨("law", none), "law", "law", defArgs s_law, defBody s_law, defScope s_law, [], []⟩
def fns : List He.DefD := [a__law_state, a__law_digit, a__law_drawn, a__law_pair, a__law_is, a_divisor, a_share, a_plus, a_times, a__law_none, a_less, a_compared, a_law]
def facts : List He.Fa := [.free "abs",
  .free "int",
  .glo "_law_digit",
  .glo "_law_drawn",
  .free "isinstance",
  .free "tuple",
  .free "len",
  .glo "NoShare",
  .exc "NoShare",
  .glo "divisor",
  .glo "share",
  .glo "ReplyError",
  .free "ValueError",
  .exm "NoShare" "NoShare" true,
  .glo "plus",
  .glo "less",
  .glo "_law_state",
  .glo "_law_pair",
  .glo "_law_is",
  .glo "_law_none",
  .glo "times",
  .glo "compared",
  .glo "law"]
def exL (K : PySem.W.Frag) : List Bool := [decide (PySem.W.kitOne K (.ref (He.ga K "NoShare")) (.ref (He.ga K "ReplyError")) = some true),
  excB K (He.ga K "NoShare"),
  decide (PySem.W.kitOne K (.ref (He.ga K "NoShare")) (.type "ValueError") = some true)]
def exB (K : PySem.W.Frag) : Bool := (exL K).all id
abbrev Cx (K : PySem.W.Frag) (mg : Str → Option Value) : Prop := Ctx facts fns exB K mg
theorem exf {K : PySem.W.Frag} {mg : Str → Option Value} (c : Cx K mg) (i : Nat) {b : Bool} (e : (exL K)[i]? = some b := by rfl) : b = true := List.all_eq_true.mp c.ex b (List.mem_of_getElem? e)
end
section
variable {P : Program} {w : World} {K : PySem.W.Frag} {mg : Str → Option Value} {base : Heap}
theorem sc__law_state : FnScope ["cell"] ["cell"] (defScope s__law_state) := ⟨rfl, rfl, rfl, by decide +kernel, rfl, by decide +kernel, by decide +kernel⟩
theorem ok__law_state (c : Cx K mg) : ∃ fd, Df P w K mg base a__law_state fd ["cell"] [] d__law_state 1 := by
  obtain ⟨fd, F⟩ := c.d.def_ 0 (d := a__law_state) rfl
  refine ⟨fd, F, fn_denD (k := 0) F sc__law_state (by decide) fun cdv A outer s H E j hr W => ?_, outLen_run, F.bindsN fun _ _ _ _ _ _ us hl => match us, hl with | [_], _ => rfl⟩
  exact (ss_cons (s_set 0 W.nd (W.pin 0 (by decide)) (e_callB cd_abs rfl (c.free 0) rfl (l_cons (e_var 0 (pv 0)) l_nil)))
    (ss_one (s_retO (o_lstO (l_cons (e_bin od_mul (e_var 0 (pv 0)) (e_callT cd_int rfl (c.free 1) rfl (l_cons (e_cmp od_ge (e_var 0 (pv 0)) (e_bin od_pow e_int e_int) (nomark _)) l_nil))) (l_cons (e_bin od_add (e_bin od_mod (e_var 0 (pv 0)) e_int) e_int) (l_cons (e_bin od_mod (e_var 0 (pv 0)) e_int) l_nil)))))))
theorem sc__law_digit : FnScope ["state", "base", "found", "more"] ["state", "base"] (defScope s__law_digit) := ⟨rfl, rfl, rfl, by decide +kernel, rfl, by decide +kernel, by decide +kernel⟩
theorem ok__law_digit (c : Cx K mg) : ∃ fd, Df P w K mg base a__law_digit fd ["state", "base"] [0] d__law_digit 1 := by
  obtain ⟨fd, F⟩ := c.d.def_ 1 (d := a__law_digit) rfl
  refine ⟨fd, F, fn_denD (k := 0) F sc__law_digit (by decide) fun cdv A outer s H E j hr W => ?_, outLen_run, F.bindsN fun _ _ _ _ _ _ us hl => match us, hl with | [_, _], _ => rfl⟩
  exact (ss_cons (s_if (t_cmp od_gt (e_ixO 0 (pv 0) e_int (fun _ _ => rfl)) e_int (nomark _)) (ss_cons (s_set 2 W.nd (W.pin 2 (by decide)) (e_bin od_mod (e_ixO 0 (pv 0) e_int (fun _ _ => rfl)) (e_var 1 (pv 1))))
    (ss_cons (s_setix 0 (e_bin od_fdiv (e_ixO 0 (pv 0) e_int (fun _ _ => rfl)) (e_var 1 (pv 1))) (pv 0) e_int)
    (ss_one (s_ret (e_var 2 (pv 2)))))) ss_nil)
    (ss_cons (s_set 3 W.nd (W.pin 3 (by decide)) (e_bin od_mul (e_ixO 0 (pv 0) e_int (fun _ _ => rfl)) (e_bin od_add (e_bin od_fdiv (e_ixO 0 (pv 0) e_int (fun _ _ => rfl)) e_int) e_int)))
    (ss_cons (s_setix 0 (e_bin od_add (e_bin od_mod (e_bin od_add (e_var 3 (pv 3)) (e_ixO 0 (pv 0) e_int (fun _ _ => rfl))) e_int) e_int) (pv 0) e_int)
    (ss_one (s_ret (e_bin od_mod (e_bin od_fdiv (e_ixO 0 (pv 0) e_int (fun _ _ => rfl)) e_int) (e_var 1 (pv 1))))))))
theorem sc__law_drawn : FnScope ["s", "kinds"] ["s"] (defScope s__law_drawn) := ⟨rfl, rfl, rfl, by decide +kernel, rfl, by decide +kernel, by decide +kernel⟩
theorem ok__law_drawn (c : Cx K mg) : ∃ fd, Df P w K mg base a__law_drawn fd ["s"] [0] d__law_drawn 2 := by
  obtain ⟨fd, F⟩ := c.d.def_ 2 (d := a__law_drawn) rfl
  obtain ⟨fd__law_digit, D__law_digit⟩ := ok__law_digit (P := P) (w := w) (base := base) c
  refine ⟨fd, F, fn_denD (k := 1) F sc__law_drawn (by decide) fun cdv A outer s H E j hr W => ?_, outLen_run, F.bindsN fun _ _ _ _ _ _ us hl => match us, hl with | [_], _ => rfl⟩
  exact (ss_cons (s_set 1 W.nd (W.pin 1 (by decide)) (e_lst (l_cons (e_bin od_sub (e_frzo (o_fn D__law_digit hr (c.glo 2) W.take (a_io 0 (pv 0) (a_cons e_int a_nil)))) e_int) (l_cons (e_bin od_sub (e_frzo (o_fn D__law_digit hr (c.glo 2) W.take (a_io 0 (pv 0) (a_cons e_int a_nil)))) e_int) (l_cons (e_bin od_add (e_bin od_pow e_int e_int) (e_frzo (o_fn D__law_digit hr (c.glo 2) W.take (a_io 0 (pv 0) (a_cons e_int a_nil))))) (l_cons (e_bin od_mul (e_un ud_neg e_int) (e_bin od_pow e_int e_int)) (l_cons e_int l_nil)))))))
    (ss_one (s_ret (e_ix (e_var 1 (pv 1)) (e_frzo (o_fn D__law_digit hr (c.glo 2) W.take (a_io 0 (pv 0) (a_cons e_int a_nil)))) (fun _ _ => rfl)))))
theorem sc__law_pair : FnScope ["s", "found"] ["s"] (defScope s__law_pair) := ⟨rfl, rfl, rfl, by decide +kernel, rfl, by decide +kernel, by decide +kernel⟩
theorem ok__law_pair (c : Cx K mg) : ∃ fd, Df P w K mg base a__law_pair fd ["s"] [0] d__law_pair 3 := by
  obtain ⟨fd, F⟩ := c.d.def_ 3 (d := a__law_pair) rfl
  obtain ⟨fd__law_drawn, D__law_drawn⟩ := ok__law_drawn (P := P) (w := w) (base := base) c
  obtain ⟨fd__law_digit, D__law_digit⟩ := ok__law_digit (P := P) (w := w) (base := base) c
  refine ⟨fd, F, fn_denD (k := 2) F sc__law_pair (by decide) fun cdv A outer s H E j hr W => ?_, outLen_run, F.bindsN fun _ _ _ _ _ _ us hl => match us, hl with | [_], _ => rfl⟩
  exact (ss_cons (s_set 1 W.nd (W.pin 1 (by decide)) (e_tup (l_cons (e_frzo (o_fn D__law_drawn hr (c.glo 3) W.take (a_io 0 (pv 0) a_nil))) (l_cons (e_frzo (o_fn D__law_drawn hr (c.glo 3) W.take (a_io 0 (pv 0) a_nil))) l_nil))))
    (ss_cons (s_if (t_cmp (od_eq hr.units) (e_ix (e_var 1 (pv 1)) e_int (fun _ _ => rfl)) e_int (nomark _)) (ss_one (s_ret (e_tup (l_cons (e_ix (e_var 1 (pv 1)) e_int (fun _ _ => rfl)) (l_cons (e_ix (e_lst (l_cons (e_un ud_neg e_int) (l_cons e_int (l_cons e_int l_nil)))) (e_frzo (o_fn D__law_digit hr (c.glo 2) W.take (a_io 0 (pv 0) (a_cons e_int a_nil)))) (fun _ _ => rfl)) l_nil))))) ss_nil)
    (ss_one (s_ret (e_var 1 (pv 1))))))
theorem sc__law_is : FnScope ["told", "top", "bottom", "x", "y"] ["told", "top", "bottom"] (defScope s__law_is) := ⟨rfl, rfl, rfl, by decide +kernel, rfl, by decide +kernel, by decide +kernel⟩
theorem ok__law_is (c : Cx K mg) : ∃ fd, Df P w K mg base a__law_is fd ["told", "top", "bottom"] [] d__law_is 1 := by
  obtain ⟨fd, F⟩ := c.d.def_ 4 (d := a__law_is) rfl
  refine ⟨fd, F, fn_denD (k := 0) F sc__law_is (by decide) fun cdv A outer s H E j hr W => ?_, outLen_run, F.bindsN fun _ _ _ _ _ _ us hl => match us, hl with | [_, _, _], _ => rfl⟩
  exact (ss_cons (s_if (t_pw (t_or (t_not (t_val (e_isT kit_tuple rfl (c.free 4) rfl (c.free 5) rfl (e_var 0 (pv 0))))) (t_or (t_cmp (od_ne hr.units) (e_callB cd_len rfl (c.free 6) rfl (l_cons (e_var 0 (pv 0)) l_nil)) e_int (nomark _)) (t_or (t_cmp od_lt (e_ix (e_var 0 (pv 0)) e_int (fun _ _ => rfl)) e_int (nomark _)) (t_or1 (t_cmp (od_ne hr.units) (e_bin od_mul (e_ix (e_var 0 (pv 0)) e_int (fun _ _ => rfl)) (e_var 2 (pv 2))) (e_bin od_mul (e_var 1 (pv 1)) (e_ix (e_var 0 (pv 0)) e_int (fun _ _ => rfl))) (nomark _))))))) (ss_one (s_ret e_bl)) ss_nil)
    (ss_cons (s_par 3 4 W.calm W.nd (W.pin 3 (by decide)) (W.pin 4 (by decide)) (e_callB cd_abs rfl (c.free 0) rfl (l_cons (e_ix (e_var 0 (pv 0)) e_int (fun _ _ => rfl)) l_nil)) (e_ix (e_var 0 (pv 0)) e_int (fun _ _ => rfl)))
    (ss_cons (s_while W.pass (t_cmp (od_ne hr.units) (e_var 4 (pv 4)) e_int (nomark _)) (ss_one (s_par 3 4 W.calm W.nd (W.pin 3 (by decide)) (W.pin 4 (by decide)) (e_var 4 (pv 4)) (e_bin od_mod (e_var 3 (pv 3)) (e_var 4 (pv 4))))))
    (ss_one (s_ret (e_cmp (od_eq hr.units) (e_var 3 (pv 3)) e_int (nomark _)))))))
theorem sc_divisor : FnScope ["one", "other"] ["one", "other"] (defScope s_divisor) := ⟨rfl, rfl, rfl, by decide +kernel, rfl, by decide +kernel, by decide +kernel⟩
theorem ok_divisor (c : Cx K mg) : ∃ fd, Df P w K mg base a_divisor fd ["one", "other"] [] d_divisor 1 := by
  obtain ⟨fd, F⟩ := c.d.def_ 5 (d := a_divisor) rfl
  refine ⟨fd, F, fn_denD (k := 0) F sc_divisor (by decide) fun cdv A outer s H E j hr W => ?_, outLen_run, F.bindsN fun _ _ _ _ _ _ us hl => match us, hl with | [_, _], _ => rfl⟩
  exact (ss_cons (s_while W.pass (t_cmp (od_ne hr.units) (e_var 1 (pv 1)) e_int (nomark _)) (ss_one (s_par 0 1 W.calm W.nd (W.pin 0 (by decide)) (W.pin 1 (by decide)) (e_var 1 (pv 1)) (e_bin od_mod (e_var 0 (pv 0)) (e_var 1 (pv 1))))))
    (ss_one (s_ret (e_var 0 (pv 0)))))
theorem sc_share : FnScope ["above", "below", "by"] ["above", "below"] (defScope s_share) := ⟨rfl, rfl, rfl, by decide +kernel, rfl, by decide +kernel, by decide +kernel⟩
theorem ok_share (c : Cx K mg) : ∃ fd, Df P w K mg base a_share fd ["above", "below"] [] d_share 2 := by
  obtain ⟨fd, F⟩ := c.d.def_ 6 (d := a_share) rfl
  obtain ⟨fd_divisor, D_divisor⟩ := ok_divisor (P := P) (w := w) (base := base) c
  refine ⟨fd, F, fn_denD (k := 1) F sc_share (by decide) fun cdv A outer s H E j hr W => ?_, outLen_run, F.bindsN fun _ _ _ _ _ _ us hl => match us, hl with | [_, _], _ => rfl⟩
  exact (ss_cons (s_if (t_cmp (od_eq hr.units) (e_var 1 (pv 1)) e_int (nomark _)) (ss_one (s_raise0 W.calm W.take (c.xk0 7 8))) ss_nil)
    (ss_cons (s_set 2 W.nd (W.pin 2 (by decide)) (e_frzo (o_fn D_divisor hr (c.glo 9) W.take (a_cons (e_callB cd_abs rfl (c.free 0) rfl (l_cons (e_var 0 (pv 0)) l_nil)) (a_cons (e_callB cd_abs rfl (c.free 0) rfl (l_cons (e_var 1 (pv 1)) l_nil)) a_nil)))))
    (ss_cons (s_if (t_cmp od_lt (e_var 1 (pv 1)) e_int (nomark _)) (ss_one (s_set 2 W.nd (W.pin 2 (by decide)) (e_un ud_neg (e_var 2 (pv 2))))) ss_nil)
    (ss_one (s_ret (e_tup (l_cons (e_bin od_fdiv (e_var 0 (pv 0)) (e_var 2 (pv 2))) (l_cons (e_bin od_fdiv (e_var 1 (pv 1)) (e_var 2 (pv 2))) l_nil))))))))
theorem sc_plus : FnScope ["one", "other"] ["one", "other"] (defScope s_plus) := ⟨rfl, rfl, rfl, by decide +kernel, rfl, by decide +kernel, by decide +kernel⟩
theorem ok_plus (c : Cx K mg) : ∃ fd, Df P w K mg base a_plus fd ["one", "other"] [] d_plus 3 := by
  obtain ⟨fd, F⟩ := c.d.def_ 7 (d := a_plus) rfl
  obtain ⟨fd_share, D_share⟩ := ok_share (P := P) (w := w) (base := base) c
  refine ⟨fd, F, fn_denD (k := 2) F sc_plus (by decide) fun cdv A outer s H E j hr W => ?_, outLen_run, F.bindsN fun _ _ _ _ _ _ us hl => match us, hl with | [_, _], _ => rfl⟩
  exact (ss_one (s_retO (o_fn D_share hr (c.glo 10) W.take (a_cons (e_bin od_add (e_bin od_mul (e_ix (e_var 0 (pv 0)) e_int (fun _ _ => rfl)) (e_ix (e_var 1 (pv 1)) e_int (fun _ _ => rfl))) (e_bin od_mul (e_ix (e_var 1 (pv 1)) e_int (fun _ _ => rfl)) (e_ix (e_var 0 (pv 0)) e_int (fun _ _ => rfl)))) (a_cons (e_bin od_mul (e_ix (e_var 0 (pv 0)) e_int (fun _ _ => rfl)) (e_ix (e_var 1 (pv 1)) e_int (fun _ _ => rfl))) a_nil)))))
theorem sc_times : FnScope ["one", "other"] ["one", "other"] (defScope s_times) := ⟨rfl, rfl, rfl, by decide +kernel, rfl, by decide +kernel, by decide +kernel⟩
theorem ok_times (c : Cx K mg) : ∃ fd, Df P w K mg base a_times fd ["one", "other"] [] d_times 3 := by
  obtain ⟨fd, F⟩ := c.d.def_ 8 (d := a_times) rfl
  obtain ⟨fd_share, D_share⟩ := ok_share (P := P) (w := w) (base := base) c
  refine ⟨fd, F, fn_denD (k := 2) F sc_times (by decide) fun cdv A outer s H E j hr W => ?_, outLen_run, F.bindsN fun _ _ _ _ _ _ us hl => match us, hl with | [_, _], _ => rfl⟩
  exact (ss_one (s_retO (o_fn D_share hr (c.glo 10) W.take (a_cons (e_bin od_mul (e_ix (e_var 0 (pv 0)) e_int (fun _ _ => rfl)) (e_ix (e_var 1 (pv 1)) e_int (fun _ _ => rfl))) (a_cons (e_bin od_mul (e_ix (e_var 0 (pv 0)) e_int (fun _ _ => rfl)) (e_ix (e_var 1 (pv 1)) e_int (fun _ _ => rfl))) a_nil)))))
theorem sc__law_none : FnScope ["top", "found", "e"] ["top"] (defScope s__law_none) := ⟨rfl, rfl, rfl, by decide +kernel, rfl, by decide +kernel, by decide +kernel⟩
theorem ok__law_none (c : Cx K mg) : ∃ fd, Df P w K mg base a__law_none fd ["top"] [] d__law_none 3 := by
  obtain ⟨fd, F⟩ := c.d.def_ 9 (d := a__law_none) rfl
  obtain ⟨fd_share, D_share⟩ := ok_share (P := P) (w := w) (base := base) c
  refine ⟨fd, F, fn_denD (k := 2) F sc__law_none (by decide) fun cdv A outer s H E j hr W => ?_, outLen_run, F.bindsN fun _ _ _ _ _ _ us hl => match us, hl with | [_], _ => rfl⟩
  exact (ss_cons (s_set 1 W.nd (W.pin 1 (by decide)) e_bl)
    (ss_cons (s_try_as 2 rfl rfl W.nd ⟨rfl, by decide, .inl (c.glo 7)⟩ W.take (by intro k hk; exact W.pin k (by revert hk; revert k; decide))
    (mtOf_ok (M := ⟨K, mg⟩) (.cons (c.glo 7) (c.exm 13) .nil))
    (fun V pn xe tk pw => (ss_one (s_expr (e_frzo (o_fn D_share hr (c.glo 10) tk (a_cons (e_var 0 (pv 0)) (a_cons e_int a_nil)))))))
    (fun a oe cls d pn es cn fs hC hA hM => by
    obtain ⟨rfl⟩ := mtOf_one hM rfl
    obtain ⟨rfl, rfl, rfl⟩ := caught0 hC rfl (c.glo 7)
    exact (ss_one (s_set 1 W.nd (hA 1 (by decide)) (e_and (e_isE 2 hC (excB_ok (exf c 1)) rfl rfl (c.free 4) (pv 2) (pe_glob (v := .ref (He.ga K "ReplyError")) rfl (c.glo 11) rfl) (fun u h => h) (of_decide_eq_true (exf c 0))) (e_one (e_isE 2 hC (excB_ok (exf c 1)) rfl rfl (c.free 4) (pv 2) (pe_bltn (v := .ty "ValueError") rfl (c.free 12) rfl rfl) (fun u h => h) (of_decide_eq_true (exf c 2)))))))))
    (ss_one (s_ret (e_var 1 (pv 1))))))
theorem sc_less : FnScope ["one", "other"] ["one", "other"] (defScope s_less) := ⟨rfl, rfl, rfl, by decide +kernel, rfl, by decide +kernel, by decide +kernel⟩
theorem ok_less (c : Cx K mg) : ∃ fd, Df P w K mg base a_less fd ["one", "other"] [] d_less 4 := by
  obtain ⟨fd, F⟩ := c.d.def_ 10 (d := a_less) rfl
  obtain ⟨fd_plus, D_plus⟩ := ok_plus (P := P) (w := w) (base := base) c
  refine ⟨fd, F, fn_denD (k := 3) F sc_less (by decide) fun cdv A outer s H E j hr W => ?_, outLen_run, F.bindsN fun _ _ _ _ _ _ us hl => match us, hl with | [_, _], _ => rfl⟩
  exact (ss_one (s_retO (o_fn D_plus hr (c.glo 14) W.take (a_cons (e_var 0 (pv 0)) (a_cons (e_tup (l_cons (e_un ud_neg (e_ix (e_var 1 (pv 1)) e_int (fun _ _ => rfl))) (l_cons (e_ix (e_var 1 (pv 1)) e_int (fun _ _ => rfl)) l_nil))) a_nil)))))
theorem sc_compared : FnScope ["one", "other", "above"] ["one", "other"] (defScope s_compared) := ⟨rfl, rfl, rfl, by decide +kernel, rfl, by decide +kernel, by decide +kernel⟩
theorem ok_compared (c : Cx K mg) : ∃ fd, Df P w K mg base a_compared fd ["one", "other"] [] d_compared 5 := by
  obtain ⟨fd, F⟩ := c.d.def_ 11 (d := a_compared) rfl
  obtain ⟨fd_less, D_less⟩ := ok_less (P := P) (w := w) (base := base) c
  refine ⟨fd, F, fn_denD (k := 4) F sc_compared (by decide) fun cdv A outer s H E j hr W => ?_, outLen_run, F.bindsN fun _ _ _ _ _ _ us hl => match us, hl with | [_, _], _ => rfl⟩
  exact (ss_cons (s_set 2 W.nd (W.pin 2 (by decide)) (e_ix (e_frzo (o_fn D_less hr (c.glo 15) W.take (a_cons (e_var 0 (pv 0)) (a_cons (e_var 1 (pv 1)) a_nil)))) e_int (fun _ _ => rfl)))
    (ss_one (s_ret (e_bin od_sub (e_callT cd_int rfl (c.free 1) rfl (l_cons (e_cmp od_gt (e_var 2 (pv 2)) e_int (nomark _)) l_nil)) (e_callT cd_int rfl (c.free 1) rfl (l_cons (e_cmp od_lt (e_var 2 (pv 2)) e_int (nomark _)) l_nil))))))
theorem sc_law : FnScope ["script", "cell", "s", "a", "b", "c", "d", "e", "f", "across"] ["script"] (defScope s_law) := ⟨rfl, rfl, rfl, by decide +kernel, rfl, by decide +kernel, by decide +kernel⟩
theorem ok_law (c : Cx K mg) : ∃ fd, Df P w K mg base a_law fd ["script"] [] d_law 6 := by
  obtain ⟨fd, F⟩ := c.d.def_ 12 (d := a_law) rfl
  obtain ⟨fd__law_state, D__law_state⟩ := ok__law_state (P := P) (w := w) (base := base) c
  obtain ⟨fd__law_pair, D__law_pair⟩ := ok__law_pair (P := P) (w := w) (base := base) c
  obtain ⟨fd__law_is, D__law_is⟩ := ok__law_is (P := P) (w := w) (base := base) c
  obtain ⟨fd_share, D_share⟩ := ok_share (P := P) (w := w) (base := base) c
  obtain ⟨fd__law_none, D__law_none⟩ := ok__law_none (P := P) (w := w) (base := base) c
  obtain ⟨fd_plus, D_plus⟩ := ok_plus (P := P) (w := w) (base := base) c
  obtain ⟨fd_times, D_times⟩ := ok_times (P := P) (w := w) (base := base) c
  obtain ⟨fd_less, D_less⟩ := ok_less (P := P) (w := w) (base := base) c
  obtain ⟨fd_compared, D_compared⟩ := ok_compared (P := P) (w := w) (base := base) c
  have K_plus_0 : KP K fd_plus ["one", "other"] ["one", "other"] 0 [0, 1] := FunD.kp0 D_plus.fn fun _ _ _ _ _ _ us ws l1 l2 => match us, l1, ws, l2 with | [], _, [_, _], _ => rfl
  have K_plus_1 : KP K fd_plus ["one", "other"] ["other", "one"] 0 [1, 0] := FunD.kp0 D_plus.fn fun _ _ _ _ _ _ us ws l1 l2 => match us, l1, ws, l2 with | [], _, [_, _], _ => rfl
  have K_share_2 : KP K fd_share ["above", "below"] ["below", "above"] 0 [1, 0] := FunD.kp0 D_share.fn fun _ _ _ _ _ _ us ws l1 l2 => match us, l1, ws, l2 with | [], _, [_, _], _ => rfl
  refine ⟨fd, F, fn_denD (k := 5) F sc_law (by decide) fun cdv A outer s H E j hr W => ?_, outLen_run, F.bindsN fun _ _ _ _ _ _ us hl => match us, hl with | [_], _ => rfl⟩
  exact (ss_cons (s_for W.pass W.calm (i_list (e_slice (e_bin od_add (e_var 0 (pv 0)) (e_lst (l_cons e_int l_nil))) p_none (p_some e_int))) (g_name 1 W.nd (W.pin 1 (by decide))) (ss_cons (s_setO 2 W.nd (W.pin 2 (by decide)) (o_fn D__law_state hr (c.glo 16) W.take (a_cons (e_var 1 (pv 1)) a_nil)))
    (ss_cons (s_asg (e_frzo (o_fn D__law_pair hr (c.glo 17) W.take (a_io 2 (pv 2) a_nil))) (g_tup W.calm (gs_cons (g_name 3 W.nd (W.pin 3 (by decide))) (gs_cons (g_name 4 W.nd (W.pin 4 (by decide))) gs_nil)) (fun _ _ _ e => gConsD_len (fun _ _ _ e => gConsD_len (fun _ _ _ e => gNilD_len e) e) e)))
    (ss_cons (s_asg (e_frzo (o_fn D__law_pair hr (c.glo 17) W.take (a_io 2 (pv 2) a_nil))) (g_tup W.calm (gs_cons (g_name 5 W.nd (W.pin 5 (by decide))) (gs_cons (g_name 6 W.nd (W.pin 6 (by decide))) gs_nil)) (fun _ _ _ e => gConsD_len (fun _ _ _ e => gConsD_len (fun _ _ _ e => gNilD_len e) e) e)))
    (ss_cons (s_asg (e_frzo (o_fn D__law_pair hr (c.glo 17) W.take (a_io 2 (pv 2) a_nil))) (g_tup W.calm (gs_cons (g_name 7 W.nd (W.pin 7 (by decide))) (gs_cons (g_name 8 W.nd (W.pin 8 (by decide))) gs_nil)) (fun _ _ _ e => gConsD_len (fun _ _ _ e => gConsD_len (fun _ _ _ e => gNilD_len e) e) e)))
    (ss_cons (s_if (t_pw (t_or (t_not (t_val (e_frzo (o_fn D__law_is hr (c.glo 18) W.take (a_cons (e_frzo (o_fn D_share hr (c.glo 10) W.take (a_cons (e_var 3 (pv 3)) (a_cons (e_var 4 (pv 4)) a_nil)))) (a_cons (e_var 3 (pv 3)) (a_cons (e_var 4 (pv 4)) a_nil))))))) (t_or (t_not (t_val (e_frzo (o_fn D__law_none hr (c.glo 19) W.take (a_cons (e_var 3 (pv 3)) a_nil))))) (t_or1 (t_not (t_val (e_frzo (o_fn D__law_none hr (c.glo 19) W.take (a_cons e_int a_nil))))))))) (ss_one (s_ret e_bl)) ss_nil)
    (ss_cons (s_if (t_pw (t_or (t_not (t_val (e_frzo (o_fn D__law_is hr (c.glo 18) W.take (a_cons (e_frzo (o_fn D_plus hr (c.glo 14) W.take (a_cons (e_tup (l_cons (e_var 3 (pv 3)) (l_cons (e_var 4 (pv 4)) l_nil))) (a_cons (e_tup (l_cons (e_var 5 (pv 5)) (l_cons (e_var 6 (pv 6)) l_nil))) a_nil)))) (a_cons (e_bin od_add (e_bin od_mul (e_var 3 (pv 3)) (e_var 6 (pv 6))) (e_bin od_mul (e_var 5 (pv 5)) (e_var 4 (pv 4)))) (a_cons (e_bin od_mul (e_var 4 (pv 4)) (e_var 6 (pv 6))) a_nil))))))) (t_or1 (t_not (t_val (e_frzo (o_fn D__law_is hr (c.glo 18) W.take (a_cons (e_frzo (o_fn D_times hr (c.glo 20) W.take (a_cons (e_tup (l_cons (e_var 3 (pv 3)) (l_cons (e_var 4 (pv 4)) l_nil))) (a_cons (e_tup (l_cons (e_var 5 (pv 5)) (l_cons (e_var 6 (pv 6)) l_nil))) a_nil)))) (a_cons (e_bin od_mul (e_var 3 (pv 3)) (e_var 5 (pv 5))) (a_cons (e_bin od_mul (e_var 4 (pv 4)) (e_var 6 (pv 6))) a_nil)))))))))) (ss_one (s_ret e_bl)) ss_nil)
    (ss_cons (s_if (t_not (t_val (e_frzo (o_fn D__law_is hr (c.glo 18) W.take (a_cons (e_frzo (o_fn D_less hr (c.glo 15) W.take (a_cons (e_tup (l_cons (e_var 3 (pv 3)) (l_cons (e_var 4 (pv 4)) l_nil))) (a_cons (e_tup (l_cons (e_var 5 (pv 5)) (l_cons (e_var 6 (pv 6)) l_nil))) a_nil)))) (a_cons (e_bin od_sub (e_bin od_mul (e_var 3 (pv 3)) (e_var 6 (pv 6))) (e_bin od_mul (e_var 5 (pv 5)) (e_var 4 (pv 4)))) (a_cons (e_bin od_mul (e_var 4 (pv 4)) (e_var 6 (pv 6))) a_nil))))))) (ss_one (s_ret e_bl)) ss_nil)
    (ss_cons (s_set 9 W.nd (W.pin 9 (by decide)) (e_bin od_mul (e_bin od_mul (e_bin od_sub (e_bin od_mul (e_var 3 (pv 3)) (e_var 6 (pv 6))) (e_bin od_mul (e_var 5 (pv 5)) (e_var 4 (pv 4)))) (e_var 4 (pv 4))) (e_var 6 (pv 6))))
    (ss_cons (s_if (t_pw (t_or (t_cmp (od_ne hr.units) (e_frzo (o_fn D_compared hr (c.glo 21) W.take (a_cons (e_tup (l_cons (e_var 3 (pv 3)) (l_cons (e_var 4 (pv 4)) l_nil))) (a_cons (e_tup (l_cons (e_var 5 (pv 5)) (l_cons (e_var 6 (pv 6)) l_nil))) a_nil)))) (e_bin od_sub (e_callT cd_int rfl (c.free 1) rfl (l_cons (e_cmp od_gt (e_var 9 (pv 9)) e_int (nomark _)) l_nil)) (e_callT cd_int rfl (c.free 1) rfl (l_cons (e_cmp od_lt (e_var 9 (pv 9)) e_int (nomark _)) l_nil))) (nomark _)) (t_or1 (t_cmp (od_ne hr.units) (e_frzo (o_fn D_compared hr (c.glo 21) W.take (a_cons (e_tup (l_cons (e_var 3 (pv 3)) (l_cons (e_var 4 (pv 4)) l_nil))) (a_cons (e_frzo (o_fn D_share hr (c.glo 10) W.take (a_cons (e_var 3 (pv 3)) (a_cons (e_var 4 (pv 4)) a_nil)))) a_nil)))) e_int (nomark _))))) (ss_one (s_ret e_bl)) ss_nil)
    (ss_cons (s_if (t_cmp (od_ne hr.units) (e_frzo (o_fn D_plus hr (c.glo 14) W.take (a_cons (e_frzo (o_fn D_plus hr (c.glo 14) W.take (a_cons (e_tup (l_cons (e_var 3 (pv 3)) (l_cons (e_var 4 (pv 4)) l_nil))) (a_cons (e_tup (l_cons (e_var 5 (pv 5)) (l_cons (e_var 6 (pv 6)) l_nil))) a_nil)))) (a_cons (e_tup (l_cons (e_var 7 (pv 7)) (l_cons (e_var 8 (pv 8)) l_nil))) a_nil)))) (e_frzo (o_fn D_plus hr (c.glo 14) W.take (a_cons (e_tup (l_cons (e_var 7 (pv 7)) (l_cons (e_var 8 (pv 8)) l_nil))) (a_cons (e_frzo (o_fn D_plus hr (c.glo 14) W.take (a_cons (e_tup (l_cons (e_var 5 (pv 5)) (l_cons (e_var 6 (pv 6)) l_nil))) (a_cons (e_tup (l_cons (e_var 3 (pv 3)) (l_cons (e_var 4 (pv 4)) l_nil))) a_nil)))) a_nil)))) (nomark _)) (ss_one (s_ret e_bl)) ss_nil)
    (ss_cons (s_if (t_cmp (od_ne hr.units) (e_frzo (o_fn D_times hr (c.glo 20) W.take (a_cons (e_tup (l_cons (e_var 3 (pv 3)) (l_cons (e_var 4 (pv 4)) l_nil))) (a_cons (e_frzo (o_fn D_plus hr (c.glo 14) W.take (a_cons (e_tup (l_cons (e_var 5 (pv 5)) (l_cons (e_var 6 (pv 6)) l_nil))) (a_cons (e_tup (l_cons (e_var 7 (pv 7)) (l_cons (e_var 8 (pv 8)) l_nil))) a_nil)))) a_nil)))) (e_frzo (o_fn D_plus hr (c.glo 14) W.take (a_cons (e_frzo (o_fn D_times hr (c.glo 20) W.take (a_cons (e_tup (l_cons (e_var 3 (pv 3)) (l_cons (e_var 4 (pv 4)) l_nil))) (a_cons (e_tup (l_cons (e_var 5 (pv 5)) (l_cons (e_var 6 (pv 6)) l_nil))) a_nil)))) (a_cons (e_frzo (o_fn D_times hr (c.glo 20) W.take (a_cons (e_tup (l_cons (e_var 7 (pv 7)) (l_cons (e_var 8 (pv 8)) l_nil))) (a_cons (e_tup (l_cons (e_var 3 (pv 3)) (l_cons (e_var 4 (pv 4)) l_nil))) a_nil)))) a_nil)))) (nomark _)) (ss_one (s_ret e_bl)) ss_nil)
    (ss_one (s_if (t_pw (t_or (t_cmp (od_ne hr.units) (e_frzo (o_fnK0 D_plus hr (c.glo 14) K_plus_0 W.take (k_cons (e_tup (l_cons (e_var 3 (pv 3)) (l_cons (e_var 4 (pv 4)) l_nil))) (k_cons (e_tup (l_cons (e_var 5 (pv 5)) (l_cons (e_var 6 (pv 6)) l_nil))) k_nil)))) (e_frzo (o_fnK0 D_plus hr (c.glo 14) K_plus_1 W.take (k_cons (e_tup (l_cons (e_var 3 (pv 3)) (l_cons (e_var 4 (pv 4)) l_nil))) (k_cons (e_tup (l_cons (e_var 5 (pv 5)) (l_cons (e_var 6 (pv 6)) l_nil))) k_nil)))) (nomark _)) (t_or1 (t_cmp (od_ne hr.units) (e_frzo (o_fnK0 D_share hr (c.glo 10) K_share_2 W.take (k_cons (e_var 4 (pv 4)) (k_cons (e_var 3 (pv 3)) k_nil)))) (e_frzo (o_fn D_share hr (c.glo 10) W.take (a_cons (e_var 3 (pv 3)) (a_cons (e_var 4 (pv 4)) a_nil)))) (nomark _))))) (ss_one (s_ret e_bl)) ss_nil))))))))))))))
    (ss_one (s_ret e_bl)))
end
end K21
namespace K21
open PySem PySem.Spec PyProof.Rows L2 DL
abbrev R : PySem.W.OpenRow := PySem.W.OpenLaw.row PySem.Challenge.rw_bestreply_k21_shares
abbrev hk : PySem.W.Hook := He.hookX 6 facts fns [] [] exB
def ob (s : PySem.W.SharedT) : He.AlX := He.obsX 6 facts fns [] [] exB (HandSHeadRun.getT s)
theorem ob_eq (s : PySem.W.SharedT) : ob s = hk.obs s.abs := He.obsX_eq (HandSHeadRun.getT_eq s)
def loose : List Str := ["ReplyError", "NoShare", "divisor", "share", "plus", "times", "less", "compared", "_law_cell_at", "_law_state", "_law_digit", "_law_drawn", "_law_pair", "_law_is", "_law_none"]
theorem run (w : World) : HandSHeadRun.RunEq R (PySem.W.view R.prog [18]) hk ob 4000 loose w := by
  intro os
  kernel_rfl
end K21
open PySem PySem.W PySem.Calls PyProof.Rows
theorem PySem.Challenge.cw_bestreply_k21_shares_holds : PySem.Challenge.rw_bestreply_k21_shares.Holds := by
  w_on; o_law
  refine HandSHeadRun.head_any (r := OpenLaw.row PySem.Challenge.rw_bestreply_k21_shares) (q := view (OpenLaw.row PySem.Challenge.rw_bestreply_k21_shares).prog [18]) (H := K21.hk) (ob := K21.ob) (M := 4000) (loose := K21.loose) (d := HandSHeadRun.topDef (OpenLaw.row PySem.Challenge.rw_bestreply_k21_shares).prog 18) (kwd := []) K21.ob_eq
    (by kernel_rfl) (fun s => by kernel_rfl) K21.run (by kernel_rfl) (by kernel_rfl) (by kernel_rfl) (by rfl) (by first | assumption | decide +kernel) (by decide +kernel) ⟨rfl, rfl, rfl, rfl, rfl, by decide +kernel⟩ ?hw ?hc
  case hw => w_witness2
  case hc =>
    exact DL.walk_end (l := PySem.Challenge.rw_bestreply_k21_shares) (k := 6) (i := 22) (a := K21.a_law) (g := K21.d_law) rfl (by kernel_rfl) ⟨rfl, by decide, by decide⟩ (by kernel_rfl) rfl rfl (fun _ _ _ _ _ _ us hl => match us, hl with | [_], _ => rfl) rfl (fun w base K mg c => K21.ok_law c) K21.law_eq
