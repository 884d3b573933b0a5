import PyProof.Rows.All
import Wide.All
import OpenK.AllK
import Wide.FinOn
import HandS.ForMost
import HandS.Exc
import HandS.ExcInit
import HandS.ExcOwn
import HandS.TryOnly
import HandS.CallSlots
import HandS.Flow
import HandS.Wide
import HandS.WordsExc
import HandS.Deep
import HandS.ExcField
import HandS.ExcIs
import HandS.HeadHook1
import HandS.IsInst
import HandS.Defaults
import KE.KStateDown
import HandS.Ends
import HandS.Head0
import HandS.Head1
import HandS.Head2
import HandS.HeadEnd
import HandS.HeadHook2
import HandS.HeadHook4
import HandS.EndBits
import HandS.Iter
import HandS.Zip
import KE.GoesMore
import KE.GoesEnum
import HandS.Text
import HandS.FStr
import KE.KExcIs
import HandS.Codes
import KE.KTupSum
import KE.KDictZip
import HandS.Style
import PyProof.Rows.StrJoinRep
import PySem.Challenge.RW_bestreply_k52_shared_tables_built
set_option Elab.async false
set_option linter.all false
set_option maxRecDepth 100000
set_option maxHeartbeats 0
namespace DL
open PySem PySem.Spec PyProof.Rows L2
/-! ## deep values -/
inductive D where
  | unb
  | non
  | bl (b : Bool)
  | int (i : Int)
  | str (s : Str)
  | tup (l : List D)
  | lst (l : List D)
  | ins (c : Str) (l : List D)
  | ml (l : List D)
  | mi (c : Str) (l : List D)
  | dic (ks : List Key) (l : List D)
  | md (ks : List Key) (l : List D)
instance : Inhabited D := ⟨.unb⟩
/-- the fields of the program's own classes, in the order in which they are stored -/
def flds (c : Str) : List Str :=
  if c = "Game" then ["called", "table"]
  else if c = "Trial" then ["mine", "its", "sizes", "more"]
  else if c = "Table" then ["wide", "lines", "chosen", "last"]
  else if c = "Book" then ["now", "held", "past", "on"]
  else if c = "Desk" then ["kept_book"]
  else []
/-- what stands behind the module's top -/
structure Mo where
  K : PySem.W.Frag
  mg : Str → Option Value
def Ex (H H' : Hp) : Prop := ∀ a o, H a = some o → H' a = some o
theorem Ex.refl (H : Hp) : Ex H H := fun _ _ h => h
theorem Ex.trans {H H1 H2 : Hp} (a : Ex H H1) (b : Ex H1 H2) : Ex H H2 := fun x o h => b x o (a x o h)
theorem Ex.new {H : Hp} {p : Addr} {o : HO} (h : H p = none) : Ex H (upd H p o) := fun a u e => by
  rw [upd_ne (ne_of_none e h)]
  exact e
theorem ex_l {K : PySem.W.Frag} {H H' : Hp} {a : Addr} {xs : List V} (e : Ex H H') (h : SqL K H a xs) : SqL K H' a xs := by
  rcases h with (h | ⟨o, h⟩) | h
  · exact .inl (.inl (e _ _ h))
  · exact .inl (.inr ⟨o, e _ _ h⟩)
  · exact .inr h
theorem ex_t {K : PySem.W.Frag} {H H' : Hp} {a : Addr} {xs : List V} (e : Ex H H') (h : SqT K H a xs) : SqT K H' a xs := by
  rcases h with (h | ⟨o, h⟩) | h
  · exact .inl (.inl (e _ _ h))
  · exact .inl (.inr ⟨o, e _ _ h⟩)
  · exact .inr h
/-! ## what a value stands for: frozen, owned -/
mutual
inductive Rp (M : Mo) (F : Hp) : D → V → Prop
  | non : Rp M F .non .non
  | bl (b : Bool) : Rp M F (.bl b) (.bl b)
  | int (i : Int) : Rp M F (.int i) (.int i)
  | str (s : Str) : Rp M F (.str s) (.str s)
  | tup {a : Addr} {xs : List V} {l : List D} : SqT M.K F a xs → RpL M F l xs → Rp M F (.tup l) (.ref a)
  | lst {a : Addr} {xs : List V} {l : List D} : SqL M.K F a xs → RpL M F l xs → Rp M F (.lst l) (.ref a)
  | ins {c : Str} {a C dx : Addr} {fs : List (Str × V)} {l : List D} : M.mg c = some (.ref C) → fs.map (·.1) = (flds c).take fs.length → F a = some (.ins C dx fs) → RpL M F l (fs.map (·.2)) → Rp M F (.ins c l) (.ref a)
  | dic {a : Addr} {kvs : List (Key × V)} {ks : List Key} {l : List D} : F a = some (.dK kvs) → kvs.map (·.1) = ks → RpL M F l (kvs.map (·.2)) → Rp M F (.dic ks l) (.ref a)
inductive RpL (M : Mo) (F : Hp) : List D → List V → Prop
  | nil : RpL M F [] []
  | cons {d : D} {l : List D} {v : V} {xs : List V} : Rp M F d v → RpL M F l xs → RpL M F (d :: l) (v :: xs)
end
mutual
theorem Rp.mono {M : Mo} {F F' : Hp} (e : Ex F F') : ∀ {d : D} {v : V}, Rp M F d v → Rp M F' d v
  | _, _, .non => .non
  | _, _, .bl b => .bl b
  | _, _, .int i => .int i
  | _, _, .str s => .str s
  | _, _, .tup h q => .tup (ex_t e h) (RpL.mono e q)
  | _, _, .lst h q => .lst (ex_l e h) (RpL.mono e q)
  | _, _, .ins h1 h0 h2 q => .ins h1 h0 (e _ _ h2) (RpL.mono e q)
  | _, _, .dic h1 h2 q => .dic (e _ _ h1) h2 (RpL.mono e q)
theorem RpL.mono {M : Mo} {F F' : Hp} (e : Ex F F') : ∀ {l : List D} {xs : List V}, RpL M F l xs → RpL M F' l xs
  | _, _, .nil => .nil
  | _, _, .cons h q => .cons (h.mono e) (RpL.mono e q)
end
theorem RpL.length {M : Mo} {F : Hp} : ∀ {l : List D} {xs : List V}, RpL M F l xs → l.length = xs.length
  | _, _, .nil => rfl
  | _, _, .cons _ q => congrArg (· + 1) q.length
theorem RpL.get {M : Mo} {F : Hp} : ∀ {l : List D} {xs : List V} {i : Nat} {d : D}, RpL M F l xs → l[i]? = some d → ∃ v, xs[i]? = some v ∧ Rp M F d v
  | _, _, _, _, .nil, e => by simp at e
  | _, _, 0, _, .cons h _, e => by simp at e; subst e; exact ⟨_, rfl, h⟩
  | _, _, i + 1, _, .cons _ q, e => by
    obtain ⟨v, h1, h2⟩ := q.get (i := i) (by simpa using e)
    exact ⟨v, by simpa using h1, h2⟩
theorem RpL.getV {M : Mo} {F : Hp} : ∀ {l : List D} {xs : List V} {i : Nat} {v : V}, RpL M F l xs → xs[i]? = some v → ∃ d, l[i]? = some d ∧ Rp M F d v
  | _, _, _, _, .nil, e => by simp at e
  | _, _, 0, _, .cons h _, e => by simp at e; subst e; exact ⟨_, rfl, h⟩
  | _, _, i + 1, _, .cons _ q, e => by
    obtain ⟨v, h1, h2⟩ := q.getV (i := i) (by simpa using e)
    exact ⟨v, by simpa using h1, h2⟩
theorem RpL.append {M : Mo} {F : Hp} : ∀ {l m : List D} {xs ys : List V}, RpL M F l xs → RpL M F m ys → RpL M F (l ++ m) (xs ++ ys)
  | _, _, _, _, .nil, q => q
  | _, _, _, _, .cons h p, q => .cons h (p.append q)
theorem RpL.drop {M : Mo} {F : Hp} : ∀ {l : List D} {xs : List V} (n : Nat), RpL M F l xs → RpL M F (l.drop n) (xs.drop n)
  | _, _, 0, h => h
  | _, _, _ + 1, .nil => .nil
  | _, _, n + 1, .cons _ q => RpL.drop n q
theorem RpL.take {M : Mo} {F : Hp} : ∀ {l : List D} {xs : List V} (n : Nat), RpL M F l xs → RpL M F (l.take n) (xs.take n)
  | _, _, 0, _ => .nil
  | _, _, _ + 1, .nil => .nil
  | _, _, n + 1, .cons h q => .cons h (RpL.take n q)
theorem RpL.set {M : Mo} {F : Hp} {d : D} {v : V} (h : Rp M F d v) : ∀ {l : List D} {xs : List V} (n : Nat), RpL M F l xs → RpL M F (l.set n d) (xs.set n v)
  | _, _, _, .nil => .nil
  | _, _, 0, .cons _ q => .cons h q
  | _, _, n + 1, .cons p q => .cons p (RpL.set h n q)
theorem RpL.ints {M : Mo} {F : Hp} : ∀ (ns : List Int), RpL M F (ns.map D.int) (ns.map V.int)
  | [] => .nil
  | n :: r => .cons (.int n) (RpL.ints r)
theorem RpL.ints_inv {M : Mo} {F : Hp} : ∀ {ns : List Int} {xs : List V}, RpL M F (ns.map D.int) xs → xs = ns.map V.int
  | [], _, .nil => rfl
  | n :: r, _, .cons h q => by
    cases h
    rw [RpL.ints_inv q]
    rfl
abbrev Own := Addr → Option (List Nat)
mutual
inductive Ow (M : Mo) (W : Own) (F H : Hp) : List Nat → D → V → Prop
  | fz {p : List Nat} {d : D} {v : V} : Rp M F d v → Ow M W F H p d v
  | ml {p : List Nat} {a : Addr} {xs : List V} {l : List D} : W a = some p → H a = some (.lst xs) → OwL M W F H p 0 l xs → Ow M W F H p (.ml l) (.ref a)
  | mi {p : List Nat} {c : Str} {a C dx : Addr} {fs : List (Str × V)} {l : List D} : W a = some p → W dx = some p → dx ≠ a → M.mg c = some (.ref C) ∧ fs.map (·.1) = (flds c).take fs.length → H a = some (.ins C dx fs) → H dx = some (.own a) →
      OwL M W F H p 0 l (fs.map (·.2)) → Ow M W F H p (.mi c l) (.ref a)
  | md {p : List Nat} {a : Addr} {kvs : List (Key × V)} {ks : List Key} {l : List D} : W a = some p → H a = some (.dK kvs) → kvs.map (·.1) = ks → OwL M W F H p 0 l (kvs.map (·.2)) → Ow M W F H p (.md ks l) (.ref a)
inductive OwL (M : Mo) (W : Own) (F H : Hp) : List Nat → Nat → List D → List V → Prop
  | nil {p : List Nat} {k : Nat} : OwL M W F H p k [] []
  | cons {p : List Nat} {k : Nat} {d : D} {l : List D} {v : V} {xs : List V} : Ow M W F H (p ++ [k]) d v → OwL M W F H p (k + 1) l xs → OwL M W F H p k (d :: l) (v :: xs)
end
mutual
theorem Ow.tr {M : Mo} {W W' : Own} {F F' H H' : Hp} (e : Ex F F') : ∀ {p p' : List Nat} {d : D} {v : V}, (∀ a q, W a = some (p ++ q) → W' a = some (p' ++ q) ∧ ∀ o, H a = some o → H' a = some o) → Ow M W F H p d v → Ow M W' F' H' p' d v
  | _, _, _, _, _, .fz h => .fz (h.mono e)
  | p, p', _, _, k, .ml (a := a) h1 h2 q => by
    have z := k a [] (by rw [List.append_nil]; exact h1)
    rw [List.append_nil] at z
    exact .ml z.1 (z.2 _ h2) (OwL.tr e (p := p) (p' := p') k q)
  | p, p', _, _, k, .mi (a := a) (dx := dx) h1 h2 h3 h4 h5 h6 q => by
    have z := k a [] (by rw [List.append_nil]; exact h1)
    have y := k dx [] (by rw [List.append_nil]; exact h2)
    rw [List.append_nil] at z y
    exact .mi z.1 y.1 h3 h4 (z.2 _ h5) (y.2 _ h6) (OwL.tr e (p := p) (p' := p') k q)
  | p, p', _, _, k, .md (a := a) h1 h2 h3 q => by
    have z := k a [] (by rw [List.append_nil]; exact h1)
    rw [List.append_nil] at z
    exact .md z.1 (z.2 _ h2) h3 (OwL.tr e (p := p) (p' := p') k q)
theorem OwL.tr {M : Mo} {W W' : Own} {F F' H H' : Hp} (e : Ex F F') : ∀ {p p' : List Nat} {k : Nat} {l : List D} {xs : List V}, (∀ a q, W a = some (p ++ q) → W' a = some (p' ++ q) ∧ ∀ o, H a = some o → H' a = some o) → OwL M W F H p k l xs → OwL M W' F' H' p' k l xs
  | _, _, _, _, _, _, .nil => .nil
  | p, p', j, _, _, k, .cons h q => .cons (Ow.tr e (p := p ++ [j]) (p' := p' ++ [j]) (fun a r z => by
      have y := k a ([j] ++ r) (by rw [← List.append_assoc]; exact z)
      rw [← List.append_assoc] at y
      exact y) h) (OwL.tr e k q)
end
/-! the owned thing, frozen -/
mutual
def frz : D → D
  | .ml l => .lst (frzL l)
  | .mi c l => .ins c (frzL l)
  | .md ks l => .dic ks (frzL l)
  | .dic ks l => .dic ks l
  | .unb => .unb
  | .non => .non
  | .bl b => .bl b
  | .int i => .int i
  | .str s => .str s
  | .tup l => .tup l
  | .lst l => .lst l
  | .ins c l => .ins c l
def frzL : List D → List D
  | [] => []
  | d :: l => frz d :: frzL l
end
theorem Rp.frz_eq {M : Mo} {F : Hp} {d : D} {v : V} (h : Rp M F d v) : frz d = d := by
  cases h <;> (unfold frz; rfl)
mutual
theorem Ow.frz {M : Mo} {W : Own} {F F' H : Hp} (e : Ex F F') : ∀ {p : List Nat} {d : D} {v : V}, (∀ a q o, W a = some (p ++ q) → H a = some o → F' a = some o) → Ow M W F H p d v → Rp M F' (frz d) v
  | _, _, _, _, .fz h => by
    rw [h.frz_eq]
    exact h.mono e
  | p, _, _, k, .ml (a := a) h1 h2 q => by
    unfold DL.frz
    exact .lst (SqL.of (k a [] _ (by rw [List.append_nil]; exact h1) h2)) (OwL.frz e k q)
  | p, _, _, k, .mi (a := a) h1 h2 h3 h4 h5 h6 q => by
    unfold DL.frz
    exact .ins h4.1 h4.2 (k a [] _ (by rw [List.append_nil]; exact h1) h5) (OwL.frz e k q)
  | p, _, _, k, .md (a := a) h1 h2 h3 q => by
    unfold DL.frz
    exact .dic (k a [] _ (by rw [List.append_nil]; exact h1) h2) h3 (OwL.frz e k q)
theorem OwL.frz {M : Mo} {W : Own} {F F' H : Hp} (e : Ex F F') : ∀ {p : List Nat} {k : Nat} {l : List D} {xs : List V}, (∀ a q o, W a = some (p ++ q) → H a = some o → F' a = some o) → OwL M W F H p k l xs → RpL M F' (frzL l) xs
  | _, _, _, _, _, .nil => by
    unfold frzL
    exact .nil
  | p, j, _, _, k, .cons h q => by
    unfold frzL
    exact .cons (Ow.frz e (p := p ++ [j]) (fun a r o z y => k a ([j] ++ r) o (by rw [← List.append_assoc]; exact z) y) h) (OwL.frz e k q)
end
/-! ## the state of a body -/
structure Ent where
  H0 : Hp
  F0 : Hp
  W0 : Own
  P : Nat → Option V
structure RelB (e : Ent) (W : Own) (F H : Hp) : Prop where
  pres : ∀ b o, e.W0 b = none → e.H0 b = some o → H b = some o
  exF0 : Ex e.F0 F
  exF : Ex F H
  sep : ∀ a, W a ≠ none → F a = none ∧ (e.W0 a ≠ none ∨ e.H0 a = none) ∧ H a ≠ none
  fresh : ∀ a r q, W a = some (r :: q) → e.H0 a = none ∨ ∃ i v q0, r = i + 1 ∧ e.P i = some v ∧ e.W0 a = some (r :: q0)
  new : ∀ b, F b ≠ none → e.F0 b ≠ none ∨ e.H0 b = none
  stay : ∀ b, e.H0 b ≠ none → H b ≠ none
structure Rel (M : Mo) (e : Ent) (W : Own) (F H : Hp) (env : List D) (σ : L2.St) : Prop extends RelB e W F H where
  len : env.length = σ.length
  slot : ∀ i d, env[i]? = some d → d ≠ .unb → ∃ v, σ[i]? = some (some v) ∧ Ow M W F H [i + 1] d v
  pin : ∀ i v, e.P i = some v → σ[i]? = some (some v)
/-! ## results -/
inductive R (α : Type) where
  | ok (a : α) (env : List D)
  | ex (c : Str) (fs : List D) (env : List D)
  | bad
def bindR {α β : Type} (r : R α) (f : α → List D → R β) : R β := match r with
  | .ok a env => f a env
  | .ex c fs env => .ex c fs env
  | .bad => .bad
@[simp] theorem bindR_ok {α β : Type} (a : α) (env : List D) (f : α → List D → R β) : bindR (.ok a env) f = f a env := rfl
@[simp] theorem bindR_ex {α β : Type} (c : Str) (fs env : List D) (f : α → List D → R β) : bindR (.ex c fs env) f = .ex c fs env := rfl
@[simp] theorem bindR_bad {α β : Type} (f : α → List D → R β) : bindR .bad f = .bad := rfl
/-- the fields of the program's own exceptions -/
def eflds (c : Str) : List Str :=
  if c = "BadCount" then ["what", "count"]
  else if c = "NoName" then ["name"]
  else if c = "Twice" then ["name"]
  else if c = "NoSide" then ["side"]
  else if c = "NoChoice" then ["side", "choice"]
  else if c = "BadMix" then ["side"]
  else if c = "Uneven" then ["square"]
  else if c = "NoRing" then ["ranks"]
  else if c = "NoClaim" then ["name"]
  else if c = "Broken" then ["name"]
  else if c = "BadRow" then ["row", "place"]
  else []
/-- an exception of the class c, its fields in the order of eflds, as it lies behind -/
def XR (M : Mo) (F : Hp) (c : Str) (fs : List D) (cls : Value) (dd : Option Addr) : Prop :=
  ∃ C : Addr, cls = .ref C ∧ M.mg c = some (.ref C) ∧ ((fs = [] ∧ eflds c = [] ∧ dd = none) ∨ ∃ dx gs, eflds c ≠ [] ∧ dd = some dx ∧ F dx = some (.xd gs) ∧ gs.map (·.1) = (eflds c).reverse ∧ RpL M F fs.reverse (gs.map (·.2)))
theorem XR.mono {M : Mo} {F F' : Hp} {c : Str} {fs : List D} {cls : Value} {dd : Option Addr} (h : XR M F c fs cls dd) (e : Ex F F') : XR M F' c fs cls dd := by
  obtain ⟨C, h1, h2, h3⟩ := h
  refine ⟨C, h1, h2, ?_⟩
  rcases h3 with h3 | ⟨dx, gs, h0, h4, h5, h6, h7⟩
  · exact .inl h3
  · exact .inr ⟨dx, gs, h0, h4, e _ _ h5, h6, h7.mono e⟩
section
variable {α β : Type} (M : Mo) (e : Ent) (wx : WX) (rep : Hp → α → β → Prop)
def At (F : Hp) (σ : L2.St) (r : R α) (Q : β → Hp → Prop) : Prop := match r with
  | .ok d env' => ∀ W' F' H' v, Rel M e W' F' H' env' σ → Ex F F' → rep F' d v → Q v H'
  | .ex c fs env' => ∀ W' F' H' cls dd, Rel M e W' F' H' env' σ → Ex F F' → XR M F' c fs cls dd → wx cls dd σ H'
  | .bad => False
def tR (den : List D → R α) : L2.St → Hp → (β → Hp → Prop) → Prop := fun σ H Q => ∃ W F env, Rel M e W F H env σ ∧ At M e wx rep F σ (den env) Q
end
/-- the frame of a judgement: what stood at the entry, what the code wishes of exceptions -/
structure J where
  e : Ent
  wx : WX
abbrev tE (M : Mo) (j : J) (den : List D → R D) : TE := tR M j.e j.wx (Rp M) den
abbrev tT (M : Mo) (j : J) (den : List D → R Bool) : TT := tR M j.e j.wx (fun _ a b => a = b) den
abbrev tA (M : Mo) (j : J) (den : List D → R (List D)) : TA := tR M j.e j.wx (RpL M) den
abbrev mo (X : Cx) : Mo := ⟨X.K, X.mg⟩
abbrev DE (X : Cx) (j : J) (e : Expr) (den : List D → R D) : Prop := PE X e (tE (mo X) j den)
abbrev DT (X : Cx) (j : J) (e : Expr) (den : List D → R Bool) : Prop := PT X e (tT (mo X) j den)
abbrev DA (X : Cx) (j : J) (es : List Expr) (den : List D → R (List D)) : Prop := PA X es (tA (mo X) j den)
/-- what is new is new, in what is known and in the heap -/
structure Grow (F H F' H' : Hp) : Prop where
  exF : Ex F F'
  exH : Ex H H'
  sub : Ex F' H'
  new : ∀ b, F' b ≠ none → F b ≠ none ∨ H b = none
theorem Grow.refl {F H : Hp} (e : Ex F H) : Grow F H F H := ⟨Ex.refl F, Ex.refl H, e, fun _ h => .inl h⟩
theorem Ex.none {F H : Hp} (e : Ex F H) {b : Addr} (h : H b = Option.none) : F b = Option.none := by
  cases q : F b with
  | none => rfl
  | some o =>
    rw [e b o q] at h
    cases h
theorem Grow.one {F H : Hp} (e : Ex F H) {p : Addr} {o : HO} (n : H p = none) : Grow F H (upd F p o) (upd H p o) :=
  ⟨Ex.new (e.none n), Ex.new n, fun b u q => by
    by_cases h : b = p
    · subst h
      rw [upd_same] at q ⊢
      exact q
    · rw [upd_ne h] at q ⊢
      exact e b u q, fun b h => by
    by_cases hb : b = p
    · subst hb
      exact .inr n
    · rw [upd_ne hb] at h
      exact .inl h⟩
theorem Grow.trans {F H F1 H1 F2 H2 : Hp} (a : Grow F H F1 H1) (b : Grow F1 H1 F2 H2) : Grow F H F2 H2 :=
  ⟨a.exF.trans b.exF, a.exH.trans b.exH, b.sub, fun c h => by
    rcases b.new c h with h | h
    · exact a.new c h
    · exact .inr (a.exH.none h)⟩
theorem RelB.grow {e : Ent} {W : Own} {F H F' H' : Hp} (r : RelB e W F H) (g : Grow F H F' H') : RelB e W F' H' where
  pres := fun b o h1 h2 => g.exH _ _ (r.pres b o h1 h2)
  exF0 := r.exF0.trans g.exF
  exF := g.sub
  sep := fun a ha => by
    obtain ⟨h1, h2, h3⟩ := r.sep a ha
    refine ⟨?_, h2, ?_⟩
    · cases q : F' a with
      | none => rfl
      | some o =>
        rcases g.new a (by rw [q]; simp) with h | h
        · exact absurd h1 h
        · exact absurd h h3
    · cases q : H a with
      | none => exact absurd q h3
      | some o => rw [g.exH a o q]; simp
  new := fun b hb => by
    rcases g.new b hb with h | h
    · exact r.new b h
    · refine .inr ?_
      cases q : e.H0 b with
      | none => rfl
      | some o => exact absurd h (r.stay b (by rw [q]; simp))
  stay := fun b hb => by
    have h := r.stay b hb
    cases q : H b with
    | none => exact absurd q h
    | some o => rw [g.exH b o q]; simp
  fresh := r.fresh
theorem Rel.grow {M : Mo} {e : Ent} {W : Own} {F H F' H' : Hp} {env : List D} {σ : L2.St} (r : Rel M e W F H env σ) (g : Grow F H F' H') : Rel M e W F' H' env σ where
  toRelB := r.toRelB.grow g
  len := r.len
  slot := fun i d h1 h2 => by
    obtain ⟨v, h3, h4⟩ := r.slot i d h1 h2
    exact ⟨v, h3, h4.tr g.exF fun a q z => ⟨z, fun o y => g.exH a o y⟩⟩
  pin := r.pin
theorem At.mono {α β : Type} {M : Mo} {e : Ent} {wx : WX} {rep : Hp → α → β → Prop} {F F1 : Hp} {σ : L2.St} {r : R α} {Q : β → Hp → Prop} (h : At M e wx rep F σ r Q) (x : Ex F F1) : At M e wx rep F1 σ r Q := by
  cases r with
  | ok d env' => exact fun W' F' H' v a b c => h W' F' H' v a (x.trans b) c
  | ex c fs env' => exact fun W' F' H' cls dd a b c => h W' F' H' cls dd a (x.trans b) c
  | bad => exact h
/-- one thing behind another one -/
theorem At.bind {α β γ δ : Type} {M : Mo} {e : Ent} {wx : WX} {rep : Hp → α → β → Prop} {rep2 : Hp → γ → δ → Prop} {F : Hp} {σ : L2.St} {r : R α} {f : α → List D → R γ} {Q : δ → Hp → Prop} {P : β → Hp → Prop}
    (h : At M e wx rep2 F σ (bindR r f) Q)
    (k : ∀ d env1 W1 F1 H1 v, r = .ok d env1 → Rel M e W1 F1 H1 env1 σ → Ex F F1 → rep F1 d v → At M e wx rep2 F1 σ (f d env1) Q → P v H1) : At M e wx rep F σ r P := by
  cases r with
  | ok d env' => exact fun W' F' H' v a b c => k d env' W' F' H' v rfl a b c (h.mono b)
  | ex c fs env' => exact h
  | bad => exact h
theorem At.now {α β : Type} {M : Mo} {e : Ent} {wx : WX} {rep : Hp → α → β → Prop} {F : Hp} {W : Own} {H : Hp} {σ : L2.St} {d : α} {env : List D} {v : β} {Q : β → Hp → Prop} (h : At M e wx rep F σ (.ok d env) Q) (r : Rel M e W F H env σ) (p : rep F d v) : Q v H := h W F H v r (Ex.refl F) p
theorem PE.mono {X : Cx} {e : Expr} {t t' : TE} (h : PE X e t) (k : ∀ σ H Q, t' σ H Q → t σ H Q) : PE X e t' := ⟨fun pins s σ H Q I q => h.run pins s σ H Q I (k σ H Q q)⟩
theorem PT.mono {X : Cx} {e : Expr} {t t' : TT} (h : PT X e t) (k : ∀ σ H Q, t' σ H Q → t σ H Q) : PT X e t' := ⟨fun pins s σ H Q I q => h.run pins s σ H Q I (k σ H Q q)⟩
theorem PW.mono {X : Cx} {e : Expr} {t t' : TT} (h : PW X e t) (k : ∀ σ H Q, t' σ H Q → t σ H Q) : PW X e t' := ⟨fun whole pins s σ H Q I q => h.run whole pins s σ H Q I (k σ H Q q)⟩
theorem PA.mono {X : Cx} {e : List Expr} {t t' : TA} (h : PA X e t) (k : ∀ σ H Q, t' σ H Q → t σ H Q) : PA X e t' := ⟨fun pos pins s σ H Q I q => h.run pos pins s σ H Q I (k σ H Q q)⟩
theorem PS.mono {X : Cx} {e : Stmt} {t t' : TS} (h : PS X e t) (k : ∀ D σ H, t' D σ H → t D σ H) : PS X e t' := ⟨fun pins s σ H D I q => h.run pins s σ H D I (k D σ H q)⟩
theorem PSs.mono {X : Cx} {e : List Stmt} {t t' : TS} (h : PSs X e t) (k : ∀ D σ H, t' D σ H → t D σ H) : PSs X e t' := ⟨fun pins s σ H D I q => h.run pins s σ H D I (k D σ H q)⟩
theorem PI.mono {X : Cx} {tg iter : Expr} {t t' : TI} (h : PI X tg iter t) (k : ∀ σ H R, t' σ H R → t σ H R) : PI X tg iter t' := ⟨fun pins s σ H R I q => h.run pins s σ H R I (k σ H R q)⟩
section
variable {α β : Type} {M : Mo} {e : Ent} {wx : WX} {rep : Hp → α → β → Prop} {F F' H H' : Hp} {W : Own} {env : List D} {σ : L2.St}
/-- a thing that only makes new objects -/
theorem At.grow {d : α} {v : β} {Q : β → Hp → Prop} (h : At M e wx rep F σ (.ok d env) Q) (r : Rel M e W F H env σ) (g : Grow F H F' H') (p : rep F' d v) : Q v H' := h W F' H' v (r.grow g) g.exF p
end
end DL
namespace DL
open PySem PySem.Spec PyProof.Rows L2
/-! ## operators on values -/
def OpD (X : Cx) (op : Value → Value → Sem Value) (f : D → D → Option D) : Prop :=
  ∀ (pins : List (Addr × Obj)) (s : Shared) (σ : L2.St) (F H : Hp) (dx dy d : D) (x y : V) (v u : Value) (Q : VK), Inv X pins σ H s → Ex F H → Rp (mo X) F dx x → Rp (mo X) F dy y → RelV x v → RelV y u →
    f dx dy = some d → (∀ F' H' z, Grow F H F' H' → Rp (mo X) F' d z → Q z H') → wpAny (model X.prog X.w) X.A (op v u) (EP X pins σ Q) X.xe s
def UnD (X : Cx) (op : Value → Sem Value) (f : D → Option D) : Prop :=
  ∀ (pins : List (Addr × Obj)) (s : Shared) (σ : L2.St) (F H : Hp) (dx d : D) (x : V) (v : Value) (Q : VK), Inv X pins σ H s → Ex F H → Rp (mo X) F dx x → RelV x v →
    f dx = some d → (∀ F' H' z, Grow F H F' H' → Rp (mo X) F' d z → Q z H') → wpAny (model X.prog X.w) X.A (op v) (EP X pins σ Q) X.xe s
/-- a built-in that is called -/
def CallD (X : Cx) (g : Value) (f : List D → Option D) : Prop :=
  ∀ (pins : List (Addr × Obj)) (s : Shared) (σ : L2.St) (F H : Hp) (ds : List D) (d : D) (xs : List V) (us : List Value) (Q : VK), Inv X pins σ H s → Ex F H → RpL (mo X) F ds xs → Vals xs us →
    f ds = some d → (∀ F' H' z, Grow F H F' H' → Rp (mo X) F' d z → Q z H') → wpAny (model X.prog X.w) X.A (call g us) (EP X pins σ Q) X.xe s
/-- a subscript -/
def IxD (X : Cx) (f : D → D → Option D) : Prop := OpD X getItem f
def opR (o : Option D) (env : List D) : R D := match o with
  | some d => .ok d env
  | none => .bad
@[simp] theorem opR_some (d : D) (env : List D) : opR (some d) env = .ok d env := rfl
@[simp] theorem opR_none (env : List D) : opR none env = .bad := rfl
def rOpD (X : Cx) (f : D → D → Option D) : R2 := fun x y H Q => ∃ F dx dy d, Ex F H ∧ Rp (mo X) F dx x ∧ Rp (mo X) F dy y ∧ f dx dy = some d ∧ ∀ F' H' z, Grow F H F' H' → Rp (mo X) F' d z → Q z H'
theorem OpD.r {X : Cx} {op : Value → Value → Sem Value} {f : D → D → Option D} (h : OpD X op f) : OpR X op (rOpD X f) := fun pins s σ H x y v u Q I rx ry ⟨F, dx, dy, d, e, p1, p2, e1, q⟩ =>
  h pins s σ F H dx dy d x y v u Q I e p1 p2 rx ry e1 q
def rUnD (X : Cx) (f : D → Option D) : V → Hp → VK → Prop := fun x H Q => ∃ F dx d, Ex F H ∧ Rp (mo X) F dx x ∧ f dx = some d ∧ ∀ F' H' z, Grow F H F' H' → Rp (mo X) F' d z → Q z H'
theorem UnD.r {X : Cx} {op : Value → Sem Value} {f : D → Option D} (h : UnD X op f) : UnR X op (rUnD X f) := fun pins s σ H x v Q I rx ⟨F, dx, d, e, p1, e1, q⟩ =>
  h pins s σ F H dx d x v Q I e p1 rx e1 q
def rCallD (X : Cx) (f : List D → Option D) : List V → Hp → VK → Prop := fun xs H Q => ∃ F ds d, Ex F H ∧ RpL (mo X) F ds xs ∧ f ds = some d ∧ ∀ F' H' z, Grow F H F' H' → Rp (mo X) F' d z → Q z H'
theorem CallD.r {X : Cx} {g : Value} {f : List D → Option D} (h : CallD X g f) : CallR X g (rCallD X f) := fun pins s σ H xs us Q I rx ⟨F, ds, d, e, p1, e1, q⟩ =>
  h pins s σ F H ds d xs us Q I e p1 rx e1 q
/-! ## denotations -/
def constD (d : D) : List D → R D := fun env => .ok d env
def isOwn : D → Bool
  | .ml _ => true
  | .mi _ _ => true
  | .md _ _ => true
  | .unb => true
  | _ => false
def varD (i : Nat) : List D → R D := fun env => if isOwn (env.getD i .unb) then .bad else .ok (env.getD i .unb) env
def binD (f : D → D → Option D) (da db : List D → R D) : List D → R D := fun env => bindR (da env) fun x env1 => bindR (db env1) fun y env2 => opR (f x y) env2
def unD (f : D → Option D) (da : List D → R D) : List D → R D := fun env => bindR (da env) fun x env1 => opR (f x) env1
def nilD : List D → R (List D) := fun env => .ok [] env
def consD (da : List D → R D) (dr : List D → R (List D)) : List D → R (List D) := fun env => bindR (da env) fun x env1 => bindR (dr env1) fun xs env2 => .ok (x :: xs) env2
def callBD (f : List D → Option D) (da : List D → R (List D)) : List D → R D := fun env => bindR (da env) fun xs env1 => opR (f xs) env1
def testD (da : List D → R D) : List D → R Bool := fun env => bindR (da env) fun x env1 => match x with
  | .bl b => .ok b env1
  | _ => .bad
def andD (da db : List D → R Bool) : List D → R Bool := fun env => bindR (da env) fun b env1 => if b = true then db env1 else .ok false env1
def orD (da db : List D → R Bool) : List D → R Bool := fun env => bindR (da env) fun b env1 => if b = true then .ok true env1 else db env1
def notD (da : List D → R Bool) : List D → R Bool := fun env => bindR (da env) fun b env1 => .ok (!b) env1
def blD (da : List D → R Bool) : List D → R D := fun env => bindR (da env) fun b env1 => .ok (.bl b) env1
def ifD (dt : List D → R Bool) (da db : List D → R D) : List D → R D := fun env => bindR (dt env) fun b env1 => if b = true then da env1 else db env1
def tupD (da : List D → R (List D)) : List D → R D := fun env => bindR (da env) fun xs env1 => if xs.length ≤ 1000 then .ok (.tup xs) env1 else .bad
def lstD (da : List D → R (List D)) : List D → R D := fun env => bindR (da env) fun xs env1 => if xs.length ≤ 1000 then .ok (.lst xs) env1 else .bad
theorem le_line {n : Nat} (h : n ≤ 1000) : n ≤ sizeLine := Nat.le_trans h (by decide)
section
variable {X : Cx} {j : J} {a b c : Expr} {es : List Expr} {pos : Pos} {da db dc : List D → R D} {dt du : List D → R Bool} {dl : List D → R (List D)}
theorem e_const {e : Expr} {d : D} {v : V} (h : PE X e (tC v)) (r : ∀ F, Rp (mo X) F d v) : DE X j e (constD d) :=
  PE.mono h fun σ H Q ⟨W, F, env, rel, q⟩ => q W F H v rel (Ex.refl F) (r F)
theorem e_int {i : Int} {k : Nat} : DE X j (.Constant (.int i) k pos) (constD (.int i)) := e_const pe_int fun _ => .int i
theorem e_bl {i : Bool} {k : Nat} : DE X j (.Constant (.bool i) k pos) (constD (.bl i)) := e_const pe_bl fun _ => .bl i
theorem e_non {k : Nat} : DE X j (.Constant .none k pos) (constD .non) := e_const pe_non fun _ => .non
theorem e_str {i : Str} {k : Nat} : DE X j (.Constant (.str i) k pos) (constD (.str i)) := e_const pe_str fun _ => .str i
/-- a constant of the module -/
theorem e_glob {x : Str} {v : V} {u : Value} {d : D} (hg : Gl X x) (hm : X.mg x = some u) (r : RelV v u) (p : ∀ F, Rp (mo X) F d v) (hd : (x == ("__debug__" : Str)) = false := by decide) : DE X j (.Name x pos) (constD d) := e_const (pe_glob hg hm r hd) p
theorem Ow.rp {M : Mo} {W : Own} {F H : Hp} {p : List Nat} {d : D} {v : V} (h : Ow M W F H p d v) (n : isOwn d = false) : Rp M F d v := by
  cases h with
  | fz h => exact h
  | ml _ _ _ => exact absurd n (by unfold isOwn; simp)
  | mi _ _ _ _ _ _ _ => exact absurd n (by unfold isOwn; simp)
  | md _ _ _ _ => exact absurd n (by unfold isOwn; simp)
theorem getD_some {env : List D} {i : Nat} (h : isOwn (env.getD i .unb) = false) : env[i]? = some (env.getD i .unb) ∧ env.getD i .unb ≠ .unb := by
  constructor
  · rw [List.getD_eq_getElem?_getD] at h ⊢
    cases q : env[i]? with
    | none => rw [q] at h; exact absurd h (by unfold isOwn; simp)
    | some d => rfl
  · intro e
    rw [e] at h
    exact absurd h (by unfold isOwn; simp)
theorem e_var (i : Nat) {x : Str} (h : PE X (.Name x pos) (tVar i)) : DE X j (.Name x pos) (varD i) :=
  PE.mono h fun σ H Q ⟨W, F, env, rel, q⟩ => by
    unfold varD at q
    cases o : isOwn (env.getD i .unb) with
    | true => rw [o, if_pos rfl] at q; exact q.elim
    | false =>
      rw [o, if_neg (by simp)] at q
      obtain ⟨h1, h2⟩ := getD_some o
      obtain ⟨v, h3, h4⟩ := rel.slot i _ h1 h2
      exact ⟨v, h3, q W F H v rel (Ex.refl F) (h4.rp o)⟩
theorem e_bin {op : Operator} {f : D → D → Option D} (ho : OpD X (binaryOp op) f) (ha : DE X j a da) (hb : DE X j b db) : DE X j (.BinOp a op b pos) (binD f da db) :=
  PE.mono (pe_op ho.r ha hb) fun σ H Q ⟨W, F, env, rel, q⟩ => ⟨W, F, env, rel, At.bind q fun d env1 W1 F1 H1 v _ r1 x1 p1 q1 => ⟨W1, F1, env1, r1, At.bind q1 fun d2 env2 W2 F2 H2 v2 _ r2 x2 p2 q2 => by
    cases o : f d d2 with
    | none => rw [o] at q2; exact q2.elim
    | some z =>
      rw [o] at q2
      exact ⟨F2, d, d2, z, r2.exF, p1.mono x2, p2, o, fun F' H' y g p => At.grow q2 r2 g p⟩⟩⟩
theorem e_cmp {op : CmpOp} {f : D → D → Option D} (ho : OpD X (compareOp op) f) (ha : DE X j a da) (hb : DE X j b db) (hm : behindInMarks op b = false) : DE X j (.Compare a [op] [b] pos) (binD f da db) :=
  PE.mono (pe_cmpR ho.r ha hb hm) fun σ H Q ⟨W, F, env, rel, q⟩ => ⟨W, F, env, rel, At.bind q fun d env1 W1 F1 H1 v _ r1 x1 p1 q1 => ⟨W1, F1, env1, r1, At.bind q1 fun d2 env2 W2 F2 H2 v2 _ r2 x2 p2 q2 => by
    cases o : f d d2 with
    | none => rw [o] at q2; exact q2.elim
    | some z =>
      rw [o] at q2
      exact ⟨F2, d, d2, z, r2.exF, p1.mono x2, p2, o, fun F' H' y g p => At.grow q2 r2 g p⟩⟩⟩
theorem e_un {op : UnaryOp} {f : D → Option D} (ho : UnD X (unaryOp op) f) (ha : DE X j a da) : DE X j (.UnaryOp op a pos) (unD f da) :=
  PE.mono (pe_un ho.r ha) fun σ H Q ⟨W, F, env, rel, q⟩ => ⟨W, F, env, rel, At.bind q fun d env1 W1 F1 H1 v _ r1 x1 p1 q1 => by
    cases o : f d with
    | none => rw [o] at q1; exact q1.elim
    | some z =>
      rw [o] at q1
      exact ⟨F1, d, z, r1.exF, p1, o, fun F' H' y g p => At.grow q1 r1 g p⟩⟩
/-- an expression as a test -/
theorem t_of {t : TE} (h : PT X a (tB t)) (k : ∀ σ H Q, tE (mo X) j da σ H Q → t σ H Q) : DT X j a (testD da) :=
  PT.mono h fun σ H Q ⟨W, F, env, rel, q⟩ => k σ H _ ⟨W, F, env, rel, At.bind q fun d env1 W1 F1 H1 v _ r1 x1 p1 q1 => by
    cases p1 with
    | bl b => exact ⟨b, rfl, q1 W1 F1 H1 b r1 (Ex.refl F1) rfl⟩
    | _ => exact q1.elim⟩
theorem t_val (h : DE X j a da) (he : ∀ whole, isTrue a X.env whole = (do let v ← whole; standAt a.pos; holding [v] (truthy v)) := by intro _; rfl) : DT X j a (testD da) := t_of (pt_val h he) fun _ _ _ q => q
theorem t_cmp {op : CmpOp} {f : D → D → Option D} (ho : OpD X (compareOp op) f) (ha : DE X j a da) (hb : DE X j b db) (hm : behindInMarks op b = false) : DT X j (.Compare a [op] [b] pos) (testD (binD f da db)) := by
  refine PT.mono (pt_cmpR ho.r ha hb hm) fun σ H Q ⟨W, F, env, rel, q⟩ => ?_
  refine ⟨W, F, env, rel, ?_⟩
  have q : At (mo X) j.e j.wx (fun _ a b => a = b) F σ (bindR (da env) fun x env1 => bindR (bindR (db env1) fun y env2 => opR (f x y) env2) fun z env3 => match z with
    | .bl b => .ok b env3
    | _ => .bad) Q := by
    show At (mo X) j.e j.wx (fun _ a b => a = b) F σ _ Q
    have e : testD (binD f da db) env = (bindR (da env) fun x env1 => bindR (bindR (db env1) fun y env2 => opR (f x y) env2) fun z env3 => match z with
      | .bl b => .ok b env3
      | _ => .bad) := by
      unfold testD binD
      cases da env <;> rfl
    rw [← e]
    exact q
  refine At.bind q fun d env1 W1 F1 H1 v _ r1 x1 p1 q1 => ⟨W1, F1, env1, r1, ?_⟩
  have q1 : At (mo X) j.e j.wx (fun _ a b => a = b) F1 σ (bindR (db env1) fun y env2 => bindR (opR (f d y) env2) fun z env3 => match z with
    | .bl b => .ok b env3
    | _ => .bad) Q := by
    have e : (bindR (bindR (db env1) fun y env2 => opR (f d y) env2) fun z env3 => match z with
      | .bl b => (.ok b env3 : R Bool)
      | _ => .bad) = (bindR (db env1) fun y env2 => bindR (opR (f d y) env2) fun z env3 => match z with
      | .bl b => .ok b env3
      | _ => .bad) := by
      cases db env1 <;> rfl
    rw [← e]
    exact q1
  refine At.bind q1 fun d2 env2 W2 F2 H2 v2 _ r2 x2 p2 q2 => ?_
  cases o : f d d2 with
  | none => rw [o] at q2; exact q2.elim
  | some z =>
    rw [o] at q2
    refine ⟨F2, d, d2, z, r2.exF, p1.mono x2, p2, o, fun F' H' y g p => ?_⟩
    cases p with
    | bl b => exact ⟨b, rfl, q2 W2 F' H' b (r2.grow g) g.exF rfl⟩
    | _ => exact q2.elim
theorem t_and1 (ha : DT X j a dt) : PW X (.BoolOp .And [a] pos) (tT (mo X) j dt) := pw_and1 ha
theorem t_or1 (ha : DT X j a dt) : PW X (.BoolOp .Or [a] pos) (tT (mo X) j dt) := pw_or1 ha
theorem t_and (ha : DT X j a dt) (hb : PW X (.BoolOp .And (b :: es) pos) (tT (mo X) j du)) : PW X (.BoolOp .And (a :: b :: es) pos) (tT (mo X) j (andD dt du)) :=
  PW.mono (pw_and ha hb) fun σ H Q ⟨W, F, env, rel, q⟩ => ⟨W, F, env, rel, At.bind q fun d env1 W1 F1 H1 v _ r1 x1 p1 q1 => by
    subst p1
    cases d with
    | true => exact ⟨W1, F1, env1, r1, q1⟩
    | false => exact q1 W1 F1 H1 false r1 (Ex.refl F1) rfl⟩
theorem t_or (ha : DT X j a dt) (hb : PW X (.BoolOp .Or (b :: es) pos) (tT (mo X) j du)) : PW X (.BoolOp .Or (a :: b :: es) pos) (tT (mo X) j (orD dt du)) :=
  PW.mono (pw_or ha hb) fun σ H Q ⟨W, F, env, rel, q⟩ => ⟨W, F, env, rel, At.bind q fun d env1 W1 F1 H1 v _ r1 x1 p1 q1 => by
    subst p1
    cases d with
    | true => exact q1 W1 F1 H1 true r1 (Ex.refl F1) rfl
    | false => exact ⟨W1, F1, env1, r1, q1⟩⟩
theorem t_pw (h : PW X a (tT (mo X) j dt)) : DT X j a dt := h.pt
theorem t_not (ha : DT X j a dt) : DT X j (.UnaryOp .Not a pos) (notD dt) :=
  PT.mono (pt_not ha) fun σ H Q ⟨W, F, env, rel, q⟩ => ⟨W, F, env, rel, At.bind q fun d env1 W1 F1 H1 v _ r1 x1 p1 q1 => by
    subst p1
    exact q1 W1 F1 H1 (!d) r1 (Ex.refl F1) rfl⟩
/-- not, and, or as values -/
theorem e_not (ha : DE X j a da) : DE X j (.UnaryOp .Not a pos) (blD (notD (testD da))) :=
  PE.mono (pe_not ha) fun σ H Q ⟨W, F, env, rel, q⟩ => ⟨W, F, env, rel, by
    have q : At (mo X) j.e j.wx (Rp (mo X)) F σ (bindR (da env) fun x env1 => match x with
      | .bl b => .ok (.bl (!b)) env1
      | _ => .bad) Q := by
      have e : blD (notD (testD da)) env = (bindR (da env) fun x env1 => match x with
        | .bl b => .ok (.bl (!b)) env1
        | _ => .bad) := by
        unfold blD notD testD
        cases da env with
        | ok d env1 => cases d <;> rfl
        | _ => rfl
      rw [← e]
      exact q
    exact At.bind q fun d env1 W1 F1 H1 v _ r1 x1 p1 q1 => by
      cases p1 with
      | bl b => exact ⟨b, rfl, q1 W1 F1 H1 _ r1 (Ex.refl F1) (.bl _)⟩
      | _ => exact q1.elim⟩
def andV (da db : List D → R D) : List D → R D := fun env => bindR (da env) fun x env1 => match x with
  | .bl true => db env1
  | .bl false => .ok (.bl false) env1
  | _ => .bad
def orV (da db : List D → R D) : List D → R D := fun env => bindR (da env) fun x env1 => match x with
  | .bl true => .ok (.bl true) env1
  | .bl false => db env1
  | _ => .bad
theorem e_one {op : BoolOp} (ha : DE X j a da) : DE X j (.BoolOp op [a] pos) da := pe_one ha
theorem e_and (ha : DE X j a da) (hb : DE X j (.BoolOp .And (b :: es) pos) db) : DE X j (.BoolOp .And (a :: b :: es) pos) (andV da db) :=
  PE.mono (pe_and ha hb) fun σ H Q ⟨W, F, env, rel, q⟩ => ⟨W, F, env, rel, At.bind q fun d env1 W1 F1 H1 v _ r1 x1 p1 q1 => by
    cases p1 with
    | bl b =>
      refine ⟨b, rfl, ?_⟩
      cases b with
      | true => exact ⟨W1, F1, env1, r1, q1⟩
      | false => exact q1 W1 F1 H1 _ r1 (Ex.refl F1) (.bl _)
    | _ => exact q1.elim⟩
theorem e_or (ha : DE X j a da) (hb : DE X j (.BoolOp .Or (b :: es) pos) db) : DE X j (.BoolOp .Or (a :: b :: es) pos) (orV da db) :=
  PE.mono (pe_or ha hb) fun σ H Q ⟨W, F, env, rel, q⟩ => ⟨W, F, env, rel, At.bind q fun d env1 W1 F1 H1 v _ r1 x1 p1 q1 => by
    cases p1 with
    | bl b =>
      refine ⟨b, rfl, ?_⟩
      cases b with
      | true => exact q1 W1 F1 H1 _ r1 (Ex.refl F1) (.bl _)
      | false => exact ⟨W1, F1, env1, r1, q1⟩
    | _ => exact q1.elim⟩
theorem e_if (hc : DT X j c dt) (ha : DE X j a da) (hb : DE X j b db) : DE X j (.IfExp c a b pos) (ifD dt da db) :=
  PE.mono (pe_ifExp hc ha hb) fun σ H Q ⟨W, F, env, rel, q⟩ => ⟨W, F, env, rel, At.bind q fun d env1 W1 F1 H1 v _ r1 x1 p1 q1 => by
    subst p1
    cases d with
    | true => exact ⟨W1, F1, env1, r1, q1⟩
    | false => exact ⟨W1, F1, env1, r1, q1⟩⟩
/-- plain arguments -/
abbrev DL (X : Cx) (j : J) (es : List Expr) (den : List D → R (List D)) : Prop := PA X es (tR (mo X) j.e j.wx (RpL (mo X)) den)
theorem l_nil : DL X j [] nilD := PA.mono pa_nil fun σ H Q ⟨W, F, env, rel, q⟩ => q W F H [] rel (Ex.refl F) .nil
theorem l_cons (ha : DE X j a da) (hr : DL X j es dl) (hs : starEach (a :: es) X.env = (false, eval a X.env) :: starEach es X.env := by rfl) : DL X j (a :: es) (consD da dl) :=
  PA.mono (pa_cons ha hr hs) fun σ H Q ⟨W, F, env, rel, q⟩ => ⟨W, F, env, rel, At.bind q fun d env1 W1 F1 H1 v _ r1 x1 p1 q1 => ⟨W1, F1, env1, r1, At.bind q1 fun d2 env2 W2 F2 H2 v2 _ r2 x2 p2 q2 =>
    q2 W2 F2 H2 (v :: v2) r2 (Ex.refl F2) (.cons (p1.mono x2) p2)⟩⟩
theorem e_tup {k : Nat} (h : DL X j es dl) : DE X j (.Tuple es k pos) (tupD dl) :=
  PE.mono (pe_tup h) fun σ H Q ⟨W, F, env, rel, q⟩ => ⟨W, F, env, rel, At.bind q fun d env1 W1 F1 H1 v _ r1 x1 p1 q1 => by
    by_cases z : d.length ≤ 1000
    · rw [if_pos z] at q1
      exact ⟨le_line (by rw [← p1.length]; exact z), fun p n => At.grow q1 r1 (Grow.one r1.exF n) (.tup (SqT.of upd_same) (p1.mono (Ex.new (r1.exF.none n))))⟩
    · rw [if_neg z] at q1
      exact q1.elim⟩
theorem e_lst (h : DL X j es dl) : DE X j (.List es pos) (lstD dl) :=
  PE.mono (pe_lst h) fun σ H Q ⟨W, F, env, rel, q⟩ => ⟨W, F, env, rel, At.bind q fun d env1 W1 F1 H1 v _ r1 x1 p1 q1 => by
    by_cases z : d.length ≤ 1000
    · rw [if_pos z] at q1
      exact ⟨le_line (by rw [← p1.length]; exact z), fun p n => At.grow q1 r1 (Grow.one r1.exF n) (.lst (SqL.of upd_same) (p1.mono (Ex.new (r1.exF.none n))))⟩
    · rw [if_neg z] at q1
      exact q1.elim⟩
/-- a built-in by its name -/
theorem e_callB {id : String} {f : List D → Option D} {x : Str} {p : Pos} (hc : CallD X (.builtin id) f) (hg : Gl X x) (hm : X.mg x = none) (hv : bootBuiltins x = some (.builtin id)) (ha : DL X j (a :: es) dl) (hn : x ≠ "__name__" := by decide) (hdb : (x == ("__debug__" : Str)) = false := by decide)
    (he : starEach (a :: es) X.env = (false, eval a X.env) :: starEach es X.env := by rfl) (hpl : (backTo pos (starEach es X.env)).any (·.1) = false := by rfl) :
    DE X j (.Call (.Name x p) (a :: es) [] pos) (callBD f dl) :=
  PE.mono (pe_callB hc.r hg hm hv ha hn hdb he hpl) fun σ H Q ⟨W, F, env, rel, q⟩ => ⟨W, F, env, rel, At.bind q fun d env1 W1 F1 H1 v _ r1 x1 p1 q1 => by
    cases o : f d with
    | none => rw [o] at q1; exact q1.elim
    | some z =>
      rw [o] at q1
      exact ⟨F1, d, z, r1.exF, p1, o, fun F' H' y g p => At.grow q1 r1 g p⟩⟩
theorem e_callT {T : String} {f : List D → Option D} {x : Str} {p : Pos} (hc : CallD X (.type T) f) (hg : Gl X x) (hm : X.mg x = none) (hv : bootBuiltins x = some (.type T)) (ha : DL X j (a :: es) dl) (hn : x ≠ "__name__" := by decide) (hdb : (x == ("__debug__" : Str)) = false := by decide)
    (he : starEach (a :: es) X.env = (false, eval a X.env) :: starEach es X.env := by rfl) (hpl : (backTo pos (starEach es X.env)).any (·.1) = false := by rfl) :
    DE X j (.Call (.Name x p) (a :: es) [] pos) (callBD f dl) :=
  PE.mono (pe_callTy hc.r hg hm hv ha hn hdb he hpl) fun σ H Q ⟨W, F, env, rel, q⟩ => ⟨W, F, env, rel, At.bind q fun d env1 W1 F1 H1 v _ r1 x1 p1 q1 => by
    cases o : f d with
    | none => rw [o] at q1; exact q1.elim
    | some z =>
      rw [o] at q1
      exact ⟨F1, d, z, r1.exF, p1, o, fun F' H' y g p => At.grow q1 r1 g p⟩⟩
end
end DL
namespace DL
open PySem PySem.Spec PyProof.Rows L2
/-! ## plain data, for == -/
mutual
def D.py : D → Option PyData
  | .non => some .none
  | .bl b => some (.bool b)
  | .int i => some (.int i)
  | .str s => some (.str s)
  | .tup l => match pyL l with
    | some ds => some (.tuple ds)
    | none => none
  | .lst l => match pyL l with
    | some ds => some (.list ds)
    | none => none
  | .unb => none
  | .ins _ _ => none
  | .ml _ => none
  | .mi _ _ => none
  | .dic _ _ => none
  | .md _ _ => none
def pyL : List D → Option (List PyData)
  | [] => some []
  | d :: l => match D.py d with
    | some x => match pyL l with
      | some xs => some (x :: xs)
      | none => none
    | none => none
end
mutual
theorem Rp.dp {M : Mo} {F : Hp} : ∀ {d : D} {v : V} {p : PyData}, Rp M F d v → d.py = some p → Dp M.K F v p
  | _, _, _, .non, e => by
    simp only [D.py, Option.some.injEq] at e
    subst e
    exact .non
  | _, _, _, .bl b, e => by
    simp only [D.py, Option.some.injEq] at e
    subst e
    exact .bl b
  | _, _, _, .int b, e => by
    simp only [D.py, Option.some.injEq] at e
    subst e
    exact .int b
  | _, _, _, .str b, e => by
    simp only [D.py, Option.some.injEq] at e
    subst e
    exact .str b
  | _, _, _, .tup (l := l) h q, e => by
    unfold D.py at e
    cases o : pyL l with
    | none => rw [o] at e; cases e
    | some ds =>
      rw [o] at e
      cases e
      exact .tup h (RpL.dp q o)
  | _, _, _, .lst (l := l) h q, e => by
    unfold D.py at e
    cases o : pyL l with
    | none => rw [o] at e; cases e
    | some ds =>
      rw [o] at e
      cases e
      exact .lst h (RpL.dp q o)
  | _, _, _, .ins _ _ _ _, e => by
    unfold D.py at e
    cases e
  | _, _, _, .dic _ _ _, e => by
    unfold D.py at e
    cases e
theorem RpL.dp {M : Mo} {F : Hp} : ∀ {l : List D} {vs : List V} {ps : List PyData}, RpL M F l vs → pyL l = some ps → DpAll M.K F vs ps
  | _, _, _, .nil, e => by
    simp only [pyL, Option.some.injEq] at e
    subst e
    exact .nil
  | _, _, _, .cons (d := d) (l := l) h q, e => by
    unfold pyL at e
    cases o : D.py d with
    | none => rw [o] at e; cases e
    | some x =>
      cases o2 : pyL l with
      | none => rw [o, o2] at e; cases e
      | some xs =>
        rw [o, o2] at e
        cases e
        exact .cons (Rp.dp h o) (RpL.dp q o2)
end
/-- what == is told of -/
def fine (d : D) : Bool := match d.py with
  | some p => SeqAt.shaped p
  | none => false
def D.eqb (x y : D) : Bool := match x.py, y.py with
  | some p, some q => PyData.eqv p q
  | _, _ => false
def eqD (x y : D) : Option D := if fine x && fine y then some (.bl (x.eqb y)) else none
def neD (x y : D) : Option D := if fine x && fine y then some (.bl (!x.eqb y)) else none
def memD (x : D) (l : List D) : Bool := l.any fun z => z.eqb x
/-! ## numbers -/
def fitsMul (a b : Int) : Prop := a.natAbs < 2 ^ 64 ∨ b.natAbs < 2 ^ 64 ∨ (a.natAbs < 2 ^ 1000000 ∧ b.natAbs < 2 ^ 1000000)
instance (a b : Int) : Decidable (fitsMul a b) := by unfold fitsMul; infer_instance
def fitsDiv (b : Int) : Prop := b ≠ 0 ∧ b.natAbs < 2 ^ 9000
instance (b : Int) : Decidable (fitsDiv b) := by unfold fitsDiv; infer_instance
def fitsPow (a b : Int) : Prop := 0 ≤ b ∧ b ≤ 1000000 ∧ a.natAbs < 2 ^ 64
instance (a b : Int) : Decidable (fitsPow a b) := by unfold fitsPow; infer_instance
def addD : D → D → Option D
  | .int a, .int b => some (.int (a + b))
  | .str a, .str b => if a.length + b.length ≤ sizeLine then some (.str (a ++ b)) else none
  | .lst a, .lst b => if a.length + b.length ≤ sizeLine then some (.lst (a ++ b)) else none
  | _, _ => none
def subD : D → D → Option D
  | .int a, .int b => some (.int (a - b))
  | _, _ => none
def mulD : D → D → Option D
  | .int a, .int b => if fitsMul a b then some (.int (a * b)) else none
  | _, _ => none
def repD : D → D → Option D
  | .lst a, .int b => if -(2 ^ 63) ≤ b ∧ b < 2 ^ 63 ∧ a.length * b.toNat ≤ sizeLine then some (.lst (List.replicate b.toNat a).flatten) else none
  | _, _ => none
def fdivD : D → D → Option D
  | .int a, .int b => if fitsDiv b then some (.int (a.fdiv b)) else none
  | _, _ => none
def modD : D → D → Option D
  | .int a, .int b => if b ≠ 0 then some (.int (a.fmod b)) else none
  | _, _ => none
def powD : D → D → Option D
  | .int a, .int b => if fitsPow a b then some (.int (a ^ b.toNat)) else none
  | _, _ => none
def ltD : D → D → Option D
  | .int a, .int b => some (.bl (decide (a < b)))
  | _, _ => none
def leD : D → D → Option D
  | .int a, .int b => some (.bl (decide (a ≤ b)))
  | _, _ => none
def gtD : D → D → Option D
  | .int a, .int b => some (.bl (decide (b < a)))
  | _, _ => none
def geD : D → D → Option D
  | .int a, .int b => some (.bl (decide (b ≤ a)))
  | _, _ => none
def negD : D → Option D
  | .int a => some (.int (-a))
  | _ => none
def isNon : D → Bool
  | .non => true
  | _ => false
def isNonD : D → D → Option D
  | x, .non => some (.bl (isNon x))
  | _, _ => none
def notNonD : D → D → Option D
  | x, .non => some (.bl (!isNon x))
  | _, _ => none
/-- x in a list, a tuple (data), a sign in a text -/
def inD : D → D → Option D
  | x, .lst l => if fine x && fine (.lst l) then some (.bl (memD x l)) else none
  | x, .tup l => if fine x && fine (.tup l) then some (.bl (memD x l)) else none
  | .str a, .str b => some (.bl (!(Builtin.Str.occurrences b a 0 b.length 1).isEmpty))
  | _, _ => none
def notInD : D → D → Option D
  | x, .lst l => if fine x && fine (.lst l) then some (.bl (!memD x l)) else none
  | x, .tup l => if fine x && fine (.tup l) then some (.bl (!memD x l)) else none
  | .str a, .str b => some (.bl (!(!(Builtin.Str.occurrences b a 0 b.length 1).isEmpty)))
  | _, _ => none
def ixD : D → D → Option D
  | .lst l, .int i => atI l i
  | .tup l, .int i => atI l i
  | .str z, .int i => if z.length ≤ sizeLine then (atI z.cps.toList i).map fun c => .str ⟨#[c]⟩ else none
  | _, _ => none
def intsOf : List D → Option (List Int)
  | [] => some []
  | .int i :: l => (intsOf l).map (i :: ·)
  | _ => none
def blsOf : List D → Option (List Bool)
  | [] => some []
  | .bl i :: l => (blsOf l).map (i :: ·)
  | _ => none
def strsOf : List D → Option (List Str)
  | [] => some []
  | .str i :: l => (strsOf l).map (i :: ·)
  | _ => none
def maxI : List Int → Int
  | [] => 0
  | [a] => a
  | a :: l => max a (maxI l)
def minI : List Int → Int
  | [] => 0
  | [a] => a
  | a :: l => min a (minI l)
def absD : List D → Option D
  | [.int a] => some (.int (if a < 0 then -a else a))
  | _ => none
def lenD : List D → Option D
  | [.lst l] => some (.int l.length)
  | [.tup l] => some (.int l.length)
  | [.str z] => if z.length ≤ sizeLine then some (.int z.length) else none
  | _ => none
def sumD : List D → Option D
  | [.lst l] => (intsOf l).map fun ns => .int ns.sum
  | _ => none
def maxD : List D → Option D
  | [.lst l] => match intsOf l with
    | some ns => if 0 < ns.length then some (.int (maxI ns)) else none
    | none => none
  | _ => none
def minD : List D → Option D
  | [.lst l] => match intsOf l with
    | some ns => if 0 < ns.length then some (.int (minI ns)) else none
    | none => none
  | [.int a, .int b] => some (.int (if b < a then b else a))
  | _ => none
def anyD : List D → Option D
  | [.lst l] => (blsOf l).map fun ns => .bl (ns.any id)
  | _ => none
def allD : List D → Option D
  | [.lst l] => (blsOf l).map fun ns => .bl (ns.all id)
  | _ => none
def intD : List D → Option D
  | [.int a] => some (.int a)
  | [.bl b] => some (.int (if b then 1 else 0))
  | _ => none
def strD : List D → Option D
  | [.int a] => if a.natAbs < 2 ^ 1900 then some (.str (toString a)) else none
  | _ => none
def listD : List D → Option D
  | [.lst l] => some (.lst l)
  | [.tup l] => some (.lst l)
  | _ => none
def tupleD : List D → Option D
  | [.lst l] => some (.tup l)
  | [.tup l] => some (.tup l)
  | _ => none
/-! ## and what they are worth -/
theorem intsOf_map : ∀ (ns : List Int), intsOf (ns.map D.int) = some ns
  | [] => rfl
  | n :: r => by
    show (intsOf (r.map D.int)).map (n :: ·) = some (n :: r)
    rw [intsOf_map r]
    rfl
theorem intsOf_eq : ∀ {l : List D} {ns : List Int}, intsOf l = some ns → l = ns.map D.int
  | [], _, e => by cases e; rfl
  | d :: l, ns, e => by
    cases d with
    | int i =>
      have e : (intsOf l).map (i :: ·) = some ns := e
      cases o : intsOf l with
      | none => rw [o] at e; cases e
      | some r =>
        rw [o] at e
        cases e
        rw [intsOf_eq o]
        rfl
    | _ => cases e
theorem blsOf_map : ∀ (ns : List Bool), blsOf (ns.map D.bl) = some ns
  | [] => rfl
  | n :: r => by
    show (blsOf (r.map D.bl)).map (n :: ·) = some (n :: r)
    rw [blsOf_map r]
    rfl
theorem blsOf_eq : ∀ {l : List D} {ns : List Bool}, blsOf l = some ns → l = ns.map D.bl
  | [], _, e => by cases e; rfl
  | d :: l, ns, e => by
    cases d with
    | bl i =>
      have e : (blsOf l).map (i :: ·) = some ns := e
      cases o : blsOf l with
      | none => rw [o] at e; cases e
      | some r =>
        rw [o] at e
        cases e
        rw [blsOf_eq o]
        rfl
    | _ => cases e
theorem strsOf_map : ∀ (ns : List Str), strsOf (ns.map D.str) = some ns
  | [] => rfl
  | n :: r => by
    show (strsOf (r.map D.str)).map (n :: ·) = some (n :: r)
    rw [strsOf_map r]
    rfl
theorem strsOf_eq : ∀ {l : List D} {ns : List Str}, strsOf l = some ns → l = ns.map D.str
  | [], _, e => by cases e; rfl
  | d :: l, ns, e => by
    cases d with
    | str i =>
      have e : (strsOf l).map (i :: ·) = some ns := e
      cases o : strsOf l with
      | none => rw [o] at e; cases e
      | some r =>
        rw [o] at e
        cases e
        rw [strsOf_eq o]
        rfl
    | _ => cases e
theorem RpL.bls_inv {M : Mo} {F : Hp} : ∀ {ns : List Bool} {xs : List V}, RpL M F (ns.map D.bl) xs → xs = ns.map V.bl
  | [], _, .nil => rfl
  | n :: r, _, .cons h q => by
    cases h
    rw [RpL.bls_inv q]
    rfl
theorem RpL.strs_inv {M : Mo} {F : Hp} : ∀ {ns : List Str} {xs : List V}, RpL M F (ns.map D.str) xs → xs = ns.map V.str
  | [], _, .nil => rfl
  | n :: r, _, .cons h q => by
    cases h
    rw [RpL.strs_inv q]
    rfl
theorem RpL.rep {M : Mo} {F : Hp} {l : List D} {xs : List V} (h : RpL M F l xs) : ∀ n : Nat, RpL M F (List.replicate n l).flatten (List.replicate n xs).flatten
  | 0 => .nil
  | n + 1 => by
    rw [List.replicate_succ, List.replicate_succ, List.flatten_cons, List.flatten_cons]
    exact h.append (RpL.rep h n)
theorem RpL.strs {M : Mo} {F : Hp} : ∀ (ns : List Str), RpL M F (ns.map D.str) (ns.map V.str)
  | [] => .nil
  | n :: r => .cons (.str n) (RpL.strs r)
theorem RpL.bls {M : Mo} {F : Hp} : ∀ (ns : List Bool), RpL M F (ns.map D.bl) (ns.map V.bl)
  | [] => .nil
  | n :: r => .cons (.bl n) (RpL.bls r)
theorem maxI_spec : ∀ {ns : List Int}, 0 < ns.length → maxI ns ∈ ns ∧ ∀ y ∈ ns, y ≤ maxI ns
  | [], h => absurd h (Nat.lt_irrefl 0)
  | [a], _ => ⟨List.mem_singleton.mpr rfl, fun y hy => by
    rw [List.mem_singleton.mp hy]
    exact Int.le_refl a⟩
  | a :: b :: r, _ => by
    obtain ⟨h1, h2⟩ := maxI_spec (ns := b :: r) (Nat.succ_pos _)
    have e : maxI (a :: b :: r) = max a (maxI (b :: r)) := rfl
    rw [e]
    constructor
    · rcases Int.le_total a (maxI (b :: r)) with h | h
      · rw [Int.max_eq_right h]
        exact List.mem_cons_of_mem _ h1
      · rw [Int.max_eq_left h]
        exact List.mem_cons_self
    · intro y hy
      rcases List.mem_cons.mp hy with rfl | hy
      · exact Int.le_max_left _ _
      · exact Int.le_trans (h2 y hy) (Int.le_max_right _ _)
theorem minI_spec : ∀ {ns : List Int}, 0 < ns.length → minI ns ∈ ns ∧ ∀ y ∈ ns, minI ns ≤ y
  | [], h => absurd h (Nat.lt_irrefl 0)
  | [a], _ => ⟨List.mem_singleton.mpr rfl, fun y hy => by
    rw [List.mem_singleton.mp hy]
    exact Int.le_refl a⟩
  | a :: b :: r, _ => by
    obtain ⟨h1, h2⟩ := minI_spec (ns := b :: r) (Nat.succ_pos _)
    have e : minI (a :: b :: r) = min a (minI (b :: r)) := rfl
    rw [e]
    constructor
    · rcases Int.le_total a (minI (b :: r)) with h | h
      · rw [Int.min_eq_left h]
        exact List.mem_cons_self
      · rw [Int.min_eq_right h]
        exact List.mem_cons_of_mem _ h1
    · intro y hy
      rcases List.mem_cons.mp hy with rfl | hy
      · exact Int.min_le_left _ _
      · exact Int.le_trans (Int.min_le_right _ _) (h2 y hy)
theorem maxI_uniq {ns : List Int} {m : Int} (h1 : m ∈ ns) (h2 : ∀ y ∈ ns, y ≤ m) : m = maxI ns := by
  obtain ⟨a, b⟩ := maxI_spec (List.length_pos_of_mem h1)
  have := b m h1
  have := h2 _ a
  omega
theorem minI_uniq {ns : List Int} {m : Int} (h1 : m ∈ ns) (h2 : ∀ y ∈ ns, m ≤ y) : m = minI ns := by
  obtain ⟨a, b⟩ := minI_spec (List.length_pos_of_mem h1)
  have := b m h1
  have := h2 _ a
  omega
theorem log2_of_lt {n k : Nat} (hk : 0 < k) (h : n < 2 ^ k) : n.log2 < k := by
  rcases Nat.eq_zero_or_pos n with h0 | hp
  · subst h0
    exact Nat.lt_of_le_of_lt (by decide) hk
  · exact (Nat.log2_lt (Nat.ne_of_gt hp)).mpr h
theorem fitsMul.ok {a b : Int} (h : fitsMul a b) : IntMulOk a b := by
  rcases h with h | h | ⟨h1, h2⟩
  · exact .of_left (intBits_le_64 (by omega) (by omega))
  · exact .of_right (intBits_le_64 (by omega) (by omega))
  · have b1 : ∀ x : Int, Builtin.Int.intBits x ≤ x.natAbs.log2 + 1 := fun x => by
      unfold Builtin.Int.intBits
      split <;> omega
    have z1 := b1 a
    have z2 := b1 b
    have y1 : a.natAbs.log2 < 1000000 := log2_of_lt (by omega) h1
    have y2 : b.natAbs.log2 < 1000000 := log2_of_lt (by omega) h2
    have e : bitsLine = 134217728 := by decide
    unfold IntMulOk
    intro z
    rw [Bool.and_eq_true] at z
    have w := z.2
    unfold Builtin.Int.intTooBig at w
    have w2 := of_decide_eq_true w
    rw [e] at w2
    omega
section
variable {X : Cx}
theorem Rp.lst_inv {M : Mo} {F : Hp} {l : List D} {v : V} (h : Rp M F (.lst l) v) : ∃ a xs, v = .ref a ∧ SqL M.K F a xs ∧ RpL M F l xs := by
  cases h with
  | lst h q => exact ⟨_, _, rfl, h, q⟩
theorem Rp.tup_inv {M : Mo} {F : Hp} {l : List D} {v : V} (h : Rp M F (.tup l) v) : ∃ a xs, v = .ref a ∧ SqT M.K F a xs ∧ RpL M F l xs := by
  cases h with
  | tup h q => exact ⟨_, _, rfl, h, q⟩
theorem Rp.int_inv {M : Mo} {F : Hp} {i : Int} {v : V} (h : Rp M F (.int i) v) : v = .int i := by
  cases h; rfl
theorem Rp.str_inv {M : Mo} {F : Hp} {i : Str} {v : V} (h : Rp M F (.str i) v) : v = .str i := by
  cases h; rfl
theorem Rp.bl_inv {M : Mo} {F : Hp} {i : Bool} {v : V} (h : Rp M F (.bl i) v) : v = .bl i := by
  cases h; rfl
theorem Rp.non_inv {M : Mo} {F : Hp} {v : V} (h : Rp M F .non v) : v = .non := by
  cases h; rfl
theorem RpL.one_inv {M : Mo} {F : Hp} {d : D} {xs : List V} (h : RpL M F [d] xs) : ∃ v, xs = [v] ∧ Rp M F d v := by
  cases h with
  | cons h q => cases q; exact ⟨_, rfl, h⟩
theorem RpL.two_inv {M : Mo} {F : Hp} {d e : D} {xs : List V} (h : RpL M F [d, e] xs) : ∃ v w, xs = [v, w] ∧ Rp M F d v ∧ Rp M F e w := by
  cases h with
  | cons h q =>
    obtain ⟨w, rfl, z⟩ := RpL.one_inv q
    exact ⟨_, _, rfl, h, z⟩
theorem o_int2 {op : Value → Value → Sem Value} {g : Int → Int → V} {gd : Int → Int → D} {C : Int → Int → Prop} (h : OpR X op (rI C g)) (hg : ∀ F i j, Rp (mo X) F (gd i j) (g i j)) (f : D → D → Option D)
    (hf : ∀ dx dy d, f dx dy = some d → ∃ i j, dx = .int i ∧ dy = .int j ∧ C i j ∧ d = gd i j) : OpD X op f := fun pins s σ F H dx dy d x y v u Q I e p1 p2 rx ry e1 q => by
  obtain ⟨i, k, rfl, rfl, hc, rfl⟩ := hf _ _ _ e1
  exact h pins s σ H x y v u Q I rx ry ⟨i, k, p1.int_inv, p2.int_inv, hc, q F H _ (Grow.refl e) (hg F i k)⟩
theorem o_int0 {op : Value → Value → Sem Value} {g : Int → Int → V} {gd : Int → Int → D} (h : OpR X op (rI0 g)) (hg : ∀ F i j, Rp (mo X) F (gd i j) (g i j)) (f : D → D → Option D)
    (hf : ∀ dx dy d, f dx dy = some d → ∃ i j, dx = .int i ∧ dy = .int j ∧ d = gd i j) : OpD X op f := fun pins s σ F H dx dy d x y v u Q I e p1 p2 rx ry e1 q => by
  obtain ⟨i, k, rfl, rfl, rfl⟩ := hf _ _ _ e1
  exact h pins s σ H x y v u Q I rx ry ⟨i, k, p1.int_inv, p2.int_inv, q F H _ (Grow.refl e) (hg F i k)⟩
theorem od_sub : OpD X (binaryOp .Sub) subD := o_int0 op_sub (gd := fun i j => .int (i - j)) (fun _ _ _ => .int _) _ fun dx dy d e => by
  unfold subD at e
  split at e <;> first | exact ⟨_, _, rfl, rfl, (Option.some.inj e).symm⟩ | cases e
theorem od_lt : OpD X (compareOp .Lt) ltD := o_int0 op_lt (gd := fun i j => .bl (decide (i < j))) (fun _ _ _ => .bl _) _ fun dx dy d e => by
  unfold ltD at e
  split at e <;> first | exact ⟨_, _, rfl, rfl, (Option.some.inj e).symm⟩ | cases e
theorem od_le : OpD X (compareOp .LtE) leD := o_int0 op_le (gd := fun i j => .bl (decide (i ≤ j))) (fun _ _ _ => .bl _) _ fun dx dy d e => by
  unfold leD at e
  split at e <;> first | exact ⟨_, _, rfl, rfl, (Option.some.inj e).symm⟩ | cases e
theorem od_gt : OpD X (compareOp .Gt) gtD := o_int0 op_gt (gd := fun i j => .bl (decide (j < i))) (fun _ _ _ => .bl _) _ fun dx dy d e => by
  unfold gtD at e
  split at e <;> first | exact ⟨_, _, rfl, rfl, (Option.some.inj e).symm⟩ | cases e
theorem od_ge : OpD X (compareOp .GtE) geD := o_int0 op_ge (gd := fun i j => .bl (decide (j ≤ i))) (fun _ _ _ => .bl _) _ fun dx dy d e => by
  unfold geD at e
  split at e <;> first | exact ⟨_, _, rfl, rfl, (Option.some.inj e).symm⟩ | cases e
theorem od_mod : OpD X (binaryOp .Mod) modD := o_int2 op_modN (gd := fun i j => .int (i.fmod j)) (fun _ _ _ => .int _) _ fun dx dy d e => by
  unfold modD at e
  split at e
  · split at e
    · rename_i h
      exact ⟨_, _, rfl, rfl, h, (Option.some.inj e).symm⟩
    · cases e
  · cases e
theorem op_fdivX : OpR X (binaryOp .FloorDiv) (rI (fun _ j => fitsDiv j) fun i j => .int (i.fdiv j)) := opI fun _ _ _ _ _ _ _ hc q => floordiv_int hc.1 q (.inl (PyProof.noPylong_of_log2 (log2_of_lt (by omega) hc.2)))
theorem od_fdiv : OpD X (binaryOp .FloorDiv) fdivD := o_int2 op_fdivX (gd := fun i j => .int (i.fdiv j)) (fun _ _ _ => .int _) _ fun dx dy d e => by
  unfold fdivD at e
  split at e
  · split at e
    · rename_i h
      exact ⟨_, _, rfl, rfl, h, (Option.some.inj e).symm⟩
    · cases e
  · cases e
theorem od_pow : OpD X (binaryOp .Pow) powD := o_int2 op_pow (gd := fun i j => .int (i ^ j.toNat)) (fun _ _ _ => .int _) _ fun dx dy d e => by
  unfold powD at e
  split at e
  · split at e
    · rename_i h
      exact ⟨_, _, rfl, rfl, h, (Option.some.inj e).symm⟩
    · cases e
  · cases e
theorem op_mulX : OpR X (binaryOp .Mult) (rI fitsMul fun i j => .int (i * j)) := opI fun _ _ _ _ _ _ _ hc q => mul_int q hc.ok
theorem Inv.lnew' {pins : List (Addr × Obj)} {s : Shared} {σ : L2.St} {H : Hp} {Q : VK} {xs : List V} {its : List Value} (I : Inv X pins σ H s) (r : Vals xs its) (hz : xs.length ≤ sizeLine) (q : ∀ p, H p = none → Q (.ref p) (upd H p (.lst xs))) :
    EP X pins σ Q (.ref s.heap.objs.size) { s with heap := s.heap.push { cls := .type "list", data := .seq its.toArray } } :=
  ⟨.ref _, _, I.lnew (t' := s.toks) r hz, rfl, q _ I.fresh⟩
theorem op_catS : OpR X (binaryOp .Add) (fun x y H Q => ∃ l b xs zs, x = .ref l ∧ y = .ref b ∧ SqL X.K H l xs ∧ SqL X.K H b zs ∧ xs.length + zs.length ≤ sizeLine ∧ ∀ p, H p = none → Q (.ref p) (upd H p (.lst (xs ++ zs)))) := by
  intro pins s σ H x y v u Q I rx ry h
  obtain ⟨l, b, xs, zs, rfl, rfl, hH, hB, hz, q⟩ := h
  cases rx
  cases ry
  obtain ⟨its, r, pl, z⟩ := I.list hH
  obtain ⟨its2, r2, pl2, z2⟩ := I.list hB
  have hl := r.length
  have hl2 := r2.length
  obtain ⟨⟨cls, dd, data, sl⟩, ho, hc, n, hd⟩ := pl.isList
  obtain ⟨⟨cls2, dd2, data2, sl2⟩, ho2, hc2, n2, hd2⟩ := pl2.isList
  simp only at hc hd hc2 hd2
  subst hc hd hc2 hd2
  refine concat_meets ⟨_, ho, rfl⟩ ⟨_, ho2, rfl⟩ noFill_list_add seq_list_add PySem.F.slot_list_add PySem.F.entry_list_add (PySem.F.args_list_add_2 _ _) (list_addW l b its.toArray its2.toArray n n2 dd dd2 sl sl2 (by rw [List.size_toArray, List.size_toArray]; omega)) ⟨ho, ho2, ?_⟩
  have ea : its.toArray ++ its2.toArray = (its ++ its2).toArray := by simp
  rw [ea]
  exact Inv.lnew' I (r.append r2) (by rw [List.length_append]; omega) q
theorem od_add : OpD X (binaryOp .Add) addD := fun pins s σ F H dx dy d x y v u Q I e p1 p2 rx ry e1 q => by
  unfold addD at e1
  split at e1
  · cases e1
    exact op_add pins s σ H x y v u Q I rx ry ⟨_, _, p1.int_inv, p2.int_inv, q F H _ (Grow.refl e) (.int _)⟩
  · split at e1
    · rename_i h
      cases e1
      exact op_add_str pins s σ H x y v u Q I rx ry ⟨_, _, p1.str_inv, p2.str_inv, h, q F H _ (Grow.refl e) (.str _)⟩
    · cases e1
  · split at e1
    · rename_i h
      cases e1
      obtain ⟨a, xs, rfl, h1, h2⟩ := p1.lst_inv
      obtain ⟨b, ys, rfl, h3, h4⟩ := p2.lst_inv
      exact op_catS pins s σ H _ _ v u Q I rx ry ⟨a, b, xs, ys, rfl, rfl, ex_l e h1, ex_l e h3, by rw [← h2.length, ← h4.length]; exact h, fun p n => q _ _ _ (Grow.one e n) (.lst (SqL.of upd_same) ((h2.append h4).mono (Ex.new (e.none n))))⟩
    · cases e1
  · cases e1
theorem od_mul : OpD X (binaryOp .Mult) mulD := fun pins s σ F H dx dy d x y v u Q I e p1 p2 rx ry e1 q => by
  unfold mulD at e1
  split at e1
  · split at e1
    · rename_i h
      cases e1
      exact op_mulX pins s σ H x y v u Q I rx ry ⟨_, _, p1.int_inv, p2.int_inv, h, q F H _ (Grow.refl e) (.int _)⟩
    · cases e1
  · cases e1
theorem od_eq (hu : X.A.units + 64 < cLine) : OpD X (compareOp .Eq) eqD := fun pins s σ F H dx dy d x y v u Q I e p1 p2 rx ry e1 q => by
  unfold eqD at e1
  split at e1
  · rename_i h
    rw [Bool.and_eq_true] at h
    unfold fine at h
    cases o1 : dx.py with
    | none => rw [o1] at h; exact absurd h.1 (by simp)
    | some a =>
      cases o2 : dy.py with
      | none => rw [o2] at h; exact absurd h.2 (by simp)
      | some b =>
        rw [o1, o2] at h
        have e2 : dx.eqb dy = PyData.eqv a b := by
          unfold D.eqb
          rw [o1, o2]
        rw [e2] at e1
        cases e1
        exact op_eqD hu pins s σ H x y v u Q I rx ry ⟨a, b, Rp.dp (p1.mono e) o1, Rp.dp (p2.mono e) o2, h.1, h.2, q F H _ (Grow.refl e) (.bl _)⟩
  · cases e1
theorem od_ne (hu : X.A.units + 64 < cLine) : OpD X (compareOp .NotEq) neD := fun pins s σ F H dx dy d x y v u Q I e p1 p2 rx ry e1 q => by
  unfold neD at e1
  split at e1
  · rename_i h
    rw [Bool.and_eq_true] at h
    unfold fine at h
    cases o1 : dx.py with
    | none => rw [o1] at h; exact absurd h.1 (by simp)
    | some a =>
      cases o2 : dy.py with
      | none => rw [o2] at h; exact absurd h.2 (by simp)
      | some b =>
        rw [o1, o2] at h
        have e2 : dx.eqb dy = PyData.eqv a b := by
          unfold D.eqb
          rw [o1, o2]
        rw [e2] at e1
        cases e1
        exact op_neD hu pins s σ H x y v u Q I rx ry ⟨a, b, Rp.dp (p1.mono e) o1, Rp.dp (p2.mono e) o2, h.1, h.2, q F H _ (Grow.refl e) (.bl _)⟩
  · cases e1
theorem od_isN : OpD X (compareOp .Is) isNonD := fun pins s σ F H dx dy d x y v u Q I e p1 p2 rx ry e1 q => by
  unfold isNonD at e1
  split at e1
  · cases e1
    cases p2
    refine op_isN pins s σ H x _ v u Q I rx ry ⟨rfl, ?_⟩
    have z : ∀ {x : V}, Rp (mo X) F dx x → decide (x = V.non) = isNon dx := fun p1 => by
      cases p1 <;> first | rfl | exact decide_eq_false (fun h => nomatch h)
    rw [z p1]
    exact q F H _ (Grow.refl e) (.bl _)
  · cases e1
theorem od_notN : OpD X (compareOp .IsNot) notNonD := fun pins s σ F H dx dy d x y v u Q I e p1 p2 rx ry e1 q => by
  unfold notNonD at e1
  split at e1
  · cases e1
    cases p2
    refine op_notN pins s σ H x _ v u Q I rx ry ⟨rfl, ?_⟩
    have z : ∀ {x : V}, Rp (mo X) F dx x → (!decide (x = V.non)) = !isNon dx := fun p1 => by
      cases p1 <;> first | rfl | (rw [decide_eq_false (fun h => nomatch h)]; rfl)
    rw [z p1]
    exact q F H _ (Grow.refl e) (.bl _)
  · cases e1
theorem ud_neg : UnD X (unaryOp .USub) negD := fun pins s σ F H dx d x v Q I e p1 rx e1 q => by
  unfold negD at e1
  split at e1
  · cases e1
    exact un_neg pins s σ H x v Q I rx ⟨_, p1.int_inv, q F H _ (Grow.refl e) (.int _)⟩
  · cases e1
/-- what the items of a list of data are -/
theorem py_list {l : List D} {p : PyData} (h : (D.lst l).py = some p) : ∃ ps, pyL l = some ps ∧ p = .list ps := by
  unfold D.py at h
  cases o : pyL l with
  | none => rw [o] at h; cases h
  | some ps => rw [o] at h; exact ⟨ps, rfl, (Option.some.inj h).symm⟩
theorem py_tuple {l : List D} {p : PyData} (h : (D.tup l).py = some p) : ∃ ps, pyL l = some ps ∧ p = .tuple ps := by
  unfold D.py at h
  cases o : pyL l with
  | none => rw [o] at h; cases h
  | some ps => rw [o] at h; exact ⟨ps, rfl, (Option.some.inj h).symm⟩
theorem memD_eq {x : D} {d : PyData} (hx : x.py = some d) : ∀ {l : List D} {ps : List PyData}, pyL l = some ps → memD x l = ps.any fun z => PyData.eqv z d
  | [], _, e => by
    simp only [pyL, Option.some.injEq] at e
    subst e
    rfl
  | y :: l, ps, e => by
    unfold pyL at e
    cases o : D.py y with
    | none => rw [o] at e; cases e
    | some z =>
      cases o2 : pyL l with
      | none => rw [o, o2] at e; cases e
      | some zs =>
        rw [o, o2] at e
        cases e
        show (y.eqb x || memD x l) = _
        rw [List.any_cons, memD_eq hx o2]
        unfold D.eqb
        rw [o, hx]
/-- x in (a, b, ..), data of any depth -/
theorem op_inT (hu : X.A.units + 65 < cLine) : OpR X (compareOp .In) (fun x y H Q => ∃ d ds, Dp X.K H x d ∧ Dp X.K H y (.tuple ds) ∧ SeqAt.shaped d = true ∧ SeqAt.shaped (.tuple ds) = true ∧ Q (.bl (ds.any fun z => PyData.eqv z d)) H) := by
  intro pins s σ H x y v u Q I rx ry h
  obtain ⟨d, ds, hd, he, sd, se, q⟩ := h
  obtain ⟨as, r1⟩ := Dp.reads I d x v hd rx
  obtain ⟨bs, r2⟩ := Dp.reads I (.tuple ds) y u he ry
  exact SeqAt.in_tuple_reads r2 r1 (SeqAt.canLay_of_shaped se) (SeqAt.canLay_of_shaped sd) (room_in_shaped sd hu) ⟨.bl _, H, I, rfl, q⟩
theorem op_notInT (hu : X.A.units + 65 < cLine) : OpR X (compareOp .NotIn) (fun x y H Q => ∃ d ds, Dp X.K H x d ∧ Dp X.K H y (.tuple ds) ∧ SeqAt.shaped d = true ∧ SeqAt.shaped (.tuple ds) = true ∧ Q (.bl (!ds.any fun z => PyData.eqv z d)) H) := by
  intro pins s σ H x y v u Q I rx ry h
  obtain ⟨d, ds, hd, he, sd, se, q⟩ := h
  obtain ⟨as, r1⟩ := Dp.reads I d x v hd rx
  obtain ⟨bs, r2⟩ := Dp.reads I (.tuple ds) y u he ry
  exact SeqAt.notIn_tuple_reads r2 r1 (SeqAt.canLay_of_shaped se) (SeqAt.canLay_of_shaped sd) (room_in_shaped sd hu) ⟨.bl _, H, I, rfl, q⟩
theorem fine_some {d : D} (h : fine d = true) : ∃ p, d.py = some p ∧ SeqAt.shaped p = true := by
  unfold fine at h
  cases o : d.py with
  | none => rw [o] at h; exact absurd h (by simp)
  | some p => rw [o] at h; exact ⟨p, rfl, h⟩
theorem od_in (hu : X.A.units + 65 < cLine) : OpD X (compareOp .In) inD := fun pins s σ F H dx dy d x y v u Q I e p1 p2 rx ry e1 q => by
  unfold inD at e1
  split at e1
  · split at e1
    · rename_i h
      rw [Bool.and_eq_true] at h
      obtain ⟨a, ea, sa⟩ := fine_some h.1
      obtain ⟨b, eb, sb⟩ := fine_some h.2
      obtain ⟨ps, ep, rfl⟩ := py_list eb
      rw [memD_eq ea ep] at e1
      cases e1
      exact op_inD hu pins s σ H x y v u Q I rx ry ⟨a, ps, Rp.dp (p1.mono e) ea, Rp.dp (p2.mono e) eb, sa, sb, q F H _ (Grow.refl e) (.bl _)⟩
    · cases e1
  · split at e1
    · rename_i h
      rw [Bool.and_eq_true] at h
      obtain ⟨a, ea, sa⟩ := fine_some h.1
      obtain ⟨b, eb, sb⟩ := fine_some h.2
      obtain ⟨ps, ep, rfl⟩ := py_tuple eb
      rw [memD_eq ea ep] at e1
      cases e1
      exact op_inT hu pins s σ H x y v u Q I rx ry ⟨a, ps, Rp.dp (p1.mono e) ea, Rp.dp (p2.mono e) eb, sa, sb, q F H _ (Grow.refl e) (.bl _)⟩
    · cases e1
  · cases e1
    exact op_in_str pins s σ H x y v u Q I rx ry ⟨_, _, p1.str_inv, p2.str_inv, q F H _ (Grow.refl e) (.bl _)⟩
  · cases e1
theorem od_notIn (hu : X.A.units + 65 < cLine) : OpD X (compareOp .NotIn) notInD := fun pins s σ F H dx dy d x y v u Q I e p1 p2 rx ry e1 q => by
  unfold notInD at e1
  split at e1
  · split at e1
    · rename_i h
      rw [Bool.and_eq_true] at h
      obtain ⟨a, ea, sa⟩ := fine_some h.1
      obtain ⟨b, eb, sb⟩ := fine_some h.2
      obtain ⟨ps, ep, rfl⟩ := py_list eb
      rw [memD_eq ea ep] at e1
      cases e1
      exact op_notInD hu pins s σ H x y v u Q I rx ry ⟨a, ps, Rp.dp (p1.mono e) ea, Rp.dp (p2.mono e) eb, sa, sb, q F H _ (Grow.refl e) (.bl _)⟩
    · cases e1
  · split at e1
    · rename_i h
      rw [Bool.and_eq_true] at h
      obtain ⟨a, ea, sa⟩ := fine_some h.1
      obtain ⟨b, eb, sb⟩ := fine_some h.2
      obtain ⟨ps, ep, rfl⟩ := py_tuple eb
      rw [memD_eq ea ep] at e1
      cases e1
      exact op_notInT hu pins s σ H x y v u Q I rx ry ⟨a, ps, Rp.dp (p1.mono e) ea, Rp.dp (p2.mono e) eb, sa, sb, q F H _ (Grow.refl e) (.bl _)⟩
    · cases e1
  · cases e1
    exact op_notIn_str pins s σ H x y v u Q I rx ry ⟨_, _, p1.str_inv, p2.str_inv, q F H _ (Grow.refl e) (.bl _)⟩
  · cases e1
/-! ## subscripts, built-ins -/
theorem atI_rp {M : Mo} {F : Hp} {l : List D} {xs : List V} {i : Int} {d : D} (h : RpL M F l xs) (e : atI l i = some d) : ∃ v, atI xs i = some v ∧ Rp M F d v := by
  unfold atI at e ⊢
  rw [← h.length]
  cases o : ixN l.length i with
  | none => rw [o] at e; cases e
  | some k =>
    rw [o] at e
    exact h.get e
theorem ix_D : IxR X (rOpD X ixD) := fun value slice pins s σ H x y v u Q I rx ry ⟨F, dx, dy, d, e, p1, p2, e1, q⟩ hs => by
  unfold ixD at e1
  split at e1
  · obtain ⟨a, xs, rfl, h1, h2⟩ := p1.lst_inv
    obtain ⟨z, h3, h4⟩ := atI_rp h2 e1
    exact ix_list value slice pins s σ H _ y v u Q I rx ry ⟨a, xs, _, z, rfl, p2.int_inv, ex_l e h1, h3, q F H z (Grow.refl e) h4⟩ hs
  · obtain ⟨a, xs, rfl, h1, h2⟩ := p1.tup_inv
    obtain ⟨z, h3, h4⟩ := atI_rp h2 e1
    exact ix_tup value slice pins s σ H _ y v u Q I rx ry ⟨a, xs, _, z, rfl, p2.int_inv, ex_t e h1, h3, q F H z (Grow.refl e) h4⟩ hs
  · split at e1
    · rename_i hz
      cases o : atI (Array.toList (Str.cps ‹Str›)) ‹Int› with
      | none => rw [o] at e1; cases e1
      | some c =>
        rw [o] at e1
        cases e1
        exact ix_str value slice pins s σ H x y v u Q I rx ry ⟨_, _, c, p1.str_inv, p2.int_inv, hz, o, q F H _ (Grow.refl e) (.str _)⟩ hs
    · cases e1
  · cases e1
theorem e_ix {j : J} {a b : Expr} {pos : Pos} {da db : List D → R D} (ha : DE X j a da) (hb : DE X j b db) (hs : PlainIx b) : DE X j (.Subscript a b pos) (binD ixD da db) :=
  PE.mono (pe_ix ix_D ha hb hs) fun σ H Q ⟨W, F, env, rel, q⟩ => ⟨W, F, env, rel, At.bind q fun d env1 W1 F1 H1 v _ r1 x1 p1 q1 => ⟨W1, F1, env1, r1, At.bind q1 fun d2 env2 W2 F2 H2 v2 _ r2 x2 p2 q2 => by
    cases o : ixD d d2 with
    | none => rw [o] at q2; exact q2.elim
    | some z =>
      rw [o] at q2
      exact ⟨F2, d, d2, z, r2.exF, p1.mono x2, p2, o, fun F' H' y g p => At.grow q2 r2 g p⟩⟩⟩
theorem cd_abs : CallD X (.builtin "abs") absD := fun pins s σ F H ds d xs us Q I e p r e1 q => by
  unfold absD at e1
  split at e1
  · cases e1
    obtain ⟨v, rfl, h⟩ := p.one_inv
    exact call_abs pins s σ H _ us Q I r ⟨_, by rw [h.int_inv], q F H _ (Grow.refl e) (.int _)⟩
  · cases e1
theorem cd_len : CallD X (.builtin "len") lenD := fun pins s σ F H ds d xs us Q I e p r e1 q => by
  unfold lenD at e1
  split at e1
  · cases e1
    obtain ⟨v, rfl, h⟩ := p.one_inv
    obtain ⟨a, ys, rfl, h1, h2⟩ := h.lst_inv
    refine call_len_seq pins s σ H _ us Q I r ⟨a, ys, rfl, .inl (ex_l e h1), ?_⟩
    rw [← h2.length]
    exact q F H _ (Grow.refl e) (.int _)
  · cases e1
    obtain ⟨v, rfl, h⟩ := p.one_inv
    obtain ⟨a, ys, rfl, h1, h2⟩ := h.tup_inv
    refine call_len_seq pins s σ H _ us Q I r ⟨a, ys, rfl, .inr (ex_t e h1), ?_⟩
    rw [← h2.length]
    exact q F H _ (Grow.refl e) (.int _)
  · split at e1
    · rename_i hz
      cases e1
      obtain ⟨v, rfl, h⟩ := p.one_inv
      exact call_len_str pins s σ H _ us Q I r ⟨_, by rw [h.str_inv], hz, q F H _ (Grow.refl e) (.int _)⟩
    · cases e1
  · cases e1
theorem cd_sum (hc : X.calm = true) : CallD X (.builtin "sum") sumD := fun pins s σ F H ds d xs us Q I e p r e1 q => by
  unfold sumD at e1
  split at e1
  · rename_i l
    cases o : intsOf l with
    | none => rw [o] at e1; cases e1
    | some ns =>
      rw [o] at e1
      cases e1
      obtain ⟨v, rfl, h⟩ := p.one_inv
      obtain ⟨a, ys, rfl, h1, h2⟩ := h.lst_inv
      rw [intsOf_eq o] at h2
      rw [h2.ints_inv] at h1
      exact cr_sum hc pins s σ H _ us Q I r ⟨a, ns, rfl, ex_l e h1, q F H _ (Grow.refl e) (.int _)⟩
  · cases e1
theorem cd_max (hc : X.calm = true) : CallD X (.builtin "max") maxD := fun pins s σ F H ds d xs us Q I e p r e1 q => by
  unfold maxD at e1
  split at e1
  · rename_i l
    cases o : intsOf l with
    | none => rw [o] at e1; cases e1
    | some ns =>
      rw [o] at e1
      simp only at e1
      split at e1
      · rename_i hn
        cases e1
        obtain ⟨v, rfl, h⟩ := p.one_inv
        obtain ⟨a, ys, rfl, h1, h2⟩ := h.lst_inv
        rw [intsOf_eq o] at h2
        rw [h2.ints_inv] at h1
        exact cr_max hc pins s σ H _ us Q I r ⟨a, ns, rfl, ex_l e h1, hn, fun m m1 m2 => by
          rw [maxI_uniq m1 m2]
          exact q F H _ (Grow.refl e) (.int _)⟩
      · cases e1
  · cases e1
theorem cd_min (hc : X.calm = true) : CallD X (.builtin "min") minD := fun pins s σ F H ds d xs us Q I e p r e1 q => by
  unfold minD at e1
  split at e1
  · rename_i l
    cases o : intsOf l with
    | none => rw [o] at e1; cases e1
    | some ns =>
      rw [o] at e1
      simp only at e1
      split at e1
      · rename_i hn
        cases e1
        obtain ⟨v, rfl, h⟩ := p.one_inv
        obtain ⟨a, ys, rfl, h1, h2⟩ := h.lst_inv
        rw [intsOf_eq o] at h2
        rw [h2.ints_inv] at h1
        exact cr_min hc pins s σ H _ us Q I r ⟨a, ns, rfl, ex_l e h1, hn, fun m m1 m2 => by
          rw [minI_uniq m1 m2]
          exact q F H _ (Grow.refl e) (.int _)⟩
      · cases e1
  · cases e1
    obtain ⟨v, w, rfl, h1, h2⟩ := p.two_inv
    exact call_min2 hc pins s σ H _ us Q I r ⟨_, _, by rw [h1.int_inv, h2.int_inv], q F H _ (Grow.refl e) (.int _)⟩
  · cases e1
theorem cd_any (hc : X.calm = true) : CallD X (.builtin "any") anyD := fun pins s σ F H ds d xs us Q I e p r e1 q => by
  unfold anyD at e1
  split at e1
  · rename_i l
    cases o : blsOf l with
    | none => rw [o] at e1; cases e1
    | some ns =>
      rw [o] at e1
      cases e1
      obtain ⟨v, rfl, h⟩ := p.one_inv
      obtain ⟨a, ys, rfl, h1, h2⟩ := h.lst_inv
      rw [blsOf_eq o] at h2
      rw [h2.bls_inv] at h1
      exact cr_any hc pins s σ H _ us Q I r ⟨a, ns, rfl, ex_l e h1, q F H _ (Grow.refl e) (.bl _)⟩
  · cases e1
theorem cd_all (hc : X.calm = true) : CallD X (.builtin "all") allD := fun pins s σ F H ds d xs us Q I e p r e1 q => by
  unfold allD at e1
  split at e1
  · rename_i l
    cases o : blsOf l with
    | none => rw [o] at e1; cases e1
    | some ns =>
      rw [o] at e1
      cases e1
      obtain ⟨v, rfl, h⟩ := p.one_inv
      obtain ⟨a, ys, rfl, h1, h2⟩ := h.lst_inv
      rw [blsOf_eq o] at h2
      rw [h2.bls_inv] at h1
      exact cr_all hc pins s σ H _ us Q I r ⟨a, ns, rfl, ex_l e h1, q F H _ (Grow.refl e) (.bl _)⟩
  · cases e1
theorem cd_int : CallD X (.type "int") intD := fun pins s σ F H ds d xs us Q I e p r e1 q => by
  unfold intD at e1
  split at e1
  · cases e1
    obtain ⟨v, rfl, h⟩ := p.one_inv
    exact call_int1 pins s σ H _ us Q I r (.inl ⟨_, by rw [h.int_inv], q F H _ (Grow.refl e) (.int _)⟩)
  · cases e1
    obtain ⟨v, rfl, h⟩ := p.one_inv
    exact call_int1 pins s σ H _ us Q I r (.inr ⟨_, by rw [h.bl_inv], q F H _ (Grow.refl e) (.int _)⟩)
  · cases e1
theorem cd_str : CallD X (.type "str") strD := fun pins s σ F H ds d xs us Q I e p r e1 q => by
  unfold strD at e1
  split at e1
  · split at e1
    · rename_i hz
      cases e1
      obtain ⟨v, rfl, h⟩ := p.one_inv
      exact call_str_int pins s σ H _ us Q I r ⟨_, by rw [h.int_inv], Nat.lt_of_lt_of_le (log2_of_lt (by omega) hz) (by omega), q F H _ (Grow.refl e) (.str _)⟩
    · cases e1
  · cases e1
theorem cd_list : CallD X (.type "list") listD := fun pins s σ F H ds d xs us Q I e p r e1 q => by
  unfold listD at e1
  split at e1
  · cases e1
    obtain ⟨v, rfl, h⟩ := p.one_inv
    obtain ⟨a, ys, rfl, h1, h2⟩ := h.lst_inv
    exact call_list_of pins s σ H _ us Q I r ⟨a, ys, rfl, .inl (ex_l e h1), fun l n => q _ _ _ (Grow.one e n) (.lst (SqL.of upd_same) (h2.mono (Ex.new (e.none n))))⟩
  · cases e1
    obtain ⟨v, rfl, h⟩ := p.one_inv
    obtain ⟨a, ys, rfl, h1, h2⟩ := h.tup_inv
    exact call_list_of pins s σ H _ us Q I r ⟨a, ys, rfl, .inr (ex_t e h1), fun l n => q _ _ _ (Grow.one e n) (.lst (SqL.of upd_same) (h2.mono (Ex.new (e.none n))))⟩
  · cases e1
theorem cd_tuple : CallD X (.type "tuple") tupleD := fun pins s σ F H ds d xs us Q I e p r e1 q => by
  unfold tupleD at e1
  split at e1
  · cases e1
    obtain ⟨v, rfl, h⟩ := p.one_inv
    obtain ⟨a, ys, rfl, h1, h2⟩ := h.lst_inv
    exact call_tuple_of pins s σ H _ us Q I r ⟨a, ys, rfl, .inl ⟨ex_l e h1, fun l n => q _ _ _ (Grow.one e n) (.tup (SqT.of upd_same) (h2.mono (Ex.new (e.none n))))⟩⟩
  · cases e1
    obtain ⟨v, rfl, h⟩ := p.one_inv
    obtain ⟨a, ys, rfl, h1, h2⟩ := h.tup_inv
    exact call_tuple_of pins s σ H _ us Q I r ⟨a, ys, rfl, .inr ⟨ex_t e h1, q F H _ (Grow.refl e) (.tup h1 h2)⟩⟩
  · cases e1
end
end DL
namespace DL
open PySem PySem.Spec PyProof.Rows L2
/-! ## the state, changed -/
section
variable {M : Mo} {e : Ent} {W : Own} {F H : Hp} {env : List D} {σ : L2.St}
theorem Rel.set {i : Nat} {d : D} {v : V} (r : Rel M e W F H env σ) (p : Rp M F d v) (hp : e.P i = none) : Rel M e W F H (env.set i d) (σ.set i (some v)) where
  toRelB := r.toRelB
  len := by rw [List.length_set, List.length_set]; exact r.len
  slot := fun k d' h1 h2 => by
    by_cases h : i = k
    · subst h
      have hlt : i < env.length := by
        have := (List.getElem?_eq_some_iff.mp h1).1
        rwa [List.length_set] at this
      rw [List.getElem?_set_self hlt] at h1
      cases h1
      exact ⟨v, List.getElem?_set_self (by rw [← r.len]; exact hlt), .fz p⟩
    · rw [List.getElem?_set_ne h] at h1 ⊢
      exact r.slot k d' h1 h2
  pin := fun k w h => by
    have : i ≠ k := fun z => by
      subst z
      rw [hp] at h
      cases h
    rw [List.getElem?_set_ne this]
    exact r.pin k w h
/-- a slot is forgotten -/
theorem Rel.forget (r : Rel M e W F H env σ) (i : Nat) : Rel M e W F H (env.set i .unb) σ where
  toRelB := r.toRelB
  len := by rw [List.length_set]; exact r.len
  slot := fun k d' h1 h2 => by
    by_cases h : i = k
    · subst h
      have hlt : i < env.length := by
        have := (List.getElem?_eq_some_iff.mp h1).1
        rwa [List.length_set] at this
      rw [List.getElem?_set_self hlt] at h1
      cases h1
      exact absurd rfl h2
    · rw [List.getElem?_set_ne h] at h1
      exact r.slot k d' h1 h2
  pin := r.pin
/-- the owned things change their places: their roots by a map -/
theorem Rel.reroot {W' : Own} {F' : Hp} (r : Rel M e W F H env σ) (hW : ∀ a, W' a ≠ none → W a ≠ none) (hF : Ex F F') (hF2 : Ex F' H) (sep : ∀ a, W' a ≠ none → F' a = none) (hnew : ∀ b, F' b ≠ none → F b ≠ none ∨ e.H0 b = none)
    (hfr : ∀ a r q, W' a = some (r :: q) → e.H0 a = none ∨ ∃ i v q0, r = i + 1 ∧ e.P i = some v ∧ e.W0 a = some (r :: q0)) {env' : List D} {σ' : L2.St} (len : env'.length = σ'.length)
    (hs : ∀ i d, env'[i]? = some d → d ≠ .unb → ∃ v, σ'[i]? = some (some v) ∧ Ow M W' F' H [i + 1] d v) (hp : ∀ i v, e.P i = some v → σ'[i]? = some (some v)) : Rel M e W' F' H env' σ' where
  pres := r.pres
  exF0 := r.exF0.trans hF
  exF := hF2
  sep := fun a h => ⟨sep a h, (r.sep a (hW a h)).2⟩
  fresh := hfr
  new := fun b h => (hnew b h).elim (r.new b) .inr
  stay := r.stay
  len := len
  slot := hs
  pin := hp
def rootIs (o : Option (List Nat)) (k : Nat) : Bool := match o with
  | some (r :: _) => r == k
  | _ => false
theorem rootIs_iff {o : Option (List Nat)} {k : Nat} : rootIs o k = true ↔ ∃ q, o = some (k :: q) := by
  unfold rootIs
  constructor
  · intro h
    split at h
    · exact ⟨_, by rw [eq_of_beq h]⟩
    · cases h
  · rintro ⟨q, rfl⟩
    exact beq_self_eq_true k
/-- what the root k holds is frozen -/
def frzW (W : Own) (k : Nat) : Own := fun a => if rootIs (W a) k = true then none else W a
def frzF (W : Own) (k : Nat) (F H : Hp) : Hp := fun a => if rootIs (W a) k = true then H a else F a
theorem frzF_ex (r : RelB e W F H) (k : Nat) : Ex F (frzF W k F H) := fun a o h => by
  unfold frzF
  by_cases z : rootIs (W a) k = true
  · obtain ⟨q, hq⟩ := rootIs_iff.mp z
    have := (r.sep a (by rw [hq]; simp)).1
    rw [this] at h
    cases h
  · rw [if_neg z]
    exact h
theorem frzF_sub (r : RelB e W F H) (k : Nat) : Ex (frzF W k F H) H := fun a o h => by
  unfold frzF at h
  by_cases z : rootIs (W a) k = true
  · rw [if_pos z] at h
    exact h
  · rw [if_neg z] at h
    exact r.exF a o h
theorem frzW_eq {a : Addr} {k : Nat} {p : List Nat} (h : frzW W k a = some p) : W a = some p ∧ rootIs (W a) k = false := by
  unfold frzW at h
  by_cases z : rootIs (W a) k = true
  · rw [if_pos z] at h
    cases h
  · rw [if_neg z] at h
    exact ⟨h, by simpa using z⟩
theorem RelB.freeze (r : RelB e W F H) (k : Nat) (hk : ∀ i, k = i + 1 → e.P i = none) : RelB e (frzW W k) (frzF W k F H) H where
  pres := r.pres
  exF0 := r.exF0.trans (frzF_ex r k)
  exF := frzF_sub r k
  sep := fun a h => by
    cases q : frzW W k a with
    | none => exact absurd q h
    | some p =>
      obtain ⟨h1, h2⟩ := frzW_eq q
      have z := r.sep a (by rw [h1]; simp)
      refine ⟨?_, z.2⟩
      unfold frzF
      rw [if_neg (by rw [h2]; simp)]
      exact z.1
  fresh := fun a c q h => r.fresh a c q (frzW_eq h).1
  new := fun b h => by
    unfold frzF at h
    by_cases z : rootIs (W b) k = true
    · obtain ⟨q, hq⟩ := rootIs_iff.mp z
      rcases r.fresh b k q hq with f | ⟨i, v, q0, hi, hv, _⟩
      · exact .inr f
      · rw [hk i hi] at hv
        cases hv
    · rw [if_neg z] at h
      exact r.new b h
  stay := r.stay
theorem Ow.thaw {p : List Nat} {c : Nat} {q : List Nat} {k : Nat} {d : D} {v : V} (r : RelB e W F H) (h : Ow M W F H (c :: q) d v) (hc : c ≠ k) : Ow M (frzW W k) (frzF W k F H) H (c :: q) d v :=
  h.tr (frzF_ex r k) fun a z y => ⟨by
    unfold frzW
    rw [if_neg]
    · exact y
    · intro w
      obtain ⟨q', hq⟩ := rootIs_iff.mp w
      rw [y] at hq
      injection hq with hq
      injection hq with h1 _
      exact hc h1, fun _ x => x⟩
theorem Ow.froze {k : Nat} {d : D} {v : V} (r : RelB e W F H) (h : Ow M W F H [k] d v) : Rp M (frzF W k F H) (DL.frz d) v :=
  h.frz (frzF_ex r k) fun a q o z y => by
    unfold frzF
    rw [if_pos (rootIs_iff.mpr ⟨q, z⟩)]
    exact y
theorem Rel.freeze0 (r : Rel M e W F H env σ) : Rel M e (frzW W 0) (frzF W 0 F H) H env σ where
  toRelB := r.toRelB.freeze 0 fun i h => by omega
  len := r.len
  slot := fun i d h1 h2 => by
    obtain ⟨v, h3, h4⟩ := r.slot i d h1 h2
    exact ⟨v, h3, Ow.thaw (p := []) r.toRelB h4 (by omega)⟩
  pin := r.pin
/-- a slot's owned thing is frozen where it is -/
theorem Rel.freezeAt (r : Rel M e W F H env σ) {i : Nat} {d : D} (hi : env[i]? = some d) (hd : d ≠ .unb) (hp : e.P i = none) : ∃ v, σ[i]? = some (some v) ∧ Rp M (frzF W (i + 1) F H) (frz d) v ∧ Rel M e (frzW W (i + 1)) (frzF W (i + 1) F H) H (env.set i (frz d)) σ := by
  obtain ⟨v, h3, h4⟩ := r.slot i d hi hd
  have rp := Ow.froze r.toRelB h4
  refine ⟨v, h3, rp, ⟨r.toRelB.freeze (i + 1) fun k h => by
    have : k = i := by omega
    rw [this]
    exact hp, by rw [List.length_set]; exact r.len, fun k d' h1 h2 => ?_, r.pin⟩⟩
  by_cases h : i = k
  · subst h
    rw [List.getElem?_set_self (List.getElem?_eq_some_iff.mp hi).1] at h1
    cases h1
    exact ⟨v, h3, .fz rp⟩
  · rw [List.getElem?_set_ne h] at h1
    obtain ⟨v, h5, h6⟩ := r.slot k d' h1 h2
    exact ⟨v, h5, Ow.thaw (p := []) r.toRelB h6 (by omega)⟩
/-- the owned thing at the root 0 goes to a slot -/
def mvW (W : Own) (i : Nat) : Own := fun a => match W a with
  | some (r :: q) => if r = 0 then some ((i + 1) :: q) else if r = i + 1 then none else some (r :: q)
  | o => o
theorem Rel.setO {i : Nat} {d : D} {v : V} (r : Rel M e W F H env σ) (p : Ow M W F H [0] d v) (hp : e.P i = none) : Rel M e (mvW W i) F H (env.set i d) (σ.set i (some v)) := by
  have hW : ∀ a, mvW W i a ≠ none → W a ≠ none := fun a h z => h (by unfold mvW; rw [z])
  refine r.reroot hW (Ex.refl F) r.exF (fun a h => (r.sep a (hW a h)).1) (fun b h => .inl h) (fun a c q h => ?_) (by rw [List.length_set, List.length_set]; exact r.len) (fun k d' h1 h2 => ?_) (fun k w h => ?_)
  · unfold mvW at h
    split at h
    · rename_i r' q' hq
      split at h
      · rename_i h0
        subst h0
        rcases r.fresh a 0 q' hq with f | ⟨i', v', q0, hi', _⟩
        · exact .inl f
        · omega
      · split at h
        · cases h
        · injection h with h
          injection h with h1 h2
          subst h1
          exact r.fresh a _ q' hq
    · exact r.fresh a c q h
  · by_cases h : i = k
    · subst h
      have hlt : i < env.length := by
        have := (List.getElem?_eq_some_iff.mp h1).1
        rwa [List.length_set] at this
      rw [List.getElem?_set_self hlt] at h1
      cases h1
      refine ⟨v, List.getElem?_set_self (by rw [← r.len]; exact hlt), p.tr (Ex.refl F) fun a q z => ⟨?_, fun _ x => x⟩⟩
      unfold mvW
      rw [z]
      rfl
    · rw [List.getElem?_set_ne h] at h1 ⊢
      obtain ⟨v', h5, h6⟩ := r.slot k d' h1 h2
      refine ⟨v', h5, h6.tr (Ex.refl F) fun a q z => ⟨?_, fun _ x => x⟩⟩
      unfold mvW
      rw [z]
      show (if k + 1 = 0 then _ else if k + 1 = i + 1 then none else some ((k + 1) :: q)) = some ([k + 1] ++ q)
      rw [if_neg (by omega), if_neg (by omega)]
      rfl
  · have : i ≠ k := fun z => by
      subst z
      rw [hp] at h
      cases h
    rw [List.getElem?_set_ne this]
    exact r.pin k w h
/-- a slot's thing goes to the root 0; the slot is forgotten -/
def upW (W : Own) (i : Nat) : Own := fun a => match W a with
  | some (r :: q) => if r = i + 1 then some (0 :: q) else if r = 0 then none else some (r :: q)
  | o => o
theorem Rel.takeO {i : Nat} {d : D} (r : Rel M e W F H env σ) (hi : env[i]? = some d) (hd : d ≠ .unb) (hp : e.P i = none) : ∃ v, σ[i]? = some (some v) ∧ Ow M (upW W i) F H [0] d v ∧ Rel M e (upW W i) F H (env.set i .unb) σ := by
  obtain ⟨v, h3, h4⟩ := r.slot i d hi hd
  have hW : ∀ a, upW W i a ≠ none → W a ≠ none := fun a h z => h (by unfold upW; rw [z])
  refine ⟨v, h3, h4.tr (Ex.refl F) fun a q z => ⟨?_, fun _ x => x⟩, r.reroot hW (Ex.refl F) r.exF (fun a h => (r.sep a (hW a h)).1) (fun b h => .inl h) (fun a c q h => ?_) (by rw [List.length_set]; exact r.len) (fun k d' h1 h2 => ?_) r.pin⟩
  · unfold upW
    rw [z]
    show (if i + 1 = i + 1 then _ else _) = _
    rw [if_pos rfl]
    rfl
  · unfold upW at h
    split at h
    · rename_i r' q' hq
      split at h
      · rename_i h0
        subst h0
        rcases r.fresh a _ q' hq with f | ⟨i', v', q0, hi', hv, _⟩
        · exact .inl f
        · have : i' = i := by omega
          rw [this, hp] at hv
          cases hv
      · split at h
        · cases h
        · injection h with h
          injection h with h1 h2
          subst h1
          exact r.fresh a _ q' hq
    · exact r.fresh a c q h
  · by_cases h : i = k
    · subst h
      have hlt : i < env.length := by
        have := (List.getElem?_eq_some_iff.mp h1).1
        rwa [List.length_set] at this
      rw [List.getElem?_set_self hlt] at h1
      cases h1
      exact absurd rfl h2
    · rw [List.getElem?_set_ne h] at h1
      obtain ⟨v', h5, h6⟩ := r.slot k d' h1 h2
      refine ⟨v', h5, h6.tr (Ex.refl F) fun a q z => ⟨?_, fun _ x => x⟩⟩
      unfold upW
      rw [z]
      show (if k + 1 = i + 1 then _ else if k + 1 = 0 then none else some ((k + 1) :: q)) = some ([k + 1] ++ q)
      rw [if_neg (by omega), if_neg (by omega)]
      rfl
/-- an owned object of the slot i is written -/
theorem Rel.write {i : Nat} {a : Addr} {q : List Nat} {o : HO} {d : D} {v : V} (r : Rel M e W F H env σ) (ha : W a = some ((i + 1) :: q)) (hv : σ[i]? = some (some v)) (p : Ow M W F (upd H a o) [i + 1] d v) : Rel M e W F (upd H a o) (env.set i d) σ := by
  have hn : F a = none := (r.sep a (by rw [ha]; simp)).1
  have hb := r.sep a (by rw [ha]; simp)
  refine ⟨⟨fun b u h1 h2 => ?_, r.exF0, fun b u h => ?_, fun b h => ?_, r.fresh, r.new, fun b h => ?_⟩, by rw [List.length_set]; exact r.len, fun k d' h1 h2 => ?_, r.pin⟩
  · have : b ≠ a := fun z => by
      subst z
      rcases hb.2.1 with w | w
      · exact w h1
      · rw [w] at h2
        cases h2
    rw [upd_ne this]
    exact r.pres b u h1 h2
  · have : b ≠ a := fun z => by
      subst z
      rw [hn] at h
      cases h
    rw [upd_ne this]
    exact r.exF b u h
  · obtain ⟨h1, h2, h3⟩ := r.sep b h
    refine ⟨h1, h2, ?_⟩
    by_cases z : b = a
    · rw [z, upd_same]
      simp
    · rw [upd_ne z]
      exact h3
  · by_cases z : b = a
    · rw [z, upd_same]
      simp
    · rw [upd_ne z]
      exact r.stay b h
  · by_cases h : i = k
    · subst h
      have hlt : i < env.length := by
        have := (List.getElem?_eq_some_iff.mp h1).1
        rwa [List.length_set] at this
      rw [List.getElem?_set_self hlt] at h1
      cases h1
      exact ⟨v, hv, p⟩
    · rw [List.getElem?_set_ne h] at h1
      obtain ⟨v', h5, h6⟩ := r.slot k d' h1 h2
      refine ⟨v', h5, h6.tr (Ex.refl F) fun b q' z => ⟨z, fun u y => ?_⟩⟩
      have : b ≠ a := fun w => by
        subst w
        rw [ha] at z
        injection z with z
        injection z with z1 _
        omega
      rw [upd_ne this]
      exact y
/-- a new owned object at the root 0 -/
def newW (W : Own) (a : Addr) : Own := fun b => if b = a then some [0] else if rootIs (W b) 0 = true then none else W b
theorem Rel.newH {a : Addr} {o : HO} (r : Rel M e W F H env σ) (n : H a = none) : Rel M e (newW W a) F (upd H a o) env σ := by
  have nW : W a = none := by
    cases q : W a with
    | none => rfl
    | some z => exact absurd n (r.sep a (by rw [q]; simp)).2.2
  have h0 : e.H0 a = none := by
    cases q : e.H0 a with
    | none => rfl
    | some z => exact absurd n (r.stay a (by rw [q]; simp))
  have old : ∀ b, b ≠ a → newW W a b ≠ none → W b ≠ none := fun b hb h z => h (by
    unfold newW
    rw [if_neg hb, z]
    rfl)
  refine ⟨⟨fun b u h1 h2 => ?_, r.exF0, fun b u h => ?_, fun b h => ?_, fun b c q h => ?_, r.new, fun b h => ?_⟩, r.len, fun k d' h1 h2 => ?_, r.pin⟩
  · have : b ≠ a := fun z => by
      subst z
      rw [h0] at h2
      cases h2
    rw [upd_ne this]
    exact r.pres b u h1 h2
  · have := r.exF b u h
    rw [upd_ne (ne_of_none this n)]
    exact this
  · by_cases z : b = a
    · subst z
      exact ⟨r.exF.none n, .inr h0, by rw [upd_same]; simp⟩
    · obtain ⟨h1, h2, h3⟩ := r.sep b (old b z h)
      exact ⟨h1, h2, by rw [upd_ne z]; exact h3⟩
  · unfold newW at h
    split at h
    · rename_i z
      subst z
      exact .inl h0
    · split at h
      · cases h
      · exact r.fresh b c q h
  · by_cases z : b = a
    · rw [z, upd_same]
      simp
    · rw [upd_ne z]
      exact r.stay b h
  · obtain ⟨v', h5, h6⟩ := r.slot k d' h1 h2
    refine ⟨v', h5, h6.tr (Ex.refl F) fun b q' z => ?_⟩
    have : b ≠ a := fun w => by
      subst w
      rw [nW] at z
      cases z
    refine ⟨?_, fun u y => by rw [upd_ne this]; exact y⟩
    unfold newW
    rw [if_neg this, if_neg]
    · exact z
    · intro w
      obtain ⟨q2, h7⟩ := rootIs_iff.mp w
      rw [z] at h7
      injection h7 with h7
      injection h7 with h8 _
      omega
theorem newW_self {W : Own} {a : Addr} : newW W a a = some [0] := by
  unfold newW
  rw [if_pos rfl]
theorem Rel.newO {a : Addr} {xs : List V} {l : List D} (r : Rel M e W F H env σ) (n : H a = none) (p : RpL M F l xs) : Rel M e (newW W a) F (upd H a (.lst xs)) env σ ∧ Ow M (newW W a) F (upd H a (.lst xs)) [0] (.ml l) (.ref a) := by
  refine ⟨r.newH n, .ml newW_self upd_same ?_⟩
  · have : ∀ {l : List D} {xs : List V} {H' : Hp} {W' : Own} {k : Nat}, RpL M F l xs → OwL M W' F H' [0] k l xs := by
      intro l
      induction l with
      | nil => intro xs H' W' k h; cases h; exact .nil
      | cons d l ih => intro xs H' W' k h; cases h with
        | cons h q => exact .cons (.fz h) (ih q)
    exact this p
end
end DL
namespace DL
open PySem PySem.Spec PyProof.Rows L2
/-! ## statements -/
inductive O where
  | nx (env : List D)
  | rt (d : D) (env : List D)
  | bk (env : List D)
  | ct (env : List D)
  | ex (c : Str) (fs : List D) (env : List D)
  | bad
def AtS (M : Mo) (j : J) (F : Hp) (o : O) (Dn : Ends) : Prop := match o with
  | .nx env' => ∀ W' F' H' σ', Rel M j.e W' F' H' env' σ' → Ex F F' → Dn.nx σ' H'
  | .rt d env' => ∀ W' F' H' σ' v, Rel M j.e W' F' H' env' σ' → Ow M W' F' H' [0] d v → Dn.rt v H'
  | .bk env' => ∀ W' F' H' σ', Rel M j.e W' F' H' env' σ' → Ex F F' → Dn.bk σ' H'
  | .ct env' => ∀ W' F' H' σ', Rel M j.e W' F' H' env' σ' → Ex F F' → Dn.ct σ' H'
  | .ex c fs env' => ∀ W' F' H' σ' cls dd, Rel M j.e W' F' H' env' σ' → Ex F F' → XR M F' c fs cls dd → j.wx cls dd σ' H'
  | .bad => False
def tS (M : Mo) (j : J) (den : List D → O) : TS := fun Dn σ H => ∃ W F env, Rel M j.e W F H env σ ∧ AtS M j F (den env) Dn
abbrev DS (X : Cx) (j : J) (st : Stmt) (den : List D → O) : Prop := PS X st (tS (mo X) j den)
abbrev DSs (X : Cx) (j : J) (st : List Stmt) (den : List D → O) : Prop := PSs X st (tS (mo X) j den)
theorem AtS.mono {M : Mo} {j : J} {F F1 : Hp} {o : O} {Dn : Ends} (h : AtS M j F o Dn) (x : Ex F F1) : AtS M j F1 o Dn := by
  cases o with
  | nx env => exact fun W' F' H' σ' a b => h W' F' H' σ' a (x.trans b)
  | bk env => exact fun W' F' H' σ' a b => h W' F' H' σ' a (x.trans b)
  | ct env => exact fun W' F' H' σ' a b => h W' F' H' σ' a (x.trans b)
  | rt d env => exact h
  | ex c fs env => exact fun W' F' H' σ' cls dd a b c => h W' F' H' σ' cls dd a (x.trans b) c
  | bad => exact h
/-- an expression in a statement -/
def bindS {α : Type} (r : R α) (f : α → List D → O) : O := match r with
  | .ok a env => f a env
  | .ex c fs env => .ex c fs env
  | .bad => .bad
@[simp] theorem bindS_ok {α : Type} (a : α) (env : List D) (f : α → List D → O) : bindS (.ok a env) f = f a env := rfl
@[simp] theorem bindS_ex {α : Type} (c : Str) (fs env : List D) (f : α → List D → O) : bindS (.ex c fs env) f = .ex c fs env := rfl
@[simp] theorem bindS_bad {α : Type} (f : α → List D → O) : bindS .bad f = .bad := rfl
theorem AtS.bind {α β : Type} {M : Mo} {j : J} {rep : Hp → α → β → Prop} {F : Hp} {σ : L2.St} {r : R α} {f : α → List D → O} {Dn : Ends} {P : β → Hp → Prop} (h : AtS M j F (bindS r f) Dn)
    (k : ∀ d env1 W1 F1 H1 v, r = .ok d env1 → Rel M j.e W1 F1 H1 env1 σ → Ex F F1 → rep F1 d v → AtS M j F1 (f d env1) Dn → P v H1) : At M j.e j.wx rep F σ r P := by
  cases r with
  | ok d env' => exact fun W' F' H' v a b c => k d env' W' F' H' v rfl a b c (h.mono b)
  | ex c fs env' => exact fun W' F' H' cls dd a b c => h W' F' H' σ cls dd a b c
  | bad => exact h
/-! ### what makes an owned thing -/
def AtO (M : Mo) (j : J) (F : Hp) (σ : L2.St) (r : R D) (Q : VK) : Prop := match r with
  | .ok d env' => ∀ W' F' H' v, Rel M j.e W' F' H' env' σ → Ex F F' → Ow M W' F' H' [0] d v → Q v H'
  | .ex c fs env' => ∀ W' F' H' cls dd, Rel M j.e W' F' H' env' σ → Ex F F' → XR M F' c fs cls dd → j.wx cls dd σ H'
  | .bad => False
def tO (M : Mo) (j : J) (den : List D → R D) : TE := fun σ H Q => ∃ W F env, Rel M j.e W F H env σ ∧ AtO M j F σ (den env) Q
abbrev DO (X : Cx) (j : J) (e : Expr) (den : List D → R D) : Prop := PE X e (tO (mo X) j den)
def frzD (da : List D → R D) : List D → R D := fun env => bindR (da env) fun d env1 => .ok (frz d) env1
/-- made, and frozen at once -/
theorem e_frzo {X : Cx} {j : J} {e : Expr} {da : List D → R D} (h : DO X j e da) : DE X j e (frzD da) :=
  PE.mono h fun σ H Q ⟨W, F, env, rel, q⟩ => ⟨W, F, env, rel, by
    unfold frzD at q
    cases o : da env with
    | ok d env1 =>
      rw [o] at q
      exact fun W' F' H' v a b c => q (frzW W' 0) (frzF W' 0 F' H') H' v a.freeze0 (b.trans (frzF_ex a.toRelB 0)) (Ow.froze a.toRelB c)
    | ex c fs env1 =>
      rw [o] at q
      exact q
    | bad =>
      rw [o] at q
      exact q⟩
/-! ### blocks -/
def skipD : List D → O := fun env => .nx env
def seqD (da db : List D → O) : List D → O := fun env => match da env with
  | .nx env1 => db env1
  | r => r
def ifS (dt : List D → R Bool) (da db : List D → O) : List D → O := fun env => bindS (dt env) fun b env1 => if b = true then da env1 else db env1
def asgD (i : Nat) (da : List D → R D) : List D → O := fun env => bindS (da env) fun d env1 => .nx (env1.set i d)
def exprD (da : List D → R D) : List D → O := fun env => bindS (da env) fun _ env1 => .nx env1
def retD (da : List D → R D) : List D → O := fun env => bindS (da env) fun d env1 => .rt d env1
def retN : List D → O := fun env => .rt .non env
def retV (i : Nat) : List D → O := fun env => match env.getD i .unb with
  | .unb => .bad
  | d => .rt d (env.set i .unb)
def brkD : List D → O := fun env => .bk env
def cntD : List D → O := fun env => .ct env
section
variable {X : Cx} {j : J} {a b c e : Expr} {st : Stmt} {es : List Expr} {sts : List Stmt} {pos pos' : Pos} {da db : List D → R D} {dt : List D → R Bool} {sa sb : List D → O}
theorem ss_nil : DSs X j [] skipD := PSs.mono pss_nil fun Dn σ H ⟨W, F, env, rel, q⟩ => q W F H σ rel (Ex.refl F)
theorem ss_cons (ha : DS X j st sa) (hb : DSs X j sts sb) : DSs X j (st :: sts) (seqD sa sb) :=
  PSs.mono (pss_cons ha hb) fun Dn σ H ⟨W, F, env, rel, q⟩ => ⟨W, F, env, rel, by
    unfold seqD at q
    cases o : sa env with
    | nx env1 =>
      rw [o] at q
      exact fun W' F' H' σ' r x => ⟨W', F', env1, r, q.mono x⟩
    | _ =>
      rw [o] at q
      exact q⟩
theorem ss_one (ha : DS X j st sa) : DSs X j [st] sa := pss_one ha
theorem s_if {p q : List Stmt} (hc : DT X j c dt) (ha : DSs X j p sa) (hb : DSs X j q sb) : DS X j (.If c p q pos) (ifS dt sa sb) :=
  PS.mono (ps_if hc ha hb) fun Dn σ H ⟨W, F, env, rel, q⟩ => ⟨W, F, env, rel, AtS.bind q fun d env1 W1 F1 H1 v _ r1 x1 p1 q1 => by
    subst p1
    cases d with
    | true => exact ⟨W1, F1, env1, r1, q1⟩
    | false => exact ⟨W1, F1, env1, r1, q1⟩⟩
theorem s_doc {x : Str} {k : Nat} : DS X j (.Expr (.Constant (.str x) k pos) pos') skipD := PS.mono ps_doc fun Dn σ H ⟨W, F, env, rel, q⟩ => q W F H σ rel (Ex.refl F)
theorem s_pass : DS X j (.Pass pos) skipD := PS.mono ps_pass fun Dn σ H ⟨W, F, env, rel, q⟩ => q W F H σ rel (Ex.refl F)
theorem s_brk : DS X j (.Break pos) brkD := PS.mono ps_break fun Dn σ H ⟨W, F, env, rel, q⟩ => q W F H σ rel (Ex.refl F)
theorem s_cnt : DS X j (.Continue pos) cntD := PS.mono ps_continue fun Dn σ H ⟨W, F, env, rel, q⟩ => q W F H σ rel (Ex.refl F)
theorem s_expr (ha : DE X j e da) (hs : swapsWith e none pos.line X.env = pure false := by rfl) : DS X j (.Expr e pos) (exprD da) :=
  PS.mono (ps_expr ha hs) fun Dn σ H ⟨W, F, env, rel, q⟩ => ⟨W, F, env, rel, AtS.bind q fun d env1 W1 F1 H1 v _ r1 x1 p1 q1 => q1 W1 F1 H1 σ r1 (Ex.refl F1)⟩
theorem s_ret (ha : DE X j e da) : DS X j (.Return (some e) pos) (retD da) :=
  PS.mono (ps_ret ha) fun Dn σ H ⟨W, F, env, rel, q⟩ => ⟨W, F, env, rel, AtS.bind q fun d env1 W1 F1 H1 v _ r1 x1 p1 q1 => q1 W1 F1 H1 σ v r1 (.fz p1)⟩
theorem s_retN : DS X j (.Return none pos) retN := PS.mono ps_retN fun Dn σ H ⟨W, F, env, rel, q⟩ => q W F H σ .non rel (.fz .non)
theorem s_retO (ha : DO X j e da) : DS X j (.Return (some e) pos) (retD da) :=
  PS.mono (ps_ret ha) fun Dn σ H ⟨W, F, env, rel, q⟩ => ⟨W, F, env, rel, by
    unfold retD at q
    cases o : da env with
    | ok d env1 =>
      rw [o] at q
      exact fun W' F' H' v r x p => q W' F' H' σ v r p
    | ex c fs env1 =>
      rw [o] at q
      exact fun W' F' H' cls dd r x y => q W' F' H' σ cls dd r x y
    | bad =>
      rw [o] at q
      exact q⟩
/-- return x, x owned: it goes with it -/
theorem s_retV (i : Nat) {x : Str} {p : Pos} (h : PE X (.Name x p) (tVar i)) (hp : j.e.P i = none) : DS X j (.Return (some (.Name x p)) pos) (retV i) :=
  PS.mono (ps_ret h) fun Dn σ H ⟨W, F, env, rel, q⟩ => by
    have q : AtS (mo X) j F (retV i env) Dn := q
    have key : env.getD i .unb ≠ .unb → AtS (mo X) j F (.rt (env.getD i .unb) (env.set i .unb)) Dn → tRet (tVar i) Dn σ H := fun hd q => by
      have hi : env[i]? = some (env.getD i .unb) := by
        rw [List.getD_eq_getElem?_getD] at hd ⊢
        cases z : env[i]? with
        | none => rw [z] at hd; exact absurd rfl hd
        | some d => rfl
      obtain ⟨v, h3, h4, h5⟩ := rel.takeO hi hd hp
      exact ⟨v, h3, q _ _ _ σ v h5 h4⟩
    unfold retV at q
    split at q
    · exact q.elim
    · rename_i h1
      exact key h1 q
/-- x = e -/
theorem s_set (i : Nat) {x : Str} (hN : X.N.Nodup) (hp : j.e.P i = none) (ha : DE X j e da) (hi : X.N[i]? = some x := by rfl) (hx : Loc X.env.scope x := by first | exact Or.inl rfl | exact Or.inr rfl) (hs : swapsWith e (some (.Name x pos')) pos.line X.env = pure false := by rfl)
    (hf : X.fn x = true ∨ X.env.scope.names.lookup x = some .local := by first | exact .inl rfl | exact .inr rfl) : DS X j (.Assign [.Name x pos'] e pos) (asgD i da) :=
  PS.mono (ps_set hN hi hx ha hs hf) fun Dn σ H ⟨W, F, env, rel, q⟩ => ⟨W, F, env, rel, AtS.bind q fun d env1 W1 F1 H1 v _ r1 x1 p1 q1 => q1 W1 F1 H1 _ (r1.set p1 hp) (Ex.refl F1)⟩
/-- x = e, what e makes is owned -/
theorem s_setO (i : Nat) {x : Str} (hN : X.N.Nodup) (hp : j.e.P i = none) (ha : DO X j e da) (hi : X.N[i]? = some x := by rfl) (hx : Loc X.env.scope x := by first | exact Or.inl rfl | exact Or.inr rfl) (hs : swapsWith e (some (.Name x pos')) pos.line X.env = pure false := by rfl)
    (hf : X.fn x = true ∨ X.env.scope.names.lookup x = some .local := by first | exact .inl rfl | exact .inr rfl) : DS X j (.Assign [.Name x pos'] e pos) (asgD i da) :=
  PS.mono (ps_set hN hi hx ha hs hf) fun Dn σ H ⟨W, F, env, rel, q⟩ => ⟨W, F, env, rel, by
    unfold asgD at q
    cases o : da env with
    | ok d env1 =>
      rw [o] at q
      exact fun W' F' H' v r x p => q _ F' H' _ (r.setO p hp) x
    | ex c fs env1 =>
      rw [o] at q
      exact fun W' F' H' cls dd r x y => q W' F' H' σ cls dd r x y
    | bad =>
      rw [o] at q
      exact q⟩
end
/-! ## defs -/
inductive FR where
  | ret (d : D) (outs : List D)
  | exc (c : Str) (fs : List D) (outs : List D)
  | bad
inductive Ar where
  | v (d : D)
  | io (i : Nat)
def ownd : D → Bool
  | .ml _ => true
  | .mi _ _ => true
  | .md _ _ => true
  | _ => false
def outsOk (M : Mo) (W : Own) (F H : Hp) (io : List Nat) (outs : List D) (vs : List V) : Prop :=
  ∀ (t k : Nat) (d : D), io[t]? = some k → outs[t]? = some d → d ≠ .unb → ∃ v, vs[k]? = some v ∧ Ow M W F H [k + 1] d v
def pinOf (io : List Nat) (vs : List V) : Nat → Option V := fun i => if i ∈ io then vs[i]? else none
/-- the promise of a def: n parameters, those at io are owned by the caller and changed -/
def spD (M : Mo) (n : Nat) (io : List Nat) (f : List D → FR) : Sp := fun vs H Q E => ∃ (W : Own) (F : Hp) (ds : List D),
  vs.length = n ∧ ds.length = n ∧ RelB ⟨H, F, W, pinOf io vs⟩ W F H ∧ (∀ i d, ds[i]? = some d → d ≠ .unb ∧ ∃ v, vs[i]? = some v ∧ Ow M W F H [i + 1] d v) ∧
  match f ds with
  | .ret d outs => ∀ W' F' H' v, RelB ⟨H, F, W, pinOf io vs⟩ W' F' H' → Ow M W' F' H' [0] d v → outsOk M W' F' H' io outs vs → Q v H'
  | .exc c fs outs => ∀ W' F' H' cls dd, RelB ⟨H, F, W, pinOf io vs⟩ W' F' H' → XR M F' c fs cls dd → outsOk M W' F' H' io outs vs → E cls dd H'
  | .bad => False
def outsD (io : List Nat) (env : List D) : List D := io.map fun i => env.getD i .unb
/-- a body as a function: N names -/
def runD (N : Nat) (io : List Nat) (den : List D → O) : List D → FR := fun ds => match den (ds ++ List.replicate (N - ds.length) .unb) with
  | .nx env => .ret .non (outsD io env)
  | .rt d env => .ret d (outsD io env)
  | .ex c fs env => .exc c fs (outsD io env)
  | _ => .bad
/-- what a body leans on -/
structure Wf (X : Cx) (j : J) (io : List Nat) : Prop where
  nd : X.N.Nodup
  calm : X.calm = true
  take : Takes X j.wx
  pass : PassesOwn (model X.prog X.w) X.A X.env X.xe
  pin : ∀ i, i ∉ io → j.e.P i = none
theorem outs_rel {M : Mo} {H F : Hp} {W0 W : Own} {io : List Nat} {vs : List V} {F' H' : Hp} {env : List D} {σ : L2.St} (r : Rel M ⟨H, F, W0, pinOf io vs⟩ W F' H' env σ) (hio : ∀ i ∈ io, i < vs.length) : outsOk M W F' H' io (outsD io env) vs := fun t k d h1 h2 h3 => by
  unfold outsD at h2
  rw [List.getElem?_map, h1] at h2
  have h2 : env.getD k .unb = d := Option.some.inj h2
  have hk : k ∈ io := List.mem_of_getElem? h1
  have hi : env[k]? = some d := by
    rw [List.getD_eq_getElem?_getD] at h2
    cases q : env[k]? with
    | none => rw [q] at h2; exact absurd h2.symm h3
    | some z => rw [q] at h2; exact congrArg some h2
  obtain ⟨v, h4, h5⟩ := r.slot k d hi h3
  have hv : vs[k]? = some (vs[k]'(hio k hk)) := List.getElem?_eq_getElem _
  have := r.pin k _ (show pinOf io vs k = some _ by unfold pinOf; rw [if_pos hk]; exact hv)
  rw [h4] at this
  cases this
  exact ⟨_, hv, h5⟩
section
variable {P : Program} {w : World} {K : PySem.W.Frag} {mg : Str → Option Value} {base : Heap}
/-- THE RULE of a def -/
theorem fn_den {x qual : Str} {st : Stmt} {f : Addr} {fd : FuncData} {N ps : List Str} {k : Nat} {io : List Nat} {den : List D → O} (F : Fun K x qual st f fd) (S : FnScope N ps (defScope st)) (hio : ∀ i ∈ io, i < ps.length)
    (hbody : ∀ (cdv : Value) (A : Around) (outer : List Env) (s : Shared) (H : Hp) (E : XK) (j : J), Room k (A.deeper (envOfC qual (defScope st) s.heap.objs.size f cdv)) →
      Wf (cxOf (L2.CX P w) P w K mg base N qual (defScope st) f cdv A outer s H E) j io → DSs (cxOf (L2.CX P w) P w K mg base N qual (defScope st) f cdv A outer s H E) j (defBody st) den) :
    FnOk P w K mg base (L2.CX P w) (k + 1) f fd ps (spD ⟨K, mg⟩ ps.length io (runD N.length io den)) := by
  refine F.okX S (fun vs H Q E h => ?_) (fun cdv A outer s H vs Q E hr h => ?_)
  · obtain ⟨_, _, _, h, _⟩ := h
    exact h
  · obtain ⟨W, F, ds, hv, hl, rb, sl, q⟩ := h
    have hN : ps.length ≤ N.length := by
      have := congrArg List.length S.pre
      rw [List.length_take] at this
      omega
    refine ⟨_, hbody cdv A outer s H E ⟨⟨H, F, W, pinOf io vs⟩, fun cls dd _ H' => E cls dd H'⟩ hr ⟨S.nd, rfl, takes_of rfl rfl rfl rfl, passes_of rfl, fun i hi => if_neg hi⟩, ?_⟩
    refine ⟨W, F, ds ++ List.replicate (N.length - ds.length) .unb, ⟨rb, ?_, fun i d h1 h2 => ?_, fun i v h1 => ?_⟩, ?_⟩
    · unfold L2.start
      rw [List.length_append, List.length_append, List.length_replicate, List.length_replicate, List.length_map, hl, hv]
    · by_cases hi : i < ds.length
      · rw [List.getElem?_append_left hi] at h1
        obtain ⟨_, v, h3, h4⟩ := sl i d h1
        refine ⟨v, ?_, h4⟩
        unfold L2.start
        rw [List.getElem?_append_left (by rw [List.length_map, hv, ← hl]; exact hi), List.getElem?_map, h3]
        rfl
      · rw [List.getElem?_append_right (by omega), List.getElem?_replicate] at h1
        split at h1
        · cases h1
          exact absurd rfl h2
        · cases h1
    · have h1 : pinOf io vs i = some v := h1
      unfold pinOf at h1
      split at h1
      · have hi : i < vs.length := (List.getElem?_eq_some_iff.mp h1).1
        unfold L2.start
        rw [List.getElem?_append_left (by rw [List.length_map]; exact hi), List.getElem?_map, h1]
        rfl
      · cases h1
    · have hio' : ∀ i ∈ io, i < vs.length := fun i h => by
        rw [hv]
        exact hio i h
      unfold runD at q
      cases o : den (ds ++ List.replicate (N.length - ds.length) .unb) with
      | nx env =>
        rw [o] at q
        exact fun W' F' H' σ' r _ => q W' F' H' .non r.toRelB (.fz .non) (outs_rel r hio')
      | rt d env =>
        rw [o] at q
        exact fun W' F' H' σ' v r p => q W' F' H' v r.toRelB p (outs_rel r hio')
      | ex c fs env =>
        rw [o] at q
        exact fun W' F' H' σ' cls dd r _ p => q W' F' H' cls dd r.toRelB p (outs_rel r hio')
      | bk env => rw [o] at q; exact q.elim
      | ct env => rw [o] at q; exact q.elim
      | bad => rw [o] at q; exact q.elim
end
end DL
namespace DL
open PySem PySem.Spec PyProof.Rows L2
/-! ## calls of defs -/
def RaL (M : Mo) (σ : L2.St) (F : Hp) : List Ar → List V → Prop
  | [], vs => vs = []
  | .v d :: as, vs => ∃ v r, vs = v :: r ∧ Rp M F d v ∧ RaL M σ F as r
  | .io i :: as, vs => ∃ v r, vs = v :: r ∧ σ[i]? = some (some v) ∧ RaL M σ F as r
abbrev DAr (X : Cx) (j : J) (es : List Expr) (den : List D → R (List Ar)) : Prop := PA X es (fun σ H Q => tR (mo X) j.e j.wx (RaL (mo X) σ) den σ H Q)
def nilA : List D → R (List Ar) := fun env => .ok [] env
def consA (da : List D → R D) (dr : List D → R (List Ar)) : List D → R (List Ar) := fun env => bindR (da env) fun x env1 => bindR (dr env1) fun xs env2 => .ok (.v x :: xs) env2
def ioA (i : Nat) (dr : List D → R (List Ar)) : List D → R (List Ar) := fun env => if ownd (env.getD i .unb) = true then bindR (dr env) fun xs env2 => .ok (.io i :: xs) env2 else .bad
theorem RaL.mono {M : Mo} {σ : L2.St} {F F' : Hp} (x : Ex F F') : ∀ {as : List Ar} {vs : List V}, RaL M σ F as vs → RaL M σ F' as vs
  | [], _, h => h
  | .v d :: as, _, ⟨v, r, e, p, q⟩ => ⟨v, r, e, p.mono x, RaL.mono x q⟩
  | .io i :: as, _, ⟨v, r, e, p, q⟩ => ⟨v, r, e, p, RaL.mono x q⟩
theorem ownd_some {env : List D} {i : Nat} (h : ownd (env.getD i .unb) = true) : env[i]? = some (env.getD i .unb) ∧ env.getD i .unb ≠ .unb := by
  constructor
  · rw [List.getD_eq_getElem?_getD] at h ⊢
    cases q : env[i]? with
    | none => rw [q] at h; exact absurd h (by unfold ownd; simp)
    | some d => rfl
  · intro e
    rw [e] at h
    exact absurd h (by unfold ownd; simp)
section
variable {X : Cx} {j : J} {a : Expr} {es : List Expr} {pos : Pos} {da : List D → R D} {dr : List D → R (List Ar)}
theorem a_nil : DAr X j [] nilA := PA.mono pa_nil fun σ H Q ⟨W, F, env, rel, q⟩ => q W F H [] rel (Ex.refl F) rfl
theorem a_cons (ha : DE X j a da) (hr : DAr X j es dr) (hs : starEach (a :: es) X.env = (false, eval a X.env) :: starEach es X.env := by rfl) : DAr X j (a :: es) (consA da dr) :=
  PA.mono (pa_cons ha hr hs) fun σ H Q ⟨W, F, env, rel, q⟩ => ⟨W, F, env, rel, At.bind q fun d env1 W1 F1 H1 v _ r1 x1 p1 q1 => ⟨W1, F1, env1, r1, At.bind q1 fun d2 env2 W2 F2 H2 v2 _ r2 x2 p2 q2 =>
    q2 W2 F2 H2 (v :: v2) r2 (Ex.refl F2) ⟨v, v2, rfl, p1.mono x2, p2⟩⟩⟩
theorem a_io (i : Nat) {x : Str} (h : PE X (.Name x pos) (tVar i)) (hr : DAr X j es dr) (hs : starEach ((.Name x pos) :: es) X.env = (false, eval (.Name x pos) X.env) :: starEach es X.env := by rfl) : DAr X j ((.Name x pos) :: es) (ioA i dr) :=
  PA.mono (pa_cons h hr hs) fun σ H Q ⟨W, F, env, rel, q⟩ => by
    unfold ioA at q
    by_cases o : ownd (env.getD i .unb) = true
    · rw [if_pos o] at q
      obtain ⟨h1, h2⟩ := ownd_some o
      obtain ⟨v, h3, h4⟩ := rel.slot i _ h1 h2
      exact ⟨v, h3, W, F, env, rel, At.bind q fun d2 env2 W2 F2 H2 v2 _ r2 x2 p2 q2 => q2 W2 F2 H2 (v :: v2) r2 (Ex.refl F2) ⟨v, v2, rfl, h3, p2⟩⟩
    · rw [if_neg o] at q
      exact q.elim
end
def valsOf (as : List Ar) (env : List D) : List D := as.map fun a => match a with
  | .v d => d
  | .io i => env.getD i .unb
def ioOf : Nat → List Ar → List (Nat × Nat)
  | _, [] => []
  | k, .v _ :: r => ioOf (k + 1) r
  | k, .io i :: r => (k, i) :: ioOf (k + 1) r
def okIo (n : Nat) (io : List Nat) (as : List Ar) (env : List D) : Bool :=
  decide (as.length = n) && (decide ((ioOf 0 as).map (·.1) = io) && decide ((ioOf 0 as).map (·.2)).Nodup && (ioOf 0 as).all fun p => ownd (env.getD p.2 .unb))
def wback : List Nat → List D → List D → List D
  | i :: is, d :: ds, env => wback is ds (env.set i d)
  | _, _, env => env
/-- the call of a def: what it hands back may be owned -/
def callO (n : Nat) (io : List Nat) (f : List D → FR) (da : List D → R (List Ar)) : List D → R D := fun env => bindR (da env) fun as env1 =>
  if okIo n io as env1 = true then match f (valsOf as env1) with
    | .ret d outs => .ok d (wback ((ioOf 0 as).map (·.2)) outs env1)
    | .exc c fs outs => .ex c fs (wback ((ioOf 0 as).map (·.2)) outs env1)
    | .bad => .bad
  else .bad
theorem ioOf_lt : ∀ {as : List Ar} {k : Nat} {p : Nat × Nat}, p ∈ ioOf k as → k ≤ p.1
  | [], _, _, h => by simp [ioOf] at h
  | .v _ :: r, k, p, h => by
    have := ioOf_lt (as := r) (k := k + 1) (p := p) h
    omega
  | .io i :: r, k, p, h => by
    rcases List.mem_cons.mp h with h | h
    · rw [h]
      exact Nat.le_refl _
    · have := ioOf_lt (as := r) (k := k + 1) (p := p) h
      omega
theorem ioOf_fst : ∀ {as : List Ar} {k : Nat}, ((ioOf k as).map (·.1)).Nodup
  | [], _ => List.nodup_nil
  | .v _ :: r, k => ioOf_fst (as := r) (k := k + 1)
  | .io i :: r, k => by
    show (k :: (ioOf (k + 1) r).map (·.1)).Nodup
    refine List.nodup_cons.mpr ⟨fun h => ?_, ioOf_fst (as := r) (k := k + 1)⟩
    obtain ⟨p, hp, e⟩ := List.mem_map.mp h
    have := ioOf_lt hp
    omega
theorem ral_io {M : Mo} {σ : L2.St} {F : Hp} : ∀ {as : List Ar} {vs : List V} {k : Nat} {p : Nat × Nat}, RaL M σ F as vs → p ∈ ioOf k as → ∃ v, vs[p.1 - k]? = some v ∧ σ[p.2]? = some (some v) ∧ as[p.1 - k]? = some (.io p.2)
  | [], _, _, _, _, h => by simp [ioOf] at h
  | .v _ :: r, _, k, p, ⟨v, vs, e, _, q⟩, h => by
    have hl := ioOf_lt (as := r) (k := k + 1) (p := p) h
    obtain ⟨w, h1, h2, h3⟩ := ral_io (k := k + 1) q h
    have e1 : p.1 - k = (p.1 - (k + 1)) + 1 := by omega
    exact ⟨w, by rw [e, e1, List.getElem?_cons_succ]; exact h1, h2, by rw [e1, List.getElem?_cons_succ]; exact h3⟩
  | .io i :: r, _, k, p, ⟨v, vs, e, s, q⟩, h => by
    rcases List.mem_cons.mp h with h | h
    · rw [h, e]
      exact ⟨v, by simp, s, by simp⟩
    · have hl := ioOf_lt (as := r) (k := k + 1) (p := p) h
      obtain ⟨w, h1, h2, h3⟩ := ral_io (k := k + 1) q h
      have e1 : p.1 - k = (p.1 - (k + 1)) + 1 := by omega
      exact ⟨w, by rw [e, e1, List.getElem?_cons_succ]; exact h1, h2, by rw [e1, List.getElem?_cons_succ]; exact h3⟩
theorem ral_len {M : Mo} {σ : L2.St} {F : Hp} : ∀ {as : List Ar} {vs : List V}, RaL M σ F as vs → as.length = vs.length
  | [], _, h => by rw [show _ = ([] : List V) from h]; rfl
  | .v _ :: r, _, ⟨v, vs, e, _, q⟩ => by rw [e, List.length_cons, List.length_cons, ral_len q]
  | .io i :: r, _, ⟨v, vs, e, s, q⟩ => by rw [e, List.length_cons, List.length_cons, ral_len q]
theorem ral_v {M : Mo} {σ : L2.St} {F : Hp} : ∀ {as : List Ar} {vs : List V} {i : Nat} {d : D}, RaL M σ F as vs → as[i]? = some (.v d) → ∃ v, vs[i]? = some v ∧ Rp M F d v
  | [], _, _, _, _, h => by simp at h
  | .v _ :: r, _, 0, _, ⟨v, vs, e, p, q⟩, h => by
    simp at h
    subst h
    exact ⟨v, by rw [e]; rfl, p⟩
  | .v _ :: r, _, i + 1, _, ⟨v, vs, e, p, q⟩, h => by
    rw [List.getElem?_cons_succ] at h
    obtain ⟨w, h1, h2⟩ := ral_v q h
    exact ⟨w, by rw [e, List.getElem?_cons_succ]; exact h1, h2⟩
  | .io _ :: r, _, 0, _, _, h => by simp at h
  | .io _ :: r, _, i + 1, _, ⟨v, vs, e, p, q⟩, h => by
    rw [List.getElem?_cons_succ] at h
    obtain ⟨w, h1, h2⟩ := ral_v q h
    exact ⟨w, by rw [e, List.getElem?_cons_succ]; exact h1, h2⟩
theorem ioOf_mem : ∀ {as : List Ar} {k n i : Nat}, as[n]? = some (.io i) → (n + k, i) ∈ ioOf k as
  | [], _, _, _, h => by simp at h
  | .v _ :: r, k, 0, _, h => by simp at h
  | .v _ :: r, k, n + 1, i, h => by
    rw [List.getElem?_cons_succ] at h
    have := ioOf_mem (k := k + 1) h
    rw [show n + 1 + k = n + (k + 1) by omega]
    exact this
  | .io _ :: r, k, 0, i, h => by
    simp at h
    subst h
    exact List.mem_cons.mpr (.inl (by simp))
  | .io _ :: r, k, n + 1, i, h => by
    rw [List.getElem?_cons_succ] at h
    have := ioOf_mem (k := k + 1) h
    rw [show n + 1 + k = n + (k + 1) by omega]
    exact List.mem_cons.mpr (.inr this)
def toK (ps : List (Nat × Nat)) (i : Nat) : Option Nat := (ps.find? fun p => p.2 == i).map (·.1)
def toI (ps : List (Nat × Nat)) (k : Nat) : Option Nat := (ps.find? fun p => p.1 == k).map (·.2)
theorem toK_mem {ps : List (Nat × Nat)} {i k : Nat} (h : toK ps i = some k) : (k, i) ∈ ps := by
  unfold toK at h
  cases q : ps.find? fun p => p.2 == i with
  | none => rw [q] at h; cases h
  | some p =>
    rw [q] at h
    have h : p.1 = k := Option.some.inj h
    have h2 : p.2 = i := by simpa using List.find?_some q
    have := List.mem_of_find?_eq_some q
    rw [← h, ← h2]
    exact this
theorem toI_mem {ps : List (Nat × Nat)} {i k : Nat} (h : toI ps k = some i) : (k, i) ∈ ps := by
  unfold toI at h
  cases q : ps.find? fun p => p.1 == k with
  | none => rw [q] at h; cases h
  | some p =>
    rw [q] at h
    have h : p.2 = i := Option.some.inj h
    have h2 : p.1 = k := by simpa using List.find?_some q
    have := List.mem_of_find?_eq_some q
    rw [← h, ← h2]
    exact this
theorem pair_snd : ∀ {ps : List (Nat × Nat)} {a b i : Nat}, (ps.map (·.2)).Nodup → (a, i) ∈ ps → (b, i) ∈ ps → a = b
  | [], _, _, _, _, h, _ => by simp at h
  | p :: ps, a, b, i, nd, h1, h2 => by
    obtain ⟨n1, n2⟩ := List.nodup_cons.mp nd
    rcases List.mem_cons.mp h1 with h1 | h1 <;> rcases List.mem_cons.mp h2 with h2 | h2
    · rw [← h1] at h2
      exact (Prod.mk.inj h2).1.symm
    · exact absurd (List.mem_map.mpr ⟨_, h2, by rw [← h1]⟩) n1
    · exact absurd (List.mem_map.mpr ⟨_, h1, by rw [← h2]⟩) n1
    · exact pair_snd n2 h1 h2
theorem pair_fst : ∀ {ps : List (Nat × Nat)} {a b i : Nat}, (ps.map (·.1)).Nodup → (i, a) ∈ ps → (i, b) ∈ ps → a = b
  | [], _, _, _, _, h, _ => by simp at h
  | p :: ps, a, b, i, nd, h1, h2 => by
    obtain ⟨n1, n2⟩ := List.nodup_cons.mp nd
    rcases List.mem_cons.mp h1 with h1 | h1 <;> rcases List.mem_cons.mp h2 with h2 | h2
    · rw [← h1] at h2
      exact (Prod.mk.inj h2).2.symm
    · exact absurd (List.mem_map.mpr ⟨_, h2, by rw [← h1]⟩) n1
    · exact absurd (List.mem_map.mpr ⟨_, h1, by rw [← h2]⟩) n1
    · exact pair_fst n2 h1 h2
theorem mem_toK {ps : List (Nat × Nat)} {i k : Nat} (nd : (ps.map (·.2)).Nodup) (h : (k, i) ∈ ps) : toK ps i = some k := by
  cases q : toK ps i with
  | some k' => rw [pair_snd nd h (toK_mem q)]
  | none =>
    unfold toK at q
    have : ps.find? (fun p => p.2 == i) = none := by
      cases z : ps.find? fun p => p.2 == i with
      | none => rfl
      | some p => rw [z] at q; cases q
    exact absurd (List.find?_eq_none.mp this _ h) (by simp)
theorem mem_toI {ps : List (Nat × Nat)} {i k : Nat} (nd : (ps.map (·.1)).Nodup) (h : (k, i) ∈ ps) : toI ps k = some i := by
  cases q : toI ps k with
  | some k' => rw [pair_fst nd h (toI_mem q)]
  | none =>
    unfold toI at q
    have : ps.find? (fun p => p.1 == k) = none := by
      cases z : ps.find? fun p => p.1 == k with
      | none => rfl
      | some p => rw [z] at q; cases q
    exact absurd (List.find?_eq_none.mp this _ h) (by simp)
/-- what is owned, as the callee sees it, and behind the call -/
def inW (ps : List (Nat × Nat)) (W : Own) : Own := fun a => match W a with
  | some ((i + 1) :: q) => (toK ps i).map fun k => (k + 1) :: q
  | _ => none
def outW (ps : List (Nat × Nat)) (W W' : Own) : Own := fun a => match W' a with
  | some (0 :: q) => some (0 :: q)
  | some ((k + 1) :: q) => (toI ps k).map fun i => (i + 1) :: q
  | some [] => none
  | none => match W a with
    | some ((i + 1) :: q) => if (toK ps i).isSome = true then none else some ((i + 1) :: q)
    | _ => none
theorem inW_some {ps : List (Nat × Nat)} {W : Own} {a : Addr} {p : List Nat} (h : inW ps W a = some p) : ∃ i k q, W a = some ((i + 1) :: q) ∧ toK ps i = some k ∧ p = (k + 1) :: q := by
  unfold inW at h
  split at h
  · rename_i i q hq
    cases z : toK ps i with
    | none => rw [z] at h; cases h
    | some k =>
      rw [z] at h
      exact ⟨i, k, q, hq, z, (Option.some.inj h).symm⟩
  · cases h
theorem inW_ne {ps : List (Nat × Nat)} {W : Own} {a : Addr} (h : inW ps W a ≠ none) : W a ≠ none := by
  cases q : inW ps W a with
  | none => exact absurd q h
  | some p =>
    obtain ⟨i, k, r, e, _⟩ := inW_some q
    rw [e]
    simp
theorem outW_cases {ps : List (Nat × Nat)} {W W' : Own} {a : Addr} {p : List Nat} (h : outW ps W W' a = some p) :
    (∃ q, W' a = some (0 :: q) ∧ p = 0 :: q) ∨ (∃ k i q, W' a = some ((k + 1) :: q) ∧ toI ps k = some i ∧ p = (i + 1) :: q) ∨ (∃ i q, W' a = none ∧ W a = some ((i + 1) :: q) ∧ toK ps i = none ∧ p = (i + 1) :: q) := by
  unfold outW at h
  split at h
  · rename_i q hq
    exact .inl ⟨q, hq, (Option.some.inj h).symm⟩
  · rename_i k q hq
    cases z : toI ps k with
    | none => rw [z] at h; cases h
    | some i =>
      rw [z] at h
      exact .inr (.inl ⟨k, i, q, hq, z, (Option.some.inj h).symm⟩)
  · cases h
  · rename_i hn
    split at h
    · rename_i i q hq
      cases z : toK ps i with
      | none =>
        rw [z] at h
        exact .inr (.inr ⟨i, q, hn, hq, z, (Option.some.inj h).symm⟩)
      | some k => rw [z] at h; cases h
    · cases h
section
variable {M : Mo} {e : Ent} {W : Own} {F H : Hp} {env : List D} {σ : L2.St} {as : List Ar} {vs : List V} {io : List Nat}
theorem Rel.enter (r : Rel M e W F H env σ) (ra : RaL M σ F as vs) {n : Nat} (ok : okIo n io as env = true) :
    RelB ⟨H, F, inW (ioOf 0 as) W, pinOf io vs⟩ (inW (ioOf 0 as) W) F H ∧ (∀ i d, (valsOf as env)[i]? = some d → d ≠ .unb ∧ ∃ v, vs[i]? = some v ∧ Ow M (inW (ioOf 0 as) W) F H [i + 1] d v) := by
  unfold okIo at ok
  rw [Bool.and_eq_true, Bool.and_eq_true, Bool.and_eq_true] at ok
  obtain ⟨_, ⟨o1, o2⟩, o3⟩ := ok
  have o1 := of_decide_eq_true o1
  have o2 := of_decide_eq_true o2
  refine ⟨⟨fun _ _ _ h => h, Ex.refl F, r.exF, fun a h => ?_, fun a c q h => ?_, fun _ h => .inl h, fun _ h => h⟩, fun i d h => ?_⟩
  · have z := r.sep a (inW_ne h)
    exact ⟨z.1, .inl h, z.2.2⟩
  · obtain ⟨i, k, q', h1, h2, h3⟩ := inW_some h
    have h4 : c = k + 1 := by
      injection h3
    subst h4
    have hm := toK_mem h2
    obtain ⟨v, h6, h7, _⟩ := ral_io ra hm
    refine .inr ⟨k, v, q, rfl, ?_, h⟩
    show pinOf io vs k = some v
    unfold pinOf
    rw [if_pos (by rw [← o1]; exact List.mem_map.mpr ⟨_, hm, rfl⟩)]
    exact h6
  · unfold valsOf at h
    rw [List.getElem?_map] at h
    cases q : as[i]? with
    | none => rw [q] at h; cases h
    | some x =>
      rw [q] at h
      cases x with
      | v d' =>
        have h : d' = d := Option.some.inj h
        subst h
        obtain ⟨v, h1, h2⟩ := ral_v ra q
        refine ⟨fun z => ?_, v, h1, .fz h2⟩
        subst z
        cases h2
      | io n =>
        have h : env.getD n .unb = d := Option.some.inj h
        have hm := ioOf_mem (k := 0) q
        have ho : ownd (env.getD n .unb) = true := List.all_eq_true.mp o3 _ hm
        obtain ⟨h1, h2⟩ := ownd_some ho
        rw [h] at h1 h2
        obtain ⟨v, h3, h4⟩ := r.slot n d h1 h2
        obtain ⟨w, h5, h6, _⟩ := ral_io ra hm
        have : w = v := by
          rw [h3] at h6
          cases h6
          rfl
        subst this
        refine ⟨h2, w, by simpa using h5, h4.tr (Ex.refl F) fun a q z => ⟨?_, fun _ x => x⟩⟩
        have hk : toK (ioOf 0 as) n = some i := by
          have := mem_toK o2 hm
          simpa using this
        unfold inW
        rw [z]
        show (toK (ioOf 0 as) n).map _ = _
        rw [hk]
        rfl
theorem wback_get : ∀ {is : List Nat} {ds env : List D} {i : Nat} {d : D}, is.Nodup → (wback is ds env)[i]? = some d → (i ∉ is ∧ env[i]? = some d) ∨ (∃ t : Nat, is[t]? = some i ∧ (ds[t]? = some d ∨ (ds[t]? = none ∧ env[i]? = some d)))
  | [], _, _, _, _, _, h => by
    unfold wback at h
    exact .inl ⟨by simp, h⟩
  | i0 :: is, [], env, i, d, nd, h => by
    unfold wback at h
    by_cases hi : i ∈ i0 :: is
    · obtain ⟨t, ht⟩ := List.mem_iff_getElem?.mp hi
      exact .inr ⟨t, ht, .inr ⟨rfl, h⟩⟩
    · exact .inl ⟨hi, h⟩
  | i0 :: is, d0 :: ds, env, i, d, nd, h => by
    unfold wback at h
    obtain ⟨n1, n2⟩ := List.nodup_cons.mp nd
    rcases wback_get n2 h with ⟨h1, h2⟩ | ⟨t, h1, h2⟩
    · by_cases z : i0 = i
      · subst z
        have hlt : i0 < env.length := by
          have := (List.getElem?_eq_some_iff.mp h2).1
          rwa [List.length_set] at this
        rw [List.getElem?_set_self hlt] at h2
        exact .inr ⟨0, rfl, .inl (by simpa using h2)⟩
      · rw [List.getElem?_set_ne z] at h2
        exact .inl ⟨by simp only [List.mem_cons, not_or]; exact ⟨fun y => z y.symm, h1⟩, h2⟩
    · refine .inr ⟨t + 1, by rw [List.getElem?_cons_succ]; exact h1, ?_⟩
      rw [List.getElem?_cons_succ]
      rcases h2 with h2 | ⟨h2, h3⟩
      · exact .inl h2
      · have z : i0 ≠ i := fun y => by
          subst y
          exact n1 (List.mem_of_getElem? h1)
        rw [List.getElem?_set_ne z] at h3
        exact .inr ⟨h2, h3⟩
theorem wback_len : ∀ {is : List Nat} {ds env : List D}, (wback is ds env).length = env.length
  | [], _, _ => by unfold wback; rfl
  | _ :: _, [], _ => by unfold wback; rfl
  | i :: is, d :: ds, env => by
    unfold wback
    rw [wback_len, List.length_set]
theorem Rel.leave {W' : Own} {F' H' : Hp} {outs : List D} (r : Rel M e W F H env σ) (ra : RaL M σ F as vs) {n : Nat} (ok : okIo n io as env = true) (hl : outs.length = io.length) (rb : RelB ⟨H, F, inW (ioOf 0 as) W, pinOf io vs⟩ W' F' H') (oo : outsOk M W' F' H' io outs vs) :
    Rel M e (outW (ioOf 0 as) W W') F' H' (wback ((ioOf 0 as).map (·.2)) outs env) σ ∧ ∀ d v, Ow M W' F' H' [0] d v → Ow M (outW (ioOf 0 as) W W') F' H' [0] d v := by
  unfold okIo at ok
  rw [Bool.and_eq_true, Bool.and_eq_true, Bool.and_eq_true] at ok
  obtain ⟨_, ⟨o1, o2⟩, o3⟩ := ok
  have o1 := of_decide_eq_true o1
  have o2 := of_decide_eq_true o2
  have n1 := ioOf_fst (as := as) (k := 0)
  have stay : ∀ b, H b ≠ none → H' b ≠ none := rb.stay
  have key : ∀ a i q, W a = some ((i + 1) :: q) → toK (ioOf 0 as) i = none → W' a = none ∧ inW (ioOf 0 as) W a = none := fun a i q h1 h2 => by
    have h3 : inW (ioOf 0 as) W a = none := by
      unfold inW
      rw [h1]
      show (toK (ioOf 0 as) i).map _ = none
      rw [h2]
      rfl
    refine ⟨?_, h3⟩
    cases z : W' a with
    | none => rfl
    | some p =>
      rcases (rb.sep a (by rw [z]; simp)).2.1 with y | y
      · exact absurd h3 y
      · exact absurd y (r.sep a (by rw [h1]; simp)).2.2
  refine ⟨⟨⟨fun b o h1 h2 => ?_, r.exF0.trans rb.exF0, rb.exF, fun a h => ?_, fun a c q h => ?_, fun b h => ?_, fun b h => stay b (r.stay b h)⟩, by rw [wback_len]; exact r.len, fun i d h1 h2 => ?_, r.pin⟩, fun d v h => ?_⟩
  · refine rb.pres b o ?_ (r.pres b o h1 h2)
    show inW (ioOf 0 as) W b = none
    cases z : inW (ioOf 0 as) W b with
    | none => rfl
    | some p =>
      have hw := inW_ne (ps := ioOf 0 as) (W := W) (a := b) (by rw [z]; simp)
      rcases (r.sep b hw).2.1 with y | y
      · exact absurd h1 y
      · rw [y] at h2
        cases h2
  · cases z : outW (ioOf 0 as) W W' a with
    | none => exact absurd z h
    | some p =>
      rcases outW_cases z with ⟨q, h1, _⟩ | ⟨k, i, q, h1, h2, _⟩ | ⟨i, q, h1, h2, h3, _⟩
      · have y := rb.sep a (by rw [h1]; simp)
        refine ⟨y.1, ?_, y.2.2⟩
        rcases y.2.1 with x | x
        · exact (r.sep a (inW_ne x)).2.1
        · refine .inr ?_
          cases w : e.H0 a with
          | none => rfl
          | some o => exact absurd x (r.stay a (by rw [w]; simp))
      · have y := rb.sep a (by rw [h1]; simp)
        refine ⟨y.1, ?_, y.2.2⟩
        rcases y.2.1 with x | x
        · exact (r.sep a (inW_ne x)).2.1
        · refine .inr ?_
          cases w : e.H0 a with
          | none => rfl
          | some o => exact absurd x (r.stay a (by rw [w]; simp))
      · have y := r.sep a (by rw [h2]; simp)
        refine ⟨?_, y.2.1, stay a y.2.2⟩
        cases w : F' a with
        | none => rfl
        | some o =>
          rcases rb.new a (by rw [w]; simp) with x | x
          · exact absurd y.1 x
          · exact absurd x y.2.2
  · rcases outW_cases h with ⟨q', h1, h2⟩ | ⟨k, i, q', h1, h2, h3⟩ | ⟨i, q', h1, h2, h3, h4⟩
    · injection h2 with h2 _
      rcases rb.fresh a 0 q' h1 with x | ⟨n, v, q0, hn, _⟩
      · refine .inl ?_
        cases w : e.H0 a with
        | none => rfl
        | some o => exact absurd x (r.stay a (by rw [w]; simp))
      · omega
    · injection h3 with h3 _
      rcases rb.fresh a (k + 1) q' h1 with x | ⟨n, v, q0, hn, hv, hw⟩
      · refine .inl ?_
        cases w : e.H0 a with
        | none => rfl
        | some o => exact absurd x (r.stay a (by rw [w]; simp))
      · obtain ⟨i2, k2, q2, e1, e2, e3⟩ := inW_some hw
        have ek : k2 = k := by
          injection e3 with e3 _
          omega
        subst ek
        have ei : i2 = i := pair_fst n1 (toK_mem e2) (toI_mem h2)
        subst ei
        rw [h3]
        exact r.fresh a (i2 + 1) q2 e1
    · injection h4 with h4 _
      rw [h4]
      exact r.fresh a (i + 1) q' h2
  · rcases rb.new b h with x | x
    · exact r.new b x
    · refine .inr ?_
      cases w : e.H0 b with
      | none => rfl
      | some o => exact absurd x (r.stay b (by rw [w]; simp))
  · rcases wback_get o2 h1 with ⟨h3, h4⟩ | ⟨t, h3, h4⟩
    · obtain ⟨v, h5, h6⟩ := r.slot i d h4 h2
      have hk : toK (ioOf 0 as) i = none := by
        cases z : toK (ioOf 0 as) i with
        | none => rfl
        | some k => exact absurd (List.mem_map.mpr ⟨_, toK_mem z, rfl⟩) h3
      refine ⟨v, h5, h6.tr (show Ex F F' from rb.exF0) fun a q z => ?_⟩
      obtain ⟨z1, z2⟩ := key a i q z hk
      refine ⟨?_, fun o x => rb.pres a o z2 x⟩
      unfold outW
      rw [z1, z]
      show (if (toK (ioOf 0 as) i).isSome = true then none else some ((i + 1) :: q)) = _
      rw [hk]
      rfl
    · -- a slot that was handed in
      have hp : ∃ k, (ioOf 0 as)[t]? = some (k, i) := by
        rw [List.getElem?_map] at h3
        cases z : (ioOf 0 as)[t]? with
        | none => rw [z] at h3; cases h3
        | some p =>
          rw [z] at h3
          have h3 : p.2 = i := Option.some.inj h3
          exact ⟨p.1, by rw [← h3]⟩
      obtain ⟨k, hp⟩ := hp
      have hm : (k, i) ∈ ioOf 0 as := List.mem_of_getElem? hp
      have hio : io[t]? = some k := by
        rw [← o1, List.getElem?_map, hp]
        rfl
      rcases h4 with h4 | ⟨h4, _⟩
      · obtain ⟨v, h5, h6⟩ := oo t k d hio h4 h2
        obtain ⟨w, h7, h8, _⟩ := ral_io ra hm
        have h7 : vs[k]? = some w := h7
        rw [h5] at h7
        cases h7
        refine ⟨v, h8, h6.tr (Ex.refl F') fun a q z => ⟨?_, fun _ x => x⟩⟩
        unfold outW
        rw [z]
        show (toI (ioOf 0 as) k).map _ = _
        rw [mem_toI n1 hm]
        rfl
      · exfalso
        have h9 : t < io.length := (List.getElem?_eq_some_iff.mp hio).1
        rw [← hl] at h9
        rw [List.getElem?_eq_getElem h9] at h4
        cases h4
  · refine h.tr (Ex.refl F') fun a q z => ⟨?_, fun _ x => x⟩
    unfold outW
    rw [z]
    rfl
end
end DL
namespace DL
open PySem PySem.Spec PyProof.Rows L2
def OutLen (io : List Nat) (f : List D → FR) : Prop := ∀ ds, (∀ d outs, f ds = .ret d outs → outs.length = io.length) ∧ (∀ c fs outs, f ds = .exc c fs outs → outs.length = io.length)
theorem outLen_run {N : Nat} {io : List Nat} {den : List D → O} : OutLen io (runD N io den) := fun ds => by
  have z : ∀ env, (outsD io env).length = io.length := fun env => by
    unfold outsD
    rw [List.length_map]
  constructor
  · intro d outs h
    unfold runD at h
    split at h <;> first | (injection h with h1 h2; rw [← h2]; exact z _) | cases h
  · intro c fs outs h
    unfold runD at h
    split at h <;> first | (injection h with h1 h2 h3; rw [← h3]; exact z _) | cases h
section
variable {X : Cx} {j : J} {k n : Nat} {f : Addr} {fd : FuncData} {ps : List Str} {io : List Nat} {g : List D → FR} {x : Str} {p pos : Pos} {e : Expr} {es : List Expr} {da : List D → R (List Ar)}
/-- what a call comes to -/
theorem call_at {σ : L2.St} {W : Own} {F H : Hp} {env : List D} {as : List Ar} {vs : List V} {Q : VK} (lo : OutLen io g) (rel : Rel (mo X) j.e W F H env σ) (ra : RaL (mo X) σ F as vs)
    (q : AtO (mo X) j F σ (if okIo n io as env = true then match g (valsOf as env) with
      | .ret d outs => .ok d (wback ((ioOf 0 as).map (·.2)) outs env)
      | .exc c fs outs => .ex c fs (wback ((ioOf 0 as).map (·.2)) outs env)
      | .bad => .bad
    else .bad) Q) : spD (mo X) n io g vs H Q (WE j.wx σ) := by
  by_cases ok : okIo n io as env = true
  · rw [if_pos ok] at q
    obtain ⟨rb, sl⟩ := rel.enter ra ok
    have hv : vs.length = n := by
      unfold okIo at ok
      rw [Bool.and_eq_true] at ok
      rw [← ral_len ra]
      exact of_decide_eq_true ok.1
    refine ⟨inW (ioOf 0 as) W, F, valsOf as env, hv, ?_, rb, sl, ?_⟩
    · unfold valsOf
      rw [List.length_map, ral_len ra]
      exact hv
    · obtain ⟨l1, l2⟩ := lo (valsOf as env)
      cases o : g (valsOf as env) with
      | ret d outs =>
        rw [o] at q
        intro W' F' H' v rb' p oo
        obtain ⟨r2, h2⟩ := rel.leave ra ok (l1 d outs o) rb' oo
        exact q _ F' H' v r2 rb'.exF0 (h2 d v p)
      | exc c fs outs =>
        rw [o] at q
        intro W' F' H' cls dd rb' p oo
        obtain ⟨r2, h2⟩ := rel.leave ra ok (l2 c fs outs o) rb' oo
        exact q _ F' H' cls dd r2 rb'.exF0 p
      | bad =>
        rw [o] at q
        exact q
  · rw [if_neg ok] at q
    exact q.elim
theorem AtO.mono {M : Mo} {j : J} {F F1 : Hp} {σ : L2.St} {r : R D} {Q : VK} (h : AtO M j F σ r Q) (x : Ex F F1) : AtO M j F1 σ r Q := by
  cases r with
  | ok d env' => exact fun W' F' H' v a b c => h W' F' H' v a (x.trans b) c
  | ex c fs env' => exact fun W' F' H' cls dd a b c => h W' F' H' cls dd a (x.trans b) c
  | bad => exact h
theorem AtO.bind {α β : Type} {M : Mo} {j : J} {rep : Hp → α → β → Prop} {F : Hp} {σ : L2.St} {r : R α} {f : α → List D → R D} {Q : VK} {P : β → Hp → Prop} (h : AtO M j F σ (bindR r f) Q)
    (k : ∀ d env1 W1 F1 H1 v, r = .ok d env1 → Rel M j.e W1 F1 H1 env1 σ → Ex F F1 → rep F1 d v → AtO M j F1 σ (f d env1) Q → P v H1) : At M j.e j.wx rep F σ r P := by
  cases r with
  | ok d env' => exact fun W' F' H' v a b c => k d env' W' F' H' v rfl a b c (h.mono b)
  | ex c fs env' => exact h
  | bad => exact h
theorem o_call (F : FnOk X.prog X.w X.K X.mg X.base (L2.CX X.prog X.w) k f fd ps (spD (mo X) n io g)) (hr : Room k X.A) (hm : X.mg x = some (.ref f)) (hk : PySem.W.keepIn X.K (.ref f) = true) (hb : Binds X.K fd ps []) (tk : Takes X j.wx) (lo : OutLen io g) (ha : DAr X j (e :: es) da)
    (hg : Gl X x := by rfl) (hdb : (x == ("__debug__" : Str)) = false := by decide) (he : starEach (e :: es) X.env = (false, eval e X.env) :: starEach es X.env := by rfl) (hpl : (backTo pos (starEach es X.env)).any (·.1) = false := by rfl) :
    DO X j (.Call (.Name x p) (e :: es) [] pos) (callO n io g da) :=
  PE.mono (pe_callS F hr hg hm hk hb (fun σ => passAt tk σ) ha hdb he hpl) fun σ H Q ⟨W, F', env, rel, q⟩ => ⟨W, F', env, rel, AtO.bind q fun as env1 W1 F1 H1 vs o r1 x1 p1 q1 =>
    call_at lo r1 p1 q1⟩
end
/-! ## loops -/
section
variable (dc : List D → R Bool) (db : List D → O)
def whN : Nat → List D → Option O
  | 0, _ => none
  | n + 1, env => match dc env with
    | .ok true env1 => match db env1 with
      | .nx env2 => whN n env2
      | .ct env2 => whN n env2
      | .bk env2 => some (.nx env2)
      | .rt d env2 => some (.rt d env2)
      | .ex c fs env2 => some (.ex c fs env2)
      | .bad => some .bad
    | .ok false env1 => some (.nx env1)
    | .ex c fs env1 => some (.ex c fs env1)
    | .bad => some .bad
open Classical in
/-- while, where it ends -/
noncomputable def whileD : List D → O := fun env => if h : ∃ n o, whN dc db n env = some o then Classical.choose (Classical.choose_spec h) else .bad
end
theorem whN_mono {dc : List D → R Bool} {db : List D → O} : ∀ {n m : Nat} {env : List D} {o : O}, whN dc db n env = some o → n ≤ m → whN dc db m env = some o
  | 0, _, _, _, h, _ => by cases h
  | n + 1, 0, _, _, _, h => by omega
  | n + 1, m + 1, env, o, h, hm => by
    unfold whN at h ⊢
    cases q : dc env with
    | ok b env1 =>
      rw [q] at h
      cases b with
      | true =>
        simp only at h ⊢
        cases q2 : db env1 with
        | nx env2 =>
          rw [q2] at h
          exact whN_mono h (by omega)
        | ct env2 =>
          rw [q2] at h
          exact whN_mono h (by omega)
        | bk env2 => rw [q2] at h; exact h
        | rt d env2 => rw [q2] at h; exact h
        | ex c fs env2 => rw [q2] at h; exact h
        | bad => rw [q2] at h; exact h
      | false => exact h
    | ex c fs env1 => rw [q] at h; exact h
    | bad => rw [q] at h; exact h
theorem whileD_of {dc : List D → R Bool} {db : List D → O} {n : Nat} {env : List D} {o : O} (h : whN dc db n env = some o) : whileD dc db env = o := by
  unfold whileD
  have hx : ∃ n o, whN dc db n env = some o := ⟨n, o, h⟩
  rw [dif_pos hx]
  have h2 := Classical.choose_spec (Classical.choose_spec hx)
  generalize Classical.choose (Classical.choose_spec hx) = r at h2 ⊢
  rcases Nat.le_total n (Classical.choose hx) with l | l
  · rw [whN_mono h l] at h2
    exact (Option.some.inj h2).symm
  · rw [whN_mono h2 l] at h
    exact Option.some.inj h
theorem whileD_has {dc : List D → R Bool} {db : List D → O} {env : List D} (h : whileD dc db env ≠ .bad) : ∃ n, whN dc db n env = some (whileD dc db env) := by
  by_cases hx : ∃ n o, whN dc db n env = some o
  · obtain ⟨n, o, e⟩ := hx
    exact ⟨n, by rw [whileD_of e]; exact e⟩
  · unfold whileD at h
    rw [dif_neg hx] at h
    exact absurd rfl h
theorem whileD_stop {dc : List D → R Bool} {db : List D → O} {env env1 : List D} (h : dc env = .ok false env1) : whileD dc db env = .nx env1 := whileD_of (n := 1) (by unfold whN; rw [h])
theorem whileD_turn {dc : List D → R Bool} {db : List D → O} {env env1 env2 : List D} (h : dc env = .ok true env1) (h2 : db env1 = .nx env2) : whileD dc db env = whileD dc db env2 := by
  by_cases hx : ∃ n o, whN dc db n env2 = some o
  · obtain ⟨n, o, e⟩ := hx
    rw [whileD_of e]
    exact whileD_of (n := n + 1) (by unfold whN; rw [h]; simp only; rw [h2]; exact e)
  · have hy : ¬ ∃ n o, whN dc db n env = some o := fun ⟨n, o, e⟩ => by
      cases n with
      | zero => cases e
      | succ n =>
        unfold whN at e
        rw [h] at e
        simp only at e
        rw [h2] at e
        exact hx ⟨n, o, e⟩
    unfold whileD
    rw [dif_neg hx, dif_neg hy]
theorem s_while {X : Cx} {j : J} {c : Expr} {body : List Stmt} {pos : Pos} {dc : List D → R Bool} {db : List D → O} (hp : PassesOwn (model X.prog X.w) X.A X.env X.xe) (hc : DT X j c dc) (hb : DSs X j body db) : DS X j (.While c body [] pos) (whileD dc db) :=
  PS.mono (ps_while hp hc hb) fun Dn σ H ⟨W, F, env, rel, q⟩ => by
    have ne : whileD dc db env ≠ .bad := fun z => by
      rw [z] at q
      exact q
    obtain ⟨n, hn⟩ := whileD_has ne
    refine ⟨fun m σ H => ∃ W1 F1 env1 o, Rel (mo X) j.e W1 F1 H env1 σ ∧ whN dc db m env1 = some o ∧ AtS (mo X) j F1 o Dn, ⟨n, W, F, env, _, rel, hn, q⟩, fun m σ H hw => ?_⟩
    obtain ⟨W1, F1, env1, o, r1, e1, q1⟩ := hw
    cases m with
    | zero => cases e1
    | succ m =>
      refine ⟨W1, F1, env1, r1, ?_⟩
      unfold whN at e1
      cases z : dc env1 with
      | ok b env2 =>
        rw [z] at e1
        intro W2 F2 H2 v r2 x2 hb2
        subst hb2
        cases b with
        | false =>
          simp only at e1
          cases e1
          exact q1 W2 F2 H2 σ r2 x2
        | true =>
          simp only at e1
          refine ⟨fun σ' H' => ∃ W3 F3 env3, Rel (mo X) j.e W3 F3 H' env3 σ' ∧ Ex F2 F3 ∧ whN dc db m env3 = some o, fun σ' H' ⟨W3, F3, env3, r3, x3, e3⟩ => ⟨m, Nat.lt_succ_self m, W3, F3, env3, o, r3, e3, q1.mono (x2.trans x3)⟩, W2, F2, env2, r2, ?_⟩
          cases y : db env2 with
          | nx env3 =>
            rw [y] at e1
            exact fun W3 F3 H3 σ3 r3 x3 => ⟨W3, F3, env3, r3, x3, e1⟩
          | ct env3 =>
            rw [y] at e1
            exact fun W3 F3 H3 σ3 r3 x3 => ⟨W3, F3, env3, r3, x3, e1⟩
          | bk env3 =>
            rw [y] at e1
            cases e1
            exact fun W3 F3 H3 σ3 r3 x3 => q1 W3 F3 H3 σ3 r3 (x2.trans x3)
          | rt d env3 =>
            rw [y] at e1
            cases e1
            exact fun W3 F3 H3 σ3 v r3 p3 => q1 W3 F3 H3 σ3 v r3 p3
          | ex c fs env3 =>
            rw [y] at e1
            cases e1
            exact fun W3 F3 H3 σ3 cls dd r3 x3 p3 => q1 W3 F3 H3 σ3 cls dd r3 (x2.trans x3) p3
          | bad =>
            rw [y] at e1
            cases e1
            exact q1.elim
      | ex c fs env2 =>
        rw [z] at e1
        cases e1
        exact fun W2 F2 H2 cls dd r2 x2 p2 => q1 W2 F2 H2 σ cls dd r2 x2 p2
      | bad =>
        rw [z] at e1
        cases e1
        exact q1.elim
/-! ### for -/
def tG (M : Mo) (j : J) (g : D → List D → Option (List D)) : TG := fun v σ H Q => ∃ W F env d, Rel M j.e W F H env σ ∧ Rp M F d v ∧ ∃ env', g d env = some env' ∧ ∀ W' F' H' σ', Rel M j.e W' F' H' env' σ' → Ex F F' → Q σ' H'
abbrev DG (X : Cx) (j : J) (tg : Expr) (g : D → List D → Option (List D)) : Prop := PG X tg (tG (mo X) j g)
def tGs (M : Mo) (j : J) (g : List D → List D → Option (List D)) : TGs := fun vs σ H Q => ∃ W F env ds, Rel M j.e W F H env σ ∧ RpL M F ds vs ∧ ∃ env', g ds env = some env' ∧ ∀ W' F' H' σ', Rel M j.e W' F' H' env' σ' → Ex F F' → Q σ' H'
abbrev DGs (X : Cx) (j : J) (ts : List Expr) (g : List D → List D → Option (List D)) : Prop := PGs X ts (tGs (mo X) j g)
def gnD (i : Nat) : D → List D → Option (List D) := fun d env => some (env.set i d)
def gNilD : List D → List D → Option (List D) := fun ds env => match ds with
  | [] => some env
  | _ => none
def gConsD (g : D → List D → Option (List D)) (h : List D → List D → Option (List D)) : List D → List D → Option (List D) := fun ds env => match ds with
  | d :: r => match g d env with
    | some env1 => h r env1
    | none => none
  | [] => none
def gTupD (g : List D → List D → Option (List D)) : D → List D → Option (List D) := fun d env => match d with
  | .tup l => g l env
  | _ => none
theorem PG.mono {X : Cx} {tg : Expr} {t t' : TG} (h : PG X tg t) (k : ∀ v σ H Q, t' v σ H Q → t v σ H Q) : PG X tg t' := ⟨fun pins s σ H v u Q I r q => h.run pins s σ H v u Q I r (k v σ H Q q)⟩
theorem PGs.mono {X : Cx} {tg : List Expr} {t t' : TGs} (h : PGs X tg t) (k : ∀ v σ H Q, t' v σ H Q → t v σ H Q) : PGs X tg t' := ⟨fun pins s σ H v u Q I r q => h.run pins s σ H v u Q I r (k v σ H Q q)⟩
section
variable {X : Cx} {j : J} {e tg : Expr} {es : List Expr} {pos : Pos} {g : D → List D → Option (List D)} {h : List D → List D → Option (List D)}
theorem g_name (i : Nat) {x : Str} (hN : X.N.Nodup) (hp : j.e.P i = none) (hi : X.N[i]? = some x := by rfl) (hx : Loc X.env.scope x := by first | exact Or.inl rfl | exact Or.inr rfl) (hf : X.fn x = true ∨ X.env.scope.names.lookup x = some .local := by first | exact .inl rfl | exact .inr rfl) : DG X j (.Name x pos) (gnD i) :=
  PG.mono (pg_name hN hi hx hf) fun v σ H Q ⟨W, F, env, d, r, p, env', e, q⟩ => by
    have e : env.set i d = env' := Option.some.inj e
    exact q W F H _ (by rw [← e]; exact r.set p hp) (Ex.refl F)
theorem gs_nil : DGs X j [] gNilD := PGs.mono pgs_nil fun vs σ H Q ⟨W, F, env, ds, r, p, env', e, q⟩ => by
  cases p with
  | nil =>
    have e : env = env' := Option.some.inj e
    exact ⟨rfl, q W F H σ (by rw [← e]; exact r) (Ex.refl F)⟩
  | cons _ _ => cases e
theorem gs_cons {g : D → List D → Option (List D)} (hg : DG X j e g) (hh : DGs X j es h) (hs : (assignEach (e :: es) X.env).map (·.2) = assign e X.env :: (assignEach es X.env).map (·.2) := by rfl) : DGs X j (e :: es) (gConsD g h) :=
  PGs.mono (pgs_cons hg hh hs) fun vs σ H Q ⟨W, F, env, ds, r, p, env', e, q⟩ => by
    cases p with
    | nil => cases e
    | @cons d l v xs p1 p2 =>
      unfold gConsD at e
      simp only at e
      cases o : g d env with
      | none => rw [o] at e; cases e
      | some env1 =>
        rw [o] at e
        exact ⟨v, xs, rfl, W, F, env, d, r, p1, env1, o, fun W' F' H' σ' r' x' => ⟨W', F', env1, l, r', p2.mono x', env', e, fun W2 F2 H2 σ2 r2 x2 => q W2 F2 H2 σ2 r2 (x'.trans x2)⟩⟩
theorem g_tup {k n : Nat} (hc : X.calm = true) (hh : DGs X j es h) (hlen : ∀ ds env env', h ds env = some env' → ds.length = n) (hn : (assignEach es X.env).length = n := by rfl) (hst : (assignEach es X.env).findIdx? (·.1) = none := by rfl) : DG X j (.Tuple es k pos) (gTupD h) :=
  PG.mono (pg_tup hc hh hn hst) fun v σ H Q ⟨W, F, env, d, r, p, env', e, q⟩ => by
    cases p with
    | tup h1 h2 =>
      exact ⟨_, _, rfl, ex_t r.exF h1, by rw [← h2.length]; exact hlen _ _ _ e, W, F, env, _, r, h2, env', e, q⟩
    | _ => cases e
theorem gConsD_len {g : D → List D → Option (List D)} {h : List D → List D → Option (List D)} {ds env env' : List D} {n : Nat} (hlen : ∀ ds env env', h ds env = some env' → ds.length = n) (e : gConsD g h ds env = some env') : ds.length = n + 1 := by
  unfold gConsD at e
  cases ds with
  | nil => cases e
  | cons d r =>
    simp only at e
    cases o : g d env with
    | none => rw [o] at e; cases e
    | some env1 =>
      rw [o] at e
      rw [List.length_cons, hlen _ _ _ e]
theorem gNilD_len {ds env env' : List D} (e : gNilD ds env = some env') : ds.length = 0 := by
  unfold gNilD at e
  cases ds with
  | nil => rfl
  | cons d r => cases e
end
/-- what is walked: the items -/
def ItOk (M : Mo) (Ji : It) (F : Hp) (ds : List D) : Prop := ∀ i F1 H, Ex F F1 → Ex F1 H →
  (i < ds.length → Ji.go i H ∧ ∀ x H', Ji.yld i H x H' → ∃ F2 d, ds[i]? = some d ∧ Grow F1 H F2 H' ∧ Rp M F2 d x) ∧ (ds.length = i → Ji.stop i H)
def tI (M : Mo) (j : J) (di : List D → R (List D)) : TI := fun σ H Rr => ∃ W F env, Rel M j.e W F H env σ ∧ At M j.e j.wx (fun F ds J => ItOk M J F ds) F σ (di env) Rr
abbrev DI (X : Cx) (j : J) (tg iter : Expr) (di : List D → R (List D)) : Prop := PI X tg iter (tI (mo X) j di)
def forGo (g : D → List D → Option (List D)) (db : List D → O) : List D → List D → O
  | [], env => .nx env
  | d :: ds, env => match g d env with
    | none => .bad
    | some env1 => match db env1 with
      | .nx e => forGo g db ds e
      | .ct e => forGo g db ds e
      | .bk e => .nx e
      | .rt d e => .rt d e
      | .ex c fs e => .ex c fs e
      | .bad => .bad
def forD (di : List D → R (List D)) (g : D → List D → Option (List D)) (db : List D → O) : List D → O := fun env => bindS (di env) fun ds env1 => forGo g db ds env1
theorem s_for {X : Cx} {j : J} {tg iter : Expr} {body : List Stmt} {pos : Pos} {di : List D → R (List D)} {g : D → List D → Option (List D)} {db : List D → O} (hp : PassesOwn (model X.prog X.w) X.A X.env X.xe) (hc : X.calm = true)
    (hi : DI X j tg iter di) (hg : DG X j tg g) (hb : DSs X j body db) (hs : ∀ x, foldedSetIterable iter X.env x = pure x := by intro _; rfl) : DS X j (.For tg iter body [] pos) (forD di g db) :=
  PS.mono (ps_for hp hc hi hg hb hs) fun Dn σ H ⟨W, F, env, rel, q⟩ => ⟨W, F, env, rel, AtS.bind q fun ds env1 W1 F1 H1 Ji _ r1 x1 p1 q1 => by
    refine ⟨fun i m σ H => m = ds.length - i ∧ i ≤ ds.length ∧ ∃ W2 F2 env2, Rel (mo X) j.e W2 F2 H env2 σ ∧ Ex F1 F2 ∧ AtS (mo X) j F2 (forGo g db (ds.drop i) env2) Dn, ⟨_, rfl, Nat.zero_le _, W1, F1, env1, r1, Ex.refl F1, q1⟩, fun i m σ H hw => ?_⟩
    obtain ⟨rfl, hi, W2, F2, env2, r2, x2, q2⟩ := hw
    by_cases hlt : i < ds.length
    · obtain ⟨go, yl⟩ := (p1 i F2 H x2 r2.exF).1 hlt
      rw [List.drop_eq_getElem_cons hlt] at q2
      unfold forGo at q2
      cases o : g ds[i] env2 with
      | none => rw [o] at q2; exact q2.elim
      | some env3 =>
        rw [o] at q2
        simp only at q2
        refine .inr ⟨go, fun σ' H' => ∃ W4 F4 env4, Rel (mo X) j.e W4 F4 H' env4 σ' ∧ Ex F1 F4 ∧ AtS (mo X) j F4 (forGo g db (ds.drop (i + 1)) env4) Dn, fun σ' H' ⟨W4, F4, env4, r4, x4, q4⟩ => ⟨ds.length - (i + 1), by omega, rfl, hlt, W4, F4, env4, r4, x4, q4⟩, fun x H' hy => ?_⟩
        obtain ⟨F3, d, e1, gr, rp⟩ := yl x H' hy
        have e2 : ds[i] = d := by
          rw [List.getElem?_eq_getElem hlt] at e1
          exact Option.some.inj e1
        refine ⟨W2, F3, env2, d, r2.grow gr, rp, env3, by rw [← e2]; exact o, fun W4 F4 H4 σ4 r4 x4 => ⟨W4, F4, env3, r4, ?_⟩⟩
        have x5 : Ex F2 F4 := gr.exF.trans x4
        cases y : db env3 with
        | nx env5 =>
          rw [y] at q2
          exact fun W5 F5 H5 σ5 r5 x6 => ⟨W5, F5, env5, r5, x2.trans (x5.trans x6), q2.mono (x5.trans x6)⟩
        | ct env5 =>
          rw [y] at q2
          exact fun W5 F5 H5 σ5 r5 x6 => ⟨W5, F5, env5, r5, x2.trans (x5.trans x6), q2.mono (x5.trans x6)⟩
        | bk env5 =>
          rw [y] at q2
          exact fun W5 F5 H5 σ5 r5 x6 => q2 W5 F5 H5 σ5 r5 (x5.trans x6)
        | rt d env5 =>
          rw [y] at q2
          exact q2
        | ex c fs env5 =>
          rw [y] at q2
          exact q2.mono x5
        | bad =>
          rw [y] at q2
          exact q2.elim
    · refine .inl ⟨(p1 i F2 H x2 r2.exF).2 (by omega), ?_⟩
      rw [List.drop_eq_nil_of_le (by omega)] at q2
      exact q2 W2 F2 H σ r2 (Ex.refl F2)⟩
/-! ### what a for walks -/
def seqOf : D → Option (List D)
  | .lst l => some l
  | .tup l => some l
  | _ => none
def itD (da : List D → R D) : List D → R (List D) := fun env => bindR (da env) fun d env1 => match d with
  | .lst l => .ok l env1
  | _ => .bad
def itT (da : List D → R D) : List D → R (List D) := fun env => bindR (da env) fun d env1 => match d with
  | .tup l => .ok l env1
  | _ => .bad
section
variable {X : Cx} {j : J} {tg l : Expr} {da : List D → R D}
theorem PI.mono' {t t' : TI} {iter : Expr} (h : PI X tg iter t) (k : ∀ σ H Rr, t' σ H Rr → t σ H Rr) : PI X tg iter t' := PI.mono h k
theorem itl_ok {M : Mo} {F : Hp} {a : Addr} {xs : List V} {ds : List D} (h : SqL M.K F a xs) (p : RpL M F ds xs) : ItOk M (Itl M.K a) F ds := fun i F1 H x1 x2 => by
  have hl := p.length
  have hS := ex_l x2 (ex_l x1 h)
  refine ⟨fun hi => ?_, fun hi => ⟨xs, hS, by omega⟩⟩
  have h1 : i < xs.length := by omega
  refine ⟨⟨xs, xs[i], hS, List.getElem?_eq_getElem h1⟩, fun x H' ⟨e, y⟩ => ?_⟩
  obtain ⟨v, h2, h3⟩ := p.get (List.getElem?_eq_getElem hi)
  have h4 := y xs hS
  rw [h2] at h4
  cases h4
  exact ⟨F1, ds[i], List.getElem?_eq_getElem hi, by rw [e]; exact Grow.refl x2, h3.mono x1⟩
theorem i_list (h : DE X j l da) : DI X j tg l (itD da) :=
  PI.mono (pi_list h) fun σ H Rr ⟨W, F, env, rel, q⟩ => ⟨W, F, env, rel, At.bind q fun d env1 W1 F1 H1 v _ r1 x1 p1 q1 => by
    cases p1 with
    | lst h1 h2 => exact ⟨_, rfl, ⟨_, ex_l r1.exF h1⟩, q1 W1 F1 H1 _ r1 (Ex.refl F1) (itl_ok (M := mo X) h1 h2)⟩
    | _ => exact q1.elim⟩
end
end DL
namespace DL
open PySem PySem.Spec PyProof.Rows L2
/-! ## more statements: a, b = x, y; a, b = e; x[i] = e; x.append(e) -/
def parD (i k : Nat) (da db : List D → R D) : List D → O := fun env => bindS (da env) fun x env1 => bindS (db env1) fun y env2 => .nx ((env2.set i x).set k y)
def asgG (da : List D → R D) (g : D → List D → Option (List D)) : List D → O := fun env => bindS (da env) fun d env1 => match g d env1 with
  | some env2 => .nx env2
  | none => .bad
section
variable {X : Cx} {j : J} {a b e tg : Expr} {pos pos' : Pos} {da db : List D → R D} {g : D → List D → Option (List D)}
theorem s_par (i k : Nat) {x y : Str} {px py pt : Pos} {kt k2 : Nat} {pt2 : Pos} (hc : X.calm = true) (hN : X.N.Nodup) (hp : j.e.P i = none) (hq : j.e.P k = none) (ha : DE X j a da) (hb : DE X j b db) (hi : X.N[i]? = some x := by rfl) (hj : X.N[k]? = some y := by rfl) (hij : i ≠ k := by decide)
    (hx : X.env.scope.names.lookup x = some .local := by rfl) (hy : X.env.scope.names.lookup y = some .local := by rfl)
    (hw : swappedStores [.Tuple [.Name x px, .Name y py] kt pt] (.Tuple [a, b] k2 pt2) X.env = pure (some [x, y]) := by rfl)
    (hs : swapsWithSole [.Tuple [.Name x px, .Name y py] kt pt] (.Tuple [a, b] k2 pt2) pos.line X.env = pure false := by rfl) (h1 : starEach (a :: [b]) X.env = (false, eval a X.env) :: starEach [b] X.env := by rfl) (h2 : starEach (b :: []) X.env = (false, eval b X.env) :: starEach [] X.env := by rfl) :
    DS X j (.Assign [.Tuple [.Name x px, .Name y py] kt pt] (.Tuple [a, b] k2 pt2) pos) (parD i k da db) :=
  PS.mono (ps_par hc hN hi hj hij hx hy (pa_cons ha (pa_cons hb pa_nil h2) h1) hw hs) fun Dn σ H ⟨W, F, env, rel, q⟩ => ⟨W, F, env, rel, AtS.bind q fun d env1 W1 F1 H1 v _ r1 x1 p1 q1 => ⟨W1, F1, env1, r1, AtS.bind q1 fun d2 env2 W2 F2 H2 v2 _ r2 x2 p2 q2 =>
    ⟨v, v2, rfl, q2 W2 F2 H2 _ ((r2.set (p1.mono x2) hp).set p2 hq) (Ex.refl F2)⟩⟩⟩
theorem s_asg (ha : DE X j e da) (hg : DG X j tg g) (hs : swapsWithSole [tg] e pos.line X.env = pure false := by rfl) (hw : swappedStores [tg] e X.env = pure none := by rfl)
    (h1 : (assignEach [tg] X.env).map (·.2) = [assign tg X.env] := by rfl) : DS X j (.Assign [tg] e pos) (asgG da g) :=
  PS.mono (ps_asg ha hg hs hw h1) fun Dn σ H ⟨W, F, env, rel, q⟩ => ⟨W, F, env, rel, AtS.bind q fun d env1 W1 F1 H1 v _ r1 x1 p1 q1 => by
    cases o : g d env1 with
    | none => rw [o] at q1; exact q1.elim
    | some env2 =>
      rw [o] at q1
      exact ⟨W1, F1, env1, d, r1, p1, env2, o, fun W' F' H' σ' r x => q1 W' F' H' σ' r x⟩⟩
end
/-- the list that an owned slot holds -/
def listAt (env : List D) (i : Nat) : Option (List D) := match env.getD i .unb with
  | .ml l => some l
  | _ => none
theorem listAt_some {env : List D} {i : Nat} {l : List D} (h : listAt env i = some l) : env[i]? = some (.ml l) := by
  unfold listAt at h
  split at h
  · rename_i l' hl
    cases h
    rw [List.getD_eq_getElem?_getD] at hl
    cases q : env[i]? with
    | none => rw [q] at hl; cases hl
    | some d => rw [q] at hl; exact congrArg some hl
  · cases h
theorem Rel.list {M : Mo} {e : Ent} {W : Own} {F H : Hp} {env : List D} {σ : L2.St} {i : Nat} {l : List D} (r : Rel M e W F H env σ) (h : listAt env i = some l) :
    ∃ a xs, σ[i]? = some (some (.ref a)) ∧ W a = some [i + 1] ∧ H a = some (.lst xs) ∧ OwL M W F H [i + 1] 0 l xs := by
  obtain ⟨v, h1, h2⟩ := r.slot i _ (listAt_some h) (fun z => nomatch z)
  cases h2 with
  | fz p => cases p
  | ml w1 w2 w3 => exact ⟨_, _, h1, w1, w2, w3⟩
theorem OwL.length {M : Mo} {W : Own} {F H : Hp} : ∀ {p : List Nat} {k : Nat} {l : List D} {xs : List V}, OwL M W F H p k l xs → l.length = xs.length
  | _, _, _, _, .nil => rfl
  | _, _, _, _, .cons _ q => congrArg (· + 1) q.length
theorem OwL.get {M : Mo} {W : Own} {F H : Hp} : ∀ {p : List Nat} {k : Nat} {l : List D} {xs : List V} {i : Nat} {d : D}, OwL M W F H p k l xs → l[i]? = some d → ∃ v, xs[i]? = some v ∧ Ow M W F H (p ++ [k + i]) d v
  | _, _, _, _, _, _, .nil, e => by simp at e
  | p, k, _, _, 0, _, .cons h _, e => by
    simp at e
    subst e
    exact ⟨_, rfl, h⟩
  | p, k, _, _, i + 1, _, .cons _ q, e => by
    obtain ⟨v, h1, h2⟩ := q.get (i := i) (by simpa using e)
    refine ⟨v, by simpa using h1, ?_⟩
    rw [show k + (i + 1) = k + 1 + i by omega]
    exact h2
theorem OwL.set {M : Mo} {W : Own} {F H : Hp} {d : D} {v : V} (h : Rp M F d v) : ∀ {p : List Nat} {k : Nat} {l : List D} {xs : List V} (n : Nat), OwL M W F H p k l xs → OwL M W F H p k (l.set n d) (xs.set n v)
  | _, _, _, _, _, .nil => .nil
  | _, _, _, _, 0, .cons _ q => .cons (.fz h) q
  | _, _, _, _, n + 1, .cons p q => .cons p (OwL.set h n q)
theorem OwL.snoc {M : Mo} {W : Own} {F H : Hp} {d : D} {v : V} (h : Rp M F d v) : ∀ {p : List Nat} {k : Nat} {l : List D} {xs : List V}, OwL M W F H p k l xs → OwL M W F H p k (l ++ [d]) (xs ++ [v])
  | _, _, _, _, .nil => .cons (.fz h) .nil
  | _, _, _, _, .cons p q => .cons p (OwL.snoc h q)
theorem OwL.upd {M : Mo} {W : Own} {F H : Hp} {p : List Nat} {k : Nat} {l : List D} {xs : List V} {a : Addr} {o : HO} {q0 : List Nat} (h : OwL M W F H p k l xs) (ha : W a = some q0) (hq : q0.length ≤ p.length) : OwL M W F (L2.upd H a o) p k l xs := by
  have : ∀ {p : List Nat} {k : Nat} {l : List D} {xs : List V}, q0.length ≤ p.length → OwL M W F H p k l xs → OwL M W F (L2.upd H a o) p k l xs := by
    intro p k l
    induction l generalizing k with
    | nil => intro xs _ h; cases h; exact .nil
    | cons d l ih =>
      intro xs hq h
      cases h with
      | cons h1 h2 =>
        refine .cons (h1.tr (Ex.refl F) fun b q z => ⟨z, fun u y => ?_⟩) (ih hq h2)
        have : b ≠ a := fun w => by
          subst w
          rw [ha] at z
          injection z with z
          rw [z] at hq
          simp only [List.length_append, List.length_cons, List.length_nil] at hq
          omega
        rw [upd_ne this]
        exact y
  exact this hq h
/-- x[k] read, x an owned list -/
def ixO (i : Nat) (dk : List D → R D) : List D → R D := fun env => if (listAt env i).isSome = true then bindR (dk env) fun k env1 => match k with
  | .int k => match listAt env1 i with
    | some l => match atI l k with
      | some d => if isOwn d = true then .bad else .ok d env1
      | none => .bad
    | none => .bad
  | _ => .bad
else .bad
theorem atI_get2 {α β : Type} {l : List α} {xs : List β} {k : Int} {d : α} (hl : l.length = xs.length) (h : atI l k = some d) : ∃ n : Nat, l[n]? = some d ∧ ∀ v, xs[n]? = some v → atI xs k = some v := by
  unfold atI at h ⊢
  rw [← hl]
  cases o : ixN l.length k with
  | none => rw [o] at h; cases h
  | some n =>
    rw [o] at h
    exact ⟨n, h, fun v hv => hv⟩
section
variable {X : Cx} {j : J} {b e : Expr} {pos px : Pos} {da dk : List D → R D}
theorem e_ixO (i : Nat) {x : Str} (h : PE X (.Name x px) (tVar i)) (hk : DE X j b dk) (hs : PlainIx b) : DE X j (.Subscript (.Name x px) b pos) (ixO i dk) :=
  PE.mono (pe_ix ix_list h hk hs) fun σ H Q ⟨W, F, env, rel, q⟩ => by
    unfold ixO at q
    by_cases o : (listAt env i).isSome = true
    · rw [if_pos o] at q
      obtain ⟨l0, e0⟩ := Option.isSome_iff_exists.mp o
      obtain ⟨a0, xs0, s0, _⟩ := rel.list e0
      refine ⟨_, s0, W, F, env, rel, At.bind q fun d env1 W1 F1 H1 v _ r1 x1 p1 q1 => ?_⟩
      cases p1 with
      | int k =>
        simp only at q1
        cases o2 : listAt env1 i with
        | none => rw [o2] at q1; exact q1.elim
        | some l =>
          rw [o2] at q1
          simp only at q1
          obtain ⟨a, xs, s1, w1, h1, ol⟩ := r1.list o2
          rw [s0] at s1
          cases s1
          cases o3 : atI l k with
          | none => rw [o3] at q1; exact q1.elim
          | some d =>
            rw [o3] at q1
            simp only at q1
            by_cases o4 : isOwn d = true
            · rw [if_pos o4] at q1
              exact q1.elim
            · rw [if_neg o4] at q1
              obtain ⟨n, g1, g2⟩ := atI_get2 ol.length o3
              obtain ⟨v, g3, g4⟩ := ol.get g1
              exact ⟨_, xs, k, v, rfl, rfl, SqL.of h1, g2 v g3, q1 W1 F1 H1 v r1 (Ex.refl F1) (g4.rp (by simpa using o4))⟩
      | _ => exact q1.elim
    · rw [if_neg o] at q
      exact q.elim
/-- len(x), x an owned list -/
def lenO (i : Nat) : List D → R D := fun env => match listAt env i with
  | some l => .ok (.int l.length) env
  | none => .bad
theorem e_lenO (i : Nat) {x y : Str} {p : Pos} (h : PE X (.Name x px) (tVar i)) (hg : Gl X y) (hm : X.mg y = none) (hv : bootBuiltins y = some (.builtin "len")) (hn : y ≠ "__name__" := by decide) (hdb : (y == ("__debug__" : Str)) = false := by decide) (hs : starEach [.Name x px] X.env = (false, eval (.Name x px) X.env) :: starEach [] X.env := by rfl)
    (he : starEach (.Name x px :: []) X.env = (false, eval (.Name x px) X.env) :: starEach [] X.env := by rfl) (hpl : (backTo pos (starEach [] X.env)).any (·.1) = false := by rfl) : DE X j (.Call (.Name y p) [.Name x px] [] pos) (lenO i) :=
  PE.mono (pe_callB call_len_seq hg hm hv (pa_cons h pa_nil hs) hn hdb he hpl) fun σ H Q ⟨W, F, env, rel, q⟩ => by
    unfold lenO at q
    cases o : listAt env i with
    | none => rw [o] at q; exact q.elim
    | some l =>
      rw [o] at q
      obtain ⟨a, xs, s1, w1, h1, ol⟩ := rel.list o
      refine ⟨_, s1, a, xs, rfl, .inl (SqL.of h1), ?_⟩
      rw [← ol.length]
      exact q W F H _ rel (Ex.refl F) (.int _)
/-- x[k] = e, x an owned list -/
def setO (i : Nat) (da dk : List D → R D) : List D → O := fun env => bindS (da env) fun d env1 => if (listAt env1 i).isSome = true then bindS (dk env1) fun k env2 => match k with
  | .int k => match listAt env2 i with
    | some l => match ixN l.length k with
      | some n => .nx (env2.set i (.ml (l.set n d)))
      | none => .bad
    | none => .bad
  | _ => .bad
else .bad
theorem s_setix (i : Nat) {x : Str} {tpos : Pos} (he : DE X j e da) (h : PE X (.Name x px) (tVar i)) (hk : DE X j b dk)
    (ha : ∀ v, assign (.Subscript (.Name x px) b tpos) X.env v = (do
      let ov ← holding [v] (eval (.Name x px) X.env)
      let iv ← holding [v, ov] (eval b X.env)
      standAt tpos
      holding [v, ov, iv] (setItem ov iv v)
      release [v, ov, iv] []) := by intro _; rfl) (hs : swapsWithSole [.Subscript (.Name x px) b tpos] e pos.line X.env = pure false := by rfl) (hw : swappedStores [.Subscript (.Name x px) b tpos] e X.env = pure none := by rfl)
    (h1 : (assignEach [.Subscript (.Name x px) b tpos] X.env).map (·.2) = [assign (.Subscript (.Name x px) b tpos) X.env] := by rfl) : DS X j (.Assign [.Subscript (.Name x px) b tpos] e pos) (setO i da dk) :=
  PS.mono (ps_asg he (pg_sub h hk set_list ha) hs hw h1) fun Dn σ H ⟨W, F, env, rel, q⟩ => ⟨W, F, env, rel, AtS.bind q fun d env1 W1 F1 H1 v _ r1 x1 p1 q1 => by
    by_cases o : (listAt env1 i).isSome = true
    · rw [if_pos o] at q1
      obtain ⟨l0, e0⟩ := Option.isSome_iff_exists.mp o
      obtain ⟨a0, xs0, s0, _⟩ := r1.list e0
      refine ⟨_, s0, W1, F1, env1, r1, AtS.bind q1 fun k env2 W2 F2 H2 v2 _ r2 x2 p2 q2 => ?_⟩
      cases p2 with
      | int k =>
        simp only at q2
        cases o2 : listAt env2 i with
        | none => rw [o2] at q2; exact q2.elim
        | some l =>
          rw [o2] at q2
          simp only at q2
          obtain ⟨a, xs, s1, w1, h1, ol⟩ := r2.list o2
          rw [s0] at s1
          cases s1
          cases o3 : ixN l.length k with
          | none => rw [o3] at q2; exact q2.elim
          | some n =>
            rw [o3] at q2
            refine ⟨_, xs, k, n, rfl, rfl, h1, by rw [← ol.length]; exact o3, q2 W2 F2 _ σ (r2.write w1 s0 ?_) (Ex.refl F2)⟩
            exact .ml w1 upd_same ((ol.upd w1 (Nat.le_refl _)).set (p1.mono x2) n)
      | _ => exact q2.elim
    · rw [if_neg o] at q1
      exact q1.elim⟩
/-- x.append(e) -/
def appO (i : Nat) (da : List D → R D) : List D → O := fun env => if (listAt env i).isSome = true then bindS (da env) fun d env1 => match listAt env1 i with
  | some l => if l.length < sizeLine then .nx (env1.set i (.ml (l ++ [d]))) else .bad
  | none => .bad
else .bad
theorem s_app (i : Nat) {x : Str} {apos cpos : Pos} (h : PE X (.Name x px) (tVar i)) (ha : DE X j e da) (hbase : attributeBase (.Name x px) "append" X.env (eval (.Name x px) X.env) = eval (.Name x px) X.env := by rfl)
    (hfew : ((backTo cpos (starEach (e :: []) X.env)).all (fun x => !x.1) && (backToKw cpos (keywordEach [] X.env)).all (fun x => x.1.isSome)
      && decide ((e :: []).length + ([] : List Keyword).length + (if ([] : List Keyword).isEmpty then 0 else 1) < 30)) = true := by rfl)
    (hline : (apos.endLine == cpos.line) = true := by rfl) (hs : starEach (e :: []) X.env = (false, eval e X.env) :: starEach [] X.env := by rfl) (hplain : (backTo cpos (starEach [] X.env)).any (·.1) = false := by rfl)
    (hsw : swapsWith (.Call (.Attribute (.Name x px) "append" apos) [e] [] cpos) none pos.line X.env = pure false := by rfl) : DS X j (.Expr (.Call (.Attribute (.Name x px) "append" apos) [e] [] cpos) pos) (appO i da) :=
  PS.mono (ps_expr (pe_bm PySem.F.plainAttrs_list PySem.F.slot_list_append PySem.F.type_list_append mt_append h (pa_cons ha pa_nil hs) hbase hfew hline hs hplain) hsw) fun Dn σ H ⟨W, F, env, rel, q⟩ => by
    unfold appO at q
    by_cases o : (listAt env i).isSome = true
    · rw [if_pos o] at q
      obtain ⟨l0, e0⟩ := Option.isSome_iff_exists.mp o
      obtain ⟨a0, xs0, s0, w0, h0, _⟩ := rel.list e0
      refine ⟨_, s0, .inl ⟨rfl, _, SqL.of h0⟩, W, F, env, rel, AtS.bind q fun d env1 W1 F1 H1 v _ r1 x1 p1 q1 => ?_⟩
      cases o2 : listAt env1 i with
      | none => rw [o2] at q1; exact q1.elim
      | some l =>
        rw [o2] at q1
        simp only at q1
        obtain ⟨a, xs, s1, w1, h1, ol⟩ := r1.list o2
        rw [s0] at s1
        cases s1
        by_cases o3 : l.length < sizeLine
        · rw [if_pos o3] at q1
          refine ⟨_, xs, v, rfl, rfl, h1, by rw [← ol.length]; exact o3, q1 W1 F1 _ σ (r1.write w1 s0 ?_) (Ex.refl F1)⟩
          exact .ml w1 upd_same ((ol.upd w1 (Nat.le_refl _)).snoc p1)
        · rw [if_neg o3] at q1
          exact q1.elim
    · rw [if_neg o] at q
      exact q.elim
end
/-! ## displays that are owned -/
theorem o_lst {X : Cx} {j : J} {es : List Expr} {pos : Pos} {dl : List D → R (List D)} (h : DL X j es dl) : DO X j (.List es pos) (fun env => bindR (dl env) fun xs env1 => if xs.length ≤ 1000 then .ok (.ml xs) env1 else .bad) :=
  PE.mono (pe_lst h) fun σ H Q ⟨W, F, env, rel, q⟩ => ⟨W, F, env, rel, AtO.bind q fun d env1 W1 F1 H1 v _ r1 x1 p1 q1 => by
    by_cases z : d.length ≤ 1000
    · rw [if_pos z] at q1
      refine ⟨le_line (by rw [← p1.length]; exact z), fun p n => ?_⟩
      obtain ⟨h1, h2⟩ := r1.newO n p1
      exact q1 _ F1 _ _ h1 (Ex.refl F1) h2
    · rw [if_neg z] at q1
      exact q1.elim⟩
/-! ## slices -/
def TOd (M : Mo) (j : J) (den : List D → R (Option Int)) : TO := fun σ H Q => tR M j.e j.wx (fun _ a b => a = b) den σ H Q
def noPartD : List D → R (Option Int) := fun env => .ok none env
def partD (da : List D → R D) : List D → R (Option Int) := fun env => bindR (da env) fun d env1 => match d with
  | .int i => .ok (some i) env1
  | _ => .bad
def cutL (l : List D) (lo hi : Option Int) : List D := (l.drop (HT.sIx l.length 0 lo)).take (HT.sIx l.length l.length hi - HT.sIx l.length 0 lo)
def cutD (d : D) (lo hi : Option Int) : Option D := match d with
  | .lst l => some (.lst (cutL l lo hi))
  | .tup l => if HT.sIx l.length 0 lo = 0 ∧ HT.sIx l.length l.length hi = l.length then none else some (.tup (cutL l lo hi))
  | .str z => if z.length ≤ sizeLine then some (.str (cutS z lo hi)) else none
  | _ => none
def sliceD (da : List D → R D) (dl dh : List D → R (Option Int)) : List D → R D := fun env => bindR (da env) fun d env1 => bindR (dl env1) fun lo env2 => bindR (dh env2) fun hi env3 => opR (cutD d lo hi) env3
section
variable {X : Cx} {j : J} {e : Expr} {pos p2 : Pos} {da : List D → R D} {dl dh : List D → R (Option Int)} {lo hi : Option Expr}
theorem PO.mono {lo : Option Expr} {t t' : TO} (h : PO X lo t) (k : ∀ σ H Q, t' σ H Q → t σ H Q) : PO X lo t' := ⟨fun pins s σ H Q I q => h.run pins s σ H Q I (k σ H Q q)⟩
theorem p_none : PO X none (TOd (mo X) j noPartD) := PO.mono po_none fun σ H Q ⟨W, F, env, rel, q⟩ => q W F H none rel (Ex.refl F) rfl
theorem p_some (h : DE X j e da) : PO X (some e) (TOd (mo X) j (partD da)) := PO.mono (po_some h) fun σ H Q ⟨W, F, env, rel, q⟩ => ⟨W, F, env, rel, At.bind q fun d env1 W1 F1 H1 v _ r1 x1 p1 q1 => by
  cases p1 with
  | int i => exact ⟨i, rfl, q1 W1 F1 H1 _ r1 (Ex.refl F1) rfl⟩
  | _ => exact q1.elim⟩
theorem RpL.cut {M : Mo} {F : Hp} {l : List D} {xs : List V} (h : RpL M F l xs) (lo hi : Option Int) : RpL M F (cutL l lo hi) (cutV xs lo hi) := by
  unfold cutL cutV
  rw [← h.length]
  exact (h.drop _).take _
theorem e_slice (h : DE X j e da) (hl : PO X lo (TOd (mo X) j dl)) (hh : PO X hi (TOd (mo X) j dh)) : DE X j (.Subscript e (.Slice lo hi none p2) pos) (sliceD da dl dh) :=
  PE.mono (pe_slice (sl_list.or (sl_tup.or sl_str)) h hl hh) fun σ H Q ⟨W, F, env, rel, q⟩ => ⟨W, F, env, rel, At.bind q fun d env1 W1 F1 H1 v _ r1 x1 p1 q1 => ⟨W1, F1, env1, r1, At.bind q1 fun lo env2 W2 F2 H2 v2 _ r2 x2 p2 q2 => ⟨W2, F2, env2, r2, At.bind q2 fun hi env3 W3 F3 H3 v3 _ r3 x3 p3 q3 => by
    subst p2 p3
    have p1 := p1.mono (x2.trans x3)
    unfold cutD at q3
    cases p1 with
    | lst h1 h2 => exact .inl ⟨_, _, rfl, ex_l r3.exF h1, fun p n => At.grow q3 r3 (Grow.one r3.exF n) (.lst (SqL.of upd_same) ((h2.cut _ _).mono (Ex.new (r3.exF.none n))))⟩
    | @tup a xs l h1 h2 =>
      simp only at q3
      split at q3
      · exact q3.elim
      · rename_i hz
        exact .inr (.inl ⟨_, _, rfl, ex_t r3.exF h1, by rw [← h2.length]; exact hz, fun p n => At.grow q3 r3 (Grow.one r3.exF n) (.tup (SqT.of upd_same) ((h2.cut _ _).mono (Ex.new (r3.exF.none n))))⟩)
    | str z =>
      simp only at q3
      split at q3
      · rename_i hz
        exact .inr (.inr ⟨z, rfl, hz, q3 W3 F3 H3 _ r3 (Ex.refl F3) (.str _)⟩)
      · exact q3.elim
    | _ => exact q3.elim⟩⟩⟩
end
end DL
namespace DL
open PySem PySem.Spec PyProof.Rows L2
/-! ## a block within a body -/
abbrev noX : WX := fun _ _ _ _ => False
def blkW (pb : Nat → Option V) (W : Own) : Own := fun a => match W a with
  | some ((i + 1) :: q) => if (pb i).isSome = true then some ((i + 1) :: q) else none
  | _ => none
theorem blkW_some {pb : Nat → Option V} {W : Own} {a : Addr} {p : List Nat} (h : blkW pb W a = some p) : ∃ i q v, p = (i + 1) :: q ∧ W a = some p ∧ pb i = some v := by
  unfold blkW at h
  split at h
  · rename_i i q hq
    split at h
    · rename_i hs
      obtain ⟨v, hv⟩ := Option.isSome_iff_exists.mp hs
      cases h
      exact ⟨i, q, v, rfl, hq, hv⟩
    · cases h
  · cases h
section
variable {M : Mo} {e : Ent} {W : Own} {F H : Hp} {env : List D} {σ : L2.St}
theorem Rel.inB {pb : Nat → Option V} (r : Rel M e W F H env σ) (hp : ∀ i v, pb i = some v → σ[i]? = some (some v)) (ho : ∀ i d, env[i]? = some d → isOwn d = true → d ≠ .unb → pb i ≠ none) : Rel M ⟨H, F, blkW pb W, pb⟩ (blkW pb W) F H env σ where
  pres := fun _ _ _ h => h
  exF0 := Ex.refl F
  exF := r.exF
  sep := fun a h => by
    cases q : blkW pb W a with
    | none => exact absurd q h
    | some p =>
      obtain ⟨i, q', v, _, h2, _⟩ := blkW_some q
      have z := r.sep a (by rw [h2]; simp)
      exact ⟨z.1, .inl h, z.2.2⟩
  fresh := fun a c q h => by
    obtain ⟨i, q', v, h1, h2, h3⟩ := blkW_some h
    injection h1 with h1 _
    exact .inr ⟨i, v, q, h1, h3, h⟩
  new := fun _ h => .inl h
  stay := fun _ h => h
  len := r.len
  slot := fun i d h1 h2 => by
    obtain ⟨v, h3, h4⟩ := r.slot i d h1 h2
    refine ⟨v, h3, ?_⟩
    cases o : isOwn d with
    | false => exact .fz (h4.rp o)
    | true =>
      refine h4.tr (Ex.refl F) fun a q z => ⟨?_, fun _ x => x⟩
      have z2 : W a = some ((i + 1) :: q) := z
      unfold blkW
      rw [z2]
      show (if (pb i).isSome = true then some ((i + 1) :: q) else none) = some ((i + 1) :: q)
      rw [if_pos (Option.isSome_iff_ne_none.mpr (ho i d h1 o h2))]
  pin := hp
theorem Rel.outB {pb : Nat → Option V} {W' : Own} {F' H' : Hp} {env' : List D} {σ' : L2.St} (r : RelB e W F H) (r' : Rel M ⟨H, F, blkW pb W, pb⟩ W' F' H' env' σ') (hp : ∀ i v, e.P i = some v → pb i = some v) : Rel M e W' F' H' env' σ' where
  pres := fun b o h1 h2 => by
    refine r'.pres b o ?_ (r.pres b o h1 h2)
    show blkW pb W b = none
    cases q : blkW pb W b with
    | none => rfl
    | some p =>
      obtain ⟨i, q', v, _, h4, _⟩ := blkW_some q
      rcases (r.sep b (by rw [h4]; simp)).2.1 with z | z
      · exact absurd h1 z
      · rw [z] at h2
        cases h2
  exF0 := r.exF0.trans r'.exF0
  exF := r'.exF
  sep := fun a h => by
    obtain ⟨h1, h2, h3⟩ := r'.sep a h
    refine ⟨h1, ?_, h3⟩
    rcases h2 with h2 | h2
    · have h2 : blkW pb W a ≠ none := h2
      cases q : blkW pb W a with
      | none => exact absurd q h2
      | some p =>
        obtain ⟨i, q', v, _, h4, _⟩ := blkW_some q
        exact (r.sep a (by rw [h4]; simp)).2.1
    · refine .inr ?_
      cases w : e.H0 a with
      | none => rfl
      | some o => exact absurd h2 (r.stay a (by rw [w]; simp))
  fresh := fun a c q h => by
    rcases r'.fresh a c q h with h2 | ⟨i, v, q0, h2, h3, h4⟩
    · refine .inl ?_
      cases w : e.H0 a with
      | none => rfl
      | some o => exact absurd h2 (r.stay a (by rw [w]; simp))
    · have h4 : blkW pb W a = some (c :: q0) := h4
      obtain ⟨i2, q2, v2, h5, h6, h7⟩ := blkW_some h4
      exact r.fresh a c q0 h6
  new := fun b h => by
    rcases r'.new b h with h2 | h2
    · exact r.new b h2
    · refine .inr ?_
      cases w : e.H0 b with
      | none => rfl
      | some o => exact absurd h2 (r.stay b (by rw [w]; simp))
  stay := fun b h => r'.stay b (r.stay b h)
  len := r'.len
  slot := r'.slot
  pin := fun i v h => r'.pin i v (hp i v h)
end
/-! ## comprehensions -/
def wipeD (env : List D) : List Nat → List D
  | [] => env
  | v :: vs => (wipeD env vs).set v .unb
def backD (env0 env : List D) : List Nat → List D
  | [] => env
  | v :: vs => (backD env0 env vs).set v (if isOwn (env0.getD v .unb) = true then .unb else env0.getD v .unb)
theorem wipeD_len (env : List D) : ∀ vs : List Nat, (wipeD env vs).length = env.length
  | [] => rfl
  | v :: vs => by unfold wipeD; rw [List.length_set, wipeD_len env vs]
theorem backD_len (env0 env : List D) : ∀ vs : List Nat, (backD env0 env vs).length = env.length
  | [] => rfl
  | v :: vs => by unfold backD; rw [List.length_set, backD_len env0 env vs]
theorem wipeD_get {env : List D} {i : Nat} {d : D} : ∀ {vs : List Nat}, (wipeD env vs)[i]? = some d → d ≠ .unb → i ∉ vs ∧ env[i]? = some d
  | [], h, _ => ⟨by simp, h⟩
  | v :: vs, h, hd => by
    unfold wipeD at h
    by_cases z : v = i
    · subst z
      have hlt : v < (wipeD env vs).length := by
        have := (List.getElem?_eq_some_iff.mp h).1
        rwa [List.length_set] at this
      rw [List.getElem?_set_self hlt] at h
      cases h
      exact absurd rfl hd
    · rw [List.getElem?_set_ne z] at h
      obtain ⟨h1, h2⟩ := wipeD_get h hd
      exact ⟨by simp only [List.mem_cons, not_or]; exact ⟨fun e => z e.symm, h1⟩, h2⟩
theorem backD_get {env0 env : List D} {i : Nat} {d : D} : ∀ {vs : List Nat}, (backD env0 env vs)[i]? = some d → d ≠ .unb → (i ∉ vs ∧ env[i]? = some d) ∨ (i ∈ vs ∧ env0[i]? = some d ∧ isOwn d = false)
  | [], h, _ => .inl ⟨by simp, h⟩
  | v :: vs, h, hd => by
    unfold backD at h
    by_cases z : v = i
    · subst z
      have hlt : v < (backD env0 env vs).length := by
        have := (List.getElem?_eq_some_iff.mp h).1
        rwa [List.length_set] at this
      rw [List.getElem?_set_self hlt] at h
      by_cases o : isOwn (env0.getD v .unb) = true
      · rw [if_pos o] at h
        cases h
        exact absurd rfl hd
      · rw [if_neg o] at h
        have o := (by simpa using o : isOwn (env0.getD v .unb) = false)
        obtain ⟨h1, _⟩ := getD_some o
        cases h
        exact .inr ⟨List.mem_cons_self, h1, o⟩
    · rw [List.getElem?_set_ne z] at h
      rcases backD_get h hd with ⟨h1, h2⟩ | ⟨h1, h2⟩
      · exact .inl ⟨by simp only [List.mem_cons, not_or]; exact ⟨fun e => z e.symm, h1⟩, h2⟩
      · exact .inr ⟨List.mem_cons_of_mem _ h1, h2⟩
theorem wipe_get {σ : L2.St} {i : Nat} : ∀ {vs : List Nat}, i ∉ vs → (wipe σ vs)[i]? = σ[i]?
  | [], _ => rfl
  | v :: vs, h => by
    simp only [List.mem_cons, not_or] at h
    unfold wipe
    rw [List.getElem?_set_ne (fun e => h.1 e.symm)]
    exact wipe_get h.2
theorem wipe_in {σ : L2.St} {i : Nat} : ∀ {vs : List Nat}, i ∈ vs → (wipe σ vs)[i]? = if i < σ.length then some none else none
  | v :: vs, h => by
    unfold wipe
    by_cases z : v = i
    · subst z
      by_cases hl : v < σ.length
      · rw [if_pos hl, List.getElem?_set_self (by rw [wipe_length]; exact hl)]
      · rw [if_neg hl, List.getElem?_eq_none]
        rw [List.length_set, wipe_length]
        omega
    · rw [List.getElem?_set_ne z]
      rcases List.mem_cons.mp h with h | h
      · exact absurd h.symm z
      · exact wipe_in h
theorem wipe_eq {σ σ' : L2.St} {vs : List Nat} (hl : σ'.length = σ.length) (h : ∀ i, i ∉ vs → σ'[i]? = σ[i]?) : wipe σ' vs = wipe σ vs := by
  refine List.ext_getElem? fun i => ?_
  by_cases z : i ∈ vs
  · rw [wipe_in z, wipe_in z, hl]
  · rw [wipe_get z, wipe_get z]
    exact h i z
/-- the slots that a target stores -/
def tGw (M : Mo) (j : J) (ss : List Nat) (g : D → List D → Option (List D)) : TG := fun v σ H Q => ∃ W F env d, Rel M j.e W F H env σ ∧ Rp M F d v ∧ ∃ env', g d env = some env' ∧ ∀ W' F' H' σ', Rel M j.e W' F' H' env' σ' → Ex F F' → σ'.length = σ.length → (∀ i, i ∉ ss → σ'[i]? = σ[i]?) → Q σ' H'
abbrev DGw (X : Cx) (j : J) (tg : Expr) (ss : List Nat) (g : D → List D → Option (List D)) : Prop := PG X tg (tGw (mo X) j ss g)
def tGsw (M : Mo) (j : J) (ss : List Nat) (g : List D → List D → Option (List D)) : TGs := fun vs σ H Q => ∃ W F env ds, Rel M j.e W F H env σ ∧ RpL M F ds vs ∧ ∃ env', g ds env = some env' ∧ ∀ W' F' H' σ', Rel M j.e W' F' H' env' σ' → Ex F F' → σ'.length = σ.length → (∀ i, i ∉ ss → σ'[i]? = σ[i]?) → Q σ' H'
abbrev DGsw (X : Cx) (j : J) (ts : List Expr) (ss : List Nat) (g : List D → List D → Option (List D)) : Prop := PGs X ts (tGsw (mo X) j ss g)
section
variable {X : Cx} {j : J} {e tg : Expr} {es : List Expr} {pos : Pos} {h : List D → List D → Option (List D)} {ss st : List Nat}
theorem w_name (i : Nat) {x : Str} (hN : X.N.Nodup) (hp : j.e.P i = none) (hi : X.N[i]? = some x := by rfl) (hx : Loc X.env.scope x := by first | exact Or.inl rfl | exact Or.inr rfl) (hf : X.fn x = true ∨ X.env.scope.names.lookup x = some .local := by first | exact .inl rfl | exact .inr rfl) : DGw X j (.Name x pos) [i] (gnD i) :=
  PG.mono (pg_name hN hi hx hf) fun v σ H Q ⟨W, F, env, d, r, p, env', e, q⟩ => by
    have e : env.set i d = env' := Option.some.inj e
    exact q W F H _ (by rw [← e]; exact r.set p hp) (Ex.refl F) (by rw [List.length_set]) fun k hk => List.getElem?_set_ne (by simp at hk; exact fun z => hk z.symm)
theorem ws_nil : DGsw X j [] [] gNilD := PGs.mono pgs_nil fun vs σ H Q ⟨W, F, env, ds, r, p, env', e, q⟩ => by
  cases p with
  | nil =>
    have e : env = env' := Option.some.inj e
    exact ⟨rfl, q W F H σ (by rw [← e]; exact r) (Ex.refl F) rfl fun _ _ => rfl⟩
  | cons _ _ => cases e
theorem ws_cons {g : D → List D → Option (List D)} (hg : DGw X j e ss g) (hh : DGsw X j es st h) (hs : (assignEach (e :: es) X.env).map (·.2) = assign e X.env :: (assignEach es X.env).map (·.2) := by rfl) : DGsw X j (e :: es) (ss ++ st) (gConsD g h) :=
  PGs.mono (pgs_cons hg hh hs) fun vs σ H Q ⟨W, F, env, ds, r, p, env', e, q⟩ => by
    cases p with
    | nil => cases e
    | @cons d l v xs p1 p2 =>
      unfold gConsD at e
      simp only at e
      cases o : g d env with
      | none => rw [o] at e; cases e
      | some env1 =>
        rw [o] at e
        exact ⟨v, xs, rfl, W, F, env, d, r, p1, env1, o, fun W' F' H' σ' r' x' l1 k1 => ⟨W', F', env1, l, r', p2.mono x', env', e, fun W2 F2 H2 σ2 r2 x2 l2 k2 => q W2 F2 H2 σ2 r2 (x'.trans x2) (l2.trans l1) fun i hi => by
          simp only [List.mem_append, not_or] at hi
          rw [k2 i hi.2, k1 i hi.1]⟩⟩
theorem w_tup {k n : Nat} (hc : X.calm = true) (hh : DGsw X j es ss h) (hlen : ∀ ds env env', h ds env = some env' → ds.length = n) (hn : (assignEach es X.env).length = n := by rfl) (hst : (assignEach es X.env).findIdx? (·.1) = none := by rfl) : DGw X j (.Tuple es k pos) ss (gTupD h) :=
  PG.mono (pg_tup hc hh hn hst) fun v σ H Q ⟨W, F, env, d, r, p, env', e, q⟩ => by
    cases p with
    | tup h1 h2 =>
      exact ⟨_, _, rfl, ex_t r.exF h1, by rw [← h2.length]; exact hlen _ _ _ e, W, F, env, _, r, h2, env', e, q⟩
    | _ => cases e
end
/-- tests of a clause -/
def yesD : List D → R Bool := fun env => .ok true env
abbrev DTs (X : Cx) (j : J) (ifs : List Expr) (dt : List D → R Bool) : Prop := PTs X ifs (tT (mo X) j dt)
theorem ts_nil {X : Cx} {j : J} : DTs X j [] yesD := ⟨fun pins s σ H Q I h => pts_nil.run pins s σ H Q I (by obtain ⟨W, F, env, rel, q⟩ := h; exact q W F H true rel (Ex.refl F) rfl)⟩
theorem ts_one {X : Cx} {j : J} {c : Expr} {dt : List D → R Bool} (h : DT X j c dt) : DTs X j [c] dt := pts_one h
def bindB {α β : Type} (r : R α) (f : α → List D → R β) : R β := match r with
  | .ok a env => f a env
  | _ => .bad
@[simp] theorem bindB_ok {α β : Type} (a : α) (env : List D) (f : α → List D → R β) : bindB (.ok a env) f = f a env := rfl
def lcGo (g : D → List D → Option (List D)) (dt : List D → R Bool) (de : List D → R D) (vs : List Nat) : List D → List D → List D → R (List D)
  | [], acc, env => .ok acc env
  | d :: ds, acc, env => match g d env with
    | none => .bad
    | some env1 => bindB (dt env1) fun b env2 => if b = true then bindB (de env2) fun y env3 => lcGo g dt de vs ds (acc ++ [y]) (wipeD env3 vs) else lcGo g dt de vs ds acc (wipeD env2 vs)
def lcD (di : List D → R (List D)) (g : D → List D → Option (List D)) (dt : List D → R Bool) (de : List D → R D) (vs : List Nat) : List D → R D := fun env => bindR (di env) fun ds env1 =>
  if ds.length ≤ 1000000 then bindB (lcGo g dt de vs ds [] (wipeD env1 vs)) fun acc env2 => .ok (.ml acc) (backD env1 env2 vs) else .bad
/-- a block's result in a block: nothing is raised -/
theorem At.bindB {α β γ : Type} {M : Mo} {e : Ent} {rep : Hp → α → β → Prop} {F : Hp} {σ : L2.St} {r : R α} {f : α → List D → R γ} {o : R γ} {P : β → Hp → Prop} (h : DL.bindB r f = o) (ho : o ≠ .bad)
    (k : ∀ d env1 W1 F1 H1 v, r = .ok d env1 → Rel M e W1 F1 H1 env1 σ → Ex F F1 → rep F1 d v → f d env1 = o → P v H1) : At M e noX rep F σ r P := by
  cases r with
  | ok d env' => exact fun W' F' H' v a b c => k d env' W' F' H' v rfl a b c h
  | ex c fs env' => exact absurd h.symm ho
  | bad => exact absurd h.symm ho
theorem Rel.wipe {M : Mo} {e : Ent} {W : Own} {F H : Hp} {env : List D} {σ σ' : L2.St} (r : Rel M e W F H env σ) (vs : List Nat) (hl : σ'.length = σ.length) (h : ∀ i, i ∉ vs → σ'[i]? = σ[i]?) (hp : ∀ i ∈ vs, e.P i = none) : Rel M e W F H (wipeD env vs) σ' where
  toRelB := r.toRelB
  len := by rw [wipeD_len, hl]; exact r.len
  slot := fun i d h1 h2 => by
    obtain ⟨h3, h4⟩ := wipeD_get h1 h2
    obtain ⟨v, h5, h6⟩ := r.slot i d h4 h2
    exact ⟨v, by rw [h i h3]; exact h5, h6⟩
  pin := fun i v hv => by
    have : i ∉ vs := fun z => by
      rw [hp i z] at hv
      cases hv
    rw [h i this]
    exact r.pin i v hv
section
variable {X : Cx} {j : J} {elt tg iter : Expr} {ifs : List Expr} {scope : Scope} {pos : Pos} {own : List (Str × Nat)} {di : List D → R (List D)} {g : D → List D → Option (List D)} {dt : List D → R Bool} {de : List D → R D} {ss : List Nat}
abbrev lcG (M : Mo) (vs ss : List Nat) (g : D → List D → Option (List D)) : TG := fun v σ H Q => ∃ eb : Ent, (∀ i ∈ vs, eb.P i = none) ∧ tGw M ⟨eb, noX⟩ ss g v σ H Q
abbrev lcT (M : Mo) (vs : List Nat) (dt : List D → R Bool) : TT := fun σ H Q => ∃ eb : Ent, (∀ i ∈ vs, eb.P i = none) ∧ tT M ⟨eb, noX⟩ dt σ H Q
abbrev lcE (M : Mo) (vs : List Nat) (de : List D → R D) : TE := fun σ H Q => ∃ eb : Ent, (∀ i ∈ vs, eb.P i = none) ∧ tE M ⟨eb, noX⟩ de σ H Q
/-- what the library's reading of a comprehension asks -/
theorem lc_red {vs : List Nat} (hp : ∀ i ∈ vs, j.e.P i = none) (hss : ∀ i ∈ ss, i ∈ vs) {σ : L2.St} {H : Hp} {Q : VK} (h : tO (mo X) j (lcD di g dt de vs) σ H Q) : tLc (tI (mo X) j di) (lcG (mo X) vs ss g) (lcT (mo X) vs dt) (lcE (mo X) vs de) vs σ H Q := by
  obtain ⟨W, F, env, rel, q⟩ := h
  refine ⟨W, F, env, rel, AtO.bind q fun ds env1 W1 F1 H1 Ji _ r1 x1 p1 q1 => ?_⟩
  by_cases hds0 : ¬ ds.length ≤ 1000000
  · rw [if_neg hds0] at q1
    exact q1.elim
  have hds : ds.length ≤ 1000000 := by omega
  rw [if_pos hds] at q1
  cases o : lcGo g dt de vs ds [] (wipeD env1 vs) with
  | ex c fs en => rw [o] at q1; exact q1.elim
  | bad => rw [o] at q1; exact q1.elim
  | ok acc0 env0 =>
    rw [o] at q1
    intro Dl hDl
    have wl : (wipe σ vs).length = σ.length := wipe_length σ vs
    have wg : ∀ i, i ∉ vs → (wipe σ vs)[i]? = σ[i]? := fun i h => wipe_get h
    have dW1 : W1 Dl = none := by
      cases z : W1 Dl with
      | none => rfl
      | some p => exact absurd hDl (r1.sep Dl (by rw [z]; simp)).2.2
    have dF1 : F1 Dl = none := r1.exF.none hDl
    -- the new list
    have gr : Rel (mo X) j.e W1 F1 (upd H1 Dl (.lst [])) (wipeD env1 vs) (wipe σ vs) := by
      have a := r1.wipe vs wl wg hp
      have h0 : j.e.H0 Dl = none := by
        cases z : j.e.H0 Dl with
        | none => rfl
        | some p => exact absurd hDl (r1.stay Dl (by rw [z]; simp))
      refine ⟨⟨fun b u h1 h2 => ?_, a.exF0, fun b u h => ?_, fun b h => ?_, a.fresh, a.new, fun b h => ?_⟩, a.len, fun i d h1 h2 => ?_, a.pin⟩
      · have : b ≠ Dl := fun z => by
          subst z
          rw [h0] at h2
          cases h2
        rw [upd_ne this]
        exact a.pres b u h1 h2
      · have : b ≠ Dl := fun z => by
          subst z
          rw [dF1] at h
          cases h
        rw [upd_ne this]
        exact a.exF b u h
      · have : b ≠ Dl := fun z => h (by rw [z]; exact dW1)
        rw [upd_ne this]
        exact a.sep b h
      · by_cases z : b = Dl
        · rw [z, upd_same]
          simp
        · rw [upd_ne z]
          exact a.stay b h
      · obtain ⟨v, h3, h4⟩ := a.slot i d h1 h2
        refine ⟨v, h3, h4.tr (Ex.refl F1) fun b q z => ⟨z, fun u y => ?_⟩⟩
        have : b ≠ Dl := fun w => by
          rw [w, dW1] at z
          cases z
        rw [upd_ne this]
        exact y
    refine ⟨fun i m H => m = ds.length - i ∧ i ≤ ds.length ∧ ∃ W2 F2 env2 acc xs, Rel (mo X) j.e W2 F2 H env2 (wipe σ vs) ∧ Ex F1 F2 ∧ H Dl = some (.lst xs) ∧ F2 Dl = none ∧ W2 Dl = none ∧ RpL (mo X) F2 acc xs ∧ acc.length ≤ i ∧ (∀ i ∈ vs, ∀ d, env2[i]? = some d → d = .unb) ∧ lcGo g dt de vs (ds.drop i) acc env2 = .ok acc0 env0,
      ⟨_, rfl, Nat.zero_le _, W1, F1, _, [], [], gr, Ex.refl F1, upd_same, dF1, dW1, .nil, Nat.zero_le _, fun i hi d h => Classical.byContradiction fun hd => (wipeD_get h hd).1 hi, o⟩, fun i m H hw => ?_⟩
    obtain ⟨rfl, hi, W2, F2, env2, acc, xs, r2, x2, hD, hF, hW, ra, hacc, hun, e2⟩ := hw
    by_cases hlt : i < ds.length
    · obtain ⟨go, yl⟩ := (p1 i F2 H x2 r2.exF).1 hlt
      rw [List.drop_eq_getElem_cons hlt] at e2
      unfold lcGo at e2
      cases og : g ds[i] env2 with
      | none => rw [og] at e2; cases e2
      | some env3 =>
        rw [og] at e2
        simp only at e2
        refine .inr ⟨go, fun H' => ∃ W4 F4 env4 acc4 xs4, Rel (mo X) j.e W4 F4 H' env4 (wipe σ vs) ∧ Ex F1 F4 ∧ H' Dl = some (.lst xs4) ∧ F4 Dl = none ∧ W4 Dl = none ∧ RpL (mo X) F4 acc4 xs4 ∧ acc4.length ≤ i + 1 ∧ (∀ i ∈ vs, ∀ d, env4[i]? = some d → d = .unb) ∧ lcGo g dt de vs (ds.drop (i + 1)) acc4 env4 = .ok acc0 env0,
          fun H' h => ⟨ds.length - (i + 1), by omega, rfl, hlt, h⟩, fun x H' hy => ?_⟩
        obtain ⟨F3, d, e1, grw, rp⟩ := yl x H' hy
        have ed : ds[i] = d := by
          rw [List.getElem?_eq_getElem hlt] at e1
          exact Option.some.inj e1
        have r3 := r2.grow grw
        have hD3 : H' Dl = some (.lst xs) := grw.exH _ _ hD
        have hF3 : F3 Dl = none := by
          cases z : F3 Dl with
          | none => rfl
          | some u =>
            rcases grw.new Dl (by rw [z]; simp) with y | y
            · exact absurd hF y
            · rw [y] at hD
              cases hD
        -- the block's own entry
        have hpb : ∃ pb : Nat → Option V, (∀ i ∈ vs, pb i = none) ∧ (∀ i v, pb i = some v → (wipe σ vs)[i]? = some (some v)) ∧ (∀ i v, i ∉ vs → (wipe σ vs)[i]? = some (some v) → pb i = some v) :=
          ⟨fun i => if i ∈ vs then none else match (wipe σ vs)[i]? with | some o => o | none => none, fun i h => if_pos h, fun i v h => by
            simp only at h
            by_cases z : i ∈ vs
            · rw [if_pos z] at h
              cases h
            · rw [if_neg z] at h
              cases y : (wipe σ vs)[i]? with
              | none => rw [y] at h; cases h
              | some o => rw [y] at h; exact congrArg some h, fun i v h1 h2 => by
            simp only
            rw [if_neg h1, h2]⟩
        obtain ⟨pb, pb1, pb2, pb3⟩ := hpb
        have rB := r3.inB (pb := pb) pb2 fun i d h1 h2 h3 z => by
          have hn : i ∉ vs := fun hv => h3 (hun i hv d h1)
          obtain ⟨v, h4, _⟩ := r3.slot i d h1 h3
          rw [pb3 i v hn h4] at z
          cases z
        have hpe : ∀ i v, j.e.P i = some v → pb i = some v := fun i v h => by
          have hn : i ∉ vs := fun hv => by
            rw [hp i hv] at h
            cases h
          exact pb3 i v hn (r3.pin i v h)
        refine ⟨_, pb1, blkW pb W2, F3, env2, d, rB, rp, env3, by rw [← ed]; exact og, fun W4 F4 H4 σ4 r4 x4 l4 k4 => ?_⟩
        have k4' : ∀ i, i ∉ vs → σ4[i]? = (wipe σ vs)[i]? := fun i hn => k4 i fun z => hn (hss i z)
        have wσ : wipe σ4 vs = wipe σ vs := by
          rw [wipe_eq (σ := wipe σ vs) (σ' := σ4) l4 k4']
          refine List.ext_getElem? fun i => ?_
          by_cases z : i ∈ vs
          · rw [wipe_in z, wipe_in z, wl]
          · rw [wipe_get z]
        refine ⟨wσ, _, pb1, W4, F4, env3, r4, ?_⟩
        have keepD : ∀ {W' F' H' env' σ'}, Rel (mo X) ⟨_, F3, blkW pb W2, pb⟩ W' F' H' env' σ' → H' Dl = some (.lst xs) ∧ F' Dl = none ∧ W' Dl = none := fun {W' F' H' env' σ'} r => by
          have bn : blkW pb W2 Dl = none := by
            unfold blkW
            rw [hW]
          refine ⟨r.pres Dl _ bn hD3, ?_, ?_⟩
          · cases z : F' Dl with
            | none => rfl
            | some u =>
              rcases r.new Dl (by rw [z]; simp) with y | y
              · exact absurd hF3 y
              · cases hD3.symm.trans y
          · cases z : W' Dl with
            | none => rfl
            | some u =>
              rcases (r.sep Dl (by rw [z]; simp)).2.1 with y | y
              · exact absurd bn y
              · cases hD3.symm.trans y
        have back : ∀ {W' F' H' env'}, Rel (mo X) ⟨_, F3, blkW pb W2, pb⟩ W' F' H' env' σ4 → Rel (mo X) j.e W' F' H' (wipeD env' vs) (wipe σ vs) := fun {W' F' H' env'} r =>
          (Rel.outB r3.toRelB r hpe).wipe vs (by rw [l4]) (fun i hn => (k4' i hn).symm) hp
        have unb : ∀ (env' : List D) i, i ∈ vs → ∀ d, (wipeD env' vs)[i]? = some d → d = .unb := fun env' i hv d h => Classical.byContradiction fun hd => (wipeD_get h hd).1 hv
        refine At.bindB e2 (fun z => nomatch z) fun b env5 W5 F5 H5 b' ob r5 x5 hb e5 => ?_
        subst hb
        cases b with
        | false =>
          rw [if_neg Bool.false_ne_true] at e5 ⊢
          obtain ⟨d1, d2, d3⟩ := keepD r5
          exact ⟨W5, F5, _, acc, xs, back r5, x2.trans (grw.exF.trans (x4.trans x5)), d1, d2, d3, ra.mono (grw.exF.trans (x4.trans x5)), by omega, unb _, e5⟩
        | true =>
          rw [if_pos rfl] at e5 ⊢
          refine ⟨_, pb1, W5, F5, env5, r5, At.bindB e5 (fun z => nomatch z) fun y env6 W6 F6 H6 v oy r6 x6 py e6 => ?_⟩
          obtain ⟨d1, d2, d3⟩ := keepD r6
          have xx : Ex F2 F6 := grw.exF.trans (x4.trans (x5.trans x6))
          have hlen := ra.length
          refine ⟨xs, d1, ?_, W6, F6, _, acc ++ [y], xs ++ [v], ?_, x2.trans xx, upd_same, d2, d3, (ra.mono xx).append (.cons py .nil), by rw [List.length_append]; simp; omega, unb _, e6⟩
          · rw [sizeLine_eq]
            omega
          · have a := back r6
            refine ⟨⟨fun b u h1 h2 => ?_, a.exF0, fun b u h => ?_, fun b h => ?_, a.fresh, a.new, fun b h => ?_⟩, a.len, fun i d h1 h2 => ?_, a.pin⟩
            · have : b ≠ Dl := fun z => by
                subst z
                have := r1.stay b (by rw [h2]; simp)
                exact this hDl
              rw [upd_ne this]
              exact a.pres b u h1 h2
            · have : b ≠ Dl := fun z => by
                subst z
                rw [d2] at h
                cases h
              rw [upd_ne this]
              exact a.exF b u h
            · have : b ≠ Dl := fun z => h (by rw [z]; exact d3)
              rw [upd_ne this]
              exact a.sep b h
            · by_cases z : b = Dl
              · rw [z, upd_same]
                simp
              · rw [upd_ne z]
                exact a.stay b h
            · obtain ⟨v, h3, h4⟩ := a.slot i d h1 h2
              refine ⟨v, h3, h4.tr (Ex.refl _) fun b q z => ⟨z, fun u y => ?_⟩⟩
              have : b ≠ Dl := fun w => by
                rw [w, d3] at z
                cases z
              rw [upd_ne this]
              exact y
    · -- the end
      refine .inl ⟨(p1 i F2 H x2 r2.exF).2 (by omega), ?_⟩
      rw [List.drop_eq_nil_of_le (by omega)] at e2
      have e2 : R.ok acc env2 = R.ok acc0 env0 := e2
      injection e2 with e3 e4
      subst e3 e4
      -- the slots as they stood
      have a : Rel (mo X) j.e W2 F2 H (backD env1 env2 vs) σ := {
        toRelB := r2.toRelB
        len := by rw [backD_len, r2.len, wl]
        slot := fun i d h1 h2 => by
          rcases backD_get h1 h2 with ⟨h3, h4⟩ | ⟨h3, h4, h5⟩
          · obtain ⟨v, h6, h7⟩ := r2.slot i d h4 h2
            exact ⟨v, by rw [← wg i h3]; exact h6, h7⟩
          · obtain ⟨v, h6, h7⟩ := r1.slot i d h4 h2
            exact ⟨v, h6, .fz ((h7.rp h5).mono x2)⟩
        pin := r1.pin }
      have hD0 : j.e.H0 Dl = none := by
        cases z : j.e.H0 Dl with
        | none => rfl
        | some p => exact absurd hDl (r1.stay Dl (by rw [z]; simp))
      have own2 : ∀ {l : List D} {xs : List V} {W' : Own} {k : Nat}, RpL (mo X) F2 l xs → OwL (mo X) W' F2 H [0] k l xs := by
        intro l
        induction l with
        | nil => intro xs W' k h; cases h; exact .nil
        | cons d l ih => intro xs W' k h; cases h with
          | cons h q => exact .cons (.fz h) (ih q)
      have old : ∀ b, b ≠ Dl → newW W2 Dl b ≠ none → W2 b ≠ none := fun b hb h z => h (by
        unfold newW
        rw [if_neg hb, z]
        rfl)
      refine q1 (newW W2 Dl) F2 H (.ref Dl) ⟨⟨a.pres, a.exF0, a.exF, fun b h => ?_, fun b c q h => ?_, a.new, a.stay⟩, a.len, fun k d' h1 h2 => ?_, a.pin⟩ x2 (.ml (by unfold newW; rw [if_pos rfl]) hD (own2 ra))
      · by_cases z : b = Dl
        · subst z
          exact ⟨hF, .inr hD0, by rw [hD]; simp⟩
        · exact a.sep b (old b z h)
      · unfold newW at h
        split at h
        · rename_i z
          subst z
          exact .inl hD0
        · split at h
          · cases h
          · exact a.fresh b c q h
      · obtain ⟨v', h5, h6⟩ := a.slot k d' h1 h2
        refine ⟨v', h5, h6.tr (Ex.refl F2) fun b q' z => ⟨?_, fun _ y => y⟩⟩
        have : b ≠ Dl := fun w => by
          rw [w, hW] at z
          cases z
        unfold newW
        rw [if_neg this, if_neg]
        · exact z
        · intro w
          obtain ⟨q2, h7⟩ := rootIs_iff.mp w
          rw [z] at h7
          injection h7 with h7
          injection h7 with h8 _
          omega
theorem o_lc (hc : X.calm = true) (hN : X.N.Nodup) (hp : ∀ i ∈ own.map (·.2), j.e.P i = none) (hss : ∀ i ∈ ss, i ∈ own.map (·.2)) (hi : DI X j tg iter di) (ok : BlkOk X.N X.env.scope scope own)
    (hg : ∀ (s : Shared) (H : Hp) (C : Addr) (cl : List (Str × Addr)) (fp : List Addr) (eb : Ent), (∀ i ∈ own.map (·.2), eb.P i = none) → DGw (X.blk s H scope (compEnvC scope cl C X.env) fp) ⟨eb, noX⟩ tg ss g)
    (ht : ∀ (s : Shared) (H : Hp) (C : Addr) (cl : List (Str × Addr)) (fp : List Addr) (eb : Ent), (∀ i ∈ own.map (·.2), eb.P i = none) → DTs (X.blk s H scope (compEnvC scope cl C X.env) fp) ⟨eb, noX⟩ ifs dt)
    (he : ∀ (s : Shared) (H : Hp) (C : Addr) (cl : List (Str × Addr)) (fp : List Addr) (eb : Ent), (∀ i ∈ own.map (·.2), eb.P i = none) → DE (X.blk s H scope (compEnvC scope cl C X.env) fp) ⟨eb, noX⟩ elt de)
    (hs : ∀ x, foldedSetIterable iter X.env x = pure x := by intro _; rfl) : DO X j (.ListComp elt [⟨tg, iter, ifs, 0⟩] scope pos) (lcD di g dt de (own.map (·.2))) :=
  PE.mono (pe_lc (g := lcG (mo X) (own.map (·.2)) ss g) (tt := lcT (mo X) (own.map (·.2)) dt) (te := lcE (mo X) (own.map (·.2)) de) hc hN hi ok
    (fun s H C cl fp => ⟨fun pins s' σ H' v u Q I r ⟨eb, h1, h2⟩ => (hg s H C cl fp eb h1).run pins s' σ H' v u Q I r h2⟩)
    (fun s H C cl fp => ⟨fun pins s' σ H' Q I ⟨eb, h1, h2⟩ => (ht s H C cl fp eb h1).run pins s' σ H' Q I h2⟩)
    (fun s H C cl fp => ⟨fun pins s' σ H' Q I ⟨eb, h1, h2⟩ => (he s H C cl fp eb h1).run pins s' σ H' Q I h2⟩) hs) fun σ H Q h => lc_red hp hss h
/-- x = [..], x a local, on one line -/
theorem s_setLc (i : Nat) {y : Str} {py spos : Pos} (hc : X.calm = true) (hN : X.N.Nodup) (hpi : j.e.P i = none) (hp : ∀ i ∈ own.map (·.2), j.e.P i = none) (hss : ∀ i ∈ ss, i ∈ own.map (·.2)) (hi : DI X j tg iter di) (ok : BlkOk X.N X.env.scope scope own)
    (hg : ∀ (s : Shared) (H : Hp) (C : Addr) (cl : List (Str × Addr)) (fp : List Addr) (eb : Ent), (∀ i ∈ own.map (·.2), eb.P i = none) → DGw (X.blk s H scope (compEnvC scope cl C X.env) fp) ⟨eb, noX⟩ tg ss g)
    (ht : ∀ (s : Shared) (H : Hp) (C : Addr) (cl : List (Str × Addr)) (fp : List Addr) (eb : Ent), (∀ i ∈ own.map (·.2), eb.P i = none) → DTs (X.blk s H scope (compEnvC scope cl C X.env) fp) ⟨eb, noX⟩ ifs dt)
    (he : ∀ (s : Shared) (H : Hp) (C : Addr) (cl : List (Str × Addr)) (fp : List Addr) (eb : Ent), (∀ i ∈ own.map (·.2), eb.P i = none) → DE (X.blk s H scope (compEnvC scope cl C X.env) fp) ⟨eb, noX⟩ elt de)
    (hs : ∀ x, foldedSetIterable iter X.env x = pure x := by intro _; rfl) (hy : X.N[i]? = some y := by rfl) (hyl : X.env.scope.names.lookup y = some .local := by rfl) (hsw : swapsWith (.ListComp elt [⟨tg, iter, ifs, 0⟩] scope pos) (some (.Name y py)) spos.line X.env = pure true := by rfl) :
    DS X j (.Assign [.Name y py] (.ListComp elt [⟨tg, iter, ifs, 0⟩] scope pos) spos) (asgD i (lcD di g dt de (own.map (·.2)))) :=
  PS.mono (ps_setLc (g := lcG (mo X) (own.map (·.2)) ss g) (tt := lcT (mo X) (own.map (·.2)) dt) (te := lcE (mo X) (own.map (·.2)) de) hc hN hy hyl hsw hi ok
    (fun s H C cl fp => ⟨fun pins s' σ H' v u Q I r ⟨eb, h1, h2⟩ => (hg s H C cl fp eb h1).run pins s' σ H' v u Q I r h2⟩)
    (fun s H C cl fp => ⟨fun pins s' σ H' Q I ⟨eb, h1, h2⟩ => (ht s H C cl fp eb h1).run pins s' σ H' Q I h2⟩)
    (fun s H C cl fp => ⟨fun pins s' σ H' Q I ⟨eb, h1, h2⟩ => (he s H C cl fp eb h1).run pins s' σ H' Q I h2⟩) hs) fun Dn σ H ⟨W, F, env, rel, q⟩ => lc_red hp hss ⟨W, F, env, rel, by
    unfold asgD at q
    cases o : lcD di g dt de (own.map (·.2)) env with
    | ok d env1 =>
      rw [o] at q
      exact fun W' F' H' v r x p => q _ F' H' _ (r.setO p hpi) x
    | ex c fs env1 =>
      rw [o] at q
      exact fun W' F' H' cls dd r x y => q W' F' H' σ cls dd r x y
    | bad =>
      rw [o] at q
      exact q⟩
/-- .. what is made is frozen -/
theorem s_setLcF (i : Nat) {y : Str} {py spos : Pos} (hc : X.calm = true) (hN : X.N.Nodup) (hpi : j.e.P i = none) (hp : ∀ i ∈ own.map (·.2), j.e.P i = none) (hss : ∀ i ∈ ss, i ∈ own.map (·.2)) (hi : DI X j tg iter di) (ok : BlkOk X.N X.env.scope scope own)
    (hg : ∀ (s : Shared) (H : Hp) (C : Addr) (cl : List (Str × Addr)) (fp : List Addr) (eb : Ent), (∀ i ∈ own.map (·.2), eb.P i = none) → DGw (X.blk s H scope (compEnvC scope cl C X.env) fp) ⟨eb, noX⟩ tg ss g)
    (ht : ∀ (s : Shared) (H : Hp) (C : Addr) (cl : List (Str × Addr)) (fp : List Addr) (eb : Ent), (∀ i ∈ own.map (·.2), eb.P i = none) → DTs (X.blk s H scope (compEnvC scope cl C X.env) fp) ⟨eb, noX⟩ ifs dt)
    (he : ∀ (s : Shared) (H : Hp) (C : Addr) (cl : List (Str × Addr)) (fp : List Addr) (eb : Ent), (∀ i ∈ own.map (·.2), eb.P i = none) → DE (X.blk s H scope (compEnvC scope cl C X.env) fp) ⟨eb, noX⟩ elt de)
    (hs : ∀ x, foldedSetIterable iter X.env x = pure x := by intro _; rfl) (hy : X.N[i]? = some y := by rfl) (hyl : X.env.scope.names.lookup y = some .local := by rfl) (hsw : swapsWith (.ListComp elt [⟨tg, iter, ifs, 0⟩] scope pos) (some (.Name y py)) spos.line X.env = pure true := by rfl) :
    DS X j (.Assign [.Name y py] (.ListComp elt [⟨tg, iter, ifs, 0⟩] scope pos) spos) (asgD i (frzD (lcD di g dt de (own.map (·.2))))) :=
  PS.mono (ps_setLc (g := lcG (mo X) (own.map (·.2)) ss g) (tt := lcT (mo X) (own.map (·.2)) dt) (te := lcE (mo X) (own.map (·.2)) de) hc hN hy hyl hsw hi ok
    (fun s H C cl fp => ⟨fun pins s' σ H' v u Q I r ⟨eb, h1, h2⟩ => (hg s H C cl fp eb h1).run pins s' σ H' v u Q I r h2⟩)
    (fun s H C cl fp => ⟨fun pins s' σ H' Q I ⟨eb, h1, h2⟩ => (ht s H C cl fp eb h1).run pins s' σ H' Q I h2⟩)
    (fun s H C cl fp => ⟨fun pins s' σ H' Q I ⟨eb, h1, h2⟩ => (he s H C cl fp eb h1).run pins s' σ H' Q I h2⟩) hs) fun Dn σ H ⟨W, F, env, rel, q⟩ => lc_red hp hss ⟨W, F, env, rel, by
    unfold asgD frzD at q
    cases o : lcD di g dt de (own.map (·.2)) env with
    | ok d env1 =>
      rw [o] at q
      exact fun W' F' H' v r x p => q _ _ H' _ ((r.freeze0).set (Ow.froze r.toRelB p) hpi) (x.trans (frzF_ex r.toRelB 0))
    | ex c fs env1 =>
      rw [o] at q
      exact fun W' F' H' cls dd r x y => q W' F' H' σ cls dd r x y
    | bad =>
      rw [o] at q
      exact q⟩
end
end DL
namespace DL
open PySem PySem.Spec PyProof.Rows L2
/-! ## raise -/
/-- an exception class without fields -/
structure XK0 (M : Mo) (c : Str) (C : Addr) : Prop where
  g : M.mg c = some (.ref C)
  ex : PySem.W.excIn M.K C He.veBase "ValueError.__new__" = true
  kp : PySem.W.keepIn M.K (.ref C) = true
  sb : PySem.W.subIn M.K (.ref C) (.type "BaseException") = some true
  ty : PySem.W.typeIn M.K (.ref C) = some (.type "type")
/-- one with fields: its __init__ stands at fI -/
structure XKf (M : Mo) (c : Str) (C fI : Addr) : Prop where
  g : M.mg c = some (.ref C)
  ox : OexC M.K C
  ini : PySem.W.findIn M.K (.ref C) "__init__" = some (some (.ref fI))
  tyi : PySem.W.typeIn M.K (.ref fI) = some (.type "function")
  no : ∀ f ∈ eflds c, PySem.W.findIn M.K (.ref C) f = some none
def raiseD (c : Str) (da : List D → R (List D)) : List D → O := fun env => bindS (da env) fun fs env1 => .ex c fs env1
section
variable {X : Cx} {j : J}
theorem pmk_own0 {C : Addr} {x : Str} {p pos : Pos} (T : XK0 (mo X) x C) (hg : Gl X x) (hdb : (x == ("__debug__" : Str)) = false := by decide) :
    PMk X (.Call (.Name x p) [] [] pos) (fun σ H Q => Q (.ref C) none H) := by
  intro pins s σ H Q I h
  refine wpAny_Call_Name_kw (ld_glob I hg T.g ?_ hdb)
  refine PySem.W.callWith_K0 I.kIn T.kp ?_
  show wpAny _ _ (call (.ref C) []) _ _ _
  obtain ⟨bm, N, nm, qn, bs, hdct, sn, sub, ab, col, dd, k0, k1, k2, k3, k5, mN, hC, hN, hni, Tl⟩ := exc_obj I.kIn T.ex
  refine wpAny_call_exc_subT PySem.F.excBase_ValueError Tl hC hN hni (fun h' e hm => ?_) (by show 0 ≤ sizeLine; exact Nat.zero_le _)
  exact mk_of I hm (raises_own T.sb T.ty) h (I.hok.gone hm.new)
theorem s_raise0 {x : Str} {C : Addr} {p pos pos' : Pos} (hc : X.calm = true) (tk : Takes X j.wx) (T : XK0 (mo X) x C) (hf : eflds x = [] := by rfl) (hg : Gl X x := by rfl) (hdb : (x == ("__debug__" : Str)) = false := by decide) :
    DS X j (.Raise (some (.Call (.Name x p) [] [] pos)) none pos') (raiseD x nilD) :=
  PS.mono (ps_raise hc tk (pmk_own0 T hg hdb)) fun Dn σ H ⟨W, F, env, rel, q⟩ => q W F H σ (.ref C) none rel (Ex.refl F) ⟨C, rfl, T.g, .inl ⟨rfl, hf, rfl⟩⟩
/-- self.f1 = a1; self.f2 = a2 .. of a new exception -/
def putX (C a : Addr) (fs : List (Str × V)) (H : Hp) (Q : Hp → Prop) : Prop := ∀ d, H d = none → d ≠ a → Q (upd (upd H d (exd d fs)) a (exo a C (some d)))
def spX (K : PySem.W.Frag) (C : Addr) (fl : List Str) : Sp := fun vs H Q E => ∃ a ws, vs = .ref a :: ws ∧ ws.length = fl.length ∧ OexC K C ∧ (∀ f ∈ fl, PySem.W.findIn K (.ref C) f = some none) ∧ H a = some (exo a C none) ∧ putX C a (fl.zip ws).reverse H (Q .non)
section
variable {P : Program} {w : World} {K : PySem.W.Frag} {mg : Str → Option Value} {base : Heap}
/-- __init__ with one field -/
theorem initX1 {qual f x : Str} {st : Stmt} {fI C : Addr} {fd : FuncData} {p1 p2 p3 p4 : Pos} (F : Fun K "__init__" qual st fI fd) (S : FnScope ["self", x] ["self", x] (defScope st))
    (hb : defBody st = [.Assign [.Attribute (.Name "self" p1) f p2] (.Name x p3) p4]) (h1 : Vis (defScope st) "self") (h2 : Vis (defScope st) x) (hx : (x == ("__debug__" : Str)) = false) (hx2 : (x == ("__classdict__" : Str)) = false) :
    FnOk P w K mg base CX0 1 fI fd ["self", x] (spX K C [f]) := by
  refine F.ok S (fun vs H Q E h => ?_) (fun cdv A outer s H vs Q E hr h => ?_)
  · obtain ⟨a, ws, rfl, hl, _⟩ := h
    simpa using hl
  · obtain ⟨a, ws, rfl, hl, T, no, ha, q⟩ := h
    obtain ⟨v, rfl⟩ : ∃ v, ws = [v] := by
      match ws, hl with
      | [v], _ => exact ⟨v, rfl⟩
    refine ⟨_, by rw [hb]; exact pss_one (ps_ost (pe_var (i := 0) rfl h1) (pe_var (i := 1) rfl h2 hx hx2)), ?_⟩
    refine ⟨v, rfl, .ref a, rfl, a, C, rfl, T, no f List.mem_cons_self, .inl ⟨ha, fun d nd hd => ?_⟩⟩
    exact q d nd hd
/-- .. with two -/
theorem initX2 {qual f g x y : Str} {st : Stmt} {fI C : Addr} {fd : FuncData} {p1 p2 p3 p4 q1 q2 q3 q4 : Pos} (F : Fun K "__init__" qual st fI fd) (S : FnScope ["self", x, y] ["self", x, y] (defScope st))
    (hb : defBody st = [.Assign [.Attribute (.Name "self" p1) f p2] (.Name x p3) p4, .Assign [.Attribute (.Name "self" q1) g q2] (.Name y q3) q4]) (h1 : Vis (defScope st) "self") (h2 : Vis (defScope st) x) (h3 : Vis (defScope st) y)
    (hx : (x == ("__debug__" : Str)) = false) (hx2 : (x == ("__classdict__" : Str)) = false) (hy : (y == ("__debug__" : Str)) = false) (hy2 : (y == ("__classdict__" : Str)) = false) :
    FnOk P w K mg base CX0 1 fI fd ["self", x, y] (spX K C [f, g]) := by
  refine F.ok S (fun vs H Q E h => ?_) (fun cdv A outer s H vs Q E hr h => ?_)
  · obtain ⟨a, ws, rfl, hl, _⟩ := h
    simpa using hl
  · obtain ⟨a, ws, rfl, hl, T, no, ha, q⟩ := h
    obtain ⟨v, w', rfl⟩ : ∃ v w', ws = [v, w'] := by
      match ws, hl with
      | [v, w'], _ => exact ⟨v, w', rfl⟩
    refine ⟨_, by rw [hb]; exact pss_cons (ps_ost (pe_var (i := 0) rfl h1) (pe_var (i := 1) rfl h2 hx hx2)) (pss_one (ps_ost (pe_var (i := 0) rfl h1) (pe_var (i := 2) rfl h3 hy hy2))), ?_⟩
    refine ⟨v, rfl, .ref a, rfl, a, C, rfl, T, no f List.mem_cons_self, .inl ⟨ha, fun d nd hd => ?_⟩⟩
    refine ⟨w', rfl, .ref a, rfl, a, C, rfl, T, no g (List.mem_cons_of_mem _ List.mem_cons_self), .inr ⟨d, [(f, v)], upd_same, ?_, by show 1 ≤ 900; decide, ?_⟩⟩
    · rw [upd_ne hd, upd_same]
    · have e : upd (upd (upd H d (exd d [(f, v)])) a (exo a C (some d))) d (exd d ((g, w') :: [(f, v)])) = upd (upd H d (exd d [(g, w'), (f, v)])) a (exo a C (some d)) := by
        funext b
        unfold upd
        by_cases hb : b = d
        · subst hb
          rw [if_pos rfl, if_neg hd, if_pos rfl]
        · rw [if_neg hb, if_neg hb]
          by_cases hba : b = a
          · rw [if_pos hba, if_pos hba]
          · rw [if_neg hba, if_neg hba, if_neg hb]
      rw [e]
      exact q d nd hd
end
theorem s_raise {x : Str} {C fI : Addr} {p pos pos' : Pos} {e : Expr} {es : List Expr} {fd : FuncData} {ps : List Str} {dl : List D → R (List D)} (hc : X.calm = true) (tk : Takes X j.wx) (T : XKf (mo X) x C fI) (F1 : FnOk X.prog X.w X.K X.mg X.base CX0 1 fI fd ps (spX X.K C (eflds x)))
    (hr : Room 2 X.A) (hb : Binds X.K fd ps []) (ha : DL X j (e :: es) dl) (hlen : ∀ env fs env1, dl env = .ok fs env1 → fs.length = (eflds x).length) (hg : Gl X x := by rfl) (hdb : (x == ("__debug__" : Str)) = false := by decide)
    (he : starEach (e :: es) X.env = (false, eval e X.env) :: starEach es X.env := by rfl) (hpl : (backTo pos (starEach es X.env)).any (·.1) = false := by rfl) (hsm : (eflds x).length ≤ 1000 := by decide) (hne : eflds x ≠ [] := by decide) :
    DS X j (.Raise (some (.Call (.Name x p) (e :: es) [] pos)) none pos') (raiseD x dl) :=
  PS.mono (ps_raise hc tk (pmk_oex T.ox T.ini T.tyi F1 hr hb .nil pass0 hg T.g ha hdb he hpl)) fun Dn σ H ⟨W, F, env, rel, q⟩ => ⟨W, F, env, rel, AtS.bind q fun fs env1 W1 F1 H1 vs o r1 x1 p1 q1 => by
    have hl := hlen _ _ _ o
    have hv : vs.length = (eflds x).length := by rw [← p1.length]; exact hl
    refine ⟨by rw [hv]; exact hsm, fun a na => ?_⟩
    refine ⟨a, vs, by rw [List.append_nil], hv, T.ox, T.no, upd_same, fun d nd hd => ?_⟩
    have nd1 : H1 d = none := by
      rw [upd_ne hd] at nd
      exact nd
    refine ⟨rfl, d, ((eflds x).zip vs).reverse, upd_same, ?_, nd1, ?_⟩
    · rw [upd_ne hd, upd_same]
    · have eH : upd (del (upd (upd (upd H1 a (exo a C none)) d (exd d ((eflds x).zip vs).reverse)) a (exo a C (some d))) a) d (.xd ((eflds x).zip vs).reverse) = upd H1 d (.xd ((eflds x).zip vs).reverse) := by
        funext b
        by_cases hb : b = d
        · subst hb
          rw [upd_same, upd_same]
        · rw [upd_ne hb, upd_ne hb]
          by_cases hba : b = a
          · subst hba
            rw [del_same]
            exact na.symm
          · rw [del_ne hba, upd_ne hba, upd_ne hb, upd_ne hba]
      rw [eH]
      have g := Grow.one (o := .xd ((eflds x).zip vs).reverse) r1.exF nd1
      refine q1 W1 _ _ σ (.ref C) (some d) (r1.grow g) g.exF ⟨C, rfl, T.g, .inr ⟨d, _, hne, rfl, upd_same, ?_, ?_⟩⟩
      · rw [List.map_reverse, List.map_fst_zip (by omega)]
      · rw [List.map_reverse, List.map_snd_zip (by omega)]
        have rv : ∀ {l : List D} {xs : List V}, RpL (mo X) F1 l xs → RpL (mo X) (upd F1 d (.xd ((eflds x).zip vs).reverse)) l.reverse xs.reverse := by
          intro l
          induction l with
          | nil => intro xs h; cases h; exact .nil
          | cons z l ih => intro xs h; cases h with
            | cons h1 h2 =>
              rw [List.reverse_cons, List.reverse_cons]
              exact (ih h2).append (.cons (h1.mono g.exF) .nil)
        exact rv p1⟩
end
/-! ## try: .. except C as e: .. / except C: .. -/
/-- nothing is raised in a suite -/
def noEx (o : O) : O := match o with
  | .ex _ _ _ => .bad
  | r => r
/-- which classes the clause takes: of those that matter -/
def tryD (mt : Str → Option Bool) (as : List Nat) (db : List D → O) (ds : Str → List D → List D → O) : List D → O := fun env => match db env with
  | .ex c fs env1 => match mt c with
    | some true => if as.all (fun i => !ownd (env1.getD i .unb)) = true then noEx (ds c fs env1) else .bad
    | some false => .ex c fs env1
    | none => .bad
  | r => r
/-- the name of the clause goes -/
def goneD (i : Nat) (da : List D → O) : List D → O := fun env => match da (env.set i .unb) with
  | .nx env1 => .nx (env1.set i .unb)
  | .bk env1 => .bk (env1.set i .unb)
  | .ct env1 => .ct (env1.set i .unb)
  | r => r
/-- the entry of a suite: what is pinned -/
def suiteP (as : List Nat) (P : Nat → Option V) (env : List D) (σ : L2.St) : Nat → Option V := fun i => if i ∈ as then none else match P i with
  | some v => some v
  | none => if isOwn (env.getD i .unb) = true then match σ[i]? with
    | some o => o
    | none => none
  else none
section
variable {X : Cx} {j : J}
theorem takes_noX : Takes X noX := fun u s' x => by
  obtain ⟨_, _, _, _, _, _, _, _, _, _, _, _, _, _, _, _, z⟩ := x
  exact z.elim
/-- except C: -/
theorem s_try_only {x : Str} {c : Value} {body suite : List Stmt} {b0 : Stmt} {np pos pos' : Pos} {mt : Str → Option Bool} {as : List Nat} {db : List D → O} {ds : Str → List D → List D → O} (hs : X.stack = X.env :: X.outer) (hf : X.env.frame = some X.env.locals) (hc : Names X x c)
    (tk : Takes X j.wx) (hpin : ∀ i ∈ as, j.e.P i = none) (hm : ∀ cn C b, X.mg cn = some (.ref C) → mt cn = some b → PySem.W.exmOne X.K (.ref C) c = some b)
    (hb : ∀ (W : WX) (pn : List (Addr × Obj)) (xe : Value → Shared → Prop), Takes (X.tr pn xe) W → PassesOwn (model X.prog X.w) X.A X.env xe → DSs (X.tr pn xe) ⟨j.e, W⟩ body db)
    (hsu : ∀ (a : Addr) (oe : Obj) (cls : Value) (d : Option Addr) (pn : List (Addr × Obj)) (es : Ent) (cn : Str) (fs : List D), Zc cls d oe → (∃ vs, oe.data = .fields vs) → (∀ i ∈ as, es.P i = none) → mt cn = some true → XR (mo X) es.F0 cn fs cls d →
      DSs (X.suite a ((a, oe) :: pn)) ⟨es, noX⟩ (b0 :: suite) (ds cn fs)) :
    DS X j (.Try body [.ExceptHandler (some (.Name x np)) none (b0 :: suite) pos'] [] [] pos) (tryD mt as db ds) := by
  refine PS.mono (ps_try_only (tb := fun W => tS (mo X) ⟨j.e, W⟩ db) (ts := fun a cls d Dn σ H => ∃ (es : Ent) (cn : Str) (fs : List D), (∀ i ∈ as, es.P i = none) ∧ mt cn = some true ∧ XR (mo X) es.F0 cn fs cls d ∧ tS (mo X) ⟨es, noX⟩ (ds cn fs) Dn σ H) hs hf hc tk hb
    (fun a oe cls d pn hz hf => ⟨fun pins s σ H Dn I ⟨es, cn, fs, h1, h2, h3, h4⟩ => (hsu a oe cls d pn es cn fs hz hf h1 h2 h3).run pins s σ H Dn I h4⟩)) fun Dn σ H ⟨W, F, env, rel, q⟩ => ⟨W, F, env, rel, ?_⟩
  have q : AtS (mo X) j F (tryD mt as db ds env) Dn := q
  unfold tryD at q
  cases o : db env with
  | nx e1 => rw [o] at q; exact q
  | rt d e1 => rw [o] at q; exact q
  | bk e1 => rw [o] at q; exact q
  | ct e1 => rw [o] at q; exact q
  | bad => rw [o] at q; exact q
  | ex cn fs env1 =>
    rw [o] at q
    intro W' F' H' σ' cls dd r xF xr
    obtain ⟨C, rfl, hC, hx⟩ := id xr
    simp only at q
    cases om : mt cn with
    | none => rw [om] at q; exact q.elim
    | some b =>
      rw [om] at q
      refine ⟨b, hm cn C b hC om, fun hb1 a na => ?_, fun hb1 => ?_⟩
      · subst hb1
        simp only at q
        by_cases ha : as.all (fun i => !ownd (env1.getD i .unb)) = true
        · rw [if_pos ha] at q
          have pb1 : ∀ i v, suiteP as j.e.P env1 σ' i = some v → σ'[i]? = some (some v) := fun i v h => by
            unfold suiteP at h
            by_cases hi : i ∈ as
            · rw [if_pos hi] at h
              cases h
            · rw [if_neg hi] at h
              cases z : j.e.P i with
              | some v' =>
                rw [z] at h
                cases h
                exact r.pin i v z
              | none =>
                rw [z] at h
                simp only at h
                split at h
                · cases y : σ'[i]? with
                  | none => rw [y] at h; cases h
                  | some o => rw [y] at h; exact congrArg some h
                · cases h
          have rB := r.inB (pb := suiteP as j.e.P env1 σ') pb1 fun i d h1 h2 h3 z => by
            have hd : env1.getD i .unb = d := by rw [List.getD_eq_getElem?_getD, h1]; rfl
            have hna : i ∉ as := fun hi => by
              have := List.all_eq_true.mp ha i hi
              rw [hd] at this
              cases d with
              | ml l => exact absurd this (by unfold ownd; simp)
              | mi c l => exact absurd this (by unfold ownd; simp)
              | md c l => exact absurd this (by unfold ownd; simp)
              | unb => exact h3 rfl
              | _ => exact absurd h2 (by unfold isOwn; simp)
            obtain ⟨v, h4, _⟩ := r.slot i d h1 h3
            unfold suiteP at z
            rw [if_neg hna] at z
            cases y : j.e.P i with
            | some v' => rw [y] at z; cases z
            | none =>
              rw [y, hd] at z
              simp only at z
              rw [if_pos h2, h4] at z
              cases z
          refine ⟨_, cn, fs, fun i hi => if_pos hi, om, xr, _, F', env1, rB, ?_⟩
          have back : ∀ {W2 F2 H2 env2 σ2}, Rel (mo X) ⟨H', F', blkW (suiteP as j.e.P env1 σ') W', suiteP as j.e.P env1 σ'⟩ W2 F2 H2 env2 σ2 → Rel (mo X) j.e W2 F2 H2 env2 σ2 := fun r2 => Rel.outB r.toRelB r2 fun i v h => by
            unfold suiteP
            rw [if_neg (fun hi => by rw [hpin i hi] at h; cases h), h]
          cases os : ds cn fs env1 with
          | nx e2 => rw [os] at q; exact fun W2 F2 H2 σ2 r2 x2 => q W2 F2 H2 σ2 (back r2) (xF.trans x2)
          | rt d e2 => rw [os] at q; exact fun W2 F2 H2 σ2 v r2 p2 => q W2 F2 H2 σ2 v (back r2) p2
          | bk e2 => rw [os] at q; exact fun W2 F2 H2 σ2 r2 x2 => q W2 F2 H2 σ2 (back r2) (xF.trans x2)
          | ct e2 => rw [os] at q; exact fun W2 F2 H2 σ2 r2 x2 => q W2 F2 H2 σ2 (back r2) (xF.trans x2)
          | ex c2 f2 e2 => rw [os] at q; exact q.elim
          | bad => rw [os] at q; exact q
        · rw [if_neg ha] at q
          exact q.elim
      · subst hb1
        exact q W' F' H' σ' (.ref C) dd r xF xr
end
end DL
namespace DL
open PySem PySem.Spec PyProof.Rows L2
/-! ## isinstance, a built-in type -/
def tyD : D → Option String
  | .non => some "NoneType"
  | .bl _ => some "bool"
  | .int _ => some "int"
  | .str _ => some "str"
  | .tup _ => some "tuple"
  | .lst _ => some "list"
  | _ => none
def isB (t T : String) : Bool := decide (t = T) || (decide (t = "bool") && decide (T = "int"))
def isiD (T : String) (d : D) : Option D := (tyD d).map fun t => .bl (isB t T)
def tyNames : List String := ["NoneType", "bool", "int", "str", "tuple", "list"]
theorem kit_tuple : ∀ t ∈ tyNames, kitB t "tuple" = some (isB t "tuple") := by decide +kernel
theorem kit_list : ∀ t ∈ tyNames, kitB t "list" = some (isB t "list") := by decide +kernel
theorem kit_int : ∀ t ∈ tyNames, kitB t "int" = some (isB t "int") := by decide +kernel
theorem kit_bool : ∀ t ∈ tyNames, kitB t "bool" = some (isB t "bool") := by decide +kernel
theorem kit_str : ∀ t ∈ tyNames, kitB t "str" = some (isB t "str") := by decide +kernel
theorem Rp.ty {M : Mo} {F H : Hp} {d : D} {v : V} (x : Ex F H) (h : Rp M F d v) {t : String} (e : tyD d = some t) : TyX M.K H v (.type t) ∧ t ∈ tyNames := by
  cases h with
  | non => cases e; exact ⟨.base .non, by decide⟩
  | bl b => cases e; exact ⟨.base (.bl b), by decide⟩
  | int i => cases e; exact ⟨.base (.int i), by decide⟩
  | str s => cases e; exact ⟨.base (.str s), by decide⟩
  | tup h q =>
    cases e
    refine ⟨?_, by decide⟩
    rcases h with (h | ⟨o, h⟩) | h
    · exact .base (.tup (x _ _ h))
    · exact .fTuple (x _ _ h)
    · obtain ⟨_, _, _, h2, h1, _⟩ := h
      exact .kTuple h2 h1
  | lst h q =>
    cases e
    refine ⟨?_, by decide⟩
    rcases h with (h | ⟨o, h⟩) | h
    · exact .base (.lst (x _ _ h))
    · exact .base (.frz (x _ _ h))
    · obtain ⟨_, _, _, h2, h1, _⟩ := h
      exact .kList h2 h1
  | ins _ _ _ _ => cases e
  | dic _ _ _ => cases e
section
variable {X : Cx} {j : J} {a b c e : Expr} {es : List Expr} {pos p q : Pos} {da db : List D → R D}
theorem e_isT {T : String} {x : Str} (hT : ∀ t ∈ tyNames, kitB t T = some (isB t T)) (hg : Gl X "isinstance") (hm : X.mg "isinstance" = none) (hg2 : Gl X x) (hm2 : X.mg x = none) (hv : bootBuiltins x = some (.type T)) (ha : DE X j a da)
    (hn2 : x ≠ "__name__" := by decide) (hd2 : (x == ("__debug__" : Str)) = false := by decide) (he : starEach [a, .Name x q] X.env = (false, eval a X.env) :: starEach [.Name x q] X.env := by rfl) (hpl : (backTo pos (starEach [.Name x q] X.env)).any (·.1) = false := by rfl) :
    DE X j (.Call (.Name "isinstance" p) [a, .Name x q] [] pos) (unD (isiD T) da) :=
  PE.mono (pe_callB (call_isi (X := X)) hg hm (by rfl) (pa_cons ha (pa_cons (pe_bltn (v := .ty T) hg2 hm2 hv rfl hn2 hd2) pa_nil) he) (by decide) (by decide) he hpl) fun σ H Q ⟨W, F, env, rel, q⟩ => ⟨W, F, env, rel, At.bind q fun d env1 W1 F1 H1 v _ r1 x1 p1 q1 => by
    unfold isiD at q1
    cases o : tyD d with
    | none => rw [o] at q1; exact q1.elim
    | some t =>
      rw [o] at q1
      obtain ⟨h1, h2⟩ := p1.ty r1.exF o
      exact ⟨v, .ty T, .type t, .type T, isB t T, rfl, .ty T, h1, kit_ty (hT t h2), q1 W1 F1 H1 _ r1 (Ex.refl F1) (.bl _)⟩⟩
/-! ## calls by keywords -/
/-- the arguments, as they are written: those by place, then those by name -/
theorem k_nil : PK X [] (fun σ H Q => tR (mo X) j.e j.wx (RaL (mo X) σ) nilA σ H Q) := ⟨fun ps pins s σ H Q I ⟨W, F, env, rel, q⟩ => pk_nil.run ps pins s σ H Q I (q W F H [] rel (Ex.refl F) rfl)⟩
theorem k_cons {kws : List Keyword} {nm : Option Str} {kp : Pos} {dr : List D → R (List Ar)} (ha : DE X j a da) (hr : PK X kws (fun σ H Q => tR (mo X) j.e j.wx (RaL (mo X) σ) dr σ H Q)) : PK X (⟨nm, a, kp⟩ :: kws) (fun σ H Q => tR (mo X) j.e j.wx (RaL (mo X) σ) (consA da dr) σ H Q) :=
  ⟨fun ps pins s σ H Q I ⟨W, F, env, rel, q⟩ => (pk_cons ha hr).run ps pins s σ H Q I ⟨W, F, env, rel, At.bind q fun d env1 W1 F1 H1 v _ r1 x1 p1 q1 => ⟨W1, F1, env1, r1, At.bind q1 fun d2 env2 W2 F2 H2 v2 _ r2 x2 p2 q2 =>
    q2 W2 F2 H2 (v :: v2) r2 (Ex.refl F2) ⟨v, v2, rfl, p1.mono x2, p2⟩⟩⟩⟩
/-- put in the parameters' order -/
def ordA {α : Type} (g : List Nat) (as : List α) : List α := g.filterMap fun i => as[i]?
structure KP (K : PySem.W.Frag) (fd : FuncData) (ps ks : List Str) (n : Nat) (g : List Nat) : Prop where
  to : ∀ (s : Shared) (us ws : List Value), K.In s.heap → us.length = n → ws.length = ks.length → BindsTo s fd ⟨us, ks.zip ws⟩ (ps.zip (ordA g (us ++ ws)))
def permA (g : List Nat) (n m : Nat) (da dk : List D → R (List Ar)) : List D → R (List Ar) := fun env => bindR (da env) fun as env1 => bindR (dk env1) fun ks env2 => if as.length = n ∧ ks.length = m then .ok (ordA g (as ++ ks)) env2 else .bad
theorem RaL.append {M : Mo} {σ : L2.St} {F : Hp} : ∀ {as bs : List Ar} {vs ws : List V}, RaL M σ F as vs → RaL M σ F bs ws → RaL M σ F (as ++ bs) (vs ++ ws)
  | [], _, _, _, h, k => by
    cases (show _ = _ from h)
    exact k
  | .v d :: as, _, _, _, ⟨v, r, e, p, q⟩, k => by
    subst e
    exact ⟨v, _, rfl, p, RaL.append q k⟩
  | .io i :: as, _, _, _, ⟨v, r, e, p, q⟩, k => by
    subst e
    exact ⟨v, _, rfl, p, RaL.append q k⟩
theorem RaL.get {M : Mo} {σ : L2.St} {F : Hp} : ∀ {as : List Ar} {vs : List V} (i : Nat), RaL M σ F as vs → (as[i]? = none ∧ vs[i]? = none) ∨ ∃ x v, as[i]? = some x ∧ vs[i]? = some v ∧ RaL M σ F [x] [v]
  | [], vs, i, h => by
    cases (show vs = [] from h)
    exact .inl ⟨by simp, by simp⟩
  | .v d :: as, vs, i, ⟨v, r, e, p, q⟩ => by
    subst e
    cases i with
    | zero => exact .inr ⟨_, _, rfl, rfl, v, [], rfl, p, rfl⟩
    | succ i => simpa using RaL.get i q
  | .io k :: as, vs, i, ⟨v, r, e, p, q⟩ => by
    subst e
    cases i with
    | zero => exact .inr ⟨_, _, rfl, rfl, v, [], rfl, p, rfl⟩
    | succ i => simpa using RaL.get i q
theorem RaL.ord {M : Mo} {σ : L2.St} {F : Hp} {as : List Ar} {vs : List V} (h : RaL M σ F as vs) : ∀ g : List Nat, RaL M σ F (ordA g as) (ordA g vs)
  | [] => rfl
  | i :: g => by
    have r := RaL.ord h g
    rcases h.get i with ⟨h1, h2⟩ | ⟨x, v, h1, h2, h3⟩
    · unfold ordA at r ⊢
      rw [List.filterMap_cons_none h1, List.filterMap_cons_none h2]
      exact r
    · unfold ordA at r ⊢
      rw [List.filterMap_cons_some h1, List.filterMap_cons_some h2]
      exact RaL.append (as := [x]) (vs := [v]) h3 r
theorem Vals.get {vs : List V} {us : List Value} (h : Vals vs us) (i : Nat) : (vs[i]? = none ∧ us[i]? = none) ∨ ∃ v u, vs[i]? = some v ∧ us[i]? = some u ∧ RelV v u := by
  induction h generalizing i with
  | nil => exact .inl ⟨by simp, by simp⟩
  | cons r t ih =>
    cases i with
    | zero => exact .inr ⟨_, _, rfl, rfl, r⟩
    | succ i => simpa using ih i
theorem vals_ord {vs : List V} {us : List Value} (h : Vals vs us) : ∀ g : List Nat, Vals (ordA g vs) (ordA g us)
  | [] => .nil
  | i :: g => by
    have r := vals_ord h g
    unfold ordA at r ⊢
    rcases Vals.get h i with ⟨h1, h2⟩ | ⟨v, u, h1, h2, h3⟩
    · rw [List.filterMap_cons_none h1, List.filterMap_cons_none h2]
      exact r
    · rw [List.filterMap_cons_some h1, List.filterMap_cons_some h2]
      exact .cons h3 r
theorem KP.kbn {K : PySem.W.Frag} {fd : FuncData} {ps ks : List Str} {n : Nat} {g : List Nat} (h : KP K fd ps ks n g) : KBn K fd ps n ks (fun us ws => ordA g (us ++ ws)) (fun vs zs => ordA g (vs ++ zs)) :=
  ⟨fun s us ws X l1 l2 => h.to s us ws X l1 l2, fun r1 r2 => vals_ord (r1.append r2) g⟩
variable {k n : Nat} {f : Addr} {fd : FuncData} {ps ks : List Str} {io g : List Nat} {den : List D → FR} {kws : List Keyword} {dA dK : List D → R (List Ar)}
section
variable {CX : CXT} {E : L2.St → XK} {sp : Sp} {gg : List Value → List Value → List Value} {gV : List V → List V → List V}
/-- the run of such a call: what is wished of exceptions hangs on the slots -/
theorem run_kw {pins : List (Addr × Obj)} {σ : L2.St} {H : Hp} {s : Shared} {Q : VK} {us ws : List Value} {vs zs : List V} (F : FnOk X.prog X.w X.K X.mg X.base CX k f fd ps sp) (hr : Room k X.A) (hb : KBn X.K fd ps n ks gg gV) (hx : PassesAt CX X σ (E σ))
    (I : Inv X pins σ H s) (r : Vals vs us) (rz : Vals zs ws) (l1 : vs.length = n) (l2 : zs.length = ks.length) (h : sp (gV vs zs) H Q (E σ)) : wpAny (model X.prog X.w) X.A (call (.ref f) us (ks.zip ws)) (EP X pins σ Q) X.xe s := by
  have b := hb.to s us ws I.kIn (by rw [← r.length]; exact l1) (by rw [← rz.length]; exact l2)
  have run := F.run X.A X.stack s H ⟨us, ks.zip ws⟩ (gg us ws) (gV vs zs) Q (E σ) hr I.env0 b (hb.rel r rz) h
  refine wpAny_call (codeAny_mono run fun z s1 hz => ?_)
  cases z with
  | error x => exact hx pins H s x s1 I hz
  | ok fl =>
    cases fl with
    | ret u => exact I.after hz
    | next => exact hz.elim
    | brk => exact hz.elim
    | cont => exact hz.elim
def tKw (n m : Nat) (sp : Sp) (gV : List V → List V → List V) (E : L2.St → XK) (t tk : TA) : TE := fun σ H Q => t σ H fun vs H1 => tk σ H1 fun zs H2 => vs.length = n ∧ zs.length = m ∧ sp (gV vs zs) H2 Q (E σ)
variable {x : Str} {t tk : TA}
theorem pe_kw (F : FnOk X.prog X.w X.K X.mg X.base CX k f fd ps sp) (hr : Room k X.A) (hg : Gl X x) (hm : X.mg x = some (.ref f)) (hk : PySem.W.keepIn X.K (.ref f) = true) (hb : KBn X.K fd ps n ks gg gV) (hx : ∀ σ, PassesAt CX X σ (E σ))
    (ha : PA X (e :: es) t) (hkw : PK X kws tk) (hall : (backToKw pos (keywordEach kws X.env)).all (·.1.isSome) = true) (hks : (backToKw pos (keywordEach kws X.env)).filterMap (·.1) = ks)
    (hdb : (x == ("__debug__" : Str)) = false) (he : starEach (e :: es) X.env = (false, eval e X.env) :: starEach es X.env)
    (hpl : ((backTo pos (starEach (e :: es) X.env)).any (·.1) || (backToKw pos (keywordEach kws X.env)).any (·.1.isNone)) = false) :
    PE X (.Call (.Name x p) (e :: es) kws pos) (tKw n ks.length sp gV E t tk) := ⟨fun pins s σ H Q I h => by
  refine wpAny_Call_Name_kw (ld_glob I hg hm (PySem.W.callWith_KW (h₀ := X.base) I.ok.mod.kin hk hall (thn (ha.run pos pins s σ H _ I h) fun us s1 ⟨vs, H1, I1, r, q⟩ => ?_) hpl he) hdb)
  exact thn (hkw.run pos pins s1 σ H1 _ I1 q) fun ws s2 ⟨zs, H2, I2, rz, l1, l2, q2⟩ => ⟨I2.kIn, by rw [hks]; exact run_kw F hr hb (hx σ) I2 r rz l1 l2 q2⟩⟩
theorem pe_kw0 (F : FnOk X.prog X.w X.K X.mg X.base CX k f fd ps sp) (hr : Room k X.A) (hg : Gl X x) (hm : X.mg x = some (.ref f)) (hk : PySem.W.keepIn X.K (.ref f) = true) (hb : KBn X.K fd ps 0 ks gg gV) (hx : ∀ σ, PassesAt CX X σ (E σ))
    (hkw : PK X kws tk) (hall : (backToKw pos (keywordEach kws X.env)).all (·.1.isSome) = true) (hks : (backToKw pos (keywordEach kws X.env)).filterMap (·.1) = ks)
    (hdb : (x == ("__debug__" : Str)) = false) (hpl : ((backTo pos (starEach [] X.env)).any (·.1) || (backToKw pos (keywordEach kws X.env)).any (·.1.isNone)) = false) :
    PE X (.Call (.Name x p) [] kws pos) (tKw 0 ks.length sp gV E tNil tk) := ⟨fun pins s σ H Q I h => by
  refine wpAny_Call_Name_kw (ld_glob I hg hm (PySem.W.callWith_KW0 I.ok.mod.kin hk hall ?_ hpl) hdb)
  exact thn (hkw.run pos pins s σ H _ I h) fun ws s2 ⟨zs, H2, I2, rz, l1, l2, q2⟩ => ⟨I2.kIn, by rw [hks]; exact run_kw F hr hb (hx σ) I2 .nil rz l1 l2 q2⟩⟩
end
theorem permA_at {σ : L2.St} {Q : VK} {H : Hp} {W : Own} {F : Hp} {env : List D} {N m : Nat} {G : List D → FR} (lo : OutLen io G) (tk : Takes X j.wx) (rel : Rel (mo X) j.e W F H env σ) (q : AtO (mo X) j F σ (callO N io G (permA g n m dA dK) env) Q) :
    tR (mo X) j.e j.wx (RaL (mo X) σ) dA σ H fun vs H1 => tR (mo X) j.e j.wx (RaL (mo X) σ) dK σ H1 fun zs H2 => vs.length = n ∧ zs.length = m ∧ spD (mo X) N io G (ordA g (vs ++ zs)) H2 Q (WE j.wx σ) := by
  refine ⟨W, F, env, rel, ?_⟩
  have e : callO N io G (permA g n m dA dK) env = bindR (dA env) fun as env1 => bindR (dK env1) fun ks env2 => if as.length = n ∧ ks.length = m then callO N io G (fun env => .ok (ordA g (as ++ ks)) env) env2 else .bad := by
    unfold callO permA
    cases dA env with
    | ok as env1 =>
      show bindR (bindR (dK env1) _) _ = bindR (dK env1) _
      cases dK env1 with
      | ok ks env2 =>
        show bindR (if _ then _ else _) _ = if _ then _ else _
        by_cases hc : as.length = n ∧ ks.length = m
        · rw [if_pos hc, if_pos hc]
        · rw [if_neg hc, if_neg hc]
          rfl
      | _ => rfl
    | _ => rfl
  rw [e] at q
  refine AtO.bind q fun as env1 W1 F1 H1 vs _ r1 x1 p1 q1 => ⟨W1, F1, env1, r1, AtO.bind q1 fun bs env2 W2 F2 H2 zs _ r2 x2 p2 q2 => ?_⟩
  by_cases hc : as.length = n ∧ bs.length = m
  · rw [if_pos hc] at q2
    exact ⟨by rw [← ral_len p1]; exact hc.1, by rw [← ral_len p2]; exact hc.2, call_at lo r2 ((RaL.append (p1.mono x2) p2).ord g) q2⟩
  · rw [if_neg hc] at q2
    exact q2.elim
theorem o_callK {x : Str} {N : Nat} {G : List D → FR} (F : FnOk X.prog X.w X.K X.mg X.base (L2.CX X.prog X.w) k f fd ps (spD (mo X) N io G)) (hr : Room k X.A) (hm : X.mg x = some (.ref f)) (hk : PySem.W.keepIn X.K (.ref f) = true) (hb : KP X.K fd ps ks n g) (tk : Takes X j.wx) (lo : OutLen io G)
    (ha : DAr X j (e :: es) dA) (hkw : PK X kws (fun σ H Q => tR (mo X) j.e j.wx (RaL (mo X) σ) dK σ H Q)) (hg : Gl X x := by rfl) (hall : (backToKw pos (keywordEach kws X.env)).all (·.1.isSome) = true := by rfl) (hks : (backToKw pos (keywordEach kws X.env)).filterMap (·.1) = ks := by rfl)
    (hdb : (x == ("__debug__" : Str)) = false := by decide) (he : starEach (e :: es) X.env = (false, eval e X.env) :: starEach es X.env := by rfl)
    (hpl : ((backTo pos (starEach (e :: es) X.env)).any (·.1) || (backToKw pos (keywordEach kws X.env)).any (·.1.isNone)) = false := by rfl) :
    DO X j (.Call (.Name x p) (e :: es) kws pos) (callO N io G (permA g n ks.length dA dK)) :=
  PE.mono (pe_kw F hr hg hm hk hb.kbn (fun σ => passAt tk σ) ha hkw hall hks hdb he hpl) fun σ H Q ⟨W, F', env, rel, q⟩ => permA_at lo tk rel q
theorem o_callK0 {x : Str} {N : Nat} {G : List D → FR} (F : FnOk X.prog X.w X.K X.mg X.base (L2.CX X.prog X.w) k f fd ps (spD (mo X) N io G)) (hr : Room k X.A) (hm : X.mg x = some (.ref f)) (hk : PySem.W.keepIn X.K (.ref f) = true) (hb : KP X.K fd ps ks 0 g) (tk : Takes X j.wx) (lo : OutLen io G)
    (hkw : PK X kws (fun σ H Q => tR (mo X) j.e j.wx (RaL (mo X) σ) dK σ H Q)) (hg : Gl X x := by rfl) (hall : (backToKw pos (keywordEach kws X.env)).all (·.1.isSome) = true := by rfl) (hks : (backToKw pos (keywordEach kws X.env)).filterMap (·.1) = ks := by rfl)
    (hdb : (x == ("__debug__" : Str)) = false := by decide)
    (hpl : ((backTo pos (starEach [] X.env)).any (·.1) || (backToKw pos (keywordEach kws X.env)).any (·.1.isNone)) = false := by rfl) :
    DO X j (.Call (.Name x p) [] kws pos) (callO N io G (permA g 0 ks.length nilA dK)) :=
  PE.mono (pe_kw0 F hr hg hm hk hb.kbn (fun σ => passAt tk σ) hkw hall hks hdb hpl) fun σ H Q ⟨W, F', env, rel, q⟩ => by
    obtain ⟨W1, F1, env1, r1, q1⟩ := permA_at lo tk rel q
    exact q1 W1 F1 H [] r1 (Ex.refl F1) rfl
end
end DL
namespace DL
open PySem PySem.Spec PyProof.Rows L2
/-! ## try: .. except C as e: .. -/
/-- slot i holds something of which nothing is told -/
theorem Rel.putX {M : Mo} {e : Ent} {W : Own} {F H : Hp} {env : List D} {σ : L2.St} {i : Nat} (r : Rel M e W F H env σ) (w : Option V) (hp : e.P i = none) : Rel M e W F H (env.set i .unb) (σ.set i w) where
  toRelB := r.toRelB
  len := by rw [List.length_set, List.length_set, r.len]
  slot := fun k d h1 h2 => by
    by_cases h : i = k
    · subst h
      rw [List.getElem?_set] at h1
      rw [if_pos rfl] at h1
      split at h1
      · exact absurd (Option.some.inj h1).symm h2
      · cases h1
    · rw [List.getElem?_set_ne h] at h1
      rw [List.getElem?_set_ne h]
      exact r.slot k d h1 h2
  pin := fun k v h => by
    rw [List.getElem?_set_ne (fun z => by rw [z, h] at hp; cases hp)]
    exact r.pin k v h
def goneO (i : Nat) : O → O
  | .nx e2 => .nx (e2.set i .unb)
  | .bk e2 => .bk (e2.set i .unb)
  | .ct e2 => .ct (e2.set i .unb)
  | r => r
def tryAsD (i : Nat) (mt : Str → Option Bool) (as : List Nat) (db : List D → O) (ds : Str → List D → List D → O) : List D → O := fun env => match db env with
  | .ex c fs env1 => match mt c with
    | some true => if (as.all (fun i => !ownd (env1.getD i .unb)) && decide (i < env1.length)) = true then goneO i (noEx (ds c fs (env1.set i .unb))) else .bad
    | some false => .ex c fs env1
    | none => .bad
  | r => r
/-- what a suite may know of the caught thing -/
structure Caught (X : Cx) (es : Ent) (i : Nat) (a : Addr) (oe : Obj) (cn : Str) (fs : List D) (cls : Value) (d : Option Addr) : Prop where
  zc : Zc cls d oe
  fl : ∃ vs, oe.data = .fields vs
  pin : es.P i = some (.ref a)
  xr : XR (mo X) es.F0 cn fs cls d
section
variable {X : Cx} {j : J}
theorem s_try_as (i : Nat) {n x : Str} {c : Value} {body suite : List Stmt} {b0 : Stmt} {np pos pos' : Pos} {mt : Str → Option Bool} {as : List Nat} {db : List D → O} {ds : Str → List D → List D → O} (hs : X.stack = X.env :: X.outer) (hf : X.env.frame = some X.env.locals) (hN : X.N.Nodup) (hc : Names X x c)
    (tk : Takes X j.wx) (hpin : ∀ k ∈ i :: as, j.e.P k = none) (hm : ∀ cn C b, X.mg cn = some (.ref C) → mt cn = some b → PySem.W.exmOne X.K (.ref C) c = some b)
    (hb : ∀ (W : WX) (pn : List (Addr × Obj)) (xe : Value → Shared → Prop), Takes (X.tr pn xe) W → PassesOwn (model X.prog X.w) X.A X.env xe → DSs (X.tr pn xe) ⟨j.e, W⟩ body db)
    (hsu : ∀ (a : Addr) (oe : Obj) (cls : Value) (d : Option Addr) (pn : List (Addr × Obj)) (es : Ent) (cn : Str) (fs : List D), Caught X es i a oe cn fs cls d → (∀ k ∈ as, es.P k = none) → mt cn = some true →
      DSs (X.suite a ((a, oe) :: pn)) ⟨es, noX⟩ (b0 :: suite) (ds cn fs)) (hi : X.N[i]? = some n := by rfl) (hln : X.env.kindOf n = some .local := by rfl) (hia : i ∉ as := by decide) :
    DS X j (.Try body [.ExceptHandler (some (.Name x np)) (some n) (b0 :: suite) pos'] [] [] pos) (tryAsD i mt as db ds) := by
  refine PS.mono (ps_try_as (tb := fun W => tS (mo X) ⟨j.e, W⟩ db) (ts := fun a cls d Dn σ H => ∃ (es : Ent) (cn : Str) (fs : List D), es.P i = some (.ref a) ∧ (∀ k ∈ as, es.P k = none) ∧ mt cn = some true ∧ XR (mo X) es.F0 cn fs cls d ∧ tS (mo X) ⟨es, noX⟩ (ds cn fs) Dn σ H) hs hf hN hi hln hc tk hb
    (fun a oe cls d pn hz hf => ⟨fun pins s σ H Dn I ⟨es, cn, fs, h0, h1, h2, h3, h4⟩ => (hsu a oe cls d pn es cn fs ⟨hz, hf, h0, h3⟩ h1 h2).run pins s σ H Dn I h4⟩)) fun Dn σ H ⟨W, F, env, rel, q⟩ => ⟨W, F, env, rel, ?_⟩
  have q : AtS (mo X) j F (tryAsD i mt as db ds env) Dn := q
  unfold tryAsD at q
  have hpi : j.e.P i = none := hpin i List.mem_cons_self
  have hpa : ∀ k ∈ as, j.e.P k = none := fun k hk => hpin k (List.mem_cons_of_mem _ hk)
  cases o : db env with
  | nx e1 => rw [o] at q; exact q
  | rt d e1 => rw [o] at q; exact q
  | bk e1 => rw [o] at q; exact q
  | ct e1 => rw [o] at q; exact q
  | bad => rw [o] at q; exact q
  | ex cn fs env1 =>
    rw [o] at q
    intro W' F' H' σ' cls dd r xF xr
    obtain ⟨C, rfl, hC, hx⟩ := id xr
    simp only at q
    cases om : mt cn with
    | none => rw [om] at q; exact q.elim
    | some b =>
      rw [om] at q
      refine ⟨b, hm cn C b hC om, fun hb1 a na => ?_, fun hb1 => ?_⟩
      · subst hb1
        simp only at q
        by_cases ha : (as.all (fun i => !ownd (env1.getD i .unb)) && decide (i < env1.length)) = true
        · rw [if_pos ha] at q
          obtain ⟨ha, hlt⟩ := Bool.and_eq_true_iff.mp ha
          have hlt := of_decide_eq_true hlt
          have r1 : Rel (mo X) j.e W' F' H' (env1.set i .unb) (σ'.set i (some (.ref a))) := r.putX (some (.ref a)) hpi
          have hsi : (σ'.set i (some (V.ref a)))[i]? = some (some (.ref a)) := List.getElem?_set_self (by rw [← r.len]; exact hlt)
          generalize hσ : σ'.set i (some (V.ref a)) = σ1 at r1 hsi ⊢
          generalize henv : env1.set i D.unb = env2 at r1 q ⊢
          let pb : Nat → Option V := fun k => if k = i then some (.ref a) else suiteP as j.e.P env2 σ1 k
          have pbi : pb i = some (.ref a) := if_pos rfl
          have pbn : ∀ k, k ≠ i → pb k = suiteP as j.e.P env2 σ1 k := fun k h => if_neg h
          have pb1 : ∀ k v, pb k = some v → σ1[k]? = some (some v) := fun k v h => by
            by_cases hk : k = i
            · subst hk
              rw [pbi] at h
              rw [← h]
              exact hsi
            · rw [pbn k hk] at h
              unfold suiteP at h
              by_cases hi : k ∈ as
              · rw [if_pos hi] at h
                cases h
              · rw [if_neg hi] at h
                cases z : j.e.P k with
                | some v' =>
                  rw [z] at h
                  cases h
                  exact r1.pin k v z
                | none =>
                  rw [z] at h
                  simp only at h
                  split at h
                  · cases y : σ1[k]? with
                    | none => rw [y] at h; cases h
                    | some o => rw [y] at h; exact congrArg some h
                  · cases h
          have own2 : ∀ k d, env2[k]? = some d → d ≠ .unb → k ≠ i ∧ env1[k]? = some d := fun k d h1 h2 => by
            rw [← henv] at h1
            by_cases hk : i = k
            · subst hk
              rw [List.getElem?_set_self hlt] at h1
              exact absurd (Option.some.inj h1).symm h2
            · rw [List.getElem?_set_ne hk] at h1
              exact ⟨fun z => hk z.symm, h1⟩
          have rB := r1.inB (pb := pb) pb1 fun k d h1 h2 h3 z => by
            obtain ⟨hk, h1'⟩ := own2 k d h1 h3
            have hd : env1.getD k .unb = d := by rw [List.getD_eq_getElem?_getD, h1']; rfl
            have hd2 : env2.getD k .unb = d := by rw [List.getD_eq_getElem?_getD, h1]; rfl
            have hna : k ∉ as := fun hi => by
              have := List.all_eq_true.mp ha k hi
              rw [hd] at this
              cases d with
              | ml l => exact absurd this (by unfold ownd; simp)
              | mi c l => exact absurd this (by unfold ownd; simp)
              | md c l => exact absurd this (by unfold ownd; simp)
              | unb => exact h3 rfl
              | _ => exact absurd h2 (by unfold isOwn; simp)
            obtain ⟨v, h4, _⟩ := r1.slot k d h1 h3
            rw [pbn k hk] at z
            unfold suiteP at z
            rw [if_neg hna] at z
            cases y : j.e.P k with
            | some v' => rw [y] at z; cases z
            | none =>
              rw [y, hd2] at z
              simp only at z
              rw [if_pos h2, h4] at z
              cases z
          refine ⟨_, cn, fs, pbi, fun k hk => ?_, om, xr, _, F', env2, rB, ?_⟩
          · show pb k = none
            rw [pbn k (fun z => hia (z ▸ hk))]
            exact if_pos hk
          · have back : ∀ {W2 F2 H2 env3 σ2}, Rel (mo X) ⟨H', F', blkW pb W', pb⟩ W2 F2 H2 env3 σ2 → Rel (mo X) j.e W2 F2 H2 env3 σ2 := fun r2 => Rel.outB r1.toRelB r2 fun k v h => by
              have hk : k ≠ i := fun z => by
                rw [z, hpi] at h
                cases h
              rw [pbn k hk]
              unfold suiteP
              rw [if_neg (fun hi => by rw [hpa k hi] at h; cases h), h]
            cases os : ds cn fs env2 with
            | nx e2 => rw [os] at q; exact fun W2 F2 H2 σ2 r2 x2 => q W2 F2 H2 _ ((back r2).putX none hpi) (xF.trans x2)
            | rt d e2 => rw [os] at q; exact fun W2 F2 H2 σ2 v r2 p2 => q W2 F2 H2 σ2 v (back r2) p2
            | bk e2 => rw [os] at q; exact fun W2 F2 H2 σ2 r2 x2 => q W2 F2 H2 _ ((back r2).putX none hpi) (xF.trans x2)
            | ct e2 => rw [os] at q; exact fun W2 F2 H2 σ2 r2 x2 => q W2 F2 H2 _ ((back r2).putX none hpi) (xF.trans x2)
            | ex c2 f2 e2 => rw [os] at q; exact q.elim
            | bad => rw [os] at q; exact q
        · rw [if_neg ha] at q
          exact q.elim
      · subst hb1
        exact q W' F' H' σ' (.ref C) dd r xF xr
/-- isinstance(e, C) of what is caught, C a class of the program or a built-in one; no fields -/
theorem e_isE (i : Nat) {x : Str} {cV : V} {cv : Value} {C : Addr} {b : Bool} {a : Addr} {oe : Obj} {cn : Str} {es : Ent} {pn : List (Addr × Obj)} {wx : WX} {c : Expr} {p q pos : Pos} {dd : Option Addr} (hc : Caught X es i a oe cn [] (.ref C) dd) (T : ExcC X.K C) (hd : dd = none) (hg : Gl X "isinstance") (hm : X.mg "isinstance" = none)
    (hx : PE (X.suite a ((a, oe) :: pn)) (.Name x p) (tVar i)) (hcv : PE (X.suite a ((a, oe) :: pn)) c (tC cV)) (hr : ∀ u, RelV cV u → u = cv) (hk : PySem.W.kitOne X.K (.ref C) cv = some b)
    (hs2 : starEach [c] X.env = (false, eval c X.env) :: starEach [] X.env := by rfl) (he : starEach [.Name x p, c] X.env = (false, eval (.Name x p) X.env) :: starEach [c] X.env := by rfl) (hpl : (backTo pos (starEach [c] X.env)).any (·.1) = false := by rfl) :
    DE (X.suite a ((a, oe) :: pn)) ⟨es, wx⟩ (.Call (.Name "isinstance" q) [.Name x p, c] [] pos) (constD (.bl b)) := by
  subst hd
  refine PE.mono (pe_callB (call_isE T hc.zc hc.fl) hg hm (by rfl) (pa_cons hx (pa_cons hcv pa_nil hs2) he) (by decide) (by decide) he hpl) fun σ H Q ⟨W, F, env, rel, q⟩ => ?_
  exact ⟨.ref a, rel.pin i _ hc.pin, cV, cv, b, rfl, hr, hk, q W F H _ rel (Ex.refl F) (.bl b)⟩
end
end DL
namespace DL
open PySem PySem.Spec PyProof.Rows L2
/-! ## a module's defs, by what the head tells of them -/
/-- THE RULE of a def that the head tells of -/
theorem fn_denD {P : Program} {w : World} {K : PySem.W.Frag} {mg : Str → Option Value} {base : Heap} {x qual : Str} {params : Arguments} {body : List Stmt} {scope : Scope} {dvs : List V} {kws : List (Str × V)} {f : Addr} {fd : FuncData} {N ps : List Str} {k : Nat} {io : List Nat} {den : List D → O}
    (F : FunD K x qual params body scope dvs kws f fd) (S : FnScope N ps scope) (hio : ∀ i ∈ io, i < ps.length)
    (hbody : ∀ (cdv : Value) (A : Around) (outer : List Env) (s : Shared) (H : Hp) (E : XK) (j : J), Room k (A.deeper (envOfC qual scope s.heap.objs.size f cdv)) →
      Wf (cxOf (L2.CX P w) P w K mg base N qual scope f cdv A outer s H E) j io → DSs (cxOf (L2.CX P w) P w K mg base N qual scope f cdv A outer s H E) j body den) :
    FnOk P w K mg base (L2.CX P w) (k + 1) f fd ps (spD ⟨K, mg⟩ ps.length io (runD N.length io den)) := by
  refine F.ok S (fun vs H Q E h => ?_) (fun cdv A outer s H vs Q E hr h => ?_)
  · obtain ⟨_, _, _, h, _⟩ := h
    exact h
  · obtain ⟨W, F, ds, hv, hl, rb, sl, q⟩ := h
    have hN : ps.length ≤ N.length := by
      have := congrArg List.length S.pre
      rw [List.length_take] at this
      omega
    have hio' : ∀ i ∈ io, i < vs.length := fun i h => by
      rw [hv]
      exact hio i h
    refine ⟨_, hbody cdv A outer s H E ⟨⟨H, F, W, pinOf io vs⟩, fun cls dd _ H' => E cls dd H'⟩ hr ⟨S.nd, rfl, takes_of rfl rfl rfl rfl, passes_of rfl, fun i hi => if_neg hi⟩, W, F, ds ++ List.replicate (N.length - ds.length) .unb, ⟨rb, ?_, fun i d h1 h2 => ?_, fun i v h1 => ?_⟩, ?_⟩
    · show (ds ++ _).length = (L2.start N vs).length
      unfold L2.start
      simp only [List.length_append, List.length_replicate, List.length_map, hl, hv]
    · unfold L2.start
      by_cases hi : i < ds.length
      · rw [List.getElem?_append_left hi] at h1
        obtain ⟨_, v, h3, h4⟩ := sl i d h1
        refine ⟨v, ?_, h4⟩
        rw [List.getElem?_append_left (by rw [List.length_map, hv, ← hl]; exact hi), List.getElem?_map, h3] <;> rfl
      · rw [List.getElem?_append_right (by omega), List.getElem?_replicate] at h1
        split at h1
        · exact absurd (Option.some.inj h1).symm h2
        · cases h1
    · have h1 : pinOf io vs i = some v := h1
      unfold pinOf at h1
      split at h1
      · have hi : i < vs.length := (List.getElem?_eq_some_iff.mp h1).1
        unfold L2.start
        rw [List.getElem?_append_left (by rw [List.length_map]; exact hi), List.getElem?_map, h1] <;> rfl
      · cases h1
    · unfold runD at q
      cases o : den (ds ++ List.replicate (N.length - ds.length) .unb) with
      | nx env =>
        rw [o] at q
        exact fun W' F' H' σ' r _ => q W' F' H' .non r.toRelB (.fz .non) (outs_rel r hio')
      | rt d env =>
        rw [o] at q
        exact fun W' F' H' σ' v r p => q W' F' H' v r.toRelB p (outs_rel r hio')
      | ex c fs env =>
        rw [o] at q
        exact fun W' F' H' σ' cls dd r _ p => q W' F' H' cls dd r.toRelB p (outs_rel r hio')
      | bk env => rw [o] at q; exact q.elim
      | ct env => rw [o] at q; exact q.elim
      | bad => rw [o] at q; exact q.elim
/-- what the head tells, and where the names lie -/
structure Ctx (fa : List He.Fa) (fn : List He.DefD) (ex : PySem.W.Frag → Bool) (K : PySem.W.Frag) (mg : Str → Option Value) : Prop where
  h : ∃ h : Heap, K.In h ∧ h.Ns mainGlobals mg
  d : He.SaysD fa fn K
  ex : ex K = true
section
variable {fa : List He.Fa} {fn : List He.DefD} {ex : PySem.W.Frag → Bool} {K : PySem.W.Frag} {mg : Str → Option Value} {P : Program} {w : World} {base : Heap}
theorem Ctx.glo (c : Ctx fa fn ex K mg) (i : Nat) {x : Str} (e : fa[i]? = some (.glo x) := by rfl) : mg x = some (.ref (He.ga K x)) := by
  obtain ⟨h, X, G⟩ := c.h
  exact He.glo_ok X G (c.d.fact i e)
theorem Ctx.free (c : Ctx fa fn ex K mg) (i : Nat) {x : Str} (e : fa[i]? = some (.free x) := by rfl) : mg x = none := by
  obtain ⟨h, X, G⟩ := c.h
  exact He.free_ok X G (c.d.fact i e)
theorem Ctx.int (c : Ctx fa fn ex K mg) (i : Nat) {x : Str} {n : Int} (e : fa[i]? = some (.int x n) := by rfl) : ∃ t, mg x = some (.int n t) := by
  obtain ⟨h, X, G⟩ := c.h
  exact He.int_ok X G (c.d.fact i e)
theorem Ctx.str (c : Ctx fa fn ex K mg) (i : Nat) {x n : Str} (e : fa[i]? = some (.str x n) := by rfl) : ∃ t, mg x = some (.str n t) := by
  obtain ⟨h, X, G⟩ := c.h
  exact He.str_ok X G (c.d.fact i e)
theorem Ctx.exm (c : Ctx fa fn ex K mg) (i : Nat) {x y : Str} {b : Bool} (e : fa[i]? = some (.exm x y b) := by rfl) : PySem.W.exmOne K (.ref (He.ga K x)) (.ref (He.ga K y)) = some b := He.exm_ok (c.d.fact i e)
/-- an exception class of no fields: at i as a global, at k as an exception -/
theorem Ctx.xk0 (c : Ctx fa fn ex K mg) (i k : Nat) {x : Str} (e : fa[i]? = some (.glo x) := by rfl) (e2 : fa[k]? = some (.exc x) := by rfl) : XK0 ⟨K, mg⟩ x (He.ga K x) := by
  obtain ⟨h1, h2, h3, h4⟩ := He.exc_ok (c.d.fact k e2)
  exact ⟨c.glo i e, h1, h2, h3, h4⟩
end
/-- a def that is walked -/
structure Df (P : Program) (w : World) (K : PySem.W.Frag) (mg : Str → Option Value) (base : Heap) (d : He.DefD) (fd : FuncData) (ps : List Str) (io : List Nat) (g : List D → FR) (k : Nat) : Prop where
  fn : FunD K d.name d.qual d.params d.body d.scope (d.dvs K) (d.kws K) (He.fAd K d.at_) fd
  ok : FnOk P w K mg base (L2.CX P w) k (He.fAd K d.at_) fd ps (spD ⟨K, mg⟩ ps.length io g)
  lo : OutLen io g
theorem FunD.kp0 {K : PySem.W.Frag} {x qual : Str} {params : Arguments} {body : List Stmt} {scope : Scope} {kws : List (Str × V)} {f : Addr} {fd : FuncData} {ps ks : List Str} {n : Nat} {g : List Nat} (F : FunD K x qual params body scope [] kws f fd)
    (h : ∀ (kV doc pm : Value) (an : Option Addr) (cdv ct : Value) (us ws : List Value), us.length = n → ws.length = ks.length → bindArgs (PySem.W.fnOf x qual params body scope .none kV doc pm an cdv ct) ⟨us, ks.zip ws⟩ = pure (ps.zip (ordA g (us ++ ws)))) : KP K fd ps ks n g := by
  obtain ⟨oc, od, dV, kV, doc, pm, an, cdv, ct, osl, rfl, lk, hcd, hD, hK⟩ := F.ex
  rcases hD with ⟨_, rfl⟩ | ⟨e, _⟩
  · exact ⟨fun s us ws _ l1 l2 => .of_eq (h kV doc pm an cdv ct us ws l1 l2)⟩
  · exact absurd rfl e
section
variable {X : Cx} {j : J} {d : He.DefD} {fd : FuncData} {ps ks : List Str} {io g : List Nat} {G : List D → FR} {k m n N nk : Nat} {x : Str} {p pos : Pos} {e : Expr} {es : List Expr} {kws : List Keyword} {da dA dK : List D → R (List Ar)}
/-- f(..), f a def of the module -/
theorem o_fn (F : Df X.prog X.w X.K X.mg X.base d fd ps io G k) (hb : Binds X.K fd ps []) (hr : Room m X.A) (hm : X.mg x = some (.ref (He.fAd X.K d.at_))) (tk : Takes X j.wx) (ha : DAr X j (e :: es) da) (hn : ps.length = n := by rfl) (hk : k ≤ m := by decide)
    (hg : Gl X x := by rfl) (hdb : (x == ("__debug__" : Str)) = false := by decide) (he : starEach (e :: es) X.env = (false, eval e X.env) :: starEach es X.env := by rfl) (hpl : (backTo pos (starEach es X.env)).any (·.1) = false := by rfl) :
    DO X j (.Call (.Name x p) (e :: es) [] pos) (callO n io G da) := hn ▸ o_call F.ok (hr.mono hk) hm F.fn.kp hb tk F.lo ha hg hdb he hpl
theorem o_fnK (F : Df X.prog X.w X.K X.mg X.base d fd ps io G k) (hr : Room m X.A) (hm : X.mg x = some (.ref (He.fAd X.K d.at_))) (hb : KP X.K fd ps ks n g) (tk : Takes X j.wx)
    (ha : DAr X j (e :: es) dA) (hkw : PK X kws (fun σ H Q => tR (mo X) j.e j.wx (RaL (mo X) σ) dK σ H Q)) (hn : ps.length = N := by rfl) (hl : ks.length = nk := by rfl) (hk : k ≤ m := by decide) (hg : Gl X x := by rfl) (hall : (backToKw pos (keywordEach kws X.env)).all (·.1.isSome) = true := by rfl) (hks : (backToKw pos (keywordEach kws X.env)).filterMap (·.1) = ks := by rfl)
    (hdb : (x == ("__debug__" : Str)) = false := by decide) (he : starEach (e :: es) X.env = (false, eval e X.env) :: starEach es X.env := by rfl)
    (hpl : ((backTo pos (starEach (e :: es) X.env)).any (·.1) || (backToKw pos (keywordEach kws X.env)).any (·.1.isNone)) = false := by rfl) :
    DO X j (.Call (.Name x p) (e :: es) kws pos) (callO N io G (permA g n nk dA dK)) := by
  subst hn
  subst hl
  exact o_callK F.ok (hr.mono hk) hm F.fn.kp hb tk F.lo ha hkw hg hall hks hdb he hpl
theorem o_fnK0 (F : Df X.prog X.w X.K X.mg X.base d fd ps io G k) (hr : Room m X.A) (hm : X.mg x = some (.ref (He.fAd X.K d.at_))) (hb : KP X.K fd ps ks 0 g) (tk : Takes X j.wx)
    (hkw : PK X kws (fun σ H Q => tR (mo X) j.e j.wx (RaL (mo X) σ) dK σ H Q)) (hn : ps.length = N := by rfl) (hl : ks.length = nk := by rfl) (hk : k ≤ m := by decide) (hg : Gl X x := by rfl) (hall : (backToKw pos (keywordEach kws X.env)).all (·.1.isSome) = true := by rfl) (hks : (backToKw pos (keywordEach kws X.env)).filterMap (·.1) = ks := by rfl)
    (hdb : (x == ("__debug__" : Str)) = false := by decide)
    (hpl : ((backTo pos (starEach [] X.env)).any (·.1) || (backToKw pos (keywordEach kws X.env)).any (·.1.isNone)) = false := by rfl) :
    DO X j (.Call (.Name x p) [] kws pos) (callO N io G (permA g 0 nk nilA dK)) := by
  subst hn
  subst hl
  exact o_callK0 F.ok (hr.mono hk) hm F.fn.kp hb tk F.lo hkw hg hall hks hdb hpl
end
/-- the law's own def, as the end of the walk wants it -/
theorem law_sp {K : PySem.W.Frag} {mg : Str → Option Value} {g : List D → FR} (hg : ∀ ns : List Int, ns.length ≤ 63 → ∃ outs, g [.lst (ns.map D.int)] = .ret (.bl true) outs) (H : Hp) (a : Addr) (ns : List Int) (hl : ns.length ≤ 63) (hS : SqL K H a (ns.map V.int)) :
    spD ⟨K, mg⟩ 1 [] g [.ref a] H (fun v _ => v = .bl true) fun _ _ _ => False := by
  obtain ⟨outs, e⟩ := hg ns hl
  refine ⟨fun _ => none, H, [.lst (ns.map D.int)], rfl, rfl, ⟨fun b o _ h => h, Ex.refl H, Ex.refl H, fun a h => absurd rfl h, fun a r q h => (by cases h), fun b h => .inl h, fun b h => h⟩, fun i d h => ?_, ?_⟩
  · cases i with
    | zero =>
      cases h
      exact ⟨(by intro z; cases z), .ref a, rfl, .fz (.lst hS (RpL.ints ns))⟩
    | succ i => cases h
  · rw [e]
    intro W' F' H' v rb p _
    cases p with
    | fz p =>
      cases p
      rfl
end DL
namespace DL
open PySem PySem.Spec PyProof.Rows L2
/-! ## for the walks that gen.py prints -/
def lstO (dl : List D → R (List D)) : List D → R D := fun env => bindR (dl env) fun xs env1 => if xs.length ≤ 1000 then .ok (.ml xs) env1 else .bad
theorem o_lstO {X : Cx} {j : J} {es : List Expr} {pos : Pos} {dl : List D → R (List D)} (h : DL X j es dl) : DO X j (.List es pos) (lstO dl) := o_lst h
/-- the classes that a clause takes, those that it leaves -/
def mtOf (l : List (Str × Bool)) (c : Str) : Option Bool := l.lookup c
inductive ExmAll (M : Mo) (c : Value) : List (Str × Bool) → Prop
  | nil : ExmAll M c []
  | cons {x : Str} {b : Bool} {C : Addr} {r : List (Str × Bool)} : M.mg x = some (.ref C) → PySem.W.exmOne M.K (.ref C) c = some b → ExmAll M c r → ExmAll M c ((x, b) :: r)
theorem mtOf_ok {M : Mo} {c : Value} {l : List (Str × Bool)} (h : ExmAll M c l) : ∀ cn C b, M.mg cn = some (.ref C) → mtOf l cn = some b → PySem.W.exmOne M.K (.ref C) c = some b := by
  induction h with
  | nil => intro _ _ _ _ e; cases e
  | @cons x b0 C0 r h1 h2 h3 ih =>
    intro cn C b hm e
    unfold mtOf at e
    rw [List.lookup_cons] at e
    split at e
    · rename_i hq
      have hq := eq_of_beq hq
      subst hq
      rw [h1] at hm
      cases hm
      cases e
      exact h2
    · exact ih cn C b hm e
def takesOf (l : List (Str × Bool)) : List Str := (l.filter (·.2)).map (·.1)
theorem mtOf_mem {l : List (Str × Bool)} {cn : Str} (h : mtOf l cn = some true) : cn ∈ takesOf l := by
  unfold mtOf at h
  unfold takesOf
  induction l with
  | nil => cases h
  | cons q r ih =>
    rw [List.lookup_cons] at h
    split at h
    · rename_i hq
      have hq := eq_of_beq hq
      cases h1 : q.2 with
      | true => rw [List.filter_cons, if_pos h1, hq]; exact List.mem_cons_self
      | false => rw [h1] at h; cases h
    · have := ih h
      rw [List.filter_cons]
      split
      · exact List.mem_cons_of_mem _ this
      · exact this
theorem mtOf_one {l : List (Str × Bool)} {cn c : Str} (h : mtOf l cn = some true) (e : takesOf l = [c]) : cn = c := by
  have := mtOf_mem h
  rw [e] at this
  exact List.mem_singleton.mp this
/-- what is caught is of a class without fields -/
theorem caught0 {X : Cx} {es : Ent} {i : Nat} {a : Addr} {oe : Obj} {cn : Str} {fs : List D} {cls : Value} {d : Option Addr} {C : Addr} (h : Caught X es i a oe cn fs cls d) (e : eflds cn = []) (g : X.mg cn = some (.ref C)) : fs = [] ∧ cls = .ref C ∧ d = none := by
  obtain ⟨C', h1, h2, h3⟩ := h.xr
  rw [show (mo X).mg cn = some (.ref C) from g] at h2
  cases h2
  rcases h3 with ⟨h3, _, h4⟩ | ⟨dx, gs, h0, _⟩
  · exact ⟨h3, h1, h4⟩
  · exact absurd e h0
def excB (K : PySem.W.Frag) (C : Addr) : Bool := He.eqO (PySem.W.findIn K (.ref C) "__getattribute__") (some (some (.builtin "BaseException.__getattribute__"))) && (He.eqO (PySem.W.findIn K (.ref C) "__getattr__") (some none) && (decide (PySem.W.subIn K (.ref C) (.type "BaseException") = some true) && (PySem.W.hasDictIn K C &&
  (He.eqO (PySem.W.findIn K (.ref C) "__class__") (some (some (.builtin "object.__class__"))) && (He.eqO (PySem.W.specialIn K (.builtin "object.__class__") "__get__") (some (some (.builtin "getset_descriptor.__get__"))) && (decide (PySem.W.takesIn K (.builtin "object.__class__") = some true) && decide (PySem.W.mroIn K C (.type "object") = some true)))))))
theorem excB_ok {K : PySem.W.Frag} {C : Addr} (h : excB K C = true) : ExcC K C := by
  obtain ⟨h1, h⟩ := He.ba h
  obtain ⟨h2, h⟩ := He.ba h
  obtain ⟨h3, h⟩ := He.ba h
  obtain ⟨h4, h⟩ := He.ba h
  obtain ⟨h5, h⟩ := He.ba h
  obtain ⟨h6, h⟩ := He.ba h
  obtain ⟨h7, h8⟩ := He.ba h
  exact ⟨He.eqO_ok h1, He.eqO_ok h2, of_decide_eq_true h3, h4, He.eqO_ok h5, He.eqO_ok h6, of_decide_eq_true h7, of_decide_eq_true h8⟩
end DL
namespace DL
open PySem PySem.Spec PyProof.Rows L2
/-! ## the end of a law's walk -/
theorem FunD.uniq {K : PySem.W.Frag} {x qual : Str} {params : Arguments} {body : List Stmt} {scope : Scope} {dvs : List V} {kws : List (Str × V)} {f : Addr} {fd fd' : FuncData} (F : FunD K x qual params body scope dvs kws f fd) (F' : FunD K x qual params body scope dvs kws f fd') : fd' = fd := by
  obtain ⟨_, _, _, _, _, _, _, _, _, _, _, l1, _⟩ := F.ex
  obtain ⟨_, _, _, _, _, _, _, _, _, _, _, l2, _⟩ := F'.ex
  rw [l1] at l2
  injection l2 with l2
  injection l2 with _ _ l2 _
  injection l2 with l2
  exact l2.symm
theorem law_spB {K : PySem.W.Frag} {mg : Str → Option Value} {g : List D → FR} {H : Hp} {a : Addr} {ns : List Int} (hg : ∃ outs, g [.lst (ns.map D.int)] = .ret (.bl true) outs) (hS : SqL K H a (ns.map V.int)) :
    spD ⟨K, mg⟩ 1 [] g [.ref a] H (fun v _ => v = .bl true) fun _ _ _ => False := by
  obtain ⟨outs, e⟩ := hg
  refine ⟨fun _ => none, H, [.lst (ns.map D.int)], rfl, rfl, ⟨fun b o _ h => h, Ex.refl H, Ex.refl H, fun a h => absurd rfl h, fun a r q h => (by cases h), fun b h => .inl h, fun b h => h⟩, fun i d h => ?_, ?_⟩
  · cases i with
    | zero =>
      cases h
      exact ⟨(by intro z; cases z), .ref a, rfl, .fz (.lst hS (RpL.ints ns))⟩
    | succ i => cases h
  · rw [e]
    intro W' F' H' v rb p _
    cases p with
    | fz p =>
      cases p
      rfl
theorem walk_end {l : PySem.W.OpenLaw} {k i : Nat} {q : Program} {loose : List Str} {XP : (Str → Option Value) → Heap → Prop} {fa : List He.Fa} {fn : List He.DefD} {ex : PySem.W.Frag → Bool} {m : Nat} {d : DefRec} {a : He.DefD} {g : List D → FR}
    (hn : l.most = some 63) (hdf : d.params.defaults = []) (hr : Room k callerA) (hname : d.name = ("law" : Str)) (hat : a.at_ = ((("law" : Str), none) : Str × Option Str)) (hdfl : a.dfl = [])
    (hb : ∀ (kV doc pm : Value) (an : Option Addr) (cdv ct : Value) (us : List Value), us.length = 1 → bindArgs (PySem.W.fnOf a.name a.qual a.params a.body a.scope .none kV doc pm an cdv ct) ⟨us, []⟩ = pure ((["script"] : List Str).zip us)) (hm : fa[i]? = some (.glo "law"))
    (ok : ∀ (w : World) (base : Heap) (K : PySem.W.Frag) (mg : Str → Option Value), Ctx fa fn ex K mg → ∃ fd, Df l.prog w K mg base a fd ["script"] [] g k)
    (hg : ∀ ns : List Int, ns.length ≤ 63 → (∀ z ∈ ns, Builtin.Int.intBits z ≤ 1048576) → ∃ outs, g [.lst (ns.map D.int)] = .ret (.bl true) outs) :
    PySem.W.WalkO q loose XP (He.hookX m fa fn [] [] ex).says l.row.toRowW d [] (fun f vs => PySem.call f vs) := by
  refine Att.attach_callB hn hdf fun w s₀ s₁ mg mb f0 o pm cd doc a0 vs ns G Y ho hd hcd hmg hobj hints hlen hbits hg0 => ?_
  obtain ⟨K, KX, Sx⟩ := Y
  have c : Ctx fa fn ex K mg := ⟨⟨_, KX, G.T.g⟩, Sx.t.d, Sx.more⟩
  obtain ⟨fd, D0⟩ := ok w s₁.heap K mg c
  have hf : f0 = He.fAd K a.at_ := by
    have e := c.glo i hm
    rw [hname] at hmg
    rw [hmg] at e
    injection e with e
    injection e with e
    rw [e, hat]
    rfl
  subst hf
  have F0 := D0.fn
  have hdv : He.DefD.dvs K a = [] := by
    unfold He.DefD.dvs
    rw [hdfl]
    rfl
  refine law_call (k := k) (x := "script") (CX := L2.CX l.prog w) (sp := spD ⟨K, mg⟩ 1 [] g) KX G.T.g G.T.b G.T.builtins G.T.nolimit hg0 hobj hints (Nat.le_trans hlen (by decide)) hr (fun base hB hG => ?_) (fun s u => ?_) (fun H hO hS => law_spB (hg ns hlen hbits) hS) (fun H e s' hc => ?_) (fd := fd)
  · obtain ⟨fd', D1⟩ := ok w base K mg c
    have e := FunD.uniq F0 D1.fn
    subst e
    exact D1.ok
  · rw [hdv] at F0
    exact FunD.bindsA (ps := ["script"]) F0 hb s [u] rfl
  · obtain ⟨_, _, _, _, _, _, _, _, _, _, _, _, hE⟩ := hc
    exact hE
end DL
namespace DL
open PySem PySem.Spec PyProof.Rows L2
/-! ## denotations, computed: the simplifier's rules -/
/-! == of plain data -/
@[simp] theorem fine_int (a : Int) : fine (.int a) = true := rfl
@[simp] theorem fine_bl (b : Bool) : fine (.bl b) = true := rfl
@[simp] theorem fine_non : fine .non = true := rfl
theorem eqb_of {x y : D} {p q : PyData} (h : x.py = some p) (k : y.py = some q) : x.eqb y = PyData.eqv p q := by
  unfold D.eqb
  rw [h, k]
@[simp] theorem eqb_int (a b : Int) : (D.int a).eqb (.int b) = decide (a = b) := by
  rw [eqb_of (p := .int a) (q := .int b) rfl rfl, PyData.eqv]
  exact Bool.eq_iff_iff.mpr (by simp)
@[simp] theorem eqb_bl (a b : Bool) : (D.bl a).eqb (.bl b) = decide (a = b) := by
  rw [eqb_of (p := .bool a) (q := .bool b) rfl rfl, PyData.eqv]
  cases a <;> cases b <;> rfl
@[simp] theorem fine_tup2 (a b : Int) : fine (.tup [.int a, .int b]) = true := rfl
@[simp] theorem eqb_tup2 (a b c d : Int) : (D.tup [.int a, .int b]).eqb (.tup [.int c, .int d]) = (decide (a = c) && decide (b = d)) := by
  rw [eqb_of (p := .tuple [.int a, .int b]) (q := .tuple [.int c, .int d]) rfl rfl]
  simp only [PyData.eqv, PyData.eqvAll, Bool.and_true]
  exact Bool.eq_iff_iff.mpr (by simp)
section
variable (env : List D) (i k n : Nat) (f : D → D → Option D) (g : D → Option D) (h : List D → Option D) (da db dc : List D → R D) (dt du : List D → R Bool) (dl dr : List D → R (List D)) (dA : List D → R (List Ar)) (sa sb : List D → O) (d : D)
@[simp] theorem constD_ap : constD d env = .ok d env := rfl
@[simp] theorem varD_ap : varD i env = if isOwn (env.getD i .unb) = true then .bad else .ok (env.getD i .unb) env := rfl
@[simp] theorem binD_ap : binD f da db env = bindR (da env) fun x env1 => bindR (db env1) fun y env2 => opR (f x y) env2 := rfl
@[simp] theorem unD_ap : unD g da env = bindR (da env) fun x env1 => opR (g x) env1 := rfl
@[simp] theorem nilD_ap : nilD env = .ok [] env := rfl
@[simp] theorem consD_ap : consD da dl env = bindR (da env) fun x env1 => bindR (dl env1) fun xs env2 => .ok (x :: xs) env2 := rfl
@[simp] theorem callBD_ap : callBD h dl env = bindR (dl env) fun xs env1 => opR (h xs) env1 := rfl
@[simp] theorem testD_ap : testD da env = bindR (da env) fun x env1 => match x with
  | .bl b => .ok b env1
  | _ => .bad := rfl
@[simp] theorem andD_ap : andD dt du env = bindR (dt env) fun b env1 => if b = true then du env1 else .ok false env1 := rfl
@[simp] theorem orD_ap : orD dt du env = bindR (dt env) fun b env1 => if b = true then .ok true env1 else du env1 := rfl
@[simp] theorem notD_ap : notD dt env = bindR (dt env) fun b env1 => .ok (!b) env1 := rfl
@[simp] theorem blD_ap : blD dt env = bindR (dt env) fun b env1 => .ok (.bl b) env1 := rfl
@[simp] theorem ifD_ap : ifD dt da db env = bindR (dt env) fun b env1 => if b = true then da env1 else db env1 := rfl
@[simp] theorem tupD_ap : tupD dl env = bindR (dl env) fun xs env1 => if xs.length ≤ 1000 then .ok (.tup xs) env1 else .bad := rfl
@[simp] theorem lstD_ap : lstD dl env = bindR (dl env) fun xs env1 => if xs.length ≤ 1000 then .ok (.lst xs) env1 else .bad := rfl
@[simp] theorem lstO_ap : lstO dl env = bindR (dl env) fun xs env1 => if xs.length ≤ 1000 then .ok (.ml xs) env1 else .bad := rfl
@[simp] theorem andV_ap : andV da db env = bindR (da env) fun x env1 => match x with
  | .bl true => db env1
  | .bl false => .ok (.bl false) env1
  | _ => .bad := rfl
@[simp] theorem orV_ap : orV da db env = bindR (da env) fun x env1 => match x with
  | .bl true => .ok (.bl true) env1
  | .bl false => db env1
  | _ => .bad := rfl
@[simp] theorem frzD_ap : frzD da env = bindR (da env) fun x env1 => .ok (frz x) env1 := rfl
@[simp] theorem frz_int (i : Int) : frz (.int i) = .int i := rfl
@[simp] theorem frz_bl (i : Bool) : frz (.bl i) = .bl i := rfl
@[simp] theorem frz_non : frz .non = .non := rfl
@[simp] theorem frz_str (i : Str) : frz (.str i) = .str i := rfl
@[simp] theorem frz_tup (l : List D) : frz (.tup l) = .tup l := rfl
@[simp] theorem frz_lst (l : List D) : frz (.lst l) = .lst l := rfl
@[simp] theorem frz_ml (l : List D) : frz (.ml l) = .lst (frzL l) := by rw [frz]
@[simp] theorem frzL_nil : frzL [] = [] := by rw [frzL]
@[simp] theorem frzL_cons (d : D) (l : List D) : frzL (d :: l) = frz d :: frzL l := by rw [frzL]
@[simp] theorem isOwn_int (i : Int) : isOwn (.int i) = false := rfl
@[simp] theorem isOwn_bl (i : Bool) : isOwn (.bl i) = false := rfl
@[simp] theorem isOwn_non : isOwn .non = false := rfl
@[simp] theorem isOwn_str (i : Str) : isOwn (.str i) = false := rfl
@[simp] theorem isOwn_tup (l : List D) : isOwn (.tup l) = false := rfl
@[simp] theorem isOwn_lst (l : List D) : isOwn (.lst l) = false := rfl
@[simp] theorem isOwn_ml (l : List D) : isOwn (.ml l) = true := rfl
@[simp] theorem ownd_ml (l : List D) : ownd (.ml l) = true := rfl
@[simp] theorem ownd_int (i : Int) : ownd (.int i) = false := rfl
@[simp] theorem ownd_bl (i : Bool) : ownd (.bl i) = false := rfl
@[simp] theorem ownd_unb : ownd .unb = false := rfl
@[simp] theorem ownd_tup (l : List D) : ownd (.tup l) = false := rfl
@[simp] theorem ownd_lst (l : List D) : ownd (.lst l) = false := rfl
/-! statements -/
@[simp] theorem skipD_ap : skipD env = .nx env := rfl
@[simp] theorem seqD_ap : seqD sa sb env = match sa env with
  | .nx env1 => sb env1
  | r => r := rfl
@[simp] theorem ifS_ap : ifS dt sa sb env = bindS (dt env) fun b env1 => if b = true then sa env1 else sb env1 := rfl
@[simp] theorem asgD_ap : asgD i da env = bindS (da env) fun d env1 => .nx (env1.set i d) := rfl
@[simp] theorem exprD_ap : exprD da env = bindS (da env) fun _ env1 => .nx env1 := rfl
@[simp] theorem retD_ap : retD da env = bindS (da env) fun d env1 => .rt d env1 := rfl
@[simp] theorem retN_ap : retN env = .rt .non env := rfl
@[simp] theorem brkD_ap : brkD env = .bk env := rfl
@[simp] theorem cntD_ap : cntD env = .ct env := rfl
@[simp] theorem parD_ap : parD i k da db env = bindS (da env) fun x env1 => bindS (db env1) fun y env2 => .nx ((env2.set i x).set k y) := rfl
@[simp] theorem asgG_ap (g : D → List D → Option (List D)) : asgG da g env = bindS (da env) fun d env1 => match g d env1 with
  | some env2 => .nx env2
  | none => .bad := rfl
@[simp] theorem gnD_ap : gnD i d env = some (env.set i d) := rfl
@[simp] theorem gNilD_ap : gNilD [] env = some env := rfl
@[simp] theorem gConsD_ap (g : D → List D → Option (List D)) (h : List D → List D → Option (List D)) (r : List D) : gConsD g h (d :: r) env = match g d env with
  | some env1 => h r env1
  | none => none := rfl
@[simp] theorem gTupD_ap (g : List D → List D → Option (List D)) (l : List D) : gTupD g (.tup l) env = g l env := rfl
@[simp] theorem raiseD_ap (c : Str) : raiseD c dl env = bindS (dl env) fun fs env1 => .ex c fs env1 := rfl
theorem runD_ap (N : Nat) (io : List Nat) (ds : List D) : runD N io sa ds = match sa (ds ++ List.replicate (N - ds.length) .unb) with
  | .nx env => .ret .non (outsD io env)
  | .rt d env => .ret d (outsD io env)
  | .ex c fs env => .exc c fs (outsD io env)
  | _ => .bad := rfl
@[simp] theorem outsD_nil : outsD [] env = [] := rfl
@[simp] theorem outsD_cons (io : List Nat) : outsD (i :: io) env = env.getD i .unb :: outsD io env := rfl
/-! calls -/
@[simp] theorem nilA_ap : nilA env = .ok [] env := rfl
@[simp] theorem consA_ap : consA da dA env = bindR (da env) fun x env1 => bindR (dA env1) fun xs env2 => .ok (.v x :: xs) env2 := rfl
@[simp] theorem ioA_ap : ioA i dA env = if ownd (env.getD i .unb) = true then bindR (dA env) fun xs env2 => .ok (.io i :: xs) env2 else .bad := rfl
def retI (is : List Nat) (r : FR) (env : List D) : R D := match r with
  | .ret d outs => .ok d (wback is outs env)
  | .exc c fs outs => .ex c fs (wback is outs env)
  | .bad => .bad
@[simp] theorem retI_ret (is : List Nat) (outs : List D) : retI is (.ret d outs) env = .ok d (wback is outs env) := rfl
@[simp] theorem retI_exc (is : List Nat) (c : Str) (fs outs : List D) : retI is (.exc c fs outs) env = .ex c fs (wback is outs env) := rfl
@[simp] theorem wback_nil (ds : List D) : wback [] ds env = env := by
  cases ds <;> rfl
@[simp] theorem wback_cons (is : List Nat) (ds : List D) : wback (i :: is) (d :: ds) env = wback is ds (env.set i d) := rfl
@[simp] theorem callO_ap (io : List Nat) (G : List D → FR) : callO n io G dA env = bindR (dA env) fun as env1 => if okIo n io as env1 = true then retI ((ioOf 0 as).map (·.2)) (G (valsOf as env1)) env1 else .bad := by
  unfold callO
  congr 1
@[simp] theorem permA_ap (g : List Nat) (m : Nat) (dk : List D → R (List Ar)) : permA g n m dA dk env = bindR (dA env) fun as env1 => bindR (dk env1) fun ks env2 => if as.length = n ∧ ks.length = m then .ok (ordA g (as ++ ks)) env2 else .bad := rfl
@[simp] theorem okIo_ap (io : List Nat) (as : List Ar) : okIo n io as env = (decide (as.length = n) && (decide ((ioOf 0 as).map (·.1) = io) && decide ((ioOf 0 as).map (·.2)).Nodup && (ioOf 0 as).all fun p => ownd (env.getD p.2 .unb))) := rfl
@[simp] theorem valsOf_nil : valsOf [] env = [] := rfl
@[simp] theorem valsOf_v (as : List Ar) : valsOf (.v d :: as) env = d :: valsOf as env := rfl
@[simp] theorem valsOf_io (as : List Ar) : valsOf (.io i :: as) env = env.getD i .unb :: valsOf as env := rfl
@[simp] theorem ioOf_nil : ioOf k [] = [] := rfl
@[simp] theorem ioOf_v (as : List Ar) : ioOf k (.v d :: as) = ioOf (k + 1) as := rfl
@[simp] theorem ioOf_io (as : List Ar) : ioOf k (.io i :: as) = (k, i) :: ioOf (k + 1) as := rfl
@[simp] theorem ordA_nil {α : Type} (as : List α) : ordA [] as = [] := rfl
@[simp] theorem ordA_cons {α : Type} (g : List Nat) (as : List α) : ordA (i :: g) as = (as[i]?).toList ++ ordA g as := by
  unfold ordA
  rw [List.filterMap_cons]
  cases as[i]? <;> rfl
/-! the operators on numbers -/
@[simp] theorem addD_int (a b : Int) : addD (.int a) (.int b) = some (.int (a + b)) := rfl
@[simp] theorem subD_int (a b : Int) : subD (.int a) (.int b) = some (.int (a - b)) := rfl
@[simp] theorem mulD_int (a b : Int) : mulD (.int a) (.int b) = if fitsMul a b then some (.int (a * b)) else none := rfl
@[simp] theorem fdivD_int (a b : Int) : fdivD (.int a) (.int b) = if fitsDiv b then some (.int (a.fdiv b)) else none := rfl
@[simp] theorem modD_int (a b : Int) : modD (.int a) (.int b) = if b ≠ 0 then some (.int (a.fmod b)) else none := rfl
@[simp] theorem powD_int (a b : Int) : powD (.int a) (.int b) = if fitsPow a b then some (.int (a ^ b.toNat)) else none := rfl
@[simp] theorem ltD_int (a b : Int) : ltD (.int a) (.int b) = some (.bl (decide (a < b))) := rfl
@[simp] theorem leD_int (a b : Int) : leD (.int a) (.int b) = some (.bl (decide (a ≤ b))) := rfl
@[simp] theorem gtD_int (a b : Int) : gtD (.int a) (.int b) = some (.bl (decide (b < a))) := rfl
@[simp] theorem geD_int (a b : Int) : geD (.int a) (.int b) = some (.bl (decide (b ≤ a))) := rfl
@[simp] theorem negD_int (a : Int) : negD (.int a) = some (.int (-a)) := rfl
@[simp] theorem eqD_ap (x y : D) : eqD x y = if (fine x && fine y) = true then some (.bl (x.eqb y)) else none := rfl
@[simp] theorem neD_ap (x y : D) : neD x y = if (fine x && fine y) = true then some (.bl (!x.eqb y)) else none := rfl
@[simp] theorem ixD_lst (l : List D) (a : Int) : ixD (.lst l) (.int a) = atI l a := rfl
@[simp] theorem ixD_tup (l : List D) (a : Int) : ixD (.tup l) (.int a) = atI l a := rfl
@[simp] theorem listAt_ap : listAt env i = match env.getD i .unb with
  | .ml l => some l
  | _ => none := rfl
@[simp] theorem ixO_ap : ixO i da env = if (listAt env i).isSome = true then bindR (da env) fun k env1 => match k with
  | .int k => match listAt env1 i with
    | some l => match atI l k with
      | some d => if isOwn d = true then .bad else .ok d env1
      | none => .bad
    | none => .bad
  | _ => .bad
else .bad := rfl
@[simp] theorem setO_ap : setO i da db env = bindS (da env) fun d env1 => if (listAt env1 i).isSome = true then bindS (db env1) fun k env2 => match k with
  | .int k => match listAt env2 i with
    | some l => match ixN l.length k with
      | some n => .nx (env2.set i (.ml (l.set n d)))
      | none => .bad
    | none => .bad
  | _ => .bad
else .bad := rfl
@[simp] theorem isiD_ap (T : String) : isiD T d = (tyD d).map fun t => .bl (isB t T) := rfl
@[simp] theorem absD_int (a : Int) : absD [.int a] = some (.int (a.natAbs : Int)) := by
  show some (D.int (if a < 0 then -a else a)) = _
  congr 2
  split <;> omega
@[simp] theorem intD_int (a : Int) : intD [.int a] = some (.int a) := rfl
@[simp] theorem intD_bl (b : Bool) : intD [.bl b] = some (.int (if b = true then 1 else 0)) := rfl
@[simp] theorem lenD_lst (l : List D) : lenD [.lst l] = some (.int l.length) := rfl
@[simp] theorem lenD_tup (l : List D) : lenD [.tup l] = some (.int l.length) := rfl
@[simp] theorem tyD_int (a : Int) : tyD (.int a) = some "int" := rfl
@[simp] theorem tyD_tup (l : List D) : tyD (.tup l) = some "tuple" := rfl
@[simp] theorem tyD_lst (l : List D) : tyD (.lst l) = some "list" := rfl
@[simp] theorem isB_same (T : String) : isB T T = true := by simp [isB]
theorem atI_nat {α : Type} (l : List α) (m : Nat) (h : m < l.length) : atI l (m : Int) = l[m]? := by
  unfold atI ixN
  rw [if_pos (by omega), if_pos (by omega)]
  rfl
theorem atI_in {α : Type} {l : List α} {a : Int} (h0 : 0 ≤ a) (h : a < l.length) : ∃ x ∈ l, atI l a = some x := by
  obtain ⟨m, rfl⟩ := Int.eq_ofNat_of_zero_le h0
  have h : m < l.length := by omega
  exact ⟨l[m], List.getElem_mem h, by rw [atI_nat l m h, List.getElem?_eq_getElem h]⟩
@[simp] theorem atI_0 {α : Type} (x : α) (l : List α) : atI (x :: l) 0 = some x := atI_nat (x :: l) 0 (by simp)
@[simp] theorem atI_1 {α : Type} (x0 x : α) (l : List α) : atI (x0 :: x :: l) 1 = some x := atI_nat (x0 :: x :: l) 1 (by simp)
@[simp] theorem atI_2 {α : Type} (x0 x1 x : α) (l : List α) : atI (x0 :: x1 :: x :: l) 2 = some x := atI_nat (x0 :: x1 :: x :: l) 2 (by simp)
@[simp] theorem atI_3 {α : Type} (x0 x1 x2 x : α) (l : List α) : atI (x0 :: x1 :: x2 :: x :: l) 3 = some x := atI_nat (x0 :: x1 :: x2 :: x :: l) 3 (by simp)
theorem ixN_nat {n m : Nat} (h : m < n) : ixN n (m : Int) = some m := by
  unfold ixN
  rw [if_pos (by omega), if_pos (by omega)]
  rfl
@[simp] theorem ixN_0 (n : Nat) : ixN (n + 1) 0 = some 0 := ixN_nat (m := 0) (by omega)
@[simp] theorem ixN_1 (n : Nat) : ixN (n + 2) 1 = some 1 := ixN_nat (m := 1) (by omega)
@[simp] theorem ixN_30 : ixN 3 0 = some 0 := rfl
@[simp] theorem ixN_31 : ixN 3 1 = some 1 := rfl
theorem fitsPow_lit {a b : Int} (h : 0 ≤ b) (h2 : b ≤ 1000000) (h3 : a.natAbs < 18446744073709551616) : fitsPow a b := ⟨h, h2, h3⟩
theorem fitsDiv_lit {b : Int} (h : b ≠ 0) (h2 : b.natAbs < 18446744073709551616) : fitsDiv b := ⟨h, Nat.lt_of_lt_of_le h2 (Nat.pow_le_pow_right (n := 2) (i := 64) (by decide) (by decide))⟩
@[simp] theorem fitsMul_10 (a : Int) (p : Prop) [Decidable p] : fitsMul a (if p then 1 else 0) := .inr (.inl (by split <;> decide))
end
theorem fitsMul_l {a b : Int} (h : a.natAbs < 2 ^ 64) : fitsMul a b := .inl h
theorem fitsMul_r {a b : Int} (h : b.natAbs < 2 ^ 64) : fitsMul a b := .inr (.inl h)
/-- n bits -/
def Sm (n : Nat) (x : Int) : Prop := x.natAbs < 2 ^ n
theorem Sm.mono {n m : Nat} {x : Int} (h : Sm n x) (l : n ≤ m) : Sm m x := Nat.lt_of_lt_of_le h (Nat.pow_le_pow_right (by decide) l)
theorem Sm.add {n : Nat} {x y : Int} (h : Sm n x) (k : Sm n y) : Sm (n + 1) (x + y) := by
  unfold Sm at *
  have := Int.natAbs_add_le x y
  rw [Nat.pow_succ]
  omega
theorem Sm.neg {n : Nat} {x : Int} (h : Sm n x) : Sm n (-x) := by
  unfold Sm at *
  rw [Int.natAbs_neg]
  exact h
theorem Sm.sub {n : Nat} {x y : Int} (h : Sm n x) (k : Sm n y) : Sm (n + 1) (x - y) := by
  rw [Int.sub_eq_add_neg]
  exact h.add k.neg
theorem Sm.mul {n m : Nat} {x y : Int} (h : Sm n x) (k : Sm m y) : Sm (n + m) (x * y) := by
  unfold Sm at *
  rw [Int.natAbs_mul, Nat.pow_add]
  exact Nat.mul_lt_mul'' h k
theorem Sm.le {n : Nat} {x y : Int} (h : Sm n x) (k : y.natAbs ≤ x.natAbs) : Sm n y := Nat.lt_of_le_of_lt k h
theorem Sm.fits {n m : Nat} {x y : Int} (h : Sm n x) (k : Sm m y) (hn : n ≤ 1000000) (hm : m ≤ 1000000) : fitsMul x y := .inr (.inr ⟨h.mono hn, k.mono hm⟩)
theorem Sm.div {n : Nat} {x : Int} (h : Sm n x) (h0 : x ≠ 0) (hn : n ≤ 9000) : fitsDiv x := ⟨h0, h.mono hn⟩
end DL
namespace DL
open PySem PySem.Spec PyProof.Rows L2
/-! ## sources of turns: lists, tuples, texts -/
inductive Src where
  | l (a : Addr)
  | t (a : Addr)
  | s (x : Str)
def Src.val : Src → L2.V
  | .l a => .ref a
  | .t a => .ref a
  | .s x => .str x
def signsV (x : Str) : List V := x.cps.toList.map fun c => .str ⟨#[c]⟩
def Src.Has (K : PySem.W.Frag) (H : Hp) : Src → List L2.V → Prop
  | .l a, xs => SqL K H a xs
  | .t a, xs => SqT K H a xs
  | .s x, xs => xs = signsV x
/-- the iterator's object at it, its i-th turn next -/
def Src.Itr (u : Value) (h : Heap) (it : Addr) (i : Nat) : Src → Prop
  | .l a => h.IsListIter it a i
  | .t a => h.IsTupleIter it a i
  | .s x => ∃ tk, u = .str x tk ∧ h.IsStrIter it (strIterType x) x tk i
def Src.ob (u : Value) : Src → Obj
  | .l a => { cls := .type "list_iterator", data := .fields #[.ref a, .int 0 0] }
  | .t a => { cls := .type "tuple_iterator", data := .fields #[.ref a, .int 0 0] }
  | .s x => { cls := .type (strIterType x), data := .fields #[u, .int 0 0] }
theorem Src.it_at {u : Value} {h h' : Heap} {it : Addr} {i : Nat} : ∀ {c : Src}, c.Itr u h it i → (∀ o, h.get? it = some o → h'.get? it = some o) → c.Itr u h' it i
  | .l a, q, k => q.at k
  | .t a, q, k => q.at k
  | .s x, ⟨tk, e, o, ho, r⟩, k => ⟨tk, e, o, k o ho, r⟩
theorem Src.it_obj {u : Value} {h : Heap} {it : Addr} {i : Nat} : ∀ {c : Src}, c.Itr u h it i → ∃ o, h.get? it = some o ∧ ∀ v, o.data ≠ .cell v
  | .l a, ⟨o, e, _, d⟩ => ⟨o, e, fun v q => by rw [d] at q; cases q⟩
  | .t a, ⟨o, e, _, d⟩ => ⟨o, e, fun v q => by rw [d] at q; cases q⟩
  | .s x, ⟨tk, _, o, e, _, d⟩ => ⟨o, e, fun v q => by rw [d] at q; cases q⟩
theorem Src.it_new {u : Value} {h : Heap} {it : Addr} : ∀ {c : Src}, RelV c.val u → h.get? it = some (c.ob u) → c.Itr u h it 0
  | .l a, _, e => ⟨_, e, rfl, rfl⟩
  | .t a, _, e => ⟨_, e, rfl, rfl⟩
  | .s x, ⟨tk, r⟩, e => by
    subst r
    exact ⟨tk, rfl, _, e, rfl, rfl⟩
/-- what a source holds in the heap -/
def Src.Seq (h : Heap) : Src → List Value → Prop
  | .l a, its => h.IsList a its.toArray
  | .t a, its => h.IsTuple a its.toArray
  | .s x, its => True
theorem Draws.imp {prog : Program} {w : World} {A : Around} {it : Addr} {fp : List Addr} {n : Nat} {P P' : Nat → Value → Prop} {St St' : Nat → Heap → Prop} (D : Draws prog w A it fp n P St) (h : ∀ i v, P i v → P' i v) (e : St = St') : Draws prog w A it fp n P' St' := by
  subst e
  exact ⟨D.live, D.frame, fun i s Q E hi st hQ => D.item i s Q E hi st fun x h' tk p => hQ x h' tk (h i x p), D.done⟩
section
variable {X : Cx} {pins : List (Addr × Obj)} {σ : L2.St} {H : Hp} {s : Shared}
/-- the draws of a source, as the state stands; fp: what must stay -/
theorem Src.draws (I : Inv X pins σ H s) {c : Src} {xs : List V} {u : Value} (r : RelV c.val u) (hc : X.calm = true) (hs : c.Has X.K H xs) (it : Addr) {i : Nat} (hit : c.Itr u s.heap it i) (hn : H it = none) :
    ∃ (fp : List Addr) (St : Nat → Heap → Prop), Draws X.prog X.w X.A.in1 it fp xs.length (fun i v => ∃ x, xs[i]? = some x ∧ RelV x v) St ∧ St i s.heap ∧ (∀ j h, St j h → c.Itr u h it j) ∧ it ∈ fp ∧ (∀ b ∈ fp, b = it ∨ c.val = .ref b ∧ ∃ (o : Obj) (n : Array Value × Nat), s.heap.get? b = some o ∧ o.data = .seq n.1 n.2 ∧ (o.cls = .type "list" ∨ o.cls = .type "tuple")) := by
  have hh : X.A.in1.handled = none := I.ok.hd hc
  have idx : ∀ {its : List Value}, Vals xs its → ∀ i v, its.toArray[i]? = some v → ∃ x, xs[i]? = some x ∧ RelV x v := fun {its} rv (i : Nat) v h => by
    have h : its[i]? = some v := by simpa using h
    rcases Vals.get rv i with ⟨_, h2⟩ | ⟨x, u, h1, h2, h3⟩
    · rw [h2] at h; cases h
    · rw [h2] at h; cases h; exact ⟨x, h1, h3⟩
  cases c with
  | l a =>
    obtain ⟨its, rv, p, _⟩ := I.list hs
    have hp := p.isList
    have ne : a ≠ it := fun z => by
      obtain ⟨o, e, ec, _⟩ := hp
      obtain ⟨o', e', ec', _⟩ := (show s.heap.IsListIter it a i from hit)
      rw [z, e'] at e
      cases e
      rw [ec'] at ec
      exact absurd ec (by simp)
    have hl : its.toArray.size = xs.length := by simp [rv.length]
    refine ⟨[it, a], _, hl ▸ Draws.imp (Draws.list hh it a ne its.toArray) (idx rv) rfl, ⟨hit, hp⟩, fun j h st => st.1, List.mem_cons_self, fun b hb => ?_⟩
    rcases List.mem_cons.mp hb with hb | hb
    · exact .inl hb
    · rw [List.mem_singleton.mp hb]
      obtain ⟨o, e, ec, n, ed⟩ := hp
      exact .inr ⟨rfl, o, (_, n), e, ed, .inl ec⟩
  | t a =>
    obtain ⟨its, rv, p, _⟩ := I.tuple hs
    have hp : s.heap.IsTuple a its.toArray := p
    have ne : a ≠ it := fun z => by
      obtain ⟨o, e, ec, _⟩ := hp
      obtain ⟨o', e', ec', _⟩ := (show s.heap.IsTupleIter it a i from hit)
      rw [z, e'] at e
      cases e
      rw [ec'] at ec
      exact absurd ec (by simp)
    have hl : its.toArray.size = xs.length := by simp [rv.length]
    refine ⟨[it, a], _, hl ▸ Draws.imp (Draws.tuple hh it a ne its.toArray) (idx rv) rfl, ⟨hit, hp⟩, fun j h st => st.1, List.mem_cons_self, fun b hb => ?_⟩
    rcases List.mem_cons.mp hb with hb | hb
    · exact .inl hb
    · rw [List.mem_singleton.mp hb]
      obtain ⟨o, e, ec, n, ed⟩ := hp
      exact .inr ⟨rfl, o, (_, n), e, ed, .inr ec⟩
  | s x =>
    obtain ⟨tk, eu, hi⟩ := hit
    have hs : xs = signsV x := hs
    have hl : x.cps.size = xs.length := by rw [hs]; unfold signsV; simp
    refine ⟨[it], _, hl ▸ Draws.imp (Draws.text hh it x tk) (fun i v hv => ?_) rfl, hi, fun j h st => ⟨tk, eu, st⟩, List.mem_cons_self, fun b hb => .inl (List.mem_singleton.mp hb)⟩
    obtain ⟨z, tk2, h1, h2⟩ := hv
    have h1 : x.cps.toList[i]? = some z := by simpa using h1
    refine ⟨.str ⟨#[z]⟩, ?_, tk2, h2⟩
    rw [hs]
    unfold signsV
    rw [List.getElem?_map, h1]
    rfl
theorem Src.inj (I : Inv X pins σ H s) : ∀ {c : Src} {xs ys : List V}, c.Has X.K H xs → c.Has X.K H ys → xs = ys
  | .l a, _, _, h, k => I.list_inj h k
  | .t a, _, _, h, k => I.tuple_inj h k
  | .s x, _, _, h, k => by
    exact (show _ = signsV x from h).trans (show _ = signsV x from k).symm
theorem Src.begins (I : Inv X pins σ H s) {c : Src} {xs : List V} {u : Value} (r : RelV c.val u) (hs : c.Has X.K H xs) : ∃ Hh : Heap → Prop, Begins u (c.ob u) Hh ∧ Hh s.heap := by
  cases c with
  | l a =>
    obtain ⟨its, rv, p, _⟩ := I.list hs
    cases (show u = Value.ref a from r)
    exact ⟨_, begins_list a its.toArray, p.isList⟩
  | t a =>
    obtain ⟨its, rv, p, _⟩ := I.tuple hs
    cases (show u = Value.ref a from r)
    exact ⟨_, begins_tuple a its.toArray, p⟩
  | s x =>
    obtain ⟨tk, e⟩ := (show ∃ t, u = Value.str x t from r)
    subst e
    exact ⟨_, begins_text x tk, trivial⟩
end
/-! ### enumerate of any source -/
def ItE (K : PySem.W.Frag) (c : Src) : It :=
  ⟨fun i H => ∃ xs, c.Has K H xs ∧ i < xs.length, fun i H v H' => ∃ T x, v = .ref T ∧ H T = none ∧ H' = upd H T (.tup [.int (i : Nat), x]) ∧ ∀ xs, c.Has K H xs → xs[i]? = some x, fun i H => ∃ xs : List V, c.Has K H xs ∧ xs.length = i⟩
theorem turnE {P : Program} {w : World} {K : PySem.W.Frag} {elts : List Expr} {kk : Nat} {tpos : Pos} {c : Src} {u : Value} (r : RelV c.val u) (e it : Addr) :
    Turn P w K (.Tuple elts kk tpos) (ItE K c) [e, it] e (fun i h => (∃ old, IsEnum h e it ((i : Nat) : Int) old) ∧ c.Itr u h it i ∧ e ≠ it) where
  mem := by simp
  obj := fun i h ⟨⟨old, he⟩, hi, _⟩ b hb => by
    rcases (by simpa using hb : b = e ∨ b = it) with rfl | rfl
    · exact ⟨_, he, fun v q => nomatch q⟩
    · exact Src.it_obj hi
  keep := fun i h h' ⟨⟨old, he⟩, hi, hne⟩ k => ⟨⟨old, k e (by simp) _ he⟩, Src.it_at hi fun o q => k it (by simp) o q, hne⟩
  item := by
    intro X hP hw hK hc i pins s σ H E I hf ⟨⟨old, he⟩, hit, hne⟩ ⟨xs, hs, hi⟩
    subst hP hw hK
    obtain ⟨fp, St, D, st, toIt, hm, hfp⟩ := Src.draws I r hc hs it hit (hf it (by simp)).1
    have hef : e ∉ fp := fun z => by
      rcases hfp e z with q | ⟨_, o, n, e1, _, e2⟩
      · exact hne q
      · rw [show s.heap.get? e = some _ from he] at e1
        cases e1
        rcases e2 with e2 | e2 <;> exact absurd e2 (by simp)
    have hel : e < s.heap.objs.size := Heap.lt_size he
    have hil : it < s.heap.objs.size := by
      obtain ⟨_, q, _⟩ := Src.it_obj hit
      exact Heap.lt_size q
    refine wpAny_pyNext_enum_itemD D he st hi hne hef fun y h' tk ⟨x, hx, ru⟩ ho st' hT hsz hk => ?_
    refine ⟨_, rfl, wpAny_letOwnedTupleGo_enum (s := { s with heap := h', toks := tk + 1 }) ho fun h2 he2 sb => ?_⟩
    have hT2 : h2.get? s.heap.objs.size = some { cls := .type "tuple", data := .seq #[.int i tk, y] } := (sb.2 _ (Nat.ne_of_gt hel)).trans hT
    have new : ObjOk X.prog X.w (upd H s.heap.objs.size (.tup [.int (i : Nat), x])) h2 s.heap.objs.size (.tup [.int (i : Nat), x]) := ⟨le_line (by show 2 ≤ 1000; omega), [.int i tk, y], .cons ⟨_, rfl⟩ (.cons ru .nil), ⟨_, hT2, rfl, _, rfl⟩⟩
    have I1 : Inv X pins σ (upd H s.heap.objs.size (.tup [.int (i : Nat), x])) { s with heap := h2, toks := tk + 1 } :=
      I.turnedNew (ch := [e, it]) (fun b ob hb q => by
        simp only [List.mem_cons, List.not_mem_nil, or_false, not_or] at hb
        exact (sb.2 b hb.1).trans (hk b ob hb.1 hb.2 q)) hf (Nat.le_refl _) new
    refine ⟨.ref s.heap.objs.size, _, I1, rfl, ⟨_, x, rfl, I.hok.fresh (Nat.le_refl _), rfl, fun ys hy => by rw [Src.inj I hy hs]; exact hx⟩, ⟨⟨y, by rw [Int.natCast_succ]; exact he2⟩, Src.it_at (toIt _ _ st') fun o q => (sb.2 it (Ne.symm hne)).trans q, hne⟩, fun b hb => ?_⟩
    have hlt : b < s.heap.objs.size := by
      rcases (by simpa using hb : b = e ∨ b = it) with q | q
      · rw [q]; exact hel
      · rw [q]; exact hil
    rw [upd_ne (Nat.ne_of_lt hlt)]
    exact (hf b hb).1
  done := by
    intro X hP hw hK hc i pins s σ H E I hf ⟨⟨old, he⟩, hit, hne⟩ ⟨xs, hs, hl⟩
    subst hP hw hK
    obtain ⟨fp, St, D, st, toIt, hm, hfp⟩ := Src.draws I r hc hs it hit (hf it (by simp)).1
    obtain ⟨f0, f1, f2, f3, f4, f5⟩ := hf it (by simp)
    exact wpAny_pyNext_enum_endD D he (by rw [hl]; exact st) fun h' eb => ⟨rfl, I.turned (t' := s.toks) (fun b o hb q => eb b o hb q) f0 f1 f3 f4 f5⟩
  self := fun A i s Q E ⟨⟨_, he⟩, _⟩ h => wpAny_pyIter_enum he h
theorem meets_enum1 {v : Value} {o : Obj} {H : Heap → Prop} (B : Begins v o H) :
    Meets (Builtin.«enumerate.__new__» ⟨[.type "enumerate", v], []⟩) (fun _ R s => H s.heap ∧ R (.ok (.ret (.ref (s.heap.push o).objs.size))) { s with heap := (s.heap.push o).push { cls := .type "enumerate", data := .fields #[.none, .bool false, .ref s.heap.objs.size, rawInt 0, .none, .none] } }) :=
  .of_wp fun prog w A R s h => by
    obtain ⟨hp, g, d, tk, os⟩ := s
    obtain ⟨h1, h⟩ := h
    have hsub := sub_enumerate
    have q1 : ∀ {A' : Around} {E Q : Value → Shared → Prop}, Q (.ref hp.objs.size) ⟨hp.push o, g, d, tk, os⟩ → wpAny (model prog w) A' (pyIter v) Q E ⟨hp, g, d, tk, os⟩ := fun q => B.iter prog w _ _ ⟨hp, g, d, tk, os⟩ _ h1 q
    wp_walk using q1
    refine wpAny_stack_any fun st => wpAny_pure ?_
    split
    · rename_i c _ _ _ _ _
      cases (c == Value.type "enumerate")
      · wp_walk using q1
        exact ⟨_, rfl, h⟩
      · wp_walk using q1
        exact ⟨_, rfl, h⟩
    · wp_walk using q1
      exact ⟨_, rfl, h⟩
end DL
namespace DL
open PySem PySem.Spec PyProof.Rows L2
/-! ### zip of any two sources -/
def ItZ (K : PySem.W.Frag) (c1 c2 : Src) : It :=
  ⟨fun i H => ∃ xs ys, c1.Has K H xs ∧ c2.Has K H ys ∧ i < xs.length ∧ i < ys.length, fun i H v H' => ∃ T x y, v = .ref T ∧ H T = none ∧ H' = upd H T (.tup [x, y]) ∧ (∀ xs, c1.Has K H xs → xs[i]? = some x) ∧ ∀ ys, c2.Has K H ys → ys[i]? = some y,
    fun i H => ∃ xs ys : List V, c1.Has K H xs ∧ c2.Has K H ys ∧ i ≤ xs.length ∧ i ≤ ys.length ∧ (i = xs.length ∨ i = ys.length)⟩
theorem zip_sep {s : Shared} {c1 c2 : Src} {u1 u2 : Value} {i : Nat} {z TI TO i1 i2 : Addr} (nd : [z, TI, TO, i1, i2].Nodup) {x0 y0 : Value} {fp1 fp2 : List Addr} (hz : IsZip s.heap z TI TO .none) (hTO : IsTupOf2 s.heap TO x0 y0) (h1 : c1.Itr u1 s.heap i1 i) (h2 : c2.Itr u2 s.heap i2 i)
    (m1 : i1 ∈ fp1) (q1 : ∀ b ∈ fp1, b = i1 ∨ c1.val = .ref b ∧ ∃ (o : Obj) (n : Array Value × Nat), s.heap.get? b = some o ∧ o.data = .seq n.1 n.2 ∧ (o.cls = .type "list" ∨ o.cls = .type "tuple")) (m2 : i2 ∈ fp2)
    (q2 : ∀ b ∈ fp2, b = i2 ∨ c2.val = .ref b ∧ ∃ (o : Obj) (n : Array Value × Nat), s.heap.get? b = some o ∧ o.data = .seq n.1 n.2 ∧ (o.cls = .type "list" ∨ o.cls = .type "tuple")) (t1 : c1.val ≠ .ref TO) (t2 : c2.val ≠ .ref TO) : ZipSep2 z TI TO i1 i2 fp1 fp2 := by
  have it_no : ∀ {c : Src} {u : Value} {b : Addr} {o : Obj} {n : Array Value × Nat}, c.Itr u s.heap b i → s.heap.get? b = some o → o.data = .seq n.1 n.2 → False := fun {c u b o n} hi e d => by
    cases c with
    | l a =>
      obtain ⟨o', e', _, d'⟩ := hi
      rw [e'] at e
      cases e
      rw [d'] at d
      cases d
    | t a =>
      obtain ⟨o', e', _, d'⟩ := hi
      rw [e'] at e
      cases e
      rw [d'] at d
      cases d
    | s x =>
      obtain ⟨_, _, o', e', _, d'⟩ := hi
      rw [e'] at e
      cases e
      rw [d'] at d
      cases d
  have z_no : ∀ {fp : List Addr} {j : Addr} {c : Src}, z ≠ j → (∀ b ∈ fp, b = j ∨ c.val = .ref b ∧ ∃ (o : Obj) (n : Array Value × Nat), s.heap.get? b = some o ∧ o.data = .seq n.1 n.2 ∧ (o.cls = .type "list" ∨ o.cls = .type "tuple")) → z ∉ fp := fun {fp j c} ne q hm => by
    rcases q z hm with e | ⟨_, o, n, e, d, _⟩
    · exact ne e
    · rw [show s.heap.get? z = some _ from hz] at e
      cases e
      cases d
  simp only [List.nodup_cons, List.mem_cons, List.not_mem_nil, or_false, not_or, not_false_eq_true, List.nodup_nil, and_true] at nd
  obtain ⟨⟨a1, a2, a3, a4⟩, ⟨b1, b2, b3⟩, ⟨c1', c2'⟩, d1⟩ := nd
  exact ⟨Ne.symm a1, Ne.symm a2, b1, b2, m1, z_no a3 q1, fun hm => (q1 TO hm).elim c1' fun q => t1 q.1, b3, m2, z_no a4 q2, fun hm => (q2 TO hm).elim c2' fun q => t2 q.1, fun hm => by
    rcases q2 i1 hm with e | ⟨_, o, n, e, d, _⟩
    · exact d1 e
    · exact it_no h1 e d, fun hm => by
    rcases q1 i2 hm with e | ⟨_, o, n, e, d, _⟩
    · exact d1 e.symm
    · exact it_no h2 e d⟩
theorem turnZ {P : Program} {w : World} {K : PySem.W.Frag} {elts : List Expr} {kk : Nat} {tpos : Pos} {c1 c2 : Src} {u1 u2 : Value} (r1 : RelV c1.val u1) (r2 : RelV c2.val u2) {z TI TO i1 i2 : Addr} (nd : [z, TI, TO, i1, i2].Nodup) (a1 : c1.val ≠ .ref TO) (a2 : c2.val ≠ .ref TO) :
    Turn P w K (.Tuple elts kk tpos) (ItZ K c1 c2) [z, TI, TO, i1, i2] z (fun i h => IsZip h z TI TO .none ∧ IsTupOf2 h TI (.ref i1) (.ref i2) ∧ (∃ x y, IsTupOf2 h TO x y) ∧ c1.Itr u1 h i1 i ∧ c2.Itr u2 h i2 i) where
  mem := by simp
  obj := fun i h ⟨hz, hTI, ⟨x, y, hTO⟩, h1, h2⟩ c hc => by
    rcases (by simpa using hc : c = z ∨ c = TI ∨ c = TO ∨ c = i1 ∨ c = i2) with rfl | rfl | rfl | rfl | rfl
    · exact ⟨_, hz, fun v q => nomatch q⟩
    · exact ⟨_, hTI, fun v q => nomatch q⟩
    · exact ⟨_, hTO, fun v q => nomatch q⟩
    · exact Src.it_obj h1
    · exact Src.it_obj h2
  keep := fun i h h' ⟨hz, hTI, ⟨x, y, hTO⟩, h1, h2⟩ k => ⟨k z (by simp) _ hz, k TI (by simp) _ hTI, ⟨x, y, k TO (by simp) _ hTO⟩, Src.it_at h1 fun o q => k i1 (by simp) o q, Src.it_at h2 fun o q => k i2 (by simp) o q⟩
  item := by
    intro X hP hw hK hc i pins s σ H E I hf ⟨hz, hTI, ⟨x0, y0, hTO⟩, h1, h2⟩ ⟨xs, ys, hs1, hs2, l1, l2⟩
    subst hP hw hK
    have fr : ∀ b ∈ [z, TI, TO, i1, i2], H b = none := fun b hb => (hf b hb).1
    obtain ⟨fp1, St1, D1, st1, to1, m1, q1⟩ := Src.draws I r1 hc hs1 i1 h1 (fr i1 (by simp))
    obtain ⟨fp2, St2, D2, st2, to2, m2, q2⟩ := Src.draws I r2 hc hs2 i2 h2 (fr i2 (by simp))
    have hzl : z < s.heap.objs.size := Heap.lt_size hz
    have S := zip_sep nd hz hTO h1 h2 m1 q1 m2 q2 a1 a2
    refine wpAny_pyNext_zipD2_item S D1 D2 hz hTI hTO st1 st2 l1 l2 fun a b h' tk ⟨x, hx, rx⟩ ⟨y, hy, ry⟩ z' TO' t1 t2 hT hsz hk => ?_
    refine ⟨_, rfl, wpAny_letOwnedTupleGo_zip (s := { s with heap := h', toks := tk }) z' fun h2' z2 sb => ?_⟩
    have hT2 : h2'.get? s.heap.objs.size = some { cls := .type "tuple", data := .seq #[a, b] } := (sb.2 _ (Nat.ne_of_gt hzl)).trans hT
    have new : ObjOk X.prog X.w (upd H s.heap.objs.size (.tup [x, y])) h2' s.heap.objs.size (.tup [x, y]) := ⟨le_line (by show 2 ≤ 1000; omega), [a, b], .cons rx (.cons ry .nil), ⟨_, hT2, rfl, _, rfl⟩⟩
    have I1 : Inv X pins σ (upd H s.heap.objs.size (.tup [x, y])) { s with heap := h2', toks := tk } := I.turnedNew (ch := [z, TI, TO, i1, i2]) (fun c o hb q => by
      simp only [List.mem_cons, List.not_mem_nil, or_false, not_or] at hb
      exact (sb.2 c hb.1).trans (hk c o hb.1 hb.2.2.1 hb.2.2.2.1 hb.2.2.2.2 q)) hf (Nat.le_refl _) new
    refine ⟨.ref s.heap.objs.size, _, I1, rfl, ⟨_, x, y, rfl, I.hok.fresh (Nat.le_refl _), rfl, fun l hl => by rw [Src.inj I hl hs1]; exact hx, fun l hl => by rw [Src.inj I hl hs2]; exact hy⟩, ⟨z2, ?_, ⟨a, b, ?_⟩, ?_, ?_⟩, fun c hcm => ?_⟩
    · exact (sb.2 _ S.TIz).trans (hk _ _ S.TIz S.TITO S.TIi1 S.TIi2 hTI)
    · exact (sb.2 _ S.TOz).trans TO'
    · exact Src.it_at (to1 _ _ t1) fun o q => (sb.2 _ (Ne.symm S.zi1)).trans q
    · exact Src.it_at (to2 _ _ t2) fun o q => (sb.2 _ (Ne.symm S.zi2)).trans q
    · have hlt : c < s.heap.objs.size := by
        rcases (by simpa using hcm : c = z ∨ c = TI ∨ c = TO ∨ c = i1 ∨ c = i2) with q | q | q | q | q
        · rw [q]; exact hzl
        · rw [q]; exact Heap.lt_size hTI
        · rw [q]; exact Heap.lt_size hTO
        · rw [q]; obtain ⟨_, e1, _⟩ := Src.it_obj h1; exact Heap.lt_size e1
        · rw [q]; obtain ⟨_, e2, _⟩ := Src.it_obj h2; exact Heap.lt_size e2
      rw [upd_ne (Nat.ne_of_lt hlt)]
      exact fr c hcm
  done := by
    intro X hP hw hK hc i pins s σ H E I hf ⟨hz, hTI, ⟨x0, y0, hTO⟩, h1, h2⟩ ⟨xs, ys, hs1, hs2, l1, l2, hend⟩
    subst hP hw hK
    have fr : ∀ b ∈ [z, TI, TO, i1, i2], H b = none := fun b hb => (hf b hb).1
    obtain ⟨fp1, St1, D1, st1, to1, m1, q1⟩ := Src.draws I r1 hc hs1 i1 h1 (fr i1 (by simp))
    obtain ⟨fp2, St2, D2, st2, to2, m2, q2⟩ := Src.draws I r2 hc hs2 i2 h2 (fr i2 (by simp))
    exact wpAny_pyNext_zipD2_end (zip_sep nd hz hTO h1 h2 m1 q1 m2 q2 a1 a2) D1 D2 hz hTI hTO st1 st2 l1 l2 hend fun h' tk hk => ⟨rfl, I.turnedL (t' := tk) (ch := [z, TI, TO, i1, i2]) (fun c o hb q => by
      simp only [List.mem_cons, List.not_mem_nil, or_false, not_or] at hb
      exact hk c o hb.1 hb.2.2.1 hb.2.2.2.1 hb.2.2.2.2 q) hf⟩
  self := fun A i s Q E st h => wpAny_pyIter_zip st.1 h
/-! ### what a for and a comprehension may walk -/
section
variable {X : Cx}
def ItS (K : PySem.W.Frag) : Src → It
  | .l a => Itl K a
  | .t a => Itt K a
  | .s x => Its x
def iSrc (K : PySem.W.Frag) (te : TE) : TI := fun σ H R => te σ H fun v H1 => ∃ (c : Src) (xs : List V), v = c.val ∧ c.Has K H1 xs ∧ R (ItS K c) H1
theorem pi_src {tg e : Expr} {te : TE} (he : PE X e te) : PI X tg e (iSrc X.K te) := by
  refine ⟨fun pins s σ H R I h => thn (he.run pins s σ H _ I h) fun u s1 ⟨v, H1, I1, r, c, xs, ev, hs, q⟩ => ?_⟩
  subst ev
  cases c with
  | l a =>
    obtain ⟨its, rv, p, _⟩ := I1.list hs
    cases (show u = Value.ref a from r)
    exact wpAny_pyIter_list p.isList (pi_one (tk := s1.toks) I1 _ (turn_list a _) ⟨_, Heap.get?_push_size _ rfl, rfl, rfl⟩ q)
  | t a =>
    obtain ⟨its, rv, p, _⟩ := I1.tuple hs
    cases (show u = Value.ref a from r)
    exact wpAny_pyIter_tuple p (pi_one (tk := s1.toks) I1 _ (turn_tuple a _) ⟨_, Heap.get?_push_size _ rfl, rfl, rfl⟩ q)
  | s x =>
    obtain ⟨t, e⟩ := (show ∃ t, u = Value.str x t from r)
    subst e
    refine wpAny_pyIter_strU (pi_one (tk := s1.toks) I1 _ (turn_str _ x t (strIterType x) ?_) ⟨_, Heap.get?_push_size _ rfl, rfl, rfl⟩ q)
    unfold strIterType
    split
    · exact .inl rfl
    · exact .inr rfl
/-- enumerate(e) -/
def iEnumS (K : PySem.W.Frag) (ta : TA) : TI := fun σ H R => ta σ H fun vs H1 => ∃ (c : Src) (xs : List V), vs = [c.val] ∧ c.Has K H1 xs ∧ R (ItE K c) H1
theorem pi_enumS {e : Expr} {ta : TA} {p pos tpos : Pos} {elts : List Expr} {kk : Nat} (hg : Gl X "enumerate") (hm : X.mg "enumerate" = none) (ha : PA X [e] ta) (hs : starEach [e] X.env = [(false, eval e X.env)]) :
    PI X (.Tuple elts kk tpos) (.Call (.Name "enumerate" p) [e] [] pos) (iEnumS X.K ta) := by
  refine ⟨fun pins s σ H R I h => Call_ (ld_blt I hg hm boot_enumerate (PyProof.Rows.callWith_type1 (thn (ha.run pos pins s σ H _ I h) fun us s1 ⟨vs, H1, I1, r1, c, xs, ex, hq, q⟩ => ?_) hs rfl))⟩
  subst ex
  cases r1 with
  | @cons _ u _ _ r rr =>
    cases rr
    obtain ⟨Hh, B, b0⟩ := Src.begins I1 r hq
    refine callType_new F.called_enumerate (by decide) (F.typeCall_enumerate_1 _) (F.newCall_enumerate_1 _) (fun obj => F.args_object_init_2 obj _) F.entry_enumerate_new (meets_enum1 B) ⟨b0, ?_⟩
    have hz : (s1.heap.push (c.ob u)).objs.size = s1.heap.objs.size + 1 := Heap.size_push ..
    have he := Heap.get?_push_size (s1.heap.push (c.ob u)) (o := { cls := .type "enumerate", data := .fields #[.none, .bool false, .ref s1.heap.objs.size, rawInt 0, .none, .none] }) rfl
    have hi : ((s1.heap.push (c.ob u)).push { cls := .type "enumerate", data := .fields #[.none, .bool false, .ref s1.heap.objs.size, rawInt 0, .none, .none] }).get? s1.heap.objs.size = some (c.ob u) := Heap.get?_push_of_some _ (Heap.get?_push_size _ B.free)
    rw [hz] at he
    show _ ∧ _
    rw [hz]
    refine ⟨⟨_, he, rfl⟩, wpAny_pyIter_enum (s := { s1 with heap := (s1.heap.push (c.ob u)).push { cls := .type "enumerate", data := .fields #[.none, .bool false, .ref s1.heap.objs.size, rawInt 0, .none, .none] } }) (old := .none) (i := 0) (it := s1.heap.objs.size) he ?_⟩
    refine ⟨s1.heap.objs.size + 1, [s1.heap.objs.size + 1, s1.heap.objs.size], _, _, H1, rfl, I1.kept (t' := s1.toks) fun b o q => Heap.get?_push_of_some _ (Heap.get?_push_of_some _ q), turnE r (s1.heap.objs.size + 1) s1.heap.objs.size, ⟨⟨.none, he⟩, Src.it_new r hi, Nat.succ_ne_self _⟩, fun b hb => ?_, q⟩
    have hle : s1.heap.objs.size ≤ b := by
      rcases (by simpa using hb : b = s1.heap.objs.size + 1 ∨ b = s1.heap.objs.size) with z | z
      · rw [z]; exact Nat.le_add_right _ _
      · rw [z]; exact Nat.le_refl _
    exact I1.fpOk hle (I1.hok.fresh hle)
/-- zip(e, e2) -/
def iZipS (K : PySem.W.Frag) (ta : TA) : TI := fun σ H R => ta σ H fun vs H1 => ∃ (c1 c2 : Src) (xs ys : List V), vs = [c1.val, c2.val] ∧ c1.Has K H1 xs ∧ c2.Has K H1 ys ∧ R (ItZ K c1 c2) H1
theorem Src.lt {pins : List (Addr × Obj)} {σ : L2.St} {H : Hp} {s : Shared} (I : Inv X pins σ H s) {c : Src} {xs : List V} (hs : c.Has X.K H xs) {a : Addr} (e : c.val = .ref a) : a < s.heap.objs.size := by
  cases c with
  | l b =>
    cases e
    obtain ⟨its, rv, p, _⟩ := I.list hs
    exact p.lt
  | t b =>
    cases e
    obtain ⟨its, rv, p, _⟩ := I.tuple hs
    obtain ⟨o, eo, _⟩ := (show s.heap.IsTuple a its.toArray from p)
    exact Heap.lt_size eo
  | s x => cases e
theorem pi_zipS {e e2 : Expr} {ta : TA} {p pos tpos : Pos} {elts : List Expr} {kk : Nat} (hg : Gl X "zip") (hm : X.mg "zip" = none) (ha : PA X [e, e2] ta) (hs : starEach [e, e2] X.env = (false, eval e X.env) :: starEach [e2] X.env) (hpl : (backTo pos (starEach [e2] X.env)).any (·.1) = false) :
    PI X (.Tuple elts kk tpos) (.Call (.Name "zip" p) [e, e2] [] pos) (iZipS X.K ta) := by
  refine ⟨fun pins s σ H R I h => Call_ (ld_blt I hg hm PyProof.Rows.boot_zip (PyProof.Rows.callWith_type1 (thn (ha.run pos pins s σ H _ I h) fun us s1 ⟨vs, H1, I1, r1, c1, c2, xs, ys, ex, q1, q2, q⟩ => ?_) hs hpl))⟩
  subst ex
  cases r1 with
  | @cons _ u1 _ _ r rr =>
    cases rr with
    | @cons _ u2 _ _ r' rr =>
      cases rr
      obtain ⟨Hh1, B1, b1⟩ := Src.begins I1 r q1
      obtain ⟨Hh2, B2, b2⟩ := Src.begins I1 r' q2
      refine zip_begins2 B1 B2 b1 b2 fun h' hz hTI hTO g1 g2 hsz hk => wpAny_pyIter_zip hz ?_
      have I2 : Inv X pins σ H1 { s1 with heap := h' } := I1.kept (t' := s1.toks) hk
      have nd : [s1.heap.objs.size + 4, s1.heap.objs.size + 2, s1.heap.objs.size + 3, s1.heap.objs.size, s1.heap.objs.size + 1].Nodup := by
        simp only [List.nodup_cons, List.mem_cons, List.not_mem_nil, or_false, not_or, not_false_eq_true, List.nodup_nil, and_true]
        omega
      refine ⟨s1.heap.objs.size + 4, [s1.heap.objs.size + 4, s1.heap.objs.size + 2, s1.heap.objs.size + 3, s1.heap.objs.size, s1.heap.objs.size + 1], _, _, H1, rfl, I2, turnZ r r' nd (fun e => absurd (Src.lt I1 q1 e) (Nat.not_lt.mpr (Nat.le_add_right _ _))) (fun e => absurd (Src.lt I1 q2 e) (Nat.not_lt.mpr (Nat.le_add_right _ _))), ⟨hz, hTI, ⟨_, _, hTO⟩, Src.it_new r g1, Src.it_new r' g2⟩, fun c hcm => ?_, q⟩
      have hle : s1.heap.objs.size ≤ c := by
        rcases (by simpa using hcm : c = s1.heap.objs.size + 4 ∨ c = s1.heap.objs.size + 2 ∨ c = s1.heap.objs.size + 3 ∨ c = s1.heap.objs.size ∨ c = s1.heap.objs.size + 1) with z | z | z | z | z
        all_goals rw [z]
        all_goals first | exact Nat.le_refl _ | exact Nat.le_add_right _ _
      exact I1.fpOk hle (I1.hok.fresh hle)
end
/-! ### .. on deep values -/
def signsD (x : Str) : List D := x.cps.toList.map fun c => .str ⟨#[c]⟩
def srcOf : D → Option (List D)
  | .lst l => some l
  | .tup l => some l
  | .str x => some (signsD x)
  | _ => none
theorem Src.mono {K : PySem.W.Frag} {H H' : Hp} (e : Ex H H') : ∀ {c : Src} {xs : List L2.V}, c.Has K H xs → c.Has K H' xs
  | .l _, _, h => ex_l e h
  | .t _, _, h => ex_t e h
  | .s _, _, h => h
theorem rp_signs {M : Mo} {F : Hp} (x : Str) : RpL M F (signsD x) (signsV x) := by
  unfold signsD signsV
  generalize x.cps.toList = l
  induction l with
  | nil => exact .nil
  | cons c r ih => exact .cons (.str _) ih
theorem Rp.src {M : Mo} {F : Hp} {d : D} {v : L2.V} {l : List D} (h : Rp M F d v) (e : srcOf d = some l) : ∃ (c : Src) (xs : List L2.V), v = c.val ∧ c.Has M.K F xs ∧ RpL M F l xs := by
  cases h with
  | lst h q => cases e; exact ⟨.l _, _, rfl, h, q⟩
  | tup h q => cases e; exact ⟨.t _, _, rfl, h, q⟩
  | str x => cases e; exact ⟨.s x, _, rfl, rfl, rp_signs x⟩
  | _ => cases e
def itS (da : List D → R D) : List D → R (List D) := fun env => bindR (da env) fun d env1 => match srcOf d with
  | some l => .ok l env1
  | none => .bad
def enumL (k : Nat) : List D → List D
  | [] => []
  | d :: r => .tup [.int k, d] :: enumL (k + 1) r
def enumD (da : List D → R D) : List D → R (List D) := fun env => bindR (da env) fun d env1 => match srcOf d with
  | some l => .ok (enumL 0 l) env1
  | none => .bad
def zipL : List D → List D → List D
  | d :: r, e :: t => .tup [d, e] :: zipL r t
  | _, _ => []
def zipD (da db : List D → R D) : List D → R (List D) := fun env => bindR (da env) fun d env1 => bindR (db env1) fun e env2 => match srcOf d, srcOf e with
  | some l, some m => .ok (zipL l m) env2
  | _, _ => .bad
def rangeL (lo : Int) : Nat → List D
  | 0 => []
  | n + 1 => .int lo :: rangeL (lo + 1) n
def range1D (da : List D → R D) : List D → R (List D) := fun env => bindR (da env) fun d env1 => match d with
  | .int j => if -(2 ^ 62) ≤ j ∧ j < 2 ^ 62 then .ok (rangeL 0 j.toNat) env1 else .bad
  | _ => .bad
def range2D (da db : List D → R D) : List D → R (List D) := fun env => bindR (da env) fun d env1 => bindR (db env1) fun e env2 => match d, e with
  | .int i, .int j => if (-(2 ^ 62) ≤ i ∧ i < 2 ^ 62) ∧ -(2 ^ 62) ≤ j ∧ j < 2 ^ 62 then .ok (rangeL i (j - i).toNat) env2 else .bad
  | _, _ => .bad
theorem enumL_len : ∀ (k : Nat) (l : List D), (enumL k l).length = l.length
  | _, [] => rfl
  | k, _ :: r => congrArg (· + 1) (enumL_len (k + 1) r)
theorem enumL_get : ∀ {k : Nat} {l : List D} {i : Nat} {d : D}, l[i]? = some d → (enumL k l)[i]? = some (.tup [.int (k + i : Nat), d])
  | _, [], _, _, h => by simp at h
  | k, x :: r, 0, d, h => by
    simp at h
    subst h
    rfl
  | k, x :: r, i + 1, d, h => by
    have := enumL_get (k := k + 1) (l := r) (i := i) (by simpa using h)
    unfold enumL
    rw [List.getElem?_cons_succ, this]
    congr 3
    congr 1
    omega
theorem zipL_len : ∀ (l m : List D), (zipL l m).length = min l.length m.length
  | [], _ => by simp [zipL]
  | _ :: _, [] => by simp [zipL]
  | _ :: r, _ :: t => by
    unfold zipL
    simp only [List.length_cons, zipL_len r t]
    omega
theorem zipL_get : ∀ {l m : List D} {i : Nat} {d e : D}, l[i]? = some d → m[i]? = some e → (zipL l m)[i]? = some (.tup [d, e])
  | [], _, _, _, _, h, _ => by simp at h
  | _ :: _, [], _, _, _, _, h => by simp at h
  | x :: r, y :: t, 0, d, e, h, k => by
    simp at h k
    subst h k
    rfl
  | x :: r, y :: t, i + 1, d, e, h, k => by
    unfold zipL
    rw [List.getElem?_cons_succ]
    exact zipL_get (by simpa using h) (by simpa using k)
theorem rangeL_len : ∀ (lo : Int) (n : Nat), (rangeL lo n).length = n
  | _, 0 => rfl
  | lo, n + 1 => congrArg (· + 1) (rangeL_len (lo + 1) n)
theorem rangeL_get : ∀ {lo : Int} {n i : Nat}, i < n → (rangeL lo n)[i]? = some (.int (lo + i))
  | _, 0, _, h => by omega
  | lo, n + 1, 0, _ => by
    unfold rangeL
    simp
  | lo, n + 1, i + 1, h => by
    unfold rangeL
    rw [List.getElem?_cons_succ, rangeL_get (by omega)]
    congr 2
    omega
section
variable {X : Cx} {j : J} {tg e e2 : Expr} {da db : List D → R D} {p pos tpos : Pos} {elts : List Expr} {kk : Nat}
theorem its_ok {M : Mo} {F : Hp} {c : Src} {xs : List L2.V} {ds : List D} (h : c.Has M.K F xs) (p : RpL M F ds xs) : ItOk M (ItS M.K c) F ds := by
  cases c with
  | l a => exact itl_ok h p
  | t a =>
    intro i F1 H x1 x2
    have hl := p.length
    have hS : SqT M.K H a xs := ex_t x2 (ex_t x1 h)
    refine ⟨fun hi => ?_, fun hi => ⟨xs, hS, by omega⟩⟩
    have h1 : i < xs.length := by omega
    refine ⟨⟨xs, xs[i], hS, List.getElem?_eq_getElem h1⟩, fun x H' ⟨e, y⟩ => ?_⟩
    obtain ⟨v, h2, h3⟩ := p.get (List.getElem?_eq_getElem hi)
    have h4 := y xs hS
    rw [h2] at h4
    cases h4
    exact ⟨F1, ds[i], List.getElem?_eq_getElem hi, by rw [e]; exact Grow.refl x2, h3.mono x1⟩
  | s x =>
    intro i F1 H x1 x2
    have hx : xs = signsV x := h
    have hl := p.length
    have hz : xs.length = x.cps.size := by rw [hx]; unfold signsV; simp
    refine ⟨fun hi => ⟨by show i < x.cps.size; omega, fun y H' ⟨e, c, h1, h2⟩ => ?_⟩, fun hi => by show x.cps.size ≤ i; omega⟩
    obtain ⟨v, h3, h4⟩ := p.get (List.getElem?_eq_getElem hi)
    have h5 : xs[i]? = some (.str ⟨#[c]⟩) := by
      rw [hx]
      unfold signsV
      rw [List.getElem?_map]
      have h1 : x.cps.toList[i]? = some c := by simpa using h1
      rw [h1]
      rfl
    rw [h5] at h3
    cases h3
    exact ⟨F1, ds[i], List.getElem?_eq_getElem hi, by rw [e]; exact Grow.refl x2, by rw [h2]; exact h4.mono x1⟩
theorem i_src (h : DE X j e da) : DI X j tg e (itS da) :=
  PI.mono (pi_src h) fun σ H Rr ⟨W, F, env, rel, q⟩ => ⟨W, F, env, rel, At.bind q fun d env1 W1 F1 H1 v _ r1 x1 p1 q1 => by
    cases o : srcOf d with
    | none => rw [o] at q1; exact q1.elim
    | some l =>
      rw [o] at q1
      obtain ⟨c, xs, e1, e2, e3⟩ := p1.src o
      exact ⟨c, xs, e1, Src.mono r1.exF e2, q1 W1 F1 H1 _ r1 (Ex.refl F1) (its_ok e2 e3)⟩⟩
theorem ite_ok {M : Mo} {F : Hp} {c : Src} {xs : List L2.V} {ds : List D} (h : c.Has M.K F xs) (p : RpL M F ds xs) : ItOk M (ItE M.K c) F (enumL 0 ds) := fun i F1 H x1 x2 => by
  have hl := p.length
  have hS := Src.mono x2 (Src.mono x1 h)
  rw [enumL_len]
  refine ⟨fun hi => ⟨⟨xs, hS, by omega⟩, fun x H' ⟨T, y, ex, hT, eH, hy⟩ => ?_⟩, fun hi => ⟨xs, hS, by omega⟩⟩
  · obtain ⟨v, h2, h3⟩ := p.get (List.getElem?_eq_getElem hi)
    have h4 := hy xs hS
    rw [h2] at h4
    cases h4
    subst ex eH
    have g := Grow.one (o := .tup [.int (i : Nat), y]) x2 hT
    exact ⟨_, _, enumL_get (List.getElem?_eq_getElem hi), g, .tup (SqT.of upd_same) (.cons (by rw [Nat.zero_add]; exact .int _) (.cons ((h3.mono x1).mono g.exF) .nil))⟩
theorem i_enum (hg : Gl X "enumerate") (hm : X.mg "enumerate" = none) (h : DE X j e da) (hs : starEach [e] X.env = [(false, eval e X.env)] := by rfl) : DI X j (.Tuple elts kk tpos) (.Call (.Name "enumerate" p) [e] [] pos) (enumD da) :=
  PI.mono (pi_enumS hg hm (pa_cons h pa_nil hs) hs) fun σ H Rr ⟨W, F, env, rel, q⟩ => ⟨W, F, env, rel, At.bind q fun d env1 W1 F1 H1 v _ r1 x1 p1 q1 => by
    cases o : srcOf d with
    | none => rw [o] at q1; exact q1.elim
    | some l =>
      rw [o] at q1
      obtain ⟨c, xs, e1, e2, e3⟩ := p1.src o
      exact ⟨c, xs, by rw [e1], Src.mono r1.exF e2, q1 W1 F1 H1 _ r1 (Ex.refl F1) (ite_ok e2 e3)⟩⟩
theorem itz_ok {M : Mo} {F : Hp} {c1 c2 : Src} {xs ys : List L2.V} {ds es : List D} (h1 : c1.Has M.K F xs) (p1 : RpL M F ds xs) (h2 : c2.Has M.K F ys) (p2 : RpL M F es ys) : ItOk M (ItZ M.K c1 c2) F (zipL ds es) := fun i F1 H x1 x2 => by
  have hl1 := p1.length
  have hl2 := p2.length
  have hS1 := Src.mono x2 (Src.mono x1 h1)
  have hS2 := Src.mono x2 (Src.mono x1 h2)
  rw [zipL_len]
  refine ⟨fun hi => ⟨⟨xs, ys, hS1, hS2, by omega, by omega⟩, fun x H' ⟨T, y, z, ex, hT, eH, hy, hz⟩ => ?_⟩, fun hi => ⟨xs, ys, hS1, hS2, by omega, by omega, by omega⟩⟩
  obtain ⟨v, h3, h4⟩ := p1.get (List.getElem?_eq_getElem (show i < ds.length by omega))
  obtain ⟨u, h5, h6⟩ := p2.get (List.getElem?_eq_getElem (show i < es.length by omega))
  have e1 := hy xs hS1
  have e2 := hz ys hS2
  rw [h3] at e1
  rw [h5] at e2
  cases e1
  cases e2
  subst ex eH
  have g := Grow.one (o := .tup [y, z]) x2 hT
  exact ⟨_, _, zipL_get (List.getElem?_eq_getElem (by omega)) (List.getElem?_eq_getElem (by omega)), g, .tup (SqT.of upd_same) (.cons ((h4.mono x1).mono g.exF) (.cons ((h6.mono x1).mono g.exF) .nil))⟩
theorem i_zip (hg : Gl X "zip") (hm : X.mg "zip" = none) (h : DE X j e da) (h2 : DE X j e2 db) (hs : starEach [e, e2] X.env = (false, eval e X.env) :: starEach [e2] X.env := by rfl) (hs2 : starEach [e2] X.env = (false, eval e2 X.env) :: starEach [] X.env := by rfl) (hpl : (backTo pos (starEach [e2] X.env)).any (·.1) = false := by rfl) :
    DI X j (.Tuple elts kk tpos) (.Call (.Name "zip" p) [e, e2] [] pos) (zipD da db) :=
  PI.mono (pi_zipS hg hm (pa_cons h (pa_cons h2 pa_nil hs2) hs) hs hpl) fun σ H Rr ⟨W, F, env, rel, q⟩ => ⟨W, F, env, rel, At.bind q fun d env1 W1 F1 H1 v _ r1 x1 p1 q1 => ⟨W1, F1, env1, r1, At.bind q1 fun d2 env2 W2 F2 H2 v2 _ r2 x2 p2 q2 => by
    cases o : srcOf d with
    | none => rw [o] at q2; exact q2.elim
    | some l =>
      cases o2 : srcOf d2 with
      | none => rw [o, o2] at q2; exact q2.elim
      | some m =>
        rw [o, o2] at q2
        obtain ⟨c, xs, e1, e2, e3⟩ := (p1.mono x2).src o
        obtain ⟨c2, ys, f1, f2, f3⟩ := p2.src o2
        exact ⟨c, c2, xs, ys, by rw [e1, f1], Src.mono r2.exF e2, Src.mono r2.exF f2, q2 W2 F2 H2 _ r2 (Ex.refl F2) (itz_ok e2 e3 f2 f3)⟩⟩⟩
theorem itr_ok {M : Mo} {F : Hp} (lo : Int) (n : Nat) : ItOk M (Itr lo n) F (rangeL lo n) := fun i F1 H x1 x2 => by
  rw [rangeL_len]
  refine ⟨fun hi => ⟨hi, fun x H' ⟨e, y⟩ => ⟨F1, _, rangeL_get hi, by rw [e]; exact Grow.refl x2, by rw [y]; exact .int _⟩⟩, fun hi => by show n ≤ i; omega⟩
theorem i_range1 (hg : Gl X "range") (hm : X.mg "range" = none) (h : DE X j e da) (hs : starEach [e] X.env = [(false, eval e X.env)] := by rfl) : DI X j tg (.Call (.Name "range" p) [e] [] pos) (range1D da) :=
  PI.mono (pi_range1 hg hm (pa_cons h pa_nil hs) hs) fun σ H Rr ⟨W, F, env, rel, q⟩ => ⟨W, F, env, rel, At.bind q fun d env1 W1 F1 H1 v _ r1 x1 p1 q1 => by
    cases p1 with
    | int i =>
      simp only at q1
      split at q1
      · rename_i hc
        exact ⟨i, rfl, hc.1, hc.2, q1 W1 F1 H1 _ r1 (Ex.refl F1) (itr_ok 0 _)⟩
      · exact q1.elim
    | _ => exact q1.elim⟩
theorem i_range2 (hg : Gl X "range") (hm : X.mg "range" = none) (h : DE X j e da) (h2 : DE X j e2 db) (hs : starEach [e, e2] X.env = [(false, eval e X.env), (false, eval e2 X.env)] := by rfl) (hs2 : starEach [e2] X.env = [(false, eval e2 X.env)] := by rfl) :
    DI X j tg (.Call (.Name "range" p) [e, e2] [] pos) (range2D da db) :=
  PI.mono (pi_range2 hg hm (pa_cons h (pa_cons h2 pa_nil hs2) (by rw [hs, hs2])) hs hs2) fun σ H Rr ⟨W, F, env, rel, q⟩ => ⟨W, F, env, rel, At.bind q fun d env1 W1 F1 H1 v _ r1 x1 p1 q1 => ⟨W1, F1, env1, r1, At.bind q1 fun d2 env2 W2 F2 H2 v2 _ r2 x2 p2 q2 => by
    cases p1 with
    | int i =>
      cases p2 with
      | int k =>
        simp only at q2
        split at q2
        · rename_i hc
          exact ⟨i, k, rfl, ⟨hc.1.1, hc.1.2, hc.2.1, hc.2.2⟩, q2 W2 F2 H2 _ r2 (Ex.refl F2) (itr_ok i _)⟩
        · exact q2.elim
      | _ => exact q2.elim
    | _ => exact q2.elim⟩⟩
end
end DL
namespace DL
open PySem PySem.Spec PyProof.Rows L2
/-! ## an owned thing is read as a whole: it is frozen from then on -/
def varF (i : Nat) : List D → R D := fun env => match env.getD i .unb with
  | .unb => .bad
  | d => .ok (frz d) (env.set i (frz d))
theorem getD_get {env : List D} {i : Nat} (h : env.getD i .unb ≠ .unb) : env[i]? = some (env.getD i .unb) := by
  rw [List.getD_eq_getElem?_getD] at h ⊢
  cases q : env[i]? with
  | none => rw [q] at h; exact absurd rfl h
  | some d => rfl
section
variable {X : Cx} {j : J} {a b c e : Expr} {es : List Expr} {pos : Pos} {da db dc : List D → R D}
theorem e_varF (i : Nat) {x : Str} (h : PE X (.Name x pos) (tVar i)) (hp : j.e.P i = none) : DE X j (.Name x pos) (varF i) :=
  PE.mono h fun σ H Q ⟨W, F, env, rel, q⟩ => by
    have q : At (mo X) j.e j.wx (Rp (mo X)) F σ (varF i env) Q := q
    have key : env.getD i .unb ≠ .unb → At (mo X) j.e j.wx (Rp (mo X)) F σ (.ok (frz (env.getD i .unb)) (env.set i (frz (env.getD i .unb)))) Q → tVar i σ H Q := fun hd q => by
      obtain ⟨v, h3, h4, h5⟩ := rel.freezeAt (getD_get hd) hd hp
      exact ⟨v, h3, q _ _ H v h5 (frzF_ex rel.toRelB (i + 1)) h4⟩
    unfold varF at q
    split at q
    · exact q.elim
    · rename_i h1
      exact key h1 q
/-! ## a op b op c -/
def chainD (f g : D → D → Option D) (da db dc : List D → R D) : List D → R D := fun env => bindR (da env) fun x env1 => bindR (db env1) fun y env2 => match f x y with
  | some (.bl true) => bindR (dc env2) fun z env3 => opR (g y z) env3
  | some (.bl false) => .ok (.bl false) env2
  | _ => .bad
theorem chain_at {f g : D → D → Option D} {op1 op2 : Value → Value → Sem Value} {σ : L2.St} {H : Hp} {Q : VK} (h : tE (mo X) j (chainD f g da db dc) σ H Q) : tChain (rOpD X f) (rOpD X g) (tE (mo X) j da) (tE (mo X) j db) (tE (mo X) j dc) σ H Q := by
  obtain ⟨W, F, env, rel, q⟩ := h
  refine ⟨W, F, env, rel, At.bind q fun x env1 W1 F1 H1 v _ r1 x1 p1 q1 => ⟨W1, F1, env1, r1, At.bind q1 fun y env2 W2 F2 H2 v2 _ r2 x2 p2 q2 => ?_⟩⟩
  cases o : f x y with
  | none => rw [o] at q2; exact q2.elim
  | some z =>
    rw [o] at q2
    refine ⟨F2, x, y, z, r2.exF, p1.mono x2, p2, o, fun F' H' w gr p => ?_⟩
    cases z with
    | bl k =>
      cases p
      refine ⟨k, rfl, ?_⟩
      cases k with
      | true =>
        have q3 : At (mo X) j.e j.wx (Rp (mo X)) F' σ (bindR (dc env2) fun z env3 => opR (g y z) env3) Q := At.mono q2 gr.exF
        exact ⟨W2, F', env2, r2.grow gr, At.bind q3 fun z env3 W3 F3 H3 v3 _ r3 x3 p3 q3 => by
          cases o2 : g y z with
          | none => rw [o2] at q3; exact q3.elim
          | some u =>
            rw [o2] at q3
            exact ⟨F3, y, z, u, r3.exF, (p2.mono gr.exF).mono x3, p3, o2, fun F'' H'' t gr2 p => At.grow q3 r3 gr2 p⟩⟩
      | false => exact q2 W2 F' H' _ (r2.grow gr) gr.exF (.bl false)
    | _ => exact q2.elim
theorem e_chain {o1 o2 : CmpOp} {f g : D → D → Option D} (h1 : OpD X (compareOp o1) f) (h2 : OpD X (compareOp o2) g) (ha : DE X j a da) (hb : DE X j b db) (hc : DE X j c dc) (hm : lastMarks [o1, o2] [b, c] = false := by with_unfolding_all rfl) : DE X j (.Compare a [o1, o2] [b, c] pos) (chainD f g da db dc) :=
  PE.mono (pe_chain h1.r h2.r ha hb hc hm) fun σ H Q h => chain_at (op1 := compareOp o1) (op2 := compareOp o2) h
theorem t_chain {o1 o2 : CmpOp} {f g : D → D → Option D} (h1 : OpD X (compareOp o1) f) (h2 : OpD X (compareOp o2) g) (ha : DE X j a da) (hb : DE X j b db) (hc : DE X j c dc) (hm : lastMarks [o1, o2] [b, c] = false := by with_unfolding_all rfl) : DT X j (.Compare a [o1, o2] [b, c] pos) (testD (chainD f g da db dc)) :=
  PT.mono (pt_chain h1.r h2.r ha hb hc hm) fun σ H Q ⟨W, F, env, rel, q⟩ => by
    refine chain_at (op1 := compareOp o1) (op2 := compareOp o2) ⟨W, F, env, rel, ?_⟩
    exact At.bind q fun x env1 W1 F1 H1 v _ r1 x1 p1 q1 => by
      cases p1 with
      | bl k => exact ⟨k, rfl, q1 W1 F1 H1 k r1 (Ex.refl F1) rfl⟩
      | _ => exact q1.elim
end
/-! ## texts -/
def joinD (a : Str) (e : D) : Option D := match srcL e with
  | some l => match strsOf l with
    | some ys => if (ys.map (·.length)).sum + ys.length * a.length ≤ 16777216 then some (.str (Txt.join a ys)) else none
    | none => none
  | none => none
where srcL : D → Option (List D)
  | .lst l => some l
  | .tup l => some l
  | _ => none
def splitD (a : Str) (e : D) : Option D := match e with
  | .str b => if (b.length == 0) = false ∧ a.length + 2 ≤ sizeLine then some (.lst ((Txt.split a b).map D.str)) else none
  | _ => none
def startsD (a : Str) (e : D) : Option D := match e with
  | .str b => some (.bl (Txt.startswith a b))
  | _ => none
def partitionD (a : Str) (e : D) : Option D := match e with
  | .str b => if (b.length == 0) = false ∧ a.length ≤ sizeLine then some (.tup [.str (Txt.partition a b).1, .str (Txt.partition a b).2.1, .str (Txt.partition a b).2.2]) else none
  | _ => none
def txtD (f : Str → D → Option D) (da db : List D → R D) : List D → R D := fun env => bindR (da env) fun d env1 => match d with
  | .str a => bindR (db env1) fun e env2 => opR (f a e) env2
  | _ => .bad
theorem rp_strs {M : Mo} {F : Hp} : ∀ ys : List Str, RpL M F (ys.map D.str) (ys.map V.str)
  | [] => .nil
  | y :: r => .cons (.str y) (rp_strs r)
section
variable {X : Cx} {j : J} {o e : Expr} {es : List Expr} {apos pos : Pos} {da db : List D → R D} {k : Nat}
/-- a method of a text with one argument -/
theorem txt_at {f : Str → D → Option D} {r : L2.V → List L2.V → Hp → VK → Prop} {σ : L2.St} {H : Hp} {Q : VK} (h : tE (mo X) j (txtD f da db) σ H Q)
    (k : ∀ a d2 v2 z F2 H2, f a d2 = some z → Ex F2 H2 → Rp (mo X) F2 d2 v2 → (∀ F' H' v, Grow F2 H2 F' H' → Rp (mo X) F' z v → Q v H') → r (.str a) [v2] H2 Q) : tM1 r (tE (mo X) j da) (tE (mo X) j db) σ H Q := by
  obtain ⟨W, F, env, rel, q⟩ := h
  refine ⟨W, F, env, rel, At.bind q fun d env1 W1 F1 H1 v _ r1 x1 p1 q1 => ?_⟩
  cases p1 with
  | str a =>
    refine ⟨⟨a, rfl⟩, W1, F1, env1, r1, At.bind q1 fun d2 env2 W2 F2 H2 v2 _ r2 x2 p2 q2 => ?_⟩
    cases o : f a d2 with
    | none => rw [o] at q2; exact q2.elim
    | some z =>
      rw [o] at q2
      exact k a d2 v2 z F2 H2 o r2.exF p2 fun F' H' v gr p => At.grow q2 r2 gr p
  | _ => exact q1.elim
theorem e_join (ho : DE X j o da) (he : DE X j e db) (hs : starEach [e] X.env = [(false, eval e X.env)] := by rfl) (hbase : attributeBase o "join" X.env (eval o X.env) = eval o X.env := by rfl) (hline : (apos.endLine == pos.line) = true := by rfl) :
    DE X j (.Call (.Attribute o "join" apos) [e] [] pos) (txtD joinD da db) :=
  PE.mono (pe_join ho he hs hbase hline) fun σ H Q h => txt_at h fun a d2 v2 z F2 H2 o x p q => by
    unfold joinD at o
    cases p with
    | lst h1 h2 =>
      simp only [joinD.srcL] at o
      cases oy : strsOf _ with
      | none => rw [oy] at o; cases o
      | some ys =>
        rw [oy] at o
        simp only at o
        split at o
        · rename_i hz
          cases o
          rw [strsOf_eq oy] at h2
          have := h2.strs_inv
          subst this
          exact ⟨a, _, ys, rfl, rfl, .inl (ex_l x h1), hz, q F2 H2 _ (Grow.refl x) (.str _)⟩
        · cases o
    | tup h1 h2 =>
      simp only [joinD.srcL] at o
      cases oy : strsOf _ with
      | none => rw [oy] at o; cases o
      | some ys =>
        rw [oy] at o
        simp only at o
        split at o
        · rename_i hz
          cases o
          rw [strsOf_eq oy] at h2
          have := h2.strs_inv
          subst this
          exact ⟨a, _, ys, rfl, rfl, .inr (ex_t x h1), hz, q F2 H2 _ (Grow.refl x) (.str _)⟩
        · cases o
    | _ => cases o
theorem e_split (ho : DE X j o da) (he : DE X j e db) (hs : starEach [e] X.env = [(false, eval e X.env)] := by rfl) (hbase : attributeBase o "split" X.env (eval o X.env) = eval o X.env := by rfl) (hline : (apos.endLine == pos.line) = true := by rfl) :
    DE X j (.Call (.Attribute o "split" apos) [e] [] pos) (txtD splitD da db) :=
  PE.mono (pe_split ho he hs hbase hline) fun σ H Q h => txt_at h fun a d2 v2 z F2 H2 o x p q => by
    unfold splitD at o
    cases p with
    | str b =>
      simp only at o
      split at o
      · rename_i hz
        cases o
        exact ⟨a, b, rfl, rfl, hz.1, hz.2, fun p n => q _ _ _ (Grow.one x n) (.lst (SqL.of upd_same) (rp_strs _))⟩
      · cases o
    | _ => cases o
theorem e_starts (ho : DE X j o da) (he : DE X j e db) (hs : starEach [e] X.env = [(false, eval e X.env)] := by rfl) (hbase : attributeBase o "startswith" X.env (eval o X.env) = eval o X.env := by rfl) (hline : (apos.endLine == pos.line) = true := by rfl) :
    DE X j (.Call (.Attribute o "startswith" apos) [e] [] pos) (txtD startsD da db) :=
  PE.mono (pe_m1 F.slot_str_startswith F.type_str_startswith mt_startswith ho he hs hbase hline) fun σ H Q h => txt_at h fun a d2 v2 z F2 H2 o x p q => by
    unfold startsD at o
    cases p with
    | str b =>
      cases o
      exact ⟨a, b, rfl, rfl, q F2 H2 _ (Grow.refl x) (.bl _)⟩
    | _ => cases o
theorem e_partition (ho : DE X j o da) (he : DE X j e db) (hs : starEach [e] X.env = [(false, eval e X.env)] := by rfl) (hbase : attributeBase o "partition" X.env (eval o X.env) = eval o X.env := by rfl) (hline : (apos.endLine == pos.line) = true := by rfl) :
    DE X j (.Call (.Attribute o "partition" apos) [e] [] pos) (txtD partitionD da db) :=
  PE.mono (pe_partition ho he hs hbase hline) fun σ H Q h => txt_at h fun a d2 v2 z F2 H2 o x p q => by
    unfold partitionD at o
    cases p with
    | str b =>
      simp only at o
      split at o
      · rename_i hz
        cases o
        exact ⟨a, b, rfl, rfl, hz.1, hz.2, fun p n => q _ _ _ (Grow.one x n) (.tup (SqT.of upd_same) (.cons (.str _) (.cons (.str _) (.cons (.str _) .nil))))⟩
      · cases o
    | _ => cases o
/-! f'..' -/
def fmtD (d : D) : Option D := match d with
  | .str y => if y.length ≤ sizeLine then some (.str y) else none
  | .int i => if i.natAbs < 2 ^ 1900 then some (.str (toString i)) else none
  | _ => none
theorem e_fmt (h : DE X j e da) : DE X j (.FormattedValue e (-1) none pos) (unD fmtD da) :=
  PE.mono (pe_fmt h) fun σ H Q ⟨W, F, env, rel, q⟩ => ⟨W, F, env, rel, At.bind q fun d env1 W1 F1 H1 v _ r1 x1 p1 q1 => by
    unfold fmtD at q1
    cases p1 with
    | str y =>
      simp only at q1
      split at q1
      · rename_i hz
        exact .inl ⟨y, rfl, hz, q1 W1 F1 H1 _ r1 (Ex.refl F1) (.str _)⟩
      · exact q1.elim
    | int i =>
      simp only at q1
      split at q1
      · rename_i hz
        exact .inr ⟨i, rfl, Nat.lt_of_lt_of_le (log2_of_lt (by omega) hz) (by omega), q1 W1 F1 H1 _ r1 (Ex.refl F1) (.str _)⟩
      · exact q1.elim
    | _ => exact q1.elim⟩
def joinedD : List (List D → R D) → Str → List D → R D
  | [], acc => fun env => .ok (.str acc) env
  | d :: ds, acc => fun env => bindR (d env) fun x env1 => match x with
    | .str y => if (acc ++ y).length ≤ sizeLine then joinedD ds (acc ++ y) env1 else .bad
    | _ => .bad
inductive DJ (X : Cx) (j : J) : List Expr → List (List D → R D) → Prop
  | nil : DJ X j [] []
  | cons {e : Expr} {d : List D → R D} {es : List Expr} {ds : List (List D → R D)} : DE X j e d → DJ X j es ds → DJ X j (e :: es) (d :: ds)
theorem dj_pj {es : List Expr} {ds : List (List D → R D)} (h : DJ X j es ds) : PJ X es (ds.map fun d => tE (mo X) j d) := by
  induction h with
  | nil => exact .nil
  | cons h _ ih => exact .cons h ih
theorem joined_at {σ : L2.St} {Q : VK} : ∀ {ds : List (List D → R D)} {acc : Str} {H : Hp}, tE (mo X) j (joinedD ds acc) σ H Q → tJs (ds.map fun d => tE (mo X) j d) acc σ H fun out H1 => Q (.str out) H1
  | [], acc, H, ⟨W, F, env, rel, q⟩ => q W F H _ rel (Ex.refl F) (.str acc)
  | d :: ds, acc, H, ⟨W, F, env, rel, q⟩ => ⟨W, F, env, rel, At.bind q fun x env1 W1 F1 H1 v _ r1 x1 p1 q1 => by
    cases p1 with
    | str y =>
      simp only at q1
      split at q1
      · rename_i hz
        exact ⟨y, rfl, hz, joined_at ⟨W1, F1, env1, r1, q1⟩⟩
      · exact q1.elim
    | _ => exact q1.elim⟩
theorem e_joined {v1 v2 : Expr} {rest : List Expr} {ds : List (List D → R D)} (h : DJ X j (v1 :: v2 :: rest) ds) : DE X j (.JoinedStr (v1 :: v2 :: rest) pos) (joinedD ds Str.empty) :=
  PE.mono (pe_joined (dj_pj h)) fun σ H Q h => joined_at h
/-! int(..), .. * .. -/
def intXD : List D → Option D
  | [.int a] => some (.int a)
  | [.bl b] => some (.int (if b then 1 else 0))
  | [.str a] => if a.length ≤ 640 then (PySem.intText? a).map .int else none
  | _ => none
theorem cd_intX : CallD X (.type "int") intXD := fun pins s σ F H ds d xs us Q I e p r e1 q => by
  unfold intXD at e1
  split at e1
  · exact cd_int pins s σ F H _ d xs us Q I e p r e1 q
  · exact cd_int pins s σ F H _ d xs us Q I e p r e1 q
  · split at e1
    · rename_i a hz
      cases o : PySem.intText? a with
      | none => rw [o] at e1; cases e1
      | some n =>
        rw [o] at e1
        cases e1
        obtain ⟨v, rfl, h⟩ := p.one_inv
        exact call_int_str pins s σ H _ us Q I r ⟨a, n, by rw [h.str_inv], o, hz, q F H _ (Grow.refl e) (.int _)⟩
    · cases e1
  · cases e1
def mulXD : D → D → Option D
  | .int a, .int b => if fitsMul a b then some (.int (a * b)) else none
  | .str a, .int b => if 0 ≤ b ∧ b ≤ 10000 ∧ 1 ≤ a.length ∧ a.length ≤ 1000 then some (.str (Txt.mul a b)) else none
  | _, _ => none
theorem od_mulX : OpD X (binaryOp .Mult) mulXD := fun pins s σ F H dx dy d x y v u Q I e p1 p2 rx ry e1 q => by
  unfold mulXD at e1
  split at e1
  · exact od_mul pins s σ F H _ _ d x y v u Q I e p1 p2 rx ry e1 q
  · rename_i a b
    split at e1
    · rename_i hz
      cases e1
      rw [p1.str_inv] at rx
      rw [p2.int_inv] at ry
      obtain ⟨t, rfl⟩ := rx
      obtain ⟨t', rfl⟩ := ry
      refine PySem.SB.mul ?_ fun t' k => ⟨.str _, H, I.tok k, ⟨t', rfl⟩, q F H _ (Grow.refl e) (.str _)⟩
      refine ⟨?_, fun _ _ => ?_, fun _ _ => ?_⟩
      · rw [Bool.or_eq_false_iff]
        exact ⟨decide_eq_false (by omega), decide_eq_false (by omega)⟩
      · have hb : b = 0 ∨ 1 ≤ b := by omega
        rcases hb with hb | hb
        · subst hb
          omega
        · have : (1000 : Int) ≤ (2 ^ 63 - 1) / b := by
            rw [Int.le_ediv_iff_mul_le (by omega)]
            omega
          omega
      · exact decide_eq_false (Nat.not_lt.mpr (Nat.le_trans (Nat.mul_le_mul hz.2.2.2 (show b.toNat ≤ 10000 by omega)) (by decide)))
    · cases e1
  · cases e1
end
end DL
namespace DL
open PySem PySem.Spec PyProof.Rows L2
/-! ## instances -/
/-- where a field lies -/
def fldIx (c f : Str) : Option Nat := (flds c).findIdx? (· == f)
theorem fldIx_get {c f : Str} {k : Nat} (h : fldIx c f = some k) : (flds c)[k]? = some f := by
  unfold fldIx at h
  obtain ⟨h1, h2, _⟩ := List.findIdx?_eq_some_iff_getElem.mp h
  rw [List.getElem?_eq_getElem h1]
  exact congrArg some (eq_of_beq h2)
theorem lookup_at : ∀ {fs : List (Str × V)} {k : Nat} {f : Str} {v : V}, (fs.map (·.1)).Nodup → (fs.map (·.1))[k]? = some f → (fs.map (·.2))[k]? = some v → fs.lookup f = some v
  | [], _, _, _, _, h, _ => by simp at h
  | (g, x) :: r, 0, f, v, _, h, h2 => by
    simp at h h2
    subst h h2
    simp
  | (g, x) :: r, k + 1, f, v, nd, h, h2 => by
    obtain ⟨n1, n2⟩ := List.nodup_cons.mp (show (g :: r.map (·.1)).Nodup from nd)
    have h : (r.map (·.1))[k]? = some f := by simpa using h
    have hne : (f == g) = false := beq_eq_false_iff_ne.mpr fun e => n1 (e ▸ List.mem_of_getElem? h)
    rw [List.lookup_cons, hne]
    exact lookup_at n2 h (by simpa using h2)
theorem lookup_no {fs : List (Str × V)} {f : Str} (h : f ∉ fs.map (·.1)) : fs.lookup f = none := by
  rw [List.lookup_eq_none_iff]
  intro p hp
  exact bne_iff_ne.mpr fun e => h (List.mem_map.mpr ⟨p, hp, e.symm⟩)
theorem take_get {α : Type} {l : List α} {k n : Nat} {x : α} (h : l[k]? = some x) (hk : k < n) : (l.take n)[k]? = some x := by
  rw [List.getElem?_take, if_pos hk]
  exact h
theorem fs_lookup {c f : Str} {fs : List (Str × V)} {k : Nat} {v : V} (nd : (flds c).Nodup) (hn : fs.map (·.1) = (flds c).take fs.length) (hk : fldIx c f = some k) (hv : (fs.map (·.2))[k]? = some v) : fs.lookup f = some v := by
  have hl : k < fs.length := by
    have := (List.getElem?_eq_some_iff.mp hv).1
    rwa [List.length_map] at this
  refine lookup_at ?_ ?_ hv
  · rw [hn]
    exact nd.sublist (List.take_sublist _ _)
  · rw [hn]
    exact take_get (fldIx_get hk) hl
/-- what must hold of a class for its field f -/
structure FldOk (M : Mo) (c f : Str) (k : Nat) : Prop where
  ix : fldIx c f = some k
  nd : (flds c).Nodup
  cl : Cls M.K (He.ga M.K c)
  no : NoAttr M.K (He.ga M.K c) f
  g : M.mg c = some (.ref (He.ga M.K c))
/-- e.f of an instance of the class c -/
def fldD (c : Str) (k : Nat) (d : D) : Option D := match d with
  | .ins c' l => if c' = c then l[k]? else none
  | _ => none
section
variable {X : Cx} {j : J} {o e : Expr} {es : List Expr} {apos pos pos' px : Pos} {da db : List D → R D}
theorem e_fld {c f : Str} {k : Nat} (T : FldOk (mo X) c f k) (h : DE X j e da) (hb : attributeBase e f X.env (eval e X.env) = eval e X.env := by rfl) : DE X j (.Attribute e f pos) (unD (fldD c k) da) :=
  PE.mono (pe_fld h hb) fun σ H Q ⟨W, F, env, rel, q⟩ => ⟨W, F, env, rel, At.bind q fun d env1 W1 F1 H1 v _ r1 x1 p1 q1 => by
    unfold fldD at q1
    cases p1 with
    | @ins c' a C dx fs l g hn ha hr =>
      simp only at q1
      by_cases hc : c' = c
      · rw [if_pos hc] at q1
        subst hc
        cases o : l[k]? with
        | none => rw [o] at q1; exact q1.elim
        | some z =>
          rw [o] at q1
          obtain ⟨w, h2, h3⟩ := hr.get o
          have hC : C = He.ga X.K c' := by
            have := g.symm.trans T.g
            injection this with this
            injection this
          subst hC
          exact ⟨a, _, dx, fs, w, rfl, r1.exF _ _ ha, T.cl, T.no, fs_lookup T.nd hn T.ix h2, q1 W1 F1 H1 w r1 (Ex.refl F1) h3⟩
      · rw [if_neg hc] at q1
        exact q1.elim
    | _ => exact q1.elim⟩
/-- x.f, x an owned instance; what the field holds is no owned thing -/
def fldO (c : Str) (k i : Nat) : List D → R D := fun env => match env.getD i .unb with
  | .mi c' l => if c' = c then match l[k]? with
    | some d => if isOwn d = true then .bad else .ok d env
    | none => .bad
  else .bad
  | _ => .bad
theorem e_fldO {c f : Str} {k : Nat} (T : FldOk (mo X) c f k) (i : Nat) {x : Str} (h : PE X (.Name x px) (tVar i)) (hb : attributeBase (.Name x px) f X.env (eval (.Name x px) X.env) = eval (.Name x px) X.env := by rfl) : DE X j (.Attribute (.Name x px) f pos) (fldO c k i) :=
  PE.mono (pe_fld h hb) fun σ H Q ⟨W, F, env, rel, q0⟩ => by
    have q : At (mo X) j.e j.wx (Rp (mo X)) F σ (fldO c k i env) Q := q0
    clear q0
    unfold fldO at q
    cases o : env.getD i .unb with
    | mi c' l =>
      rw [o] at q
      simp only at q
      by_cases hc : c' = c
      · rw [if_pos hc] at q
        subst hc
        have hd : env.getD i .unb ≠ .unb := by rw [o]; intro z; cases z
        obtain ⟨v, h3, h4⟩ := rel.slot i _ (getD_get hd) hd
        rw [o] at h4
        cases h4 with
        | fz h => cases h
        | @mi _ _ a C dx fs _ w1 w2 ne hg ha hdx hl =>
          cases ol : l[k]? with
          | none => rw [ol] at q; exact q.elim
          | some z =>
            rw [ol] at q
            simp only at q
            cases oo : isOwn z with
            | true => rw [oo, if_pos rfl] at q; exact q.elim
            | false =>
              rw [oo, if_neg (by simp)] at q
              obtain ⟨u, h5, h6⟩ := hl.get ol
              have hC : C = He.ga X.K c' := by
                have := hg.1.symm.trans T.g
                injection this with this
                injection this
              subst hC
              exact ⟨.ref a, h3, a, _, dx, fs, u, rfl, ha, T.cl, T.no, fs_lookup T.nd hg.2 T.ix h5, q W F H u rel (Ex.refl F) (h6.rp oo)⟩
      · rw [if_neg hc] at q
        exact q.elim
    | _ => rw [o] at q; exact q.elim
/-- x.f = e, x an owned instance -/
theorem putF_at : ∀ {fs : List (Str × V)} {k : Nat} {f : Str} (v : V), (fs.map (·.1)).Nodup → (fs.map (·.1))[k]? = some f → (putF f v fs).map (·.1) = fs.map (·.1) ∧ (putF f v fs).map (·.2) = (fs.map (·.2)).set k v
  | [], _, _, _, _, h => by simp at h
  | (g, x) :: r, 0, f, v, _, h => by
    simp at h
    subst h
    simp [putF]
  | (g, x) :: r, k + 1, f, v, nd, h => by
    obtain ⟨n1, n2⟩ := List.nodup_cons.mp (show (g :: r.map (·.1)).Nodup from nd)
    have h : (r.map (·.1))[k]? = some f := by simpa using h
    have hne : ¬ g = f := fun e => n1 (e ▸ List.mem_of_getElem? h)
    obtain ⟨a, b⟩ := putF_at v n2 h
    unfold putF
    rw [if_neg hne]
    exact ⟨by rw [List.map_cons, a, List.map_cons], by rw [List.map_cons, b, List.map_cons, List.set_cons_succ]⟩
theorem putF_new : ∀ {fs : List (Str × V)} {f : Str} (v : V), f ∉ fs.map (·.1) → putF f v fs = fs ++ [(f, v)]
  | [], _, _, _ => rfl
  | (g, x) :: r, f, v, h => by
    have hne : ¬ g = f := fun e => h (by rw [← e]; exact List.mem_cons_self)
    unfold putF
    rw [if_neg hne, putF_new v fun z => h (List.mem_cons_of_mem _ z)]
    rfl
def setfD (c : Str) (k i : Nat) (da : List D → R D) : List D → O := fun env => bindS (da env) fun d env1 => match env1.getD i .unb with
  | .mi c' l => if c' = c then (if k < l.length then .nx (env1.set i (.mi c (l.set k d))) else if k = l.length then .nx (env1.set i (.mi c (l ++ [d]))) else .bad) else .bad
  | _ => .bad
theorem s_setf {c f : Str} {k : Nat} (T : FldOk (mo X) c f k) (hsm : (flds c).length < 1000) (i : Nat) {x : Str} (h : PE X (.Name x px) (tVar i)) (he : DE X j e da) (hs : swapsWith e (some (.Attribute (.Name x px) f pos')) pos.line X.env = pure false := by rfl) : DS X j (.Assign [.Attribute (.Name x px) f pos'] e pos) (setfD c k i da) :=
  PS.mono (ps_fld h he hs) fun Dn σ H ⟨W, F, env, rel, q⟩ => ⟨W, F, env, rel, AtS.bind q fun d env1 W1 F1 H1 v _ r1 x1 p1 q0 => by
    have q1 : AtS (mo X) j F1 (match env1.getD i .unb with
      | .mi c' l => if c' = c then (if k < l.length then .nx (env1.set i (.mi c (l.set k d))) else if k = l.length then .nx (env1.set i (.mi c (l ++ [d]))) else .bad) else .bad
      | _ => .bad) Dn := q0
    clear q0
    cases o : env1.getD i .unb with
    | mi c' l =>
      rw [o] at q1
      simp only at q1
      by_cases hc : c' = c
      · rw [if_pos hc] at q1
        subst hc
        have hd : env1.getD i .unb ≠ .unb := by rw [o]; intro z; cases z
        obtain ⟨u, h3, h4⟩ := r1.slot i _ (getD_get hd) hd
        rw [o] at h4
        cases h4 with
        | fz h => cases h
        | @mi _ _ a C dx fs _ w1 w2 ne hg ha hdx hl =>
          have hC : C = He.ga X.K c' := by
            have := hg.1.symm.trans T.g
            injection this with this
            injection this
          subst hC
          have hlen : l.length = fs.length := by rw [hl.length, List.length_map]
          have hfl : fs.length ≤ (flds c').length := by
            have := congrArg List.length hg.2
            rw [List.length_map, List.length_take] at this
            omega
          have ndf : (fs.map (·.1)).Nodup := by
            rw [hg.2]
            exact T.nd.sublist (List.take_sublist _ _)
          refine ⟨.ref a, h3, a, _, dx, fs, rfl, ha, T.cl, T.no, by omega, ?_⟩
          have ne2 : L2.upd H1 a (.ins (He.ga X.K c') dx (putF f v fs)) dx = some (.own a) := by
            rw [upd_ne ne]
            exact hdx
          by_cases hk : k < l.length
          · rw [if_pos hk] at q1
            have hfk : (fs.map (·.1))[k]? = some f := by
              rw [hg.2]
              exact take_get (fldIx_get T.ix) (by omega)
            obtain ⟨e1, e2⟩ := putF_at v ndf hfk
            refine q1 W1 F1 _ σ (r1.write w1 h3 (.mi w1 w2 ne ⟨hg.1, ?_⟩ upd_same ne2 ?_)) (Ex.refl F1)
            · rw [e1, hg.2]
              congr 1
              have := congrArg List.length e1
              rw [List.length_map, List.length_map] at this
              exact this.symm
            · rw [e2]
              exact (hl.upd w1 (Nat.le_refl _)).set p1 k
          · rw [if_neg hk] at q1
            by_cases hk2 : k = l.length
            · rw [if_pos hk2] at q1
              have hfn : f ∉ fs.map (·.1) := fun hm => by
                rw [hg.2] at hm
                obtain ⟨m, hm1, hm2⟩ := List.mem_iff_getElem.mp hm
                rw [List.getElem_take] at hm2
                rw [List.length_take] at hm1
                have h5 := fldIx_get T.ix
                have h6 : (flds c')[m]? = some f := by rw [List.getElem?_eq_getElem (by omega), hm2]
                have := (List.getElem?_inj (by omega) T.nd).mp (h6.trans h5.symm)
                omega
              have e1 := putF_new v hfn
              refine q1 W1 F1 _ σ (r1.write w1 h3 (.mi w1 w2 ne ⟨hg.1, ?_⟩ upd_same ne2 ?_)) (Ex.refl F1)
              · rw [e1, List.map_append, hg.2, List.length_append]
                have h5 := fldIx_get T.ix
                rw [hk2, hlen] at h5
                show List.take fs.length (flds c') ++ [f] = List.take (fs.length + 1) (flds c')
                rw [List.take_succ, h5]
                rfl
              · rw [e1, List.map_append]
                exact (hl.upd w1 (Nat.le_refl _)).snoc p1
            · rw [if_neg hk2] at q1
              exact q1.elim
      · rw [if_neg hc] at q1
        exact q1.elim
    | _ => rw [o] at q1; exact q1.elim⟩
end
/-! ### o.m(..) -/
section
variable {X : Cx} {CX : CXT} {k : Nat} {f C : Addr} {fd : FuncData} {ps : List Str} {sp : Sp} {E : L2.St → XK} {m : Str} {pos apos : Pos} {e o : Expr} {es : List Expr} {ta : TE} {t : TA}
def tMethP (C : Addr) (m : Str) (sp : Sp) (E : L2.St → XK) (ta : TE) (t : TA) : TE := fun σ H Q => ta σ H fun x H1 => ∃ a dx fs, x = .ref a ∧ H1 a = some (.ins C dx fs) ∧ fs.lookup m = none ∧ t σ H1 fun vs H2 => sp (x :: vs) H2 Q (E σ)
theorem pe_methP {pl : Sem Bool} (he : PE X o ta) (c : Cls X.K C) (hm : Meth X.K C m f) (F : FnOk X.prog X.w X.K X.mg X.base CX k f fd ps sp) (hr : Room k X.A) (hb : Binds X.K fd ps []) (hx : ∀ σ, PassesAt CX X σ (E σ)) (ha : PA X (e :: es) t)
    (hst : starEach (e :: es) X.env = (false, eval e X.env) :: starEach es X.env) (hpl : (backTo pos (starEach es X.env)).any (·.1) = false)
    (ht : eval (.Call (.Attribute o m apos) (e :: es) [] pos) X.env = (do
      let ov ← eval o X.env
      standAt apos.atName
      let (f, first) ← holding [ov] (getMethod ov m pl)
      callWith pos f first (backTo pos (starEach (e :: es) X.env)) (backToKw pos (keywordEach [] X.env)))) :
    PE X (.Call (.Attribute o m apos) (e :: es) [] pos) (tMethP C m sp E ta t) := ⟨fun pins s σ H Q I h => by
  refine PySem.W.methodCall_KW (pl := pl) (thn (he.run pins s σ H _ I h) fun u s1 ⟨x, H1, I1, rx, a, dx, fs, ex, ea, l, q⟩ => ?_) ht
  subst ex
  obtain rfl : u = Value.ref a := rx
  exact getmeth_ok I1 ea c hm l (PySem.W.callWith_K (first := [.ref a]) (h₀ := X.base) I.ok.mod.kin hm.kp (thn (ha.run pos pins s1 σ H1 _ I1 q) fun us s2 ⟨vs, H2, I2, r, q2⟩ => ⟨I2.kIn, run_fnS (us := .ref a :: us) (vs := .ref a :: vs) F hr hb (hx σ) I2 (.cons rfl r) q2⟩) hst hpl)⟩
theorem pe_methP0 {pl : Sem Bool} (he : PE X o ta) (c : Cls X.K C) (hm : Meth X.K C m f) (F : FnOk X.prog X.w X.K X.mg X.base CX k f fd ps sp) (hr : Room k X.A) (hb : Binds X.K fd ps []) (hx : ∀ σ, PassesAt CX X σ (E σ))
    (ht : eval (.Call (.Attribute o m apos) [] [] pos) X.env = (do
      let ov ← eval o X.env
      standAt apos.atName
      let (f, first) ← holding [ov] (getMethod ov m pl)
      callWith pos f first (backTo pos (starEach [] X.env)) (backToKw pos (keywordEach [] X.env)))) :
    PE X (.Call (.Attribute o m apos) [] [] pos) (tMethP C m sp E ta tNil) := ⟨fun pins s σ H Q I h => by
  refine PySem.W.methodCall_KW (pl := pl) (thn (he.run pins s σ H _ I h) fun u s1 ⟨x, H1, I1, rx, a, dx, fs, ex, ea, l, q⟩ => ?_) ht
  subst ex
  obtain rfl : u = Value.ref a := rx
  exact getmeth_ok I1 ea c hm l (PySem.W.callWith_K0 (first := [.ref a]) I1.kIn hm.kp (run_fnS (us := [.ref a]) (vs := [.ref a]) F hr hb (hx σ) I1 (.cons rfl .nil) q))⟩
end
/-- a class and one of its methods -/
structure MethOk (M : Mo) (c m : Str) : Prop where
  cl : Cls M.K (He.ga M.K c)
  me : Meth M.K (He.ga M.K c) m (He.ma M.K (He.ga M.K c) m)
  no : m ∉ flds c
  g : M.mg c = some (.ref (He.ga M.K c))
def selfD (c : Str) (x : D) : Bool := match x with
  | .ins c' _ => decide (c' = c)
  | _ => false
/-- o.m(..), o no owned thing -/
def methO (c : Str) (n : Nat) (io : List Nat) (g : List D → FR) (do_ : List D → R D) (da : List D → R (List Ar)) : List D → R D := fun env => bindR (do_ env) fun x env1 => if selfD c x = true then callO n io g (fun env => bindR (da env) fun as env2 => .ok (.v x :: as) env2) env1 else .bad
/-- x.m(..), x owned -/
def methIO (c : Str) (i n : Nat) (io : List Nat) (g : List D → FR) (da : List D → R (List Ar)) : List D → R D := fun env => match env.getD i .unb with
  | .mi c' _ => if c' = c then callO n io g (ioA i da) env else .bad
  | _ => .bad
section
variable {X : Cx} {j : J} {d : He.DefD} {fd : FuncData} {ps : List Str} {io : List Nat} {G : List D → FR} {k m n i : Nat} {c meth x : Str} {apos pos px : Pos} {e o : Expr} {es : List Expr} {do_ : List D → R D} {da : List D → R (List Ar)}
theorem Rp.self {M : Mo} {F H : Hp} {x : D} {v : V} {meth c : Str} (T : MethOk M c meth) (p : Rp M F x v) (h : selfD c x = true) (ex : Ex F H) : ∃ a dx fs, v = .ref a ∧ H a = some (.ins (He.ga M.K c) dx fs) ∧ fs.lookup meth = none := by
  unfold selfD at h
  cases p with
  | @ins c' a C dx fs l g hn ha hr =>
    have hc := of_decide_eq_true h
    subst hc
    have hC : C = He.ga M.K c' := by
      have := g.symm.trans T.g
      injection this with this
      injection this
    subst hC
    exact ⟨a, dx, fs, rfl, ex _ _ ha, lookup_no fun hm => T.no (List.mem_of_mem_take (hn ▸ hm))⟩
  | _ => cases h
theorem meth_at {σ : L2.St} {H : Hp} {Q : VK} (lo : OutLen io G) (T : MethOk (mo X) c meth) (h : tO (mo X) j (methO c n io G do_ da) σ H Q) :
    tMethP (He.ga X.K c) meth (spD (mo X) n io G) (WE j.wx) (tE (mo X) j do_) (fun σ H Q => tR (mo X) j.e j.wx (RaL (mo X) σ) da σ H Q) σ H Q := by
  obtain ⟨W, F, env, rel, q⟩ := h
  refine ⟨W, F, env, rel, AtO.bind q fun x env1 W1 F1 H1 v _ r1 x1 p1 q1 => ?_⟩
  by_cases hs : selfD c x = true
  · rw [if_pos hs] at q1
    obtain ⟨a, dx, fs, e1, e2, e3⟩ := p1.self T hs r1.exF
    refine ⟨a, dx, fs, e1, e2, e3, W1, F1, env1, r1, ?_⟩
    have q2 : AtO (mo X) j F1 σ (bindR (da env1) fun as env2 => callO n io G (fun env => .ok (.v x :: as) env) env2) Q := by
      have e : callO n io G (fun env => bindR (da env) fun as env2 => .ok (.v x :: as) env2) env1 = (bindR (da env1) fun as env2 => callO n io G (fun env => .ok (.v x :: as) env) env2) := by
        unfold callO
        dsimp only
        cases da env1 <;> rfl
      rw [← e]
      exact q1
    exact AtO.bind q2 fun as env2 W2 F2 H2 vs _ r2 x2 p2 q3 => call_at (as := .v x :: as) (vs := v :: vs) lo r2 ⟨v, vs, rfl, p1.mono x2, p2⟩ q3
  · rw [if_neg hs] at q1
    exact q1.elim
theorem o_meth {pl : Sem Bool} (F : Df X.prog X.w X.K X.mg X.base d fd ps io G k) (hb : Binds X.K fd ps []) (hat : He.fAd X.K d.at_ = He.ma X.K (He.ga X.K c) meth) (T : MethOk (mo X) c meth) (hr : Room m X.A) (tk : Takes X j.wx) (ho : DE X j o do_) (ha : DAr X j (e :: es) da) (hn : ps.length = n := by rfl) (hk : k ≤ m := by decide)
    (he : starEach (e :: es) X.env = (false, eval e X.env) :: starEach es X.env := by rfl) (hpl : (backTo pos (starEach es X.env)).any (·.1) = false := by rfl)
    (ht : eval (.Call (.Attribute o meth apos) (e :: es) [] pos) X.env = (do
      let ov ← eval o X.env
      standAt apos.atName
      let (f, first) ← holding [ov] (getMethod ov meth pl)
      callWith pos f first (backTo pos (starEach (e :: es) X.env)) (backToKw pos (keywordEach [] X.env))) := by rfl) : DO X j (.Call (.Attribute o meth apos) (e :: es) [] pos) (methO c n io G do_ da) := by
  subst hn
  have ok := F.ok
  rw [hat] at ok
  exact PE.mono (pe_methP ho T.cl T.me ok (hr.mono hk) hb (fun σ => passAt tk σ) ha he hpl ht) fun σ H Q h => meth_at F.lo T h
theorem o_meth0 {pl : Sem Bool} (F : Df X.prog X.w X.K X.mg X.base d fd ps io G k) (hb : Binds X.K fd ps []) (hat : He.fAd X.K d.at_ = He.ma X.K (He.ga X.K c) meth) (T : MethOk (mo X) c meth) (hr : Room m X.A) (tk : Takes X j.wx) (ho : DE X j o do_) (hn : ps.length = n := by rfl) (hk : k ≤ m := by decide)
    (ht : eval (.Call (.Attribute o meth apos) [] [] pos) X.env = (do
      let ov ← eval o X.env
      standAt apos.atName
      let (f, first) ← holding [ov] (getMethod ov meth pl)
      callWith pos f first (backTo pos (starEach [] X.env)) (backToKw pos (keywordEach [] X.env))) := by rfl) : DO X j (.Call (.Attribute o meth apos) [] [] pos) (methO c n io G do_ nilA) := by
  subst hn
  have ok := F.ok
  rw [hat] at ok
  exact PE.mono (pe_methP0 ho T.cl T.me ok (hr.mono hk) hb (fun σ => passAt tk σ) ht) fun σ H Q h => by
    have := meth_at F.lo T h
    obtain ⟨W, F', env, rel, q⟩ := this
    refine ⟨W, F', env, rel, ?_⟩
    revert q
    cases do_ env with
    | ok x env1 =>
      intro q W1 F1 H1 v r1 x1 p1
      obtain ⟨a, dx, fs, e1, e2, e3, W2, F2, env2, r2, q2⟩ := q W1 F1 H1 v r1 x1 p1
      exact ⟨a, dx, fs, e1, e2, e3, q2 W2 F2 H1 [] r2 (Ex.refl F2) rfl⟩
    | ex c fs env1 => exact fun q => q
    | bad => exact fun q => q
end
end DL
namespace DL
open PySem PySem.Spec PyProof.Rows L2
/-! ## C(..): an instance is made -/
section
variable {X : Cx} {CX : CXT} {k : Nat} {f C : Addr} {fd : FuncData} {ps : List Str} {sp : Sp} {E : L2.St → XK} {x : Str} {p pos : Pos} {e : Expr} {es : List Expr} {t : TA}
theorem run_makeP {pins : List (Addr × Obj)} {σ : L2.St} {H : Hp} {s : Shared} {Q : VK} {us : List Value} {vs : List V} (M : Mk X.K C f) (F : FnOk X.prog X.w X.K X.mg X.base CX k f fd ps sp) (hr : Room (k + 1) X.A) (hb : Binds X.K fd ps [])
    (hx : PassesAt CX X σ (E σ)) (I : Inv X pins σ H s) (r : Vals vs us) (h : ∀ x dx, H x = none → H dx = none → dx ≠ x → sp (.ref x :: vs) (upd (upd H dx (.own x)) x (.ins C dx [])) (fun v H2 => v = .non ∧ Q (.ref x) H2) (E σ)) :
    wpAny (model X.prog X.w) X.A (call (.ref C) us) (EP X pins σ Q) X.xe s := by
  have n := s.heap.objs.size
  have hq := h (s.heap.objs.size + 1) s.heap.objs.size (I.hok.fresh (Nat.le_succ _)) (I.hok.fresh (Nat.le_refl _)) (Nat.ne_of_lt (Nat.lt_succ_self _))
  have I2 := Inv.made (C := C) I
  have r2 : Vals (V.ref (s.heap.objs.size + 1) :: vs) (Value.ref (s.heap.objs.size + 1) :: us) := .cons rfl r
  have hl : (Value.ref (s.heap.objs.size + 1) :: us ++ []).length = ps.length := by
    rw [List.append_nil, ← r2.length]
    exact F.len _ _ _ _ hq
  have b := hb _ (Value.ref (s.heap.objs.size + 1) :: us) I2.kIn hl
  rw [List.append_nil] at b
  refine wpAny_call (make_map (f := f) I.kIn M.makes M.init (beq_iff_eq.mp M.fn) (codeAny_mono (F.run _ X.stack _ _ ⟨Value.ref (s.heap.objs.size + 1) :: us, []⟩ (Value.ref (s.heap.objs.size + 1) :: us) _ _ (E σ) (hr.make C us []) (I2.env0.make C us []) b r2 hq) fun z s1 hz => ?_))
  cases z with
  | error u => exact hx pins _ _ u s1 I2 hz
  | ok fl =>
    cases fl with
    | ret u =>
      obtain ⟨v, H', I3, rv, ev, q3⟩ := I2.after hz
      subst ev
      exact ⟨rv, ⟨V.ref (s.heap.objs.size + 1), H', I3, rfl, q3⟩⟩
    | next => exact hz.elim
    | brk => exact hz.elim
    | cont => exact hz.elim
def tMakeP (C : Addr) (sp : Sp) (E : L2.St → XK) (t : TA) : TE := fun σ H Q => t σ H fun vs H1 => ∀ x dx, H1 x = none → H1 dx = none → dx ≠ x →
  sp (.ref x :: vs) (upd (upd H1 dx (.own x)) x (.ins C dx [])) (fun v H2 => v = .non ∧ Q (.ref x) H2) (E σ)
theorem pe_makeP (M : Mk X.K C f) (F : FnOk X.prog X.w X.K X.mg X.base CX k f fd ps sp) (hr : Room (k + 1) X.A) (hg : Gl X x) (hm : X.mg x = some (.ref C)) (hb : Binds X.K fd ps []) (hx : ∀ σ, PassesAt CX X σ (E σ))
    (ha : PA X (e :: es) t) (hdb : (x == ("__debug__" : Str)) = false) (he : starEach (e :: es) X.env = (false, eval e X.env) :: starEach es X.env) (hpl : (backTo pos (starEach es X.env)).any (·.1) = false) :
    PE X (.Call (.Name x p) (e :: es) [] pos) (tMakeP C sp E t) := ⟨fun pins s σ H Q I h => by
  refine wpAny_Call_Name_kw (ld_glob I hg hm (PySem.W.callWith_K (h₀ := X.base) I.ok.mod.kin M.kp (thn (ha.run pos pins s σ H _ I h) fun us s1 ⟨vs, H1, I1, r, q⟩ => ⟨I1.kIn, ?_⟩) he hpl) hdb)
  exact run_makeP M F hr hb (hx σ) I1 r q⟩
end
/-- the new instance of the class c, as __init__ leaves it -/
def makeO (c : Str) (n : Nat) (G : List D → FR) (dl : List D → R (List D)) : List D → R D := fun env => bindR (dl env) fun ds env1 => if ds.length + 1 = n then match G (.mi c [] :: ds) with
  | .ret .non [d] => if ownd d = true then .ok d env1 else .bad
  | .exc x fs _ => .ex x fs env1
  | _ => .bad
else .bad
/-- what is new behind a making -/
def newI (W W' : Own) : Own := fun a => match W a with
  | some p => some p
  | none => match W' a with
    | some (1 :: q) => some (0 :: q)
    | _ => none
theorem make_at {X : Cx} {j : J} {σ : L2.St} {W : Own} {F H : Hp} {env : List D} {ds : List D} {vs : List V} {Q : VK} {c : Str} {n : Nat} {G : List D → FR} {C x dx : Addr} (hC : X.mg c = some (.ref C)) (rel : Rel (mo X) j.e W F H env σ) (p : RpL (mo X) F ds vs) (hn : ds.length + 1 = n)
    (nx : H x = none) (nd : H dx = none) (ne : dx ≠ x)
    (q : AtO (mo X) j F σ (match G (.mi c [] :: ds) with
      | .ret .non [d] => if ownd d = true then .ok d env else .bad
      | .exc x fs _ => .ex x fs env
      | _ => .bad) Q) : spD (mo X) n [0] G (.ref x :: vs) (upd (upd H dx (.own x)) x (.ins C dx [])) (fun v H2 => v = .non ∧ Q (.ref x) H2) (WE j.wx σ) := by
  have hW : ∀ a, W a ≠ none → a ≠ x ∧ a ≠ dx := fun a h => ⟨fun e => (rel.sep a h).2.2 (e ▸ nx), fun e => (rel.sep a h).2.2 (e ▸ nd)⟩
  have Fx : F x = none := rel.exF.none nx
  have Fd : F dx = none := rel.exF.none nd
  let Wc : Own := fun a => if a = x ∨ a = dx then some [1] else none
  have wx : Wc x = some [1] := if_pos (.inl rfl)
  have wd : Wc dx = some [1] := if_pos (.inr rfl)
  have wo : ∀ a, Wc a ≠ none → a = x ∨ a = dx := fun a h => Classical.byContradiction fun z => h (if_neg z)
  let H2 : Hp := upd (upd H dx (.own x)) x (.ins C dx [])
  have h2x : H2 x = some (.ins C dx []) := upd_same
  have h2d : H2 dx = some (.own x) := by
    show upd (upd H dx (.own x)) x (.ins C dx []) dx = _
    rw [upd_ne ne, upd_same]
  have h2o : ∀ a, a ≠ x → a ≠ dx → H2 a = H a := fun a h1 h3 => by
    show upd (upd H dx (.own x)) x (.ins C dx []) a = _
    rw [upd_ne h1, upd_ne h3]
  have hEx : Ex H H2 := fun a o h => by
    have h1 : a ≠ x := fun e => by rw [e, nx] at h; cases h
    have h3 : a ≠ dx := fun e => by rw [e, nd] at h; cases h
    rw [h2o a h1 h3]
    exact h
  have eF : Ex F H2 := rel.exF.trans hEx
  have rb : RelB ⟨H2, F, Wc, pinOf [0] (.ref x :: vs)⟩ Wc F H2 := ⟨fun b o _ h => h, Ex.refl F, eF, fun a h => by
    rcases wo a h with rfl | rfl
    · exact ⟨Fx, .inl h, by rw [h2x]; simp⟩
    · exact ⟨Fd, .inl h, by rw [h2d]; simp⟩, fun a r q h => by
    have hh : Wc a = some [1] := by
      rcases wo a (by rw [h]; simp) with rfl | rfl
      · exact wx
      · exact wd
    rw [hh] at h
    injection h with h
    injection h with h1 h3
    exact .inr ⟨0, .ref x, [], h1.symm, rfl, by rw [← h1]; exact hh⟩, fun b h => .inl h, fun b h => h⟩
  refine ⟨Wc, F, .mi c [] :: ds, by rw [List.length_cons, ← p.length]; exact hn, by rw [List.length_cons]; exact hn, rb, fun i d h => ?_, ?_⟩
  · cases i with
    | zero =>
      cases h
      exact ⟨(by intro z; cases z), .ref x, rfl, .mi wx wd ne ⟨hC, rfl⟩ h2x h2d .nil⟩
    | succ i =>
      obtain ⟨v, h1, h3⟩ := p.get (show ds[i]? = some d by simpa using h)
      refine ⟨(by intro z; subst z; cases h3), v, by simpa using h1, .fz h3⟩
  -- back in the caller
  have back : ∀ {W' F' H' W2}, RelB ⟨H2, F, Wc, pinOf [0] (.ref x :: vs)⟩ W' F' H' → (∀ a, W2 a ≠ none → W a ≠ none ∨ (W' a ≠ none)) → (∀ a p, W a = some p → W2 a = some p) → (∀ a, W a = none → W2 a ≠ none → H a = none) → (∀ a r q, W a = none → W2 a = some (r :: q) → True) → Rel (mo X) j.e W2 F' H' env σ := by
    intro W' F' H' W2 rb' hw1 hw2 hw3 _
    have keep : ∀ b o, H b = some o → H' b = some o := fun b o h => by
      have h1 : b ≠ x := fun e => by rw [e, nx] at h; cases h
      have h3 : b ≠ dx := fun e => by rw [e, nd] at h; cases h
      refine rb'.pres b o (if_neg fun z => z.elim h1 h3) ?_
      rw [show (⟨H2, F, Wc, pinOf [0] (.ref x :: vs)⟩ : Ent).H0 b = H2 b from rfl, h2o b h1 h3]
      exact h
    refine ⟨⟨fun b o h1 h3 => keep b o (rel.pres b o h1 h3), rel.exF0.trans rb'.exF0, rb'.exF, fun a h => ?_, fun a r q h => ?_, fun b h => ?_, fun b h => ?_⟩, rel.len, fun i d h1 h3 => ?_, rel.pin⟩
    · cases z : W a with
      | some p =>
        have s1 := rel.sep a (by rw [z]; simp)
        refine ⟨?_, s1.2.1, ?_⟩
        · cases y : F' a with
          | none => rfl
          | some o =>
            rcases rb'.new a (by rw [y]; simp) with h4 | h4
            · exact absurd s1.1 h4
            · obtain ⟨h5, h6⟩ := hW a (by rw [z]; simp)
              rw [show (⟨H2, F, Wc, pinOf [0] (.ref x :: vs)⟩ : Ent).H0 a = H2 a from rfl, h2o a h5 h6] at h4
              exact absurd h4 s1.2.2
        · cases y : H a with
          | none => exact absurd y s1.2.2
          | some o => rw [keep a o y]; simp
      | none =>
        rcases hw1 a h with h4 | h4
        · exact absurd z h4
        · have s2 := rb'.sep a h4
          refine ⟨s2.1, .inr ?_, s2.2.2⟩
          have h5 := hw3 a z h
          cases y : j.e.H0 a with
          | none => rfl
          | some o => exact absurd h5 (rel.stay a (by rw [y]; simp))
    · cases z : W a with
      | some p =>
        rw [hw2 a p z] at h
        cases h
        exact rel.fresh a r q z
      | none =>
        refine .inl ?_
        have h5 := hw3 a z (by rw [h]; simp)
        cases y : j.e.H0 a with
        | none => rfl
        | some o => exact absurd h5 (rel.stay a (by rw [y]; simp))
    · rcases rb'.new b h with h4 | h4
      · exact rel.new b h4
      · refine .inr ?_
        cases y : j.e.H0 b with
        | none => rfl
        | some o =>
          have h6 : H b ≠ none := rel.stay b (by rw [y]; simp)
          have h7 : b ≠ x := fun e => h6 (e ▸ nx)
          have h8 : b ≠ dx := fun e => h6 (e ▸ nd)
          rw [show (⟨H2, F, Wc, pinOf [0] (.ref x :: vs)⟩ : Ent).H0 b = H2 b from rfl, h2o b h7 h8] at h4
          exact absurd h4 h6
    · have h6 : H b ≠ none := rel.stay b h
      cases y : H b with
      | none => exact absurd y h6
      | some o => rw [keep b o y]; simp
    · obtain ⟨v, h4, h5⟩ := rel.slot i d h1 h3
      exact ⟨v, h4, h5.tr rb'.exF0 fun a q z => ⟨hw2 a _ z, keep a⟩⟩
  cases o : G (.mi c [] :: ds) with
  | bad => rw [o] at q; exact q.elim
  | exc cn fs outs =>
    rw [o] at q
    intro W' F' H' cls dd rb' xr _
    exact q W F' H' cls dd (back rb' (fun a h => .inl h) (fun a p h => h) (fun a h1 h3 => absurd h1 h3) fun _ _ _ _ _ => trivial) rb'.exF0 xr
  | ret d outs =>
    rw [o] at q
    intro W' F' H' v rb' pv oo
    have hd : d = .non := by
      cases d with
      | non => rfl
      | _ => exact q.elim
    subst hd
    have hv : v = .non := by
      cases pv with
      | fz h => cases h; rfl
    refine ⟨hv, ?_⟩
    match outs, q with
    | [d], q =>
      have q : AtO (mo X) j F σ (if ownd d = true then .ok d env else .bad) Q := q
      by_cases hw : ownd d = true
      case neg =>
        rw [if_neg hw] at q
        exact q.elim
      rw [if_pos hw] at q
      have hd : d ≠ .unb := fun e => by rw [e] at hw; cases hw
      obtain ⟨v', e1, e2⟩ := oo 0 0 d rfl rfl hd
      cases e1
      have nw : ∀ a q, W' a = some (1 :: q) → W a = none := fun a q h => by
        cases z : W a with
        | none => rfl
        | some p =>
          have s1 := (rb'.sep a (by rw [h]; simp)).2.1
          obtain ⟨h5, h6⟩ := hW a (by rw [z]; simp)
          rcases s1 with s1 | s1
          · exact absurd (if_neg fun y => y.elim h5 h6) s1
          · rw [show (⟨H2, F, Wc, pinOf [0] (.ref x :: vs)⟩ : Ent).H0 a = H2 a from rfl, h2o a h5 h6] at s1
            exact absurd s1 (rel.sep a (by rw [z]; simp)).2.2
      refine q (newI W W') F' H' (.ref x) (back rb' (fun a h => ?_) (fun a p h => ?_) (fun a h1 h3 => ?_) fun _ _ _ _ _ => trivial) rb'.exF0 (e2.tr (Ex.refl F') fun a r z => ⟨?_, fun o h => h⟩)
      · unfold newI at h
        cases z : W a with
        | some p => exact .inl (by simp)
        | none =>
          rw [z] at h
          refine .inr fun y => ?_
          rw [y] at h
          exact h rfl
      · unfold newI
        rw [h]
      · unfold newI at h3
        rw [h1] at h3
        simp only at h3
        have h4 : W' a ≠ none := fun y => by
          rw [y] at h3
          exact h3 rfl
        rcases (rb'.sep a h4).2.1 with s1 | s1
        · rcases wo a s1 with rfl | rfl
          · exact nx
          · exact nd
        · have s1 : H2 a = none := s1
          cases y : H a with
          | none => rfl
          | some o => rw [hEx a o y] at s1; cases s1
      · have z : W' a = some (1 :: r) := z
        unfold newI
        rw [nw a r z, z]
        rfl
/-- a class that is made -/
structure MakeOk (M : Mo) (c : Str) : Prop where
  mkr : Mk M.K (He.ga M.K c) (He.ma M.K (He.ga M.K c) "__init__")
  g : M.mg c = some (.ref (He.ga M.K c))
section
variable {X : Cx} {j : J} {d : He.DefD} {fd : FuncData} {ps : List Str} {G : List D → FR} {k m n : Nat} {c : Str} {pos p : Pos} {e : Expr} {es : List Expr} {dl : List D → R (List D)}
theorem o_make (F : Df X.prog X.w X.K X.mg X.base d fd ps [0] G k) (hb : Binds X.K fd ps []) (hat : He.fAd X.K d.at_ = He.ma X.K (He.ga X.K c) "__init__") (T : MakeOk (mo X) c) (hr : Room m X.A) (tk : Takes X j.wx) (ha : DL X j (e :: es) dl) (hn : ps.length = n := by rfl) (hk : k + 1 ≤ m := by decide)
    (hg : Gl X c := by rfl) (hdb : (c == ("__debug__" : Str)) = false := by decide) (he : starEach (e :: es) X.env = (false, eval e X.env) :: starEach es X.env := by rfl) (hpl : (backTo pos (starEach es X.env)).any (·.1) = false := by rfl) :
    DO X j (.Call (.Name c p) (e :: es) [] pos) (makeO c n G dl) := by
  subst hn
  have ok := F.ok
  rw [hat] at ok
  exact PE.mono (pe_makeP T.mkr ok (hr.mono hk) hg T.g hb (fun σ => passAt tk σ) ha hdb he hpl) fun σ H Q ⟨W, F', env, rel, q⟩ => ⟨W, F', env, rel, AtO.bind q fun ds env1 W1 F1 H1 vs _ r1 x1 p1 q1 => fun x dx nx nd ne => by
    by_cases hn : ds.length + 1 = ps.length
    · rw [if_pos hn] at q1
      exact make_at T.g r1 p1 hn nx nd ne q1
    · rw [if_neg hn] at q1
      exact q1.elim⟩
end
end DL
namespace DL
open PySem PySem.Spec PyProof.Rows L2
/-! ## dicts that a def owns: keys ints and texts -/
def keyD : D → Option Key
  | .int i => some (.inl i)
  | .str s => some (.inr s)
  | _ => none
theorem Rp.key {M : Mo} {F : Hp} {d : D} {v : V} {k : Key} (h : Rp M F d v) (e : keyD d = some k) : v = kV k := by
  cases h <;> first | (cases e; rfl) | cases e
def dictAt (env : List D) (i : Nat) : Option (List Key × List D) := match env.getD i .unb with
  | .md ks l => some (ks, l)
  | _ => none
theorem dictAt_some {env : List D} {i : Nat} {ks : List Key} {l : List D} (h : dictAt env i = some (ks, l)) : env[i]? = some (.md ks l) ∧ env.getD i .unb = .md ks l := by
  have e : env.getD i .unb = .md ks l := by
    unfold dictAt at h
    split at h
    · rename_i ks' l' hl
      cases h
      exact hl
    · cases h
  exact ⟨by rw [getD_get (by rw [e]; intro z; cases z), e], e⟩
theorem Rel.dict {M : Mo} {e : Ent} {W : Own} {F H : Hp} {env : List D} {σ : L2.St} {i : Nat} {ks : List Key} {l : List D} (r : Rel M e W F H env σ) (h : dictAt env i = some (ks, l)) :
    ∃ a kvs, σ[i]? = some (some (.ref a)) ∧ W a = some [i + 1] ∧ H a = some (.dK kvs) ∧ kvs.map (·.1) = ks ∧ OwL M W F H [i + 1] 0 l (kvs.map (·.2)) := by
  obtain ⟨v, h1, h2⟩ := r.slot i _ (dictAt_some h).1 (by intro z; cases z)
  cases h2 with
  | fz p => cases p
  | md w1 w2 w3 w4 => exact ⟨_, _, h1, w1, w2, w3, w4⟩
def putVs : List Key → List D → Key → D → List D
  | x :: ks, d :: l, k, e => (if x = k then e else d) :: putVs ks l k e
  | _, l, _, _ => l
def hasK (k : Key) (ks : List Key) : Bool := ks.any fun x => decide (x = k)
def putKs (ks : List Key) (k : Key) : List Key := if hasK k ks = true then ks else ks ++ [k]
def putDs (ks : List Key) (l : List D) (k : Key) (e : D) : List D := if hasK k ks = true then putVs ks l k e else l ++ [e]
def atKey : List Key → List D → Key → Option D
  | x :: ks, d :: l, k => if x = k then some d else atKey ks l k
  | _, _, _ => none
theorem putVs_ow {M : Mo} {W : Own} {F H : Hp} {d : D} {v : V} (p : Rp M F d v) (k : Key) : ∀ {q : List Nat} {m : Nat} {kvs : List (Key × V)} {l : List D}, OwL M W F H q m l (kvs.map (·.2)) →
    OwL M W F H q m (putVs (kvs.map (·.1)) l k d) ((kvs.map fun kv => if kv.1 = k then (kv.1, v) else kv).map (·.2))
  | _, _, [], _, .nil => .nil
  | _, _, (x, u) :: r, _, .cons h t => by
    simp only [List.map_cons]
    unfold putVs
    by_cases e : x = k
    · rw [if_pos e, if_pos e]
      exact .cons (.fz p) (putVs_ow p k t)
    · rw [if_neg e, if_neg e]
      exact .cons h (putVs_ow p k t)
theorem any_mem {k : Key} : ∀ kvs : List (Key × V), (kvs.any fun kv => decide (kv.1 = k)) = hasK k (kvs.map (·.1)) := fun kvs => by
  unfold hasK
  rw [List.any_map]
  rfl
theorem put_ow {M : Mo} {W : Own} {F H : Hp} {d : D} {v : V} (p : Rp M F d v) (k : Key) {q : List Nat} {kvs : List (Key × V)} {l : List D} (h : OwL M W F H q 0 l (kvs.map (·.2))) :
    (putK kvs k v).map (·.1) = putKs (kvs.map (·.1)) k ∧ OwL M W F H q 0 (putDs (kvs.map (·.1)) l k d) ((putK kvs k v).map (·.2)) := by
  unfold putK putKs putDs
  rw [any_mem]
  by_cases e : hasK k (kvs.map (·.1)) = true
  · rw [if_pos e, if_pos e, if_pos e]
    refine ⟨?_, putVs_ow p k h⟩
    rw [List.map_map]
    refine List.map_congr_left fun kv _ => ?_
    show (if kv.1 = k then (kv.1, v) else kv).1 = kv.1
    split <;> rfl
  · rw [if_neg e, if_neg e, if_neg e]
    refine ⟨by rw [List.map_append]; rfl, ?_⟩
    rw [List.map_append]
    exact h.snoc p
theorem valV_key {k : Key} (kvs : List (Key × V)) : (valV kvs k).isSome = hasK k (kvs.map (·.1)) := by rw [← valV_any, any_mem]
theorem valV_ow {M : Mo} {W : Own} {F H : Hp} {k : Key} : ∀ {q : List Nat} {m : Nat} {kvs : List (Key × V)} {l : List D} {d : D}, OwL M W F H q m l (kvs.map (·.2)) → atKey (kvs.map (·.1)) l k = some d → ∃ v n, valV kvs k = some v ∧ Ow M W F H (q ++ [n]) d v
  | _, _, [], _, _, .nil, e => by cases e
  | _, m, (x, u) :: r, _, d, .cons h t, e => by
    simp only [List.map_cons] at e
    unfold atKey at e
    by_cases hx : x = k
    · rw [if_pos hx] at e
      cases e
      exact ⟨u, m, valV_pos hx, h⟩
    · rw [if_neg hx] at e
      obtain ⟨v, n, h1, h2⟩ := valV_ow t e
      exact ⟨v, n, by rw [valV_neg hx]; exact h1, h2⟩
def dict0 : List D → R D := fun env => .ok (.md [] []) env
def dputD (i : Nat) (da dk : List D → R D) : List D → O := fun env => bindS (da env) fun d env1 => if (dictAt env1 i).isSome = true then bindS (dk env1) fun k env2 => match keyD k, dictAt env2 i with
  | some k, some (ks, l) => if l.length < sizeLine then .nx (env2.set i (.md (putKs ks k) (putDs ks l k d))) else .bad
  | _, _ => .bad
else .bad
def dinD (i : Nat) (dk : List D → R D) : List D → R D := fun env => bindR (dk env) fun k env1 => match keyD k, dictAt env1 i with
  | some k, some (ks, _) => .ok (.bl (hasK k ks)) env1
  | _, _ => .bad
def dnotinD (i : Nat) (dk : List D → R D) : List D → R D := fun env => bindR (dk env) fun k env1 => match keyD k, dictAt env1 i with
  | some k, some (ks, _) => .ok (.bl (!hasK k ks)) env1
  | _, _ => .bad
def dgetD (i : Nat) (dk : List D → R D) : List D → R D := fun env => if (dictAt env i).isSome = true then bindR (dk env) fun k env1 => match keyD k, dictAt env1 i with
  | some k, some (ks, l) => match atKey ks l k with
    | some d => if isOwn d = true then .bad else .ok d env1
    | none => .bad
  | _, _ => .bad
else .bad
section
variable {X : Cx} {j : J} {e b : Expr} {x : Str} {pos pos' px : Pos} {da dk : List D → R D} {k : Nat}
theorem o_dict0 : DO X j (.Dict [] [] pos) dict0 := PE.mono pe_dnewK fun σ H Q ⟨W, F, env, rel, q⟩ p n => q _ F _ _ (rel.newH n) (Ex.refl F) (.md newW_self upd_same rfl .nil)
theorem s_dput (i : Nat) (hu : X.A.units + 1 < cLine) (h : PE X (.Name x px) (tVar i)) (hk : DE X j b dk) (he : DE X j e da) (hs : swapsWith e (some (.Subscript (.Name x px) b pos')) pos.line X.env = pure false := by rfl) : DS X j (.Assign [.Subscript (.Name x px) b pos'] e pos) (dputD i da dk) :=
  PS.mono (ps_dput hu h hk he hs) fun Dn σ H ⟨W, F, env, rel, q⟩ => ⟨W, F, env, rel, AtS.bind q fun d env1 W1 F1 H1 v _ r1 x1 p1 q1 => by
    by_cases o : (dictAt env1 i).isSome = true
    · rw [if_pos o] at q1
      obtain ⟨⟨ks0, l0⟩, e0⟩ := Option.isSome_iff_exists.mp o
      obtain ⟨a0, kvs0, s0, _⟩ := r1.dict e0
      refine ⟨_, s0, W1, F1, env1, r1, AtS.bind q1 fun kd env2 W2 F2 H2 v2 _ r2 x2 p2 q2 => ?_⟩
      cases ok : keyD kd with
      | none => rw [ok] at q2; exact q2.elim
      | some k =>
        cases o2 : dictAt env2 i with
        | none => rw [ok, o2] at q2; exact q2.elim
        | some p =>
          obtain ⟨ks, l⟩ := p
          rw [ok, o2] at q2
          simp only at q2
          obtain ⟨a, kvs, s1, w1, h1, h2, ol⟩ := r2.dict o2
          rw [s0] at s1
          cases s1
          by_cases hz : l.length < sizeLine
          · rw [if_pos hz] at q2
            have ek := p2.key ok
            subst ek
            have hl : l.length = kvs.length := by rw [ol.length, List.length_map]
            refine ⟨_, _, rfl, .k h1 (by rw [← hl]; exact hz), q2 W2 F2 _ σ (r2.write w1 s0 ?_) (Ex.refl F2)⟩
            obtain ⟨e1, e2⟩ := put_ow (p1.mono x2) k (ol.upd (o := .dK (putK kvs k v)) w1 (Nat.le_refl _))
            rw [h2] at e1 e2
            exact .md w1 upd_same e1 e2
          · rw [if_neg hz] at q2
            exact q2.elim
    · rw [if_neg o] at q1
      exact q1.elim⟩
theorem din_at {σ : L2.St} {H : Hp} {Q : VK} {i : Nat} (h : tE (mo X) j (dinD i dk) σ H Q) : tDIn (tE (mo X) j dk) (tVar i) σ H Q := by
  obtain ⟨W, F, env, rel, q⟩ := h
  refine ⟨W, F, env, rel, At.bind q fun kd env1 W1 F1 H1 v _ r1 x1 p1 q1 => ?_⟩
  cases ok : keyD kd with
  | none => rw [ok] at q1; exact q1.elim
  | some k =>
    cases o2 : dictAt env1 i with
    | none => rw [ok, o2] at q1; exact q1.elim
    | some p =>
      obtain ⟨ks, l⟩ := p
      rw [ok, o2] at q1
      obtain ⟨a, kvs, s1, w1, h1, h2, ol⟩ := r1.dict o2
      have ek := p1.key ok
      subst ek
      refine ⟨_, s1, a, _, rfl, .k h1, ?_⟩
      rw [valV_key, h2]
      exact q1 W1 F1 H1 _ r1 (Ex.refl F1) (.bl _)
theorem dnotin_at {σ : L2.St} {H : Hp} {Q : VK} {i : Nat} (h : tE (mo X) j (dnotinD i dk) σ H Q) : tDNotIn (tE (mo X) j dk) (tVar i) σ H Q := by
  obtain ⟨W, F, env, rel, q⟩ := h
  refine ⟨W, F, env, rel, At.bind q fun kd env1 W1 F1 H1 v _ r1 x1 p1 q1 => ?_⟩
  cases ok : keyD kd with
  | none => rw [ok] at q1; exact q1.elim
  | some k =>
    cases o2 : dictAt env1 i with
    | none => rw [ok, o2] at q1; exact q1.elim
    | some p =>
      obtain ⟨ks, l⟩ := p
      rw [ok, o2] at q1
      obtain ⟨a, kvs, s1, w1, h1, h2, ol⟩ := r1.dict o2
      have ek := p1.key ok
      subst ek
      refine ⟨_, s1, a, _, rfl, .k h1, ?_⟩
      rw [valV_key, h2]
      exact q1 W1 F1 H1 _ r1 (Ex.refl F1) (.bl _)
theorem t_ofE {t : TE} (h : PT X e (tB t)) (k : ∀ σ H Q, tE (mo X) j da σ H Q → t σ H Q) : DT X j e (testD da) := t_of h k
theorem t_din (i : Nat) (hu : X.A.units + 1 < cLine) (hk : DE X j b dk) (h : PE X (.Name x px) (tVar i)) : DT X j (.Compare b [.In] [.Name x px] pos) (testD (dinD i dk)) := t_of (pt_cmp (pc_din hu hk h)) fun σ H Q h => din_at h
theorem t_dnotin (i : Nat) (hu : X.A.units + 1 < cLine) (hk : DE X j b dk) (h : PE X (.Name x px) (tVar i)) : DT X j (.Compare b [.NotIn] [.Name x px] pos) (testD (dnotinD i dk)) := t_of (pt_cmp (pc_dnotin hu hk h)) fun σ H Q h => dnotin_at h
theorem e_din (i : Nat) (hu : X.A.units + 1 < cLine) (hk : DE X j b dk) (h : PE X (.Name x px) (tVar i)) : DE X j (.Compare b [.In] [.Name x px] pos) (dinD i dk) := PE.mono (pe_cmp (pc_din hu hk h)) fun σ H Q h => din_at h
theorem e_dget (i : Nat) (hu : X.A.units + 1 < cLine) (h : PE X (.Name x px) (tVar i)) (hk : DE X j b dk) (hs : NoSl b) : DE X j (.Subscript (.Name x px) b pos) (dgetD i dk) :=
  PE.mono (pe_dget hu h hk hs) fun σ H Q ⟨W, F, env, rel, q⟩ => by
    have q : At (mo X) j.e j.wx (Rp (mo X)) F σ (dgetD i dk env) Q := q
    unfold dgetD at q
    by_cases o : (dictAt env i).isSome = true
    · rw [if_pos o] at q
      obtain ⟨⟨ks0, l0⟩, e0⟩ := Option.isSome_iff_exists.mp o
      obtain ⟨a0, kvs0, s0, _⟩ := rel.dict e0
      refine ⟨_, s0, W, F, env, rel, At.bind q fun kd env1 W1 F1 H1 v _ r1 x1 p1 q1 => ?_⟩
      cases ok : keyD kd with
      | none => rw [ok] at q1; exact q1.elim
      | some k =>
        cases o2 : dictAt env1 i with
        | none => rw [ok, o2] at q1; exact q1.elim
        | some p =>
          obtain ⟨ks, l⟩ := p
          rw [ok, o2] at q1
          simp only at q1
          obtain ⟨a, kvs, s1, w1, h1, h2, ol⟩ := r1.dict o2
          rw [s0] at s1
          cases s1
          have ek := p1.key ok
          subst ek
          cases o3 : atKey ks l k with
          | none => rw [o3] at q1; exact q1.elim
          | some d =>
            rw [o3] at q1
            simp only at q1
            cases oo : isOwn d with
            | true => rw [oo, if_pos rfl] at q1; exact q1.elim
            | false =>
              rw [oo, if_neg (by simp)] at q1
              rw [← h2] at o3
              obtain ⟨u, n, h5, h6⟩ := valV_ow ol o3
              exact ⟨_, u, rfl, by rw [← h5]; exact .k h1, q1 W1 F1 H1 u r1 (Ex.refl F1) (h6.rp oo)⟩
    · rw [if_neg o] at q
      exact q.elim
end
end DL
namespace DL
open PySem PySem.Spec PyProof.Rows L2
/-! ## what the head tells of classes -/
section
variable {fa : List He.Fa} {fn : List He.DefD} {ex : PySem.W.Frag → Bool} {K : PySem.W.Frag} {mg : Str → Option Value}
theorem Ctx.fld (c : Ctx fa fn ex K mg) (i k n : Nat) {x f : Str} {m : Nat} (e : fa[i]? = some (.glo x) := by rfl) (e2 : fa[k]? = some (.cls x) := by rfl) (e3 : fa[n]? = some (.noat x f) := by rfl) (ix : fldIx x f = some m := by rfl) (nd : (flds x).Nodup := by decide) : FldOk ⟨K, mg⟩ x f m :=
  ⟨ix, nd, He.cls_ok (c.d.fact k e2), He.noat_ok (c.d.fact n e3), c.glo i e⟩
theorem Ctx.meth (c : Ctx fa fn ex K mg) (i k n : Nat) {x f : Str} (e : fa[i]? = some (.glo x) := by rfl) (e2 : fa[k]? = some (.cls x) := by rfl) (e3 : fa[n]? = some (.meth x f) := by rfl) (no : f ∉ flds x := by decide) : MethOk ⟨K, mg⟩ x f :=
  ⟨He.cls_ok (c.d.fact k e2), He.meth_ok (c.d.fact n e3), no, c.glo i e⟩
theorem Ctx.make (c : Ctx fa fn ex K mg) (i k : Nat) {x : Str} (e : fa[i]? = some (.glo x) := by rfl) (e2 : fa[k]? = some (.mkr x) := by rfl) : MakeOk ⟨K, mg⟩ x := ⟨He.mkr_ok (c.d.fact k e2), c.glo i e⟩
end
/-- an exception class with fields, looked at -/
def oexB (K : PySem.W.Frag) (C : Addr) : Bool := match K.lookup C with
  | some ⟨.type "type", _, .cls cd, sl⟩ => (match cd.mro, sl.toList with
    | .ref C' :: bm, [_, _, _, _, some (.builtin n), _] => C' == C && (n == "ValueError.__new__" && (!cd.hasDel && (cd.hasDict && PySem.HandSPX.refsVE bm)))
    | _, _ => false)
  | _ => false
theorem oexB_ok {K : PySem.W.Frag} {C : Addr} (q : oexB K C = true) : ∃ nm q' N bs bm sn sub ab col dd k0 k1 k2 k3 k5, K.lookup C = some (excClassObj nm q' C N bs bm true sn sub ab col dd k0 k1 k2 k3 k5 "ValueError.__new__") ∧ PySem.HandSPX.refsVE bm = true := by
  unfold oexB at q
  split at q
  · rename_i dd cd sl ho
    split at q
    · rename_i C' bm k0 k1 k2 k3 n k5 hm hs
      obtain ⟨h1, q⟩ := He.ba q
      obtain ⟨h2, q⟩ := He.ba q
      obtain ⟨h3, q⟩ := He.ba q
      obtain ⟨h4, h5⟩ := He.ba q
      have h1 := eq_of_beq h1
      have h2 := eq_of_beq h2
      obtain ⟨nm, bs, mro, ns, qn, hd, sn, sub, ab, col, del⟩ := cd
      dsimp only at hm h3 h4
      have h3 : del = false := by simpa using h3
      subst h1 h2 h3 h4 hm
      have hsl : sl = #[k0, k1, k2, k3, some (.builtin "ValueError.__new__"), k5] := by
        obtain ⟨l⟩ := sl
        simp only at hs
        rw [hs]
      subst hsl
      exact ⟨nm, qn, ns, bs, bm, sn, sub, ab, col, dd, k0, k1, k2, k3, k5, ho, h5⟩
    · cases q
  · cases q
/-- all that is asked of the class c, its __init__ -/
def xkfB (c : Str) (K : PySem.W.Frag) : Bool := oexB K (He.ga K c) && (He.eqO (PySem.W.findIn K (.ref (He.ga K c)) "__setattr__") (some (some (.builtin "object.__setattr__"))) && (decide (PySem.W.subIn K (.ref (He.ga K c)) (.type "BaseException") = some true) &&
  (decide (PySem.W.typeIn K (.ref (He.ga K c)) = some (.type "type")) && (PySem.W.keepIn K (.ref (He.ga K c)) && (He.eqO (PySem.W.findIn K (.ref (He.ga K c)) "__init__") (some (some (.ref (He.ma K (He.ga K c) "__init__")))) &&
  (decide (PySem.W.typeIn K (.ref (He.ma K (He.ga K c) "__init__")) = some (.type "function")) && (eflds c).all fun f => He.eqO (PySem.W.findIn K (.ref (He.ga K c)) f) (some none)))))))
theorem xkfB_ok {c : Str} {K : PySem.W.Frag} {mg : Str → Option Value} (h : xkfB c K = true) (g : mg c = some (.ref (He.ga K c))) : XKf ⟨K, mg⟩ c (He.ga K c) (He.ma K (He.ga K c) "__init__") := by
  obtain ⟨h1, h⟩ := He.ba h
  obtain ⟨h2, h⟩ := He.ba h
  obtain ⟨h3, h⟩ := He.ba h
  obtain ⟨h4, h⟩ := He.ba h
  obtain ⟨h5, h⟩ := He.ba h
  obtain ⟨h6, h⟩ := He.ba h
  obtain ⟨h7, h8⟩ := He.ba h
  exact ⟨g, ⟨oexB_ok h1, He.eqO_ok h2, of_decide_eq_true h3, of_decide_eq_true h4, h5⟩, He.eqO_ok h6, of_decide_eq_true h7, fun f hf => He.eqO_ok (List.all_eq_true.mp h8 f hf)⟩
section
variable {P : Program} {w : World} {K : PySem.W.Frag} {mg : Str → Option Value} {base : Heap}
/-- __init__ of an exception as the head tells of it -/
theorem initD1 {qual f x : Str} {params : Arguments} {body : List Stmt} {scope : Scope} {fI C : Addr} {fd : FuncData} {p1 p2 p3 p4 : Pos} (F : FunD K "__init__" qual params body scope [] [] fI fd) (S : FnScope ["self", x] ["self", x] scope)
    (hb : body = [.Assign [.Attribute (.Name "self" p1) f p2] (.Name x p3) p4]) (h1 : Vis scope "self") (h2 : Vis scope x) (hx : (x == ("__debug__" : Str)) = false) (hx2 : (x == ("__classdict__" : Str)) = false) : FnOk P w K mg base CX0 1 fI fd ["self", x] (spX K C [f]) := by
  subst hb
  refine F.ok S (fun vs H Q E h => ?_) (fun cdv A outer s H vs Q E hr h => ?_)
  · obtain ⟨a, ws, rfl, hl, _⟩ := h
    simpa using hl
  · obtain ⟨a, ws, rfl, hl, T, no, ha, q⟩ := h
    match ws, hl with
    | [v], _ => exact ⟨_, pss_one (ps_ost (pe_var (i := 0) rfl h1) (pe_var (i := 1) rfl h2 hx hx2)), v, rfl, .ref a, rfl, a, C, rfl, T, no f List.mem_cons_self, .inl ⟨ha, fun d nd hd => q d nd hd⟩⟩
theorem initD2 {qual f g x y : Str} {params : Arguments} {body : List Stmt} {scope : Scope} {fI C : Addr} {fd : FuncData} {p1 p2 p3 p4 q1 q2 q3 q4 : Pos} (F : FunD K "__init__" qual params body scope [] [] fI fd) (S : FnScope ["self", x, y] ["self", x, y] scope)
    (hb : body = [.Assign [.Attribute (.Name "self" p1) f p2] (.Name x p3) p4, .Assign [.Attribute (.Name "self" q1) g q2] (.Name y q3) q4]) (h1 : Vis scope "self") (h2 : Vis scope x) (h3 : Vis scope y) (hx : (x == ("__debug__" : Str)) = false) (hx2 : (x == ("__classdict__" : Str)) = false)
    (hy : (y == ("__debug__" : Str)) = false) (hy2 : (y == ("__classdict__" : Str)) = false) : FnOk P w K mg base CX0 1 fI fd ["self", x, y] (spX K C [f, g]) := by
  subst hb
  refine F.ok S (fun vs H Q E h => ?_) (fun cdv A outer s H vs Q E hr h => ?_)
  · obtain ⟨a, ws, rfl, hl, _⟩ := h
    simpa using hl
  · obtain ⟨a, ws, rfl, hl, T, no, ha, q⟩ := h
    match ws, hl with
    | [v, w'], _ =>
      refine ⟨_, pss_cons (ps_ost (pe_var (i := 0) rfl h1) (pe_var (i := 1) rfl h2 hx hx2)) (pss_one (ps_ost (pe_var (i := 0) rfl h1) (pe_var (i := 2) rfl h3 hy hy2))), v, rfl, .ref a, rfl, a, C, rfl, T, no f List.mem_cons_self, .inl ⟨ha, fun d nd hd => ?_⟩⟩
      refine ⟨w', rfl, .ref a, rfl, a, C, rfl, T, no g (List.mem_cons_of_mem _ List.mem_cons_self), .inr ⟨d, [(f, v)], upd_same, ?_, by show 1 ≤ 900; decide, ?_⟩⟩
      · rw [upd_ne hd, upd_same]
      · have e : upd (upd (upd H d (exd d [(f, v)])) a (exo a C (some d))) d (exd d ((g, w') :: [(f, v)])) = upd (upd H d (exd d [(g, w'), (f, v)])) a (exo a C (some d)) := by
          funext b
          unfold upd
          by_cases hb : b = d
          · subst hb
            rw [if_pos rfl, if_neg hd, if_pos rfl]
          · rw [if_neg hb, if_neg hb]
            by_cases hba : b = a
            · rw [if_pos hba, if_pos hba]
            · rw [if_neg hba, if_neg hba, if_neg hb]
        rw [e]
        exact q d nd hd
end
/-! ## the caught exception: its fields, isinstance -/
def xfldD (fs : List D) (k : Nat) : List D → R D := fun env => match fs[k]? with
  | some d => .ok d env
  | none => .bad
theorem rev_get {α : Type} {l : List α} {k : Nat} {x : α} (h : l[k]? = some x) : l.reverse[l.length - 1 - k]? = some x := by
  have hk := (List.getElem?_eq_some_iff.mp h).1
  rw [List.getElem?_reverse (by omega)]
  rw [show l.length - 1 - (l.length - 1 - k) = k by omega]
  exact h
section
variable {X : Cx}
theorem e_xfld (i : Nat) {x n : Str} {a C : Addr} {oe : Obj} {cn : Str} {fs : List D} {es : Ent} {pn : List (Addr × Obj)} {wx : WX} {d : Option Addr} {px pos : Pos} {k : Nat} (hc : Caught X es i a oe cn fs (.ref C) d) (T : XfC X.K C) (hno : PySem.W.findIn X.K (.ref C) n = some none)
    (hx : PE (X.suite a ((a, oe) :: pn)) (.Name x px) (tVar i)) (hk : (eflds cn)[k]? = some n := by rfl) (nd : (eflds cn).reverse.Nodup := by decide) (hb : attributeBase (.Name x px) n X.env (eval (.Name x px) X.env) = eval (.Name x px) X.env := by rfl) :
    DE (X.suite a ((a, oe) :: pn)) ⟨es, wx⟩ (.Attribute (.Name x px) n pos) (xfldD fs k) :=
  PE.mono (pe_xf T hno hc.zc hc.fl hx hb) fun σ H Q ⟨W, F, env, rel, q⟩ => by
    have q : At (mo X) es wx (Rp (mo X)) F σ (xfldD fs k env) Q := q
    unfold xfldD at q
    cases o : fs[k]? with
    | none => rw [o] at q; exact q.elim
    | some z =>
      rw [o] at q
      obtain ⟨C', h1, h2, h3⟩ := hc.xr
      rcases h3 with ⟨h3, h4, _⟩ | ⟨dx, gs, h0, h3, h4, h5, h6⟩
      · rw [h4] at hk
        cases hk
      · have hl : fs.length = gs.length := by
          have := h6.length
          rwa [List.length_reverse, List.length_map] at this
        have hle : (eflds cn).length = gs.length := by
          have := congrArg List.length h5
          rw [List.length_map, List.length_reverse] at this
          exact this.symm
        have g1 := rev_get o
        obtain ⟨v, g2, g3⟩ := h6.get g1
        have g4 := rev_get hk
        rw [← h5, hle, ← hl] at g4
        have g5 : gs.lookup n = some v := lookup_at (by rw [h5]; exact nd) g4 g2
        exact ⟨.ref a, rel.pin i _ hc.pin, rfl, rfl, dx, gs, v, h3, rel.exF _ _ (rel.exF0 _ _ h4), g5, q W F H v rel (Ex.refl F) (g3.mono rel.exF0)⟩
/-- isinstance(e, C) of any caught exception of the program -/
theorem call_isEx {a C : Addr} {oe : Obj} {pn : List (Addr × Obj)} {es : Ent} {i : Nat} {cn : Str} {fs : List D} {d : Option Addr} (T : ExcC X.K C) (hc : Caught X es i a oe cn fs (.ref C) d) :
    CallR (X.suite a ((a, oe) :: pn)) (.builtin "isinstance") (fun xs H Q => ∃ (c : V) (cv : Value) (b : Bool), xs = [.ref a, c] ∧ (∀ u, RelV c u → u = cv) ∧ PySem.W.kitOne X.K (.ref C) cv = some b ∧ (∀ dx, d = some dx → ∃ gs, H dx = some (.xd gs)) ∧ Q (.bl b) H) := by
  intro pins s σ H xs us Q I r h
  obtain ⟨c, cv, b, rfl, hcv, e, hdx, q⟩ := h
  cases r with
  | cons rx rr =>
    cases rr with
    | cons rt rr =>
      cases rr
      cases rx
      have ec := hcv _ rt
      subst ec
      obtain ⟨hget, _⟩ := I.pin (a, oe) (List.mem_append.mpr (.inl List.mem_cons_self))
      obtain ⟨vs, hv⟩ := hc.fl
      have hz := hc.zc
      have hcl : (PySem.W.clsIn X.K C).isSome = true := by
        obtain ⟨cd, h1, _⟩ := PySem.W.any_some T.hd
        rw [h1]
        rfl
      have J : ∃ od, PySem.W.InstAt s.heap a oe C od := by
        cases d with
        | none =>
          obtain ⟨oc, od, oda, osl⟩ := oe
          obtain ⟨h1, h2⟩ := hz
          dsimp only at h1 h2 hv
          subst h1 h2 hv
          exact ⟨none, hget, rfl, rfl, trivial⟩
        | some dx =>
          obtain ⟨gs, hg⟩ := hdx dx rfl
          have hx : ObjOk X.prog X.w H s.heap dx (.xd gs) := I.hok dx _ hg
          obtain ⟨mA, hns, hr⟩ := hx
          obtain ⟨od, ho, hl⟩ := lookIn_ns hns
          exact ⟨some od, hget, hz.1, by unfold PySem.W.notCls; rw [hv] <;> rfl, by rw [hz.2]; exact ho⟩
      obtain ⟨od, J⟩ := J
      exact PySem.W.kia_one (PySem.W.kitx_exc hcl T.hg T.hk T.hs T.ha T.hn T.ht T.hm) I.kIn J e (fun z => nomatch z) fun tk => ⟨.bl b, H, I.kept (t' := tk) fun _ _ z => z, rfl, q⟩
theorem e_isX (i : Nat) {x : Str} {cV : V} {cv : Value} {C : Addr} {b : Bool} {a : Addr} {oe : Obj} {cn : Str} {fs : List D} {es : Ent} {pn : List (Addr × Obj)} {wx : WX} {c : Expr} {p q pos : Pos} {dd : Option Addr} (hc : Caught X es i a oe cn fs (.ref C) dd) (T : ExcC X.K C) (hg : Gl X "isinstance") (hm : X.mg "isinstance" = none)
    (hx : PE (X.suite a ((a, oe) :: pn)) (.Name x p) (tVar i)) (hcv : PE (X.suite a ((a, oe) :: pn)) c (tC cV)) (hr : ∀ u, RelV cV u → u = cv) (hk : PySem.W.kitOne X.K (.ref C) cv = some b)
    (hs2 : starEach [c] X.env = (false, eval c X.env) :: starEach [] X.env := by rfl) (he : starEach [.Name x p, c] X.env = (false, eval (.Name x p) X.env) :: starEach [c] X.env := by rfl) (hpl : (backTo pos (starEach [c] X.env)).any (·.1) = false := by rfl) :
    DE (X.suite a ((a, oe) :: pn)) ⟨es, wx⟩ (.Call (.Name "isinstance" q) [.Name x p, c] [] pos) (constD (.bl b)) :=
  PE.mono (pe_callB (call_isEx T hc) hg hm (by rfl) (pa_cons hx (pa_cons hcv pa_nil hs2) he) (by decide) (by decide) he hpl) fun σ H Q ⟨W, F, env, rel, q⟩ =>
    ⟨.ref a, rel.pin i _ hc.pin, cV, cv, b, rfl, hr, hk, fun dx e => by
      obtain ⟨C', h1, h2, h3⟩ := hc.xr
      rcases h3 with ⟨_, _, h3⟩ | ⟨dx', gs, h0, h3, h4, _⟩
      · rw [h3] at e
        cases e
      · rw [h3] at e
        cases e
        exact ⟨gs, rel.exF _ _ (rel.exF0 _ _ h4)⟩, q W F H _ rel (Ex.refl F) (.bl b)⟩
end
end DL
namespace DL
open PySem PySem.Spec PyProof.Rows L2
/-! ## for the walks that gen.py prints -/
/-- a def of a class's body -/
def inCls (s : Stmt) (k : Nat) : Stmt := match s with
  | .ClassDef _ _ _ body _ _ _ _ _ _ _ => body.getD k (.Pass ⟨0, 0, 0, 0⟩)
  | _ => .Pass ⟨0, 0, 0, 0⟩
section
variable {fa : List He.Fa} {fn : List He.DefD} {ex : PySem.W.Frag → Bool} {X : Cx} {j : J} {x : Str} {pos : Pos}
/-! constants of the module -/
theorem g_int (c : Ctx fa fn ex X.K X.mg) (i : Nat) {n : Int} (hg : Gl X x := by rfl) (e : fa[i]? = some (.int x n) := by rfl) (hd : (x == ("__debug__" : Str)) = false := by decide) : DE X j (.Name x pos) (constD (.int n)) := by
  obtain ⟨t, h⟩ := c.int i e
  exact e_glob (v := .int n) hg h ⟨t, rfl⟩ (fun F => .int n) hd
theorem g_str (c : Ctx fa fn ex X.K X.mg) (i : Nat) {n : Str} (hg : Gl X x := by rfl) (e : fa[i]? = some (.str x n) := by rfl) (hd : (x == ("__debug__" : Str)) = false := by decide) : DE X j (.Name x pos) (constD (.str n)) := by
  obtain ⟨t, h⟩ := c.str i e
  exact e_glob (v := .str n) hg h ⟨t, rfl⟩ (fun F => .str n) hd
def dvD : He.Dv → D
  | .bl b => .bl b
  | .int i => .int i
  | .str s => .str s
  | _ => .non
def dvOk : He.Dv → Bool
  | .non => true
  | .bl _ => true
  | .int _ => true
  | .str _ => true
  | _ => false
theorem rp_dv {M : Mo} {F : Hp} : ∀ {vs : List He.Dv}, vs.all dvOk = true → RpL M F (vs.map dvD) (vs.map (He.Dv.v M.K))
  | [], _ => .nil
  | v :: r, h => by
    obtain ⟨h1, h2⟩ := Bool.and_eq_true_iff.mp (show (dvOk v && r.all dvOk) = true from h)
    refine .cons ?_ (rp_dv h2)
    cases v <;> first | cases h1 | skip
    · exact .non
    · exact .bl _
    · exact .int _
    · exact .str _
theorem g_tupC (c : Ctx fa fn ex X.K X.mg) (i : Nat) {vs : List He.Dv} (hb : He.tupB X.K x vs = true) (hv : vs.all dvOk = true := by rfl) (hg : Gl X x := by rfl) (e : fa[i]? = some (.glo x) := by rfl) (hd : (x == ("__debug__" : Str)) = false := by decide) : DE X j (.Name x pos) (constD (.tup (vs.map dvD))) :=
  e_glob (v := .ref (He.ga X.K x)) hg (c.glo i e) rfl (fun F => .tup (He.tupB_ok hb F) (rp_dv hv)) hd
theorem g_lstC (c : Ctx fa fn ex X.K X.mg) (i : Nat) {vs : List He.Dv} (hb : He.lstB X.K x vs = true) (hv : vs.all dvOk = true := by rfl) (hg : Gl X x := by rfl) (e : fa[i]? = some (.glo x) := by rfl) (hd : (x == ("__debug__" : Str)) = false := by decide) : DE X j (.Name x pos) (constD (.lst (vs.map dvD))) :=
  e_glob (v := .ref (He.ga X.K x)) hg (c.glo i e) rfl (fun F => .lst (He.lstB_ok hb F) (rp_dv hv)) hd
end
theorem nilD_len {env l env1 : List D} (e : nilD env = .ok l env1) : l.length = 0 := by
  cases e
  rfl
theorem consD_len {n : Nat} {da : List D → R D} {dl : List D → R (List D)} (h : ∀ env l env1, dl env = .ok l env1 → l.length = n) (env l env1 : List D) (e : consD da dl env = .ok l env1) : l.length = n + 1 := by
  unfold consD at e
  cases o : da env with
  | ok x e1 =>
    rw [o] at e
    simp only [bindR_ok] at e
    cases o2 : dl e1 with
    | ok xs e2 =>
      rw [o2] at e
      cases e
      exact congrArg (· + 1) (h _ _ _ o2)
    | ex c fs e2 => rw [o2] at e; cases e
    | bad => rw [o2] at e; cases e
  | ex c fs e1 => rw [o] at e; cases e
  | bad => rw [o] at e; cases e
/-- the suites of a clause, by the class that came -/
def pickD (l : List (Str × (List D → List D → O))) (cn : Str) (fs : List D) : List D → O := match l.lookup cn with
  | some d => d fs
  | none => fun _ => .bad
theorem caughtC {X : Cx} {es : Ent} {i : Nat} {a : Addr} {oe : Obj} {cn : Str} {fs : List D} {cls : Value} {d : Option Addr} {C : Addr} (h : Caught X es i a oe cn fs cls d) (g : X.mg cn = some (.ref C)) : cls = .ref C := by
  obtain ⟨C', h1, h2, h3⟩ := h.xr
  rw [show (mo X).mg cn = some (.ref C) from g] at h2
  cases h2
  exact h1
/-- a class in an except clause of the class x -/
theorem Room.units65 {k : Nat} {A : Around} (r : Room k A) : A.units + 65 < cLine := by
  have := r.un
  omega
theorem Room.units1 {k : Nat} {A : Around} (r : Room k A) : A.units + 1 < cLine := by
  have := r.un
  omega
/-- the fields of a class that are asked of a caught exception -/
def xfsB (c : Str) (K : PySem.W.Frag) : Bool := xfB K (He.ga K c) && (eflds c).all fun f => He.eqO (PySem.W.findIn K (.ref (He.ga K c)) f) (some none)
theorem xfsB_ok {c : Str} {K : PySem.W.Frag} (h : xfsB c K = true) : XfC K (He.ga K c) ∧ ∀ f ∈ eflds c, PySem.W.findIn K (.ref (He.ga K c)) f = some none := by
  obtain ⟨h1, h2⟩ := He.ba h
  exact ⟨xfB_ok h1, fun f hf => He.eqO_ok (List.all_eq_true.mp h2 f hf)⟩
/-! ## an owned thing looked at as it stands then: ==, isinstance -/
def notUnb : D → Bool
  | .unb => false
  | _ => true
theorem notUnb_some {env : List D} {i : Nat} (h : notUnb (env.getD i .unb) = true) : env[i]? = some (env.getD i .unb) ∧ env.getD i .unb ≠ .unb := by
  have h2 : env.getD i .unb ≠ .unb := fun e => by
    rw [e] at h
    cases h
  exact ⟨getD_get h2, h2⟩
/-- an answer that is no object -/
def flatR (env : List D) : Option D → R D
  | some (.bl b) => .ok (.bl b) env
  | some (.int b) => .ok (.int b) env
  | _ => .bad
theorem flatR_at {M : Mo} {j : J} {σ : L2.St} {F H : Hp} {env : List D} {Q : VK} {W : Own} {o : Option D} (h : At M j.e j.wx (Rp M) F σ (flatR env o) Q) (r : Rel M j.e W F H env σ) : ∃ z, o = some z ∧ ∀ F' H' w, Grow H H F' H' → Rp M F' z w → Q w H' := by
  match o, h with
  | some (.bl b), h => exact ⟨_, rfl, fun F' H' w g p => by
      cases p
      exact h W F H' _ (r.grow ⟨Ex.refl F, g.exH, r.exF.trans g.exH, fun b h => .inl h⟩) (Ex.refl F) (.bl b)⟩
  | some (.int b), h => exact ⟨_, rfl, fun F' H' w g p => by
      cases p
      exact h W F H' _ (r.grow ⟨Ex.refl F, g.exH, r.exF.trans g.exH, fun b h => .inl h⟩) (Ex.refl F) (.int b)⟩
theorem Ow.rpH {M : Mo} {W : Own} {F H : Hp} (e : Ex F H) {p : List Nat} {d : D} {v : V} (h : Ow M W F H p d v) : Rp M H (DL.frz d) v := h.frz e fun a q o _ y => y
def cmpL (f : D → D → Option D) (i : Nat) (db : List D → R D) : List D → R D := fun env => if notUnb (env.getD i .unb) = true then bindR (db env) fun y env1 => if notUnb (env1.getD i .unb) = true then flatR env1 (f (frz (env1.getD i .unb)) y) else .bad else .bad
def cmpR (f : D → D → Option D) (i : Nat) (da : List D → R D) : List D → R D := fun env => bindR (da env) fun x env1 => if notUnb (env1.getD i .unb) = true then flatR env1 (f x (frz (env1.getD i .unb))) else .bad
def isiO (T : String) (i : Nat) : List D → R D := fun env => if notUnb (env.getD i .unb) = true then flatR env (isiD T (frz (env.getD i .unb))) else .bad
section
variable {X : Cx} {j : J} {a b : Expr} {x : Str} {px pos p q : Pos} {da db : List D → R D}
theorem cmpL_at {f : D → D → Option D} {σ : L2.St} {H : Hp} {Q : VK} {i : Nat} (h : tE (mo X) j (cmpL f i db) σ H Q) : tOp (rOpD X f) (tVar i) (tE (mo X) j db) σ H Q := by
  obtain ⟨W, F, env, rel, q⟩ := h
  have q : At (mo X) j.e j.wx (Rp (mo X)) F σ (cmpL f i db env) Q := q
  unfold cmpL at q
  by_cases ho : notUnb (env.getD i .unb) = true
  · rw [if_pos ho] at q
    obtain ⟨h1, h2⟩ := notUnb_some ho
    obtain ⟨v, h3, _⟩ := rel.slot i _ h1 h2
    refine ⟨v, h3, W, F, env, rel, At.bind q fun y env1 W1 F1 H1 v1 _ r1 x1 p1 q1 => ?_⟩
    by_cases hw : notUnb (env1.getD i .unb) = true
    · rw [if_pos hw] at q1
      obtain ⟨h5, h6⟩ := notUnb_some hw
      obtain ⟨v', h7, h8⟩ := r1.slot i _ h5 h6
      rw [h3] at h7
      cases h7
      obtain ⟨z, e, k⟩ := flatR_at q1 r1
      exact ⟨H1, _, y, z, Ex.refl H1, h8.rpH r1.exF, p1.mono r1.exF, e, k⟩
    · rw [if_neg hw] at q1
      exact q1.elim
  · rw [if_neg ho] at q
    exact q.elim
theorem cmpR_at {f : D → D → Option D} {σ : L2.St} {H : Hp} {Q : VK} {i : Nat} (h : tE (mo X) j (cmpR f i da) σ H Q) : tOp (rOpD X f) (tE (mo X) j da) (tVar i) σ H Q := by
  obtain ⟨W, F, env, rel, q⟩ := h
  refine ⟨W, F, env, rel, At.bind q fun y env1 W1 F1 H1 v1 _ r1 x1 p1 q1 => ?_⟩
  by_cases hw : notUnb (env1.getD i .unb) = true
  · rw [if_pos hw] at q1
    obtain ⟨h5, h6⟩ := notUnb_some hw
    obtain ⟨v', h7, h8⟩ := r1.slot i _ h5 h6
    obtain ⟨z, e, k⟩ := flatR_at q1 r1
    exact ⟨v', h7, H1, y, _, z, Ex.refl H1, p1.mono r1.exF, h8.rpH r1.exF, e, k⟩
  · rw [if_neg hw] at q1
    exact q1.elim
theorem tst_at {d : List D → R D} {σ : L2.St} {H : Hp} {Q : Bool → Hp → Prop} {t : TE} (h : tT (mo X) j (testD d) σ H Q) (k : ∀ Q, tE (mo X) j d σ H Q → t σ H Q) : t σ H fun v H1 => ∃ b, v = .bl b ∧ Q b H1 := by
  obtain ⟨W, F, env, rel, q⟩ := h
  exact k _ ⟨W, F, env, rel, At.bind q fun x env1 W1 F1 H1 v _ r1 x1 p1 q1 => by
    cases p1 with
    | bl b => exact ⟨b, rfl, q1 W1 F1 H1 b r1 (Ex.refl F1) rfl⟩
    | _ => exact q1.elim⟩
theorem e_cmpL {op : CmpOp} {f : D → D → Option D} (ho : OpD X (compareOp op) f) (i : Nat) (h : PE X (.Name x px) (tVar i)) (hb : DE X j b db) (hm : behindInMarks op b = false) : DE X j (.Compare (.Name x px) [op] [b] pos) (cmpL f i db) := PE.mono (pe_cmpR ho.r h hb hm) fun σ H Q h => cmpL_at h
theorem t_cmpL {op : CmpOp} {f : D → D → Option D} (ho : OpD X (compareOp op) f) (i : Nat) (h : PE X (.Name x px) (tVar i)) (hb : DE X j b db) (hm : behindInMarks op b = false) : DT X j (.Compare (.Name x px) [op] [b] pos) (testD (cmpL f i db)) := PT.mono (pt_cmpR ho.r h hb hm) fun σ H Q h => tst_at h fun _ h => cmpL_at h
theorem e_cmpR {op : CmpOp} {f : D → D → Option D} (ho : OpD X (compareOp op) f) (i : Nat) (ha : DE X j a da) (h : PE X (.Name x px) (tVar i)) (hm : behindInMarks op (.Name x px) = false) : DE X j (.Compare a [op] [.Name x px] pos) (cmpR f i da) := PE.mono (pe_cmpR ho.r ha h hm) fun σ H Q h => cmpR_at h
theorem t_cmpR {op : CmpOp} {f : D → D → Option D} (ho : OpD X (compareOp op) f) (i : Nat) (ha : DE X j a da) (h : PE X (.Name x px) (tVar i)) (hm : behindInMarks op (.Name x px) = false) : DT X j (.Compare a [op] [.Name x px] pos) (testD (cmpR f i da)) := PT.mono (pt_cmpR ho.r ha h hm) fun σ H Q h => tst_at h fun _ h => cmpR_at h
theorem e_isTO {T : String} {t : Str} (i : Nat) (hT : ∀ t ∈ tyNames, kitB t T = some (isB t T)) (hg : Gl X "isinstance") (hm : X.mg "isinstance" = none) (hg2 : Gl X t) (hm2 : X.mg t = none) (hv : bootBuiltins t = some (.type T)) (h : PE X (.Name x px) (tVar i))
    (hn2 : t ≠ "__name__" := by decide) (hd2 : (t == ("__debug__" : Str)) = false := by decide) (he : starEach [.Name x px, .Name t q] X.env = (false, eval (.Name x px) X.env) :: starEach [.Name t q] X.env := by rfl) (hpl : (backTo pos (starEach [.Name t q] X.env)).any (·.1) = false := by rfl) :
    DE X j (.Call (.Name "isinstance" p) [.Name x px, .Name t q] [] pos) (isiO T i) :=
  PE.mono (pe_callB (call_isi (X := X)) hg hm (by rfl) (pa_cons h (pa_cons (pe_bltn (v := .ty T) hg2 hm2 hv rfl hn2 hd2) pa_nil) he) (by decide) (by decide) he hpl) fun σ H Q ⟨W, F, env, rel, q⟩ => by
    have q : At (mo X) j.e j.wx (Rp (mo X)) F σ (isiO T i env) Q := q
    unfold isiO at q
    by_cases hw : notUnb (env.getD i .unb) = true
    · rw [if_pos hw] at q
      obtain ⟨h5, h6⟩ := notUnb_some hw
      obtain ⟨v, h7, h8⟩ := rel.slot i _ h5 h6
      obtain ⟨z, e, k⟩ := flatR_at q rel
      unfold isiD at e
      cases o : tyD (frz (env.getD i .unb)) with
      | none => rw [o] at e; cases e
      | some ty =>
        rw [o] at e
        cases e
        obtain ⟨t1, t2⟩ := (h8.rpH rel.exF).ty (Ex.refl H) o
        exact ⟨v, h7, v, .ty T, .type ty, .type T, isB ty T, rfl, .ty T, t1, kit_ty (hT ty t2), k H H _ (Grow.refl (Ex.refl H)) (.bl _)⟩
    · rw [if_neg hw] at q
      exact q.elim
end
end DL
namespace DL
open PySem PySem.Spec PyProof.Rows L2
/-! ## computed: the later constructs -/
section
variable (env : List D) (i k n : Nat) (f g : D → D → Option D) (da db dc : List D → R D) (d : D)
@[simp] theorem mulXD_int (a b : Int) : mulXD (.int a) (.int b) = if fitsMul a b then some (.int (a * b)) else none := rfl
@[simp] theorem mulXD_str (a : Str) (b : Int) : mulXD (.str a) (.int b) = if 0 ≤ b ∧ b ≤ 10000 ∧ 1 ≤ a.length ∧ a.length ≤ 1000 then some (.str (Txt.mul a b)) else none := rfl
@[simp] theorem intXD_int (a : Int) : intXD [.int a] = some (.int a) := rfl
@[simp] theorem intXD_bl (b : Bool) : intXD [.bl b] = some (.int (if b = true then 1 else 0)) := rfl
@[simp] theorem intXD_str (a : Str) : intXD [.str a] = if a.length ≤ 640 then (PySem.intText? a).map .int else none := rfl
@[simp] theorem strD_int (a : Int) : strD [.int a] = if a.natAbs < 2 ^ 1900 then some (.str (toString a)) else none := rfl
@[simp] theorem listD_lst (l : List D) : listD [.lst l] = some (.lst l) := rfl
@[simp] theorem listD_tup (l : List D) : listD [.tup l] = some (.lst l) := rfl
@[simp] theorem tupleD_lst (l : List D) : tupleD [.lst l] = some (.tup l) := rfl
@[simp] theorem tupleD_tup (l : List D) : tupleD [.tup l] = some (.tup l) := rfl
@[simp] theorem lenD_str (a : Str) : lenD [.str a] = if a.length ≤ sizeLine then some (.int a.length) else none := rfl
@[simp] theorem chainD_ap : chainD f g da db dc env = bindR (da env) fun x env1 => bindR (db env1) fun y env2 => match f x y with
  | some (.bl true) => bindR (dc env2) fun z env3 => opR (g y z) env3
  | some (.bl false) => .ok (.bl false) env2
  | _ => .bad := rfl
@[simp] theorem txtD_ap (h : Str → D → Option D) : txtD h da db env = bindR (da env) fun d env1 => match d with
  | .str a => bindR (db env1) fun e env2 => opR (h a e) env2
  | _ => .bad := rfl
theorem txtD_str (h : Str → D → Option D) {a : Str} {env1 : List D} (e : da env = .ok (.str a) env1) : txtD h da db env = bindR (db env1) fun e env2 => opR (h a e) env2 := by
  unfold txtD
  rw [e]
  rfl
@[simp] theorem splitD_str (a b : Str) : splitD a (.str b) = if (b.length == 0) = false ∧ a.length + 2 ≤ sizeLine then some (.lst ((Txt.split a b).map D.str)) else none := rfl
@[simp] theorem startsD_str (a b : Str) : startsD a (.str b) = some (.bl (Txt.startswith a b)) := rfl
@[simp] theorem joinD_lst (a : Str) (ys : List Str) : joinD a (.lst (ys.map D.str)) = if (ys.map (·.length)).sum + ys.length * a.length ≤ 16777216 then some (.str (Txt.join a ys)) else none := by
  unfold joinD joinD.srcL
  simp only [strsOf_map]
@[simp] theorem addD_str (a b : Str) : addD (.str a) (.str b) = if a.length + b.length ≤ sizeLine then some (.str (a ++ b)) else none := rfl
@[simp] theorem addD_lst (a b : List D) : addD (.lst a) (.lst b) = if a.length + b.length ≤ sizeLine then some (.lst (a ++ b)) else none := rfl
@[simp] theorem fmtD_str (a : Str) : fmtD (.str a) = if a.length ≤ sizeLine then some (.str a) else none := rfl
@[simp] theorem fmtD_int (a : Int) : fmtD (.int a) = if a.natAbs < 2 ^ 1900 then some (.str (toString a)) else none := rfl
@[simp] theorem joinedD_nil (acc : Str) : joinedD [] acc env = .ok (.str acc) env := rfl
@[simp] theorem joinedD_cons (ds : List (List D → R D)) (acc : Str) : joinedD (da :: ds) acc env = bindR (da env) fun x env1 => match x with
  | .str y => if (acc ++ y).length ≤ sizeLine then joinedD ds (acc ++ y) env1 else .bad
  | _ => .bad := rfl
@[simp] theorem srcOf_lst (l : List D) : srcOf (.lst l) = some l := rfl
@[simp] theorem srcOf_tup (l : List D) : srcOf (.tup l) = some l := rfl
@[simp] theorem srcOf_str (x : Str) : srcOf (.str x) = some (signsD x) := rfl
@[simp] theorem itS_ap : itS da env = bindR (da env) fun d env1 => match srcOf d with
  | some l => .ok l env1
  | none => .bad := rfl
@[simp] theorem enumD_ap : enumD da env = bindR (da env) fun d env1 => match srcOf d with
  | some l => .ok (enumL 0 l) env1
  | none => .bad := rfl
@[simp] theorem zipD_ap : zipD da db env = bindR (da env) fun d env1 => bindR (db env1) fun e env2 => match srcOf d, srcOf e with
  | some l, some m => .ok (zipL l m) env2
  | _, _ => .bad := rfl
@[simp] theorem range1D_ap : range1D da env = bindR (da env) fun d env1 => match d with
  | .int j => if -(2 ^ 62) ≤ j ∧ j < 2 ^ 62 then .ok (rangeL 0 j.toNat) env1 else .bad
  | _ => .bad := rfl
@[simp] theorem range2D_ap : range2D da db env = bindR (da env) fun d env1 => bindR (db env1) fun e env2 => match d, e with
  | .int i, .int j => if (-(2 ^ 62) ≤ i ∧ i < 2 ^ 62) ∧ -(2 ^ 62) ≤ j ∧ j < 2 ^ 62 then .ok (rangeL i (j - i).toNat) env2 else .bad
  | _, _ => .bad := rfl
@[simp] theorem yesD_ap : yesD env = .ok true env := rfl
@[simp] theorem varF_ap : varF i env = match env.getD i .unb with
  | .unb => .bad
  | d => .ok (frz d) (env.set i (frz d)) := rfl
@[simp] theorem notUnb_ml (l : List D) : notUnb (.ml l) = true := rfl
@[simp] theorem notUnb_lst (l : List D) : notUnb (.lst l) = true := rfl
@[simp] theorem notUnb_tup (l : List D) : notUnb (.tup l) = true := rfl
@[simp] theorem notUnb_int (a : Int) : notUnb (.int a) = true := rfl
@[simp] theorem flatR_bl (b : Bool) : flatR env (some (.bl b)) = .ok (.bl b) env := rfl
@[simp] theorem flatR_int (b : Int) : flatR env (some (.int b)) = .ok (.int b) env := rfl
@[simp] theorem cmpL_ap : cmpL f i db env = if notUnb (env.getD i .unb) = true then bindR (db env) fun y env1 => if notUnb (env1.getD i .unb) = true then flatR env1 (f (frz (env1.getD i .unb)) y) else .bad else .bad := rfl
@[simp] theorem cmpR_ap : cmpR f i da env = bindR (da env) fun x env1 => if notUnb (env1.getD i .unb) = true then flatR env1 (f x (frz (env1.getD i .unb))) else .bad := rfl
@[simp] theorem isiO_ap (T : String) : isiO T i env = if notUnb (env.getD i .unb) = true then flatR env (isiD T (frz (env.getD i .unb))) else .bad := rfl
@[simp] theorem appO_ap : appO i da env = if (listAt env i).isSome = true then bindS (da env) fun d env1 => match listAt env1 i with
  | some l => if l.length < sizeLine then .nx (env1.set i (.ml (l ++ [d]))) else .bad
  | none => .bad
else .bad := rfl
@[simp] theorem retV_ap : retV i env = match env.getD i .unb with
  | .unb => .bad
  | d => .rt d (env.set i .unb) := rfl
@[simp] theorem lenO_ap : lenO i env = match listAt env i with
  | some l => .ok (.int l.length) env
  | none => .bad := rfl
@[simp] theorem sliceD_ap (dl dh : List D → R (Option Int)) : sliceD da dl dh env = bindR (da env) fun d env1 => bindR (dl env1) fun lo env2 => bindR (dh env2) fun hi env3 => opR (cutD d lo hi) env3 := rfl
@[simp] theorem noPartD_ap : noPartD env = .ok none env := rfl
@[simp] theorem partD_ap : partD da env = bindR (da env) fun d env1 => match d with
  | .int i => .ok (some i) env1
  | _ => .bad := rfl
@[simp] theorem cutD_lst (l : List D) (lo hi : Option Int) : cutD (.lst l) lo hi = some (.lst (cutL l lo hi)) := rfl
@[simp] theorem forD_ap (di : List D → R (List D)) (gg : D → List D → Option (List D)) (sb : List D → O) : forD di gg sb env = bindS (di env) fun ds env1 => forGo gg sb ds env1 := rfl
@[simp] theorem wipeD_nil : wipeD env [] = env := rfl
@[simp] theorem wipeD_cons (vs : List Nat) : wipeD env (i :: vs) = (wipeD env vs).set i .unb := rfl
@[simp] theorem backD_nil (env0 : List D) : backD env0 env [] = env := rfl
@[simp] theorem backD_cons (env0 : List D) (vs : List Nat) : backD env0 env (i :: vs) = (backD env0 env vs).set i (if isOwn (env0.getD i .unb) = true then .unb else env0.getD i .unb) := rfl
@[simp] theorem isOwn_unb : isOwn .unb = true := rfl
@[simp] theorem xfldD_ap (fs : List D) : xfldD fs k env = match fs[k]? with
  | some d => .ok d env
  | none => .bad := rfl
@[simp] theorem dict0_ap : dict0 env = .ok (.md [] []) env := rfl
end
/-! comprehensions and loops -/
/-- a comprehension that changes nothing but its own names -/
theorem lcGo_pure {g : D → List D → Option (List D)} {dt : List D → R Bool} {de : List D → R D} {vs : List Nat} {E0 : List D} (E : D → List D) (p : D → Bool) (f : D → D) : ∀ (ds : List D) (acc : List D), (∀ d ∈ ds, g d E0 = some (E d) ∧ dt (E d) = .ok (p d) (E d) ∧ (p d = true → de (E d) = .ok (f d) (E d)) ∧ wipeD (E d) vs = E0) →
    lcGo g dt de vs ds acc E0 = .ok (acc ++ (ds.filter p).map f) E0
  | [], acc, _ => by
    unfold lcGo
    simp
  | d :: ds, acc, h => by
    obtain ⟨h1, h2, h3, h4⟩ := h d List.mem_cons_self
    have ht : ∀ x ∈ ds, _ := fun x hx => h x (List.mem_cons_of_mem _ hx)
    unfold lcGo
    rw [h1]
    simp only [h2, bindB_ok]
    cases hp : p d with
    | true =>
      rw [if_pos rfl, h3 hp, bindB_ok, h4, lcGo_pure E p f ds _ ht, List.filter_cons_of_pos hp]
      simp
    | false =>
      rw [if_neg (by simp), h4, lcGo_pure E p f ds _ ht, List.filter_cons_of_neg (by simp [hp])]
theorem lcD_pure {di : List D → R (List D)} {g : D → List D → Option (List D)} {dt : List D → R Bool} {de : List D → R D} {vs : List Nat} {env env1 ds : List D} (E : D → List D) (p : D → Bool) (f : D → D) (hd : di env = .ok ds env1) (hn : ds.length ≤ 1000000)
    (h : ∀ d ∈ ds, g d (wipeD env1 vs) = some (E d) ∧ dt (E d) = .ok (p d) (E d) ∧ (p d = true → de (E d) = .ok (f d) (E d)) ∧ wipeD (E d) vs = wipeD env1 vs) (hb : backD env1 (wipeD env1 vs) vs = env1) : lcD di g dt de vs env = .ok (.ml ((ds.filter p).map f)) env1 := by
  unfold lcD
  rw [hd, bindR_ok, if_pos hn, lcGo_pure E p f ds [] h]
  show R.ok _ _ = _
  rw [hb, List.nil_append]
theorem lcD_map {di : List D → R (List D)} {g : D → List D → Option (List D)} {de : List D → R D} {vs : List Nat} {env env1 ds : List D} (E : D → List D) (f : D → D) (hd : di env = .ok ds env1) (hn : ds.length ≤ 1000000)
    (h : ∀ d ∈ ds, g d (wipeD env1 vs) = some (E d) ∧ de (E d) = .ok (f d) (E d) ∧ wipeD (E d) vs = wipeD env1 vs) (hb : backD env1 (wipeD env1 vs) vs = env1) : lcD di g yesD de vs env = .ok (.ml (ds.map f)) env1 := by
  have := lcD_pure (dt := yesD) E (fun _ => true) f hd hn (fun d hd => ⟨(h d hd).1, rfl, fun _ => (h d hd).2.1, (h d hd).2.2⟩) hb
  rw [this, List.filter_eq_self.mpr fun _ _ => rfl]
/-- one that draws: what holds of the state, what is made -/
theorem lcGo_inv {g : D → List D → Option (List D)} {de : List D → R D} {vs : List Nat} (I : List D → Prop) (Rr : D → Prop) : ∀ (ds : List D) (acc E : List D), I E → (∀ d ∈ ds, ∀ E, I E → ∃ E1 y E3, g d E = some E1 ∧ de E1 = .ok y E3 ∧ Rr y ∧ I (wipeD E3 vs)) →
    ∃ ys E', lcGo g yesD de vs ds acc E = .ok (acc ++ ys) E' ∧ ys.length = ds.length ∧ (∀ y ∈ ys, Rr y) ∧ I E'
  | [], acc, E, hI, _ => ⟨[], E, by unfold lcGo; simp, rfl, fun _ h => (by cases h), hI⟩
  | d :: ds, acc, E, hI, h => by
    obtain ⟨E1, y, E3, h1, h2, h3, h4⟩ := h d List.mem_cons_self E hI
    obtain ⟨ys, E', e1, e2, e3, e4⟩ := lcGo_inv I Rr ds (acc ++ [y]) _ h4 fun x hx => h x (List.mem_cons_of_mem _ hx)
    refine ⟨y :: ys, E', ?_, congrArg (· + 1) e2, fun z hz => ?_, e4⟩
    · unfold lcGo
      rw [h1]
      simp only [yesD_ap, bindB_ok, if_pos, h2]
      rw [e1]
      simp
    · rcases List.mem_cons.mp hz with rfl | hz
      · exact h3
      · exact e3 z hz
theorem lcD_inv {di : List D → R (List D)} {g : D → List D → Option (List D)} {de : List D → R D} {vs : List Nat} {env env1 ds : List D} (I : List D → Prop) (Rr : D → Prop) (hd : di env = .ok ds env1) (hn : ds.length ≤ 1000000) (h0 : I (wipeD env1 vs))
    (h : ∀ d ∈ ds, ∀ E, I E → ∃ E1 y E3, g d E = some E1 ∧ de E1 = .ok y E3 ∧ Rr y ∧ I (wipeD E3 vs)) : ∃ ys E', lcD di g yesD de vs env = .ok (.ml ys) (backD env1 E' vs) ∧ ys.length = ds.length ∧ (∀ y ∈ ys, Rr y) ∧ I E' := by
  obtain ⟨ys, E', e1, e2, e3, e4⟩ := lcGo_inv I Rr ds [] _ h0 h
  refine ⟨ys, E', ?_, e2, e3, e4⟩
  unfold lcD
  rw [hd, bindR_ok, if_pos hn, e1]
  show R.ok _ _ = _
  rw [List.nil_append]
/-- a loop by what holds at each turn -/
theorem forGo_inv {g : D → List D → Option (List D)} {db : List D → O} (I : Nat → List D → Prop) : ∀ (ds : List D) (k : Nat) (E : List D), I k E → (∀ i d, ds[i]? = some d → ∀ E, I (k + i) E → ∃ E1 E2, g d E = some E1 ∧ (db E1 = .nx E2 ∨ db E1 = .ct E2) ∧ I (k + i + 1) E2) → ∃ E', forGo g db ds E = .nx E' ∧ I (k + ds.length) E'
  | [], k, E, hI, _ => ⟨E, rfl, hI⟩
  | d :: ds, k, E, hI, h => by
    obtain ⟨E1, E2, h1, h2, h3⟩ := h 0 d rfl E hI
    obtain ⟨E', e1, e2⟩ := forGo_inv I ds (k + 1) E2 h3 fun i x hx E hE => by
      have := h (i + 1) x (by simpa using hx) E (by rw [show k + (i + 1) = k + 1 + i by omega]; exact hE)
      rw [show k + (i + 1) + 1 = k + 1 + i + 1 by omega] at this
      exact this
    refine ⟨E', ?_, by rw [List.length_cons, show k + (ds.length + 1) = k + 1 + ds.length by omega]; exact e2⟩
    unfold forGo
    rw [h1]
    rcases h2 with h2 | h2
    · simp only [h2]
      exact e1
    · simp only [h2]
      exact e1
/-! the same over any list -/
theorem lcGo_A {α : Type} {g : D → List D → Option (List D)} {dt : List D → R Bool} {de : List D → R D} {vs : List Nat} {E0 : List D} (u : α → D) (E : α → List D) (p : α → Bool) (f : α → D) : ∀ (xs : List α) (acc : List D), (∀ x ∈ xs, g (u x) E0 = some (E x) ∧ dt (E x) = .ok (p x) (E x) ∧ (p x = true → de (E x) = .ok (f x) (E x)) ∧ wipeD (E x) vs = E0) →
    lcGo g dt de vs (xs.map u) acc E0 = .ok (acc ++ (xs.filter p).map f) E0
  | [], acc, _ => by
    unfold lcGo
    simp
  | x :: xs, acc, h => by
    obtain ⟨h1, h2, h3, h4⟩ := h x List.mem_cons_self
    have ht : ∀ y ∈ xs, _ := fun y hy => h y (List.mem_cons_of_mem _ hy)
    rw [List.map_cons]
    unfold lcGo
    rw [h1]
    simp only [h2, bindB_ok]
    cases hp : p x with
    | true =>
      rw [if_pos rfl, h3 hp, bindB_ok, h4, lcGo_A u E p f xs _ ht, List.filter_cons_of_pos hp]
      simp
    | false =>
      rw [if_neg (by simp), h4, lcGo_A u E p f xs _ ht, List.filter_cons_of_neg (by simp [hp])]
theorem lcD_filterA {α : Type} {xs : List α} {di : List D → R (List D)} {g : D → List D → Option (List D)} {dt : List D → R Bool} {de : List D → R D} {vs : List Nat} {env env1 : List D} (u : α → D) (E : α → List D) (p : α → Bool) (f : α → D) (hd : di env = .ok (xs.map u) env1) (hn : xs.length ≤ 1000000)
    (h : ∀ x ∈ xs, g (u x) (wipeD env1 vs) = some (E x) ∧ dt (E x) = .ok (p x) (E x) ∧ (p x = true → de (E x) = .ok (f x) (E x)) ∧ wipeD (E x) vs = wipeD env1 vs) (hb : backD env1 (wipeD env1 vs) vs = env1) : lcD di g dt de vs env = .ok (.ml ((xs.filter p).map f)) env1 := by
  unfold lcD
  rw [hd, bindR_ok, if_pos (by rw [List.length_map]; exact hn), lcGo_A u E p f xs [] h]
  show R.ok _ _ = _
  rw [hb, List.nil_append]
theorem lcD_mapA {α : Type} {xs : List α} {di : List D → R (List D)} {g : D → List D → Option (List D)} {de : List D → R D} {vs : List Nat} {env env1 : List D} (u : α → D) (E : α → List D) (f : α → D) (hd : di env = .ok (xs.map u) env1) (hn : xs.length ≤ 1000000)
    (h : ∀ x ∈ xs, g (u x) (wipeD env1 vs) = some (E x) ∧ de (E x) = .ok (f x) (E x) ∧ wipeD (E x) vs = wipeD env1 vs) (hb : backD env1 (wipeD env1 vs) vs = env1) : lcD di g yesD de vs env = .ok (.ml (xs.map f)) env1 := by
  have := lcD_filterA (dt := yesD) u E (fun _ => true) f hd hn (fun x hx => ⟨(h x hx).1, rfl, fun _ => (h x hx).2.1, (h x hx).2.2⟩) hb
  rw [this, List.filter_eq_self.mpr fun _ _ => rfl]
theorem allD_map {α : Type} (p : α → Bool) (xs : List α) : allD [.lst (xs.map fun x => D.bl (p x))] = some (.bl (xs.all p)) := by
  have e : (xs.map fun x => D.bl (p x)) = (xs.map p).map D.bl := by rw [List.map_map]; rfl
  rw [e]
  show (blsOf ((xs.map p).map D.bl)).map (fun ns => D.bl (ns.all id)) = _
  rw [blsOf_map]
  simp [List.all_map]
theorem anyD_map {α : Type} (p : α → Bool) (xs : List α) : anyD [.lst (xs.map fun x => D.bl (p x))] = some (.bl (xs.any p)) := by
  have e : (xs.map fun x => D.bl (p x)) = (xs.map p).map D.bl := by rw [List.map_map]; rfl
  rw [e]
  show (blsOf ((xs.map p).map D.bl)).map (fun ns => D.bl (ns.any id)) = _
  rw [blsOf_map]
  simp [List.any_map]
theorem signsD_map (l : List Nat) : signsD ⟨l.toArray⟩ = l.map fun c => D.str ⟨#[c]⟩ := rfl
@[simp] theorem frzL_id {α : Type} {f : α → D} (h : ∀ x, frz (f x) = f x) : ∀ xs : List α, frzL (xs.map f) = xs.map f
  | [] => by simp
  | x :: xs => by simp [h x, frzL_id h xs]
end DL
namespace DL
open PySem PySem.Spec PyProof.Rows L2
/-! ## == of plain data is equality -/
mutual
/-- ints, texts, None, tuples and lists of them, n deep at most -/
def pd (n : Nat) : D → Bool
  | .int _ => true
  | .non => true
  | .bl _ => true
  | .str x => x.cps.all (· < 0x110000)
  | .tup l => match n with
    | 0 => false
    | m + 1 => pdL m l
  | .lst l => match n with
    | 0 => false
    | m + 1 => pdL m l
  | _ => false
def pdL (n : Nat) : List D → Bool
  | [] => true
  | d :: l => pd n d && pdL n l
end
mutual
/-- no bool in it -/
def ib : D → Bool
  | .int _ => true
  | .non => true
  | .str _ => true
  | .tup l => ibL l
  | .lst l => ibL l
  | _ => false
def ibL : List D → Bool
  | [] => true
  | d :: l => ib d && ibL l
end
mutual
theorem pd_py : ∀ {n : Nat} {d : D}, pd n d = true → ∃ p, d.py = some p ∧ p.canLay0 = true ∧ p.depth ≤ n ∧ PyData.eqv p p = true
  | n, .int i, _ => ⟨.int i, rfl, by simp [PyData.canLay0], by simp [PyData.depth], by simp [PyData.eqv]⟩
  | n, .non, _ => ⟨.none, rfl, by simp [PyData.canLay0], by simp [PyData.depth], by simp [PyData.eqv]⟩
  | n, .bl b, _ => ⟨.bool b, rfl, by simp [PyData.canLay0], by simp [PyData.depth], by simp [PyData.eqv]⟩
  | n, .str x, h => ⟨.str x, rfl, by unfold PyData.canLay0 PyData.strOk; unfold pd at h; exact h, by simp [PyData.depth], by simp [PyData.eqv]⟩
  | 0, .tup l, h => by
    unfold pd at h
    cases h
  | n + 1, .tup l, h => by
    unfold pd at h
    obtain ⟨ps, e, h1, h2, h3⟩ := pdL_py (n := n) (l := l) h
    exact ⟨.tuple ps, by unfold D.py; rw [e], by unfold PyData.canLay0; exact h1, by unfold PyData.depth; omega, by unfold PyData.eqv; exact h3⟩
  | 0, .lst l, h => by
    unfold pd at h
    cases h
  | n + 1, .lst l, h => by
    unfold pd at h
    obtain ⟨ps, e, h1, h2, h3⟩ := pdL_py (n := n) (l := l) h
    exact ⟨.list ps, by unfold D.py; rw [e], by unfold PyData.canLay0; exact h1, by unfold PyData.depth; omega, by unfold PyData.eqv; exact h3⟩
  | n, .unb, h => by unfold pd at h; cases h
  | n, .ins _ _, h => by unfold pd at h; cases h
  | n, .ml _, h => by unfold pd at h; cases h
  | n, .mi _ _, h => by unfold pd at h; cases h
  | n, .dic _ _, h => by unfold pd at h; cases h
  | n, .md _ _, h => by unfold pd at h; cases h
theorem pdL_py : ∀ {n : Nat} {l : List D}, pdL n l = true → ∃ ps, pyL l = some ps ∧ PyData.canLayAll0 ps = true ∧ PyData.depthAll ps ≤ n ∧ PyData.eqvAll ps ps = true
  | n, [], _ => ⟨[], by unfold pyL; rfl, by simp [PyData.canLayAll0], by simp [PyData.depthAll], by simp [PyData.eqvAll]⟩
  | n, d :: l, h => by
    unfold pdL at h
    obtain ⟨h1, h2⟩ := Bool.and_eq_true_iff.mp h
    obtain ⟨p, e, a1, a2, a3⟩ := pd_py (n := n) (d := d) h1
    obtain ⟨ps, e', b1, b2, b3⟩ := pdL_py (n := n) (l := l) h2
    refine ⟨p :: ps, by unfold pyL; rw [e, e'], ?_, ?_, ?_⟩
    · unfold PyData.canLayAll0
      rw [a1, b1]
      rfl
    · unfold PyData.depthAll
      omega
    · unfold PyData.eqvAll
      rw [a3, b3]
      rfl
end
theorem fine_pd {n : Nat} {d : D} (h : pd n d = true) (hn : n ≤ 64 := by decide) : fine d = true := by
  obtain ⟨p, e, h1, h2, _⟩ := pd_py h
  unfold fine
  rw [e]
  show SeqAt.shaped p = true
  unfold SeqAt.shaped
  rw [h1, decide_eq_true (by omega)]
  rfl
theorem eqb_self {n : Nat} {d : D} (h : pd n d = true) : d.eqb d = true := by
  obtain ⟨p, e, _, _, h3⟩ := pd_py h
  unfold D.eqb
  rw [e]
  exact h3
mutual
theorem eqv_iff : ∀ {x y : D} {p q : PyData}, ib x = true → ib y = true → x.py = some p → y.py = some q → (PyData.eqv p q = true ↔ x = y)
  | .int a, y, p, q, _, hy, e1, e2 => by
    cases e1
    cases y with
    | int b => cases e2; unfold PyData.eqv; simp
    | non => cases e2; unfold PyData.eqv; simp
    | str b => cases e2; unfold PyData.eqv; simp
    | tup b =>
      unfold D.py at e2
      split at e2
      · cases e2; unfold PyData.eqv; simp
      · cases e2
    | lst b =>
      unfold D.py at e2
      split at e2
      · cases e2; unfold PyData.eqv; simp
      · cases e2
    | _ => unfold ib at hy; cases hy
  | .non, y, p, q, _, hy, e1, e2 => by
    cases e1
    cases y with
    | int b => cases e2; unfold PyData.eqv; simp
    | non => cases e2; unfold PyData.eqv; simp
    | str b => cases e2; unfold PyData.eqv; simp
    | tup b =>
      unfold D.py at e2
      split at e2
      · cases e2; unfold PyData.eqv; simp
      · cases e2
    | lst b =>
      unfold D.py at e2
      split at e2
      · cases e2; unfold PyData.eqv; simp
      · cases e2
    | _ => unfold ib at hy; cases hy
  | .str a, y, p, q, _, hy, e1, e2 => by
    cases e1
    cases y with
    | int b => cases e2; unfold PyData.eqv; simp
    | non => cases e2; unfold PyData.eqv; simp
    | str b => cases e2; unfold PyData.eqv; simp
    | tup b =>
      unfold D.py at e2
      split at e2
      · cases e2; unfold PyData.eqv; simp
      · cases e2
    | lst b =>
      unfold D.py at e2
      split at e2
      · cases e2; unfold PyData.eqv; simp
      · cases e2
    | _ => unfold ib at hy; cases hy
  | .tup a, y, p, q, hx, hy, e1, e2 => by
    unfold D.py at e1
    split at e1
    · rename_i ds hd
      cases e1
      cases y with
      | int b => cases e2; unfold PyData.eqv; simp
      | non => cases e2; unfold PyData.eqv; simp
      | str b => cases e2; unfold PyData.eqv; simp
      | tup b =>
        unfold D.py at e2
        split at e2
        · rename_i es he
          cases e2
          unfold ib at hx hy
          unfold PyData.eqv
          rw [eqvL_iff hx hy hd he]
          simp
        · cases e2
      | lst b =>
        unfold D.py at e2
        split at e2
        · cases e2; unfold PyData.eqv; simp
        · cases e2
      | _ => unfold ib at hy; cases hy
    · cases e1
  | .lst a, y, p, q, hx, hy, e1, e2 => by
    unfold D.py at e1
    split at e1
    · rename_i ds hd
      cases e1
      cases y with
      | int b => cases e2; unfold PyData.eqv; simp
      | non => cases e2; unfold PyData.eqv; simp
      | str b => cases e2; unfold PyData.eqv; simp
      | lst b =>
        unfold D.py at e2
        split at e2
        · rename_i es he
          cases e2
          unfold ib at hx hy
          unfold PyData.eqv
          rw [eqvL_iff hx hy hd he]
          simp
        · cases e2
      | tup b =>
        unfold D.py at e2
        split at e2
        · cases e2; unfold PyData.eqv; simp
        · cases e2
      | _ => unfold ib at hy; cases hy
    · cases e1
  | .bl _, y, p, q, h, _, _, _ => by unfold ib at h; cases h
  | .unb, y, p, q, h, _, _, _ => by unfold ib at h; cases h
  | .ins _ _, y, p, q, h, _, _, _ => by unfold ib at h; cases h
  | .ml _, y, p, q, h, _, _, _ => by unfold ib at h; cases h
  | .mi _ _, y, p, q, h, _, _, _ => by unfold ib at h; cases h
  | .dic _ _, y, p, q, h, _, _, _ => by unfold ib at h; cases h
  | .md _ _, y, p, q, h, _, _, _ => by unfold ib at h; cases h
theorem eqvL_iff : ∀ {x y : List D} {p q : List PyData}, ibL x = true → ibL y = true → pyL x = some p → pyL y = some q → (PyData.eqvAll p q = true ↔ x = y)
  | [], [], _, _, _, _, e1, e2 => by
    unfold pyL at e1 e2
    cases e1; cases e2
    simp [PyData.eqvAll]
  | [], d :: l, _, _, _, _, e1, e2 => by
    unfold pyL at e1 e2
    cases e1
    split at e2
    · split at e2
      · cases e2; simp [PyData.eqvAll]
      · cases e2
    · cases e2
  | d :: l, [], _, _, _, _, e1, e2 => by
    unfold pyL at e1 e2
    cases e2
    split at e1
    · split at e1
      · cases e1; simp [PyData.eqvAll]
      · cases e1
    · cases e1
  | d :: l, d' :: l', _, _, hx, hy, e1, e2 => by
    unfold pyL at e1 e2
    unfold ibL at hx hy
    obtain ⟨x1, x2⟩ := Bool.and_eq_true_iff.mp hx
    obtain ⟨y1, y2⟩ := Bool.and_eq_true_iff.mp hy
    split at e1
    · rename_i a ha
      split at e1
      · rename_i as has
        split at e2
        · rename_i b hb
          split at e2
          · rename_i bs hbs
            cases e1; cases e2
            unfold PyData.eqvAll
            rw [Bool.and_eq_true_iff, eqv_iff x1 y1 ha hb, eqvL_iff x2 y2 has hbs, List.cons.injEq]
          · cases e2
        · cases e2
      · cases e1
    · cases e1
end
theorem eqb_iff {n m : Nat} {x y : D} (hx : pd n x = true) (hy : pd m y = true) (bx : ib x = true) (by_ : ib y = true) : x.eqb y = true ↔ x = y := by
  obtain ⟨p, e1, _⟩ := pd_py hx
  obtain ⟨q, e2, _⟩ := pd_py hy
  rw [eqb_of e1 e2]
  exact eqv_iff bx by_ e1 e2
/-- x == x -/
theorem eqD_self {n : Nat} {d : D} (h : pd n d = true) (hn : n ≤ 64 := by decide) : eqD d d = some (.bl true) := by
  unfold eqD
  rw [fine_pd h hn, eqb_self h]
  rfl
theorem neD_self {n : Nat} {d : D} (h : pd n d = true) (hn : n ≤ 64 := by decide) : neD d d = some (.bl false) := by
  unfold neD
  rw [fine_pd h hn, eqb_self h]
  rfl
theorem pdL_map {α : Type} {n : Nat} {f : α → D} : ∀ {l : List α}, (∀ x ∈ l, pd n (f x) = true) → pdL n (l.map f) = true
  | [], _ => by unfold pdL; rfl
  | x :: l, h => by
    show pdL n (f x :: l.map f) = true
    unfold pdL
    rw [h x List.mem_cons_self, pdL_map fun y hy => h y (List.mem_cons_of_mem _ hy)]
    rfl
theorem pd_ints (ns : List Int) : pd 1 (.lst (ns.map D.int)) = true := by
  unfold pd
  exact pdL_map fun x _ => by unfold pd; rfl
theorem ibL_map {α : Type} {f : α → D} : ∀ {l : List α}, (∀ x ∈ l, ib (f x) = true) → ibL (l.map f) = true
  | [], _ => by unfold ibL; rfl
  | x :: l, h => by
    show ibL (f x :: l.map f) = true
    unfold ibL
    rw [h x List.mem_cons_self, ibL_map fun y hy => h y (List.mem_cons_of_mem _ hy)]
    rfl
end DL
namespace DL
open PySem PySem.Spec PyProof.Rows L2 SX
/-! ## slices and texts, plainly -/
theorem cutL_to {l : List D} {a : Int} (h : 0 ≤ a) : cutL l none (some a) = l.take a.toNat := by
  show (l.drop 0).take ((if a < 0 then (a + (l.length : Int)).toNat else min a.toNat l.length) - 0) = _
  rw [if_neg (by omega), List.drop_zero, Nat.sub_zero]
  rcases Nat.le_total a.toNat l.length with h1 | h1
  · rw [Nat.min_eq_left h1]
  · rw [Nat.min_eq_right h1, List.take_of_length_le (Nat.le_refl _), List.take_of_length_le h1]
theorem cutL_from {l : List D} {a : Int} (h : 0 ≤ a) : cutL l (some a) none = l.drop a.toNat := by
  show (l.drop (if a < 0 then (a + (l.length : Int)).toNat else min a.toNat l.length)).take (l.length - (if a < 0 then (a + (l.length : Int)).toNat else min a.toNat l.length)) = _
  rw [if_neg (by omega)]
  rcases Nat.le_total a.toNat l.length with h1 | h1
  · rw [Nat.min_eq_left h1, List.take_of_length_le (by rw [List.length_drop]; omega)]
  · rw [Nat.min_eq_right h1, List.drop_of_length_le (Nat.le_refl _), List.drop_of_length_le h1, List.take_nil]
theorem cutD_strS (z : Str) (lo hi : Option Int) : cutD (.str z) lo hi = if z.length ≤ sizeLine then some (.str (Txt.slice z lo hi)) else none := by
  show (if z.length ≤ sizeLine then some (D.str (cutS z lo hi)) else none) = _
  rw [C8.cutS_slice]
theorem cutD_to {a : List Nat} {i : Int} (h : 0 ≤ i) (hl : a.length ≤ sizeLine) : cutD (.str (S a)) none (some i) = some (.str (S (a.take i.toNat))) := by
  rw [cutD_strS, S_len, if_pos hl, slice_to h]
theorem cutD_from {a : List Nat} {i : Int} (h : 0 ≤ i) (hl : a.length ≤ sizeLine) : cutD (.str (S a)) (some i) none = some (.str (S (a.drop i.toNat))) := by
  rw [cutD_strS, S_len, if_pos hl, slice_from h]
theorem addS {a b : List Nat} (h : a.length + b.length ≤ sizeLine) : addD (.str (S a)) (.str (S b)) = some (.str (S (a ++ b))) := by
  rw [addD_str, S_len, S_len, if_pos h, S_cat]
theorem addL {α : Type} {u : α → D} {a b : List α} (h : a.length + b.length ≤ sizeLine) : addD (.lst (a.map u)) (.lst (b.map u)) = some (.lst ((a ++ b).map u)) := by
  rw [addD_lst, List.length_map, List.length_map, if_pos h, List.map_append]
abbrev dS (l : List Nat) : D := .str (S l)
/-- a text, cut at a sign -/
theorem spl_mem (s : Nat) : ∀ (l acc p : List Nat), p ∈ TL.spl [s] 0 acc l → (∀ c ∈ p, c ∈ acc ∨ c ∈ l) ∧ p.length ≤ acc.length + l.length
  | [], acc, p, h => by
    rw [TL.spl_nil] at h
    have := List.mem_singleton.mp h
    subst this
    exact ⟨fun c hc => .inl hc, by simp⟩
  | c :: r, acc, p, h => by
    cases hp : TL.pre [s] (c :: r) with
    | true =>
      rw [TL.spl_hit hp] at h
      rcases List.mem_cons.mp h with h | h
      · subst h; exact ⟨fun c hc => .inl hc, by omega⟩
      · obtain ⟨h1, h2⟩ := spl_mem s r [] p h
        exact ⟨fun x hx => by rcases h1 x hx with q | q
                              · exact absurd q (List.not_mem_nil)
                              · exact .inr (List.mem_cons_of_mem _ q), by simp at h2 ⊢; omega⟩
    | false =>
      rw [TL.spl_miss hp] at h
      obtain ⟨h1, h2⟩ := spl_mem s r _ p h
      refine ⟨fun x hx => ?_, by simp at h2 ⊢; omega⟩
      rcases h1 x hx with q | q
      · rcases List.mem_append.mp q with q | q
        · exact .inl q
        · have := List.mem_singleton.mp q; exact .inr (by simp [this])
      · exact .inr (List.mem_cons_of_mem _ q)
theorem spl_sum (s : Nat) : ∀ (l acc : List Nat), ((TL.spl [s] 0 acc l).map List.length).sum + (TL.spl [s] 0 acc l).length = acc.length + l.length + 1
  | [], acc => by rw [TL.spl_nil]; simp
  | c :: r, acc => by
    cases hp : TL.pre [s] (c :: r) with
    | true =>
      rw [TL.spl_hit hp]
      have := spl_sum s r []
      simp only [List.map_cons, List.sum_cons, List.length_cons, List.length_nil] at this ⊢
      show acc.length + ((TL.spl [s] 0 [] r).map List.length).sum + ((TL.spl [s] 0 [] r).length + 1) = _
      omega
    | false =>
      rw [TL.spl_miss hp]
      have := spl_sum s r (acc ++ [c])
      rw [this]
      simp
      omega
theorem spl_ne (s : Nat) (l acc : List Nat) : TL.spl [s] 0 acc l ≠ [] := by
  induction l generalizing acc with
  | nil => rw [TL.spl_nil]; simp
  | cons c r ih =>
    cases hp : TL.pre [s] (c :: r) with
    | true => rw [TL.spl_hit hp]; simp
    | false => rw [TL.spl_miss hp]; exact ih _
/-- the parts of a text -/
abbrev cutP (s : Nat) (l : List Nat) : List (List Nat) := TL.spl [s] 0 [] l
theorem cutP_pos (s : Nat) (l : List Nat) : 1 ≤ (cutP s l).length := by
  cases h : cutP s l with
  | nil => exact absurd h (spl_ne s l [])
  | cons a b => simp
theorem cutP_sum (s : Nat) (l : List Nat) : ((cutP s l).map List.length).sum + (cutP s l).length = l.length + 1 := by
  have := spl_sum s l []
  simpa using this
theorem cutP_len (s : Nat) (l : List Nat) : (cutP s l).length ≤ l.length + 1 := by have := cutP_sum s l; omega
theorem splitS {s : Nat} (hs : s < 256) {l : List Nat} (h : l.length + 2 ≤ sizeLine) : splitD (S l) (.str (S [s])) = some (.lst ((cutP s l).map dS)) := by
  rw [splitD_str, S_len, S_len, if_pos ⟨rfl, h⟩, split_S (by simp) (by simp [hs]), List.map_map]
  rfl
theorem joinL_len (s : Nat) : ∀ ps : List (List Nat), (TL.joinL [s] ps).length ≤ (ps.map List.length).sum + ps.length
  | [] => by simp [TL.joinL]
  | [p] => by simp [TL.joinL]
  | p :: q :: r => by
    have := joinL_len s (q :: r)
    simp only [TL.joinL, List.length_append, List.map_cons, List.sum_cons, List.length_cons, List.length_nil] at this ⊢
    omega
theorem joinL_mem (s : Nat) : ∀ (ps : List (List Nat)) (c : Nat), c ∈ TL.joinL [s] ps → c = s ∨ ∃ p ∈ ps, c ∈ p
  | [], c, h => by simp [TL.joinL] at h
  | [p], c, h => by simp [TL.joinL] at h; exact .inr ⟨p, by simp, h⟩
  | p :: q :: r, c, h => by
    simp only [TL.joinL] at h
    rcases List.mem_append.mp h with h | h
    · exact .inr ⟨p, by simp, h⟩
    · rcases List.mem_append.mp h with h | h
      · exact .inl (List.mem_singleton.mp h)
      · rcases joinL_mem s (q :: r) c h with h | ⟨x, hx, h⟩
        · exact .inl h
        · exact .inr ⟨x, List.mem_cons_of_mem _ hx, h⟩
theorem joinS {s : List Nat} {ps : List (List Nat)} (h : (ps.map List.length).sum + ps.length * s.length ≤ 16777216) : joinD (S s) (.lst (ps.map dS)) = some (.str (S (TL.joinL s ps))) := by
  have e : ps.map dS = (ps.map S).map D.str := by rw [List.map_map]; rfl
  have e2 : ((ps.map S).map (·.length)) = ps.map List.length := lens ps
  rw [e, joinD_lst, e2, List.length_map, S_len, if_pos h, join_S]
theorem sum_app (a b : List (List Nat)) : ((a ++ b).map List.length).sum = (a.map List.length).sum + (b.map List.length).sum := by simp
theorem sum_take (n : Nat) (a : List (List Nat)) : ((a.take n).map List.length).sum ≤ (a.map List.length).sum := by
  conv => rhs; rw [← List.take_append_drop n a, sum_app]
  omega
theorem sum_drop (n : Nat) (a : List (List Nat)) : ((a.drop n).map List.length).sum ≤ (a.map List.length).sum := by
  conv => rhs; rw [← List.take_append_drop n a, sum_app]
  omega
/-- texts of signs that there are -/
def okS (l : List Nat) : Prop := ∀ c ∈ l, c < 1114112
theorem pdS {l : List Nat} (h : okS l) (n : Nat) : pd n (dS l) = true := by
  unfold pd
  rw [← Array.all_toList]
  exact List.all_eq_true.mpr fun c hc => decide_eq_true (h c hc)
theorem fineS {l : List Nat} (h : okS l) : fine (dS l) = true := fine_pd (pdS h 0)
theorem eqbS (a b : List Nat) : (dS a).eqb (dS b) = decide (a = b) := by
  rw [eqb_of (p := .str (S a)) (q := .str (S b)) rfl rfl]
  unfold PyData.eqv
  rw [S_beq_eq]
theorem len_line {n : Nat} (h : n ≤ 1000000) : n ≤ sizeLine := Nat.le_trans h (by decide)
theorem lenS {l : List Nat} (h : l.length ≤ 1000000) : lenD [dS l] = some (.int l.length) := by rw [lenD_str, S_len, if_pos (len_line h)]
theorem ix0 {l : List Nat} (h : l.length ≤ 1000000) {c : Nat} {r : List Nat} (e : l = c :: r) : ixD (.str (S l)) (.int 0) = some (.str (S [c])) := by
  subst e
  show (if (S (c :: r)).length ≤ sizeLine then (atI (S (c :: r)).cps.toList 0).map fun c => D.str ⟨#[c]⟩ else none) = _
  rw [S_len, if_pos (len_line h)]
  show (atI (c :: r) 0).map _ = _
  rw [atI_0]
  rfl
theorem inS (c : Nat) (l : List Nat) : inD (dS [c]) (dS l) = some (.bl (decide (c ∈ l))) := by
  show some (D.bl (!(Builtin.Str.occurrences (S l) (S [c]) 0 (S l).length 1).isEmpty)) = _
  rw [in_one]
theorem notInS (c : Nat) (l : List Nat) : notInD (dS [c]) (dS l) = some (.bl (!decide (c ∈ l))) := by
  show some (D.bl (!(!(Builtin.Str.occurrences (S l) (S [c]) 0 (S l).length 1).isEmpty))) = _
  rw [in_one]
theorem cut_okS {l : List Nat} (h : okS l) (s : Nat) : ∀ p ∈ cutP s l, okS p := fun p hp c hc => by
  rcases (spl_mem s l [] p hp).1 c hc with q | q
  · exact absurd q (List.not_mem_nil)
  · exact h c q
theorem join_okS {ps : List (List Nat)} {s : Nat} (hs : s < 1114112) (h : ∀ p ∈ ps, okS p) : okS (TL.joinL [s] ps) := fun c hc => by
  rcases joinL_mem s ps c hc with q | ⟨p, hp, q⟩
  · omega
  · exact h p hp c q
/-- every text is one of signs -/
theorem dS_of (z : Str) : D.str z = dS z.cps.toList := congrArg D.str (S_tl z).symm
theorem intS {a : List Nat} (h : a.all (fun c => decide (48 ≤ c) && decide (c ≤ 57)) = true) (hne : a ≠ []) (hl : a.length ≤ 640) : intXD [dS a] = some (.int ((NumText.digitsVal a : Nat) : Int)) := by
  rw [intXD_str, S_len, if_pos hl, int_S h hne (by omega)]
  rfl
theorem strS (n : Nat) (h : n < 2 ^ 1900) : strD [.int (n : Int)] = some (dS (TL.numL n)) := by
  rw [strD_int, if_pos (by simpa using h)]
  exact congrArg (fun z => some (D.str z)) (num_S n)
end DL
namespace DL
open PySem PySem.Spec PyProof.Rows L2 SX
/-! ## what is caught, computed -/
section
variable (env : List D) (i k : Nat) (c : Str) (fs : List D) (d : D)
@[simp] theorem goneO_nx : goneO i (.nx env) = .nx (env.set i .unb) := rfl
@[simp] theorem goneO_bk : goneO i (.bk env) = .bk (env.set i .unb) := rfl
@[simp] theorem goneO_ct : goneO i (.ct env) = .ct (env.set i .unb) := rfl
@[simp] theorem goneO_rt : goneO i (.rt d env) = .rt d env := rfl
@[simp] theorem noEx_nx : noEx (.nx env) = .nx env := rfl
@[simp] theorem noEx_bk : noEx (.bk env) = .bk env := rfl
@[simp] theorem noEx_ct : noEx (.ct env) = .ct env := rfl
@[simp] theorem noEx_rt : noEx (.rt d env) = .rt d env := rfl
@[simp] theorem tryAsD_ap (mt : Str → Option Bool) (as : List Nat) (db : List D → O) (ds : Str → List D → List D → O) : tryAsD i mt as db ds env = match db env with
  | .ex c fs env1 => match mt c with
    | some true => if (as.all (fun i => !ownd (env1.getD i .unb)) && decide (i < env1.length)) = true then goneO i (noEx (ds c fs (env1.set i .unb))) else .bad
    | some false => .ex c fs env1
    | none => .bad
  | r => r := rfl
theorem lookup_hit {β : Type} (x : Str) (b : β) (l : List (Str × β)) : List.lookup x ((x, b) :: l) = some b := by
  rw [List.lookup_cons, beq_self_eq_true]
@[simp] theorem mtOf_hit (x : Str) (b : Bool) (l : List (Str × Bool)) : mtOf ((x, b) :: l) x = some b := lookup_hit x b l
theorem mtOf_miss {x y : Str} (b : Bool) (l : List (Str × Bool)) (h : (x == y) = false) : mtOf ((y, b) :: l) x = mtOf l x := by
  unfold mtOf
  rw [List.lookup_cons, h]
@[simp] theorem pickD_hit (x : Str) (f : List D → List D → O) (l : List (Str × (List D → List D → O))) : pickD ((x, f) :: l) x fs = f fs := by
  unfold pickD
  rw [lookup_hit]
theorem pickD_miss {x y : Str} (f : List D → List D → O) (l : List (Str × (List D → List D → O))) (h : (x == y) = false) : pickD ((y, f) :: l) x fs = pickD l x fs := by
  unfold pickD
  rw [List.lookup_cons, h]
end
theorem eqb_no {n m : Nat} {x y : D} (hx : pd n x = true) (hy : pd m y = true) (bx : ib x = true) (by_ : ib y = true) (h : x ≠ y) : x.eqb y = false := by
  cases e : x.eqb y with
  | false => rfl
  | true => exact absurd ((eqb_iff hx hy bx by_).mp e) h
end DL
namespace DL
open PySem PySem.Spec PyProof.Rows L2 SX
theorem eqS {a b : List Nat} (ha : okS a) (hb : okS b) : eqD (dS a) (dS b) = some (.bl (decide (a = b))) := by
  rw [eqD_ap, fineS ha, fineS hb, eqbS]
  rfl
theorem neS {a b : List Nat} (ha : okS a) (hb : okS b) : neD (dS a) (dS b) = some (.bl (!decide (a = b))) := by
  rw [neD_ap, fineS ha, fineS hb, eqbS]
  rfl
end DL
namespace DL
open PySem PySem.Spec PyProof.Rows L2 SX
def intL (a : Int) : List Nat := if a < 0 then 45 :: TL.numL a.natAbs else TL.numL a.natAbs
theorem num_I (a : Int) : Str.ofString (toString a) = S (intL a) := by
  cases a with
  | ofNat n => 
    have h : ¬ ((n : Int) < 0) := by omega
    unfold intL
    show Str.ofString (toString ((n : Nat) : Int)) = S (if (n : Int) < 0 then _ else TL.numL (n : Int).natAbs)
    rw [if_neg h, Int.natAbs_natCast]
    exact num_S n
  | negSucc m =>
    unfold intL
    rw [if_pos (by omega)]
    have e : toString (Int.negSucc m) = "-" ++ toString ((m + 1 : Nat) : Int) := rfl
    have e2 := num_S (m + 1)
    apply TL.ext_tl
    rw [e, TL.tl_ofString, String.toList_append, List.map_append, ← TL.tl_ofString (toString ((m + 1 : Nat) : Int)), e2]
    rfl
theorem intL_len {k : Nat} {a : Int} (hk : 0 < k) (h : a.natAbs < 10 ^ k) : (intL a).length ≤ k + 1 := by
  have := TL.numL_len hk h
  unfold intL
  split
  · simp; omega
  · omega
theorem intL_ok (a : Int) : okS (intL a) := fun c hc => by
  unfold intL at hc
  have key : ∀ c ∈ TL.numL a.natAbs, c < 1114112 := fun c hc => by
    have := TL.numL_digits a.natAbs c hc
    omega
  split at hc
  · rcases List.mem_cons.mp hc with h | h
    · omega
    · exact key c h
  · exact key c hc
theorem intL_nb (a : Int) : 32 ∉ intL a := fun hc => by
  unfold intL at hc
  have key : 32 ∉ TL.numL a.natAbs := TL.numL_free (by omega)
  split at hc
  · rcases List.mem_cons.mp hc with h | h
    · omega
    · exact key h
  · exact key hc
theorem strI {a : Int} (h : a.natAbs < 2 ^ 1900) : strD [.int a] = some (dS (intL a)) := by
  rw [strD_int, if_pos h]
  exact congrArg (fun z => some (D.str z)) (num_I a)
end DL
namespace DL
open PySem PySem.Spec PyProof.Rows L2 SX
theorem sum_le {B : Nat} : ∀ {ps : List (List Nat)}, (∀ p ∈ ps, p.length ≤ B) → (ps.map List.length).sum ≤ ps.length * B
  | [], _ => by simp
  | p :: r, h => by
    have h1 := h p (by simp)
    have h2 := sum_le (ps := r) fun x hx => h x (List.mem_cons_of_mem _ hx)
    simp only [List.map_cons, List.sum_cons, List.length_cons, Nat.succ_mul]
    omega
end DL
namespace DL
open PySem PySem.Spec PyProof.Rows L2 SX
theorem rangeL_eq : ∀ (n : Nat) (lo : Int), rangeL lo n = (List.range n).map fun i => D.int (lo + (i : Nat))
  | 0, lo => rfl
  | n + 1, lo => by
    show D.int lo :: rangeL (lo + 1) n = _
    rw [rangeL_eq n (lo + 1), List.range_succ_eq_map, List.map_cons, List.map_map]
    congr 1
    · simp
    · refine List.map_congr_left fun i _ => ?_
      show D.int _ = D.int _
      congr 1
      simp only [Nat.succ_eq_add_one]
      omega
theorem rangeL_mem {lo : Int} {n : Nat} {d : D} (h : d ∈ rangeL lo n) : ∃ i : Nat, i < n ∧ d = .int (lo + i) := by
  rw [rangeL_eq] at h
  obtain ⟨i, hi, rfl⟩ := List.mem_map.mp h
  exact ⟨i, List.mem_range.mp hi, rfl⟩
theorem map_of {α β : Type} {f : α → β} {P : α → Prop} : ∀ {ys : List β}, (∀ y ∈ ys, ∃ a, y = f a ∧ P a) → ∃ xs : List α, ys = xs.map f ∧ ∀ a ∈ xs, P a
  | [], _ => ⟨[], rfl, fun _ h => by cases h⟩
  | y :: ys, h => by
    obtain ⟨a, rfl, ha⟩ := h y List.mem_cons_self
    obtain ⟨xs, rfl, hx⟩ := map_of (f := f) fun y hy => h y (List.mem_cons_of_mem _ hy)
    exact ⟨a :: xs, rfl, fun b hb => (List.mem_cons.mp hb).elim (fun e => e ▸ ha) (hx b)⟩
end DL
namespace DL
open PySem PySem.Spec PyProof.Rows L2 SX
theorem pd_str {n : Nat} (z : Str) (h : ∀ c ∈ z.cps.toList, c < 1114112 := by decide) : pd n (.str z) = true := by
  rw [dS_of]
  exact pdS h n
section
variable {g : D → List D → Option (List D)} {db : List D → O} {d : D} {ds env e1 e2 : List D}
theorem forGo_nx (h1 : g d env = some e1) (h2 : db e1 = .nx e2) : forGo g db (d :: ds) env = forGo g db ds e2 := by
  conv => lhs; unfold forGo
  rw [h1]
  simp only [h2]
theorem forGo_ct (h1 : g d env = some e1) (h2 : db e1 = .ct e2) : forGo g db (d :: ds) env = forGo g db ds e2 := by
  conv => lhs; unfold forGo
  rw [h1]
  simp only [h2]
theorem forGo_bk (h1 : g d env = some e1) (h2 : db e1 = .bk e2) : forGo g db (d :: ds) env = .nx e2 := by
  conv => lhs; unfold forGo
  rw [h1]
  simp only [h2]
theorem forGo_rt {v : D} (h1 : g d env = some e1) (h2 : db e1 = .rt v e2) : forGo g db (d :: ds) env = .rt v e2 := by
  conv => lhs; unfold forGo
  rw [h1]
  simp only [h2]
theorem forGo_ex {c : Str} {fs : List D} (h1 : g d env = some e1) (h2 : db e1 = .ex c fs e2) : forGo g db (d :: ds) env = .ex c fs e2 := by
  conv => lhs; unfold forGo
  rw [h1]
  simp only [h2]
end
end DL
namespace DL
open PySem PySem.Spec PyProof.Rows L2 HT
/-! ## slices by a step of one, either way -/
theorem sRange1 (n : Nat) : sliceRange 0 (n : Int) 1 = List.range n := by
  unfold sliceRange
  simp only [show (1 : Int) > 0 by decide, if_true]
  by_cases h : (0 : Int) < n
  · have e : ((n : Int) - 0 + 1 - 1) / 1 = (n : Int) := by rw [Int.ediv_one]; omega
    simp only [h, if_true, e, Int.toNat_natCast]
    conv => rhs; rw [← List.map_id (List.range n)]
    refine List.map_congr_left fun k _ => ?_
    show ((0 : Int) + 1 * (k : Int)).toNat = k
    omega
  · have e : n = 0 := by omega
    subst e
    simp
theorem pick1 (items : Array Value) : slicePick items none none (some 1) = items := by
  unfold slicePick
  show ((sliceRange 0 (items.size : Int) 1).filterMap (items[·]?)).toArray = _
  rw [sRange1, PySem.W.krv_all, Array.toArray_toList]
section
variable {prog : Program} {w : World} {A : Around} {E : Value → Shared → Prop} {s : Shared}
theorem sliceApplied_rev {sl : Addr} {vl vu vs : Value} {n : Nat} {Q : Int × Int × Nat → Shared → Prop} (hs : s.heap.IsSliceOf sl vl vu vs) (pl : IsPart vl none) (pu : IsPart vu none) (ps : IsPart vs (some (-1)))
    (h : Q ((n : Int) - 1, -1, n) s) : wpAny (model prog w) A (Builtin.Slice.sliceApplied (.ref sl) (pure (n : Int))) Q E s := by
  obtain ⟨os, hos, hcs, hds⟩ := id hs
  unfold Builtin.Slice.sliceApplied Builtin.Slice.sliceFields
  refine wpAny_bind (wpAny_bind (wpAny_field hos hds (x := vl) rfl (wpAny_bind (wpAny_field hos hds (x := vu) rfl (wpAny_bind (wpAny_field hos hds (x := vs) rfl (wpAny_pure ?_)))))))
  refine wpAny_bind (slicePart_ ps ?_)
  show wpAny _ _ (if ((-1 : Int) == 0) = true then _ else _) _ _ s
  rw [if_neg (by decide)]
  refine wpAny_bind (slicePart_ pl (wpAny_bind (slicePart_ pu (wpAny_bind (wpAny_pure ?_)))))
  show wpAny _ _ (pure (((n : Int) - 1), (-1 : Int), Builtin.Slice.slicePlaces ((n : Int) - 1) (-1) (-1))) _ _ s
  have e : Builtin.Slice.slicePlaces ((n : Int) - 1) (-1) (-1) = n := by
    unfold Builtin.Slice.slicePlaces
    simp only [show ¬ ((-1 : Int) > 0) by decide, if_false]
    by_cases hn : (n : Int) - 1 > -1
    · simp only [hn, if_true, show (-(-1) : Int) = 1 by decide, Int.ediv_one]
      omega
    · simp only [hn, if_false]
      omega
  rw [e]
  exact wpAny_pure h
theorem sliceApplied_one {sl : Addr} {vl vu vs : Value} {n : Nat} {Q : Int × Int × Nat → Shared → Prop} (hs : s.heap.IsSliceOf sl vl vu vs) (pl : IsPart vl none) (pu : IsPart vu none) (ps : IsPart vs (some 1))
    (h : Q (0, 1, n) s) : wpAny (model prog w) A (Builtin.Slice.sliceApplied (.ref sl) (pure (n : Int))) Q E s := by
  obtain ⟨os, hos, hcs, hds⟩ := id hs
  unfold Builtin.Slice.sliceApplied Builtin.Slice.sliceFields
  refine wpAny_bind (wpAny_bind (wpAny_field hos hds (x := vl) rfl (wpAny_bind (wpAny_field hos hds (x := vu) rfl (wpAny_bind (wpAny_field hos hds (x := vs) rfl (wpAny_pure ?_)))))))
  refine wpAny_bind (slicePart_ ps ?_)
  show wpAny _ _ (if ((1 : Int) == 0) = true then _ else _) _ _ s
  rw [if_neg (by decide)]
  refine wpAny_bind (slicePart_ pl (wpAny_bind (slicePart_ pu (wpAny_bind (wpAny_pure ?_)))))
  show wpAny _ _ (pure ((0 : Int), (1 : Int), Builtin.Slice.slicePlaces 0 (n : Int) 1)) _ _ s
  have e : Builtin.Slice.slicePlaces 0 (n : Int) 1 = n := by
    have := places_gen 0 n
    simpa using this
  rw [e]
  exact wpAny_pure h
theorem pick_rev (xs : Array Value) : ((List.range xs.size).filterMap fun (m : Nat) => xs[(((xs.size : Int) - 1) + (m : Int) * (-1)).toNat]?).toArray = xs.toList.reverse.toArray := by
  have e : (fun (m : Nat) => xs[(((xs.size : Int) - 1) + (m : Int) * (-1)).toNat]?) = (fun k => xs[k]?) ∘ fun m => xs.size - 1 - m := by
    funext m
    show _ = xs[xs.size - 1 - m]?
    have : (((xs.size : Int) - 1) + (m : Int) * (-1)).toNat = xs.size - 1 - m := by omega
    rw [this]
  rw [e, ← List.filterMap_map, PySem.W.krv_range, List.filterMap_reverse, PySem.W.krv_all]
theorem getItem_tuple_rev {t sl : Addr} {items : Array Value} {vl vu vs : Value} {Q : Value → Shared → Prop} (ht : IsTup s.heap t items) (hs : s.heap.IsSliceOf sl vl vu vs) (pl : IsPart vl none) (pu : IsPart vu none) (ps : IsPart vs (some (-1)))
    (h : Q (.ref s.heap.objs.size) { s with heap := s.heap.push { cls := .type "tuple", data := .seq items.toList.reverse.toArray } }) (hsz : items.size ≤ sizeLine) : wpAny (model prog w) A (getItem (.ref t) (.ref sl)) Q E s := by
  have htake : sizeOk (.seq items.toList.reverse.toArray) := by
    show items.toList.reverse.toArray.size ≤ sizeLine
    rw [List.size_toArray, List.length_reverse, Array.length_toList]
    exact hsz
  obtain ⟨os, hos, hcs, hds⟩ := id hs
  have hTs : s.TypeIs (.ref sl) "slice" := ⟨os, hos, hcs⟩
  unfold getItem
  try with_reducible refine wpAny_holding ?_
  first | refine wpAny_bind (wpAny_pure ?_) | skip
  refine wpAny_bind (wpAny_sequenceKey ht.typeIs (by decide) ?_)
  refine wpAny_bind (wpAny_callSpecial?_slot (name := Str.ofString "__getitem__") ht.typeIs PyProof.Rows.slot_tuple_getitem
    (wpAny_call_entry PyProof.Rows.slot_tuple_getitem ht.typeIs entry_tuple_getitem ?_ (args_tuple_getitem _ _)))
  show wpAny _ _ (Builtin.Tuple.tupleItemsOf (.ref t) >>= _) _ _ s
  refine wpAny_bind (tupleItemsOf_ ht ?_)
  refine wpAny_bind (wpAny_typeOf hTs ?_)
  rw [if_pos (by decide)]
  refine wpAny_bind (sliceApplied_rev hs pl pu ps ?_)
  have hno : ¬ ((((items.size : Int) - 1) == 0 && (-1 : Int) == 1 && items.size == items.size) = true) := by
    rw [show ((-1 : Int) == 1) = false by decide, Bool.and_false, Bool.false_and]
    exact Bool.false_ne_true
  show wpAny _ _ (if (((items.size : Int) - 1) == 0 && (-1 : Int) == 1 && items.size == items.size) = true then _ else _) _ _ s
  rw [if_neg hno, pick_rev]
  first
    | exact wpAny_bind (m := Builtin.Tuple.tupleExact _) (wpAny_newObj_type (wpAny_pure ⟨_, rfl, wpAny_pure h⟩) htake)
    | exact wpAny_bind (m := Builtin.Tuple.tupleExact _) (wpAny_newObj_type (wpAny_bind (wpAny_pure (wpAny_pure ⟨_, rfl, wpAny_pure h⟩))) htake)
    | exact wpAny_bind (wpAny_bind (m := Builtin.Tuple.tupleExact _) (wpAny_newObj_type (wpAny_pure (wpAny_pure ⟨_, rfl, wpAny_pure h⟩)) htake))
    | exact wpAny_bind (wpAny_bind (m := Builtin.Tuple.tupleExact _) (wpAny_newObj_type (wpAny_pure ⟨_, rfl, wpAny_pure h⟩) htake))
theorem getItem_tuple_one {t sl : Addr} {items : Array Value} {vl vu vs : Value} {Q : Value → Shared → Prop} (ht : IsTup s.heap t items) (hs : s.heap.IsSliceOf sl vl vu vs) (pl : IsPart vl none) (pu : IsPart vu none) (ps : IsPart vs (some 1))
    (h : Q (.ref t) s) : wpAny (model prog w) A (getItem (.ref t) (.ref sl)) Q E s := by
  obtain ⟨os, hos, hcs, hds⟩ := id hs
  have hTs : s.TypeIs (.ref sl) "slice" := ⟨os, hos, hcs⟩
  unfold getItem
  try with_reducible refine wpAny_holding ?_
  first | refine wpAny_bind (wpAny_pure ?_) | skip
  refine wpAny_bind (wpAny_sequenceKey ht.typeIs (by decide) ?_)
  refine wpAny_bind (wpAny_callSpecial?_slot (name := Str.ofString "__getitem__") ht.typeIs PyProof.Rows.slot_tuple_getitem
    (wpAny_call_entry PyProof.Rows.slot_tuple_getitem ht.typeIs entry_tuple_getitem ?_ (args_tuple_getitem _ _)))
  show wpAny _ _ (Builtin.Tuple.tupleItemsOf (.ref t) >>= _) _ _ s
  refine wpAny_bind (tupleItemsOf_ ht ?_)
  refine wpAny_bind (wpAny_typeOf hTs ?_)
  rw [if_pos (by decide)]
  refine wpAny_bind (sliceApplied_one hs pl pu ps ?_)
  have hyes : ((0 : Int) == 0 && (1 : Int) == 1 && items.size == items.size) = true := by simp
  show wpAny _ _ (if ((0 : Int) == 0 && (1 : Int) == 1 && items.size == items.size) = true then _ else _) _ _ s
  rw [if_pos hyes]
  refine wpAny_bind ?_
  show wpAny _ _ (typeOf (.ref t) >>= fun T => pure (T == .type "tuple")) _ _ s
  refine wpAny_bind (wpAny_typeOf ht.typeIs (wpAny_pure ?_))
  first
    | rw [if_pos (by decide)]
    | simp only [beq_self_eq_true, if_true]
  first
    | exact wpAny_bind (wpAny_rule (wpAny_pure ⟨_, rfl, wpAny_pure h⟩))
    | exact wpAny_bind (wpAny_rule (wpAny_bind (wpAny_pure (wpAny_pure ⟨_, rfl, wpAny_pure h⟩))))
end
/-- xs[::k], k one or minus one -/
def tStep (K : PySem.W.Frag) (te ts : TE) : TE := fun σ H Q => te σ H fun x H1 => ts σ H1 fun y H2 => ∃ a xs, x = .ref a ∧ (y = .int 1 ∨ y = .int (-1)) ∧
  ((SqL K H2 a xs ∧ ∀ p, H2 p = none → Q (.ref p) (upd H2 p (.lst (if y = .int 1 then xs else xs.reverse)))) ∨ (SqT K H2 a xs ∧ (y = .int 1 → Q (.ref a) H2) ∧ (y = .int (-1) → ∀ p, H2 p = none → Q (.ref p) (upd H2 p (.tup xs.reverse)))))
theorem pe_step {X : Cx} {e st : Expr} {te ts : TE} {p3 pos : Pos} (he : PE X e te) (hst : PE X st ts) : PE X (.Subscript e (.Slice none none (some st) p3) pos) (tStep X.K te ts) := by
  refine ⟨fun pins s σ H Q I h => ?_⟩
  refine Subscript_ (thn (he.run pins s σ H _ I h) fun v s1 ⟨x, H1, I1, r1, q1⟩ => ?_)
  refine wpAny_Slice (thn (po_none.run pins s1 σ H1 (fun o H2 => o = none ∧ H2 = H1) I1 ⟨rfl, rfl⟩) fun vl s2 ⟨l, H2, I2, pl, el, e2⟩ => ?_)
  subst el e2
  refine thn (po_none.run pins s2 σ H2 (fun o H3 => o = none ∧ H3 = H2) I2 ⟨rfl, rfl⟩) fun vu s3 ⟨u, H3, I3, pu, eu, e3⟩ => ?_
  subst eu e3
  rw [evalPart_some]
  refine thn (hst.run pins s3 σ H3 _ I3 q1) fun vs s4 ⟨y, H4, I4, ry, q4⟩ => ?_
  obtain ⟨a, xs, ex, hy, q⟩ := q4
  subst ex
  cases r1
  have I5 : Inv X pins σ H4 { s4 with heap := s4.heap.push { cls := .type "slice", data := .fields #[vl, vu, vs] } } := I4.kept (t' := s4.toks) fun b ob q => Heap.get?_push_of_some _ q
  show wpAny (model X.prog X.w) X.A (subscriptTail e (.Slice none none (some st) p3) (.ref a) (.ref s4.heap.objs.size)) (EP X pins σ Q) X.xe { s4 with heap := s4.heap.push { cls := .type "slice", data := .fields #[vl, vu, vs] } }
  have ps : ∃ k, IsPart vs (some k) ∧ y = .int k := by
    rcases hy with rfl | rfl
    · obtain ⟨t, rfl⟩ := ry; exact ⟨1, .int _ _, rfl⟩
    · obtain ⟨t, rfl⟩ := ry; exact ⟨-1, .int _ _, rfl⟩
  obtain ⟨k, ps, rfl⟩ := ps
  have hk : k = 1 ∨ k = -1 := by rcases hy with h | h <;> injection h with h <;> simp [h]
  rcases q with ⟨hx, q⟩ | ⟨hx, q1, q2⟩
  · obtain ⟨its, r, ht, hz⟩ := I5.list hx
    have hlen := r.length
    refine tail_any (ops := [.ref a, .ref s4.heap.objs.size]) ht.isList.typeIs (PySem.slot_list_getitem.lookup) ?_ (by with_unfolding_all rfl)
    refine wpAny_getItem_list_slice ht.isList (Heap.IsSliceOf.new _ vl vu vs) pl pu ps (by rcases hk with rfl | rfl <;> decide) ?_ (by rw [List.size_toArray]; omega)
    rcases hk with rfl | rfl
    · rw [pick1]
      rw [if_pos rfl] at q
      exact ⟨.ref _, _, I5.laid (t' := s4.toks) (o := .lst xs) (fun b ob q => Heap.get?_push_of_some _ q) (Nat.le_refl _) ⟨hz, _, 0, r, Heap.get?_push_size _ rfl⟩, rfl, q _ (I5.hok.fresh (Nat.le_refl _))⟩
    · rw [PySem.W.krv_pick]
      rw [if_neg (by decide)] at q
      exact ⟨.ref _, _, I5.laid (t' := s4.toks) (o := .lst xs.reverse) (fun b ob q => Heap.get?_push_of_some _ q) (Nat.le_refl _) ⟨by rw [List.length_reverse]; exact hz, _, 0, r.reverse, Heap.get?_push_size _ rfl⟩, rfl, q _ (I5.hok.fresh (Nat.le_refl _))⟩
  · obtain ⟨its, r, ht, hz⟩ := I5.tuple hx
    have hlen := r.length
    refine tail_any (ops := [.ref a, .ref s4.heap.objs.size]) ht.typeIs (PyProof.Rows.slot_tuple_getitem.lookup) ?_ (by with_unfolding_all rfl)
    rcases hk with rfl | rfl
    · exact getItem_tuple_one ht (Heap.IsSliceOf.new _ vl vu vs) pl pu ps ⟨.ref a, _, I5, rfl, q1 rfl⟩
    · refine getItem_tuple_rev ht (Heap.IsSliceOf.new _ vl vu vs) pl pu ps ?_ (by rw [List.size_toArray]; omega)
      refine ⟨.ref _, _, I5.laid (t' := s4.toks) (o := .tup xs.reverse) (fun b ob q => Heap.get?_push_of_some _ q) (Nat.le_refl _) ?_, rfl, q2 rfl _ (I5.hok.fresh (Nat.le_refl _))⟩
      exact ⟨by rw [List.length_reverse]; exact hz, _, r.reverse, IsTup.new _ _⟩
theorem RpL.reverse {M : Mo} {F : Hp} : ∀ {l : List D} {xs : List V}, RpL M F l xs → RpL M F l.reverse xs.reverse
  | _, _, .nil => .nil
  | _, _, .cons h t => by
    rw [List.reverse_cons, List.reverse_cons]
    exact t.reverse.append (.cons h .nil)
def stepK (d : D) (i : Int) : Option D := match d with
  | .lst l => if i = 1 then some (.lst l) else if i = -1 then some (.lst l.reverse) else none
  | .tup l => if i = 1 then some (.tup l) else if i = -1 then some (.tup l.reverse) else none
  | _ => none
def stepD (da ds : List D → R D) : List D → R D := fun env => bindR (da env) fun d env1 => bindR (ds env1) fun k env2 => match k with
  | .int i => opR (stepK d i) env2
  | _ => .bad
@[simp] theorem stepD_ap (da ds : List D → R D) (env : List D) : stepD da ds env = bindR (da env) fun d env1 => bindR (ds env1) fun k env2 => match k with
  | .int i => opR (stepK d i) env2
  | _ => .bad := rfl
theorem e_step {X : Cx} {j : J} {e st : Expr} {pos p3 : Pos} {da ds : List D → R D} (h : DE X j e da) (hst : DE X j st ds) : DE X j (.Subscript e (.Slice none none (some st) p3) pos) (stepD da ds) :=
  PE.mono (pe_step h hst) fun σ H Q ⟨W, F, env, rel, q⟩ => ⟨W, F, env, rel, At.bind q fun d env1 W1 F1 H1 v _ r1 x1 p1 q1 => ⟨W1, F1, env1, r1, At.bind q1 fun k env2 W2 F2 H2 v2 _ r2 x2 p2 q2 => by
    have p1 := p1.mono x2
    cases p2 with
    | int i =>
      simp only at q2
      cases p1 with
      | @lst a xs l h1 h2 =>
        unfold stepK at q2
        simp only at q2
        by_cases e1 : i = 1
        · subst e1
          rw [if_pos rfl] at q2
          exact ⟨_, _, rfl, .inl rfl, .inl ⟨ex_l r2.exF h1, fun p n => by
            rw [if_pos rfl]
            exact At.grow q2 r2 (Grow.one r2.exF n) (.lst (SqL.of upd_same) (h2.mono (Ex.new (r2.exF.none n))))⟩⟩
        · rw [if_neg e1] at q2
          by_cases e2 : i = -1
          · subst e2
            rw [if_pos rfl] at q2
            exact ⟨_, _, rfl, .inr rfl, .inl ⟨ex_l r2.exF h1, fun p n => by
              rw [if_neg (by decide)]
              exact At.grow q2 r2 (Grow.one r2.exF n) (.lst (SqL.of upd_same) (h2.reverse.mono (Ex.new (r2.exF.none n))))⟩⟩
          · rw [if_neg e2] at q2
            exact q2.elim
      | @tup a xs l h1 h2 =>
        unfold stepK at q2
        simp only at q2
        by_cases e1 : i = 1
        · subst e1
          rw [if_pos rfl] at q2
          exact ⟨_, _, rfl, .inl rfl, .inr ⟨ex_t r2.exF h1, fun _ => q2 W2 F2 H2 _ r2 (Ex.refl F2) (.tup h1 h2), fun h => by cases h⟩⟩
        · rw [if_neg e1] at q2
          by_cases e2 : i = -1
          · subst e2
            rw [if_pos rfl] at q2
            exact ⟨_, _, rfl, .inr rfl, .inr ⟨ex_t r2.exF h1, fun h => by (cases h), fun _ p n => At.grow q2 r2 (Grow.one r2.exF n) (.tup (SqT.of upd_same) (h2.reverse.mono (Ex.new (r2.exF.none n))))⟩⟩
          · rw [if_neg e2] at q2
            exact q2.elim
      | _ => exact q2.elim
    | _ => exact q2.elim⟩⟩
end DL
namespace DL
open PySem PySem.Spec PyProof.Rows L2 HT
/-! ## sum, max and min of tuples, max of two -/
section
variable {prog : Program} {w : World} {A : Around} {E : Value → Shared → Prop} {s : Shared}
theorem max_intTup {t : Addr} {xs : Array (Int × Tok)} {Q : Value → Shared → Prop} (hh : A.handled = none) (ht : s.heap.IsTuple t (intItems xs)) (hne : 0 < xs.size)
    (h : ∀ v h' tk, (intItems xs)[argBest (fun i j => decide (numAt xs i > numAt xs j)) (xs.size - 1)]? = some v → (∀ b o, s.heap.get? b = some o → h'.get? b = some o) → Q v { s with heap := h', toks := tk }) :
    wpAny (model prog w) A (call (.builtin "max") [.ref t]) Q E s := by
  obtain ⟨o, ho, hc, n, hd⟩ := id ht
  have hne' : t ≠ s.heap.objs.size := Nat.ne_of_lt (Heap.lt_size ho)
  refine call_max_walk (wpAny_pyIter_tuple ht ?_)
  refine ⟨_, [_, t], [_], _, _, _, _, rfl, Walks.tuple (A := A.in1) hh _ t hne' (intItems xs), ⟨⟨_, Heap.get?_push_size _ rfl, rfl, rfl⟩, ht.at fun o e => Heap.get?_push_of_some _ e⟩, fun b hb => ?_, by simpa [intItems] using hne, CmpOf.ints_gt (numAt xs) (fun _ _ => intItems_at), fun v h' tk hP hk => ?_⟩
  · rcases List.mem_cons.mp hb with rfl | hb
    · exact Heap.lt_size (Heap.get?_push_size _ rfl)
    · obtain rfl := List.mem_singleton.mp hb
      exact Heap.lt_size (Heap.get?_push_of_some _ ho)
  · exact h v h' tk (by simpa [intItems] using hP) fun b o e => hk b o (fun hm => absurd (Heap.lt_size e) ((List.mem_singleton.mp hm) ▸ Nat.lt_irrefl _)) (Heap.get?_push_of_some _ e)
theorem min_intTup {t : Addr} {xs : Array (Int × Tok)} {Q : Value → Shared → Prop} (hh : A.handled = none) (ht : s.heap.IsTuple t (intItems xs)) (hne : 0 < xs.size)
    (h : ∀ v h' tk, (intItems xs)[argBest (fun i j => decide (numAt xs i < numAt xs j)) (xs.size - 1)]? = some v → (∀ b o, s.heap.get? b = some o → h'.get? b = some o) → Q v { s with heap := h', toks := tk }) :
    wpAny (model prog w) A (call (.builtin "min") [.ref t]) Q E s := by
  obtain ⟨o, ho, hc, n, hd⟩ := id ht
  have hne' : t ≠ s.heap.objs.size := Nat.ne_of_lt (Heap.lt_size ho)
  refine call_min_walk (wpAny_pyIter_tuple ht ?_)
  refine ⟨_, [_, t], [_], _, _, _, _, rfl, Walks.tuple (A := A.in1) hh _ t hne' (intItems xs), ⟨⟨_, Heap.get?_push_size _ rfl, rfl, rfl⟩, ht.at fun o e => Heap.get?_push_of_some _ e⟩, fun b hb => ?_, by simpa [intItems] using hne, CmpOf.ints_lt (numAt xs) (fun _ _ => intItems_at), fun v h' tk hP hk => ?_⟩
  · rcases List.mem_cons.mp hb with rfl | hb
    · exact Heap.lt_size (Heap.get?_push_size _ rfl)
    · obtain rfl := List.mem_singleton.mp hb
      exact Heap.lt_size (Heap.get?_push_of_some _ ho)
  · exact h v h' tk (by simpa [intItems] using hP) fun b o e => hk b o (fun hm => absurd (Heap.lt_size e) ((List.mem_singleton.mp hm) ▸ Nat.lt_irrefl _)) (Heap.get?_push_of_some _ e)
end
section
variable {X : L2.Cx}
theorem cr_sumT (hc : X.calm = true) : CallR X (.builtin "sum") (fun vs H Q => ∃ (a : Addr) (ns : List Int), vs = [V.ref a] ∧ SqT X.K H a (ns.map V.int) ∧ Q (.int ns.sum) H) := by
  intro pins s σ H vs us Q I r h
  obtain ⟨a, ns, rfl, hs, q⟩ := h
  obtain ⟨its, rv, ht, _⟩ := I.tuple hs
  rw [Vals.ref1 r]
  obtain ⟨o, e, c, n, d⟩ := ht
  have hl : s.heap.IsTuple a its.toArray := ⟨o, e, c, n, d⟩
  have hi := rv.ints
  obtain ⟨xs, e⟩ := hi.allInts.items
  have hn : numsOf (intItems xs).toList = ns := by rw [← e]; exact hi.numsOf
  rw [nums_intItems] at hn
  rw [e] at hl
  refine PySem.W.ktm_sumG (I.ok.hd hc) hl fun h' tk t' hk => ?_
  have e2 : preSum (numAt xs) xs.size = ns.sum := by rw [preSum_eq, List.take_of_length_le (by simp), hn]
  rw [e2]
  exact ⟨.int _, H, I.kept hk, ⟨_, rfl⟩, q⟩
theorem cr_maxT (hc : X.calm = true) : CallR X (.builtin "max") (fun vs H Q => ∃ (a : Addr) (ns : List Int), vs = [V.ref a] ∧ SqT X.K H a (ns.map V.int) ∧ 0 < ns.length ∧ ∀ m, m ∈ ns → (∀ y, y ∈ ns → y ≤ m) → Q (.int m) H) := by
  intro pins s σ H vs us Q I r h
  obtain ⟨a, ns, rfl, hs, hne, q⟩ := h
  obtain ⟨its, rv, ht, _⟩ := I.tuple hs
  rw [Vals.ref1 r]
  obtain ⟨o, e, c, n, d⟩ := ht
  have hl : s.heap.IsTuple a its.toArray := ⟨o, e, c, n, d⟩
  have hi := rv.ints
  obtain ⟨xs, e⟩ := hi.allInts.items
  have hn : numsOf (intItems xs).toList = ns := by rw [← e]; exact hi.numsOf
  rw [nums_intItems] at hn
  subst hn
  rw [e] at hl
  have hsz : 0 < xs.size := by simpa using hne
  refine max_intTup (I.ok.hd hc) hl hsz fun v h' tk hv hk => ?_
  obtain ⟨t, rfl⟩ := intItems_at hv
  obtain ⟨h1, h2⟩ := argBest_gt (numAt xs) (xs.size - 1)
  refine ⟨.int _, H, I.kept hk, ⟨_, rfl⟩, q _ ?_ fun a ha => ?_⟩
  · rw [numAt_eq]; exact PySem.getD_mem (by rw [List.length_map, Array.length_toList]; omega)
  · obtain ⟨j, hj, rfl⟩ := mem_getD ha
    rw [List.length_map, Array.length_toList] at hj
    rw [← numAt_eq]; exact h2 j (by omega)
theorem cr_minT (hc : X.calm = true) : CallR X (.builtin "min") (fun vs H Q => ∃ (a : Addr) (ns : List Int), vs = [V.ref a] ∧ SqT X.K H a (ns.map V.int) ∧ 0 < ns.length ∧ ∀ m, m ∈ ns → (∀ y, y ∈ ns → m ≤ y) → Q (.int m) H) := by
  intro pins s σ H vs us Q I r h
  obtain ⟨a, ns, rfl, hs, hne, q⟩ := h
  obtain ⟨its, rv, ht, _⟩ := I.tuple hs
  rw [Vals.ref1 r]
  obtain ⟨o, e, c, n, d⟩ := ht
  have hl : s.heap.IsTuple a its.toArray := ⟨o, e, c, n, d⟩
  have hi := rv.ints
  obtain ⟨xs, e⟩ := hi.allInts.items
  have hn : numsOf (intItems xs).toList = ns := by rw [← e]; exact hi.numsOf
  rw [nums_intItems] at hn
  subst hn
  rw [e] at hl
  have hsz : 0 < xs.size := by simpa using hne
  refine min_intTup (I.ok.hd hc) hl hsz fun v h' tk hv hk => ?_
  obtain ⟨t, rfl⟩ := intItems_at hv
  obtain ⟨h1, h2⟩ := argBest_lt (numAt xs) (xs.size - 1)
  refine ⟨.int _, H, I.kept hk, ⟨_, rfl⟩, q _ ?_ fun a ha => ?_⟩
  · rw [numAt_eq]; exact PySem.getD_mem (by rw [List.length_map, Array.length_toList]; omega)
  · obtain ⟨j, hj, rfl⟩ := mem_getD ha
    rw [List.length_map, Array.length_toList] at hj
    rw [← numAt_eq]; exact h2 j (by omega)
end
def sumX : List D → Option D
  | [.lst l] => (intsOf l).map fun ns => .int ns.sum
  | [.tup l] => (intsOf l).map fun ns => .int ns.sum
  | _ => none
def mxL (l : List D) : Option D := match intsOf l with
  | some ns => if 0 < ns.length then some (.int (maxI ns)) else none
  | none => none
def mnL (l : List D) : Option D := match intsOf l with
  | some ns => if 0 < ns.length then some (.int (minI ns)) else none
  | none => none
def maxX : List D → Option D
  | [.lst l] => mxL l
  | [.tup l] => mxL l
  | [.int a, .int b] => some (.int (if a < b then b else a))
  | _ => none
def minX : List D → Option D
  | [.lst l] => mnL l
  | [.tup l] => mnL l
  | [.int a, .int b] => some (.int (if b < a then b else a))
  | _ => none
section
variable {X : L2.Cx}
theorem cd_sumX (hc : X.calm = true) : CallD X (.builtin "sum") sumX := fun pins s σ F H ds d xs us Q I e p r e1 q => by
  unfold sumX at e1
  split at e1
  · exact cd_sum hc pins s σ F H _ d xs us Q I e p r e1 q
  · rename_i l
    cases o : intsOf l with
    | none => rw [o] at e1; cases e1
    | some ns =>
      rw [o] at e1
      cases e1
      obtain ⟨v, rfl, h⟩ := p.one_inv
      obtain ⟨a, ys, rfl, h1, h2⟩ := h.tup_inv
      rw [intsOf_eq o] at h2
      rw [h2.ints_inv] at h1
      exact cr_sumT hc pins s σ H _ us Q I r ⟨a, ns, rfl, ex_t e h1, q F H _ (Grow.refl e) (.int _)⟩
  · cases e1
theorem cd_maxX (hc : X.calm = true) : CallD X (.builtin "max") maxX := fun pins s σ F H ds d xs us Q I e p r e1 q => by
  unfold maxX at e1
  split at e1
  · exact cd_max hc pins s σ F H _ d xs us Q I e p r e1 q
  · rename_i l
    unfold mxL at e1
    cases o : intsOf l with
    | none => rw [o] at e1; cases e1
    | some ns =>
      rw [o] at e1
      simp only at e1
      split at e1
      · rename_i hn
        cases e1
        obtain ⟨v, rfl, h⟩ := p.one_inv
        obtain ⟨a, ys, rfl, h1, h2⟩ := h.tup_inv
        rw [intsOf_eq o] at h2
        rw [h2.ints_inv] at h1
        exact cr_maxT hc pins s σ H _ us Q I r ⟨a, ns, rfl, ex_t e h1, hn, fun m m1 m2 => by
          rw [maxI_uniq m1 m2]
          exact q F H _ (Grow.refl e) (.int _)⟩
      · cases e1
  · cases e1
    obtain ⟨v, w, rfl, h1, h2⟩ := p.two_inv
    exact call_max2 hc pins s σ H _ us Q I r ⟨_, _, by rw [h1.int_inv, h2.int_inv], q F H _ (Grow.refl e) (.int _)⟩
  · cases e1
theorem cd_minX (hc : X.calm = true) : CallD X (.builtin "min") minX := fun pins s σ F H ds d xs us Q I e p r e1 q => by
  unfold minX at e1
  split at e1
  · exact cd_min hc pins s σ F H _ d xs us Q I e p r e1 q
  · rename_i l
    unfold mnL at e1
    cases o : intsOf l with
    | none => rw [o] at e1; cases e1
    | some ns =>
      rw [o] at e1
      simp only at e1
      split at e1
      · rename_i hn
        cases e1
        obtain ⟨v, rfl, h⟩ := p.one_inv
        obtain ⟨a, ys, rfl, h1, h2⟩ := h.tup_inv
        rw [intsOf_eq o] at h2
        rw [h2.ints_inv] at h1
        exact cr_minT hc pins s σ H _ us Q I r ⟨a, ns, rfl, ex_t e h1, hn, fun m m1 m2 => by
          rw [minI_uniq m1 m2]
          exact q F H _ (Grow.refl e) (.int _)⟩
      · cases e1
  · exact cd_min hc pins s σ F H _ d xs us Q I e p r (by exact e1) q
  · cases e1
end
/-! ## a built-in of an owned thing as it stands then -/
def callF (h : List D → Option D) (i : Nat) : List D → R D := fun env => if notUnb (env.getD i .unb) = true then flatR env (h [frz (env.getD i .unb)]) else .bad
@[simp] theorem callF_ap (h : List D → Option D) (i : Nat) (env : List D) : callF h i env = if notUnb (env.getD i .unb) = true then flatR env (h [frz (env.getD i .unb)]) else .bad := rfl
section
variable {X : L2.Cx} {j : J} {x y : Str} {px pos p : Pos}
theorem e_callF {id : String} {f : List D → Option D} (hc : CallD X (.builtin id) f) (i : Nat) (h : PE X (.Name x px) (tVar i)) (hg : Gl X y) (hm : X.mg y = none) (hv : bootBuiltins y = some (.builtin id)) (hn : y ≠ "__name__" := by decide) (hdb : (y == ("__debug__" : Str)) = false := by decide)
    (he : starEach (.Name x px :: []) X.env = (false, eval (.Name x px) X.env) :: starEach [] X.env := by rfl) (hpl : (backTo pos (starEach [] X.env)).any (·.1) = false := by rfl) : DE X j (.Call (.Name y p) [.Name x px] [] pos) (callF f i) :=
  PE.mono (pe_callB hc.r hg hm hv (pa_cons h pa_nil he) hn hdb he hpl) fun σ H Q ⟨W, F, env, rel, q⟩ => by
    have q : At (mo X) j.e j.wx (Rp (mo X)) F σ (callF f i env) Q := q
    unfold callF at q
    by_cases hw : notUnb (env.getD i .unb) = true
    · rw [if_pos hw] at q
      obtain ⟨h5, h6⟩ := notUnb_some hw
      obtain ⟨v, h7, h8⟩ := rel.slot i _ h5 h6
      obtain ⟨z, e, k⟩ := flatR_at q rel
      exact ⟨v, h7, H, _, z, Ex.refl H, .cons (h8.rpH rel.exF) .nil, e, k⟩
    · rw [if_neg hw] at q
      exact q.elim
end
@[simp] theorem maxX_two (a b : Int) : maxX [.int a, .int b] = some (.int (if a < b then b else a)) := rfl
@[simp] theorem minX_two (a b : Int) : minX [.int a, .int b] = some (.int (if b < a then b else a)) := rfl
@[simp] theorem sumX_lst (ns : List Int) : sumX [.lst (ns.map D.int)] = some (.int ns.sum) := by show (intsOf _).map _ = _; rw [intsOf_map]; rfl
@[simp] theorem sumX_tup (ns : List Int) : sumX [.tup (ns.map D.int)] = some (.int ns.sum) := by show (intsOf _).map _ = _; rw [intsOf_map]; rfl
theorem mxL_ints {ns : List Int} (h : 0 < ns.length) : mxL (ns.map D.int) = some (.int (maxI ns)) := by unfold mxL; rw [intsOf_map]; exact if_pos h
theorem mnL_ints {ns : List Int} (h : 0 < ns.length) : mnL (ns.map D.int) = some (.int (minI ns)) := by unfold mnL; rw [intsOf_map]; exact if_pos h
@[simp] theorem maxX_lst (l : List D) : maxX [.lst l] = mxL l := rfl
@[simp] theorem maxX_tup (l : List D) : maxX [.tup l] = mxL l := rfl
@[simp] theorem minX_lst (l : List D) : minX [.lst l] = mnL l := rfl
@[simp] theorem minX_tup (l : List D) : minX [.tup l] = mnL l := rfl
end DL
namespace DL
open PySem PySem.Spec PyProof.Rows L2 HT
/-! ## comprehensions with two fors -/
theorem lc_loop {M : Mo} {j : J} {g : D → List D → Option (List D)} {dt : List D → R Bool} {de : List D → R D} {ss vs : List Nat} (hp : ∀ i ∈ vs, j.e.P i = none) (hss : ∀ i ∈ ss, i ∈ vs) {τ : L2.St} {W1 : Own} {F1 H1 : Hp} {env1 : List D} (Dl : Addr) (hDl : j.e.H0 Dl = none)
    (r1 : Rel M j.e W1 F1 H1 env1 (wipe τ vs)) {acc1 : List D} {xs1 : List V} (hD1 : H1 Dl = some (.lst xs1)) (dF1 : F1 Dl = none) (dW1 : W1 Dl = none) (ra1 : RpL M F1 acc1 xs1) (hun1 : ∀ i ∈ vs, ∀ d, env1[i]? = some d → d = .unb)
    {ds : List D} {Ji : It} (p1 : ItOk M Ji F1 ds) {n0 : Nat} (hn0 : acc1.length ≤ n0) (hds : n0 + ds.length ≤ 1000000) {acc0 env0 : List D} (o : lcGo g dt de vs ds acc1 env1 = .ok acc0 env0) (End : Hp → Prop)
    (he : ∀ W2 F2 H xs, Rel M j.e W2 F2 H env0 (wipe τ vs) → Ex F1 F2 → H Dl = some (.lst xs) → F2 Dl = none → W2 Dl = none → RpL M F2 acc0 xs → (∀ i ∈ vs, ∀ d, env0[i]? = some d → d = .unb) → End H) :
    ∃ W : Nat → Nat → Hp → Prop, (∃ m, W 0 m H1) ∧ ∀ i m H, W i m H → (Ji.stop i H ∧ End H) ∨ (Ji.go i H ∧ ∃ Nx : Hp → Prop, (∀ H', Nx H' → ∃ m', m' < m ∧ W (i + 1) m' H') ∧ ∀ x H', Ji.yld i H x H' → lcG M vs ss g x (wipe τ vs) H' fun σ2 H2 => wipe σ2 vs = wipe τ vs ∧ lcT M vs dt σ2 H2 fun b H3 =>
      if b = true then lcE M vs de σ2 H3 fun y H4 => ∃ acc, H4 Dl = some (.lst acc) ∧ acc.length < sizeLine ∧ Nx (upd H4 Dl (.lst (acc ++ [y]))) else Nx H3) := by
  have wl : (wipe τ vs).length = τ.length := wipe_length τ vs
  have wg : ∀ i, i ∉ vs → (wipe τ vs)[i]? = τ[i]? := fun i h => wipe_get h
  refine ⟨fun i m H => m = ds.length - i ∧ i ≤ ds.length ∧ ∃ W2 F2 env2 acc xs, Rel M j.e W2 F2 H env2 (wipe τ vs) ∧ Ex F1 F2 ∧ H Dl = some (.lst xs) ∧ F2 Dl = none ∧ W2 Dl = none ∧ RpL M F2 acc xs ∧ acc.length ≤ n0 + i ∧ (∀ i ∈ vs, ∀ d, env2[i]? = some d → d = .unb) ∧ lcGo g dt de vs (ds.drop i) acc env2 = .ok acc0 env0,
    ⟨_, rfl, Nat.zero_le _, W1, F1, _, acc1, xs1, r1, Ex.refl F1, hD1, dF1, dW1, ra1, hn0, hun1, o⟩, fun i m H hw => ?_⟩
  obtain ⟨rfl, hi, W2, F2, env2, acc, xs, r2, x2, hD, hF, hW, ra, hacc, hun, e2⟩ := hw
  by_cases hlt : i < ds.length
  · obtain ⟨go, yl⟩ := (p1 i F2 H x2 r2.exF).1 hlt
    rw [List.drop_eq_getElem_cons hlt] at e2
    unfold lcGo at e2
    cases og : g ds[i] env2 with
    | none => rw [og] at e2; cases e2
    | some env3 =>
      rw [og] at e2
      simp only at e2
      refine .inr ⟨go, fun H' => ∃ W4 F4 env4 acc4 xs4, Rel M j.e W4 F4 H' env4 (wipe τ vs) ∧ Ex F1 F4 ∧ H' Dl = some (.lst xs4) ∧ F4 Dl = none ∧ W4 Dl = none ∧ RpL M F4 acc4 xs4 ∧ acc4.length ≤ n0 + (i + 1) ∧ (∀ i ∈ vs, ∀ d, env4[i]? = some d → d = .unb) ∧ lcGo g dt de vs (ds.drop (i + 1)) acc4 env4 = .ok acc0 env0,
        fun H' h => ⟨ds.length - (i + 1), by omega, rfl, hlt, h⟩, fun x H' hy => ?_⟩
      obtain ⟨F3, d, e1, grw, rp⟩ := yl x H' hy
      have ed : ds[i] = d := by
        rw [List.getElem?_eq_getElem hlt] at e1
        exact Option.some.inj e1
      have r3 := r2.grow grw
      have hD3 : H' Dl = some (.lst xs) := grw.exH _ _ hD
      have hF3 : F3 Dl = none := by
        cases z : F3 Dl with
        | none => rfl
        | some u =>
          rcases grw.new Dl (by rw [z]; simp) with y | y
          · exact absurd hF y
          · rw [y] at hD
            cases hD
      -- the block's own entry
      have hpb : ∃ pb : Nat → Option V, (∀ i ∈ vs, pb i = none) ∧ (∀ i v, pb i = some v → (wipe τ vs)[i]? = some (some v)) ∧ (∀ i v, i ∉ vs → (wipe τ vs)[i]? = some (some v) → pb i = some v) :=
        ⟨fun i => if i ∈ vs then none else match (wipe τ vs)[i]? with | some o => o | none => none, fun i h => if_pos h, fun i v h => by
          simp only at h
          by_cases z : i ∈ vs
          · rw [if_pos z] at h
            cases h
          · rw [if_neg z] at h
            cases y : (wipe τ vs)[i]? with
            | none => rw [y] at h; cases h
            | some o => rw [y] at h; exact congrArg some h, fun i v h1 h2 => by
          simp only
          rw [if_neg h1, h2]⟩
      obtain ⟨pb, pb1, pb2, pb3⟩ := hpb
      have rB := r3.inB (pb := pb) pb2 fun i d h1 h2 h3 z => by
        have hn : i ∉ vs := fun hv => h3 (hun i hv d h1)
        obtain ⟨v, h4, _⟩ := r3.slot i d h1 h3
        rw [pb3 i v hn h4] at z
        cases z
      have hpe : ∀ i v, j.e.P i = some v → pb i = some v := fun i v h => by
        have hn : i ∉ vs := fun hv => by
          rw [hp i hv] at h
          cases h
        exact pb3 i v hn (r3.pin i v h)
      refine ⟨_, pb1, blkW pb W2, F3, env2, d, rB, rp, env3, by rw [← ed]; exact og, fun W4 F4 H4 σ4 r4 x4 l4 k4 => ?_⟩
      have k4' : ∀ i, i ∉ vs → σ4[i]? = (wipe τ vs)[i]? := fun i hn => k4 i fun z => hn (hss i z)
      have wσ : wipe σ4 vs = wipe τ vs := by
        rw [wipe_eq (σ := wipe τ vs) (σ' := σ4) l4 k4']
        refine List.ext_getElem? fun i => ?_
        by_cases z : i ∈ vs
        · rw [wipe_in z, wipe_in z, wl]
        · rw [wipe_get z]
      refine ⟨wσ, _, pb1, W4, F4, env3, r4, ?_⟩
      have keepD : ∀ {W' F' H' env' σ'}, Rel M ⟨_, F3, blkW pb W2, pb⟩ W' F' H' env' σ' → H' Dl = some (.lst xs) ∧ F' Dl = none ∧ W' Dl = none := fun {W' F' H' env' σ'} r => by
        have bn : blkW pb W2 Dl = none := by
          unfold blkW
          rw [hW]
        refine ⟨r.pres Dl _ bn hD3, ?_, ?_⟩
        · cases z : F' Dl with
          | none => rfl
          | some u =>
            rcases r.new Dl (by rw [z]; simp) with y | y
            · exact absurd hF3 y
            · cases hD3.symm.trans y
        · cases z : W' Dl with
          | none => rfl
          | some u =>
            rcases (r.sep Dl (by rw [z]; simp)).2.1 with y | y
            · exact absurd bn y
            · cases hD3.symm.trans y
      have back : ∀ {W' F' H' env'}, Rel M ⟨_, F3, blkW pb W2, pb⟩ W' F' H' env' σ4 → Rel M j.e W' F' H' (wipeD env' vs) (wipe τ vs) := fun {W' F' H' env'} r =>
        (Rel.outB r3.toRelB r hpe).wipe vs (by rw [l4]) (fun i hn => (k4' i hn).symm) hp
      have unb : ∀ (env' : List D) i, i ∈ vs → ∀ d, (wipeD env' vs)[i]? = some d → d = .unb := fun env' i hv d h => Classical.byContradiction fun hd => (wipeD_get h hd).1 hv
      refine At.bindB e2 (fun z => nomatch z) fun b env5 W5 F5 H5 b' ob r5 x5 hb e5 => ?_
      subst hb
      cases b with
      | false =>
        rw [if_neg Bool.false_ne_true] at e5 ⊢
        obtain ⟨d1, d2, d3⟩ := keepD r5
        exact ⟨W5, F5, _, acc, xs, back r5, x2.trans (grw.exF.trans (x4.trans x5)), d1, d2, d3, ra.mono (grw.exF.trans (x4.trans x5)), by omega, unb _, e5⟩
      | true =>
        rw [if_pos rfl] at e5 ⊢
        refine ⟨_, pb1, W5, F5, env5, r5, At.bindB e5 (fun z => nomatch z) fun y env6 W6 F6 H6 v oy r6 x6 py e6 => ?_⟩
        obtain ⟨d1, d2, d3⟩ := keepD r6
        have xx : Ex F2 F6 := grw.exF.trans (x4.trans (x5.trans x6))
        have hlen := ra.length
        refine ⟨xs, d1, ?_, W6, F6, _, acc ++ [y], xs ++ [v], ?_, x2.trans xx, upd_same, d2, d3, (ra.mono xx).append (.cons py .nil), by rw [List.length_append]; simp; omega, unb _, e6⟩
        · rw [sizeLine_eq]
          omega
        · have a := back r6
          refine ⟨⟨fun b u h1 h2 => ?_, a.exF0, fun b u h => ?_, fun b h => ?_, a.fresh, a.new, fun b h => ?_⟩, a.len, fun i d h1 h2 => ?_, a.pin⟩
          · have : b ≠ Dl := fun z => by
              subst z
              rw [hDl] at h2
              cases h2
            rw [upd_ne this]
            exact a.pres b u h1 h2
          · have : b ≠ Dl := fun z => by
              subst z
              rw [d2] at h
              cases h
            rw [upd_ne this]
            exact a.exF b u h
          · have : b ≠ Dl := fun z => h (by rw [z]; exact d3)
            rw [upd_ne this]
            exact a.sep b h
          · by_cases z : b = Dl
            · rw [z, upd_same]
              simp
            · rw [upd_ne z]
              exact a.stay b h
          · obtain ⟨v, h3, h4⟩ := a.slot i d h1 h2
            refine ⟨v, h3, h4.tr (Ex.refl _) fun b q z => ⟨z, fun u y => ?_⟩⟩
            have : b ≠ Dl := fun w => by
              rw [w, d3] at z
              cases z
            rw [upd_ne this]
            exact y
  · refine .inl ⟨(p1 i F2 H x2 r2.exF).2 (by omega), ?_⟩
    rw [List.drop_eq_nil_of_le (by omega)] at e2
    have e2 : R.ok acc env2 = R.ok acc0 env0 := e2
    injection e2 with e3 e4
    subst e3 e4
    exact he W2 F2 H xs r2 x2 hD hF hW ra hun
def lc2Go (g : D → List D → Option (List D)) (dt : List D → R Bool) (di1 : List D → R (List D)) (g1 : D → List D → Option (List D)) (dt1 : List D → R Bool) (de : List D → R D) (vs vs1 : List Nat) : List D → List D → List D → R (List D)
  | [], acc, env => .ok acc env
  | d :: ds, acc, env => match g d env with
    | none => .bad
    | some env1 => bindB (dt env1) fun b env2 => if b = true then bindB (di1 env2) fun ds1 env3 => if acc.length + ds1.length ≤ 1000000 then bindB (lcGo g1 dt1 de vs1 ds1 acc (wipeD env3 vs1)) fun acc1 env4 => lc2Go g dt di1 g1 dt1 de vs vs1 ds acc1 (wipeD env4 vs) else .bad
      else lc2Go g dt di1 g1 dt1 de vs vs1 ds acc (wipeD env2 vs)
def lc2D (di : List D → R (List D)) (g : D → List D → Option (List D)) (dt : List D → R Bool) (di1 : List D → R (List D)) (g1 : D → List D → Option (List D)) (dt1 : List D → R Bool) (de : List D → R D) (vs vs1 : List Nat) : List D → R D := fun env => bindR (di env) fun ds env1 =>
  if ds.length ≤ 1000000 then bindB (lc2Go g dt di1 g1 dt1 de vs vs1 ds [] (wipeD env1 vs)) fun acc env2 => .ok (.ml acc) (backD env1 env2 vs) else .bad
abbrev lcI (M : Mo) (vs : List Nat) (di : List D → R (List D)) : TI := fun σ H Rr => ∃ eb : Ent, (∀ i ∈ vs, eb.P i = none) ∧ tI M ⟨eb, noX⟩ di σ H Rr
section
variable {X : Cx} {j : J} {elt tg iter tg1 iter1 : Expr} {ifs ifs1 : List Expr} {scope : Scope} {pos : Pos} {own : List (Str × Nat)} {di di1 : List D → R (List D)} {g g1 : D → List D → Option (List D)} {dt dt1 : List D → R Bool} {de : List D → R D} {ss : List Nat}
theorem lc2_red {vs vs1 ss1 : List Nat} (hp : ∀ i ∈ vs, j.e.P i = none) (hss : ∀ i ∈ ss, i ∈ vs) (hv1 : ∀ i ∈ vs1, i ∈ vs) (hss1 : ∀ i ∈ ss1, i ∈ vs1) {σ : L2.St} {H : Hp} {Q : VK} (h : tO (mo X) j (lc2D di g dt di1 g1 dt1 de vs vs1) σ H Q) : tLc2 (tI (mo X) j di) (lcG (mo X) vs ss g) (lcT (mo X) vs dt) (lcI (mo X) vs di1) (lcG (mo X) vs1 ss1 g1) (lcT (mo X) vs1 dt1) (lcE (mo X) vs1 de) vs vs1 σ H Q := by
  obtain ⟨W, F, env, rel, q⟩ := h
  refine ⟨W, F, env, rel, AtO.bind q fun ds env1 W1 F1 H1 Ji _ r1 x1 p1 q1 => ?_⟩
  by_cases hds0 : ¬ ds.length ≤ 1000000
  · rw [if_neg hds0] at q1
    exact q1.elim
  have hds : ds.length ≤ 1000000 := by omega
  rw [if_pos hds] at q1
  cases o : lc2Go g dt di1 g1 dt1 de vs vs1 ds [] (wipeD env1 vs) with
  | ex c fs en => rw [o] at q1; exact q1.elim
  | bad => rw [o] at q1; exact q1.elim
  | ok acc0 env0 =>
    rw [o] at q1
    intro Dl hDl
    have wl : (wipe σ vs).length = σ.length := wipe_length σ vs
    have wg : ∀ i, i ∉ vs → (wipe σ vs)[i]? = σ[i]? := fun i h => wipe_get h
    have dW1 : W1 Dl = none := by
      cases z : W1 Dl with
      | none => rfl
      | some p => exact absurd hDl (r1.sep Dl (by rw [z]; simp)).2.2
    have dF1 : F1 Dl = none := r1.exF.none hDl
    -- the new list
    have gr : Rel (mo X) j.e W1 F1 (upd H1 Dl (.lst [])) (wipeD env1 vs) (wipe σ vs) := by
      have a := r1.wipe vs wl wg hp
      have h0 : j.e.H0 Dl = none := by
        cases z : j.e.H0 Dl with
        | none => rfl
        | some p => exact absurd hDl (r1.stay Dl (by rw [z]; simp))
      refine ⟨⟨fun b u h1 h2 => ?_, a.exF0, fun b u h => ?_, fun b h => ?_, a.fresh, a.new, fun b h => ?_⟩, a.len, fun i d h1 h2 => ?_, a.pin⟩
      · have : b ≠ Dl := fun z => by
          subst z
          rw [h0] at h2
          cases h2
        rw [upd_ne this]
        exact a.pres b u h1 h2
      · have : b ≠ Dl := fun z => by
          subst z
          rw [dF1] at h
          cases h
        rw [upd_ne this]
        exact a.exF b u h
      · have : b ≠ Dl := fun z => h (by rw [z]; exact dW1)
        rw [upd_ne this]
        exact a.sep b h
      · by_cases z : b = Dl
        · rw [z, upd_same]
          simp
        · rw [upd_ne z]
          exact a.stay b h
      · obtain ⟨v, h3, h4⟩ := a.slot i d h1 h2
        refine ⟨v, h3, h4.tr (Ex.refl F1) fun b q z => ⟨z, fun u y => ?_⟩⟩
        have : b ≠ Dl := fun w => by
          rw [w, dW1] at z
          cases z
        rw [upd_ne this]
        exact y
    have hD00 : j.e.H0 Dl = none := by
      cases z : j.e.H0 Dl with
      | none => rfl
      | some p => exact absurd hDl (r1.stay Dl (by rw [z]; simp))
    refine ⟨fun i m H => m = ds.length - i ∧ i ≤ ds.length ∧ ∃ W2 F2 env2 acc xs, Rel (mo X) j.e W2 F2 H env2 (wipe σ vs) ∧ Ex F1 F2 ∧ H Dl = some (.lst xs) ∧ F2 Dl = none ∧ W2 Dl = none ∧ RpL (mo X) F2 acc xs ∧ (∀ i ∈ vs, ∀ d, env2[i]? = some d → d = .unb) ∧ lc2Go g dt di1 g1 dt1 de vs vs1 (ds.drop i) acc env2 = .ok acc0 env0,
      ⟨_, rfl, Nat.zero_le _, W1, F1, _, [], [], gr, Ex.refl F1, upd_same, dF1, dW1, .nil, fun i hi d h => Classical.byContradiction fun hd => (wipeD_get h hd).1 hi, o⟩, fun i m H hw => ?_⟩
    obtain ⟨rfl, hi, W2, F2, env2, acc, xs, r2, x2, hD, hF, hW, ra, hun, e2⟩ := hw
    by_cases hlt : i < ds.length
    · obtain ⟨go, yl⟩ := (p1 i F2 H x2 r2.exF).1 hlt
      rw [List.drop_eq_getElem_cons hlt] at e2
      unfold lc2Go at e2
      cases og : g ds[i] env2 with
      | none => rw [og] at e2; cases e2
      | some env3 =>
        rw [og] at e2
        simp only at e2
        refine .inr ⟨go, fun H' => ∃ W4 F4 env4 acc4 xs4, Rel (mo X) j.e W4 F4 H' env4 (wipe σ vs) ∧ Ex F1 F4 ∧ H' Dl = some (.lst xs4) ∧ F4 Dl = none ∧ W4 Dl = none ∧ RpL (mo X) F4 acc4 xs4 ∧ (∀ i ∈ vs, ∀ d, env4[i]? = some d → d = .unb) ∧ lc2Go g dt di1 g1 dt1 de vs vs1 (ds.drop (i + 1)) acc4 env4 = .ok acc0 env0,
          fun H' h => ⟨ds.length - (i + 1), by omega, rfl, hlt, h⟩, fun x H' hy => ?_⟩
        obtain ⟨F3, d, e1, grw, rp⟩ := yl x H' hy
        have ed : ds[i] = d := by
          rw [List.getElem?_eq_getElem hlt] at e1
          exact Option.some.inj e1
        have r3 := r2.grow grw
        have hD3 : H' Dl = some (.lst xs) := grw.exH _ _ hD
        have hF3 : F3 Dl = none := by
          cases z : F3 Dl with
          | none => rfl
          | some u =>
            rcases grw.new Dl (by rw [z]; simp) with y | y
            · exact absurd hF y
            · rw [y] at hD
              cases hD
        -- the block's own entry
        have hpb : ∃ pb : Nat → Option V, (∀ i ∈ vs, pb i = none) ∧ (∀ i v, pb i = some v → (wipe σ vs)[i]? = some (some v)) ∧ (∀ i v, i ∉ vs → (wipe σ vs)[i]? = some (some v) → pb i = some v) :=
          ⟨fun i => if i ∈ vs then none else match (wipe σ vs)[i]? with | some o => o | none => none, fun i h => if_pos h, fun i v h => by
            simp only at h
            by_cases z : i ∈ vs
            · rw [if_pos z] at h
              cases h
            · rw [if_neg z] at h
              cases y : (wipe σ vs)[i]? with
              | none => rw [y] at h; cases h
              | some o => rw [y] at h; exact congrArg some h, fun i v h1 h2 => by
            simp only
            rw [if_neg h1, h2]⟩
        obtain ⟨pb, pb1, pb2, pb3⟩ := hpb
        have rB := r3.inB (pb := pb) pb2 fun i d h1 h2 h3 z => by
          have hn : i ∉ vs := fun hv => h3 (hun i hv d h1)
          obtain ⟨v, h4, _⟩ := r3.slot i d h1 h3
          rw [pb3 i v hn h4] at z
          cases z
        have hpe : ∀ i v, j.e.P i = some v → pb i = some v := fun i v h => by
          have hn : i ∉ vs := fun hv => by
            rw [hp i hv] at h
            cases h
          exact pb3 i v hn (r3.pin i v h)
        refine ⟨_, pb1, blkW pb W2, F3, env2, d, rB, rp, env3, by rw [← ed]; exact og, fun W4 F4 H4 σ4 r4 x4 l4 k4 => ?_⟩
        have k4' : ∀ i, i ∉ vs → σ4[i]? = (wipe σ vs)[i]? := fun i hn => k4 i fun z => hn (hss i z)
        have wσ : wipe σ4 vs = wipe σ vs := by
          rw [wipe_eq (σ := wipe σ vs) (σ' := σ4) l4 k4']
          refine List.ext_getElem? fun i => ?_
          by_cases z : i ∈ vs
          · rw [wipe_in z, wipe_in z, wl]
          · rw [wipe_get z]
        refine ⟨wσ, _, pb1, W4, F4, env3, r4, ?_⟩
        have keepD : ∀ {W' F' H' env' σ'}, Rel (mo X) ⟨_, F3, blkW pb W2, pb⟩ W' F' H' env' σ' → H' Dl = some (.lst xs) ∧ F' Dl = none ∧ W' Dl = none := fun {W' F' H' env' σ'} r => by
          have bn : blkW pb W2 Dl = none := by
            unfold blkW
            rw [hW]
          refine ⟨r.pres Dl _ bn hD3, ?_, ?_⟩
          · cases z : F' Dl with
            | none => rfl
            | some u =>
              rcases r.new Dl (by rw [z]; simp) with y | y
              · exact absurd hF3 y
              · cases hD3.symm.trans y
          · cases z : W' Dl with
            | none => rfl
            | some u =>
              rcases (r.sep Dl (by rw [z]; simp)).2.1 with y | y
              · exact absurd bn y
              · cases hD3.symm.trans y
        have back : ∀ {W' F' H' env'}, Rel (mo X) ⟨_, F3, blkW pb W2, pb⟩ W' F' H' env' σ4 → Rel (mo X) j.e W' F' H' (wipeD env' vs) (wipe σ vs) := fun {W' F' H' env'} r =>
          (Rel.outB r3.toRelB r hpe).wipe vs (by rw [l4]) (fun i hn => (k4' i hn).symm) hp
        have unb : ∀ (env' : List D) i, i ∈ vs → ∀ d, (wipeD env' vs)[i]? = some d → d = .unb := fun env' i hv d h => Classical.byContradiction fun hd => (wipeD_get h hd).1 hv
        refine At.bindB e2 (fun z => nomatch z) fun b env5 W5 F5 H5 b' ob r5 x5 hb e5 => ?_
        subst hb
        cases b with
        | false =>
          rw [if_neg Bool.false_ne_true] at e5 ⊢
          obtain ⟨d1, d2, d3⟩ := keepD r5
          exact ⟨W5, F5, _, acc, xs, back r5, x2.trans (grw.exF.trans (x4.trans x5)), d1, d2, d3, ra.mono (grw.exF.trans (x4.trans x5)), unb _, e5⟩
        | true =>
          rw [if_pos rfl] at e5 ⊢
          refine ⟨_, pb1, W5, F5, env5, r5, At.bindB e5 (fun z => nomatch z) fun ds1 env6 W6 F6 H6 J1 o6 r6 x6 p6 e6 => ?_⟩
          by_cases hz : acc.length + ds1.length ≤ 1000000
          · rw [if_pos hz] at e6
            cases o7 : lcGo g1 dt1 de vs1 ds1 acc (wipeD env6 vs1) with
            | ex c fs en => rw [o7] at e6; cases e6
            | bad => rw [o7] at e6; cases e6
            | ok acc7 env7 =>
              rw [o7] at e6
              have e6 : lc2Go g dt di1 g1 dt1 de vs vs1 (ds.drop (i + 1)) acc7 (wipeD env7 vs) = .ok acc0 env0 := e6
              obtain ⟨d1, d2, d3⟩ := keepD r6
              have xx : Ex F2 F6 := grw.exF.trans (x4.trans (x5.trans x6))
              have rb : Rel (mo X) j.e W6 F6 H6 env6 σ4 := Rel.outB r3.toRelB r6 hpe
              have hp1 : ∀ i ∈ vs1, j.e.P i = none := fun i h => hp i (hv1 i h)
              have rw1 : Rel (mo X) j.e W6 F6 H6 (wipeD env6 vs1) (wipe σ4 vs1) := rb.wipe vs1 (wipe_length σ4 vs1) (fun i h => wipe_get h) hp1
              refine lc_loop hp1 hss1 Dl hD00 rw1 d1 d2 d3 (ra.mono xx) (fun i hi d h => Classical.byContradiction fun hd => (wipeD_get h hd).1 hi) p6 (Nat.le_refl _) hz o7 _ fun W8 F8 H8 xs8 r8 x8 k1 k2 k3 k4 k5 => ?_
              refine ⟨W8, F8, _, acc7, xs8, ?_, x2.trans (xx.trans x8), k1, k2, k3, k4, unb _, e6⟩
              refine r8.wipe vs ?_ (fun i hn => ?_) hp
              · rw [wipe_length, wipe_length, l4, wl]
              · rw [wipe_get (σ := σ4) (fun z => hn (hv1 i z))]
                exact (k4' i hn).symm
          · rw [if_neg hz] at e6
            cases e6
    · -- the end
      refine .inl ⟨(p1 i F2 H x2 r2.exF).2 (by omega), ?_⟩
      rw [List.drop_eq_nil_of_le (by omega)] at e2
      have e2 : R.ok acc env2 = R.ok acc0 env0 := e2
      injection e2 with e3 e4
      subst e3 e4
      -- the slots as they stood
      have a : Rel (mo X) j.e W2 F2 H (backD env1 env2 vs) σ := {
        toRelB := r2.toRelB
        len := by rw [backD_len, r2.len, wl]
        slot := fun i d h1 h2 => by
          rcases backD_get h1 h2 with ⟨h3, h4⟩ | ⟨h3, h4, h5⟩
          · obtain ⟨v, h6, h7⟩ := r2.slot i d h4 h2
            exact ⟨v, by rw [← wg i h3]; exact h6, h7⟩
          · obtain ⟨v, h6, h7⟩ := r1.slot i d h4 h2
            exact ⟨v, h6, .fz ((h7.rp h5).mono x2)⟩
        pin := r1.pin }
      have hD0 : j.e.H0 Dl = none := by
        cases z : j.e.H0 Dl with
        | none => rfl
        | some p => exact absurd hDl (r1.stay Dl (by rw [z]; simp))
      have own2 : ∀ {l : List D} {xs : List V} {W' : Own} {k : Nat}, RpL (mo X) F2 l xs → OwL (mo X) W' F2 H [0] k l xs := by
        intro l
        induction l with
        | nil => intro xs W' k h; cases h; exact .nil
        | cons d l ih => intro xs W' k h; cases h with
          | cons h q => exact .cons (.fz h) (ih q)
      have old : ∀ b, b ≠ Dl → newW W2 Dl b ≠ none → W2 b ≠ none := fun b hb h z => h (by
        unfold newW
        rw [if_neg hb, z]
        rfl)
      refine q1 (newW W2 Dl) F2 H (.ref Dl) ⟨⟨a.pres, a.exF0, a.exF, fun b h => ?_, fun b c q h => ?_, a.new, a.stay⟩, a.len, fun k d' h1 h2 => ?_, a.pin⟩ x2 (.ml (by unfold newW; rw [if_pos rfl]) hD (own2 ra))
      · by_cases z : b = Dl
        · subst z
          exact ⟨hF, .inr hD0, by rw [hD]; simp⟩
        · exact a.sep b (old b z h)
      · unfold newW at h
        split at h
        · rename_i z
          subst z
          exact .inl hD0
        · split at h
          · cases h
          · exact a.fresh b c q h
      · obtain ⟨v', h5, h6⟩ := a.slot k d' h1 h2
        refine ⟨v', h5, h6.tr (Ex.refl F2) fun b q' z => ⟨?_, fun _ y => y⟩⟩
        have : b ≠ Dl := fun w => by
          rw [w, hW] at z
          cases z
        unfold newW
        rw [if_neg this, if_neg]
        · exact z
        · intro w
          obtain ⟨q2, h7⟩ := rootIs_iff.mp w
          rw [z] at h7
          injection h7 with h7
          injection h7 with h8 _
          omega
theorem o_lc2 {vs1 ss1 : List Nat} (hc : X.calm = true) (hN : X.N.Nodup) (hp : ∀ i ∈ own.map (·.2), j.e.P i = none) (hss : ∀ i ∈ ss, i ∈ own.map (·.2)) (hv1 : ∀ i ∈ vs1, i ∈ own.map (·.2)) (hss1 : ∀ i ∈ ss1, i ∈ vs1) (hi : DI X j tg iter di) (ok : BlkOk X.N X.env.scope scope own)
    (hg : ∀ (s : Shared) (H : Hp) (C : Addr) (cl : List (Str × Addr)) (fp : List Addr) (eb : Ent), (∀ i ∈ own.map (·.2), eb.P i = none) → DGw (X.blk s H scope (compEnvC scope cl C X.env) fp) ⟨eb, noX⟩ tg ss g)
    (ht : ∀ (s : Shared) (H : Hp) (C : Addr) (cl : List (Str × Addr)) (fp : List Addr) (eb : Ent), (∀ i ∈ own.map (·.2), eb.P i = none) → DTs (X.blk s H scope (compEnvC scope cl C X.env) fp) ⟨eb, noX⟩ ifs dt)
    (hi1 : ∀ (s : Shared) (H : Hp) (C : Addr) (cl : List (Str × Addr)) (fp : List Addr) (eb : Ent), (∀ i ∈ own.map (·.2), eb.P i = none) → DI (X.blk s H scope (compEnvC scope cl C X.env) fp) ⟨eb, noX⟩ tg1 iter1 di1)
    (hg1 : ∀ (s : Shared) (H : Hp) (C : Addr) (cl : List (Str × Addr)) (fp : List Addr) (eb : Ent), (∀ i ∈ vs1, eb.P i = none) → DGw (X.blk s H scope (compEnvC scope cl C X.env) fp) ⟨eb, noX⟩ tg1 ss1 g1)
    (ht1 : ∀ (s : Shared) (H : Hp) (C : Addr) (cl : List (Str × Addr)) (fp : List Addr) (eb : Ent), (∀ i ∈ vs1, eb.P i = none) → DTs (X.blk s H scope (compEnvC scope cl C X.env) fp) ⟨eb, noX⟩ ifs1 dt1)
    (he : ∀ (s : Shared) (H : Hp) (C : Addr) (cl : List (Str × Addr)) (fp : List Addr) (eb : Ent), (∀ i ∈ vs1, eb.P i = none) → DE (X.blk s H scope (compEnvC scope cl C X.env) fp) ⟨eb, noX⟩ elt de)
    (hs : ∀ x, foldedSetIterable iter X.env x = pure x := by intro _; rfl) (hs1 : ∀ env x, foldedSetIterable iter1 env x = pure x := by intro _ _; rfl) : DO X j (.ListComp elt [⟨tg, iter, ifs, 0⟩, ⟨tg1, iter1, ifs1, 0⟩] scope pos) (lc2D di g dt di1 g1 dt1 de (own.map (·.2)) vs1) :=
  PE.mono (pe_lc2 (vs1 := vs1) (g := lcG (mo X) (own.map (·.2)) ss g) (tt := lcT (mo X) (own.map (·.2)) dt) (wi1 := lcI (mo X) (own.map (·.2)) di1) (g1 := lcG (mo X) vs1 ss1 g1) (tt1 := lcT (mo X) vs1 dt1) (te := lcE (mo X) vs1 de) hc hN hi ok hv1
    (fun s H C cl fp => ⟨fun pins s' σ H' v u Q I r ⟨eb, h1, h2⟩ => (hg s H C cl fp eb h1).run pins s' σ H' v u Q I r h2⟩)
    (fun s H C cl fp => ⟨fun pins s' σ H' Q I ⟨eb, h1, h2⟩ => (ht s H C cl fp eb h1).run pins s' σ H' Q I h2⟩)
    (fun s H C cl fp => ⟨fun pins s' σ H' Q I ⟨eb, h1, h2⟩ => (hi1 s H C cl fp eb h1).run pins s' σ H' Q I h2⟩)
    (fun s H C cl fp => ⟨fun pins s' σ H' v u Q I r ⟨eb, h1, h2⟩ => (hg1 s H C cl fp eb h1).run pins s' σ H' v u Q I r h2⟩)
    (fun s H C cl fp => ⟨fun pins s' σ H' Q I ⟨eb, h1, h2⟩ => (ht1 s H C cl fp eb h1).run pins s' σ H' Q I h2⟩)
    (fun s H C cl fp => ⟨fun pins s' σ H' Q I ⟨eb, h1, h2⟩ => (he s H C cl fp eb h1).run pins s' σ H' Q I h2⟩) hs hs1) fun σ H Q h => lc2_red hp hss hv1 hss1 h
end
end DL
namespace DL
open PySem PySem.Spec PyProof.Rows L2 HT
/-! ## list(zip(a, b)) of two lists -/
theorem zip_no_len : typeLookup (.type "zip") "__len__" = pure none := by rw [typeLookup_type, builtinLookup_eq_fast]; kernel_rfl
theorem zip_no_hint : typeLookup (.type "zip") "__length_hint__" = pure none := by rw [typeLookup_type, builtinLookup_eq_fast]; kernel_rfl
theorem call_list_zip {prog : Program} {w : World} {A : Around} {E : Value → Shared → Prop} {s : Shared} {z TI TO : Addr} {Q : Value → Shared → Prop} (hh : A.handled = none) (hz : IsZip s.heap z TI TO .none) (Fin : Shared → Prop)
    (loop : ∀ (A' : Around) (R : Result → Shared → Prop) (h3 : Heap) (c : Nat), A'.handled = none → (∀ b o, s.heap.get? b = some o → h3.get? b = some o) → h3.get? s.heap.objs.size = some { cls := .type "list", data := .seq #[] c } → (∀ s', Fin s' → R (.ok (.ret .none)) s') →
      codeAny (model prog w) A' (.builtin "list.extend.loop" ⟨[.ref s.heap.objs.size, .ref z, .none], []⟩) R { s with heap := h3 })
    (hQ : ∀ s', Fin s' → Q (.ref s.heap.objs.size) s') : wpAny (model prog w) A (call (.type "list") [.ref z]) Q E s := by
  have hzl : z < s.heap.objs.size := Heap.lt_size hz
  have hSz : s.heap.objs.size ≠ z := Nat.ne_of_gt hzl
  refine callType_codes (Q₁ := fun obj s₁ => obj = .ref s.heap.objs.size ∧ s₁ = { s with heap := s.heap.push { cls := .type "list", data := .seq #[] } }) PySem.F.called_list (PySem.F.typeCall_list_1 _) PySem.F.entry_list_init
    (code_list_new _ ⟨rfl, rfl⟩) fun obj s₁ h₁ => ?_
  obtain ⟨rfl, rfl⟩ := h₁
  have ltS : ∀ b o, s.heap.get? b = some o → b < s.heap.objs.size := fun b o e => Heap.lt_size e
  generalize hS0 : s.heap.objs.size = S at *
  have hS : (s.heap.push { cls := .type "list", data := .seq #[] }).get? S = some { cls := .type "list", data := .seq #[] } := by rw [← hS0]; exact Heap.get?_push_size _ rfl
  refine ⟨⟨_, hS, rfl⟩, PySem.F.args_list_init_2 _ _, ?_⟩
  show wpAny _ A.in1.in1 (do let old ← Builtin.List.listItems (.ref S); Builtin.List.listUpdate (.ref S) (fun _ => #[]); letGo old.toList.reverse; Builtin.List.listExtendWith (.ref S) (.ref z) .none) _ _ _
  refine wpAny_bind ?_
  unfold Builtin.List.listItems
  refine wpAny_bind (wpAny_seqItems hS rfl (wpAny_pure ?_))
  show wpAny _ A.in1.in1 (updateSeq S (fun _ => #[]) >>= fun _ => letGo (#[] : Array Value).toList.reverse >>= fun _ => Builtin.List.listExtendWith (.ref S) (.ref z) .none) _ _ _
  refine wpAny_bind (wpAny_updateSeq hS rfl ?_)
  have hS₂ := Heap.get?_update_self (Obj.mapSeq (fun _ => (#[] : Array Value))) hS rfl
  have oth : ∀ b o, s.heap.get? b = some o → ((s.heap.push { cls := .type "list", data := .seq #[] }).update S (Obj.mapSeq (fun _ => (#[] : Array Value)))).get? b = some o :=
    fun b o e => (Heap.get?_update_other _ _ (Nat.ne_of_gt (ltS b o e))).trans (Heap.get?_push_of_some _ e)
  refine wpAny_bind (wpAny_letGo ?_)
  generalize ((s.heap.push { cls := .type "list", data := .seq #[] }).update S (Obj.mapSeq (fun _ => (#[] : Array Value)))) = h2 at hS₂ oth
  have hz2 : IsZip h2 z TI TO .none := oth _ _ hz
  unfold Builtin.List.listExtendWith
  refine wpAny_bind (wpAny_typeOf (T := "zip") ⟨_, hz2, rfl⟩ ?_)
  have h1 : Builtin.List.listSameRef (.ref S) (.ref z) = false := by simp [Builtin.List.listSameRef, hSz]
  have h2' : (Value.type "zip" == Value.type "list") = false := by decide
  have h3 : (Value.type "zip" == Value.type "tuple") = false := by decide
  simp only [h1, h2', h3, Bool.or_false, Bool.false_eq_true, if_false]
  refine wpAny_bind (wpAny_pyIter_zip hz2 ?_)
  refine wpAny_bind (wpAny_holding ?_)
  unfold Builtin.List.listLengthHint
  refine wpAny_bind (wpAny_specialOf (T := "zip") ⟨_, hz2, rfl⟩ zip_no_len ?_)
  show wpAny _ _ (specialOf (Value.ref z) (Str.ofString "__length_hint__") >>= _) _ _ _
  refine wpAny_bind (wpAny_specialOf (T := "zip") ⟨_, hz2, rfl⟩ zip_no_hint ?_)
  refine wpAny_pure ?_
  show wpAny _ _ (rule "list.extend.makes-room" >>= fun _ => Builtin.List.listTouch (.ref S) >>= fun _ =>
    again (.builtin "list.extend.loop" ⟨[.ref S, .ref z, .none], []⟩)) _ _ _
  refine wpAny_bind (wpAny_rule ?_)
  refine wpAny_bind ?_
  show wpAny _ _ (updateSeq S (·.push .none) >>= fun _ => updateSeq S (·.pop)) _ _ _
  refine wpAny_bind (wpAny_updateSeq hS₂ rfl ?_)
  have hS₃ := Heap.get?_update_self (Obj.mapSeq (·.push Value.none)) hS₂ rfl
  refine wpAny_updateSeq (hz := by seq_fits) hS₃ rfl ?_
  have hS₄ := Heap.get?_update_self (Obj.mapSeq (·.pop)) hS₃ rfl
  refine wpAny_pure ⟨plainId_quiet PySem.F.plain_extend_loop _, loop _ _ _ _ hh (fun b o e => ?_) hS₄ fun s' hf => ⟨rfl, hQ s' hf⟩⟩
  have hb : S ≠ b := Nat.ne_of_gt (ltS b o e)
  exact (Heap.get?_update_other _ _ hb).trans ((Heap.get?_update_other _ _ hb).trans (oth b o e))
/-- where a zip stands between two draws, what it has given still held -/
def ZSt (h : Heap) (z TI TO i1 i2 a b S : Addr) (i : Nat) : Prop :=
  ((IsZip h z TI TO .none ∧ ∃ x y, IsPair h TO x y) ∨ ∃ T f oT, IsZipHeld h z TI TO T f ∧ h.get? T = some oT ∧ T ≠ z ∧ T ≠ i1 ∧ T ≠ i2 ∧ T ≠ S) ∧ IsPair h TI (.ref i1) (.ref i2) ∧ h.IsListIter i1 a i ∧ h.IsListIter i2 b i ∧ TO < h.objs.size
section
variable {X : L2.Cx}
theorem zl_loop {z TI TO i1 i2 a b S : Addr} (D : ZipApart z TI TO i1 i2 a b) (hS : S ∉ [z, TI, TO, i1, i2]) {xs ys : List V} {A : Around} (hh : A.handled = none) {pins : List (Addr × Obj)} {σ : L2.St} {R : Result → Shared → Prop} (C : Nat → Hp → List V → Prop)
    (cs : ∀ i H acc, C i H acc → SqL X.K H a xs ∧ SqL X.K H b ys ∧ H S = some (.lst acc) ∧ acc.length = i) (hn : min xs.length ys.length ≤ 1000000)
    (step : ∀ i H acc T x y, C i H acc → xs[i]? = some x → ys[i]? = some y → H T = none → C (i + 1) (upd (upd H T (.tup [x, y])) S (.lst (acc ++ [.ref T]))) (acc ++ [.ref T]))
    (hR : ∀ s' H acc, Inv X pins σ H s' → C (min xs.length ys.length) H acc → R (.ok (.ret .none)) s') :
    ∀ (k i : Nat) (s : Shared) (H : Hp) (acc : List V), min xs.length ys.length - i = k → i ≤ min xs.length ys.length → Inv X pins σ H s → ZSt s.heap z TI TO i1 i2 a b S i → (∀ c ∈ [z, TI, TO, i1, i2], FpOk X pins H c) → C i H acc →
      codeAny (model X.prog X.w) A (.builtin "list.extend.loop" ⟨[.ref S, .ref z, .none], []⟩) R s := by
  intro k
  induction k with
  | zero =>
    intro i s H acc hk hi I st hf hc
    obtain ⟨c1, c2, c3, c4⟩ := cs i H acc hc
    obtain ⟨its, rv, p, _⟩ := I.list c1
    obtain ⟨its2, rv2, p2, _⟩ := I.list c2
    have l1 := rv.length
    have l2 := rv2.length
    have hin : i = min xs.length ys.length := by omega
    have he : its.toArray[i]? = none ∨ its2.toArray[i]? = none := by
      rcases Nat.le_total xs.length ys.length with q | q
      · exact .inl (by simp; omega)
      · exact .inr (by simp; omega)
    have fin : ∀ h', (∀ c o, c ∉ [z, TI, TO, i1, i2] → s.heap.get? c = some o → h'.get? c = some o) → R (.ok (.ret .none)) { s with heap := h' } := fun h' hk => hR _ H acc (I.turnedL (t' := s.toks) (ch := [z, TI, TO, i1, i2]) hk hf) (by rw [← hin]; exact hc)
    refine codeAny_builtin PySem.F.entry_extend_loop ?_
    rw [Around.under_plainId PySem.F.plain_extend_loop _]
    show wpAny _ A.in1 (pyNext (.ref z) >>= _) _ _ s
    obtain ⟨st1, hTI, h1, h2, hTOl⟩ := st
    rcases st1 with ⟨hz, x0, y0, hTO⟩ | ⟨T, f, oT, hz, hT, t1, t2, t3, t4⟩
    · exact wpAny_bind (wpAny_pyNext_zip_end (A := A.in1) hh D hz hTI hTO h1 h2 p.isList p2.isList he fun h' hk => wpAny_pure (fin h' fun c o hb e => hk c o (fun q => hb (by simp [q])) (fun q => hb (by simp [q])) (fun q => hb (by simp [q])) (fun q => hb (by simp [q])) e))
    · exact wpAny_bind (wpAny_pyNext_zip_end_held (A := A.in1) hh D hz hT hTI h1 h2 p.isList p2.isList he fun h' hk => wpAny_pure (fin h' fun c o hb e => hk c o (fun q => hb (by simp [q])) (fun q => hb (by simp [q])) (fun q => hb (by simp [q])) e))
  | succ k ih =>
    intro i s H acc hk hi I st hf hc
    obtain ⟨c1, c2, c3, c4⟩ := cs i H acc hc
    obtain ⟨its, rv, p, _⟩ := I.list c1
    obtain ⟨its2, rv2, p2, _⟩ := I.list c2
    obtain ⟨x, hx⟩ : ∃ x, xs[i]? = some x := ⟨xs[i]'(by omega), List.getElem?_eq_getElem (by omega)⟩
    obtain ⟨y, hy⟩ : ∃ y, ys[i]? = some y := ⟨ys[i]'(by omega), List.getElem?_eq_getElem (by omega)⟩
    obtain ⟨u, hu, ru⟩ := rv.get hx
    obtain ⟨u2, hu2, ru2⟩ := rv2.get hy
    obtain ⟨st1, hTI, h1, h2, hTOl⟩ := st
    have hzl : z < s.heap.objs.size := by
      rcases st1 with ⟨hz, _⟩ | ⟨T, f, oT, hz, _⟩ <;> exact Heap.lt_size hz
    have hTIl : TI < s.heap.objs.size := Heap.lt_size hTI
    have hi1l : i1 < s.heap.objs.size := by obtain ⟨_, e1, _⟩ := h1; exact Heap.lt_size e1
    have hi2l : i2 < s.heap.objs.size := by obtain ⟨_, e1, _⟩ := h2; exact Heap.lt_size e1
    have hTf : H s.heap.objs.size = none := I.hok.fresh (Nat.le_refl _)
    have hST : S ≠ s.heap.objs.size := fun e => by rw [e, hTf] at c3; cases c3
    have hSn : ∀ c ∈ [z, TI, TO, i1, i2], S ≠ c := fun c hc e => hS (e ▸ hc)
    refine codeAny_builtin PySem.F.entry_extend_loop ?_
    rw [Around.under_plainId PySem.F.plain_extend_loop _]
    show wpAny _ A.in1 (pyNext (.ref z) >>= _) _ _ s
    -- behind a draw
    have go : ∀ h' f T0 oT, IsZipHeld h' z TI TO T0 f → h'.get? T0 = some oT → T0 ≠ z → T0 ≠ i1 → T0 ≠ i2 → T0 ≠ S → h'.IsListIter i1 a (i + 1) → h'.IsListIter i2 b (i + 1) → IsPair h' s.heap.objs.size u u2 → h'.objs.size = s.heap.objs.size + 1 →
        (∀ c o, c ∉ [z, TO, i1, i2] → s.heap.get? c = some o → h'.get? c = some o) →
        wpAny (model X.prog X.w) A.in1 (updateSeq S (·.push (.ref s.heap.objs.size)) >>= fun _ => again (.builtin "list.extend.loop" ⟨[.ref S, .ref z, .none], []⟩)) (fun fin s' => match fin with | .done f => R (.ok f) s' | .again c' => c'.quiet = true ∧ codeAny (model X.prog X.w) A c' R s') (fun e s' => R (.error e) s') { s with heap := h' } := by
      intro h' f T0 oT z' g1 g2 g3 g4 g5 h1' h2' hT hsz hk
      have new : ObjOk X.prog X.w (upd H s.heap.objs.size (.tup [x, y])) h' s.heap.objs.size (.tup [x, y]) :=
        ⟨by show 2 ≤ sizeLine; decide, [u, u2], .cons ru (.cons ru2 .nil), ⟨_, hT, rfl, _, rfl⟩⟩
      have I1 : Inv X pins σ (upd H s.heap.objs.size (.tup [x, y])) { s with heap := h' } :=
        I.turnedNew (t' := s.toks) (ch := [z, TI, TO, i1, i2]) (fun c o hb q => hk c o (fun q' => hb (by simp at q'; rcases q' with q' | q' | q' | q' <;> simp [q'])) q) hf (Nat.le_refl _) new
      have c3' : (upd H s.heap.objs.size (.tup [x, y])) S = some (.lst acc) := by rw [upd_ne hST]; exact c3
      obtain ⟨hz', itsS, n, ri, eS⟩ := I1.hok S _ c3'
      have hl := ri.length
      refine wpAny_bind ?_
      refine wpAny_updateSeq eS rfl (wpAny_pure ⟨plainId_quiet PySem.F.plain_extend_loop _, ?_⟩) (by rw [List.size_toArray]; have := sizeLine_eq; omega) (by show (itsS.toArray.push _).size ≤ sizeLine + 1; rw [Array.size_push, List.size_toArray]; have := sizeLine_eq; omega)
      have hself := Heap.get?_update_self (Obj.mapSeq (·.push (Value.ref s.heap.objs.size))) eS rfl
      have oth : ∀ c o, c ≠ S → h'.get? c = some o → (h'.update S (Obj.mapSeq (·.push (Value.ref s.heap.objs.size)))).get? c = some o := fun c o hb e => (Heap.get?_update_other _ _ (Ne.symm hb)).trans e
      have I2 : Inv X pins σ (upd (upd H s.heap.objs.size (.tup [x, y])) S (.lst (acc ++ [.ref s.heap.objs.size]))) { s with heap := h'.update S (Obj.mapSeq (·.push (Value.ref s.heap.objs.size))) } :=
        I1.write (t' := s.toks) (by rw [c3']; trivial) (.inl rfl) (fun b u hb q => oth b u hb q) ⟨_, hself⟩ ⟨by rw [List.length_append]; have := sizeLine_eq; simp; omega, itsS ++ [.ref s.heap.objs.size], n + 1, ri.append (.cons (show L2.RelV (V.ref s.heap.objs.size) (Value.ref s.heap.objs.size) from rfl) .nil), by
          rw [hself]
          simp [Obj.mapSeq]⟩
      refine ih (i + 1) _ _ _ (by omega) (by omega) I2 ?_ (fun c hcm => ?_) (step i H acc s.heap.objs.size x y hc hx hy hTf)
      · have m := fun c (h : c ∈ [z, TI, TO, i1, i2]) => Ne.symm (hSn c h)
        refine ⟨.inr ⟨T0, f, oT, oth z _ (m z (by simp)) z', oth _ _ g5 g1, g2, g3, g4, g5⟩, ?_, ?_, ?_, ?_⟩
        · exact oth TI _ (m TI (by simp)) (hk TI _ (by simp [D.TIz, D.TITO, D.TIi1, D.TIi2]) hTI)
        · exact h1'.at fun o q => oth i1 o (m i1 (by simp)) q
        · exact h2'.at fun o q => oth i2 o (m i2 (by simp)) q
        · show TO < (h'.update S _).objs.size
          rw [(Heap.SameBut.update ..).1, hsz]
          exact Nat.lt_succ_of_lt hTOl
      · have q := hf c hcm
        refine ⟨?_, q.2⟩
        have hcl : c ≠ s.heap.objs.size := fun e => by
          have e' : c = z ∨ c = TI ∨ c = TO ∨ c = i1 ∨ c = i2 := by simpa using hcm
          rcases e' with w | w | w | w | w
          · exact absurd hzl (by rw [← w, e]; exact Nat.lt_irrefl _)
          · exact absurd hTIl (by rw [← w, e]; exact Nat.lt_irrefl _)
          · exact absurd hTOl (by rw [← w, e]; exact Nat.lt_irrefl _)
          · exact absurd hi1l (by rw [← w, e]; exact Nat.lt_irrefl _)
          · exact absurd hi2l (by rw [← w, e]; exact Nat.lt_irrefl _)
        rw [upd_ne (Ne.symm (hSn c hcm)), upd_ne hcl]
        exact q.1
    rcases st1 with ⟨hz, x0, y0, hTO⟩ | ⟨T, f, oT, hz, hT, t1, t2, t3, t4⟩
    · exact wpAny_bind (wpAny_pyNext_zip_item (A := A.in1) D hz hTI hTO h1 h2 p.isList p2.isList (x := u) (y := u2) (by simpa using hu) (by simpa using hu2) fun h' z' TO' h1' h2' hT hsz hk => go h' false _ _ z' hT (Nat.ne_of_gt hzl) (Nat.ne_of_gt hi1l) (Nat.ne_of_gt hi2l) (Ne.symm hST) h1' h2' hT hsz fun c o hb e => hk c o (fun q => hb (by simp [q])) (fun q => hb (by simp [q])) (fun q => hb (by simp [q])) (fun q => hb (by simp [q])) e)
    · exact wpAny_bind (wpAny_pyNext_zip_item_held (A := A.in1) D hz hT hTI h1 h2 p.isList p2.isList (x := u) (y := u2) (by simpa using hu) (by simpa using hu2) fun h' z' h1' h2' hT' hsz hk => go h' true T oT z' (hk T oT t1 t2 t3 hT) t1 t2 t3 t4 h1' h2' hT' hsz fun c o hb e => hk c o (fun q => hb (by simp [q])) (fun q => hb (by simp [q])) (fun q => hb (by simp [q])) e)
/-- an expression that makes a zip of two lists -/
def PZp (X : L2.Cx) (e : Expr) (t : L2.St → Hp → (Addr → List V → Addr → List V → Hp → Prop) → Prop) : Prop :=
  ∀ (pins : List (Addr × Obj)) (s : Shared) (σ : L2.St) (H : Hp) (Q : Addr → List V → Addr → List V → Hp → Prop), Inv X pins σ H s → t σ H Q →
    wpAny (model X.prog X.w) X.A (eval e X.env) (fun x s' => ∃ z TI TO i1 i2 a b xs ys H' u v, x = .ref z ∧ IsZip s'.heap z TI TO .none ∧ IsPair s'.heap TI (.ref i1) (.ref i2) ∧ IsPair s'.heap TO u v ∧ s'.heap.IsListIter i1 a 0 ∧ s'.heap.IsListIter i2 b 0 ∧ ZipApart z TI TO i1 i2 a b ∧
      (∀ c ∈ [z, TI, TO, i1, i2], FpOk X pins H' c) ∧ Inv X pins σ H' s' ∧ Q a xs b ys H') X.xe s
def tZp (K : PySem.W.Frag) (ta : TA) : L2.St → Hp → (Addr → List V → Addr → List V → Hp → Prop) → Prop := fun σ H Q => ta σ H fun vs H1 => ∃ a b xs ys, vs = [.ref a, .ref b] ∧ SqL K H1 a xs ∧ SqL K H1 b ys ∧ Q a xs b ys H1
theorem pzp {e e2 : Expr} {ta : TA} {p pos : Pos} (hg : Gl X "zip") (hm : X.mg "zip" = none) (ha : PA X [e, e2] ta)
    (hs : starEach [e, e2] X.env = (false, eval e X.env) :: starEach [e2] X.env := by rfl) (hpl : (backTo pos (starEach [e2] X.env)).any (·.1) = false := by rfl) : PZp X (.Call (.Name "zip" p) [e, e2] [] pos) (tZp X.K ta) := by
  intro pins s σ H Q I h
  refine Call_ (ld_blt I hg hm PyProof.Rows.boot_zip (PyProof.Rows.callWith_type1 (thn (ha.run pos pins s σ H _ I h) fun us s1 ⟨vs, H1, I1, r1, q1⟩ => ?_) hs hpl))
  obtain ⟨a, b, xs, ys, ex, hqx, hqy, q⟩ := q1
  subst ex
  cases r1 with
  | cons r rr =>
    cases rr with
    | cons r' rr =>
      cases rr
      cases r
      cases r'
      have fresh5 : ∀ c, c ∈ [s1.heap.objs.size + 4, s1.heap.objs.size + 2, s1.heap.objs.size + 3, s1.heap.objs.size, s1.heap.objs.size + 1] → FpOk X pins H1 c := fun c hcm => by
        have e' : c = s1.heap.objs.size + 4 ∨ c = s1.heap.objs.size + 2 ∨ c = s1.heap.objs.size + 3 ∨ c = s1.heap.objs.size ∨ c = s1.heap.objs.size + 1 := by simpa using hcm
        have hle : s1.heap.objs.size ≤ c := by
          rcases e' with z | z | z | z | z
          · rw [z]; exact Nat.le_add_right _ _
          · rw [z]; exact Nat.le_add_right _ _
          · rw [z]; exact Nat.le_add_right _ _
          · rw [z]; exact Nat.le_refl _
          · rw [z]; exact Nat.le_add_right _ _
        exact I1.fpOk hle (I1.hok.fresh hle)
      obtain ⟨its, rv, p1, _⟩ := I1.list hqx
      obtain ⟨its2, rv2, p2, _⟩ := I1.list hqy
      refine call_zip_2 p1.isList p2.isList fun h' hz hTI hTO h1 h2 hsz hk => ?_
      have I2 : Inv X pins σ H1 { s1 with heap := h' } := I1.kept (t' := s1.toks) hk
      exact ⟨s1.heap.objs.size + 4, s1.heap.objs.size + 2, s1.heap.objs.size + 3, s1.heap.objs.size, s1.heap.objs.size + 1, a, b, xs, ys, H1, _, _, rfl, hz, hTI, hTO, h1, h2, PySem.W.ktu_apart s1.heap.objs.size a b p1.lt p2.lt, fresh5, I2, q⟩
def tLZ (K : PySem.W.Frag) (te : L2.St → Hp → (Addr → List V → Addr → List V → Hp → Prop) → Prop) : TE := fun σ H Q => te σ H fun a xs b ys H1 => min xs.length ys.length ≤ 1000000 ∧ ∀ S, H1 S = none → ∃ C : Nat → Hp → List V → Prop, C 0 (upd H1 S (.lst [])) [] ∧
  (∀ i H acc, C i H acc → SqL K H a xs ∧ SqL K H b ys ∧ H S = some (.lst acc) ∧ acc.length = i) ∧
  (∀ i H acc T x y, C i H acc → xs[i]? = some x → ys[i]? = some y → H T = none → C (i + 1) (upd (upd H T (.tup [x, y])) S (.lst (acc ++ [.ref T]))) (acc ++ [.ref T])) ∧ ∀ H' acc, C (min xs.length ys.length) H' acc → Q (.ref S) H'
theorem pe_listZp {e : Expr} {te : L2.St → Hp → (Addr → List V → Addr → List V → Hp → Prop) → Prop} {p pos : Pos} (hc : X.calm = true) (hg : Gl X "list") (hm : X.mg "list" = none) (he : PZp X e te) (na : starEach [e] X.env = (false, eval e X.env) :: starEach [] X.env := by rfl) : PE X (.Call (.Name "list" p) [e] [] pos) (tLZ X.K te) := by
  refine ⟨fun pins s σ H Q I h => ?_⟩
  refine Call_ (ld_blt I hg hm boot_list (PyProof.Rows.callWith_type1 (args_cons (thn (he pins s σ H _ I h) fun x s1 ⟨z, TI, TO, i1, i2, a, b, xs, ys, H1, u, v, ex, hz, hTI, hTO, h1, h2, D, hf, I1, hn, q⟩ => args_nil ?_) na) na))
  subst ex
  obtain ⟨C, c0, cs, step, qq⟩ := q s1.heap.objs.size (I1.hok.fresh (Nat.le_refl _))
  have lt : ∀ c ∈ [z, TI, TO, i1, i2], c < s1.heap.objs.size := fun c hcm => by
    have e' : c = z ∨ c = TI ∨ c = TO ∨ c = i1 ∨ c = i2 := by simpa using hcm
    rcases e' with w | w | w | w | w
    · rw [w]; exact Heap.lt_size hz
    · rw [w]; exact Heap.lt_size hTI
    · rw [w]; exact Heap.lt_size hTO
    · rw [w]; obtain ⟨_, e1, _⟩ := h1; exact Heap.lt_size e1
    · rw [w]; obtain ⟨_, e1, _⟩ := h2; exact Heap.lt_size e1
  refine call_list_zip (I1.ok.hd hc) hz (fun s' => ∃ H' acc, Inv X pins σ H' s' ∧ C (min xs.length ys.length) H' acc) (fun A' R h3 c hA hk hS3 k => ?_) fun s' ⟨H', acc, I', q'⟩ => ⟨.ref s1.heap.objs.size, H', I', rfl, qq H' acc q'⟩
  have I3 : Inv X pins σ (upd H1 s1.heap.objs.size (.lst [])) { s1 with heap := h3 } := I1.laid (t' := s1.toks) hk (Nat.le_refl _) ⟨Nat.zero_le _, [], c, .nil, hS3⟩
  refine zl_loop D (fun hm => absurd (lt _ hm) (Nat.lt_irrefl _)) hA C cs hn step (fun s' H' acc I' q' => k s' ⟨H', acc, I', q'⟩) _ 0 _ _ [] rfl (Nat.zero_le _) I3 ⟨.inl ⟨hk _ _ hz, u, v, hk _ _ hTO⟩, hk _ _ hTI, h1.at fun o e => hk _ o e, h2.at fun o e => hk _ o e, Heap.lt_size (hk _ _ hTO)⟩ (fun c hcm => ⟨?_, (hf c hcm).2⟩) c0
  rw [upd_ne (Nat.ne_of_lt (lt c hcm))]
  exact (hf c hcm).1
def lzD (da db : List D → R D) : List D → R D := fun env => bindR (da env) fun d env1 => bindR (db env1) fun e env2 => match d, e with
  | .lst l, .lst m => if min l.length m.length ≤ 1000000 then .ok (.lst (zipL l m)) env2 else .bad
  | _, _ => .bad
theorem zipL_take : ∀ (l m : List D) (i : Nat) (d e : D), l[i]? = some d → m[i]? = some e → (zipL l m).take (i + 1) = (zipL l m).take i ++ [.tup [d, e]]
  | [], _, _, _, _, h, _ => by simp at h
  | _ :: _, [], _, _, _, _, h => by simp at h
  | a :: l, b :: m, 0, d, e, h, k => by
    simp at h k
    subst h k
    simp [zipL]
  | a :: l, b :: m, i + 1, d, e, h, k => by
    simp at h k
    simp only [zipL, List.take_succ_cons, List.cons_append]
    rw [zipL_take l m i d e h k]
theorem zipL_len2 : ∀ l m : List D, (zipL l m).length = min l.length m.length
  | [], _ => by simp [zipL]
  | _ :: _, [] => by simp [zipL]
  | a :: l, b :: m => by
    simp only [zipL, List.length_cons, zipL_len2 l m]
    omega
theorem e_listZip {j : J} {e e2 : Expr} {da db : List D → R D} {p q pos qpos : Pos} (hc : X.calm = true) (hgl : Gl X "list") (hml : X.mg "list" = none) (hg : Gl X "zip") (hm : X.mg "zip" = none) (h : DE X j e da) (h2 : DE X j e2 db)
    (hs : starEach [e, e2] X.env = (false, eval e X.env) :: starEach [e2] X.env := by rfl) (hs2 : starEach [e2] X.env = (false, eval e2 X.env) :: starEach [] X.env := by rfl) (hpl : (backTo qpos (starEach [e2] X.env)).any (·.1) = false := by rfl)
    (na : starEach [.Call (.Name "zip" q) [e, e2] [] qpos] X.env = (false, eval (.Call (.Name "zip" q) [e, e2] [] qpos) X.env) :: starEach [] X.env := by rfl) : DE X j (.Call (.Name "list" p) [.Call (.Name "zip" q) [e, e2] [] qpos] [] pos) (lzD da db) :=
  PE.mono (pe_listZp hc hgl hml (pzp hg hm (pa_cons h (pa_cons h2 pa_nil hs2) hs) hs hpl) na) fun σ H Q ⟨W, F, env, rel, q⟩ => ⟨W, F, env, rel, At.bind q fun d env1 W1 F1 H1 v _ r1 x1 p1 q1 => ⟨W1, F1, env1, r1, At.bind q1 fun d2 env2 W2 F2 H2 v2 _ r2 x2 p2 q2 => by
    have p1 := p1.mono x2
    cases p1 with
    | @lst a xs l g1 g2 =>
      cases p2 with
      | @lst b ys m k1 k2 =>
        simp only at q2
        by_cases hz : min l.length m.length ≤ 1000000
        · rw [if_pos hz] at q2
          have e1 := g2.length
          have e2 := k2.length
          refine ⟨a, b, xs, ys, rfl, ex_l r2.exF g1, ex_l r2.exF k1, by rw [← e1, ← e2]; exact hz, fun S hS => ?_⟩
          refine ⟨fun i H acc => ∃ F3, Ex F2 F3 ∧ Ex H2 H ∧ Ex F3 H ∧ F3 S = none ∧ (∀ b, F3 b ≠ none → F2 b ≠ none ∨ H2 b = none) ∧ H S = some (.lst acc) ∧ RpL (mo X) F3 ((zipL l m).take i) acc ∧ acc.length = i, ⟨F2, Ex.refl F2, Ex.new hS, r2.exF.trans (Ex.new hS), r2.exF.none hS, fun b h => .inl h, upd_same, .nil, rfl⟩, ?_, ?_, ?_⟩
          · rintro i H acc ⟨F3, y1, y2, y3, y4, y5, y6, y7, y8⟩
            exact ⟨ex_l (y1.trans y3) g1, ex_l (y1.trans y3) k1, y6, y8⟩
          · rintro i H acc T x y ⟨F3, y1, y2, y3, y4, y5, y6, y7, y8⟩ hx hy hT
            have hST : S ≠ T := fun e => by rw [← e, y6] at hT; cases hT
            have hFT : F3 T = none := y3.none hT
            obtain ⟨dx, l1, l2⟩ := g2.getV hx
            obtain ⟨dy, m1, m2⟩ := k2.getV hy
            refine ⟨upd F3 T (.tup [x, y]), y1.trans (Ex.new hFT), fun b o hb => ?_, fun b o hb => ?_, ?_, fun b hb => ?_, upd_same, ?_, by rw [List.length_append, y8]; rfl⟩
            · have b1 : b ≠ S := fun e => by rw [e, hS] at hb; cases hb
              have b2 : b ≠ T := fun e => by
                have := y2 b o hb
                rw [e, hT] at this
                cases this
              rw [upd_ne b1, upd_ne b2]
              exact y2 b o hb
            · by_cases b2 : b = T
              · subst b2
                rw [upd_same] at hb
                rw [upd_ne (Ne.symm hST), upd_same]
                exact hb
              · rw [upd_ne b2] at hb
                have b1 : b ≠ S := fun e => by rw [e, y4] at hb; cases hb
                rw [upd_ne b1, upd_ne b2]
                exact y3 b o hb
            · rw [upd_ne hST]
              exact y4
            · by_cases b2 : b = T
              · right
                rw [b2]
                cases z : H2 T with
                | none => rfl
                | some o => have := y2 T o z; rw [hT] at this; cases this
              · rw [upd_ne b2] at hb
                exact y5 b hb
            · rw [zipL_take l m i dx dy l1 m1]
              have n1 := Ex.new (o := .tup [x, y]) hFT
              exact (y7.mono n1).append (.cons (.tup (SqT.of upd_same) (.cons (l2.mono (y1.trans n1)) (.cons (m2.mono (y1.trans n1)) .nil))) .nil)
          · rintro H' acc ⟨F3, y1, y2, y3, y4, y5, y6, y7, y8⟩
            rw [← e1, ← e2, ← zipL_len2, List.take_length] at y7
            refine At.grow q2 r2 (F' := upd F3 S (.lst acc)) ⟨y1.trans (Ex.new y4), y2, fun b o hb => ?_, fun b hb => ?_⟩ (.lst (SqL.of upd_same) (y7.mono (Ex.new y4)))
            · by_cases b1 : b = S
              · subst b1
                rw [upd_same] at hb
                rw [y6]
                exact hb
              · rw [upd_ne b1] at hb
                exact y3 b o hb
            · by_cases b1 : b = S
              · right
                rw [b1]
                exact hS
              · rw [upd_ne b1] at hb
                exact y5 b hb
        · rw [if_neg hz] at q2
          exact q2.elim
      | _ => exact q2.elim
    | _ => exact q2.elim⟩⟩
/-! ## list(range(n)) -/
end
@[simp] theorem lzD_ap (da db : List D → R D) (env : List D) : lzD da db env = bindR (da env) fun d env1 => bindR (db env1) fun e env2 => match d, e with
  | .lst l, .lst m => if min l.length m.length ≤ 1000000 then .ok (.lst (zipL l m)) env2 else .bad
  | _, _ => .bad := rfl
end DL
namespace DL
open PySem PySem.Spec PyProof.Rows L2 HT
/-! ## [a, ..] * n -/
def repLD (dl : List D → R (List D)) (db : List D → R D) : List D → R D := fun env => bindR (dl env) fun xs env1 => if xs.length ≤ 1000 then bindR (db env1) fun k env2 => match k with
  | .int i => if -1000 ≤ i ∧ i ≤ 1000 then .ok (.lst (List.replicate i.toNat xs).flatten) env2 else .bad
  | _ => .bad
else .bad
theorem e_repLit {X : L2.Cx} {j : J} {es : List Expr} {b : Expr} {lp pos : Pos} {dl : List D → R (List D)} {db : List D → R D} (h : DL X j es dl) (hb : DE X j b db) : DE X j (.BinOp (.List es lp) .Mult b pos) (repLD dl db) :=
  PE.mono (pe_op op_rep (pe_lst h) hb) fun σ H Q ⟨W, F, env, rel, q⟩ => ⟨W, F, env, rel, At.bind q fun xs env1 W1 F1 H1 v _ r1 x1 p1 q1 => by
    by_cases z : xs.length ≤ 1000
    · rw [if_pos z] at q1
      refine ⟨le_line (by rw [← p1.length]; exact z), fun p n => ?_⟩
      have g : Grow F1 H1 (upd F1 p (.lst v)) (upd H1 p (.lst v)) := Grow.one r1.exF n
      refine ⟨W1, upd F1 p (.lst v), env1, r1.grow g, At.bind (q1.mono g.exF) fun k env2 W2 F2 H2 v2 _ r2 x2 p2 q2 => ?_⟩
      cases p2 with
      | int i =>
        simp only at q2
        by_cases hi : -1000 ≤ i ∧ i ≤ 1000
        · rw [if_pos hi] at q2
          have e1 := p1.length
          have h63 : (2 : Int) ^ 63 = 9223372036854775808 := by decide
          refine ⟨p, i, v, rfl, rfl, r2.exF p _ (x2 p _ upd_same), by rw [h63]; omega, by rw [h63]; omega, ?_, fun p' n' => At.grow q2 r2 (Grow.one r2.exF n') (.lst (SqL.of upd_same) (((p1.mono (g.exF.trans x2)).rep _).mono (Ex.new (r2.exF.none n'))))⟩
          have : v.length * i.toNat ≤ 1000 * 1000 := Nat.mul_le_mul (by omega) (by omega)
          have := sizeLine_eq
          omega
        · rw [if_neg hi] at q2
          exact q2.elim
      | _ => exact q2.elim
    · rw [if_neg z] at q1
      exact q1.elim⟩
@[simp] theorem repLD_ap (dl : List D → R (List D)) (db : List D → R D) (env : List D) : repLD dl db env = bindR (dl env) fun xs env1 => if xs.length ≤ 1000 then bindR (db env1) fun k env2 => match k with
  | .int i => if -1000 ≤ i ∧ i ≤ 1000 then .ok (.lst (List.replicate i.toNat xs).flatten) env2 else .bad
  | _ => .bad
else .bad := rfl
end DL
namespace DL
open PySem PySem.Spec PyProof.Rows L2 HT
/-! ## comprehensions whose things are owned -/
def flatL (l : List D) : Bool := l.all fun d => !isOwn d
theorem OwL.flat {M : Mo} {W : Own} {F H : Hp} : ∀ {q : List Nat} {k : Nat} {l : List D} {xs : List V}, OwL M W F H q k l xs → flatL l = true → RpL M F l xs
  | _, _, _, _, .nil, _ => .nil
  | _, _, d :: l, _, .cons h t, hf => by
    unfold flatL at hf
    rw [List.all_cons, Bool.and_eq_true] at hf
    refine .cons ?_ (OwL.flat t hf.2)
    cases h with
    | fz h => exact h
    | ml _ _ _ => simp [isOwn] at hf
    | mi _ _ _ _ _ _ _ => simp [isOwn] at hf
    | md _ _ _ _ => simp [isOwn] at hf
/-- lists that stand by themselves, of nobody yet -/
inductive KL (M : Mo) (H0 : Hp) (W : Own) (F H : Hp) (Dl : Addr) : List (List D) → List Addr → Prop
  | nil : KL M H0 W F H Dl [] []
  | cons {l : List D} {L : List (List D)} {p : Addr} {ps : List Addr} {ys : List V} : H p = some (.lst ys) → RpL M F l ys → F p = none → W p = none → H0 p = none → p ≠ Dl → p ∉ ps → KL M H0 W F H Dl L ps → KL M H0 W F H Dl (l :: L) (p :: ps)
theorem KL.length {M : Mo} {H0 : Hp} {W : Own} {F H : Hp} {Dl : Addr} : ∀ {L : List (List D)} {ps : List Addr}, KL M H0 W F H Dl L ps → L.length = ps.length
  | _, _, .nil => rfl
  | _, _, .cons _ _ _ _ _ _ _ t => congrArg (· + 1) t.length
theorem KL.keep {M : Mo} {H0 : Hp} {W W' : Own} {F F' H H' : Hp} {Dl : Addr} (e : Ex F F') : ∀ {L : List (List D)} {ps : List Addr}, KL M H0 W F H Dl L ps → (∀ b o, H b = some o → F b = none → W b = none → H' b = some o ∧ F' b = none ∧ W' b = none) → KL M H0 W' F' H' Dl L ps
  | _, _, .nil, _ => .nil
  | _, _, .cons h1 h2 h3 h4 h5 h6 h7 t, k => by
    obtain ⟨a, b, c⟩ := k _ _ h1 h3 h4
    exact .cons a (h2.mono e) b c h5 h6 h7 (t.keep e k)
theorem KL.mem {M : Mo} {H0 : Hp} {W : Own} {F H : Hp} {Dl : Addr} : ∀ {L : List (List D)} {ps : List Addr}, KL M H0 W F H Dl L ps → ∀ p ∈ ps, F p = none ∧ W p = none ∧ H0 p = none ∧ p ≠ Dl ∧ ∃ ys, H p = some (.lst ys)
  | _, _, .nil, _, h => by cases h
  | _, _, .cons h1 h2 h3 h4 h5 h6 h7 t, p, h => by
    rcases List.mem_cons.mp h with rfl | h
    · exact ⟨h3, h4, h5, h6, _, h1⟩
    · exact t.mem p h
theorem KL.snoc {M : Mo} {H0 : Hp} {W : Own} {F H : Hp} {Dl : Addr} {l : List D} {p : Addr} {ys : List V} (h1 : H p = some (.lst ys)) (h2 : RpL M F l ys) (h3 : F p = none) (h4 : W p = none) (h5 : H0 p = none) (h6 : p ≠ Dl) : ∀ {L : List (List D)} {ps : List Addr}, KL M H0 W F H Dl L ps → p ∉ ps → KL M H0 W F H Dl (L ++ [l]) (ps ++ [p])
  | _, _, .nil, _ => .cons h1 h2 h3 h4 h5 h6 (by simp) .nil
  | _, _, .cons (ps := ps) (p := q) a1 a2 a3 a4 a5 a6 a7 t, hn => by
    simp only [List.mem_cons, not_or] at hn
    refine .cons a1 a2 a3 a4 a5 a6 ?_ (KL.snoc h1 h2 h3 h4 h5 h6 t hn.2)
    intro hm
    rcases List.mem_append.mp hm with hm | hm
    · exact a7 hm
    · exact hn.1 (List.mem_singleton.mp hm).symm
/-- p, no more owned -/
def offW (W : Own) (p : Addr) : Own := fun b => if b = p then none else W b
theorem offW_other {W : Own} {p b : Addr} (h : b ≠ p) : offW W p b = W b := if_neg h
theorem offW_same {W : Own} {p : Addr} : offW W p p = none := if_pos rfl
theorem offW_ne {W : Own} {p b : Addr} (h : offW W p b ≠ none) : W b ≠ none := fun z => h (by unfold offW; split; rfl; exact z)
theorem offW_some {W : Own} {p b : Addr} {q : List Nat} (h : offW W p b = some q) : W b = some q := by
  unfold offW at h
  split at h
  · cases h
  · exact h
def idx : List Addr → Addr → Nat
  | [], _ => 0
  | q :: r, b => if q = b then 0 else idx r b + 1
theorem idx_app : ∀ {pre : List Addr} {p : Addr} {r : List Addr}, p ∉ pre → idx (pre ++ p :: r) p = pre.length
  | [], p, r, _ => by simp [idx]
  | q :: pre, p, r, h => by
    simp only [List.mem_cons, not_or] at h
    rw [List.cons_append]
    unfold idx
    rw [if_neg (Ne.symm h.1), idx_app h.2]
    rfl
theorem KL.nodup {M : Mo} {H0 : Hp} {W : Own} {F H : Hp} {Dl : Addr} : ∀ {L : List (List D)} {ps : List Addr}, KL M H0 W F H Dl L ps → ps.Nodup
  | _, _, .nil => List.nodup_nil
  | _, _, .cons _ _ _ _ _ _ h t => List.nodup_cons.mpr ⟨h, t.nodup⟩
theorem KL.chg {M : Mo} {H0 : Hp} {W W' : Own} {F F' H H' : Hp} {Dl : Addr} (e : Ex F F') : ∀ {L : List (List D)} {ps : List Addr}, KL M H0 W F H Dl L ps → (∀ q ∈ ps, ∀ o, H q = some o → H' q = some o) → (∀ q ∈ ps, W' q = none) → (∀ q ∈ ps, F' q = none) → KL M H0 W' F' H' Dl L ps
  | _, _, .nil, _, _, _ => .nil
  | _, _, .cons (p := p) h1 h2 h3 h4 h5 h6 h7 t, a, b, c => .cons (a p (by simp) _ h1) (h2.mono e) (c p (by simp)) (b p (by simp)) h5 h6 h7 (t.chg e (fun q hq => a q (List.mem_cons_of_mem _ hq)) (fun q hq => b q (List.mem_cons_of_mem _ hq)) fun q hq => c q (List.mem_cons_of_mem _ hq))
theorem RpL.own {M : Mo} {W : Own} {F H : Hp} {q : List Nat} : ∀ {l : List D} {xs : List V} {k : Nat}, RpL M F l xs → OwL M W F H q k l xs
  | _, _, _, .nil => .nil
  | _, _, _, .cons h t => .cons (.fz h) t.own
/-- the list and its lists, owned -/
def keepW (W : Own) (Dl : Addr) (ps : List Addr) : Own := fun b => if b = Dl then some [0] else if b ∈ ps then some [0, idx ps b] else if rootIs (W b) 0 = true then none else W b
theorem KL.own {M : Mo} {H0 : Hp} {W W' : Own} {F H : Hp} {Dl : Addr} {ps : List Addr} (hn : ps.Nodup) (hw : ∀ q ∈ ps, W' q = some [0, idx ps q]) : ∀ {L : List (List D)} {suf pre : List Addr}, pre ++ suf = ps → KL M H0 W F H Dl L suf → OwL M W' F H [0] pre.length (L.map D.ml) (suf.map V.ref)
  | [], [], _, _, .nil => .nil
  | l :: L, p :: r, pre, e, .cons h1 h2 h3 h4 h5 h6 h7 t => by
    have hm : p ∈ ps := by rw [← e]; simp
    have hp : p ∉ pre := fun z => by
      rw [← e, List.nodup_append] at hn
      exact hn.2.2 p z p (by simp) rfl
    have hi : idx ps p = pre.length := by rw [← e]; exact idx_app hp
    refine .cons (.ml ?_ h1 h2.own) ?_
    · rw [hw p hm, hi]
      rfl
    · have := KL.own hn hw (pre := pre ++ [p]) (by rw [List.append_assoc]; exact e) t
      rw [List.length_append] at this
      exact this
theorem AtO.bindB {γ : Type} {M : Mo} {e : Ent} {F : Hp} {σ : L2.St} {r : R D} {f : D → List D → R γ} {o : R γ} {P : VK} (h : DL.bindB r f = o) (ho : o ≠ .bad)
    (k : ∀ d env1 W1 F1 H1 v, r = .ok d env1 → Rel M e W1 F1 H1 env1 σ → Ex F F1 → Ow M W1 F1 H1 [0] d v → f d env1 = o → P v H1) : AtO M ⟨e, noX⟩ F σ r P := by
  cases r with
  | ok d env' => exact fun W' F' H' v a b c => k d env' W' F' H' v rfl a b c h
  | ex c fs env' => exact absurd h.symm ho
  | bad => exact absurd h.symm ho
def lcoGo (g : D → List D → Option (List D)) (dt : List D → R Bool) (de : List D → R D) (vs : List Nat) : List D → List (List D) → List D → R (List (List D))
  | [], acc, env => .ok acc env
  | d :: ds, acc, env => match g d env with
    | none => .bad
    | some env1 => bindB (dt env1) fun b env2 => if b = true then bindB (de env2) fun y env3 => match y with
        | .ml l => if flatL l = true then lcoGo g dt de vs ds (acc ++ [l]) (wipeD env3 vs) else .bad
        | _ => .bad
      else lcoGo g dt de vs ds acc (wipeD env2 vs)
def lcoD (di : List D → R (List D)) (g : D → List D → Option (List D)) (dt : List D → R Bool) (de : List D → R D) (vs : List Nat) : List D → R D := fun env => bindR (di env) fun ds env1 =>
  if ds.length ≤ 1000000 then bindB (lcoGo g dt de vs ds [] (wipeD env1 vs)) fun acc env2 => .ok (.ml (acc.map D.ml)) (backD env1 env2 vs) else .bad
abbrev lcEo (M : Mo) (vs : List Nat) (de : List D → R D) : TE := fun σ H Q => ∃ eb : Ent, (∀ i ∈ vs, eb.P i = none) ∧ tO M ⟨eb, noX⟩ de σ H Q
section
variable {X : Cx} {j : J} {elt tg iter : Expr} {ifs : List Expr} {scope : Scope} {pos : Pos} {own : List (Str × Nat)} {di : List D → R (List D)} {g : D → List D → Option (List D)} {dt : List D → R Bool} {de : List D → R D} {ss : List Nat}
theorem lco_red {vs : List Nat} (hp : ∀ i ∈ vs, j.e.P i = none) (hss : ∀ i ∈ ss, i ∈ vs) {σ : L2.St} {H : Hp} {Q : VK} (h : tO (mo X) j (lcoD di g dt de vs) σ H Q) : tLc (tI (mo X) j di) (lcG (mo X) vs ss g) (lcT (mo X) vs dt) (lcEo (mo X) vs de) vs σ H Q := by
  obtain ⟨W, F, env, rel, q⟩ := h
  refine ⟨W, F, env, rel, AtO.bind q fun ds env1 W1 F1 H1 Ji _ r1 x1 p1 q1 => ?_⟩
  by_cases hds0 : ¬ ds.length ≤ 1000000
  · rw [if_neg hds0] at q1
    exact q1.elim
  have hds : ds.length ≤ 1000000 := by omega
  rw [if_pos hds] at q1
  cases o : lcoGo g dt de vs ds [] (wipeD env1 vs) with
  | ex c fs en => rw [o] at q1; exact q1.elim
  | bad => rw [o] at q1; exact q1.elim
  | ok acc0 env0 =>
    rw [o] at q1
    intro Dl hDl
    have wl : (wipe σ vs).length = σ.length := wipe_length σ vs
    have wg : ∀ i, i ∉ vs → (wipe σ vs)[i]? = σ[i]? := fun i h => wipe_get h
    have dW1 : W1 Dl = none := by
      cases z : W1 Dl with
      | none => rfl
      | some p => exact absurd hDl (r1.sep Dl (by rw [z]; simp)).2.2
    have dF1 : F1 Dl = none := r1.exF.none hDl
    -- the new list
    have gr : Rel (mo X) j.e W1 F1 (upd H1 Dl (.lst [])) (wipeD env1 vs) (wipe σ vs) := by
      have a := r1.wipe vs wl wg hp
      have h0 : j.e.H0 Dl = none := by
        cases z : j.e.H0 Dl with
        | none => rfl
        | some p => exact absurd hDl (r1.stay Dl (by rw [z]; simp))
      refine ⟨⟨fun b u h1 h2 => ?_, a.exF0, fun b u h => ?_, fun b h => ?_, a.fresh, a.new, fun b h => ?_⟩, a.len, fun i d h1 h2 => ?_, a.pin⟩
      · have : b ≠ Dl := fun z => by
          subst z
          rw [h0] at h2
          cases h2
        rw [upd_ne this]
        exact a.pres b u h1 h2
      · have : b ≠ Dl := fun z => by
          subst z
          rw [dF1] at h
          cases h
        rw [upd_ne this]
        exact a.exF b u h
      · have : b ≠ Dl := fun z => h (by rw [z]; exact dW1)
        rw [upd_ne this]
        exact a.sep b h
      · by_cases z : b = Dl
        · rw [z, upd_same]
          simp
        · rw [upd_ne z]
          exact a.stay b h
      · obtain ⟨v, h3, h4⟩ := a.slot i d h1 h2
        refine ⟨v, h3, h4.tr (Ex.refl F1) fun b q z => ⟨z, fun u y => ?_⟩⟩
        have : b ≠ Dl := fun w => by
          rw [w, dW1] at z
          cases z
        rw [upd_ne this]
        exact y
    refine ⟨fun i m H => m = ds.length - i ∧ i ≤ ds.length ∧ ∃ W2 F2 env2 acc xs ps, Rel (mo X) j.e W2 F2 H env2 (wipe σ vs) ∧ Ex F1 F2 ∧ H Dl = some (.lst xs) ∧ F2 Dl = none ∧ W2 Dl = none ∧ KL (mo X) j.e.H0 W2 F2 H Dl acc ps ∧ xs = ps.map V.ref ∧ acc.length ≤ i ∧ (∀ i ∈ vs, ∀ d, env2[i]? = some d → d = .unb) ∧ lcoGo g dt de vs (ds.drop i) acc env2 = .ok acc0 env0,
      ⟨_, rfl, Nat.zero_le _, W1, F1, _, [], [], [], gr, Ex.refl F1, upd_same, dF1, dW1, .nil, rfl, Nat.zero_le _, fun i hi d h => Classical.byContradiction fun hd => (wipeD_get h hd).1 hi, o⟩, fun i m H hw => ?_⟩
    obtain ⟨rfl, hi, W2, F2, env2, acc, xs, ps, r2, x2, hD, hF, hW, ra, hxs, hacc, hun, e2⟩ := hw
    by_cases hlt : i < ds.length
    · obtain ⟨go, yl⟩ := (p1 i F2 H x2 r2.exF).1 hlt
      rw [List.drop_eq_getElem_cons hlt] at e2
      unfold lcoGo at e2
      cases og : g ds[i] env2 with
      | none => rw [og] at e2; cases e2
      | some env3 =>
        rw [og] at e2
        simp only at e2
        refine .inr ⟨go, fun H' => ∃ W4 F4 env4 acc4 xs4 ps4, Rel (mo X) j.e W4 F4 H' env4 (wipe σ vs) ∧ Ex F1 F4 ∧ H' Dl = some (.lst xs4) ∧ F4 Dl = none ∧ W4 Dl = none ∧ KL (mo X) j.e.H0 W4 F4 H' Dl acc4 ps4 ∧ xs4 = ps4.map V.ref ∧ acc4.length ≤ i + 1 ∧ (∀ i ∈ vs, ∀ d, env4[i]? = some d → d = .unb) ∧ lcoGo g dt de vs (ds.drop (i + 1)) acc4 env4 = .ok acc0 env0,
          fun H' h => ⟨ds.length - (i + 1), by omega, rfl, hlt, h⟩, fun x H' hy => ?_⟩
        obtain ⟨F3, d, e1, grw, rp⟩ := yl x H' hy
        have ed : ds[i] = d := by
          rw [List.getElem?_eq_getElem hlt] at e1
          exact Option.some.inj e1
        have r3 := r2.grow grw
        have hD3 : H' Dl = some (.lst xs) := grw.exH _ _ hD
        have hF3 : F3 Dl = none := by
          cases z : F3 Dl with
          | none => rfl
          | some u =>
            rcases grw.new Dl (by rw [z]; simp) with y | y
            · exact absurd hF y
            · rw [y] at hD
              cases hD
        -- the block's own entry
        have hpb : ∃ pb : Nat → Option V, (∀ i ∈ vs, pb i = none) ∧ (∀ i v, pb i = some v → (wipe σ vs)[i]? = some (some v)) ∧ (∀ i v, i ∉ vs → (wipe σ vs)[i]? = some (some v) → pb i = some v) :=
          ⟨fun i => if i ∈ vs then none else match (wipe σ vs)[i]? with | some o => o | none => none, fun i h => if_pos h, fun i v h => by
            simp only at h
            by_cases z : i ∈ vs
            · rw [if_pos z] at h
              cases h
            · rw [if_neg z] at h
              cases y : (wipe σ vs)[i]? with
              | none => rw [y] at h; cases h
              | some o => rw [y] at h; exact congrArg some h, fun i v h1 h2 => by
            simp only
            rw [if_neg h1, h2]⟩
        obtain ⟨pb, pb1, pb2, pb3⟩ := hpb
        have rB := r3.inB (pb := pb) pb2 fun i d h1 h2 h3 z => by
          have hn : i ∉ vs := fun hv => h3 (hun i hv d h1)
          obtain ⟨v, h4, _⟩ := r3.slot i d h1 h3
          rw [pb3 i v hn h4] at z
          cases z
        have hpe : ∀ i v, j.e.P i = some v → pb i = some v := fun i v h => by
          have hn : i ∉ vs := fun hv => by
            rw [hp i hv] at h
            cases h
          exact pb3 i v hn (r3.pin i v h)
        refine ⟨_, pb1, blkW pb W2, F3, env2, d, rB, rp, env3, by rw [← ed]; exact og, fun W4 F4 H4 σ4 r4 x4 l4 k4 => ?_⟩
        have k4' : ∀ i, i ∉ vs → σ4[i]? = (wipe σ vs)[i]? := fun i hn => k4 i fun z => hn (hss i z)
        have wσ : wipe σ4 vs = wipe σ vs := by
          rw [wipe_eq (σ := wipe σ vs) (σ' := σ4) l4 k4']
          refine List.ext_getElem? fun i => ?_
          by_cases z : i ∈ vs
          · rw [wipe_in z, wipe_in z, wl]
          · rw [wipe_get z]
        refine ⟨wσ, _, pb1, W4, F4, env3, r4, ?_⟩
        have keepC : ∀ {W' F' H' env' σ'}, Rel (mo X) ⟨_, F3, blkW pb W2, pb⟩ W' F' H' env' σ' → ∀ b o, H b = some o → F2 b = none → W2 b = none → H' b = some o ∧ F' b = none ∧ W' b = none := fun {W' F' H' env' σ'} r b o hb hFb hWb => by
          have hb3 := grw.exH _ _ hb
          have hFb3 : F3 b = none := by
            cases z : F3 b with
            | none => rfl
            | some u =>
              rcases grw.new b (by rw [z]; simp) with y | y
              · exact absurd hFb y
              · rw [y] at hb
                cases hb
          have bn : blkW pb W2 b = none := by
            unfold blkW
            rw [hWb]
          refine ⟨r.pres b _ bn hb3, ?_, ?_⟩
          · cases z : F' b with
            | none => rfl
            | some u =>
              rcases r.new b (by rw [z]; simp) with y | y
              · exact absurd hFb3 y
              · cases hb3.symm.trans y
          · cases z : W' b with
            | none => rfl
            | some u =>
              rcases (r.sep b (by rw [z]; simp)).2.1 with y | y
              · exact absurd bn y
              · cases hb3.symm.trans y
        have keepK : ∀ {W' F' H' env' σ'}, Rel (mo X) ⟨_, F3, blkW pb W2, pb⟩ W' F' H' env' σ' → Ex F2 F' → KL (mo X) j.e.H0 W' F' H' Dl acc ps := fun {W' F' H' env' σ'} r e => ra.keep e fun b o h1 h2 h3 => keepC r b o h1 h2 h3
        have back : ∀ {W' F' H' env'}, Rel (mo X) ⟨_, F3, blkW pb W2, pb⟩ W' F' H' env' σ4 → Rel (mo X) j.e W' F' H' (wipeD env' vs) (wipe σ vs) := fun {W' F' H' env'} r =>
          (Rel.outB r3.toRelB r hpe).wipe vs (by rw [l4]) (fun i hn => (k4' i hn).symm) hp
        have unb : ∀ (env' : List D) i, i ∈ vs → ∀ d, (wipeD env' vs)[i]? = some d → d = .unb := fun env' i hv d h => Classical.byContradiction fun hd => (wipeD_get h hd).1 hv
        refine At.bindB e2 (fun z => nomatch z) fun b env5 W5 F5 H5 b' ob r5 x5 hb e5 => ?_
        subst hb
        cases b with
        | false =>
          rw [if_neg Bool.false_ne_true] at e5 ⊢
          obtain ⟨d1, d2, d3⟩ := keepC r5 Dl _ hD hF hW
          have xx : Ex F2 F5 := grw.exF.trans (x4.trans x5)
          exact ⟨W5, F5, _, acc, xs, ps, back r5, x2.trans xx, d1, d2, d3, keepK r5 xx, hxs, by omega, unb _, e5⟩
        | true =>
          rw [if_pos rfl] at e5 ⊢
          refine ⟨_, pb1, W5, F5, env5, r5, AtO.bindB e5 (fun z => nomatch z) fun y env6 W6 F6 H6 v oy r6 x6 py e6 => ?_⟩
          cases y with
          | ml l =>
            simp only at e6
            by_cases hfl : flatL l = true
            · rw [if_pos hfl] at e6
              have xx : Ex F2 F6 := grw.exF.trans (x4.trans (x5.trans x6))
              cases py with
              | fz h => cases h
              | @ml p' p ys l' w1 w2 w3 =>
                obtain ⟨d1, d2, d3⟩ := keepC r6 Dl _ hD hF hW
                have rl := w3.flat hfl
                have hp0 : H' p = none := by
                  rcases r6.fresh p 0 [] w1 with z | ⟨i, v, q0, z, _⟩
                  · exact z
                  · omega
                have hpD : p ≠ Dl := fun e => by rw [e, hD3] at hp0; cases hp0
                have hp2 : ∀ b o, H b = some o → p ≠ b := fun b o h e => by
                  have := grw.exH _ _ h
                  rw [← e, hp0] at this
                  cases this
                have hpj : j.e.H0 p = none := by
                  cases z : j.e.H0 p with
                  | none => rfl
                  | some u => exact absurd hp0 (r3.stay p (by rw [z]; simp))
                have hFp : F6 p = none := (r6.sep p (by rw [w1]; simp)).1
                have kk := keepK r6 xx
                have hlen := ra.length
                -- p is nobody's now
                have a0 := back r6
                have a : Rel (mo X) j.e (offW W6 p) F6 H6 (wipeD env6 vs) (wipe σ vs) := {
                  pres := a0.pres
                  exF0 := a0.exF0
                  exF := a0.exF
                  sep := fun b hb => a0.sep b (offW_ne hb)
                  fresh := fun b r q hb => a0.fresh b r q (offW_some hb)
                  new := a0.new
                  stay := a0.stay
                  len := a0.len
                  slot := fun i d h1 h2 => by
                    obtain ⟨v, h3, h4⟩ := a0.slot i d h1 h2
                    refine ⟨v, h3, h4.tr (Ex.refl _) fun b q z => ⟨?_, fun u y => y⟩⟩
                    have : b ≠ p := fun e => by
                      rw [e, w1] at z
                      injection z with z
                      injection z with z _
                      omega
                    rw [offW_other this]
                    exact z
                  pin := a0.pin }
                have dO : offW W6 p Dl = none := by rw [offW_other (Ne.symm hpD)]; exact d3
                refine ⟨xs, d1, ?_, offW W6 p, F6, _, acc ++ [l], xs ++ [.ref p], ps ++ [p], ?_, x2.trans xx, upd_same, d2, dO, ?_, by rw [hxs, List.map_append]; rfl, by rw [List.length_append]; simp; omega, unb _, e6⟩
                · rw [hxs, List.length_map, ← hlen, sizeLine_eq]
                  omega
                · refine ⟨⟨fun b u h1 h2 => ?_, a.exF0, fun b u h => ?_, fun b h => ?_, a.fresh, a.new, fun b h => ?_⟩, a.len, fun i d h1 h2 => ?_, a.pin⟩
                  · have : b ≠ Dl := fun z => by
                      subst z
                      have := r1.stay b (by rw [h2]; simp)
                      exact this hDl
                    rw [upd_ne this]
                    exact a.pres b u h1 h2
                  · have : b ≠ Dl := fun z => by
                      subst z
                      rw [d2] at h
                      cases h
                    rw [upd_ne this]
                    exact a.exF b u h
                  · have : b ≠ Dl := fun z => h (by rw [z]; exact dO)
                    rw [upd_ne this]
                    exact a.sep b h
                  · by_cases z : b = Dl
                    · rw [z, upd_same]
                      simp
                    · rw [upd_ne z]
                      exact a.stay b h
                  · obtain ⟨v, h3, h4⟩ := a.slot i d h1 h2
                    refine ⟨v, h3, h4.tr (Ex.refl _) fun b q z => ⟨z, fun u y => ?_⟩⟩
                    have : b ≠ Dl := fun w => by
                      rw [w, dO] at z
                      cases z
                    rw [upd_ne this]
                    exact y
                · have hpn : p ∉ ps := fun hm => by
                    obtain ⟨_, _, _, _, ys', hh⟩ := ra.mem p hm
                    exact hp2 p _ hh rfl
                  refine KL.snoc (by rw [upd_ne hpD]; exact w2) rl hFp offW_same hpj hpD (kk.chg (Ex.refl _) (fun q hq o ho => ?_) (fun q hq => ?_) fun q hq => (kk.mem q hq).1) hpn
                  · rw [upd_ne (kk.mem q hq).2.2.2.1]
                    exact ho
                  · unfold offW
                    split
                    · rfl
                    · exact (kk.mem q hq).2.1
            · rw [if_neg hfl] at e6
              cases e6
          | _ => simp only at e6; cases e6
    · -- the end
      refine .inl ⟨(p1 i F2 H x2 r2.exF).2 (by omega), ?_⟩
      rw [List.drop_eq_nil_of_le (by omega)] at e2
      have e2 : R.ok acc env2 = R.ok acc0 env0 := e2
      injection e2 with e3 e4
      subst e3 e4
      -- the slots as they stood
      have a : Rel (mo X) j.e W2 F2 H (backD env1 env2 vs) σ := {
        toRelB := r2.toRelB
        len := by rw [backD_len, r2.len, wl]
        slot := fun i d h1 h2 => by
          rcases backD_get h1 h2 with ⟨h3, h4⟩ | ⟨h3, h4, h5⟩
          · obtain ⟨v, h6, h7⟩ := r2.slot i d h4 h2
            exact ⟨v, by rw [← wg i h3]; exact h6, h7⟩
          · obtain ⟨v, h6, h7⟩ := r1.slot i d h4 h2
            exact ⟨v, h6, .fz ((h7.rp h5).mono x2)⟩
        pin := r1.pin }
      have hD0 : j.e.H0 Dl = none := by
        cases z : j.e.H0 Dl with
        | none => rfl
        | some p => exact absurd hDl (r1.stay Dl (by rw [z]; simp))
      have kS : keepW W2 Dl ps Dl = some [0] := by
        unfold keepW
        rw [if_pos rfl]
      have kP : ∀ q ∈ ps, keepW W2 Dl ps q = some [0, idx ps q] := fun q hq => by
        unfold keepW
        rw [if_neg (ra.mem q hq).2.2.2.1, if_pos hq]
      refine q1 (keepW W2 Dl ps) F2 H (.ref Dl) ⟨⟨a.pres, a.exF0, a.exF, fun b h => ?_, fun b c q h => ?_, a.new, a.stay⟩, a.len, fun k d' h1 h2 => ?_, a.pin⟩ x2 (.ml kS hD ?_)
      · by_cases z : b = Dl
        · subst z
          exact ⟨hF, .inr hD0, by rw [hD]; simp⟩
        · by_cases y : b ∈ ps
          · obtain ⟨m1, m2, m3, m4, ys, m5⟩ := ra.mem b y
            exact ⟨m1, .inr m3, by rw [m5]; simp⟩
          · refine a.sep b fun w => h ?_
            unfold keepW
            rw [if_neg z, if_neg y, w]
            rfl
      · unfold keepW at h
        split at h
        · rename_i z
          subst z
          exact .inl hD0
        · split at h
          · rename_i y
            exact .inl (ra.mem b y).2.2.1
          · split at h
            · cases h
            · exact a.fresh b c q h
      · obtain ⟨v', h5, h6⟩ := a.slot k d' h1 h2
        refine ⟨v', h5, h6.tr (Ex.refl F2) fun b q' z => ⟨?_, fun _ y => y⟩⟩
        have n1 : b ≠ Dl := fun w => by
          rw [w, hW] at z
          cases z
        have n2 : b ∉ ps := fun w => by
          rw [(ra.mem b w).2.1] at z
          cases z
        unfold keepW
        rw [if_neg n1, if_neg n2, if_neg]
        · exact z
        · intro w
          obtain ⟨q2, h7⟩ := rootIs_iff.mp w
          rw [z] at h7
          injection h7 with h7
          injection h7 with h8 _
          omega
      · rw [hxs]
        exact KL.own ra.nodup kP (pre := []) rfl ra
theorem o_lco (hc : X.calm = true) (hN : X.N.Nodup) (hp : ∀ i ∈ own.map (·.2), j.e.P i = none) (hss : ∀ i ∈ ss, i ∈ own.map (·.2)) (hi : DI X j tg iter di) (ok : BlkOk X.N X.env.scope scope own)
    (hg : ∀ (s : Shared) (H : Hp) (C : Addr) (cl : List (Str × Addr)) (fp : List Addr) (eb : Ent), (∀ i ∈ own.map (·.2), eb.P i = none) → DGw (X.blk s H scope (compEnvC scope cl C X.env) fp) ⟨eb, noX⟩ tg ss g)
    (ht : ∀ (s : Shared) (H : Hp) (C : Addr) (cl : List (Str × Addr)) (fp : List Addr) (eb : Ent), (∀ i ∈ own.map (·.2), eb.P i = none) → DTs (X.blk s H scope (compEnvC scope cl C X.env) fp) ⟨eb, noX⟩ ifs dt)
    (he : ∀ (s : Shared) (H : Hp) (C : Addr) (cl : List (Str × Addr)) (fp : List Addr) (eb : Ent), (∀ i ∈ own.map (·.2), eb.P i = none) → DO (X.blk s H scope (compEnvC scope cl C X.env) fp) ⟨eb, noX⟩ elt de)
    (hs : ∀ x, foldedSetIterable iter X.env x = pure x := by intro _; rfl) : DO X j (.ListComp elt [⟨tg, iter, ifs, 0⟩] scope pos) (lcoD di g dt de (own.map (·.2))) :=
  PE.mono (pe_lc (g := lcG (mo X) (own.map (·.2)) ss g) (tt := lcT (mo X) (own.map (·.2)) dt) (te := lcEo (mo X) (own.map (·.2)) de) hc hN hi ok
    (fun s H C cl fp => ⟨fun pins s' σ H' v u Q I r ⟨eb, h1, h2⟩ => (hg s H C cl fp eb h1).run pins s' σ H' v u Q I r h2⟩)
    (fun s H C cl fp => ⟨fun pins s' σ H' Q I ⟨eb, h1, h2⟩ => (ht s H C cl fp eb h1).run pins s' σ H' Q I h2⟩)
    (fun s H C cl fp => ⟨fun pins s' σ H' Q I ⟨eb, h1, h2⟩ => (he s H C cl fp eb h1).run pins s' σ H' Q I h2⟩) hs) fun σ H Q h => lco_red hp hss h
/-- x = [..], x a local, on one line -/
theorem s_setLco (i : Nat) {y : Str} {py spos : Pos} (hc : X.calm = true) (hN : X.N.Nodup) (hpi : j.e.P i = none) (hp : ∀ i ∈ own.map (·.2), j.e.P i = none) (hss : ∀ i ∈ ss, i ∈ own.map (·.2)) (hi : DI X j tg iter di) (ok : BlkOk X.N X.env.scope scope own)
    (hg : ∀ (s : Shared) (H : Hp) (C : Addr) (cl : List (Str × Addr)) (fp : List Addr) (eb : Ent), (∀ i ∈ own.map (·.2), eb.P i = none) → DGw (X.blk s H scope (compEnvC scope cl C X.env) fp) ⟨eb, noX⟩ tg ss g)
    (ht : ∀ (s : Shared) (H : Hp) (C : Addr) (cl : List (Str × Addr)) (fp : List Addr) (eb : Ent), (∀ i ∈ own.map (·.2), eb.P i = none) → DTs (X.blk s H scope (compEnvC scope cl C X.env) fp) ⟨eb, noX⟩ ifs dt)
    (he : ∀ (s : Shared) (H : Hp) (C : Addr) (cl : List (Str × Addr)) (fp : List Addr) (eb : Ent), (∀ i ∈ own.map (·.2), eb.P i = none) → DO (X.blk s H scope (compEnvC scope cl C X.env) fp) ⟨eb, noX⟩ elt de)
    (hs : ∀ x, foldedSetIterable iter X.env x = pure x := by intro _; rfl) (hy : X.N[i]? = some y := by rfl) (hyl : X.env.scope.names.lookup y = some .local := by rfl) (hsw : swapsWith (.ListComp elt [⟨tg, iter, ifs, 0⟩] scope pos) (some (.Name y py)) spos.line X.env = pure true := by rfl) :
    DS X j (.Assign [.Name y py] (.ListComp elt [⟨tg, iter, ifs, 0⟩] scope pos) spos) (asgD i (lcoD di g dt de (own.map (·.2)))) :=
  PS.mono (ps_setLc (g := lcG (mo X) (own.map (·.2)) ss g) (tt := lcT (mo X) (own.map (·.2)) dt) (te := lcEo (mo X) (own.map (·.2)) de) hc hN hy hyl hsw hi ok
    (fun s H C cl fp => ⟨fun pins s' σ H' v u Q I r ⟨eb, h1, h2⟩ => (hg s H C cl fp eb h1).run pins s' σ H' v u Q I r h2⟩)
    (fun s H C cl fp => ⟨fun pins s' σ H' Q I ⟨eb, h1, h2⟩ => (ht s H C cl fp eb h1).run pins s' σ H' Q I h2⟩)
    (fun s H C cl fp => ⟨fun pins s' σ H' Q I ⟨eb, h1, h2⟩ => (he s H C cl fp eb h1).run pins s' σ H' Q I h2⟩) hs) fun Dn σ H ⟨W, F, env, rel, q⟩ => lco_red hp hss ⟨W, F, env, rel, by
    unfold asgD at q
    cases o : lcoD di g dt de (own.map (·.2)) env with
    | ok d env1 =>
      rw [o] at q
      exact fun W' F' H' v r x p => q _ F' H' _ (r.setO p hpi) x
    | ex c fs env1 =>
      rw [o] at q
      exact fun W' F' H' cls dd r x y => q W' F' H' σ cls dd r x y
    | bad =>
      rw [o] at q
      exact q⟩
end
end DL
namespace DL
open PySem PySem.Spec PyProof.Rows L2
/-! ## try with clauses of both kinds, named or not; some clause takes what is raised -/
structure Cz where
  nm : Option Nat
  c : Value
  ts : Addr → Value → Option Addr → TS
/-- the slot of a clause's name, set -/
def slotS (o : Option Nat) (v : Option V) (σ : L2.St) : L2.St := match o with
  | none => σ
  | some i => σ.set i v
def Cz.ends (z : Cz) (D : Ends) : Ends := { nx := fun σ H => D.nx (slotS z.nm none σ) H, rt := D.rt, bk := fun σ H => D.bk (slotS z.nm none σ) H, ct := fun σ H => D.ct (slotS z.nm none σ) H }
def mixW (K : PySem.W.Frag) (D : Ends) : List Cz → WX
  | [] => fun _ _ _ _ => False
  | z :: r => fun cls d σ H => (PySem.W.exmOne K cls z.c = some true ∧ ∀ a, H a = none → z.ts a cls d (z.ends D) (slotS z.nm (some (.ref a)) σ) H) ∨ (PySem.W.exmOne K cls z.c = some false ∧ mixW K D r cls d σ H)
def NmOk (X : Cx) : Option Str → Option Nat → Prop
  | none, none => True
  | some n, some i => X.N[i]? = some n ∧ X.env.kindOf n = some .local
  | _, _ => False
inductive MixOk (X : Cx) : List ExceptHandler → List Cz → Prop
  | nil : MixOk X [] []
  | cons {x : Str} {c : Value} {n : Option Str} {i : Option Nat} {ts : Addr → Value → Option Addr → TS} {b0 : Stmt} {suite : List Stmt} {np q : Pos} {hds : List ExceptHandler} {l : List Cz} : Names X x c → NmOk X n i →
      (∀ (a : Addr) (oe : Obj) (cls : Value) (d : Option Addr) (pn : List (Addr × Obj)), Zc cls d oe → (∃ vs, oe.data = .fields vs) → PSs (X.suite a ((a, oe) :: pn)) (b0 :: suite) (ts a cls d)) → MixOk X hds l →
      MixOk X (.ExceptHandler (some (.Name x np)) n (b0 :: suite) q :: hds) (⟨i, c, ts⟩ :: l)
/-- an exception that has landed -/
structure Landed (X : Cx) (pins : List (Addr × Obj)) (a : Addr) (B : Heap) (cls : Value) (d : Option Addr) (σ : L2.St) (H : Hp) (sI s : Shared) : Prop where
  inv0 : Inv X pins σ H sI
  nb : ∀ b o, sI.heap.get? b = some o → b ∉ frs X.stack → B.get? b = some o
  up : sI.heap.UpToSlots s.heap
  fl : HandSPX.FlyingZ B X.stack a (Zc cls d) s.heap
  na : H a = none
  os : s.os = sI.os
  ag : AllBare s.gens
section
variable {X : Cx} {pins : List (Addr × Obj)} {a : Addr} {B : Heap} {cls : Value} {d : Option Addr} {σ : L2.St} {H : Hp} {sI s : Shared}
theorem Landed.inv (l : Landed X pins a B cls d σ H sI s) : Inv X pins σ H s := Inv.landed l.inv0 l.nb l.fl.1 l.up l.os l.ag
theorem Landed.obj (l : Landed X pins a B cls d σ H sI s) : ∃ oe vs, s.heap.get? a = some oe ∧ Zc cls d oe ∧ oe.data = .fields vs ∧ a ∉ frs X.stack := by
  obtain ⟨_, _, ff, oe, vs, _, _, _, g, z, k, _⟩ := l.fl
  refine ⟨oe, vs, g, z, k, fun hm => ?_⟩
  obtain ⟨_, o', g', h⟩ := ff.mem hm
  cases g.symm.trans g'
  exact h vs k
/-- the suite's state -/
theorem Landed.inS (l : Landed X pins a B cls d σ H sI s) (hs : X.stack = X.env :: X.outer) (hf : X.env.frame = some X.env.locals) : ∃ oe vs, Zc cls d oe ∧ oe.data = .fields vs ∧ Inv (X.suite a ((a, oe) :: (X.pn ++ pins))) [] σ H s := by
  obtain ⟨oe, vs, g, z, k, nf⟩ := l.obj
  refine ⟨oe, vs, z, k, l.inv.suite g k l.na (fun e => nf ?_) fun hm => nf ?_⟩
  · rw [hs]
    exact List.mem_filterMap.mpr ⟨X.env, by simp, by rw [hf, e]⟩
  · obtain ⟨e, h1, h2⟩ := List.mem_filterMap.mp hm
    rw [hs]
    exact List.mem_filterMap.mpr ⟨e, List.mem_cons_of_mem _ h1, h2⟩
/-- how a suite ends -/
theorem suiteEnds {q : Addr × Obj} {D : Ends} {f : Flow} {z : Cz} {n : Option Str} {pos : Pos} {E : Value → Shared → Prop} (ok : X.Ok) (hN : X.N.Nodup) (hn : NmOk X n z.nm) (h : SP (X.suite a (q :: (X.pn ++ pins))) [] (z.ends D) f s) :
    (match n with
      | none => SP X pins D f s
      | some n => wpAny (model X.prog X.w) X.A (do bindName X.env n .none; unbindBehindTheSuite X.env n pos) (fun _ s3 => SP X pins D f s3) E s) := by
  obtain ⟨nm, c, ts⟩ := z
  cases n with
  | none =>
    cases nm with
    | some i => exact hn.elim
    | none =>
      cases f with
      | ret u =>
        obtain ⟨v, σ1, H1, I, r, k⟩ := h
        exact ⟨v, σ1, H1, I.unsuite ok, r, k⟩
      | _ =>
        obtain ⟨σ1, H1, I, k⟩ := h
        exact ⟨σ1, H1, I.unsuite ok, k⟩
  | some n =>
    cases nm with
    | none => exact hn.elim
    | some i =>
      cases f with
      | ret u =>
        obtain ⟨v, σ1, H1, I, r, k⟩ := h
        exact gone_ok (I.unsuite ok) hN hn.1 hn.2 fun s3 I3 => ⟨v, _, H1, I3, r, k⟩
      | _ =>
        obtain ⟨σ1, H1, I, k⟩ := h
        exact gone_ok (I.unsuite ok) hN hn.1 hn.2 fun s3 I3 => ⟨_, H1, I3, k⟩
/-- the clauses, one behind the other -/
theorem clauses {D : Ends} (ok : X.Ok) (hs : X.stack = X.env :: X.outer) (hf : X.env.frame = some X.env.locals) (hN : X.N.Nodup) : ∀ {hds : List ExceptHandler} {l : List Cz}, MixOk X hds l → ∀ {s : Shared}, Landed X pins a B cls d σ H sI s → mixW X.K D l cls d σ H →
    wpAny (model X.prog X.w) X.A (handleBy (.ref a) X.env hds) (SP X pins D) X.xe s
  | _, _, .nil, _, _, w => w.elim
  | _, _, .cons (x := x) (c := c) (n := n) (i := i) (ts := ts) (b0 := b0) (suite := suite) (np := np) (q := q) (hds := hds) (l := l) nc nk su r, s, L, w => by
    have key : ∀ b, PySem.W.exmOne X.K cls c = some b → (if b = true then codeAny (model X.prog X.w) (X.A.mark (some (.ref a))) (.handlers (.ref a) [.ExceptHandler none n (b0 :: suite) q] X.env) (fun r s2 => match r with
          | .ok f => (match n with
            | none => SP X pins D f s2
            | some n => wpAny (model X.prog X.w) X.A (do bindName X.env n .none; unbindBehindTheSuite X.env n q) (fun _ s3 => SP X pins D f s3) X.xe s2)
          | .error x => cameBackBy (model X.prog X.w) X.A X.env X.xe x s2) s else wpAny (model X.prog X.w) X.A (handleBy (.ref a) X.env hds) (SP X pins D) X.xe s) →
        wpAny (model X.prog X.w) X.A (handleBy (.ref a) X.env (.ExceptHandler (some (.Name x np)) n (b0 :: suite) q :: hds)) (SP X pins D) X.xe s := fun b hb k => by
      obtain ⟨oe, vs, g, z, dt, _⟩ := L.obj
      obtain ⟨oe', _, _, _, S⟩ := L.inS hs hf
      have lm := PySem.W.exm_one (M := model X.prog X.w) L.inv.kIn (fun A Q E s1 k1 q1 => wpAny_typeOf_ref (k1 _ _ g) (by rw [z.1]; exact q1)) hb
      have ld : ∀ {Q : Value → Shared → Prop} {E : Value → Shared → Prop}, Q c s → wpAny (model X.prog X.w) (X.A.mark (some (.ref a))) (eval (.Name x np) X.env) Q E s := fun {Q E} q0 => by
        obtain ⟨h1, h2, h3⟩ := nc
        rcases h3 with h3 | ⟨h3, h4, h5⟩
        · exact ld_glob (X := X.suite a ((a, oe') :: (X.pn ++ pins))) S h1 h3 q0 h2
        · exact ld_blt (X := X.suite a ((a, oe') :: (X.pn ++ pins))) S h1 h3 h4 q0 h5 h2
      refine wpAny_handleBy_cons (codeAny_handlers_test (ld (lm.here ?_))) (fun e => by cases e)
      cases b with
      | true =>
        rw [if_pos rfl] at k ⊢
        cases n with
        | none => exact k
        | some n => exact k
      | false =>
        rw [if_neg Bool.false_ne_true] at k ⊢
        exact k
    rcases w with ⟨hb, hw⟩ | ⟨hb, hw⟩
    · refine key true hb ?_
      rw [if_pos rfl]
      have run : ∀ {s1 : Shared}, Landed X pins a B cls d σ H sI s1 → ∀ oe vs, Zc cls d oe → oe.data = .fields vs → ∀ {s2 : Shared}, Inv (X.suite a ((a, oe) :: (X.pn ++ pins))) [] (slotS i (some (.ref a)) σ) H s2 →
          wpAny (model X.prog X.w) (X.suite a ((a, oe) :: (X.pn ++ pins))).A (execs (b0 :: suite) X.env) (SP (X.suite a ((a, oe) :: (X.pn ++ pins))) [] (Cz.ends ⟨i, c, ts⟩ D)) (X.suite a ((a, oe) :: (X.pn ++ pins))).xe s2 :=
        fun L1 oe vs z dt s2 I2 => (su a oe cls d (X.pn ++ pins) z ⟨vs, dt⟩).run [] s2 _ H _ I2 (hw a L1.na)
      have fin : ∀ {oe : Obj} {f : Flow} {s6 : Shared}, SP (X.suite a ((a, oe) :: (X.pn ++ pins))) [] (Cz.ends ⟨i, c, ts⟩ D) f s6 → _ := fun {oe f s6} h => suiteEnds (E := X.xe) (pos := q) ok hN nk h
      have fly : ∀ {h' : Heap}, HandSPX.FlyingZ B X.stack a (Zc cls d) h' → s.heap.UpToSlots h' → Landed X pins a B cls d σ H sI { s with heap := h' } := fun f u => ⟨L.inv0, L.nb, L.up.trans u, f, L.na, L.os, L.ag⟩
      cases n with
      | none =>
        cases i with
        | some i => exact nk.elim
        | none =>
          refine codeAny_handlers_suite (HandSPX.lands_againZ L.fl fun h' f' u' => ?_)
          have L1 := fly f' u'
          obtain ⟨oe, vs, z, dt, S⟩ := L1.inS hs hf
          exact wpAny_mono (run L1 oe vs z dt S) (fun f s6 h => fin h) fun _ _ h => h.elim
      | some n =>
        cases i with
        | none => exact nk.elim
        | some i =>
          refine codeAny_handlers_suite_as (HandSPX.lands_againZ L.fl fun h' f' u' => ?_)
          have L1 := fly f' u'
          obtain ⟨oe, vs, z, dt, S⟩ := L1.inS hs hf
          refine store_ok (X := X.suite a ((a, oe) :: (X.pn ++ pins))) (v := .ref a) S hN nk.1 (.inl nk.2) rfl (fun s5 S5 => ?_) (.inr nk.2)
          exact wpAny_mono (run L1 oe vs z dt S5) (fun f s6 h => fin h) fun _ _ h => h.elim
    · exact key false hb (clauses ok hs hf hN r L hw)
end
section
variable {X : Cx} {body : List Stmt} {h0 : ExceptHandler} {hds : List ExceptHandler} {l : List Cz} {pos : Pos} {tb : WX → TS}
theorem ps_mix (hs : X.stack = X.env :: X.outer) (hf : X.env.frame = some X.env.locals) (hN : X.N.Nodup) (hb : ∀ (W : WX) (pn : List (Addr × Obj)) (xe : Value → Shared → Prop), Takes (X.tr pn xe) W → PassesOwn (model X.prog X.w) X.A X.env xe → PSs (X.tr pn xe) body (tb W)) (hh : MixOk X (h0 :: hds) l) :
    PS X (.Try body (h0 :: hds) [] [] pos) (fun D σ H => tb (mixW X.K D l) D σ H) := ⟨fun pins s σ H D I h => by
  have ok := I.ok
  refine wpAny_Try_except (wpAny_mono ((hb (mixW X.K D l) (X.pn ++ pins) _ (fun u s' x => ?_) PassesOwn.looking).run [] s σ H D (I.toTry _) h) (fun f s1 e => ?_) fun _ _ e => e)
  · obtain ⟨a, B, sI, ps, σ1, H1, cls, d, rfl, J, nb, up, sky, na, os, ag, w⟩ := x
    show wpAny _ X.A (noteFrame (.ref a) X.env) _ _ _
    refine Sky.land Zc.steady (by rw [ok.frames, hs]) hf (by rw [← hs]; exact sky) fun h3 f3 u3 => ?_
    have L : Landed X pins a B cls d σ1 H1 sI { s' with heap := h3 } := ⟨J.ofTry ok, nb, up.trans u3, by rw [hs]; exact f3, na, os, ag⟩
    exact clauses ok hs hf hN hh L w
  · cases f with
    | next =>
      obtain ⟨σ1, H1, J, k⟩ := e
      exact wpAny_execs_nil ⟨σ1, H1, J.ofTry ok, k⟩
    | ret u =>
      obtain ⟨v, σ1, H1, J, r, k⟩ := e
      exact ⟨v, σ1, H1, J.ofTry ok, r, k⟩
    | _ =>
      obtain ⟨σ1, H1, J, k⟩ := e
      exact ⟨σ1, H1, J.ofTry ok, k⟩⟩
end
/-! ## .. deep -/
structure Dz where
  nm : Option Nat
  mt : Str → Option Bool
  as : List Nat
  ds : Str → List D → List D → O
def unbS (o : Option Nat) (env : List D) : List D := match o with
  | none => env
  | some i => env.set i .unb
def goneM (o : Option Nat) (r : O) : O := match o with
  | none => r
  | some i => goneO i r
def fitO (o : Option Nat) (env : List D) : Bool := match o with
  | none => true
  | some i => decide (i < env.length)
def pickC : List Dz → Str → List D → List D → O
  | [], _, _, _ => .bad
  | z :: r, c, fs, env1 => match z.mt c with
    | some true => if (z.as.all (fun i => !ownd (env1.getD i .unb)) && fitO z.nm env1) = true then goneM z.nm (noEx (z.ds c fs (unbS z.nm env1))) else .bad
    | some false => pickC r c fs env1
    | none => .bad
def mixD (l : List Dz) (db : List D → O) : List D → O := fun env => match db env with
  | .ex c fs env1 => pickC l c fs env1
  | r => r
/-- into a suite -/
theorem suiteIn {X : Cx} {j : J} {F F' H' : Hp} {W' : Own} {env1 : List D} {σ' : L2.St} {i : Option Nat} {as : List Nat} {ds : List D → O} {Dn : Ends} {a : Addr} (r : Rel (mo X) j.e W' F' H' env1 σ') (xF : Ex F F') (hpi : ∀ k, i = some k → j.e.P k = none ∧ k ∉ as) (hpa : ∀ k ∈ as, j.e.P k = none)
    (ha : as.all (fun i => !ownd (env1.getD i .unb)) = true) (hf : fitO i env1 = true) (q : AtS (mo X) j F (goneM i (noEx (ds (unbS i env1)))) Dn) (c : Value) (ts : Addr → Value → Option Addr → TS) :
    ∃ es : Ent, (∀ k, i = some k → es.P k = some (.ref a)) ∧ (∀ k ∈ as, es.P k = none) ∧ es.F0 = F' ∧ tS (mo X) ⟨es, noX⟩ ds (Cz.ends ⟨i, c, ts⟩ Dn) (slotS i (some (.ref a)) σ') H' := by
  have r1 : Rel (mo X) j.e W' F' H' (unbS i env1) (slotS i (some (.ref a)) σ') := by
    cases i with
    | none => exact r
    | some k => exact r.putX (some (.ref a)) (hpi k rfl).1
  have hsi : ∀ k, i = some k → (slotS i (some (V.ref a)) σ')[k]? = some (some (.ref a)) := fun k e => by
    subst e
    exact List.getElem?_set_self (by rw [← r.len]; exact of_decide_eq_true hf)
  have own2 : ∀ k d, (unbS i env1)[k]? = some d → d ≠ .unb → i ≠ some k ∧ env1[k]? = some d := fun k d h1 h2 => by
    cases i with
    | none => exact ⟨fun e => (nomatch e), h1⟩
    | some z =>
      have h1 : (env1.set z .unb)[k]? = some d := h1
      by_cases hk : z = k
      · subst hk
        rw [List.getElem?_set_self (of_decide_eq_true hf)] at h1
        exact absurd (Option.some.inj h1).symm h2
      · rw [List.getElem?_set_ne hk] at h1
        exact ⟨fun e => hk (Option.some.inj e), h1⟩
  generalize hσ : slotS i (some (V.ref a)) σ' = σ1 at r1 hsi ⊢
  generalize henv : unbS i env1 = env2 at r1 q own2 ⊢
  let pb : Nat → Option V := fun k => if i = some k then some (.ref a) else suiteP as j.e.P env2 σ1 k
  have pbi : ∀ k, i = some k → pb k = some (.ref a) := fun k e => if_pos e
  have pbn : ∀ k, i ≠ some k → pb k = suiteP as j.e.P env2 σ1 k := fun k h => if_neg h
  have pb1 : ∀ k v, pb k = some v → σ1[k]? = some (some v) := fun k v h => by
    by_cases hk : i = some k
    · rw [pbi k hk] at h
      rw [← h]
      exact hsi k hk
    · rw [pbn k hk] at h
      unfold suiteP at h
      by_cases hi : k ∈ as
      · rw [if_pos hi] at h
        cases h
      · rw [if_neg hi] at h
        cases z : j.e.P k with
        | some v' =>
          rw [z] at h
          cases h
          exact r1.pin k v z
        | none =>
          rw [z] at h
          simp only at h
          split at h
          · cases y : σ1[k]? with
            | none => rw [y] at h; cases h
            | some o => rw [y] at h; exact congrArg some h
          · cases h
  have rB := r1.inB (pb := pb) pb1 fun k d h1 h2 h3 z => by
    obtain ⟨hk, h1'⟩ := own2 k d h1 h3
    have hd : env1.getD k .unb = d := by rw [List.getD_eq_getElem?_getD, h1']; rfl
    have hd2 : env2.getD k .unb = d := by rw [List.getD_eq_getElem?_getD, h1]; rfl
    have hna : k ∉ as := fun hi => by
      have := List.all_eq_true.mp ha k hi
      rw [hd] at this
      cases d with
      | ml l => exact absurd this (by unfold ownd; simp)
      | mi c l => exact absurd this (by unfold ownd; simp)
      | md c l => exact absurd this (by unfold ownd; simp)
      | unb => exact h3 rfl
      | _ => exact absurd h2 (by unfold isOwn; simp)
    obtain ⟨v, h4, _⟩ := r1.slot k d h1 h3
    rw [pbn k hk] at z
    unfold suiteP at z
    rw [if_neg hna] at z
    cases y : j.e.P k with
    | some v' => rw [y] at z; cases z
    | none =>
      rw [y, hd2] at z
      simp only at z
      rw [if_pos h2, h4] at z
      cases z
  refine ⟨_, pbi, fun k hk => ?_, ?_, _, F', env2, rB, ?_⟩
  · show pb k = none
    rw [pbn k (fun e => (hpi k e).2 hk)]
    exact if_pos hk
  · rfl
  · have back : ∀ {W2 F2 H2 env3 σ2}, Rel (mo X) ⟨H', F', blkW pb W', pb⟩ W2 F2 H2 env3 σ2 → Rel (mo X) j.e W2 F2 H2 env3 σ2 := fun r2 => Rel.outB r1.toRelB r2 fun k v h => by
      have hk : i ≠ some k := fun e => by
        rw [(hpi k e).1] at h
        cases h
      rw [pbn k hk]
      unfold suiteP
      rw [if_neg (fun hi => by rw [hpa k hi] at h; cases h), h]
    have gone : ∀ {W2 F2 H2 env3 σ2}, Rel (mo X) j.e W2 F2 H2 env3 σ2 → Rel (mo X) j.e W2 F2 H2 (unbS i env3) (slotS i none σ2) := fun {W2 F2 H2 env3 σ2} r2 => by
      cases i with
      | none => exact r2
      | some k => exact r2.putX none (hpi k rfl).1
    cases i with
    | none =>
      cases os : ds env2 with
      | nx e2 => rw [os] at q; exact fun W2 F2 H2 σ2 r2 x2 => q W2 F2 H2 _ (gone (back r2)) (xF.trans x2)
      | rt d e2 => rw [os] at q; exact fun W2 F2 H2 σ2 v r2 p2 => q W2 F2 H2 σ2 v (back r2) p2
      | bk e2 => rw [os] at q; exact fun W2 F2 H2 σ2 r2 x2 => q W2 F2 H2 _ (gone (back r2)) (xF.trans x2)
      | ct e2 => rw [os] at q; exact fun W2 F2 H2 σ2 r2 x2 => q W2 F2 H2 _ (gone (back r2)) (xF.trans x2)
      | ex c2 f2 e2 => rw [os] at q; exact q.elim
      | bad => rw [os] at q; exact q
    | some k =>
      cases os : ds env2 with
      | nx e2 => rw [os] at q; exact fun W2 F2 H2 σ2 r2 x2 => q W2 F2 H2 _ (gone (back r2)) (xF.trans x2)
      | rt d e2 => rw [os] at q; exact fun W2 F2 H2 σ2 v r2 p2 => q W2 F2 H2 σ2 v (back r2) p2
      | bk e2 => rw [os] at q; exact fun W2 F2 H2 σ2 r2 x2 => q W2 F2 H2 _ (gone (back r2)) (xF.trans x2)
      | ct e2 => rw [os] at q; exact fun W2 F2 H2 σ2 r2 x2 => q W2 F2 H2 _ (gone (back r2)) (xF.trans x2)
      | ex c2 f2 e2 => rw [os] at q; exact q.elim
      | bad => rw [os] at q; exact q
inductive DMix (X : Cx) (j : J) : List ExceptHandler → List Dz → Prop
  | nil : DMix X j [] []
  | cons {x : Str} {c : Value} {n : Option Str} {i : Option Nat} {mt : Str → Option Bool} {as : List Nat} {ds : Str → List D → List D → O} {b0 : Stmt} {suite : List Stmt} {np q : Pos} {hds : List ExceptHandler} {l : List Dz} : Names X x c → NmOk X n i →
      (∀ k, i = some k → j.e.P k = none ∧ k ∉ as) → (∀ k ∈ as, j.e.P k = none) → (∀ cn C b, X.mg cn = some (.ref C) → mt cn = some b → PySem.W.exmOne X.K (.ref C) c = some b) →
      (∀ (a : Addr) (oe : Obj) (cls : Value) (d : Option Addr) (pn : List (Addr × Obj)) (es : Ent) (cn : Str) (fs : List D), Zc cls d oe → (∃ vs, oe.data = .fields vs) → (∀ k, i = some k → es.P k = some (.ref a)) → (∀ k ∈ as, es.P k = none) → mt cn = some true → XR (mo X) es.F0 cn fs cls d →
        DSs (X.suite a ((a, oe) :: pn)) ⟨es, noX⟩ (b0 :: suite) (ds cn fs)) → DMix X j hds l → DMix X j (.ExceptHandler (some (.Name x np)) n (b0 :: suite) q :: hds) (⟨i, mt, as, ds⟩ :: l)
theorem DMix.mix {X : Cx} {j : J} : ∀ {hds : List ExceptHandler} {zs : List Dz}, DMix X j hds zs → ∃ l : List Cz, MixOk X hds l ∧ ∀ {W' : Own} {F F' H' : Hp} {env1 : List D} {σ' : L2.St} {cn : Str} {fs : List D} {cls : Value} {dd : Option Addr} {Dn : Ends}, Rel (mo X) j.e W' F' H' env1 σ' → Ex F F' → XR (mo X) F' cn fs cls dd → AtS (mo X) j F (pickC zs cn fs env1) Dn → mixW X.K Dn l cls dd σ' H'
  | _, _, .nil => ⟨[], .nil, fun _ _ _ q => q⟩
  | _, _, .cons (c := c) (i := i) (mt := mt) (as := as) (ds := ds) hc hn hpi hpa hm hsu t => by
    obtain ⟨l, m, k⟩ := t.mix
    refine ⟨⟨i, c, fun a cls d Dn σ H => ∃ (es : Ent) (cn : Str) (fs : List D), (∀ k, i = some k → es.P k = some (.ref a)) ∧ (∀ k ∈ as, es.P k = none) ∧ mt cn = some true ∧ XR (mo X) es.F0 cn fs cls d ∧ tS (mo X) ⟨es, noX⟩ (ds cn fs) Dn σ H⟩ :: l, .cons hc hn (fun a oe cls d pn z f => ⟨fun pins s σ H Dn I ⟨es, cn, fs, h0, h1, h2, h3, h4⟩ => (hsu a oe cls d pn es cn fs z f h0 h1 h2 h3).run pins s σ H Dn I h4⟩) m, ?_⟩
    intro W' F F' H' env1 σ' cn fs cls dd Dn r xF xr q
    obtain ⟨C, e, hC, hx⟩ := id xr
    subst e
    unfold pickC at q
    simp only at q
    cases om : mt cn with
    | none => rw [om] at q; exact q.elim
    | some b =>
      rw [om] at q
      cases b with
      | false => exact .inr ⟨hm cn C false hC om, k r xF xr q⟩
      | true =>
        try simp only at q
        by_cases ha : (as.all (fun i => !ownd (env1.getD i .unb)) && fitO i env1) = true
        · rw [if_pos ha] at q
          obtain ⟨ha, hf⟩ := Bool.and_eq_true_iff.mp ha
          refine .inl ⟨hm cn C true hC om, fun a na => ?_⟩
          obtain ⟨es, e1, e2, e3, e4⟩ := suiteIn (a := a) r xF hpi hpa ha hf q c (fun _ _ _ _ _ _ => True)
          exact ⟨es, cn, fs, e1, e2, om, by rw [e3]; exact xr, e4⟩
        · rw [if_neg ha] at q
          exact q.elim
theorem s_mix {X : Cx} {j : J} {body : List Stmt} {h0 : ExceptHandler} {hds : List ExceptHandler} {pos : Pos} {zs : List Dz} {db : List D → O} (hs : X.stack = X.env :: X.outer) (hf : X.env.frame = some X.env.locals) (hN : X.N.Nodup)
    (hb : ∀ (W : WX) (pn : List (Addr × Obj)) (xe : Value → Shared → Prop), Takes (X.tr pn xe) W → PassesOwn (model X.prog X.w) X.A X.env xe → DSs (X.tr pn xe) ⟨j.e, W⟩ body db) (hm : DMix X j (h0 :: hds) zs) :
    DS X j (.Try body (h0 :: hds) [] [] pos) (mixD zs db) := by
  obtain ⟨l, m, k⟩ := hm.mix
  refine PS.mono (ps_mix (tb := fun W => tS (mo X) ⟨j.e, W⟩ db) hs hf hN hb m) fun Dn σ H ⟨W, F, env, rel, q⟩ => ⟨W, F, env, rel, ?_⟩
  have q : AtS (mo X) j F (mixD zs db env) Dn := q
  unfold mixD at q
  cases o : db env with
  | nx e1 => rw [o] at q; exact q
  | rt d e1 => rw [o] at q; exact q
  | bk e1 => rw [o] at q; exact q
  | ct e1 => rw [o] at q; exact q
  | bad => rw [o] at q; exact q
  | ex cn fs env1 =>
    rw [o] at q
    exact fun W' F' H' σ' cls dd r xF xr => k r xF xr q
end DL
namespace DL
open PySem PySem.Spec PyProof.Rows L2 HT
/-! ## list(x), list(zip(x, y)) that are owned -/
section
variable {M : Mo} {e : Ent} {W : Own} {F H : Hp} {env : List D} {σ : L2.St}
theorem newW_ne {a b : Addr} (hb : b ≠ a) (h : newW W a b ≠ none) : W b ≠ none := fun z => h (by
  unfold newW
  rw [if_neg hb, z]
  rfl)
/-- what is there, of nobody, is taken -/
theorem Rel.take {a : Addr} (r : Rel M e W F H env σ) (hF : F a = none) (nW : W a = none) (h0 : e.H0 a = none) (hH : H a ≠ none) : Rel M e (newW W a) F H env σ := by
  refine ⟨⟨r.pres, r.exF0, r.exF, fun b h => ?_, fun b c q h => ?_, r.new, r.stay⟩, r.len, fun k d' h1 h2 => ?_, r.pin⟩
  · by_cases z : b = a
    · subst z
      exact ⟨hF, .inr h0, hH⟩
    · exact r.sep b (newW_ne z h)
  · unfold newW at h
    split at h
    · rename_i z
      subst z
      exact .inl h0
    · split at h
      · cases h
      · exact r.fresh b c q h
  · obtain ⟨v', h5, h6⟩ := r.slot k d' h1 h2
    refine ⟨v', h5, h6.tr (Ex.refl F) fun b q' z => ?_⟩
    have : b ≠ a := fun w => by
      subst w
      rw [nW] at z
      cases z
    refine ⟨?_, fun u y => y⟩
    unfold newW
    rw [if_neg this, if_neg]
    · exact z
    · intro w
      obtain ⟨q2, h7⟩ := rootIs_iff.mp w
      rw [z] at h7
      injection h7 with h7
      injection h7 with h8 _
      omega
end
def listO (dl : List D → R (List D)) : List D → R D := fun env => bindR (dl env) fun ds env1 => match ds with
  | [.lst l] => .ok (.ml l) env1
  | [.tup l] => .ok (.ml l) env1
  | _ => .bad
def lzO (da db : List D → R D) : List D → R D := fun env => bindR (da env) fun d env1 => bindR (db env1) fun e env2 => match d, e with
  | .lst l, .lst m => if min l.length m.length ≤ 1000000 then .ok (.ml (zipL l m)) env2 else .bad
  | _, _ => .bad
@[simp] theorem listO_ap (dl : List D → R (List D)) (env : List D) : listO dl env = bindR (dl env) fun ds env1 => match ds with
  | [.lst l] => .ok (.ml l) env1
  | [.tup l] => .ok (.ml l) env1
  | _ => .bad := rfl
@[simp] theorem lzO_ap (da db : List D → R D) (env : List D) : lzO da db env = bindR (da env) fun d env1 => bindR (db env1) fun e env2 => match d, e with
  | .lst l, .lst m => if min l.length m.length ≤ 1000000 then .ok (.ml (zipL l m)) env2 else .bad
  | _, _ => .bad := rfl
section
variable {X : Cx} {j : J} {a : Expr} {es : List Expr} {pos : Pos}
theorem o_list {x : Str} {p : Pos} {dl : List D → R (List D)} (hg : Gl X x) (hm : X.mg x = none) (hv : bootBuiltins x = some (.type "list")) (ha : DL X j (a :: es) dl) (hn : x ≠ "__name__" := by decide) (hdb : (x == ("__debug__" : Str)) = false := by decide)
    (he : starEach (a :: es) X.env = (false, eval a X.env) :: starEach es X.env := by rfl) (hpl : (backTo pos (starEach es X.env)).any (·.1) = false := by rfl) :
    DO X j (.Call (.Name x p) (a :: es) [] pos) (listO dl) :=
  PE.mono (pe_callTy call_list_of hg hm hv ha hn hdb he hpl) fun σ H Q ⟨W, F, env, rel, q⟩ => ⟨W, F, env, rel, AtO.bind q fun d env1 W1 F1 H1 v _ r1 x1 p1 q1 => by
    have key : ∀ {l : List D} {p : Addr} {ys : List V}, RpL (mo X) F1 l ys → (SqL X.K H1 p ys ∨ SqT X.K H1 p ys) → AtO (mo X) j F1 σ (.ok (.ml l) env1) Q → ∃ p0 ys0, [V.ref p] = [V.ref p0] ∧ (SqL X.K H1 p0 ys0 ∨ SqT X.K H1 p0 ys0) ∧ ∀ S, H1 S = none → Q (.ref S) (upd H1 S (.lst ys0)) := fun {l p ys} hl hs q => by
      refine ⟨_, _, rfl, hs, fun S n => ?_⟩
      obtain ⟨h1, h2⟩ := r1.newO n hl
      exact q _ F1 _ _ h1 (Ex.refl F1) h2
    split at q1
    · obtain ⟨w, rfl, h⟩ := p1.one_inv
      obtain ⟨p, ys, rfl, h1, h2⟩ := h.lst_inv
      exact key h2 (.inl (ex_l r1.exF h1)) q1
    · obtain ⟨w, rfl, h⟩ := p1.one_inv
      obtain ⟨p, ys, rfl, h1, h2⟩ := h.tup_inv
      exact key h2 (.inr (ex_t r1.exF h1)) q1
    · exact q1.elim⟩
theorem o_listZip {e e2 : Expr} {da db : List D → R D} {p q qpos : Pos} (hc : X.calm = true) (hgl : Gl X "list") (hml : X.mg "list" = none) (hg : Gl X "zip") (hm : X.mg "zip" = none) (h : DE X j e da) (h2 : DE X j e2 db)
    (hs : starEach [e, e2] X.env = (false, eval e X.env) :: starEach [e2] X.env := by rfl) (hs2 : starEach [e2] X.env = (false, eval e2 X.env) :: starEach [] X.env := by rfl) (hpl : (backTo qpos (starEach [e2] X.env)).any (·.1) = false := by rfl)
    (na : starEach [.Call (.Name "zip" q) [e, e2] [] qpos] X.env = (false, eval (.Call (.Name "zip" q) [e, e2] [] qpos) X.env) :: starEach [] X.env := by rfl) : DO X j (.Call (.Name "list" p) [.Call (.Name "zip" q) [e, e2] [] qpos] [] pos) (lzO da db) :=
  PE.mono (pe_listZp hc hgl hml (pzp hg hm (pa_cons h (pa_cons h2 pa_nil hs2) hs) hs hpl) na) fun σ H Q ⟨W, F, env, rel, q⟩ => ⟨W, F, env, rel, AtO.bind q fun d env1 W1 F1 H1 v _ r1 x1 p1 q1 => ⟨W1, F1, env1, r1, AtO.bind q1 fun d2 env2 W2 F2 H2 v2 _ r2 x2 p2 q2 => by
    have p1 := p1.mono x2
    cases p1 with
    | @lst a xs l g1 g2 =>
      cases p2 with
      | @lst b ys m k1 k2 =>
        simp only at q2
        by_cases hz : min l.length m.length ≤ 1000000
        · rw [if_pos hz] at q2
          have e1 := g2.length
          have e2 := k2.length
          refine ⟨a, b, xs, ys, rfl, ex_l r2.exF g1, ex_l r2.exF k1, by rw [← e1, ← e2]; exact hz, fun S hS => ?_⟩
          refine ⟨fun i H acc => ∃ F3, Ex F2 F3 ∧ Ex H2 H ∧ Ex F3 H ∧ F3 S = none ∧ (∀ b, F3 b ≠ none → F2 b ≠ none ∨ H2 b = none) ∧ H S = some (.lst acc) ∧ RpL (mo X) F3 ((zipL l m).take i) acc ∧ acc.length = i, ⟨F2, Ex.refl F2, Ex.new hS, r2.exF.trans (Ex.new hS), r2.exF.none hS, fun b h => .inl h, upd_same, .nil, rfl⟩, ?_, ?_, ?_⟩
          · rintro i H acc ⟨F3, y1, y2, y3, y4, y5, y6, y7, y8⟩
            exact ⟨ex_l (y1.trans y3) g1, ex_l (y1.trans y3) k1, y6, y8⟩
          · rintro i H acc T x y ⟨F3, y1, y2, y3, y4, y5, y6, y7, y8⟩ hx hy hT
            have hST : S ≠ T := fun e => by rw [← e, y6] at hT; cases hT
            have hFT : F3 T = none := y3.none hT
            obtain ⟨dx, l1, l2⟩ := g2.getV hx
            obtain ⟨dy, m1, m2⟩ := k2.getV hy
            refine ⟨upd F3 T (.tup [x, y]), y1.trans (Ex.new hFT), fun b o hb => ?_, fun b o hb => ?_, ?_, fun b hb => ?_, upd_same, ?_, by rw [List.length_append, y8]; rfl⟩
            · have b1 : b ≠ S := fun e => by rw [e, hS] at hb; cases hb
              have b2 : b ≠ T := fun e => by
                have := y2 b o hb
                rw [e, hT] at this
                cases this
              rw [upd_ne b1, upd_ne b2]
              exact y2 b o hb
            · by_cases b2 : b = T
              · subst b2
                rw [upd_same] at hb
                rw [upd_ne (Ne.symm hST), upd_same]
                exact hb
              · rw [upd_ne b2] at hb
                have b1 : b ≠ S := fun e => by rw [e, y4] at hb; cases hb
                rw [upd_ne b1, upd_ne b2]
                exact y3 b o hb
            · rw [upd_ne hST]
              exact y4
            · by_cases b2 : b = T
              · right
                rw [b2]
                cases z : H2 T with
                | none => rfl
                | some o => have := y2 T o z; rw [hT] at this; cases this
              · rw [upd_ne b2] at hb
                exact y5 b hb
            · rw [zipL_take l m i dx dy l1 m1]
              have n1 := Ex.new (o := .tup [x, y]) hFT
              exact (y7.mono n1).append (.cons (.tup (SqT.of upd_same) (.cons (l2.mono (y1.trans n1)) (.cons (m2.mono (y1.trans n1)) .nil))) .nil)
          · rintro H' acc ⟨F3, y1, y2, y3, y4, y5, y6, y7, y8⟩
            rw [← e1, ← e2, ← zipL_len2, List.take_length] at y7
            have r3 := r2.grow (F' := F3) (H' := H') ⟨y1, y2, y3, y5⟩
            have nW : W2 S = none := by
              cases z : W2 S with
              | none => rfl
              | some w => exact absurd hS (r2.sep S (by rw [z]; simp)).2.2
            have n0 : j.e.H0 S = none := by
              cases z : j.e.H0 S with
              | none => rfl
              | some w => exact absurd hS (r2.stay S (by rw [z]; simp))
            exact q2 _ F3 H' _ (r3.take y4 nW n0 (by rw [y6]; simp)) y1 (.ml newW_self y6 y7.own)
        · rw [if_neg hz] at q2
          exact q2.elim
      | _ => exact q2.elim
    | _ => exact q2.elim⟩⟩
end
/-! ## x[i][k], x an owned list of owned lists -/
/-- an index that does nothing else -/
structure QI (X : Cx) (b : Expr) (t : TE) (q : List D → Option Int) : Prop where
  pe : PE X b t
  run : ∀ {e : Ent} {W : Own} {F H : Hp} {env : List D} {σ : L2.St} {m : Int} {Q : VK}, Rel (mo X) e W F H env σ → q env = some m → Q (.int m) H → t σ H Q
def qVar (k : Nat) (env : List D) : Option Int := match env.getD k .unb with
  | .int m => some m
  | _ => none
def qInt (m : Int) (_ : List D) : Option Int := some m
theorem qi_var {X : Cx} {x : Str} {p : Pos} (k : Nat) (h : PE X (.Name x p) (tVar k)) : QI X (.Name x p) (tVar k) (qVar k) := ⟨h, fun {e W F H env σ m Q} r e q => by
  unfold qVar at e
  split at e
  · rename_i m' hm
    cases e
    have hg : env[k]? = some (.int m) := by
      rw [List.getD_eq_getElem?_getD] at hm
      cases z : env[k]? with
      | none => rw [z] at hm; cases hm
      | some d => rw [z] at hm; exact congrArg some hm
    obtain ⟨v, h1, h2⟩ := r.slot k _ hg (fun z => nomatch z)
    cases h2 with
    | fz p => cases p with
      | int _ => exact ⟨_, h1, q⟩
  · cases e⟩
theorem qi_int {X : Cx} {m : Int} {k : Nat} {p : Pos} : QI X (.Constant (.int m) k p) (tC (.int m)) (qInt m) := ⟨pe_int, fun r e q => by cases e; exact q⟩
/-- row k of a list of lists -/
def rowI (l : List D) (k : Int) : Option (Nat × List D) := match ixN l.length k with
  | some n => (match l[n]? with
    | some (.ml r) => some (n, r)
    | _ => none)
  | none => none
theorem rowI_some {l : List D} {k : Int} {n : Nat} {r : List D} (h : rowI l k = some (n, r)) : ixN l.length k = some n ∧ l[n]? = some (.ml r) := by
  unfold rowI at h
  split at h
  · split at h
    · cases h
      exact ⟨by assumption, by assumption⟩
    · cases h
  · cases h
def ixO2 (i : Nat) (da : List D → R D) (q : List D → Option Int) : List D → R D := fun env => if (listAt env i).isSome = true then bindR (da env) fun k env1 => match k with
  | .int k => match listAt env1 i with
    | some l => match rowI l k with
      | some (_, r) => match q env1 with
        | some m => match atI r m with
          | some d => if isOwn d = true then .bad else .ok d env1
          | none => .bad
        | none => .bad
      | none => .bad
    | none => .bad
  | _ => .bad
else .bad
def setO2 (i : Nat) (dv da : List D → R D) (q : List D → Option Int) : List D → O := fun env => bindS (dv env) fun d env1 => if (listAt env1 i).isSome = true then bindS (da env1) fun k env2 => match k with
  | .int k => match listAt env2 i with
    | some l => match rowI l k with
      | some (n, r) => match q env2 with
        | some m => match ixN r.length m with
          | some c => .nx (env2.set i (.ml (l.set n (.ml (r.set c d)))))
          | none => .bad
        | none => .bad
      | none => .bad
    | none => .bad
  | _ => .bad
else .bad
/-- one of the lists is another one -/
theorem OwL.row {M : Mo} {W : Own} {F H : Hp} {p : Addr} {o : HO} {d : D} : ∀ {t : List Nat} {k n : Nat} {l : List D} {xs : List V}, OwL M W F H t k l xs → W p = some (t ++ [k + n]) → xs[n]? = some (.ref p) → Ow M W F (L2.upd H p o) (t ++ [k + n]) d (.ref p) → OwL M W F (L2.upd H p o) t k (l.set n d) xs
  | _, _, _, _, _, .nil, _, hx, _ => by simp at hx
  | t, k, 0, _, _, .cons h q, hp, hx, hd => by
    simp at hx
    subst hx
    refine .cons hd ?_
    have : ∀ {l : List D} {xs : List V} {k' : Nat}, k < k' → OwL M W F H t k' l xs → OwL M W F (L2.upd H p o) t k' l xs := by
      intro l
      induction l with
      | nil => intro xs k' _ h; cases h; exact .nil
      | cons d l ih =>
        intro xs k' hk h
        cases h with
        | cons h1 h2 =>
          refine .cons (h1.tr (Ex.refl F) fun b q z => ⟨z, fun u y => ?_⟩) (ih (Nat.lt_succ_of_lt hk) h2)
          have : b ≠ p := fun w => by
            subst w
            rw [hp] at z
            injection z with z
            rw [List.append_assoc] at z
            have := List.append_cancel_left z
            simp at this
            omega
          rw [upd_ne this]
          exact y
    exact this (Nat.lt_succ_self k) q
  | t, k, n + 1, _, _, .cons (d := d0) h q, hp, hx, hd => by
    have e1 : k + (n + 1) = k + 1 + n := by omega
    rw [e1] at hp hd
    refine .cons (h.tr (Ex.refl F) fun b q z => ⟨z, fun u y => ?_⟩) (OwL.row q hp (by simpa using hx) hd)
    have : b ≠ p := fun w => by
      subst w
      rw [hp] at z
      injection z with z
      rw [List.append_assoc] at z
      have := List.append_cancel_left z
      simp at this
      omega
    rw [upd_ne this]
    exact y
section
variable {X : Cx} {j : J} {a b e : Expr} {pos px p2 : Pos} {da dv : List D → R D} {t : TE} {qf : List D → Option Int}
theorem e_ixO2 (i : Nat) {x : Str} (h : PE X (.Name x px) (tVar i)) (ha : DE X j a da) (hs : PlainIx a) (hq : QI X b t qf) (hs2 : PlainIx b) : DE X j (.Subscript (.Subscript (.Name x px) a p2) b pos) (ixO2 i da qf) :=
  PE.mono (pe_ix ix_list (pe_ix ix_list h ha hs) hq.pe hs2) fun σ H Q ⟨W, F, env, rel, q⟩ => by
    unfold ixO2 at q
    by_cases o : (listAt env i).isSome = true
    · rw [if_pos o] at q
      obtain ⟨l0, e0⟩ := Option.isSome_iff_exists.mp o
      obtain ⟨a0, xs0, s0, _⟩ := rel.list e0
      refine ⟨_, s0, W, F, env, rel, At.bind q fun d env1 W1 F1 H1 v _ r1 x1 p1 q1 => ?_⟩
      cases p1 with
      | int k =>
        simp only at q1
        cases o2 : listAt env1 i with
        | none => rw [o2] at q1; exact q1.elim
        | some l =>
          rw [o2] at q1
          simp only at q1
          obtain ⟨a, xs, s1, w1, h1, ol⟩ := r1.list o2
          rw [s0] at s1
          cases s1
          cases o3 : rowI l k with
          | none => rw [o3] at q1; exact q1.elim
          | some nr =>
            obtain ⟨n, r⟩ := nr
            rw [o3] at q1
            simp only at q1
            cases o4 : qf env1 with
            | none => rw [o4] at q1; exact q1.elim
            | some m =>
              rw [o4] at q1
              simp only at q1
              cases o5 : atI r m with
              | none => rw [o5] at q1; exact q1.elim
              | some d =>
                rw [o5] at q1
                simp only at q1
                by_cases o6 : isOwn d = true
                · rw [if_pos o6] at q1
                  exact q1.elim
                · rw [if_neg o6] at q1
                  obtain ⟨i1, i2⟩ := rowI_some o3
                  obtain ⟨u, u1, u2⟩ := ol.get i2
                  have hk : atI xs k = some u := by
                    unfold atI
                    rw [← ol.length, i1]
                    exact u1
                  refine ⟨_, xs, k, u, rfl, rfl, SqL.of h1, hk, hq.run r1 o4 ?_⟩
                  cases u2 with
                  | fz p => cases p
                  | ml w2 h2 ol2 =>
                    obtain ⟨n2, g1, g2⟩ := atI_get2 ol2.length o5
                    obtain ⟨v, g3, g4⟩ := ol2.get g1
                    exact ⟨_, _, m, v, rfl, rfl, SqL.of h2, g2 v g3, q1 W1 F1 H1 v r1 (Ex.refl F1) (g4.rp (by simpa using o6))⟩
      | _ => exact q1.elim
    · rw [if_neg o] at q
      exact q.elim
theorem s_setix2 (i : Nat) {x : Str} {tpos : Pos} (he : DE X j e dv) (h : PE X (.Name x px) (tVar i)) (ha : DE X j a da) (hsx : PlainIx a) (hq : QI X b t qf)
    (hg : ∀ v, assign (.Subscript (.Subscript (.Name x px) a p2) b tpos) X.env v = (do
      let ov ← holding [v] (eval (.Subscript (.Name x px) a p2) X.env)
      let iv ← holding [v, ov] (eval b X.env)
      standAt tpos
      holding [v, ov, iv] (setItem ov iv v)
      release [v, ov, iv] []) := by intro _; rfl) (hs : swapsWithSole [.Subscript (.Subscript (.Name x px) a p2) b tpos] e pos.line X.env = pure false := by rfl) (hw : swappedStores [.Subscript (.Subscript (.Name x px) a p2) b tpos] e X.env = pure none := by rfl)
    (h1 : (assignEach [.Subscript (.Subscript (.Name x px) a p2) b tpos] X.env).map (·.2) = [assign (.Subscript (.Subscript (.Name x px) a p2) b tpos) X.env] := by rfl) : DS X j (.Assign [.Subscript (.Subscript (.Name x px) a p2) b tpos] e pos) (setO2 i dv da qf) :=
  PS.mono (ps_asg he (pg_sub (pe_ix ix_list h ha hsx) hq.pe set_list hg) hs hw h1) fun Dn σ H ⟨W, F, env, rel, q⟩ => ⟨W, F, env, rel, AtS.bind q fun d env1 W1 F1 H1 v _ r1 x1 p1 q1 => by
    by_cases o : (listAt env1 i).isSome = true
    · rw [if_pos o] at q1
      obtain ⟨l0, e0⟩ := Option.isSome_iff_exists.mp o
      obtain ⟨a0, xs0, s0, _⟩ := r1.list e0
      refine ⟨_, s0, W1, F1, env1, r1, AtS.bind q1 fun k env2 W2 F2 H2 v2 _ r2 x2 p2 q2 => ?_⟩
      cases p2 with
      | int k =>
        simp only at q2
        cases o2 : listAt env2 i with
        | none => rw [o2] at q2; exact q2.elim
        | some l =>
          rw [o2] at q2
          simp only at q2
          obtain ⟨ad, xs, s1, w1, h3, ol⟩ := r2.list o2
          rw [s0] at s1
          cases s1
          cases o3 : rowI l k with
          | none => rw [o3] at q2; exact q2.elim
          | some nr =>
            obtain ⟨n, r⟩ := nr
            rw [o3] at q2
            simp only at q2
            cases o4 : qf env2 with
            | none => rw [o4] at q2; exact q2.elim
            | some m =>
              rw [o4] at q2
              simp only at q2
              cases o5 : ixN r.length m with
              | none => rw [o5] at q2; exact q2.elim
              | some c =>
                rw [o5] at q2
                simp only at q2
                obtain ⟨i1, i2⟩ := rowI_some o3
                obtain ⟨u, u1, u2⟩ := ol.get i2
                have hk : atI xs k = some u := by
                  unfold atI
                  rw [← ol.length, i1]
                  exact u1
                refine ⟨_, xs, k, u, rfl, rfl, SqL.of h3, hk, hq.run r2 o4 ?_⟩
                cases u2 with
                | fz p => cases p
                | @ml _ p ys _ w2 h2 ol2 =>
                  refine ⟨_, ys, m, c, rfl, rfl, h2, by rw [← ol2.length]; exact o5, q2 W2 F2 _ σ (r2.write w2 s0 ?_) (Ex.refl F2)⟩
                  have hpa : a0 ≠ p := fun z => by
                    subst z
                    rw [w1] at w2
                    simp at w2
                  refine .ml w1 (by rw [upd_ne hpa]; exact h3) (OwL.row ol w2 u1 (.ml w2 upd_same ((ol2.upd w2 (Nat.le_refl _)).set (p1.mono x2) c)))
      | _ => exact q2.elim
    · rw [if_neg o] at q1
      exact q1.elim⟩
end
/-! ## a, b, c = x, y, z -/
def par3D (i k l : Nat) (da db dc : List D → R D) : List D → O := fun env => bindS (da env) fun x env1 => bindS (db env1) fun y env2 => bindS (dc env2) fun z env3 => .nx (((env3.set i x).set k y).set l z)
@[simp] theorem par3D_ap (i k l : Nat) (da db dc : List D → R D) (env : List D) : par3D i k l da db dc env = bindS (da env) fun x env1 => bindS (db env1) fun y env2 => bindS (dc env2) fun z env3 => .nx (((env3.set i x).set k y).set l z) := rfl
theorem s_par3 {X : Cx} {j : J} {a b c : Expr} {pos : Pos} {da db dc : List D → R D} (i k l : Nat) {x y z : Str} {px py pz pt : Pos} {kt k2 : Nat} {pt2 : Pos} (hc : X.calm = true) (hN : X.N.Nodup) (hp : j.e.P i = none) (hq : j.e.P k = none) (hr : j.e.P l = none) (ha : DE X j a da) (hb : DE X j b db) (hcc : DE X j c dc)
    (hi : X.N[i]? = some x := by rfl) (hj : X.N[k]? = some y := by rfl) (hl : X.N[l]? = some z := by rfl) (hij : i ≠ k := by decide) (hil : i ≠ l := by decide) (hjl : k ≠ l := by decide)
    (hx : X.env.scope.names.lookup x = some .local := by rfl) (hy : X.env.scope.names.lookup y = some .local := by rfl) (hz : X.env.scope.names.lookup z = some .local := by rfl)
    (hw : swappedStores [.Tuple [.Name x px, .Name y py, .Name z pz] kt pt] (.Tuple [a, b, c] k2 pt2) X.env = pure (some [x, y, z]) := by rfl)
    (hs : swapsWithSole [.Tuple [.Name x px, .Name y py, .Name z pz] kt pt] (.Tuple [a, b, c] k2 pt2) pos.line X.env = pure false := by rfl) (h1 : starEach (a :: [b, c]) X.env = (false, eval a X.env) :: starEach [b, c] X.env := by rfl) (h2 : starEach (b :: [c]) X.env = (false, eval b X.env) :: starEach [c] X.env := by rfl) (h3 : starEach (c :: []) X.env = (false, eval c X.env) :: starEach [] X.env := by rfl) :
    DS X j (.Assign [.Tuple [.Name x px, .Name y py, .Name z pz] kt pt] (.Tuple [a, b, c] k2 pt2) pos) (par3D i k l da db dc) :=
  PS.mono (ps_par3 hc hN hi hj hl hij hil hjl hx hy hz (pa_cons ha (pa_cons hb (pa_cons hcc pa_nil h3) h2) h1) hw hs) fun Dn σ H ⟨W, F, env, rel, q⟩ => ⟨W, F, env, rel, AtS.bind q fun d env1 W1 F1 H1 v _ r1 x1 p1 q1 => ⟨W1, F1, env1, r1, AtS.bind q1 fun d2 env2 W2 F2 H2 v2 _ r2 x2 p2 q2 => ⟨W2, F2, env2, r2, AtS.bind q2 fun d3 env3 W3 F3 H3 v3 _ r3 x3 p3 q3 =>
    ⟨v, v2, v3, rfl, q3 W3 F3 H3 _ (((r3.set ((p1.mono x2).mono x3) hp).set (p2.mono x3) hq).set p3 hr) (Ex.refl F3)⟩⟩⟩⟩
end DL
namespace DL
open PySem PySem.Spec PyProof.Rows L2 SX
/-! ## computing with DL32 .. DL34 -/
theorem lcoGo_A {α : Type} {g : D → List D → Option (List D)} {de : List D → R D} {vs : List Nat} {E0 : List D} (u : α → D) (E : α → List D) (f : α → List D) : ∀ (xs : List α) (acc : List (List D)), (∀ x ∈ xs, g (u x) E0 = some (E x) ∧ de (E x) = .ok (.ml (f x)) (E x) ∧ flatL (f x) = true ∧ wipeD (E x) vs = E0) →
    lcoGo g yesD de vs (xs.map u) acc E0 = .ok (acc ++ xs.map f) E0
  | [], acc, _ => by
    unfold lcoGo
    simp
  | x :: xs, acc, h => by
    obtain ⟨h1, h2, h3, h4⟩ := h x List.mem_cons_self
    have ht : ∀ y ∈ xs, _ := fun y hy => h y (List.mem_cons_of_mem _ hy)
    rw [List.map_cons]
    unfold lcoGo
    rw [h1]
    simp only [yesD_ap, bindB_ok, if_pos, h2, h3]
    rw [h4, lcoGo_A u E f xs _ ht]
    simp
theorem lcoD_mapA {α : Type} {xs : List α} {di : List D → R (List D)} {g : D → List D → Option (List D)} {de : List D → R D} {vs : List Nat} {env env1 : List D} (u : α → D) (E : α → List D) (f : α → List D) (hd : di env = .ok (xs.map u) env1) (hn : xs.length ≤ 1000000)
    (h : ∀ x ∈ xs, g (u x) (wipeD env1 vs) = some (E x) ∧ de (E x) = .ok (.ml (f x)) (E x) ∧ flatL (f x) = true ∧ wipeD (E x) vs = wipeD env1 vs) (hb : backD env1 (wipeD env1 vs) vs = env1) : lcoD di g yesD de vs env = .ok (.ml (xs.map fun x => .ml (f x))) env1 := by
  unfold lcoD
  rw [hd, bindR_ok, if_pos (by rw [List.length_map]; exact hn), lcoGo_A u E f xs [] h, bindB_ok, hb, List.nil_append, List.map_map]
  rfl
theorem flatL_map {α : Type} {f : α → D} (h : ∀ x, isOwn (f x) = false) (xs : List α) : flatL (xs.map f) = true := by
  unfold flatL
  rw [List.all_map]
  exact List.all_eq_true.mpr fun x _ => by simp [h x]
theorem mix_rt {l : List Dz} {db : List D → O} {env env1 : List D} {d : D} (h : db env = .rt d env1) : mixD l db env = .rt d env1 := by
  unfold mixD
  rw [h]
theorem mix_nx {l : List Dz} {db : List D → O} {env env1 : List D} (h : db env = .nx env1) : mixD l db env = .nx env1 := by
  unfold mixD
  rw [h]
theorem mix_ex {l : List Dz} {db : List D → O} {env env1 : List D} {c : Str} {fs : List D} (h : db env = .ex c fs env1) : mixD l db env = pickC l c fs env1 := by
  unfold mixD
  rw [h]
/-- the first clause that takes it -/
theorem pick_hit {z : Dz} {r : List Dz} {c : Str} {fs env1 : List D} {o : O} (h : z.mt c = some true) (ha : (z.as.all (fun i => !ownd (env1.getD i .unb)) && fitO z.nm env1) = true) (k : goneM z.nm (noEx (z.ds c fs (unbS z.nm env1))) = o) : pickC (z :: r) c fs env1 = o := by
  unfold pickC
  rw [h]
  simp only
  rw [if_pos ha, k]
theorem pick_on {z : Dz} {r : List Dz} {c : Str} {fs env1 : List D} (h : z.mt c = some false) : pickC (z :: r) c fs env1 = pickC r c fs env1 := by
  rw [pickC, h]
theorem qVar_int {k : Nat} {env : List D} {m : Int} (h : env.getD k .unb = .int m) : qVar k env = some m := by
  unfold qVar
  rw [h]
theorem rowI_nat {α : Type} {f : α → List D} {xs : List α} {n : Nat} (h : n < xs.length) (z : α) : rowI (xs.map fun x => .ml (f x)) n = some (n, f (xs.getD n z)) := by
  have e : ixN (xs.map fun x => D.ml (f x)).length (n : Int) = some n := by
    rw [List.length_map]
    exact DL.ixN_nat h
  unfold rowI
  rw [e]
  simp only
  rw [List.getElem?_map, List.getElem?_eq_getElem h, List.getD_eq_getElem?_getD, List.getElem?_eq_getElem h]
  rfl
end DL
namespace FR
/-! fractions in least terms -/
def fg (a b : Int) : Int := if b < 0 then -(Nat.gcd a.natAbs b.natAbs : Int) else (Nat.gcd a.natAbs b.natAbs : Int)
def fn (a b : Int) : Int := a.fdiv (fg a b)
def fd (a b : Int) : Int := b.fdiv (fg a b)
theorem fg_abs (a b : Int) : (fg a b).natAbs = Nat.gcd a.natAbs b.natAbs := by
  unfold fg
  split <;> omega
theorem fg_ne {a b : Int} (h : b ≠ 0) : fg a b ≠ 0 := by
  intro e
  have h1 := fg_abs a b
  rw [e] at h1
  have : 0 < Nat.gcd a.natAbs b.natAbs := Nat.gcd_pos_of_pos_right _ (by omega)
  omega
theorem fg_dvd_l (a b : Int) : fg a b ∣ a := by
  rw [← Int.natAbs_dvd_natAbs, fg_abs]
  exact Nat.gcd_dvd_left _ _
theorem fg_dvd_r (a b : Int) : fg a b ∣ b := by
  rw [← Int.natAbs_dvd_natAbs, fg_abs]
  exact Nat.gcd_dvd_right _ _
theorem fn_mul (a b : Int) : fn a b * fg a b = a := by
  unfold fn
  rw [Int.fdiv_eq_ediv_of_dvd (fg_dvd_l a b), Int.ediv_mul_cancel (fg_dvd_l a b)]
theorem fd_mul (a b : Int) : fd a b * fg a b = b := by
  unfold fd
  rw [Int.fdiv_eq_ediv_of_dvd (fg_dvd_r a b), Int.ediv_mul_cancel (fg_dvd_r a b)]
theorem fd_pos {a b : Int} (h : b ≠ 0) : 0 < fd a b := by
  have h1 := fd_mul a b
  have h2 := fg_ne (a := a) h
  have h3 := fg_abs a b
  rcases Int.lt_trichotomy (fd a b) 0 with q | q | q
  · exfalso
    by_cases hb : b < 0
    · have : fg a b < 0 := by unfold fg at h2 ⊢; rw [if_pos hb] at h2 ⊢; omega
      have := Int.mul_pos_of_neg_of_neg q this
      omega
    · have : 0 < fg a b := by unfold fg at h2 ⊢; rw [if_neg hb] at h2 ⊢; omega
      have := Int.mul_neg_of_neg_of_pos q this
      omega
  · rw [q] at h1
    omega
  · exact q
theorem fr_cop {a b : Int} (h : b ≠ 0) : Nat.Coprime (fn a b).natAbs (fd a b).natAbs := by
  unfold fn fd
  rw [Int.fdiv_eq_ediv_of_dvd (fg_dvd_l a b), Int.fdiv_eq_ediv_of_dvd (fg_dvd_r a b), Int.natAbs_ediv_of_dvd (fg_dvd_l a b), Int.natAbs_ediv_of_dvd (fg_dvd_r a b), fg_abs]
  exact Nat.coprime_div_gcd_div_gcd (Nat.gcd_pos_of_pos_right _ (by omega))
theorem red_uniq {p q p' q' : Int} (h : 0 < q) (h' : 0 < q') (c : Nat.Coprime p.natAbs q.natAbs) (c' : Nat.Coprime p'.natAbs q'.natAbs) (e : p * q' = p' * q) : p = p' ∧ q = q' := by
  have e1 : p.natAbs * q'.natAbs = p'.natAbs * q.natAbs := by rw [← Int.natAbs_mul, ← Int.natAbs_mul, e]
  have d1 : q.natAbs ∣ q'.natAbs := Nat.Coprime.dvd_of_dvd_mul_left c.symm ⟨p'.natAbs, by rw [e1, Nat.mul_comm]⟩
  have d2 : q'.natAbs ∣ q.natAbs := Nat.Coprime.dvd_of_dvd_mul_left c'.symm ⟨p.natAbs, by rw [← e1, Nat.mul_comm]⟩
  have e2 := Nat.dvd_antisymm d1 d2
  have e3 : q = q' := by omega
  subst e3
  exact ⟨Int.eq_of_mul_eq_mul_right (by omega) e, rfl⟩
theorem fr_eq {a b c d : Int} (hb : b ≠ 0) (hd : d ≠ 0) (e : a * d = c * b) : fn a b = fn c d ∧ fd a b = fd c d := by
  refine red_uniq (fd_pos hb) (fd_pos hd) (fr_cop hb) (fr_cop hd) ?_
  have h1 := fn_mul a b
  have h2 := fd_mul a b
  have h3 := fn_mul c d
  have h4 := fd_mul c d
  have n1 := fg_ne (a := a) hb
  have n2 := fg_ne (a := c) hd
  refine Int.eq_of_mul_eq_mul_right (a := fg a b * fg c d) (fun z => (Int.mul_eq_zero.mp z).elim n1 n2) ?_
  have e1 : fn a b * fd c d * (fg a b * fg c d) = a * d := by rw [← h1, ← h4] <;> grind
  have e2 : fn c d * fd a b * (fg a b * fg c d) = c * b := by grind
  rw [e1, e2, e]
theorem fr_cross (a b : Int) : fn a b * b = a * fd a b := by
  have h1 := fn_mul a b
  have h2 := fd_mul a b
  grind
theorem fn_sign {a b : Int} (h : b ≠ 0) : (0 < fn a b ↔ 0 < a * b) ∧ (fn a b < 0 ↔ a * b < 0) := by
  have h1 := fn_mul a b
  have h2 := fd_mul a b
  have h3 := fd_pos (a := a) h
  have h4 := fg_ne (a := a) h
  have e : a * b = fn a b * (fd a b * (fg a b * fg a b)) := by grind
  have hp : 0 < fg a b * fg a b := by
    rcases Int.lt_trichotomy (fg a b) 0 with q | q | q
    · exact Int.mul_pos_of_neg_of_neg q q
    · exact absurd q h4
    · exact Int.mul_pos q q
  have hq : 0 < fd a b * (fg a b * fg a b) := Int.mul_pos h3 hp
  rw [e]
  generalize fd a b * (fg a b * fg a b) = t at hq
  generalize fn a b = u
  constructor
  · exact ⟨fun z => Int.mul_pos z hq, fun z => Int.pos_of_mul_pos_left z hq⟩
  · constructor
    · intro z
      exact Int.mul_neg_of_neg_of_pos z hq
    · intro z
      rcases Int.lt_trichotomy u 0 with q | q | q
      · exact q
      · rw [q] at z; omega
      · have := Int.mul_pos q hq
        omega
theorem fn_abs_le (a b : Int) : (fn a b).natAbs ≤ a.natAbs := by
  unfold fn
  rw [Int.fdiv_eq_ediv_of_dvd (fg_dvd_l a b), Int.natAbs_ediv_of_dvd (fg_dvd_l a b)]
  exact Nat.div_le_self _ _
theorem fd_abs_le (a b : Int) : (fd a b).natAbs ≤ b.natAbs := by
  unfold fd
  rw [Int.fdiv_eq_ediv_of_dvd (fg_dvd_r a b), Int.natAbs_ediv_of_dvd (fg_dvd_r a b)]
  exact Nat.div_le_self _ _
theorem fn_zero (b : Int) : fn 0 b = 0 := by
  unfold fn
  exact Int.zero_fdiv _
end FR
namespace MX
open PySem DL FR
/-! mixes, sums of products, the greatest, plainly -/
def gd {α : Type} (l : List α) (k : Nat) (d : α) : α := l.getD k d
theorem gd_get {α : Type} {l : List α} {k : Nat} (h : k < l.length) (d : α) : gd l k d = l[k] := by
  unfold gd
  rw [List.getD_eq_getElem?_getD, List.getElem?_eq_getElem h]
  rfl
theorem gd_mem {α : Type} {l : List α} {k : Nat} (h : k < l.length) (d : α) : gd l k d ∈ l := by
  rw [gd_get h]
  exact List.getElem_mem h
def dot : List Int → List Int → Int
  | a :: r, b :: t => a * b + dot r t
  | _, _ => 0
abbrev scl (g : Int) (xs : List Int) : List Int := xs.map fun x => g * x
theorem dot_scl (g : Int) : ∀ r xs : List Int, dot r (scl g xs) = g * dot r xs
  | [], xs => by simp [dot]
  | a :: r, [] => by simp [dot]
  | a :: r, b :: t => by
    have := dot_scl g r t
    simp only [scl, List.map_cons, dot] at this ⊢
    rw [this]
    grind
theorem scl_dot (g : Int) : ∀ r xs : List Int, dot (scl g r) xs = g * dot r xs
  | [], xs => by simp [dot]
  | a :: r, [] => by simp [dot]
  | a :: r, b :: t => by
    have := scl_dot g r t
    simp only [scl, List.map_cons, dot] at this ⊢
    rw [this]
    grind
theorem sum_scl (g : Int) : ∀ xs : List Int, (scl g xs).sum = g * xs.sum
  | [] => by simp
  | a :: r => by
    have := sum_scl g r
    simp only [scl, List.map_cons, List.sum_cons] at this ⊢
    rw [this]
    grind
def gcdL : List Int → Nat → Nat
  | [], g => g
  | x :: r, g => gcdL r (Nat.gcd g x.natAbs)
abbrev gc (xs : List Int) : Nat := gcdL xs 0
theorem gcdL_dvd : ∀ (xs : List Int) (g : Nat), gcdL xs g ∣ g ∧ ∀ x ∈ xs, (gcdL xs g : Int) ∣ x
  | [], g => ⟨Nat.dvd_refl _, fun _ h => by cases h⟩
  | x :: r, g => by
    obtain ⟨h1, h2⟩ := gcdL_dvd r (Nat.gcd g x.natAbs)
    refine ⟨Nat.dvd_trans h1 (Nat.gcd_dvd_left _ _), fun y hy => ?_⟩
    rcases List.mem_cons.mp hy with rfl | hy
    · rw [← Int.natAbs_dvd_natAbs]
      exact Nat.dvd_trans h1 (Nat.gcd_dvd_right _ _)
    · exact h2 y hy
theorem gcdL_max {d : Nat} : ∀ (xs : List Int) (g : Nat), d ∣ g → (∀ x ∈ xs, (d : Int) ∣ x) → d ∣ gcdL xs g
  | [], g, h, _ => h
  | x :: r, g, h, k => gcdL_max r _ (Nat.dvd_gcd h (by
      have := k x (by simp)
      rw [← Int.natAbs_dvd_natAbs] at this
      simpa using this)) fun y hy => k y (List.mem_cons_of_mem _ hy)
def red (xs : List Int) : List Int := xs.map fun x => x.fdiv (gc xs)
theorem red_len (xs : List Int) : (red xs).length = xs.length := by simp [red]
theorem scl_red (xs : List Int) : scl (gc xs) (red xs) = xs := by
  unfold red scl
  rw [List.map_map]
  conv => rhs; rw [← List.map_id xs]
  refine List.map_congr_left fun x hx => ?_
  have h := (gcdL_dvd xs 0).2 x hx
  show (gc xs : Int) * x.fdiv (gc xs) = x
  rw [Int.fdiv_eq_ediv_of_dvd h, Int.mul_ediv_cancel' h]
theorem red_sum (xs : List Int) : xs.sum = gc xs * (red xs).sum := by
  have := sum_scl (gc xs) (red xs)
  rw [scl_red] at this
  exact this
structure Mix (xs : List Int) : Prop where
  ne : 0 < xs.length
  nn : ∀ x ∈ xs, 0 ≤ x
  ps : ∃ x ∈ xs, 0 < x
theorem sum_nn : ∀ {xs : List Int}, (∀ x ∈ xs, 0 ≤ x) → 0 ≤ xs.sum
  | [], _ => by simp
  | a :: r, h => by
    have h1 := h a (by simp)
    have h2 := sum_nn (xs := r) fun x hx => h x (List.mem_cons_of_mem _ hx)
    simp only [List.sum_cons]
    omega
theorem sum_ge : ∀ {xs : List Int}, (∀ x ∈ xs, 0 ≤ x) → ∀ x ∈ xs, x ≤ xs.sum
  | [], _, x, hx => by cases hx
  | a :: r, h, x, hx => by
    have h1 := h a (by simp)
    have h0 := sum_nn (xs := r) fun x hx => h x (List.mem_cons_of_mem _ hx)
    simp only [List.sum_cons]
    rcases List.mem_cons.mp hx with rfl | hx
    · omega
    · have := sum_ge (xs := r) (fun x hx => h x (List.mem_cons_of_mem _ hx)) x hx
      omega
theorem Mix.sum_pos {xs : List Int} (h : Mix xs) : 0 < xs.sum := by
  obtain ⟨x, hx, h0⟩ := h.ps
  have := sum_ge h.nn x hx
  omega
theorem Mix.gpos {xs : List Int} (h : Mix xs) : 0 < gc xs := by
  obtain ⟨x, hx, h0⟩ := h.ps
  have := (gcdL_dvd xs 0).2 x hx
  rcases Nat.eq_zero_or_pos (gc xs) with e | e
  · rw [show gcdL xs 0 = 0 from e] at this
    have := Int.zero_dvd.mp this
    omega
  · exact e
theorem gc_le {xs : List Int} {x : Int} (hx : x ∈ xs) (h : 0 < x) : (gc xs : Int) ≤ x := Int.le_of_dvd h ((gcdL_dvd xs 0).2 x hx)
theorem Mix.red {xs : List Int} (h : Mix xs) : Mix (red xs) := by
  have hg := h.gpos
  refine ⟨by rw [red_len]; exact h.ne, fun x hx => ?_, ?_⟩
  · obtain ⟨y, hy, rfl⟩ := List.mem_map.mp hx
    exact Int.fdiv_nonneg (h.nn y hy) (by omega)
  · obtain ⟨y, hy, h0⟩ := h.ps
    refine ⟨_, List.mem_map_of_mem hy, ?_⟩
    have hd := (gcdL_dvd xs 0).2 y hy
    rw [Int.fdiv_eq_ediv_of_dvd hd]
    exact Int.ediv_pos_of_pos_of_dvd h0 (by omega) hd
theorem Mix.max_pos {xs : List Int} (h : Mix xs) : 0 < maxI xs := by
  obtain ⟨x, hx, h0⟩ := h.ps
  have := (maxI_spec h.ne).2 x hx
  omega
theorem Mix.min_nn {xs : List Int} (h : Mix xs) : 0 ≤ minI xs := h.nn _ (minI_spec h.ne).1
theorem maxI_scl {g : Int} (hg : 0 < g) {xs : List Int} (hn : 0 < xs.length) : maxI (scl g xs) = g * maxI xs := by
  obtain ⟨h1, h2⟩ := maxI_spec hn
  refine (maxI_uniq (List.mem_map_of_mem h1) fun y hy => ?_).symm
  obtain ⟨z, hz, rfl⟩ := List.mem_map.mp hy
  exact Int.mul_le_mul_of_nonneg_left (h2 z hz) (by omega)
def bestI (xs : List Int) : List Nat := (List.range xs.length).filter fun k => decide (gd xs k 0 = maxI xs)
theorem getD_map {α β : Type} (f : α → β) {l : List α} {k : Nat} (h : k < l.length) (d : β) (d' : α) : gd (l.map f) k d = f (gd l k d') := by
  unfold gd
  rw [List.getD_eq_getElem?_getD, List.getElem?_map, List.getD_eq_getElem?_getD, List.getElem?_eq_getElem h]
  rfl
theorem bestI_scl {g : Int} (hg : 0 < g) {xs : List Int} : bestI (scl g xs) = bestI xs := by
  unfold bestI
  rw [List.length_map]
  refine List.filter_congr fun k hk => ?_
  have hk := List.mem_range.mp hk
  rw [getD_map _ hk 0 0, maxI_scl hg (by omega)]
  refine decide_eq_decide.mpr ⟨fun e => Int.eq_of_mul_eq_mul_left (by omega) e, fun e => by rw [e]⟩
theorem range_map {α β : Type} (f : α → β) (d : α) : ∀ l : List α, l.map f = (List.range l.length).map fun k => f (gd l k d)
  | [] => rfl
  | a :: l => by
    rw [List.length_cons, List.range_succ_eq_map, List.map_cons, List.map_cons, List.map_map, range_map f d l]
    rfl
theorem dot_zip : ∀ r xs : List Int, ((List.zip r xs).map fun p => p.1 * p.2).sum = dot r xs
  | [], xs => by simp [dot]
  | a :: r, [] => by simp [dot]
  | a :: r, b :: t => by
    have := dot_zip r t
    simp only [List.zip_cons_cons, List.map_cons, List.sum_cons, dot]
    rw [this]
theorem dot_comm : ∀ r xs : List Int, dot r xs = dot xs r
  | [], [] => rfl
  | [], b :: t => by simp [dot]
  | a :: r, [] => by simp [dot]
  | a :: r, b :: t => by
    simp only [dot]
    rw [dot_comm r t, Int.mul_comm]
theorem dot_range (f : Nat → Int) : ∀ (xs : List Int), dot ((List.range xs.length).map f) xs = ((List.range xs.length).map fun k => f k * gd xs k 0).sum := by
  intro xs
  induction xs generalizing f with
  | nil => rfl
  | cons a l ih =>
    rw [List.length_cons, List.range_succ_eq_map, List.map_cons, List.map_map, List.map_cons, List.map_map, List.sum_cons]
    show f 0 * a + dot ((List.range l.length).map (f ∘ Nat.succ)) l = _
    rw [ih]
    rfl
/-- bounds -/
theorem Sm.sum {n : Nat} {xs : List Int} (h : ∀ x ∈ xs, Sm n x) (hl : xs.length ≤ 16) : Sm (n + 4) xs.sum := by
  have key : ∀ (xs : List Int), (∀ x ∈ xs, Sm n x) → xs.sum.natAbs ≤ xs.length * (2 ^ n - 1) := by
    intro xs
    induction xs with
    | nil => intro _; simp
    | cons a l ih =>
      intro h
      have h1 := h a (by simp)
      have h2 := ih fun x hx => h x (List.mem_cons_of_mem _ hx)
      unfold Sm at h1
      have h3 := Int.natAbs_add_le a l.sum
      simp only [List.sum_cons, List.length_cons, Nat.succ_mul]
      omega
  have h1 := key xs h
  have h2 : xs.length * (2 ^ n - 1) ≤ 16 * (2 ^ n - 1) := Nat.mul_le_mul_right _ hl
  have h3 : 0 < 2 ^ n := Nat.pow_pos (by decide)
  unfold Sm
  rw [Nat.pow_add]
  omega
theorem dot_sm {n m : Nat} : ∀ {r xs : List Int}, (∀ x ∈ r, Sm n x) → (∀ x ∈ xs, Sm m x) → r.length ≤ 16 → Sm (n + m + 4) (dot r xs) := by
  intro r xs h1 h2 hl
  rw [← dot_zip]
  refine Sm.sum (fun x hx => ?_) (by simp; omega)
  obtain ⟨p, hp, rfl⟩ := List.mem_map.mp hx
  obtain ⟨q1, q2⟩ := List.of_mem_zip hp
  exact (h1 _ q1).mul (h2 _ q2)
theorem red_sm {n : Nat} {xs : List Int} (h : Mix xs) (hs : ∀ x ∈ xs, Sm n x) : ∀ x ∈ red xs, Sm n x := fun x hx => by
  obtain ⟨y, hy, rfl⟩ := List.mem_map.mp hx
  refine (hs y hy).le ?_
  have hd := (gcdL_dvd xs 0).2 y hy
  rw [Int.fdiv_eq_ediv_of_dvd hd, Int.natAbs_ediv_of_dvd hd]
  exact Nat.div_le_self _ _
theorem max_two_of {a b : Int} : True := trivial
end MX
namespace DL
open PySem MX L2
/-! ## walks over lists, by places -/
theorem enumL_eq : ∀ (l : List D) (k : Nat), enumL k l = (List.range l.length).map fun i => D.tup [.int ((k + i : Nat) : Int), l.getD i .unb]
  | [], k => rfl
  | d :: r, k => by
    rw [List.length_cons, List.range_succ_eq_map, List.map_cons, List.map_map]
    show D.tup [.int k, d] :: enumL (k + 1) r = _
    rw [enumL_eq r (k + 1)]
    congr 1
    refine List.map_congr_left fun i _ => ?_
    show D.tup [.int ((k + 1 + i : Nat) : Int), r.getD i .unb] = D.tup [.int ((k + (i + 1) : Nat) : Int), r.getD i .unb]
    rw [show k + 1 + i = k + (i + 1) by omega]
theorem enumL_map {α : Type} (u : α → D) (d : α) (xs : List α) : enumL 0 (xs.map u) = (List.range xs.length).map fun i => D.tup [.int (i : Nat), u (gd xs i d)] := by
  rw [enumL_eq, List.length_map]
  refine List.map_congr_left fun i hi => ?_
  rw [show (xs.map u).getD i D.unb = gd (xs.map u) i .unb from rfl, getD_map u (List.mem_range.mp hi) .unb d, Nat.zero_add]
theorem zipL_map {α β : Type} (u : α → D) (v : β → D) : ∀ (xs : List α) (ys : List β), zipL (xs.map u) (ys.map v) = (List.zip xs ys).map fun p => D.tup [u p.1, v p.2]
  | [], ys => by simp [zipL]
  | a :: xs, [] => by simp [zipL]
  | a :: xs, b :: ys => by
    simp only [List.map_cons, List.zip_cons_cons]
    show _ :: zipL (xs.map u) (ys.map v) = _
    rw [zipL_map u v xs ys]
theorem atI_map {α : Type} (u : α → D) {xs : List α} {i : Nat} (h : i < xs.length) (d : α) : atI (xs.map u) (i : Int) = some (u (gd xs i d)) := by
  unfold gd
  rw [atI_nat _ _ (by rw [List.length_map]; exact h), List.getElem?_map, List.getD_eq_getElem?_getD, List.getElem?_eq_getElem h]
  rfl
theorem memD_map {α : Type} (u : α → D) (x : D) (xs : List α) : memD x (xs.map u) = xs.any fun y => (u y).eqb x := by
  unfold memD
  rw [List.any_map]
  rfl
theorem range1 (n : Nat) : rangeL 0 n = (List.range n).map fun (i : Nat) => D.int i := by
  rw [rangeL_eq]
  refine List.map_congr_left fun i _ => ?_
  rw [Int.zero_add]
/-- a loop that adds to a list -/
theorem forGo_app {α : Type} {g : D → List D → Option (List D)} {db : List D → O} (u : α → D) (f : α → D) (E : List D → D → List D) : ∀ (xs : List α) (acc : List D) (z : D), (∀ x ∈ xs, ∀ (acc : List D) (z : D), ∃ E1, g (u x) (E acc z) = some E1 ∧ (acc.length ≤ 1000000 → db E1 = .nx (E (acc ++ [f x]) (u x)))) → acc.length + xs.length ≤ 1000000 → ∃ z', forGo g db (xs.map u) (E acc z) = .nx (E (acc ++ xs.map f) z')
  | [], acc, z, _, _ => ⟨z, by simp [forGo]⟩
  | x :: xs, acc, z, h, hl => by
    obtain ⟨E1, h1, h2⟩ := h x (by simp) acc z
    obtain ⟨z', h3⟩ := forGo_app u f E xs (acc ++ [f x]) (u x) (fun y hy => h y (List.mem_cons_of_mem _ hy)) (by simp at hl ⊢; omega)
    refine ⟨z', ?_⟩
    rw [List.map_cons, forGo_nx h1 (h2 (by simp at hl; omega)), h3]
    simp
/-! calls of methods, makings, fields, computed -/
section
variable (env : List D) (i k n : Nat) (c : Str) (d : D)
@[simp] theorem methO_ap (io : List Nat) (g : List D → FR) (do_ : List D → R D) (da : List D → R (List Ar)) : methO c n io g do_ da env = bindR (do_ env) fun x env1 => if selfD c x = true then callO n io g (fun env => bindR (da env) fun as env2 => .ok (.v x :: as) env2) env1 else .bad := rfl
@[simp] theorem selfD_ins (l : List D) : selfD c (.ins c l) = true := by simp [selfD]
@[simp] theorem fldD_ins (l : List D) : fldD c k (.ins c l) = l[k]? := by simp [fldD]
@[simp] theorem isOwn_ins (l : List D) : isOwn (.ins c l) = false := rfl
@[simp] theorem isOwn_mi (l : List D) : isOwn (.mi c l) = true := rfl
@[simp] theorem isOwn_md (ks : List Key) (l : List D) : isOwn (.md ks l) = true := rfl
@[simp] theorem ownd_mi (l : List D) : ownd (.mi c l) = true := rfl
@[simp] theorem ownd_ins (l : List D) : ownd (.ins c l) = false := rfl
@[simp] theorem ownd_str (x : Str) : ownd (.str x) = false := rfl
@[simp] theorem ownd_non : ownd .non = false := rfl
@[simp] theorem frz_ins (l : List D) : frz (.ins c l) = .ins c l := by rw [frz]
@[simp] theorem frz_mi (l : List D) : frz (.mi c l) = .ins c (frzL l) := by rw [frz]
@[simp] theorem dictAt_ap : dictAt env i = match env.getD i .unb with
  | .md ks l => some (ks, l)
  | _ => none := by unfold dictAt; cases env.getD i .unb <;> rfl
@[simp] theorem makeO_ap (G : List D → FR) (dl : List D → R (List D)) : makeO c n G dl env = bindR (dl env) fun ds env1 => if ds.length + 1 = n then match G (.mi c [] :: ds) with
  | .ret .non [d] => if ownd d = true then .ok d env1 else .bad
  | .exc x fs _ => .ex x fs env1
  | _ => .bad
else .bad := rfl
@[simp] theorem setfD_ap (da : List D → R D) : setfD c k i da env = bindS (da env) fun d env1 => match env1.getD i .unb with
  | .mi c' l => if c' = c then (if k < l.length then .nx (env1.set i (.mi c (l.set k d))) else if k = l.length then .nx (env1.set i (.mi c (l ++ [d]))) else .bad) else .bad
  | _ => .bad := rfl
@[simp] theorem fldO_ap : fldO c k i env = match env.getD i .unb with
  | .mi c' l => if c' = c then (match l[k]? with
    | some d => if isOwn d = true then .bad else .ok d env
    | none => .bad) else .bad
  | _ => .bad := by unfold fldO; rfl
end
theorem lt_line {n : Nat} (h : n ≤ 1000000) : n < sizeLine := Nat.lt_of_le_of_lt h (by decide)
theorem range1_int {da : List D → R D} {env env1 : List D} {j : Int} (h : da env = .ok (.int j) env1) (h1 : -(2^62) ≤ j) (h2 : j < 2^62) : range1D da env = .ok (rangeL 0 j.toNat) env1 := by
  unfold range1D
  rw [h, bindR_ok]
  exact if_pos ⟨h1, h2⟩
theorem range_hi {j : Int} (hn : j ≤ 1000000) : j < 2 ^ 62 := by
  have : j < 4611686018427387904 := by omega
  have h62 : (2 : Int) ^ 62 = 4611686018427387904 := by decide
  rw [h62]
  exact this
theorem range_lo {j : Int} (hn : 0 ≤ j) : -(2 ^ 62) ≤ j := by
  have : -4611686018427387904 ≤ j := by omega
  have h62 : (2 : Int) ^ 62 = 4611686018427387904 := by decide
  rw [h62]
  exact this
theorem range1_nat {da : List D → R D} {env env1 : List D} {n : Nat} (h : da env = .ok (.int n) env1) (hn : n ≤ 1000000) : range1D da env = .ok (rangeL 0 n) env1 := range1_int h (range_lo (by omega)) (range_hi (by omega))
theorem range1_pos {da : List D → R D} {env env1 : List D} {j : Int} (h : da env = .ok (.int j) env1) (h0 : 0 ≤ j) (hn : j ≤ 1000000) : range1D da env = .ok (rangeL 0 j.toNat) env1 := range1_int h (range_lo h0) (range_hi hn)
theorem forD_eq {di : List D → R (List D)} {gg : D → List D → Option (List D)} {sb : List D → O} {env env1 ds : List D} (h : di env = .ok ds env1) : forD di gg sb env = forGo gg sb ds env1 := by
  unfold forD
  rw [h]
  rfl
theorem seq_nx {a b : List D → O} {env env1 : List D} (h : a env = .nx env1) : seqD a b env = b env1 := by
  unfold seqD
  rw [h]
theorem seqN {a b : List D → O} {env : List D} {o : O} (env1 : List D) (h1 : a env = .nx env1) (h2 : b env1 = o) : seqD a b env = o := (seq_nx h1).trans h2
theorem seqR {a b : List D → O} {env env1 : List D} {d : D} (h : a env = .rt d env1) : seqD a b env = .rt d env1 := by
  unfold seqD
  rw [h]
theorem seqE {a b : List D → O} {env env1 : List D} {c : Str} {fs : List D} (h : a env = .ex c fs env1) : seqD a b env = .ex c fs env1 := by
  unfold seqD
  rw [h]
theorem forN {di : List D → R (List D)} {gg : D → List D → Option (List D)} {sb : List D → O} {env env1 ds : List D} {o : O} (h : di env = .ok ds env1) (k : forGo gg sb ds env1 = o) : forD di gg sb env = o := (forD_eq h).trans k
theorem runR {N : Nat} {io : List Nat} {sa : List D → O} {ds env : List D} {d : D} (h : sa (ds ++ List.replicate (N - ds.length) .unb) = .rt d env) : runD N io sa ds = .ret d (outsD io env) := by
  rw [runD_ap, h]
theorem runN {N : Nat} {io : List Nat} {sa : List D → O} {ds env : List D} (h : sa (ds ++ List.replicate (N - ds.length) .unb) = .nx env) : runD N io sa ds = .ret .non (outsD io env) := by
  rw [runD_ap, h]
theorem runE {N : Nat} {io : List Nat} {sa : List D → O} {ds env : List D} {c : Str} {fs : List D} (h : sa (ds ++ List.replicate (N - ds.length) .unb) = .ex c fs env) : runD N io sa ds = .exc c fs (outsD io env) := by
  rw [runD_ap, h]
theorem ifT {dt : List D → R Bool} {sa sb : List D → O} {env env1 : List D} {o : O} (h : dt env = .ok true env1) (k : sa env1 = o) : ifS dt sa sb env = o := by
  unfold ifS
  rw [h]
  exact k
theorem ifF {dt : List D → R Bool} {sa sb : List D → O} {env env1 : List D} {o : O} (h : dt env = .ok false env1) (k : sb env1 = o) : ifS dt sa sb env = o := by
  unfold ifS
  rw [h]
  exact k
theorem asgN {i : Nat} {da : List D → R D} {env env1 : List D} {d : D} (h : da env = .ok d env1) : asgD i da env = .nx (env1.set i d) := by
  unfold asgD
  rw [h]
  rfl
theorem retR {da : List D → R D} {env env1 : List D} {d : D} (h : da env = .ok d env1) : retD da env = .rt d env1 := by
  unfold retD
  rw [h]
  rfl
theorem zip_eq {da db : List D → R D} {env env1 env2 l m : List D} {d e : D} (h1 : da env = .ok d env1) (h2 : db env1 = .ok e env2) (s1 : srcOf d = some l) (s2 : srcOf e = some m) : zipD da db env = .ok (zipL l m) env2 := by
  unfold zipD
  rw [h1, bindR_ok, h2, bindR_ok, s1, s2]
theorem frz_ok {da : List D → R D} {env env1 : List D} {d e : D} (h : da env = .ok d env1) (f : frz d = e) : frzD da env = .ok e env1 := by
  unfold frzD
  rw [h, bindR_ok, f]
theorem gd_zip {α β : Type} {a : List α} {b : List β} {j : Nat} (ha : j < a.length) (hb : j < b.length) (x : α) (y : β) : gd (List.zip a b) j (x, y) = (gd a j x, gd b j y) := by
  rw [gd_get (by rw [List.length_zip]; omega), gd_get ha, gd_get hb, List.getElem_zip]
end DL
namespace QR
open PySem DL FR MX L2
/-! shares as rational numbers -/
theorem div_num (a : Int) {b : Int} (h : b ≠ 0) : (Rat.divInt a b).num = fn a b ∧ ((Rat.divInt a b).den : Int) = fd a b := by
  have hd : ((Rat.divInt a b).den : Int) ≠ 0 := by have := (Rat.divInt a b).den_nz; omega
  have e := (Rat.divInt_eq_divInt_iff hd h).mp (Rat.num_divInt_den (Rat.divInt a b))
  refine red_uniq (by have := Rat.den_pos (Rat.divInt a b); omega) (fd_pos h) ?_ (fr_cop h) ?_
  · have := (Rat.divInt a b).reduced
    rwa [Int.natAbs_natCast]
  · have h1 := fn_mul a b
    have h2 := fd_mul a b
    have h3 := fg_ne (a := a) h
    refine Int.eq_of_mul_eq_mul_right h3 ?_
    generalize (Rat.divInt a b).num = p at e
    generalize ((Rat.divInt a b).den : Int) = q at e
    grind
abbrev ratD (x : Rat) : D := .tup [.int x.num, .int x.den]
theorem fr_rat (a : Int) {b : Int} (h : b ≠ 0) : (D.tup [.int (fn a b), .int (fd a b)]) = ratD (Rat.divInt a b) := by
  obtain ⟨h1, h2⟩ := div_num a h
  unfold ratD
  rw [h1, h2]
/-- n bits above and below -/
def SmQ (n : Nat) (x : Rat) : Prop := Sm n x.num ∧ Sm n x.den
theorem SmQ.mono {n m : Nat} {x : Rat} (h : SmQ n x) (l : n ≤ m) : SmQ m x := ⟨h.1.mono l, h.2.mono l⟩
theorem smq_div {n : Nat} {a b : Int} (h : b ≠ 0) (ha : Sm n a) (hb : Sm n b) : SmQ n (Rat.divInt a b) := by
  obtain ⟨h1, h2⟩ := div_num a h
  unfold SmQ
  rw [h1, h2]
  exact ⟨ha.le (fn_abs_le a b), hb.le (fd_abs_le a b)⟩
theorem den_ne (x : Rat) : (x.den : Int) ≠ 0 := by have := x.den_nz; omega
theorem add_div (x y : Rat) : x + y = Rat.divInt (x.num * y.den + y.num * x.den) (x.den * y.den) := by
  conv => lhs; rw [← Rat.num_divInt_den x, ← Rat.num_divInt_den y, Rat.divInt_add_divInt _ _ (den_ne x) (den_ne y)]
theorem sub_div (x y : Rat) : x - y = Rat.divInt (x.num * y.den - y.num * x.den) (x.den * y.den) := by
  have h := add_div x (-y)
  rw [Rat.neg_num, Rat.neg_den] at h
  rw [Rat.sub_eq_add_neg, h]
  congr 1
  grind
theorem mul_div (x y : Rat) : x * y = Rat.divInt (x.num * y.num) (x.den * y.den) := by
  conv => lhs; rw [← Rat.num_divInt_den x, ← Rat.num_divInt_den y, Rat.divInt_mul_divInt]
theorem den_mul_ne (x y : Rat) : ((x.den : Int) * (y.den : Int)) ≠ 0 := fun z => (Int.mul_eq_zero.mp z).elim (den_ne x) (den_ne y)
theorem SmQ.add {n : Nat} {x y : Rat} (h : SmQ n x) (k : SmQ n y) : SmQ (n + n + 1) (x + y) := by
  rw [add_div]
  exact smq_div (den_mul_ne x y) ((h.1.mul k.2).add (k.1.mul h.2)) ((h.2.mul k.2).mono (by omega))
theorem SmQ.sub {n : Nat} {x y : Rat} (h : SmQ n x) (k : SmQ n y) : SmQ (n + n + 1) (x - y) := by
  rw [sub_div]
  exact smq_div (den_mul_ne x y) ((h.1.mul k.2).sub (k.1.mul h.2)) ((h.2.mul k.2).mono (by omega))
theorem SmQ.mul {n : Nat} {x y : Rat} (h : SmQ n x) (k : SmQ n y) : SmQ (n + n) (x * y) := by
  rw [mul_div]
  exact smq_div (den_mul_ne x y) (h.1.mul k.1) (h.2.mul k.2)
theorem SmQ.int {n : Nat} {a : Int} (h : Sm n a) (h0 : 1 ≤ n) : SmQ n (a : Rat) := by
  refine ⟨by rw [Rat.num_intCast]; exact h, ?_⟩
  rw [Rat.den_intCast]
  unfold Sm
  show 1 < 2 ^ n
  exact Nat.one_lt_two_pow (by omega)
theorem rat_int (a : Int) : ratD (a : Rat) = .tup [.int a, .int 1] := by
  unfold ratD
  rw [Rat.num_intCast, Rat.den_intCast]
  rfl
theorem rat_inj {x y : Rat} : ratD x = ratD y ↔ x = y := by
  constructor
  · intro h
    injection h with h
    injection h with h1 h2
    injection h1 with h1
    injection h2 with h2 _
    injection h2 with h2
    exact Rat.ext h1 (by omega)
  · rintro rfl; rfl
theorem div_eq (a b : Int) (h : b ≠ 0) : Rat.divInt a b = (a : Rat) / (b : Rat) := (Rat.divInt_eq_div a b)
theorem pd_rat (x : Rat) : pd 1 (ratD x) = true := rfl
theorem ne_rat (x y : Rat) : neD (ratD x) (ratD y) = some (.bl (!decide (x = y))) := by
  have e : (ratD x).eqb (ratD y) = decide (x = y) := by
    unfold ratD
    rw [eqb_tup2]
    refine Bool.eq_iff_iff.mpr ?_
    simp only [Bool.and_eq_true, decide_eq_true_eq]
    exact ⟨fun ⟨h1, h2⟩ => Rat.ext h1 (by omega), fun h => by subst h; exact ⟨rfl, rfl⟩⟩
  rw [neD_ap, fine_pd (pd_rat x), fine_pd (pd_rat y), e]
  rfl
theorem eq_rat (x y : Rat) : eqD (ratD x) (ratD y) = some (.bl (decide (x = y))) := by
  have e : (ratD x).eqb (ratD y) = decide (x = y) := by
    unfold ratD
    rw [eqb_tup2]
    refine Bool.eq_iff_iff.mpr ?_
    simp only [Bool.and_eq_true, decide_eq_true_eq]
    exact ⟨fun ⟨h1, h2⟩ => Rat.ext h1 (by omega), fun h => by subst h; exact ⟨rfl, rfl⟩⟩
  rw [eqD_ap, fine_pd (pd_rat x), fine_pd (pd_rat y), e]
  rfl
end QR
namespace DL
open PySem MX L2
/-! comprehensions of two fors that change nothing -/
theorem lc2Go_A {α β : Type} {g g1 : D → List D → Option (List D)} {di1 : List D → R (List D)} {de : List D → R D} {vs vs1 : List Nat} {E0 : List D} (ys : α → List β) (u : α → D) (E : α → List D) (u1 : α → β → D) (E2 : α → β → List D) (f : α → β → D) :
    ∀ (xs : List α) (acc : List D), acc.length + (xs.flatMap fun x => (ys x).map (f x)).length ≤ 1000000 →
    (∀ x ∈ xs, g (u x) E0 = some (E x) ∧ di1 (E x) = .ok ((ys x).map (u1 x)) (E x) ∧ wipeD (wipeD (E x) vs1) vs = E0 ∧ ∀ y ∈ ys x, g1 (u1 x y) (wipeD (E x) vs1) = some (E2 x y) ∧ de (E2 x y) = .ok (f x y) (E2 x y) ∧ wipeD (E2 x y) vs1 = wipeD (E x) vs1) →
    lc2Go g yesD di1 g1 yesD de vs vs1 (xs.map u) acc E0 = .ok (acc ++ xs.flatMap fun x => (ys x).map (f x)) E0
  | [], acc, _, _ => by
    unfold lc2Go
    simp
  | x :: xs, acc, hl, h => by
    obtain ⟨h1, h2, h3, h4⟩ := h x List.mem_cons_self
    have ht : ∀ y ∈ xs, _ := fun y hy => h y (List.mem_cons_of_mem _ hy)
    rw [List.map_cons]
    unfold lc2Go
    rw [h1]
    simp only [yesD_ap, bindB_ok, if_true, h2]
    have e := lcGo_A (dt := yesD) (g := g1) (de := de) (vs := vs1) (E0 := wipeD (E x) vs1) (u1 x) (E2 x) (fun _ => true) (f x) (ys x) acc fun y hy => ⟨(h4 y hy).1, rfl, fun _ => (h4 y hy).2.1, (h4 y hy).2.2⟩
    rw [List.filter_eq_self.mpr fun _ _ => rfl] at e
    simp only [List.flatMap_cons, List.length_append, List.length_map] at hl ⊢
    rw [if_pos (by omega), e, bindB_ok, h3, lc2Go_A ys u E u1 E2 f xs _ (by simp only [List.length_append, List.length_map]; omega) ht, List.append_assoc]
theorem lc2D_A {α β : Type} {xs : List α} {di di1 : List D → R (List D)} {g g1 : D → List D → Option (List D)} {de : List D → R D} {vs vs1 : List Nat} {env env1 : List D} (ys : α → List β) (u : α → D) (E : α → List D) (u1 : α → β → D) (E2 : α → β → List D) (f : α → β → D)
    (hd : di env = .ok (xs.map u) env1) (hn : xs.length ≤ 1000000) (hl : (xs.flatMap fun x => (ys x).map (f x)).length ≤ 1000000)
    (h : ∀ x ∈ xs, g (u x) (wipeD env1 vs) = some (E x) ∧ di1 (E x) = .ok ((ys x).map (u1 x)) (E x) ∧ wipeD (wipeD (E x) vs1) vs = wipeD env1 vs ∧ ∀ y ∈ ys x, g1 (u1 x y) (wipeD (E x) vs1) = some (E2 x y) ∧ de (E2 x y) = .ok (f x y) (E2 x y) ∧ wipeD (E2 x y) vs1 = wipeD (E x) vs1)
    (hb : backD env1 (wipeD env1 vs) vs = env1) : lc2D di g yesD di1 g1 yesD de vs vs1 env = .ok (.ml (xs.flatMap fun x => (ys x).map (f x))) env1 := by
  unfold lc2D
  rw [hd, bindR_ok, if_pos (by rw [List.length_map]; exact hn), lc2Go_A ys u E u1 E2 f xs [] (by simpa using hl) h]
  show R.ok _ _ = _
  rw [hb, List.nil_append]
theorem range2_nat {da db : List D → R D} {env env1 env2 : List D} {i j : Nat} (h : da env = .ok (.int i) env1) (h2 : db env1 = .ok (.int j) env2) (hi : i ≤ 1000000) (hn : j ≤ 1000000) : range2D da db env = .ok ((List.range (j - i)).map fun k => D.int ((i + k : Nat) : Int)) env2 := by
  unfold range2D
  rw [h, bindR_ok, h2, bindR_ok]
  have c1 : -(2 ^ 62) ≤ (i : Int) := range_lo (by omega)
  have c2 : (i : Int) < 2 ^ 62 := range_hi (by omega)
  have c3 : -(2 ^ 62) ≤ (j : Int) := range_lo (by omega)
  have c4 : (j : Int) < 2 ^ 62 := range_hi (by omega)
  refine (if_pos ⟨⟨c1, c2⟩, c3, c4⟩).trans ?_
  have e : ((j : Int) - (i : Int)).toNat = j - i := by omega
  rw [e, rangeL_eq]
  rfl
end DL
namespace K52
open PySem PySem.Spec PyProof.Rows L2 DL
noncomputable section
/-! _law_well(cell): 0 cell -/
def d__law_well : List D → FR := runD 1 [] (retD (lstO (consD (binD mulXD (varD 0) (callBD intXD (consD (binD geD (varD 0) (binD powD (constD (.int 10)) (constD (.int 18)))) (nilD)))) (consD (binD modD (varD 0) (constD (.int 2147483647))) (consD (constD (.int 0)) (nilD))))))
/-! _law_draw(well, many): 0 well, 1 many, 2 found, 3 number -/
def d__law_draw : List D → FR := runD 4 [0] (seqD (ifS (testD (binD gtD (ixO 0 (constD (.int 0))) (constD (.int 0)))) (seqD (asgD 2 (binD modD (ixO 0 (constD (.int 0))) (varD 1))) (seqD (setO 0 (binD fdivD (ixO 0 (constD (.int 0))) (varD 1)) (constD (.int 0))) (retD (varD 2)))) (skipD)) (seqD (setO 0 (binD addD (ixO 0 (constD (.int 2))) (constD (.int 1))) (constD (.int 2))) (seqD (asgD 3 (binD modD (binD powD (binD addD (binD addD (ixO 0 (constD (.int 1))) (binD mulXD (constD (.int 7919)) (ixO 0 (constD (.int 2))))) (constD (.int 1))) (constD (.int 3))) (constD (.int 2147483647)))) (seqD (asgD 3 (binD modD (binD mulXD (varD 3) (binD addD (binD fdivD (varD 3) (constD (.int 1009))) (constD (.int 69621)))) (constD (.int 2147483629)))) (retD (binD modD (binD modD (binD mulXD (varD 3) (binD addD (binD fdivD (varD 3) (constD (.int 2003))) (constD (.int 40692)))) (constD (.int 2147483587))) (varD 1)))))))
/-! _law_table(well, tall, wide, kind): 0 well, 1 tall, 2 wide, 3 kind, 4 found, 5 k, 6 row, 7 j, 8 number -/
def b__law_table_0 : List D → O := seqD (asgD 8 (binD ixD (lstD (consD (binD subD (frzD (callO 2 [0] d__law_draw (ioA 0 (consA (constD (.int 9)) (nilA))))) (constD (.int 4))) (consD (binD subD (frzD (callO 2 [0] d__law_draw (ioA 0 (consA (constD (.int 3)) (nilA))))) (constD (.int 1))) (consD (binD subD (frzD (callO 2 [0] d__law_draw (ioA 0 (consA (constD (.int 41)) (nilA))))) (constD (.int 20))) (nilD))))) (binD modD (varD 3) (constD (.int 3))))) (appO 6 (binD addD (varD 8) (binD mulXD (binD powD (constD (.int 10)) (constD (.int 20))) (callBD intXD (consD (andV (binD eqD (varD 3) (constD (.int 3))) (binD eqD (frzD (callO 2 [0] d__law_draw (ioA 0 (consA (constD (.int 3)) (nilA))))) (constD (.int 0)))) (nilD))))))
def b__law_table_1 : List D → O := seqD (asgD 6 (lstO (nilD))) (seqD (forD (range1D (varD 2)) (gnD 7) b__law_table_0) (appO 4 (varF 6)))
def d__law_table : List D → FR := runD 9 [0] (seqD (asgD 4 (lstO (nilD))) (seqD (forD (range1D (varD 1)) (gnD 5) b__law_table_1) (retV 4)))
/-! _law_lifted(table, by_columns, by_rows): 0 table, 1 by_columns, 2 by_rows, 3 found, 4 k, 5 j -/
def e__law_lifted_0 : List D → R D := binD addD (binD addD (binD ixD (binD ixD (varD 0) (varD 4)) (varD 5)) (binD ixD (varD 1) (varD 5))) (binD ixD (varD 2) (varD 4))
def b__law_lifted_0 : List D → O := appO 3 (frzD (lcD (range1D (callBD lenD (consD (binD ixD (varD 0) (varD 4)) (nilD)))) (gnD 5) (yesD) e__law_lifted_0 [5]))
def d__law_lifted : List D → FR := runD 6 [] (seqD (asgD 3 (lstO (nilD))) (seqD (forD (range1D (callBD lenD (consD (varD 0) (nilD)))) (gnD 4) b__law_lifted_0) (retV 3)))
/-! _law_cell_at(script, k): 0 script, 1 k -/
def d__law_cell_at : List D → FR := runD 2 [] (seqD (ifS (testD (binD ltD (varD 1) (callBD lenD (consD (varD 0) (nilD))))) (retD (binD ixD (varD 0) (varD 1))) (skipD)) (retD (constD (.int 0))))
/-! _law_pick(well, some): 0 well, 1 some -/
def d__law_pick : List D → FR := runD 2 [0] (retD (binD ixD (varD 1) (frzD (callO 2 [0] d__law_draw (ioA 0 (consA (callBD lenD (consD (varD 1) (nilD))) (nilA)))))))
/-! _law_name(well, taken): 0 well, 1 taken, 2 letters, 3 turn, 4 name, 5 k, 6 some, 7 word -/
def b__law_name_0 : List D → O := asgD 4 (binD addD (varD 4) (frzD (callO 2 [0] d__law_pick (ioA 0 (consA (binD addD (varD 2) (constD (.str "0123456789"))) (nilA))))))
def e__law_name_0 : List D → R D := binD addD (constD (.str "n")) (callBD strD (consD (varD 5) (nilD)))
def e__law_name_1 : List D → R D := varD 7
def d__law_name : List D → FR := runD 8 [0, 1] (seqD (asgD 2 (constD (.str "abcdefghijklmnopqrstuvwxyz"))) (seqD (asgD 3 (frzD (callO 2 [0] d__law_draw (ioA 0 (consA (constD (.int 5)) (nilA)))))) (seqD (asgD 4 (frzD (callO 2 [0] d__law_pick (ioA 0 (consA (varD 2) (nilA)))))) (seqD (ifS (testD (binD eqD (varD 3) (constD (.int 0)))) (asgD 4 (frzD (callO 2 [0] d__law_pick (ioA 0 (consA (lstD (consD (constD (.str "rows")) (consD (constD (.str "columns")) (consD (constD (.str "pay")) (consD (constD (.str "claim")) (consD (constD (.str "sure")) (consD (constD (.str "one")) (consD (constD (.str "most")) (consD (constD (.str "struck")) (consD (constD (.str "even")) (consD (constD (.str "left")) (nilD)))))))))))) (nilA)))))) (ifS (testD (binD ltD (varD 3) (constD (.int 3)))) (forD (range1D (binD ixD (lstD (consD (constD (.int 1)) (consD (constD (.int 2)) (consD (constD (.int 7)) (nilD))))) (frzD (callO 2 [0] d__law_draw (ioA 0 (consA (constD (.int 3)) (nilA))))))) (gnD 5) b__law_name_0) (skipD))) (seqD (asgD 6 (binD addD (lstD (consD (varD 4) (nilD))) (frzD (lcD (range1D (binD addD (lenO 1) (constD (.int 1)))) (gnD 5) (yesD) e__law_name_0 [5])))) (retD (binD ixD (frzD (lcD (itS (varD 6)) (gnD 7) (testD (cmpR notInD 1 (varD 7))) e__law_name_1 [7])) (constD (.int 0)))))))))
/-! _law_names(well, many): 0 well, 1 many, 2 found, 3 k -/
def b__law_names_0 : List D → O := appO 2 (frzD (callO 2 [0, 1] d__law_name (ioA 0 (ioA 2 (nilA)))))
def d__law_names : List D → FR := runD 4 [0] (seqD (asgD 2 (lstO (nilD))) (seqD (forD (range1D (varD 1)) (gnD 3) b__law_names_0) (retV 2)))
/-! two_of(many): 0 many, 1 one, 2 other -/
def e_two_of_0 : List D → R D := tupD (consD (varD 1) (consD (varD 2) (nilD)))
def d_two_of : List D → FR := runD 3 [] (retD (lc2D (range1D (varD 0)) (gnD 1) (yesD) (range2D (binD addD (varD 1) (constD (.int 1))) (varD 0)) (gnD 2) (yesD) e_two_of_0 [1, 2] [2]))
/-! Game.size(self, side): 0 self, 1 side -/
def d_Game_size : List D → FR := runD 2 [] (seqD (ifS (testD (binD notInD (varD 1) (tupD (consD (constD (.int 0)) (consD (constD (.int 1)) (nilD)))))) (raiseD "NoSide" (consD (varD 1) (nilD))) (skipD)) (retD (callBD lenD (consD (binD ixD (unD (fldD "Game" 0) (varD 0)) (varD 1)) (nilD)))))
/-! squares(game): 0 game, 1 i, 2 k, 3 j, 4 l -/
def e_squares_0 : List D → R D := tupD (consD (varD 1) (consD (varD 2) (consD (varD 3) (consD (varD 4) (nilD)))))
def d_squares : List D → FR := runD 5 [] (retD (lc2D (itS (frzD (callO 1 [] d_two_of (consA (frzD (methO "Game" 2 [] d_Game_size (varD 0) (consA (constD (.int 0)) (nilA)))) (nilA))))) (gTupD (gConsD (gnD 1) (gConsD (gnD 2) (gNilD)))) (yesD) (itS (frzD (callO 1 [] d_two_of (consA (frzD (methO "Game" 2 [] d_Game_size (varD 0) (consA (constD (.int 1)) (nilA)))) (nilA))))) (gTupD (gConsD (gnD 3) (gConsD (gnD 4) (gNilD)))) (yesD) e_squares_0 [1, 2, 3, 4] [3, 4]))
/-! Game.pay(self, row, column): 0 self, 1 row, 2 column, 3 side, 4 choice -/
def b_Game_pay_0 : List D → O := ifS (notD (testD (chainD leD ltD (constD (.int 0)) (varD 4) (callBD lenD (consD (binD ixD (unD (fldD "Game" 0) (varD 0)) (varD 3)) (nilD)))))) (raiseD "NoChoice" (consD (varD 3) (consD (varD 4) (nilD)))) (skipD)
def d_Game_pay : List D → FR := runD 5 [] (seqD (forD (enumD (tupD (consD (varD 1) (consD (varD 2) (nilD))))) (gTupD (gConsD (gnD 3) (gConsD (gnD 4) (gNilD)))) b_Game_pay_0) (retD (binD ixD (binD ixD (unD (fldD "Game" 1) (varD 0)) (varD 1)) (varD 2))))
/-! pays_of(game, side): 0 game, 1 side, 2 row, 3 column -/
def e_pays_of_0 : List D → R D := binD ixD (frzD (methO "Game" 3 [] d_Game_pay (varD 0) (consA (varD 2) (consA (varD 3) (nilA))))) (varD 1)
def e_pays_of_1 : List D → R D := frzD (lcD (range1D (frzD (methO "Game" 2 [] d_Game_size (varD 0) (consA (constD (.int 1)) (nilA))))) (gnD 3) (yesD) e_pays_of_0 [3])
def d_pays_of : List D → FR := runD 4 [] (retD (lcD (range1D (frzD (methO "Game" 2 [] d_Game_size (varD 0) (consA (constD (.int 0)) (nilA))))) (gnD 2) (yesD) e_pays_of_1 [2, 3]))
/-! cross(table, square): 0 table, 1 square, 2 i, 3 k, 4 j, 5 l -/
def d_cross : List D → FR := runD 6 [] (seqD (asgG (varD 1) (gTupD (gConsD (gnD 2) (gConsD (gnD 3) (gConsD (gnD 4) (gConsD (gnD 5) (gNilD))))))) (retD (binD addD (binD subD (binD subD (binD ixD (binD ixD (varD 0) (varD 2)) (varD 4)) (binD ixD (binD ixD (varD 0) (varD 3)) (varD 4))) (binD ixD (binD ixD (varD 0) (varD 2)) (varD 5))) (binD ixD (binD ixD (varD 0) (varD 3)) (varD 5)))))
/-! shared_table(game): 0 game, 1 mine, 2 its, 3 square, 4 first, 5 number, 6 row, 7 j -/
def b_shared_table_0 : List D → O := ifS (testD (binD neD (frzD (callO 2 [] d_cross (consA (varD 1) (consA (varD 3) (nilA))))) (frzD (callO 2 [] d_cross (consA (varD 2) (consA (varD 3) (nilA))))))) (raiseD "Uneven" (consD (varD 3) (nilD))) (skipD)
def e_shared_table_0 : List D → R D := binD subD (varD 5) (binD ixD (binD ixD (varD 2) (constD (.int 0))) (constD (.int 0)))
def e_shared_table_1 : List D → R D := binD subD (binD addD (binD ixD (varD 4) (varD 7)) (binD ixD (varD 6) (varD 7))) (binD ixD (binD ixD (varD 1) (constD (.int 0))) (varD 7))
def e_shared_table_2 : List D → R D := frzD (lcD (range1D (callBD lenD (consD (varD 6) (nilD)))) (gnD 7) (yesD) e_shared_table_1 [7])
def d_shared_table : List D → FR := runD 8 [] (seqD (asgG (tupD (consD (frzD (callO 2 [] d_pays_of (consA (varD 0) (consA (constD (.int 0)) (nilA))))) (consD (frzD (callO 2 [] d_pays_of (consA (varD 0) (consA (constD (.int 1)) (nilA))))) (nilD)))) (gTupD (gConsD (gnD 1) (gConsD (gnD 2) (gNilD))))) (seqD (forD (itS (frzD (callO 1 [] d_squares (consA (varD 0) (nilA))))) (gnD 3) b_shared_table_0) (seqD (asgD 4 (frzD (lcD (itS (binD ixD (varD 2) (constD (.int 0)))) (gnD 5) (yesD) e_shared_table_0 [5]))) (retD (lcD (itS (varD 1)) (gnD 6) (yesD) e_shared_table_2 [6, 7])))))
/-! _law_said(play): 0 play, 1 e -/
def d__law_said : List D → FR := runD 2 [] (mixD [⟨(some 1), mtOf [("NoSide", false), ("NoChoice", false), ("Uneven", true)], [], pickD [("Uneven", fun fs => retD (tupD (consD (constD (.str "uneven")) (consD (xfldD fs 0) (nilD)))))]⟩, ⟨none, mtOf [("NoSide", true), ("NoChoice", true)], [], pickD [("NoSide", fun fs => retD (tupD (consD (constD (.str "other")) (consD (constD .non) (nilD))))), ("NoChoice", fun fs => retD (tupD (consD (constD (.str "other")) (consD (constD .non) (nilD)))))]⟩] (retD (tupD (consD (constD (.str "told")) (consD (frzD (callO 1 [] d_shared_table (permA [0] 0 1 nilA (consA (varD 0) (nilA))))) (nilD))))))
/-! is_name(text): 0 text, 1 sign -/
def e_is_name_0 : List D → R D := orV (binD inD (varD 1) (constD (.str "abcdefghijklmnopqrstuvwxyz"))) (binD inD (varD 1) (constD (.str "0123456789")))
def d_is_name : List D → FR := runD 2 [] (seqD (ifS (orD (notD (testD (chainD leD leD (constD (.int 1)) (callBD lenD (consD (varD 0) (nilD))) (constD (.int 8))))) (testD (binD notInD (binD ixD (varD 0) (constD (.int 0))) (constD (.str "abcdefghijklmnopqrstuvwxyz"))))) (retD (constD (.bl false))) (skipD)) (retD (callBD allD (consD (frzD (lcD (itS (varD 0)) (gnD 1) (yesD) e_is_name_0 [1])) (nilD)))))
/-! asked_names(texts): 0 texts, 1 text -/
def b_asked_names_0 : List D → O := ifS (notD (testD (frzD (callO 1 [] d_is_name (consA (varD 1) (nilA)))))) (raiseD "NoName" (consD (varD 1) (nilD))) (skipD)
def d_asked_names : List D → FR := runD 2 [] (forD (itS (varD 0)) (gnD 1) b_asked_names_0)
/-! asked_once(names): 0 names, 1 seen, 2 name -/
def b_asked_once_0 : List D → O := seqD (ifS (testD (dinD 1 (varD 2))) (raiseD "Twice" (consD (varD 2) (nilD))) (skipD)) (dputD 1 (constD (.bl true)) (varD 2))
def d_asked_once : List D → FR := runD 3 [] (seqD (asgD 1 (dict0)) (forD (itS (varD 0)) (gnD 2) b_asked_once_0))
/-! asked_some(what, names): 0 what, 1 names -/
def d_asked_some : List D → FR := runD 2 [] (seqD (ifS (notD (testD (chainD leD leD (constD (.int 1)) (callBD lenD (consD (varD 1) (nilD))) (constD (.int 4))))) (raiseD "BadCount" (consD (varD 0) (consD (callBD lenD (consD (varD 1) (nilD))) (nilD)))) (skipD)) (seqD (exprD (frzD (callO 1 [] d_asked_names (consA (varD 1) (nilA))))) (exprD (frzD (callO 1 [] d_asked_once (consA (varD 1) (nilA)))))))
/-! asked_pays(pays, tall, wide): 0 pays, 1 tall, 2 wide, 3 row -/
def b_asked_pays_0 : List D → O := ifS (testD (binD neD (callBD lenD (consD (varD 3) (nilD))) (varD 2))) (raiseD "BadCount" (consD (constD (.str "pays")) (consD (callBD lenD (consD (varD 3) (nilD))) (nilD)))) (skipD)
def d_asked_pays : List D → FR := runD 4 [] (seqD (ifS (testD (binD neD (callBD lenD (consD (varD 0) (nilD))) (varD 1))) (raiseD "BadCount" (consD (constD (.str "pays")) (consD (callBD lenD (consD (varD 0) (nilD))) (nilD)))) (skipD)) (forD (itS (varD 0)) (gnD 3) b_asked_pays_0))
/-! Game.__init__(self, rows, columns, pays): 0 self, 1 rows, 2 columns, 3 pays, 4 row, 5 one, 6 other -/
def e_Game_init_0 : List D → R D := tupD (consD (varD 5) (consD (varD 6) (nilD)))
def e_Game_init_1 : List D → R D := callBD tupleD (consD (frzD (lcD (itS (varD 4)) (gTupD (gConsD (gnD 5) (gConsD (gnD 6) (gNilD)))) (yesD) e_Game_init_0 [5, 6])) (nilD))
def d_Game_init : List D → FR := runD 7 [0] (seqD (exprD (frzD (callO 2 [] d_asked_some (consA (constD (.str "rows")) (consA (varD 1) (nilA)))))) (seqD (exprD (frzD (callO 2 [] d_asked_some (consA (constD (.str "columns")) (consA (varD 2) (nilA)))))) (seqD (exprD (frzD (callO 3 [] d_asked_pays (consA (varD 3) (consA (callBD lenD (consD (varD 1) (nilD))) (consA (callBD lenD (consD (varD 2) (nilD))) (nilA))))))) (seqD (setfD "Game" 0 0 (tupD (consD (callBD tupleD (consD (varD 1) (nilD))) (consD (callBD tupleD (consD (varD 2) (nilD))) (nilD))))) (setfD "Game" 1 0 (callBD tupleD (consD (frzD (lcD (itS (varD 3)) (gnD 4) (yesD) e_Game_init_1 [4, 5, 6])) (nilD))))))))
/-! _law_square(tall, wide, at, place): 0 tall, 1 wide, 2 at, 3 place, 4 i, 5 k, 6 j, 7 l -/
def d__law_square : List D → FR := runD 8 [] (seqD (asgG (binD ixD (lstD (consD (tupD (consD (constD (.int 0)) (consD (varD 2) (nilD)))) (consD (tupD (consD (constD (.int 0)) (consD (constD (.int 1)) (nilD)))) (nilD)))) (callBD intXD (consD (binD eqD (varD 2) (constD (.int 0))) (nilD)))) (gTupD (gConsD (gnD 4) (gConsD (gnD 5) (gNilD))))) (seqD (asgG (binD ixD (lstD (consD (tupD (consD (constD (.int 0)) (consD (varD 3) (nilD)))) (consD (tupD (consD (constD (.int 0)) (consD (constD (.int 1)) (nilD)))) (nilD)))) (callBD intXD (consD (binD eqD (varD 3) (constD (.int 0))) (nilD)))) (gTupD (gConsD (gnD 6) (gConsD (gnD 7) (gNilD))))) (retD (tupD (consD (varD 4) (consD (varD 5) (consD (varD 6) (consD (varD 7) (nilD)))))))))
/-! law(script): 0 script, 1 cell, 2 well, 3 tall, 4 wide, 5 table, 6 one, 7 other, 8 names, 9 due, 10 row, 11 number, 12 more, 13 pays, 14 its, 15 at, 16 place, 17 side, 18 here, 19 told -/
def e_law_0 : List D → R D := binD subD (varD 11) (binD ixD (binD ixD (varD 5) (constD (.int 0))) (constD (.int 0)))
def e_law_1 : List D → R D := frzD (lcD (itS (varD 10)) (gnD 11) (yesD) e_law_0 [11])
def e_law_2 : List D → R D := lzO (varD 10) (varD 14)
def b_law_0 : List D → O := seqD (asgD 13 (lcoD (zipD (varD 6) (varD 7)) (gTupD (gConsD (gnD 10) (gConsD (gnD 14) (gNilD)))) (yesD) e_law_2 [10, 14])) (seqD (par3D 15 16 17 (frzD (callO 2 [0] d__law_draw (ioA 2 (consA (varD 3) (nilA))))) (frzD (callO 2 [0] d__law_draw (ioA 2 (consA (varD 4) (nilA))))) (frzD (callO 2 [0] d__law_draw (ioA 2 (consA (constD (.int 2)) (nilA)))))) (seqD (asgD 18 (listO (consD (ixO2 13 (varD 15) (qVar 16)) (nilD)))) (seqD (setO 18 (binD addD (ixO 18 (varD 17)) (varD 12)) (varD 17)) (seqD (setO2 13 (callBD tupleD (consD (varF 18) (nilD))) (varD 15) (qVar 16)) (seqD (asgD 19 (frzD (callO 1 [] d__law_said (consA (frzD (makeO "Game" 4 d_Game_init (consD (binD ixD (varD 8) (constD (.int 0))) (consD (binD ixD (varD 8) (constD (.int 1))) (consD (varF 13) (nilD)))))) (nilA))))) (seqD (ifS (andD (testD (binD eqD (varD 12) (constD (.int 0)))) (testD (binD neD (varD 19) (tupD (consD (constD (.str "told")) (consD (varD 9) (nilD))))))) (retD (constD (.bl false))) (skipD)) (seqD (ifS (andD (testD (binD neD (varD 12) (constD (.int 0)))) (andD (testD (binD gtD (varD 3) (constD (.int 1)))) (andD (testD (binD gtD (varD 4) (constD (.int 1)))) (testD (binD neD (varD 19) (tupD (consD (constD (.str "uneven")) (consD (frzD (callO 4 [] d__law_square (consA (varD 3) (consA (varD 4) (consA (varD 15) (consA (varD 16) (nilA))))))) (nilD))))))))) (retD (constD (.bl false))) (skipD)) (ifS (andD (testD (binD neD (varD 12) (constD (.int 0)))) (andD (orD (testD (binD eqD (varD 3) (constD (.int 1)))) (testD (binD eqD (varD 4) (constD (.int 1))))) (testD (binD neD (binD ixD (varD 19) (constD (.int 0))) (constD (.str "told")))))) (retD (constD (.bl false))) (skipD)))))))))
def b_law_1 : List D → O := seqD (asgD 2 (callO 1 [] d__law_well (consA (varD 1) (nilA)))) (seqD (parD 3 4 (binD addD (constD (.int 1)) (frzD (callO 2 [0] d__law_draw (ioA 2 (consA (constD (.int 4)) (nilA)))))) (binD addD (constD (.int 1)) (frzD (callO 2 [0] d__law_draw (ioA 2 (consA (constD (.int 4)) (nilA))))))) (seqD (asgD 5 (frzD (callO 4 [0] d__law_table (ioA 2 (consA (varD 3) (consA (varD 4) (consA (frzD (callO 2 [0] d__law_draw (ioA 2 (consA (constD (.int 4)) (nilA))))) (nilA)))))))) (seqD (asgD 6 (frzD (callO 3 [] d__law_lifted (consA (varD 5) (consA (binD ixD (frzD (callO 4 [0] d__law_table (ioA 2 (consA (constD (.int 1)) (consA (varD 4) (consA (constD (.int 3)) (nilA))))))) (constD (.int 0))) (consA (repLD (consD (constD (.int 0)) (nilD)) (varD 3)) (nilA))))))) (seqD (asgD 7 (frzD (callO 3 [] d__law_lifted (consA (varD 5) (consA (repLD (consD (constD (.int 0)) (nilD)) (varD 4)) (consA (binD ixD (frzD (callO 4 [0] d__law_table (ioA 2 (consA (constD (.int 1)) (consA (varD 3) (consA (constD (.int 3)) (nilA))))))) (constD (.int 0))) (nilA))))))) (seqD (asgD 8 (tupD (consD (frzD (callO 2 [0] d__law_names (ioA 2 (consA (varD 3) (nilA))))) (consD (frzD (callO 2 [0] d__law_names (ioA 2 (consA (varD 4) (nilA))))) (nilD))))) (seqD (asgD 9 (frzD (lcD (itS (varD 5)) (gnD 10) (yesD) e_law_1 [10, 11]))) (forD (itS (lstD (consD (constD (.int 0)) (consD (binD addD (constD (.int 1)) (frzD (callO 2 [0] d__law_draw (ioA 2 (consA (constD (.int 4)) (nilA)))))) (consD (binD subD (unD negD (binD powD (constD (.int 10)) (constD (.int 20)))) (constD (.int 7))) (nilD)))))) (gnD 12) b_law_0)))))))
def d_law : List D → FR := runD 20 [] (seqD (forD (itS (binD addD (lstD (consD (frzD (callO 2 [] d__law_cell_at (consA (varD 0) (consA (constD (.int 0)) (nilA))))) (nilD))) (sliceD (varD 0) (partD (constD (.int 1))) (partD (constD (.int 6)))))) (gnD 1) b_law_1) (retD (constD (.bl true))))
end
end K52
namespace K52
open PySem DL FR MX QR L2 SX PyProof.Rows
theorem sm_lit {n : Nat} {a : Int} (m : Nat) (h : a.natAbs < m) (h2 : m ≤ 2 ^ n := by decide) : Sm n a := Nat.lt_of_lt_of_le h h2
/-! ### the well that is drawn from: b draws are left -/
abbrev wD (x y z : Int) : D := .ml [.int x, .int y, .int z]
structure WOk (b : Nat) (x y z : Int) : Prop where
  x0 : 0 ≤ x
  y0 : 0 ≤ y
  y1 : y < 2147483647
  z0 : 0 ≤ z
  z1 : z + b ≤ 1000000000
theorem WOk.less {b c : Nat} {x y z : Int} (h : WOk b x y z) (l : c ≤ b) : WOk c x y z := ⟨h.x0, h.y0, h.y1, h.z0, by have := h.z1; omega⟩
theorem fmod_in {a b : Int} (h : 0 < b) : 0 ≤ a.fmod b ∧ a.fmod b < b := ⟨Int.fmod_nonneg_of_pos _ h, Int.fmod_lt_of_pos _ h⟩
theorem well_ev (c : Int) : ∃ x y, WOk 1000000 x y 0 ∧ d__law_well [.int c] = .ret (wD x y 0) [] := by
  unfold d__law_well
  have h1 := fmod_in (a := c) (b := 2147483647) (by decide)
  refine ⟨c * (if 1000000000000000000 ≤ c then 1 else 0), c.fmod 2147483647, ⟨?_, h1.1, h1.2, by decide, by decide⟩, ?_⟩
  · split <;> omega
  · simp [runD_ap, fitsPow_lit]
theorem draw_ev {b : Nat} {x y z m : Int} (h : WOk b x y z) (hb : 1 ≤ b) (hm : 1 ≤ m) (hm1 : m < 1000000000000000000) : ∃ r x' z', WOk (b - 1) x' y z' ∧ 0 ≤ r ∧ r < m ∧ d__law_draw [wD x y z, .int m] = .ret (.int r) [wD x' y z'] := by
  have hm0 : m ≠ 0 := by omega
  have h1 : fitsDiv m := fitsDiv_lit hm0 (by omega)
  obtain ⟨x0, y0, y1, z0, z1⟩ := h
  by_cases hx : 0 < x
  · have h3 := fmod_in (a := x) (b := m) (by omega)
    refine ⟨x.fmod m, x.fdiv m, z, ⟨Int.fdiv_nonneg x0 (by omega), y0, y1, z0, by omega⟩, h3.1, h3.2, ?_⟩
    unfold d__law_draw
    simp -implicitDefEqProofs [runD_ap, hm0, h1, hx]
  · have p1 : fitsMul 7919 (z + 1) := fitsMul_l (by decide)
    have p2 : fitsPow (y + 7919 * (z + 1) + 1) 3 := fitsPow_lit (by decide) (by decide) (by omega)
    have q1 := fmod_in (a := (y + 7919 * (z + 1) + 1) ^ 3) (b := 2147483647) (by decide)
    generalize hn1 : ((y + 7919 * (z + 1) + 1) ^ 3).fmod 2147483647 = n1 at q1
    have p3 : fitsMul n1 (n1.fdiv 1009 + 69621) := fitsMul_l (by omega)
    have q2 := fmod_in (a := n1 * (n1.fdiv 1009 + 69621)) (b := 2147483629) (by decide)
    generalize hn2 : (n1 * (n1.fdiv 1009 + 69621)).fmod 2147483629 = n2 at q2
    have p4 : fitsMul n2 (n2.fdiv 2003 + 40692) := fitsMul_l (by omega)
    have h3 := fmod_in (a := (n2 * (n2.fdiv 2003 + 40692)).fmod 2147483587) (b := m) (by omega)
    have d1 : fitsDiv 1009 := fitsDiv_lit (by decide) (by decide)
    have d2 : fitsDiv 2003 := fitsDiv_lit (by decide) (by decide)
    refine ⟨((n2 * (n2.fdiv 2003 + 40692)).fmod 2147483587).fmod m, x, z + 1, ⟨x0, y0, y1, by omega, by omega⟩, h3.1, h3.2, ?_⟩
    have p2' : fitsPow (y + 7919 * (z + 1) + 1) (3 : Int) := p2
    have hn1' : ((y + 7919 * (z + 1) + 1) ^ (Int.toNat 3)).fmod 2147483647 = n1 := hn1
    have ix2 : ixN 3 2 = some 2 := rfl
    unfold d__law_draw
    simp -implicitDefEqProofs [runD_ap, ix2, hm0, hx, p1, p2, p3, p4, d1, d2, hn1, hn2]
theorem draw_nat {b : Nat} {x y z : Int} {m : Nat} (h : WOk b x y z) (hb : 1 ≤ b) (hm : 1 ≤ m) (hm1 : m < 1000000000000000000) : ∃ (r : Nat) (x' z' : Int), WOk (b - 1) x' y z' ∧ r < m ∧ d__law_draw [wD x y z, .int m] = .ret (.int r) [wD x' y z'] := by
  obtain ⟨r, x', z', h1, h2, h3, e⟩ := draw_ev (m := m) h hb (by omega) (by omega)
  obtain ⟨n, rfl⟩ := Int.eq_ofNat_of_zero_le h2
  exact ⟨n, x', z', h1, by omega, e⟩
/-! ### matrices -/
abbrev intsD (r : List Int) : D := .lst (r.map D.int)
abbrev matD (M : List (List Int)) : D := .lst (M.map intsD)
/-- a table of m rows of w numbers of n bits -/
structure Mat (n : Nat) (M : List (List Int)) (m w : Nat) : Prop where
  tall : M.length = m
  wide : ∀ r ∈ M, r.length = w
  sm : ∀ r ∈ M, ∀ a ∈ r, Sm n a
def at2 (M : List (List Int)) (i j : Nat) : Int := gd (gd M i []) j 0
theorem Mat.row {n : Nat} {M : List (List Int)} {m w : Nat} (h : Mat n M m w) {i : Nat} (hi : i < m) : (gd M i []).length = w := h.wide _ (gd_mem (by rw [h.tall]; exact hi) _)
theorem Mat.at {n : Nat} {M : List (List Int)} {m w : Nat} (h : Mat n M m w) {i j : Nat} (hi : i < m) (hj : j < w) : Sm n (at2 M i j) := h.sm _ (gd_mem (by rw [h.tall]; exact hi) _) _ (gd_mem (by rw [h.row hi]; exact hj) _)
theorem wrow_ev {b : Nat} {x y z : Int} {k : Nat} (h : WOk b x y z) (h3 : k ≤ 3) (m f i r j o : D) (n : Nat) (hb : 4 * n ≤ b) (hn : n ≤ 1000) (w : D) : ∃ (x' z' : Int) (rr : List Int) (j' o' : D), WOk (b - 4 * n) x' y z' ∧ rr.length = n ∧ (∀ a ∈ rr, Sm 70 a) ∧
    forGo (gnD 7) b__law_table_0 (rangeL 0 n) [wD x y z, m, w, .int k, f, i, .ml [], j, o] = .nx [wD x' y z', m, w, .int k, f, i, .ml (rr.map D.int), j', o'] := by
  obtain ⟨E', e, x', z', rr, j', o', h1, h2, h3', rfl⟩ := forGo_inv (g := gnD 7) (db := b__law_table_0) (fun c E => ∃ (x' z' : Int) (rr : List Int) (j' o' : D), WOk (b - 4 * c) x' y z' ∧ rr.length = c ∧ (∀ a ∈ rr, Sm 70 a) ∧ E = [wD x' y z', m, w, .int k, f, i, .ml (rr.map D.int), j', o'])
    (rangeL 0 n) 0 [wD x y z, m, w, .int k, f, i, .ml [], j, o] ⟨x, z, [], j, o, h, rfl, fun _ h => (by cases h), rfl⟩ fun c d hd E hE => by
      obtain ⟨x1, z1, rr, j', o', g1, g2, g3, rfl⟩ := hE
      have hc : c < n := by have := List.getElem?_eq_some_iff.mp hd; obtain ⟨q, _⟩ := this; rwa [rangeL_len] at q
      obtain ⟨r1, x2, z2, w2, a1, b1, e1⟩ := draw_ev (m := 9) g1 (by omega) (by decide) (by decide)
      obtain ⟨r2, x3, z3, w3, a2, b2, e2⟩ := draw_ev (m := 3) w2 (by omega) (by decide) (by decide)
      obtain ⟨r3, x4, z4, w4, a3, b3, e3⟩ := draw_ev (m := 41) w3 (by omega) (by decide) (by decide)
      have kk : k = 0 ∨ k = 1 ∨ k = 2 ∨ k = 3 := by omega
      have e4 : ∃ v, atI [D.int (r1 - 4), .int (r2 - 1), .int (r3 - 20)] ((k : Int).fmod 3) = some (.int v) ∧ -20 ≤ v ∧ v ≤ 20 := by
        rcases kk with rfl | rfl | rfl | rfl
        · exact ⟨r1 - 4, rfl, by omega, by omega⟩
        · exact ⟨r2 - 1, rfl, by omega, by omega⟩
        · exact ⟨r3 - 20, rfl, by omega, by omega⟩
        · exact ⟨r1 - 4, rfl, by omega, by omega⟩
      obtain ⟨v, e4, v0, v1⟩ := e4
      have s1 : asgD 8 (binD ixD (lstD (consD (binD subD (frzD (callO 2 [0] d__law_draw (ioA 0 (consA (constD (.int 9)) (nilA))))) (constD (.int 4))) (consD (binD subD (frzD (callO 2 [0] d__law_draw (ioA 0 (consA (constD (.int 3)) (nilA))))) (constD (.int 1))) (consD (binD subD (frzD (callO 2 [0] d__law_draw (ioA 0 (consA (constD (.int 41)) (nilA))))) (constD (.int 20))) (nilD))))) (binD modD (varD 3) (constD (.int 3)))) [wD x1 y z1, m, w, .int k, f, i, .ml (rr.map D.int), d, o'] = .nx [wD x4 y z4, m, w, .int k, f, i, .ml (rr.map D.int), d, .int v] := by
        simp -implicitDefEqProofs [e1, e2, e3, -ixD_lst]
        simp -implicitDefEqProofs [ixD_lst, e4]
      have s2 : ∃ x5 z5 u, WOk (b - 4 * (0 + c + 1)) x5 y z5 ∧ Sm 70 u ∧ appO 6 (binD addD (varD 8) (binD mulXD (binD powD (constD (.int 10)) (constD (.int 20))) (callBD intXD (consD (andV (binD eqD (varD 3) (constD (.int 3))) (binD eqD (frzD (callO 2 [0] d__law_draw (ioA 0 (consA (constD (.int 3)) (nilA))))) (constD (.int 0)))) (nilD))))) [wD x4 y z4, m, w, .int k, f, i, .ml (rr.map D.int), d, .int v] = .nx [wD x5 y z5, m, w, .int k, f, i, .ml ((rr ++ [u]).map D.int), d, .int v] := by
        have hs' : rr.length < sizeLine := lt_line (by omega)
        by_cases hk : k = 3
        · subst hk
          obtain ⟨r4, x5, z5, w5, a4, b4, e5⟩ := draw_ev (m := 3) w4 (by omega) (by decide) (by decide)
          refine ⟨x5, z5, v + 10 ^ 20 * (if r4 = 0 then 1 else 0), w5.less (by omega), ?_, ?_⟩
          · have : v + 10 ^ 20 * (if r4 = 0 then 1 else 0) = v + (if r4 = 0 then 100000000000000000000 else 0) := by split <;> simp
            rw [this]
            exact sm_lit 200000000000000000000 (by split <;> omega)
          · by_cases h0 : r4 = 0
            · simp -implicitDefEqProofs [e5, h0, fitsPow_lit, hs', fitsMul_l, fitsMul_r]
            · simp -implicitDefEqProofs [e5, h0, fitsPow_lit, hs', fitsMul_l, fitsMul_r]
        · refine ⟨x4, z4, v, w4.less (by omega), sm_lit 100 (by omega), ?_⟩
          have hk' : ¬ (k : Int) = 3 := by omega
          simp -implicitDefEqProofs [hk', fitsPow_lit, hs', fitsMul_l, fitsMul_r]
      obtain ⟨x5, z5, u, w5, su, s2⟩ := s2
      refine ⟨[wD x1 y z1, m, w, .int k, f, i, .ml (rr.map D.int), d, o'], _, rfl, .inl (seqN _ s1 s2), x5, z5, rr ++ [u], d, .int v, w5, by simp; omega, fun a ha => ?_, rfl⟩
      rcases List.mem_append.mp ha with ha | ha
      · exact g3 a ha
      · rw [List.mem_singleton.mp ha]; exact su
  rw [rangeL_len, Nat.zero_add] at h1 h2
  exact ⟨x', z', rr, j', o', h1, h2, h3', e⟩
theorem wtable_ev {b : Nat} {x y z : Int} (h : WOk b x y z) (m w k : Nat) (h3 : k ≤ 3) (hm : m ≤ 1000) (hw : w ≤ 1000) (hb : 4 * w * m ≤ b) : ∃ (x' z' : Int) (T : List (List Int)), WOk (b - 4 * w * m) x' y z' ∧ Mat 70 T m w ∧ d__law_table [wD x y z, .int m, .int w, .int k] = .ret (.ml (T.map intsD)) [wD x' y z'] := by
  obtain ⟨E', e, x', z', T, i', r', j', o', h4, h5, h6, h7, rfl⟩ := forGo_inv (g := gnD 5) (db := b__law_table_1) (fun c E => ∃ (x' z' : Int) (T : List (List Int)) (i' r' j' o' : D), WOk (b - 4 * w * c) x' y z' ∧ T.length = c ∧ (∀ r ∈ T, r.length = w) ∧ (∀ r ∈ T, ∀ a ∈ r, Sm 70 a) ∧ E = [wD x' y z', .int m, .int w, .int k, .ml (T.map intsD), i', r', j', o'])
    (rangeL 0 m) 0 [wD x y z, .int m, .int w, .int k, .ml [], .unb, .unb, .unb, .unb] ⟨x, z, [], _, _, _, _, h, rfl, fun _ h => (by cases h), fun _ h => (by cases h), rfl⟩ fun c d hd E hE => by
      obtain ⟨x3, z3, T, i', r', j', o', h4, h5, h6, h7, rfl⟩ := hE
      have hc : c < m := by have := List.getElem?_eq_some_iff.mp hd; obtain ⟨q, _⟩ := this; rwa [rangeL_len] at q
      have hcm : 4 * w * (0 + c + 1) ≤ 4 * w * m := Nat.mul_le_mul_left _ (by omega)
      have hex : 4 * w * (0 + c + 1) = 4 * w * (0 + c) + 4 * w := Nat.mul_succ _ _
      obtain ⟨x4, z4, r, j2, o2, g1, g2, g3, g4⟩ := wrow_ev h4 h3 (.int m) (.ml (T.map intsD)) d (.ml []) j' o' w (by omega) hw (.int w)
      have hs' : T.length < sizeLine := lt_line (by omega)
      have e6 : frzL (r.map D.int) = r.map D.int := frzL_id (fun _ => rfl) _
      have hr : range1D (varD 2) [wD x3 y z3, .int m, .int w, .int k, .ml (T.map intsD), d, .ml [], j', o'] = .ok (rangeL 0 w) [wD x3 y z3, .int m, .int w, .int k, .ml (T.map intsD), d, .ml [], j', o'] := range1_nat (by simp) (by omega)
      refine ⟨[wD x3 y z3, .int m, .int w, .int k, .ml (T.map intsD), d, r', j', o'], [wD x4 y z4, .int m, .int w, .int k, .ml ((T ++ [r]).map intsD), d, .lst (r.map D.int), j2, o2], rfl, .inl ?_, x4, z4, T ++ [r], d, .lst (r.map D.int), j2, o2, g1.less (by omega), by simp; omega, ?_, ?_, rfl⟩
      · refine seqN [wD x3 y z3, .int m, .int w, .int k, .ml (T.map intsD), d, .ml [], j', o'] (by simp) (seqN _ (forN hr g4) ?_)
        simp -implicitDefEqProofs [hs', e6]
      · intro q hq
        rcases List.mem_append.mp hq with hq | hq
        · exact h6 q hq
        · rw [List.mem_singleton.mp hq]; exact g2
      · intro q hq
        rcases List.mem_append.mp hq with hq | hq
        · exact h7 q hq
        · rw [List.mem_singleton.mp hq]; exact g3
  rw [rangeL_len, Nat.zero_add] at h4 h5
  refine ⟨x', z', T, h4, ⟨h5, h6, h7⟩, ?_⟩
  have hr : range1D (varD 1) [wD x y z, .int m, .int w, .int k, .ml [], .unb, .unb, .unb, .unb] = .ok (rangeL 0 m) [wD x y z, .int m, .int w, .int k, .ml [], .unb, .unb, .unb, .unb] := range1_nat (by simp) (by omega)
  unfold d__law_table
  refine runR (env := [wD x' y z', .int m, .int w, .int k, .unb, i', r', j', o']) ?_
  refine seqN [wD x y z, .int m, .int w, .int k, .ml [], .unb, .unb, .unb, .unb] (by simp) ?_
  exact seqN _ (forN hr e) (by simp)
/-- a table lifted by columns and by rows -/
def liftM (M : List (List Int)) (m w : Nat) (cs rs : List Int) : List (List Int) := (List.range m).map fun k => (List.range w).map fun j => at2 M k j + gd cs j 0 + gd rs k 0
theorem lifted_ev {n : Nat} {M : List (List Int)} {m w : Nat} (h : Mat n M m w) {cs rs : List Int} (hc : cs.length = w) (hr : rs.length = m) (hm : m ≤ 1000) (hw : w ≤ 1000) : d__law_lifted [matD M, intsD cs, intsD rs] = .ret (.ml ((liftM M m w cs rs).map intsD)) [] := by
  have hoM : isOwn (matD M) = false := rfl
  have hlM : lenD [matD M] = some (.int m) := by rw [lenD_lst, List.length_map, h.tall]
  have hix : ∀ k : Nat, k < m → ixD (matD M) (.int k) = some (intsD (gd M k [])) := fun k hk => atI_map intsD (by rw [h.tall]; exact hk) []
  generalize hP : matD M = P at hoM hlM hix ⊢
  have lc : ∀ (acc : List D) (k : Nat), k < m → lcD (range1D (callBD lenD (consD (binD ixD (varD 0) (varD 4)) (nilD)))) (gnD 5) (yesD) e__law_lifted_0 [5] [P, intsD cs, intsD rs, .ml acc, .int k, .unb] = .ok (.ml (((List.range w).map fun j => at2 M k j + gd cs j 0 + gd rs k 0).map D.int)) [P, intsD cs, intsD rs, .ml acc, .int k, .unb] := by
    intro acc k hk
    have hrow := h.row hk
    have r1 := hix k hk
    have hlr : lenD [intsD (gd M k [])] = some (.int w) := by rw [lenD_lst, List.length_map, hrow]
    have r2 := atI_map D.int (xs := rs) (i := k) (by rw [hr]; exact hk) 0
    have hrg : range1D (callBD lenD (consD (binD ixD (varD 0) (varD 4)) (nilD))) [P, intsD cs, intsD rs, .ml acc, .int k, .unb] = .ok (rangeL 0 w) [P, intsD cs, intsD rs, .ml acc, .int k, .unb] := range1_nat (by simp -implicitDefEqProofs [hoM, r1, hlr, -lenD_lst]) (by omega)
    rw [List.map_map]
    refine lcD_mapA (xs := List.range w) (env1 := [P, intsD cs, intsD rs, .ml acc, .int k, .unb]) (fun j => .int (j : Nat)) (fun j => [P, intsD cs, intsD rs, .ml acc, .int k, .int (j : Nat)]) _ (by rw [hrg, range1]) (by simp; omega) (fun j hj => ⟨?_, ?_, ?_⟩) ?_
    · simp
    · have hj := List.mem_range.mp hj
      have r3 := atI_map D.int (xs := gd M k []) (i := j) (by rw [hrow]; exact hj) 0
      have r4 := atI_map D.int (xs := cs) (i := j) (by rw [hc]; exact hj) 0
      simp -implicitDefEqProofs [e__law_lifted_0, hoM, r1, r2, r3, r4, at2]
    · simp
    · simp
  obtain ⟨zz, ef⟩ := forGo_app (g := gnD 4) (db := b__law_lifted_0) (fun k : Nat => .int k) (fun k => intsD ((List.range w).map fun j => at2 M k j + gd cs j 0 + gd rs k 0)) (fun acc z => [P, intsD cs, intsD rs, .ml acc, z, .unb]) (List.range m) [] .unb (fun k hk acc z => by
    have hk := List.mem_range.mp hk
    refine ⟨[P, intsD cs, intsD rs, .ml acc, .int k, .unb], rfl, fun hacc => ?_⟩
    have e := lc acc k hk
    have hs := lt_line hacc
    generalize (List.range w).map (fun j => at2 M k j + gd cs j 0 + gd rs k 0) = L at e ⊢
    have e2 : frzL (L.map D.int) = L.map D.int := frzL_id (fun _ => rfl) _
    simp -implicitDefEqProofs [b__law_lifted_0, e, e2, hs]) (by simp; omega)
  have hrg : range1D (callBD lenD (consD (varD 0) (nilD))) [P, intsD cs, intsD rs, .ml [], .unb, .unb] = .ok (rangeL 0 m) [P, intsD cs, intsD rs, .ml [], .unb, .unb] := range1_nat (by simp -implicitDefEqProofs [hoM, hlM, -lenD_lst]) (by omega)
  unfold d__law_lifted
  refine runR (env := [P, intsD cs, intsD rs, .unb, zz, .unb]) ?_
  refine seqN [P, intsD cs, intsD rs, .ml [], .unb, .unb] (by simp) ?_
  refine seqN _ (forN hrg (by rw [range1]; exact ef)) ?_
  simp [liftM]
theorem liftM_mat {n : Nat} {M : List (List Int)} {m w : Nat} (h : Mat n M m w) {cs rs : List Int} (hcl : cs.length = w) (hrl : rs.length = m) (hc : ∀ a ∈ cs, Sm n a) (hr : ∀ a ∈ rs, Sm n a) : Mat (n + 2) (liftM M m w cs rs) m w := by
  refine ⟨by simp [liftM], fun r hr' => ?_, fun r hr' a ha => ?_⟩
  · obtain ⟨k, _, rfl⟩ := List.mem_map.mp hr'
    simp
  · obtain ⟨k, hk, rfl⟩ := List.mem_map.mp hr'
    obtain ⟨j, hj, rfl⟩ := List.mem_map.mp ha
    have hk := List.mem_range.mp hk
    have hj := List.mem_range.mp hj
    have s1 := (h.at hk hj).add (hc _ (gd_mem (by rw [hcl]; exact hj) 0))
    exact s1.add ((hr _ (gd_mem (by rw [hrl]; exact hk) 0)).mono (by omega))
theorem liftM_at {M : List (List Int)} {m w : Nat} {cs rs : List Int} {i j : Nat} (hi : i < m) (hj : j < w) : at2 (liftM M m w cs rs) i j = at2 M i j + gd cs j 0 + gd rs i 0 := by
  have e1 : gd (liftM M m w cs rs) i [] = (List.range w).map fun j => at2 M i j + gd cs j 0 + gd rs i 0 := by
    rw [gd_get (by simp [liftM]; exact hi)]
    simp [liftM]
  show gd (gd (liftM M m w cs rs) i []) j 0 = _
  rw [e1, gd_get (by simp; exact hj)]
  simp
/-! ### names -/
def lets : List Nat := [97, 98, 99, 100, 101, 102, 103, 104, 105, 106, 107, 108, 109, 110, 111, 112, 113, 114, 115, 116, 117, 118, 119, 120, 121, 122]
def fgs : List Nat := [48, 49, 50, 51, 52, 53, 54, 55, 56, 57]
theorem letsS : ("abcdefghijklmnopqrstuvwxyz" : Str) = S lets := by decide
theorem fgsS : ("0123456789" : Str) = S fgs := by decide
theorem alnumS : ("abcdefghijklmnopqrstuvwxyz0123456789" : Str) = S (lets ++ fgs) := by decide
def signOk (c : Nat) : Bool := decide (c ∈ lets) || decide (c ∈ fgs)
def isName (l : List Nat) : Bool := decide (1 ≤ l.length) && decide (l.length ≤ 8) && (match l with | [] => false | c :: _ => decide (c ∈ lets)) && l.all signOk
theorem signOk_lt {c : Nat} (h : signOk c = true) : c < 128 := by
  have key : ∀ c ∈ lets ++ fgs, c < 128 := by decide
  refine key c ?_
  unfold signOk at h
  rcases Bool.or_eq_true_iff.mp h with h | h
  · exact List.mem_append_left _ (of_decide_eq_true h)
  · exact List.mem_append_right _ (of_decide_eq_true h)
theorem isName_ok {l : List Nat} (h : isName l = true) : okS l := fun c hc => by
  unfold isName at h
  simp only [Bool.and_eq_true] at h
  have := signOk_lt (List.all_eq_true.mp h.2 c hc)
  omega
theorem isName_len {l : List Nat} (h : isName l = true) : 1 ≤ l.length ∧ l.length ≤ 8 := by
  unfold isName at h
  simp only [Bool.and_eq_true, decide_eq_true_eq] at h
  omega
theorem name_signs {l : List Nat} (h : l.length ≤ 1000000) : lcD (itS (varD 0)) (gnD 1) yesD e_is_name_0 [1] [.str (S l), .unb] = .ok (.ml (l.map fun c => .bl (signOk c))) [.str (S l), .unb] := by
  refine lcD_mapA (xs := l) (env1 := [.str (S l), .unb]) (fun c => .str ⟨#[c]⟩) (fun c => [.str (S l), .str ⟨#[c]⟩]) _ ?_ h (fun c hc => ⟨?_, ?_, ?_⟩) ?_
  · simp [signsD_map]
  · simp
  · have h1 := inS c lets
    have h2 := inS c fgs
    cases b : decide (c ∈ lets) <;> rw [b] at h1 <;> simp [e_is_name_0, letsS, fgsS, h1, h2, signOk, b]
  · simp
  · simp
theorem len_ch {n : Nat} : leD (.int 1) (.int n) = some (.bl (decide (1 ≤ n))) ∧ ∀ k : Nat, leD (.int n) (.int k) = some (.bl (decide (n ≤ k))) := by
  rw [leD_int]
  refine ⟨congrArg (fun b => some (D.bl b)) (decide_eq_decide.mpr (by omega)), fun k => ?_⟩
  rw [leD_int]
  exact congrArg (fun b => some (D.bl b)) (decide_eq_decide.mpr (by omega))
theorem is_name_ev {l : List Nat} (h : l.length ≤ 1000000) : d_is_name [.str (S l)] = .ret (.bl (isName l)) [] := by
  have e1 := name_signs h
  have e2 : frzL (l.map fun c => D.bl (signOk c)) = l.map fun c => D.bl (signOk c) := frzL_id (fun _ => rfl) l
  have hL := lenS h
  have t1 := (len_ch (n := l.length)).1
  have t2 := (len_ch (n := l.length)).2 8
  have ea : allD [.lst (l.map fun c => D.bl (signOk c))] = some (.bl (l.all signOk)) := allD_map signOk l
  unfold d_is_name
  by_cases h1 : 1 ≤ l.length
  · by_cases h2 : l.length ≤ 8
    · obtain ⟨c, r, e⟩ : ∃ c r, l = c :: r := by
        cases l with
        | nil => simp at h1
        | cons c r => exact ⟨c, r, rfl⟩
      have i0 := ix0 h e
      have n0 := notInS c lets
      have q3 : isName l = (decide (c ∈ lets) && l.all signOk) := by subst e; simp only [isName, h1, h2, decide_true, Bool.true_and]
      rw [q3]
      cases b1 : decide (c ∈ lets) <;> rw [b1] at n0 <;> simp [runD_ap, -lenD_str, -leD_int, hL, t1, show leD (.int l.length) (.int 8) = _ from t2, e1, e2, ea, i0, letsS, n0, h1, h2]
    · have q3 : isName l = false := by simp [isName, h2]
      rw [q3]
      simp [runD_ap, -lenD_str, -leD_int, hL, t1, show leD (.int l.length) (.int 8) = _ from t2, h1, h2]
  · have q3 : isName l = false := by simp [isName, h1]
    rw [q3]
    simp [runD_ap, -lenD_str, -leD_int, hL, t1, h1]
theorem ixS {l : List Nat} (h : l.length ≤ 1000000) {i : Nat} (hi : i < l.length) : ixD (.str (S l)) (.int (i : Nat)) = some (dS [l.getD i 0]) := by
  show (if (S l).length ≤ sizeLine then (atI (S l).cps.toList (i : Int)).map fun c => D.str ⟨#[c]⟩ else none) = _
  rw [S_len, if_pos (len_line h)]
  show (atI l (i : Int)).map _ = _
  rw [atI_nat l i hi, List.getD_eq_getElem?_getD, List.getElem?_eq_getElem hi]
  rfl
theorem isName_app {l m : List Nat} (h : isName l = true) (hm : m.all signOk = true) (hl : l.length + m.length ≤ 8) : isName (l ++ m) = true := by
  have h2 := isName_len h
  cases l with
  | nil => simp at h2
  | cons c r =>
    simp only [isName, Bool.and_eq_true, decide_eq_true_eq, List.all_append, List.cons_append] at h ⊢
    simp only [List.length_cons, List.length_append] at h hl ⊢
    refine ⟨⟨⟨by omega, by omega⟩, h.1.2⟩, ?_⟩
    rw [← List.cons_append, List.all_append, h.2, hm]
    rfl
def namesD (ts : List (List Nat)) : List D := ts.map dS
theorem pigeon {α : Type} [BEq α] [LawfulBEq α] (f : Nat → α) : ∀ (n : Nat) (ts : List α), (∀ i k, i < n → k < n → f i = f k → i = k) → (∀ i < n, f i ∈ ts) → n ≤ ts.length
  | 0, _, _, _ => Nat.zero_le _
  | n + 1, ts, hi, hm => by
    have h1 := hm n (by omega)
    have h2 := pigeon f n (ts.erase (f n)) (fun i k a b => hi i k (by omega) (by omega)) fun i a => (List.mem_erase_of_ne fun e => by have := hi i n (by omega) (by omega) e; omega).mpr (hm i (by omega))
    rw [List.length_erase_of_mem h1] at h2
    have := List.length_pos_of_mem h1
    omega
theorem in_names {a : List Nat} {ts : List (List Nat)} (ha : okS a) (ht : ∀ t ∈ ts, okS t) : inD (dS a) (.lst (namesD ts)) = some (.bl (decide (a ∈ ts))) := by
  show (if fine (dS a) && fine (.lst (namesD ts)) then some (D.bl (memD (dS a) (namesD ts))) else none) = _
  have f1 := fineS ha
  have f2 : fine (.lst (namesD ts)) = true := fine_pd (n := 1) (by
    rw [pd]
    exact pdL_map fun t ht' => pdS (ht t ht') 0)
  rw [f1, f2, namesD, memD_map, Bool.and_self, if_pos rfl]
  refine congrArg (fun b => some (D.bl b)) (Bool.eq_iff_iff.mpr ?_)
  rw [List.any_eq_true]
  simp only [eqbS, decide_eq_true_eq]
  exact ⟨fun ⟨x, hx, e⟩ => e ▸ hx, fun h => ⟨a, h, rfl⟩⟩
theorem frz_names (ts : List (List Nat)) : frzL (namesD ts) = namesD ts := frzL_id (fun _ => rfl) ts
def wordsL : List (List Nat) := [[114, 111, 119, 115], [99, 111, 108, 117, 109, 110, 115], [112, 97, 121], [99, 108, 97, 105, 109], [115, 117, 114, 101], [111, 110, 101], [109, 111, 115, 116], [115, 116, 114, 117, 99, 107], [101, 118, 101, 110], [108, 101, 102, 116]]
theorem wordsS : [D.str "rows", .str "columns", .str "pay", .str "claim", .str "sure", .str "one", .str "most", .str "struck", .str "even", .str "left"] = wordsL.map dS := by
  have h : [("rows" : Str), "columns", "pay", "claim", "sure", "one", "most", "struck", "even", "left"] = wordsL.map S := by decide
  have := congrArg (List.map D.str) h
  simpa [wordsL] using this
theorem notin_names {a : List Nat} {ts : List (List Nat)} (ha : okS a) (ht : ∀ t ∈ ts, okS t) : notInD (dS a) (.lst (namesD ts)) = some (.bl (!decide (a ∈ ts))) := by
  have h := in_names ha ht
  have f1 := fineS ha
  have f2 : fine (.lst (namesD ts)) = true := fine_pd (n := 1) (by
    rw [pd]
    exact pdL_map fun t ht' => pdS (ht t ht') 0)
  have e1 : inD (dS a) (.lst (namesD ts)) = if fine (dS a) && fine (.lst (namesD ts)) then some (D.bl (memD (dS a) (namesD ts))) else none := rfl
  have e2 : notInD (dS a) (.lst (namesD ts)) = if fine (dS a) && fine (.lst (namesD ts)) then some (D.bl (!memD (dS a) (namesD ts))) else none := rfl
  rw [e1, f1, f2] at h
  rw [e2, f1, f2]
  simp only [Bool.and_self, if_true] at h ⊢
  injection h with h
  injection h with h
  rw [h]
theorem pick_str {b : Nat} {x y z : Int} (h : WOk b x y z) (hb : 1 ≤ b) {l : List Nat} (h0 : 1 ≤ l.length) (hl : l.length ≤ 1000) : ∃ c x' z', WOk (b - 1) x' y z' ∧ c ∈ l ∧ d__law_pick [wD x y z, dS l] = .ret (dS [c]) [wD x' y z'] := by
  obtain ⟨r, x', z', h1, h2, e⟩ := draw_nat (m := l.length) h hb h0 (by omega)
  have e1 := ixS (l := l) (by omega) h2
  have e2 := lenS (l := l) (by omega)
  refine ⟨l.getD r 0, x', z', h1, gd_mem h2 0, ?_⟩
  generalize l.getD r 0 = c at e1
  unfold d__law_pick
  generalize d__law_draw = f at e ⊢
  simp -implicitDefEqProofs [runD_ap, -lenD_str, e, e1, e2]
theorem pick_lst {b : Nat} {x y z : Int} (h : WOk b x y z) (hb : 1 ≤ b) {ts : List (List Nat)} (h0 : 1 ≤ ts.length) (hl : ts.length ≤ 1000) : ∃ t x' z', WOk (b - 1) x' y z' ∧ t ∈ ts ∧ d__law_pick [wD x y z, .lst (ts.map dS)] = .ret (dS t) [wD x' y z'] := by
  obtain ⟨r, x', z', h1, h2, e⟩ := draw_nat (m := ts.length) h hb h0 (by omega)
  have e1 : ixD (.lst (ts.map dS)) (.int r) = some (dS (gd ts r [])) := atI_map dS h2 []
  have e2 : lenD [.lst (ts.map dS)] = some (.int ts.length) := by rw [lenD_lst, List.length_map]
  have ho : isOwn (.lst (ts.map dS)) = false := rfl
  refine ⟨gd ts r [], x', z', h1, gd_mem h2 [], ?_⟩
  unfold d__law_pick
  generalize d__law_draw = f at e ⊢
  generalize D.lst (ts.map dS) = L at *
  simp -implicitDefEqProofs [runD_ap, e, e1, e2, ho]
/-- the texts that are tried -/
def cands (name : List Nat) (n : Nat) : List (List Nat) := name :: (List.range (n + 1)).map fun k => 110 :: TL.numL k
theorem cand_n {k : Nat} (h : k ≤ 9) : isName (110 :: TL.numL k) = true := by
  rw [TL.numL_lt (by omega)]
  have key : ∀ k ≤ 9, isName [110, 48 + k] = true := by decide
  exact key k h
theorem cands_free {name : List Nat} {ts : List (List Nat)} (hn : isName name = true) (hl : ts.length ≤ 8) : ∃ a r, ((cands name ts.length).filter fun w => !decide (w ∈ ts)) = a :: r ∧ isName a = true ∧ a ∉ ts := by
  have : ∃ m ≤ ts.length, (110 :: TL.numL m) ∉ ts := by
    refine Classical.byContradiction fun hn => ?_
    have h1 : ∀ i < ts.length + 1, (110 :: TL.numL i) ∈ ts := fun i hi => Classical.byContradiction fun h => hn ⟨i, by omega, h⟩
    have := pigeon (fun m => 110 :: TL.numL m) (ts.length + 1) ts (fun i k a b e => TL.numL_inj (List.cons.inj e).2) h1
    omega
  obtain ⟨m, hm, hx⟩ := this
  have hmem : (110 :: TL.numL m) ∈ (cands name ts.length).filter fun w => !decide (w ∈ ts) := by
    rw [List.mem_filter]
    refine ⟨List.mem_cons_of_mem _ (List.mem_map.mpr ⟨m, List.mem_range.mpr (by omega), rfl⟩), ?_⟩
    rw [decide_eq_false hx]
    rfl
  cases hf : (cands name ts.length).filter fun w => !decide (w ∈ ts) with
  | nil => rw [hf] at hmem; cases hmem
  | cons a r =>
    have ha : a ∈ (cands name ts.length).filter fun w => !decide (w ∈ ts) := by rw [hf]; exact List.mem_cons_self
    rw [List.mem_filter] at ha
    refine ⟨a, r, rfl, ?_, by simpa using ha.2⟩
    rcases List.mem_cons.mp ha.1 with e | e
    · rw [e]; exact hn
    · obtain ⟨k, hk, rfl⟩ := List.mem_map.mp e
      exact cand_n (by have := List.mem_range.mp hk; omega)
theorem wname_ev {b : Nat} {x y z : Int} (h : WOk b x y z) (hb : 12 ≤ b) {ts : List (List Nat)} (ht : ∀ t ∈ ts, okS t) (hl : ts.length ≤ 8) : ∃ (l : List Nat) (x' z' : Int), WOk (b - 12) x' y z' ∧ isName l = true ∧ l ∉ ts ∧
    d__law_name [wD x y z, .ml (namesD ts)] = .ret (dS l) [wD x' y z', .ml (namesD ts)] := by
  obtain ⟨r1, x1, z1, h1, p1, q1, e1⟩ := draw_ev (m := 5) h (by omega) (by decide) (by decide)
  obtain ⟨c, x2, z2, h2, hc, e2⟩ := pick_str (l := lets) h1 (by omega) (by decide) (by decide)
  have hc0 : isName [c] = true := by
    have : signOk c = true := by unfold signOk; rw [decide_eq_true hc]; rfl
    simp [isName, hc, this]
  let T : D := .ml (namesD ts)
  let A : D := .str (S lets)
  have hif : ∃ (x5 z5 : Int) (stem : List Nat) (k : D), WOk (b - 11) x5 y z5 ∧ isName stem = true ∧ (if isOwn k = true then D.unb else k) = k ∧ ifS (testD (binD eqD (varD 3) (constD (.int 0)))) (asgD 4 (frzD (callO 2 [0] d__law_pick (ioA 0 (consA (lstD (consD (constD (.str "rows")) (consD (constD (.str "columns")) (consD (constD (.str "pay")) (consD (constD (.str "claim")) (consD (constD (.str "sure")) (consD (constD (.str "one")) (consD (constD (.str "most")) (consD (constD (.str "struck")) (consD (constD (.str "even")) (consD (constD (.str "left")) (nilD)))))))))))) (nilA)))))) (ifS (testD (binD ltD (varD 3) (constD (.int 3)))) (forD (range1D (binD ixD (lstD (consD (constD (.int 1)) (consD (constD (.int 2)) (consD (constD (.int 7)) (nilD))))) (frzD (callO 2 [0] d__law_draw (ioA 0 (consA (constD (.int 3)) (nilA))))))) (gnD 5) b__law_name_0) (skipD)) [wD x2 y z2, T, A, .int r1, dS [c], .unb, .unb, .unb] = .nx [wD x5 y z5, T, A, .int r1, dS stem, k, .unb, .unb] := by
    by_cases h0 : r1 = 0
    · subst h0
      obtain ⟨t, x3, z3, h3, ht3, e3⟩ := pick_lst (ts := wordsL) h2 (by omega) (by decide) (by decide)
      have key : ∀ t ∈ wordsL, isName t = true := by decide
      refine ⟨x3, z3, t, .unb, h3.less (by omega), key t ht3, rfl, ?_⟩
      refine ifT (env1 := [wD x2 y z2, T, A, .int 0, dS [c], .unb, .unb, .unb]) (by simp) ?_
      have hw : lstD (consD (constD (.str "rows")) (consD (constD (.str "columns")) (consD (constD (.str "pay")) (consD (constD (.str "claim")) (consD (constD (.str "sure")) (consD (constD (.str "one")) (consD (constD (.str "most")) (consD (constD (.str "struck")) (consD (constD (.str "even")) (consD (constD (.str "left")) (nilD))))))))))) [wD x2 y z2, T, A, .int 0, dS [c], .unb, .unb, .unb] = .ok (.lst (wordsL.map dS)) [wD x2 y z2, T, A, .int 0, dS [c], .unb, .unb, .unb] := by rw [← wordsS]; simp
      generalize lstD (consD (constD (.str "rows")) (consD (constD (.str "columns")) (consD (constD (.str "pay")) (consD (constD (.str "claim")) (consD (constD (.str "sure")) (consD (constD (.str "one")) (consD (constD (.str "most")) (consD (constD (.str "struck")) (consD (constD (.str "even")) (consD (constD (.str "left")) (nilD))))))))))) = dw at hw ⊢
      generalize D.lst (wordsL.map dS) = W at hw e3
      generalize d__law_pick = f at e3 ⊢
      simp -implicitDefEqProofs [hw, e3]
    · by_cases h3 : r1 < 3
      · obtain ⟨r2, x3, z3, w3, p2, q2, e3⟩ := draw_ev (m := 3) h2 (by omega) (by decide) (by decide)
        obtain ⟨n, hn, e4⟩ : ∃ n : Nat, n ≤ 7 ∧ atI [D.int 1, .int 2, .int 7] r2 = some (.int n) := by
          have : r2 = 0 ∨ r2 = 1 ∨ r2 = 2 := by omega
          rcases this with rfl | rfl | rfl
          · exact ⟨1, by omega, rfl⟩
          · exact ⟨2, by omega, rfl⟩
          · exact ⟨7, by omega, rfl⟩
        obtain ⟨E', ef, x4, z4, l, k, g1, g2, g3, g4, rfl⟩ := forGo_inv (g := gnD 5) (db := b__law_name_0) (fun i E => ∃ (x' z' : Int) (l : List Nat) (k : D), WOk (b - 3 - i) x' y z' ∧ l.length = i + 1 ∧ isName l = true ∧ (if isOwn k = true then D.unb else k) = k ∧ E = [wD x' y z', T, A, .int r1, dS l, k, .unb, .unb])
          (rangeL 0 n) 0 [wD x3 y z3, T, A, .int r1, dS [c], .unb, .unb, .unb] ⟨x3, z3, [c], _, w3.less (by omega), rfl, hc0, rfl, rfl⟩ fun i d hd E hE => by
            obtain ⟨x5, z5, l, k, g1, g2, g3, g4, rfl⟩ := hE
            have hi : i < n := by have := List.getElem?_eq_some_iff.mp hd; obtain ⟨q, _⟩ := this; rwa [rangeL_len] at q
            obtain ⟨q, _, rfl⟩ := rangeL_mem (List.mem_of_getElem? hd)
            obtain ⟨c5, x6, z6, w6, hc5, e6⟩ := pick_str (l := lets ++ fgs) g1 (by omega) (by decide) (by decide)
            have hs5 : signOk c5 = true := by
              have key : ∀ c ∈ lets ++ fgs, signOk c = true := by decide
              exact key c5 hc5
            have e7 := addS (a := lets) (b := fgs) (by decide)
            have e8 := addS (a := l) (b := [c5]) (len_line (by simp; omega))
            refine ⟨[wD x5 y z5, T, A, .int r1, dS l, .int (0 + (q : Nat)), .unb, .unb], [wD x6 y z6, T, A, .int r1, dS (l ++ [c5]), .int (0 + (q : Nat)), .unb, .unb], rfl, .inl ?_, x6, z6, l ++ [c5], _, w6.less (by omega), by simp; omega, isName_app g3 (by simp [hs5]) (by simp; omega), rfl, rfl⟩
            unfold b__law_name_0
            generalize d__law_pick = f at e6 ⊢
            simp -implicitDefEqProofs [A, fgsS, -addD_str, e7, e6, e8]
        rw [rangeL_len, Nat.zero_add] at g1 g2
        refine ⟨x4, z4, l, k, g1.less (by omega), g3, g4, ?_⟩
        refine ifF (env1 := [wD x2 y z2, T, A, .int r1, dS [c], .unb, .unb, .unb]) (by simp [h0]) ?_
        refine ifT (env1 := [wD x2 y z2, T, A, .int r1, dS [c], .unb, .unb, .unb]) (by simp [h3]) ?_
        refine forN (range1_nat (n := n) (env1 := [wD x3 y z3, T, A, .int r1, dS [c], .unb, .unb, .unb]) ?_ (by omega)) ef
        simp -implicitDefEqProofs [e3, e4]
      · refine ⟨x2, z2, [c], .unb, h2.less (by omega), hc0, rfl, ?_⟩
        refine ifF (env1 := [wD x2 y z2, T, A, .int r1, dS [c], .unb, .unb, .unb]) (by simp [h0]) ?_
        refine ifF (env1 := [wD x2 y z2, T, A, .int r1, dS [c], .unb, .unb, .unb]) (by simp [h3]) (by simp)
  obtain ⟨x5, z5, stem, k, h5, n5, hk, e5⟩ := hif
  obtain ⟨a, rr, hf, na, ha⟩ := cands_free (name := stem) n5 hl
  have c1 : lcD (range1D (binD addD (lenO 1) (constD (.int 1)))) (gnD 5) (yesD) e__law_name_0 [5] [wD x5 y z5, T, A, .int r1, dS stem, k, .unb, .unb] = .ok (.ml ((List.range (ts.length + 1)).map fun k => dS (110 :: TL.numL k))) [wD x5 y z5, T, A, .int r1, dS stem, k, .unb, .unb] := by
    refine lcD_mapA (xs := List.range (ts.length + 1)) (env1 := [wD x5 y z5, T, A, .int r1, dS stem, k, .unb, .unb]) (fun k => .int (k : Nat)) (fun k => [wD x5 y z5, T, A, .int r1, dS stem, .int (k : Nat), .unb, .unb]) _ ?_ (by simp; omega) (fun q hq => ⟨?_, ?_, ?_⟩) ?_
    · rw [← range1]
      refine range1_nat ?_ (by omega)
      simp [T, namesD]
    · simp
    · have hq := List.mem_range.mp hq
      have e6 := strS q (Nat.lt_of_le_of_lt (m := 9) (by omega) (by decide +kernel))
      have e7 := addS (a := [110]) (b := TL.numL q) (len_line (by rw [TL.numL_lt (by omega)]; simp))
      have nS : ("n" : Str) = S [110] := by decide
      simp -implicitDefEqProofs [e__law_name_0, nS, -strD_int, -addD_str, e6, e7]
    · simp
    · simp [hk]
  have c2 : lcD (itS (varD 6)) (gnD 7) (testD (cmpR notInD 1 (varD 7))) e__law_name_1 [7] [wD x5 y z5, T, A, .int r1, dS stem, k, .lst ((cands stem ts.length).map dS), .unb] = .ok (.ml (((cands stem ts.length).filter fun w => !decide (w ∈ ts)).map dS)) [wD x5 y z5, T, A, .int r1, dS stem, k, .lst ((cands stem ts.length).map dS), .unb] := by
    have okc : ∀ w ∈ cands stem ts.length, okS w := fun w hw => by
      rcases List.mem_cons.mp hw with e | e
      · rw [e]; exact isName_ok n5
      · obtain ⟨q, hq, rfl⟩ := List.mem_map.mp e
        exact isName_ok (cand_n (by have := List.mem_range.mp hq; omega))
    have lc : (cands stem ts.length).length ≤ 1000000 := by simp [cands]; omega
    generalize cands stem ts.length = C at okc lc
    refine lcD_filterA (xs := C) (env1 := [wD x5 y z5, T, A, .int r1, dS stem, k, .lst (C.map dS), .unb]) dS (fun w => [wD x5 y z5, T, A, .int r1, dS stem, k, .lst (C.map dS), dS w]) _ _ ?_ lc (fun w hw => ⟨?_, ?_, fun _ => ?_, ?_⟩) ?_
    · simp
    · simp
    · have := notin_names (okc w hw) ht
      simp -implicitDefEqProofs [T, frz_names, this]
    · simp [e__law_name_1]
    · simp
    · simp
  refine ⟨a, x5, z5, h5.less (by omega), na, ha, ?_⟩
  have f1 : frzL ((List.range (ts.length + 1)).map fun k => dS (110 :: TL.numL k)) = (List.range (ts.length + 1)).map fun k => dS (110 :: TL.numL k) := frzL_id (fun _ => rfl) _
  have f2 : frzL (((cands stem ts.length).filter fun w => !decide (w ∈ ts)).map dS) = ((cands stem ts.length).filter fun w => !decide (w ∈ ts)).map dS := frzL_id (fun _ => rfl) _
  have f3 : (cands stem ts.length).map dS = dS stem :: (List.range (ts.length + 1)).map fun k => dS (110 :: TL.numL k) := by
    unfold cands
    rw [List.map_cons, List.map_map]
    rfl
  rw [hf] at c2 f2
  unfold d__law_name
  refine runR (env := [wD x5 y z5, T, A, .int r1, dS stem, k, .lst ((cands stem ts.length).map dS), .unb]) ?_
  refine seqN [wD x y z, T, A, .unb, .unb, .unb, .unb, .unb] (by simp [letsS, A, T]) ?_
  refine seqN [wD x1 y z1, T, A, .int r1, .unb, .unb, .unb, .unb] (by generalize d__law_draw = f at e1 ⊢; simp -implicitDefEqProofs [A, e1]) ?_
  refine seqN [wD x2 y z2, T, A, .int r1, dS [c], .unb, .unb, .unb] (by generalize d__law_pick = f at e2 ⊢; simp -implicitDefEqProofs [A, e2]) ?_
  refine seqN _ e5 ?_
  refine seqN [wD x5 y z5, T, A, .int r1, dS stem, k, .lst ((cands stem ts.length).map dS), .unb] ?_ ?_
  · rw [f3]
    have hle : 1 + ((List.range (ts.length + 1)).map fun k => dS (110 :: TL.numL k)).length ≤ sizeLine := len_line (by simp; omega)
    generalize (List.range (ts.length + 1)).map (fun k => dS (110 :: TL.numL k)) = L at c1 f1 hle ⊢
    have ha : addD (.lst [dS stem]) (.lst L) = some (.lst (dS stem :: L)) := by
      rw [addD_lst, if_pos (by simpa using hle)]
      rfl
    simp -implicitDefEqProofs [c1, f1, ha, -addD_lst]
  · refine retR (env1 := [wD x5 y z5, T, A, .int r1, dS stem, k, .lst ((cands stem ts.length).map dS), .unb]) ?_
    rw [List.map_cons] at c2 f2
    simp -implicitDefEqProofs [c2]
theorem wnames_ev {b : Nat} {x y z : Int} (h : WOk b x y z) {n : Nat} (hn : n ≤ 8) (hb : 12 * n ≤ b) : ∃ (ts : List (List Nat)) (x' z' : Int), WOk (b - 12 * n) x' y z' ∧ ts.length = n ∧ (∀ t ∈ ts, isName t = true) ∧ ts.Nodup ∧
    d__law_names [wD x y z, .int n] = .ret (.ml (namesD ts)) [wD x' y z'] := by
  obtain ⟨E', ef, x3, z3, ts, k3, h3, g3, n3, d3, rfl⟩ := forGo_inv (g := gnD 3) (db := b__law_names_0) (fun c E => ∃ (x' z' : Int) (ts : List (List Nat)) (k : D), WOk (b - 12 * c) x' y z' ∧ ts.length = c ∧ (∀ t ∈ ts, isName t = true) ∧ ts.Nodup ∧ E = [wD x' y z', .int n, .ml (namesD ts), k])
    (rangeL 0 n) 0 [wD x y z, .int n, .ml [], .unb] ⟨x, z, [], _, h, rfl, fun _ h => (by cases h), List.nodup_nil, rfl⟩ fun i d hd E hE => by
      obtain ⟨x4, z4, ts, k, h4, g4, n4, d4, rfl⟩ := hE
      have hi : i < n := by have := List.getElem?_eq_some_iff.mp hd; obtain ⟨q, _⟩ := this; rwa [rangeL_len] at q
      obtain ⟨l, x5, z5, h5, k5, k6, e5⟩ := wname_ev h4 (by omega) (ts := ts) (fun t ht => isName_ok (n4 t ht)) (by omega)
      have hs : (namesD ts).length < sizeLine := lt_line (by simp [namesD]; omega)
      refine ⟨[wD x4 y z4, .int n, .ml (namesD ts), d], [wD x5 y z5, .int n, .ml (namesD (ts ++ [l])), d], rfl, .inl ?_, x5, z5, ts ++ [l], d, h5.less (by omega), by simp; omega, fun t ht => ?_, ?_, rfl⟩
      · have e6 : namesD (ts ++ [l]) = namesD ts ++ [dS l] := by simp [namesD]
        rw [e6]
        unfold b__law_names_0
        generalize d__law_name = f at e5 ⊢
        simp -implicitDefEqProofs [e5, hs]
      · rcases List.mem_append.mp ht with ht | ht
        · exact n4 t ht
        · rw [List.mem_singleton.mp ht]; exact k5
      · rw [List.nodup_append]
        refine ⟨d4, (by simp), fun a ha b hb e => ?_⟩
        rw [List.mem_singleton.mp hb] at e
        exact k6 (e ▸ ha)
  rw [rangeL_len, Nat.zero_add] at g3 h3
  refine ⟨ts, x3, z3, h3, g3, n3, d3, ?_⟩
  have hr : range1D (varD 1) [wD x y z, .int n, .ml [], .unb] = .ok (rangeL 0 n) [wD x y z, .int n, .ml [], .unb] := range1_nat (by simp) (by omega)
  unfold d__law_names
  refine runR (env := [wD x3 y z3, .int n, .unb, k3]) ?_
  refine seqN [wD x y z, .int n, .ml [], .unb] (by simp) ?_
  exact seqN _ (forN hr ef) (by simp)
abbrev pairD (p : Int × Int) : D := .tup [.int p.1, .int p.2]
abbrev rowD (r : List (Int × Int)) : D := .lst (r.map pairD)
def SmR (r : List (Int × Int)) : Prop := ∀ p ∈ r, Sm 80 p.1 ∧ Sm 80 p.2
structure Tab (T : List (List (Int × Int))) (m w : Nat) : Prop where
  tall : T.length = m
  wide : ∀ r ∈ T, r.length = w
  sm : ∀ r ∈ T, SmR r
theorem SmR.snoc {r : List (Int × Int)} {p : Int × Int} (h : SmR r) (h1 : Sm 80 p.1) (h2 : Sm 80 p.2) : SmR (r ++ [p]) := fun q hq => by
  rcases List.mem_append.mp hq with hq | hq
  · exact h q hq
  · rw [List.mem_singleton.mp hq]; exact ⟨h1, h2⟩
/-! ### games -/
theorem S_inj {a b : List Nat} (h : S a = S b) : a = b := by
  have := congrArg (fun z : Str => z.cps.toList) h
  simpa [S] using this
/-- names handed in as a list or a tuple -/
structure NmD (d : D) (ts : List (List Nat)) : Prop where
  kind : d = .lst (namesD ts) ∨ d = .tup (namesD ts)
theorem NmD.l (ts : List (List Nat)) : NmD (.lst (namesD ts)) ts := ⟨.inl rfl⟩
theorem NmD.t (ts : List (List Nat)) : NmD (.tup (namesD ts)) ts := ⟨.inr rfl⟩
theorem NmD.own {d : D} {ts : List (List Nat)} (h : NmD d ts) : isOwn d = false := by rcases h.kind with rfl | rfl <;> rfl
theorem NmD.src {d : D} {ts : List (List Nat)} (h : NmD d ts) : srcOf d = some (namesD ts) := by rcases h.kind with rfl | rfl <;> rfl
theorem NmD.len {d : D} {ts : List (List Nat)} (h : NmD d ts) : lenD [d] = some (.int ts.length) := by rcases h.kind with rfl | rfl <;> simp [namesD]
theorem NmD.tup {d : D} {ts : List (List Nat)} (h : NmD d ts) : tupleD [d] = some (.tup (namesD ts)) := by rcases h.kind with rfl | rfl <;> rfl
theorem asked_names_ev {d : D} {ts : List (List Nat)} (hd : NmD d ts) (h : ∀ t ∈ ts, isName t = true) : d_asked_names [d] = .ret .non [] := by
  have ho := hd.own
  have hsr := hd.src
  obtain ⟨E', ef, z, rfl⟩ := forGo_inv (g := gnD 1) (db := b_asked_names_0) (fun c E => ∃ z, E = [d, z]) (namesD ts) 0 [d, .unb] ⟨_, rfl⟩ fun i x hx E hE => by
    obtain ⟨z, rfl⟩ := hE
    obtain ⟨t, ht, rfl⟩ := List.mem_map.mp (List.mem_of_getElem? hx)
    have e := is_name_ev (l := t) (by have := isName_len (h t ht); omega)
    rw [h t ht] at e
    exact ⟨[d, dS t], [d, dS t], rfl, .inl (by simp [b_asked_names_0, e]), dS t, rfl⟩
  unfold d_asked_names
  exact runN (forN (env1 := [d, .unb]) (by simp [ho, hsr]) ef)
theorem once_go : ∀ (ts pre : List (List Nat)) (w z : D) (vs : List D), (pre ++ ts).Nodup → vs.length + ts.length ≤ 1000 → ∃ ks vs' z', forGo (gnD 2) b_asked_once_0 (namesD ts) [w, .md (pre.map fun t => Sum.inr (S t)) vs, z] = .nx [w, .md ks vs', z']
  | [], pre, w, z, vs, _, _ => ⟨_, _, _, rfl⟩
  | t :: ts, pre, w, z, vs, hn, hl => by
    have hk : hasK (.inr (S t)) (pre.map fun t => Sum.inr (S t)) = false := by
      unfold hasK
      rw [List.any_map, List.any_eq_false]
      intro x hx e
      have e := of_decide_eq_true e
      injection e with e
      have := S_inj e
      subst this
      rw [List.nodup_append] at hn
      exact hn.2.2 x hx x (by simp) rfl
    obtain ⟨ks, vs', z', e⟩ := once_go ts (pre ++ [t]) w (dS t) (vs ++ [.bl true]) (by simpa using hn) (by simp at hl ⊢; omega)
    refine ⟨ks, vs', z', ?_⟩
    have hs : vs.length < sizeLine := lt_line (by simp at hl; omega)
    have hb : b_asked_once_0 [w, .md (pre.map fun t => Sum.inr (S t)) vs, dS t] = .nx [w, .md ((pre ++ [t]).map fun t => Sum.inr (S t)) (vs ++ [.bl true]), dS t] := by
      unfold b_asked_once_0
      refine seqN [w, .md (pre.map fun t => Sum.inr (S t)) vs, dS t] (ifF (env1 := [w, .md (pre.map fun t => Sum.inr (S t)) vs, dS t]) ?_ rfl) ?_
      · simp [dinD, keyD, hk]
      · simp [dputD, keyD, putKs, putDs, hk, hs]
    show forGo _ _ (dS t :: namesD ts) _ = _
    rw [forGo_nx (e1 := [w, .md (pre.map fun t => Sum.inr (S t)) vs, dS t]) rfl hb, e]
theorem asked_once_ev {d : D} {ts : List (List Nat)} (hd : NmD d ts) (h : ts.Nodup) (hl : ts.length ≤ 1000) : d_asked_once [d] = .ret .non [] := by
  have ho := hd.own
  have hsr := hd.src
  obtain ⟨ks, vs, z, e⟩ := once_go ts [] d .unb [] (by simpa using h) (by simpa using hl)
  unfold d_asked_once
  exact runN (seqN [d, .md [] [], .unb] (by simp) (forN (env1 := [d, .md [] [], .unb]) (by simp [ho, hsr]) e))
theorem asked_some_ev {d : D} {ts : List (List Nat)} (hN : NmD d ts) (a : Str) (h : ∀ t ∈ ts, isName t = true) (hd : ts.Nodup) (h1 : 1 ≤ ts.length) (h4 : ts.length ≤ 4) : d_asked_some [.str a, d] = .ret .non [] := by
  have e1 := asked_names_ev hN h
  have e2 := asked_once_ev hN hd (by omega)
  have t1 : (1 : Int) ≤ (ts.length : Int) := by omega
  have t2 : (ts.length : Int) ≤ 4 := by omega
  have e3 := hN.len
  have ho := hN.own
  unfold d_asked_some
  simp -implicitDefEqProofs [runD_ap, e1, e2, e3, t1, t2, ho]
theorem asked_pays_ev {T : List (List (Int × Int))} {m w : Nat} (h : Tab T m w) : d_asked_pays [.lst (T.map rowD), .int m, .int w] = .ret .non [] := by
  obtain ⟨E', ef, z, rfl⟩ := forGo_inv (g := gnD 3) (db := b_asked_pays_0) (fun c E => ∃ z, E = [.lst (T.map rowD), .int m, .int w, z]) (T.map rowD) 0 [.lst (T.map rowD), .int m, .int w, .unb] ⟨_, rfl⟩ fun i d hd E hE => by
    obtain ⟨z, rfl⟩ := hE
    obtain ⟨r, hr, rfl⟩ := List.mem_map.mp (List.mem_of_getElem? hd)
    exact ⟨[.lst (T.map rowD), .int m, .int w, rowD r], [.lst (T.map rowD), .int m, .int w, rowD r], rfl, .inl (by simp [b_asked_pays_0, h.wide r hr]), _, rfl⟩
  unfold d_asked_pays
  exact runN (seqN [.lst (T.map rowD), .int m, .int w, .unb] (by simp [h.tall]) (forN (by simp) ef))
abbrev tupR (r : List (Int × Int)) : D := .tup (r.map pairD)
abbrev gameL (ns ms : List (List Nat)) (T : List (List (Int × Int))) : List D := [.tup [.tup (namesD ns), .tup (namesD ms)], .tup (T.map tupR)]
abbrev gameD (ns ms : List (List Nat)) (T : List (List (Int × Int))) : D := .ins "Game" (gameL ns ms T)
structure GOk (ns ms : List (List Nat)) (T : List (List (Int × Int))) : Prop where
  an : ∀ t ∈ ns, isName t = true
  am : ∀ t ∈ ms, isName t = true
  dn : ns.Nodup
  dm : ms.Nodup
  n1 : 1 ≤ ns.length
  n4 : ns.length ≤ 4
  m1 : 1 ≤ ms.length
  m4 : ms.length ≤ 4
  tab : Tab T ns.length ms.length
theorem init_row {r : List (Int × Int)} (hr : r.length ≤ 1000) (g a b c : D) : e_Game_init_1 [g, a, b, c, rowD r, .unb, .unb] = .ok (tupR r) [g, a, b, c, rowD r, .unb, .unb] := by
  have e : lcD (itS (varD 4)) (gTupD (gConsD (gnD 5) (gConsD (gnD 6) (gNilD)))) (yesD) e_Game_init_0 [5, 6] [g, a, b, c, rowD r, .unb, .unb] = .ok (.ml (r.map pairD)) [g, a, b, c, rowD r, .unb, .unb] := by
    refine lcD_mapA (xs := r) (env1 := [g, a, b, c, rowD r, .unb, .unb]) pairD (fun p => [g, a, b, c, rowD r, .int p.1, .int p.2]) _ ?_ (by omega) (fun p hp => ⟨?_, ?_, ?_⟩) ?_
    · simp
    · simp
    · simp [e_Game_init_0]
    · simp
    · simp
  have e2 : frzL (r.map pairD) = r.map pairD := frzL_id (fun _ => rfl) _
  simp [e_Game_init_1, e, e2]
theorem init_rows {ns ms : List (List Nat)} {T : List (List (Int × Int))} (h : GOk ns ms T) {P : D} (hP : isOwn P = false) (hs : srcOf P = some (T.map rowD)) (g a b : D) : lcD (itS (varD 3)) (gnD 4) (yesD) e_Game_init_1 [4, 5, 6] [g, a, b, P, .unb, .unb, .unb] = .ok (.ml (T.map tupR)) [g, a, b, P, .unb, .unb, .unb] := by
  refine lcD_mapA (xs := T) (env1 := [g, a, b, P, .unb, .unb, .unb]) rowD (fun r => [g, a, b, P, rowD r, .unb, .unb]) _ ?_ (by have := h.tab.tall; have := h.n4; omega) (fun r hr => ⟨?_, ?_, ?_⟩) ?_
  · simp [hP, hs]
  · simp
  · exact init_row (by have := h.tab.wide r hr; have := h.m4; omega) g _ _ P
  · simp
  · simp
theorem init_ev {ns ms : List (List Nat)} {T : List (List (Int × Int))} (h : GOk ns ms T) {A B : D} (hA : NmD A ns) (hB : NmD B ms) : d_Game_init [.mi "Game" [], A, B, .lst (T.map rowD)] = .ret .non [.mi "Game" (gameL ns ms T)] := by
  have e1 := asked_some_ev hA "rows" h.an h.dn h.n1 h.n4
  have e2 := asked_some_ev hB "columns" h.am h.dm h.m1 h.m4
  have e3 := asked_pays_ev h.tab
  have l1 := hA.len
  have l2 := hB.len
  have o1 := hA.own
  have o2 := hB.own
  have t1 := hA.tup
  have t2 := hB.tup
  let P : D := .lst (T.map rowD)
  have e4 := fun g => init_rows (P := P) h rfl rfl g A B
  have e5 : frzL (T.map tupR) = T.map tupR := frzL_id (fun _ => rfl) _
  unfold d_Game_init
  refine runN (env := [.mi "Game" (gameL ns ms T), A, B, P, .unb, .unb, .unb]) ?_
  refine seqN [.mi "Game" [], A, B, P, .unb, .unb, .unb] (by simp -implicitDefEqProofs [e1, P, o1]) ?_
  refine seqN [.mi "Game" [], A, B, P, .unb, .unb, .unb] (by simp -implicitDefEqProofs [e2, P, o2]) ?_
  refine seqN [.mi "Game" [], A, B, P, .unb, .unb, .unb] (by simp -implicitDefEqProofs [e3, P, l1, l2, o1, o2]) ?_
  refine seqN [.mi "Game" [.tup [.tup (namesD ns), .tup (namesD ms)]], A, B, P, .unb, .unb, .unb] (by simp -implicitDefEqProofs [o1, o2, t1, t2]) ?_
  have e6 := e4 (.mi "Game" [.tup [.tup (namesD ns), .tup (namesD ms)]])
  simp -implicitDefEqProofs [e6, e5]
def sz (ns ms : List (List Nat)) (s : Int) : Nat := if s = 0 then ns.length else ms.length
theorem side_not (s : Int) : notInD (.int s) (.tup [.int 0, .int 1]) = some (.bl (!decide (s = 0 ∨ s = 1))) := by
  show (if fine (.int s) && fine (.tup [.int 0, .int 1]) then some (D.bl (!memD (.int s) [.int 0, .int 1])) else none) = _
  rw [fine_int, fine_tup2, Bool.and_self, if_pos rfl]
  have : memD (.int s) [.int 0, .int 1] = decide (s = 0 ∨ s = 1) := by
    unfold memD
    rw [List.any_cons, List.any_cons, List.any_nil, eqb_int, eqb_int, Bool.or_false]
    refine Bool.eq_iff_iff.mpr ?_
    simp only [Bool.or_eq_true, decide_eq_true_eq]
    exact ⟨fun h => by omega, fun h => by omega⟩
  rw [this]
theorem sz_pos {ns ms : List (List Nat)} {T : List (List (Int × Int))} (h : GOk ns ms T) (s : Int) : 1 ≤ sz ns ms s ∧ sz ns ms s ≤ 4 := by
  have := h.n1
  have := h.n4
  have := h.m1
  have := h.m4
  unfold sz
  split <;> omega
theorem size_ev (ns ms : List (List Nat)) (T : List (List (Int × Int))) {s : Int} (hs : s = 0 ∨ s = 1) : d_Game_size [gameD ns ms T, .int s] = .ret (.int (sz ns ms s)) [] := by
  have l1 : (namesD ns).length = ns.length := by simp [namesD]
  have l2 : (namesD ms).length = ms.length := by simp [namesD]
  have e := side_not s
  unfold d_Game_size
  rcases hs with rfl | rfl
  · simp [runD_ap, e, sz, l1]
  · simp [runD_ap, e, sz, l2]
def cell (T : List (List (Int × Int))) (i j : Nat) : Int × Int := gd (gd T i []) j (0, 0)
theorem pay_ev {ns ms : List (List Nat)} {T : List (List (Int × Int))} (h : GOk ns ms T) {i j : Nat} (hi : i < ns.length) (hj : j < ms.length) : d_Game_pay [gameD ns ms T, .int i, .int j] = .ret (pairD (cell T i j)) [] := by
  have l1 : (namesD ns).length = ns.length := by simp [namesD]
  have l2 : (namesD ms).length = ms.length := by simp [namesD]
  have hT : i < T.length := by rw [h.tab.tall]; exact hi
  have e1 := atI_map tupR hT []
  have hr : gd T i [] ∈ T := by
    exact gd_mem hT _
  have e2 := atI_map pairD (xs := gd T i []) (i := j) (by rw [h.tab.wide _ hr]; exact hj) (0, 0)
  have t1 : (0 : Int) ≤ (i : Int) := by omega
  have t2 : (0 : Int) ≤ (j : Int) := by omega
  have ef : forGo (gTupD (gConsD (gnD 3) (gConsD (gnD 4) (gNilD)))) b_Game_pay_0 [.tup [.int (0 : Nat), .int i], .tup [.int (1 : Nat), .int j]] [gameD ns ms T, .int i, .int j, .unb, .unb] = .nx [gameD ns ms T, .int i, .int j, .int (1 : Nat), .int j] := by
    rw [forGo_nx (e1 := [gameD ns ms T, .int i, .int j, .int (0 : Nat), .int i]) (e2 := [gameD ns ms T, .int i, .int j, .int (0 : Nat), .int i]) rfl (by simp [b_Game_pay_0, l1, hi]),
      forGo_nx (e1 := [gameD ns ms T, .int i, .int j, .int (1 : Nat), .int j]) (e2 := [gameD ns ms T, .int i, .int j, .int (1 : Nat), .int j]) rfl (by simp [b_Game_pay_0, l2, hj])]
    rfl
  unfold d_Game_pay
  refine runR (env := [gameD ns ms T, .int i, .int j, .int (1 : Nat), .int j]) (seqN _ (forN (ds := [.tup [.int (0 : Nat), .int i], .tup [.int (1 : Nat), .int j]]) (env1 := [gameD ns ms T, .int i, .int j, .unb, .unb]) ?_ ef) ?_)
  · simp [enumL]
  · refine retR (env1 := [gameD ns ms T, .int i, .int j, .int (1 : Nat), .int j]) ?_
    simp [e1, e2, cell]
theorem cell_sm {ns ms : List (List Nat)} {T : List (List (Int × Int))} (h : GOk ns ms T) (i j : Nat) : Sm 80 (cell T i j).1 ∧ Sm 80 (cell T i j).2 := by
  have z : Sm 80 (0 : Int) := by unfold Sm; decide
  unfold cell gd
  rw [List.getD_eq_getElem?_getD, List.getD_eq_getElem?_getD]
  cases e : T[i]? with
  | none => exact ⟨z, z⟩
  | some r =>
    have hr := h.tab.sm r (List.mem_of_getElem? e)
    rw [Option.getD_some]
    cases e2 : r[j]? with
    | none => exact ⟨z, z⟩
    | some p => exact hr p (List.mem_of_getElem? e2)
/-! ### games of two matrices -/
def zipT (A B : List (List Int)) : List (List (Int × Int)) := (List.zip A B).map fun p => List.zip p.1 p.2
theorem zipT_tab {n : Nat} {A B : List (List Int)} {m w : Nat} (hA : Mat n A m w) (hB : Mat n B m w) (hn : n ≤ 80) : Tab (zipT A B) m w := by
  refine ⟨by simp [zipT, hA.tall, hB.tall], fun r hr => ?_, fun r hr p hp => ?_⟩
  · obtain ⟨q, hq, rfl⟩ := List.mem_map.mp hr
    obtain ⟨q1, q2⟩ := List.of_mem_zip hq
    simp [hA.wide _ q1, hB.wide _ q2]
  · obtain ⟨q, hq, rfl⟩ := List.mem_map.mp hr
    obtain ⟨q1, q2⟩ := List.of_mem_zip hq
    obtain ⟨p1, p2⟩ := List.of_mem_zip hp
    exact ⟨(hA.sm _ q1 _ p1).mono hn, (hB.sm _ q2 _ p2).mono hn⟩
theorem cell_zip {n : Nat} {A B : List (List Int)} {m w : Nat} (hA : Mat n A m w) (hB : Mat n B m w) {i j : Nat} (hi : i < m) (hj : j < w) : cell (zipT A B) i j = (at2 A i j, at2 B i j) := by
  have ha : i < A.length := by rw [hA.tall]; exact hi
  have hb : i < B.length := by rw [hB.tall]; exact hi
  have e1 : gd (zipT A B) i [] = List.zip (gd A i []) (gd B i []) := by
    rw [gd_get (by simp [zipT]; omega), gd_get ha, gd_get hb]
    simp [zipT]
  have hra := hA.row hi
  have hrb := hB.row hi
  unfold cell at2
  rw [e1, gd_zip (by omega) (by omega)]
/-! ### squares and crosses -/
def two (n : Nat) : List (Nat × Nat) := (List.range n).flatMap fun i => (List.range (n - (i + 1))).map fun k => (i, i + 1 + k)
theorem two_mem {n i k : Nat} : (i, k) ∈ two n ↔ i < k ∧ k < n := by
  unfold two
  rw [List.mem_flatMap]
  constructor
  · rintro ⟨x, hx, h⟩
    obtain ⟨q, hq, e⟩ := List.mem_map.mp h
    have hx := List.mem_range.mp hx
    have hq := List.mem_range.mp hq
    injection e with e1 e2
    omega
  · rintro ⟨h1, h2⟩
    exact ⟨i, List.mem_range.mpr (by omega), List.mem_map.mpr ⟨k - (i + 1), List.mem_range.mpr (by omega), by rw [show i + 1 + (k - (i + 1)) = k by omega]⟩⟩
abbrev twoD (p : Nat × Nat) : D := .tup [.int (p.1 : Nat), .int (p.2 : Nat)]
theorem two_ev {n : Nat} (hn : n ≤ 4) : d_two_of [.int n] = .ret (.ml ((two n).map twoD)) [] := by
  have e : lc2D (range1D (varD 0)) (gnD 1) (yesD) (range2D (binD addD (varD 1) (constD (.int 1))) (varD 0)) (gnD 2) (yesD) e_two_of_0 [1, 2] [2] [.int n, .unb, .unb] = .ok (.ml ((List.range n).flatMap fun i => (List.range (n - (i + 1))).map fun k => twoD (i, i + 1 + k))) [.int n, .unb, .unb] := by
    refine lc2D_A (xs := List.range n) (env1 := [.int n, .unb, .unb]) (fun i => List.range (n - (i + 1))) (fun i => .int (i : Nat)) (fun i => [.int n, .int (i : Nat), .unb]) (fun i k => .int ((i + 1 + k : Nat) : Int)) (fun i k => [.int n, .int (i : Nat), .int ((i + 1 + k : Nat) : Int)]) _ (by rw [range1_nat (n := n) (env1 := [.int n, .unb, .unb]) (by simp) (by omega), range1]) (by simp; omega) ?_ (fun i hi => ⟨?_, ?_, ?_, fun k hk => ⟨?_, ?_, ?_⟩⟩) ?_
    · have : n = 0 ∨ n = 1 ∨ n = 2 ∨ n = 3 ∨ n = 4 := by omega
      rcases this with rfl | rfl | rfl | rfl | rfl <;> simp <;> decide
    · simp
    · exact range2_nat (i := i + 1) (j := n) (env1 := [.int n, .int (i : Nat), .unb]) (by simp) (by simp) (by have := List.mem_range.mp hi; omega) (by omega)
    · simp
    · simp
    · simp [e_two_of_0]
    · simp
    · simp
  have e2 : (two n).map twoD = (List.range n).flatMap fun i => (List.range (n - (i + 1))).map fun k => twoD (i, i + 1 + k) := by
    unfold two
    rw [List.map_flatMap]
    refine congrArg (fun h => (List.range n).flatMap h) (funext fun i => ?_)
    rw [List.map_map]
    rfl
  rw [e2]
  unfold d_two_of
  exact runR (env := [.int n, .unb, .unb]) (retR e)
abbrev Sq := (Nat × Nat) × (Nat × Nat)
abbrev sqD (q : Sq) : D := .tup [.int (q.1.1 : Nat), .int (q.1.2 : Nat), .int (q.2.1 : Nat), .int (q.2.2 : Nat)]
def sqs (m w : Nat) : List Sq := (two m).flatMap fun p => (two w).map fun q => (p, q)
theorem sqs_mem {m w : Nat} {q : Sq} : q ∈ sqs m w ↔ (q.1.1 < q.1.2 ∧ q.1.2 < m) ∧ q.2.1 < q.2.2 ∧ q.2.2 < w := by
  obtain ⟨⟨i, k⟩, ⟨j, l⟩⟩ := q
  unfold sqs
  rw [List.mem_flatMap]
  constructor
  · rintro ⟨p, hp, h⟩
    obtain ⟨q, hq, e⟩ := List.mem_map.mp h
    injection e with e1 e2
    subst e1 e2
    exact ⟨two_mem.mp hp, two_mem.mp hq⟩
  · rintro ⟨h1, h2⟩
    exact ⟨(i, k), two_mem.mpr h1, List.mem_map.mpr ⟨(j, l), two_mem.mpr h2, rfl⟩⟩
theorem two_len {n : Nat} (h : n ≤ 4) : (two n).length ≤ 6 := by
  have : n = 0 ∨ n = 1 ∨ n = 2 ∨ n = 3 ∨ n = 4 := by omega
  rcases this with rfl | rfl | rfl | rfl | rfl <;> decide
theorem sqs_len {m w : Nat} (hm : m ≤ 4) (hw : w ≤ 4) : (sqs m w).length ≤ 36 := by
  have h1 : m = 0 ∨ m = 1 ∨ m = 2 ∨ m = 3 ∨ m = 4 := by omega
  have h2 : w = 0 ∨ w = 1 ∨ w = 2 ∨ w = 3 ∨ w = 4 := by omega
  rcases h1 with rfl | rfl | rfl | rfl | rfl <;> rcases h2 with rfl | rfl | rfl | rfl | rfl <;> decide
theorem squares_ev {ns ms : List (List Nat)} {T : List (List (Int × Int))} (h : GOk ns ms T) : d_squares [gameD ns ms T] = .ret (.ml ((sqs ns.length ms.length).map sqD)) [] := by
  have n4 := h.n4
  have m4 := h.m4
  have s0 := size_ev ns ms T (s := 0) (.inl rfl)
  have s1 := size_ev ns ms T (s := 1) (.inr rfl)
  have z0 : sz ns ms 0 = ns.length := by simp [sz]
  have z1 : sz ns ms 1 = ms.length := by simp [sz]
  rw [z0] at s0
  rw [z1] at s1
  have t0 := two_ev n4
  have t1 := two_ev m4
  have f0 : frz (.ml ((two ns.length).map twoD)) = .lst ((two ns.length).map twoD) := by rw [frz_ml, frzL_id (fun _ => rfl)]
  have f1 : frz (.ml ((two ms.length).map twoD)) = .lst ((two ms.length).map twoD) := by rw [frz_ml, frzL_id (fun _ => rfl)]
  have hs0 : srcOf (.lst ((two ns.length).map twoD)) = some ((two ns.length).map twoD) := rfl
  have hs1 : srcOf (.lst ((two ms.length).map twoD)) = some ((two ms.length).map twoD) := rfl
  have hl0 := two_len n4
  have hl1 := two_len m4
  have hll : ((two ns.length).flatMap fun p => (two ms.length).map fun q => sqD (p, q)).length ≤ 1000000 := by
    have := sqs_len n4 m4
    have e : ((two ns.length).flatMap fun p => (two ms.length).map fun q => sqD (p, q)) = (sqs ns.length ms.length).map sqD := by
      unfold sqs
      rw [List.map_flatMap]
      refine congrArg (fun h => (two ns.length).flatMap h) (funext fun i => ?_)
      rw [List.map_map]
      rfl
    rw [e, List.length_map]
    omega
  generalize hGd : gameD ns ms T = G at s0 s1 ⊢
  have hoG : isOwn G = false := by rw [← hGd]; rfl
  have hsG : selfD "Game" G = true := by rw [← hGd]; exact selfD_ins _ _
  generalize hTm0 : D.ml ((two ns.length).map twoD) = M0 at t0 f0
  generalize hTm1 : D.ml ((two ms.length).map twoD) = M1 at t1 f1
  generalize hL0 : D.lst ((two ns.length).map twoD) = L0 at f0 hs0
  generalize hL1 : D.lst ((two ms.length).map twoD) = L1 at f1 hs1
  have e : lc2D (itS (frzD (callO 1 [] d_two_of (consA (frzD (methO "Game" 2 [] d_Game_size (varD 0) (consA (constD (.int 0)) (nilA)))) (nilA))))) (gTupD (gConsD (gnD 1) (gConsD (gnD 2) (gNilD)))) (yesD) (itS (frzD (callO 1 [] d_two_of (consA (frzD (methO "Game" 2 [] d_Game_size (varD 0) (consA (constD (.int 1)) (nilA)))) (nilA))))) (gTupD (gConsD (gnD 3) (gConsD (gnD 4) (gNilD)))) (yesD) e_squares_0 [1, 2, 3, 4] [3, 4] [G, .unb, .unb, .unb, .unb] = .ok (.ml ((two ns.length).flatMap fun p => (two ms.length).map fun q => sqD (p, q))) [G, .unb, .unb, .unb, .unb] := by
    refine lc2D_A (xs := two ns.length) (env1 := [G, .unb, .unb, .unb, .unb]) (fun _ => two ms.length) twoD (fun p => [G, .int (p.1 : Nat), .int (p.2 : Nat), .unb, .unb]) (fun _ => twoD) (fun p q => [G, .int (p.1 : Nat), .int (p.2 : Nat), .int (q.1 : Nat), .int (q.2 : Nat)]) _ ?_ (by omega) hll (fun p hp => ⟨?_, ?_, ?_, fun q hq => ⟨?_, ?_, ?_⟩⟩) ?_
    · generalize d_two_of = f at t0 ⊢
      generalize d_Game_size = g at s0 ⊢
      simp -implicitDefEqProofs [hoG, hsG, s0, t0, f0, hs0]
    · simp
    · generalize d_two_of = f at t1 ⊢
      generalize d_Game_size = g at s1 ⊢
      simp -implicitDefEqProofs [hoG, hsG, s1, t1, f1, hs1]
    · simp
    · simp
    · simp [e_squares_0]
    · simp
    · simp
  have e2 : (sqs ns.length ms.length).map sqD = (two ns.length).flatMap fun p => (two ms.length).map fun q => sqD (p, q) := by
    unfold sqs
    rw [List.map_flatMap]
    refine congrArg (fun h => (two ns.length).flatMap h) (funext fun i => ?_)
    rw [List.map_map]
    rfl
  rw [e2]
  unfold d_squares
  exact runR (env := [G, .unb, .unb, .unb, .unb]) (retR e)
/-- a matrix by its function -/
def matF (m w : Nat) (f : Nat → Nat → Int) : List (List Int) := (List.range m).map fun i => (List.range w).map (f i)
theorem matF_at {m w : Nat} {f : Nat → Nat → Int} {i : Nat} (hi : i < m) : gd (matF m w f) i [] = (List.range w).map (f i) := by
  rw [gd_get (by simp [matF]; exact hi)]
  simp [matF]
theorem matF_ix {m w : Nat} (f : Nat → Nat → Int) {i : Nat} (hi : i < m) : ixD (matD (matF m w f)) (.int i) = some (intsD ((List.range w).map (f i))) := by
  have := atI_map intsD (xs := matF m w f) (i := i) (by simp [matF]; exact hi) []
  rw [matF_at hi] at this
  exact this
theorem rowF_ix {w : Nat} (f : Nat → Int) {j : Nat} (hj : j < w) : ixD (intsD ((List.range w).map f)) (.int j) = some (.int (f j)) := by
  have := atI_map D.int (xs := (List.range w).map f) (i := j) (by simp; exact hj) 0
  rw [gd_get (by simp; exact hj)] at this
  simpa using this
theorem pays_of_ev {ns ms : List (List Nat)} {T : List (List (Int × Int))} (h : GOk ns ms T) (f g : Nat → Nat → Int) (hf : ∀ i j, i < ns.length → j < ms.length → cell T i j = (f i j, g i j)) : d_pays_of [gameD ns ms T, .int 0] = .ret (.ml ((matF ns.length ms.length f).map intsD)) [] ∧ d_pays_of [gameD ns ms T, .int 1] = .ret (.ml ((matF ns.length ms.length g).map intsD)) [] := by
  have n4 := h.n4
  have m4 := h.m4
  have s0 := size_ev ns ms T (s := 0) (.inl rfl)
  have s1 := size_ev ns ms T (s := 1) (.inr rfl)
  have z0 : sz ns ms 0 = ns.length := by simp [sz]
  have z1 : sz ns ms 1 = ms.length := by simp [sz]
  rw [z0] at s0
  rw [z1] at s1
  have hp : ∀ i j, i < ns.length → j < ms.length → d_Game_pay [gameD ns ms T, .int i, .int j] = .ret (.tup [.int (f i j), .int (g i j)]) [] := fun i j hi hj => by
    rw [pay_ev h hi hj, hf i j hi hj]
  generalize hGd : gameD ns ms T = G at s0 s1 hp ⊢
  have hoG : isOwn G = false := by rw [← hGd]; rfl
  have hsG : selfD "Game" G = true := by rw [← hGd]; exact selfD_ins _ _
  have key : ∀ (s : Int) (c : Nat → Nat → Int), (∀ i j, ixD (.tup [.int (f i j), .int (g i j)]) (.int s) = some (.int (c i j))) → d_pays_of [G, .int s] = .ret (.ml ((matF ns.length ms.length c).map intsD)) [] := by
    intro s c hc
    have row : ∀ i, i < ns.length → e_pays_of_1 [G, .int s, .int i, .unb] = .ok (intsD ((List.range ms.length).map (c i))) [G, .int s, .int i, .unb] := by
      intro i hi
      have e2 : lcD (range1D (frzD (methO "Game" 2 [] d_Game_size (varD 0) (consA (constD (.int 1)) (nilA))))) (gnD 3) (yesD) e_pays_of_0 [3] [G, .int s, .int i, .unb] = .ok (.ml ((List.range ms.length).map fun j => .int (c i j))) [G, .int s, .int i, .unb] := by
        refine lcD_mapA (xs := List.range ms.length) (env1 := [G, .int s, .int i, .unb]) (fun j => .int (j : Nat)) (fun j => [G, .int s, .int i, .int (j : Nat)]) _ ?_ (by simp; omega) (fun j hj => ⟨?_, ?_, ?_⟩) ?_
        · rw [← range1]
          refine range1_nat ?_ (by omega)
          generalize d_Game_size = q at s1 ⊢
          simp -implicitDefEqProofs [hoG, hsG, s1]
        · simp
        · have e3 := hp i j hi (List.mem_range.mp hj)
          have e4 := hc i j
          generalize hpp : D.tup [.int (f i j), .int (g i j)] = pp at e3 e4
          have hfp : frz pp = pp := by rw [← hpp]; rfl
          unfold e_pays_of_0
          generalize d_Game_pay = q at e3 ⊢
          simp -implicitDefEqProofs [hoG, hsG, e3, e4, hfp]
        · simp
        · simp
      have f2 : frz (.ml ((List.range ms.length).map fun j => D.int (c i j))) = intsD ((List.range ms.length).map (c i)) := by
        rw [frz_ml, frzL_id (fun _ => rfl), intsD, List.map_map]
        rfl
      exact frz_ok e2 f2
    have e : lcD (range1D (frzD (methO "Game" 2 [] d_Game_size (varD 0) (consA (constD (.int 0)) (nilA))))) (gnD 2) (yesD) e_pays_of_1 [2, 3] [G, .int s, .unb, .unb] = .ok (.ml ((List.range ns.length).map fun i => intsD ((List.range ms.length).map (c i)))) [G, .int s, .unb, .unb] := by
      refine lcD_mapA (xs := List.range ns.length) (env1 := [G, .int s, .unb, .unb]) (fun j => .int (j : Nat)) (fun i => [G, .int s, .int (i : Nat), .unb]) _ ?_ (by simp; omega) (fun i hi => ⟨?_, ?_, ?_⟩) ?_
      · rw [← range1]
        refine range1_nat ?_ (by omega)
        generalize d_Game_size = q at s0 ⊢
        simp -implicitDefEqProofs [hoG, hsG, s0]
      · simp
      · exact row i (List.mem_range.mp hi)
      · simp
      · simp
    have e5 : (matF ns.length ms.length c).map intsD = (List.range ns.length).map fun i => intsD ((List.range ms.length).map (c i)) := by
      unfold matF
      rw [List.map_map]
      rfl
    rw [e5]
    unfold d_pays_of
    exact runR (env := [G, .int s, .unb, .unb]) (retR e)
  exact ⟨key 0 f fun i j => by simp, key 1 g fun i j => by simp⟩
def crs (f : Nat → Nat → Int) (q : Sq) : Int := f q.1.1 q.2.1 - f q.1.2 q.2.1 - f q.1.1 q.2.2 + f q.1.2 q.2.2
theorem cross_ev {m w : Nat} (f : Nat → Nat → Int) {q : Sq} (hq : q ∈ sqs m w) : d_cross [matD (matF m w f), sqD q] = .ret (.int (crs f q)) [] := by
  obtain ⟨⟨h1, h2⟩, h3, h4⟩ := sqs_mem.mp hq
  have i1 := matF_ix (m := m) (w := w) f (i := q.1.1) (by omega)
  have i2 := matF_ix (m := m) (w := w) f (i := q.1.2) (by omega)
  have a1 := rowF_ix (w := w) (f q.1.1) (j := q.2.1) (by omega)
  have a2 := rowF_ix (w := w) (f q.1.2) (j := q.2.1) (by omega)
  have a3 := rowF_ix (w := w) (f q.1.1) (j := q.2.2) (by omega)
  have a4 := rowF_ix (w := w) (f q.1.2) (j := q.2.2) (by omega)
  have hoM : isOwn (matD (matF m w f)) = false := rfl
  generalize matD (matF m w f) = M at *
  generalize intsD ((List.range w).map (f q.1.1)) = r1 at *
  generalize intsD ((List.range w).map (f q.1.2)) = r2 at *
  unfold d_cross
  refine runR (env := [M, sqD q, .int (q.1.1 : Nat), .int (q.1.2 : Nat), .int (q.2.1 : Nat), .int (q.2.2 : Nat)]) ?_
  refine seqN [M, sqD q, .int (q.1.1 : Nat), .int (q.1.2 : Nat), .int (q.2.1 : Nat), .int (q.2.2 : Nat)] (by simp) (retR (env1 := [M, sqD q, .int (q.1.1 : Nat), .int (q.1.2 : Nat), .int (q.2.1 : Nat), .int (q.2.2 : Nat)]) ?_)
  simp -implicitDefEqProofs [hoM, i1, i2, a1, a2, a3, a4, crs]
theorem crs_sm {m w n : Nat} {f : Nat → Nat → Int} (hf : ∀ i j, i < m → j < w → Sm n (f i j)) {q : Sq} (hq : q ∈ sqs m w) : Sm (n + 3) (crs f q) := by
  obtain ⟨⟨h1, h2⟩, h3, h4⟩ := sqs_mem.mp hq
  have s1 := (hf q.1.1 q.2.1 (by omega) (by omega)).sub (hf q.1.2 q.2.1 (by omega) (by omega))
  have s2 := s1.sub ((hf q.1.1 q.2.2 (by omega) (by omega)).mono (by omega))
  exact s2.add ((hf q.1.2 q.2.2 (by omega) (by omega)).mono (by omega))
/-! ### shared tables -/
/-- the table that is told -/
def shrF (f g : Nat → Nat → Int) (i j : Nat) : Int := g 0 j - g 0 0 + f i j - f 0 j
/-- all crosses are alike, so far -/
theorem shr_go {m w : Nat} (f g : Nat → Nat → Int) (G : D) : ∀ (l : List Sq) (a4 a5 a6 a7 : D) (s : D), (∀ q ∈ l, q ∈ sqs m w) → (∀ q ∈ l, crs f q = crs g q) → ∃ s', forGo (gnD 3) b_shared_table_0 (l.map sqD) [G, matD (matF m w f), matD (matF m w g), s, a4, a5, a6, a7] = .nx [G, matD (matF m w f), matD (matF m w g), s', a4, a5, a6, a7]
  | [], _, _, _, _, s, _, _ => ⟨s, by simp [forGo]⟩
  | q :: l, a4, a5, a6, a7, s, hl, hq => by
    have cf := cross_ev (m := m) (w := w) f (hl q (by simp))
    have cg := cross_ev (m := m) (w := w) g (hl q (by simp))
    have hc := hq q (by simp)
    obtain ⟨s', e⟩ := shr_go f g G l a4 a5 a6 a7 (sqD q) (fun x hx => hl x (List.mem_cons_of_mem _ hx)) fun x hx => hq x (List.mem_cons_of_mem _ hx)
    refine ⟨s', ?_⟩
    have hoA : isOwn (matD (matF m w f)) = false := rfl
    have hoB : isOwn (matD (matF m w g)) = false := rfl
    have hb : b_shared_table_0 [G, matD (matF m w f), matD (matF m w g), sqD q, a4, a5, a6, a7] = .nx [G, matD (matF m w f), matD (matF m w g), sqD q, a4, a5, a6, a7] := by
      generalize matD (matF m w f) = A at *
      generalize matD (matF m w g) = B at *
      generalize hsq : sqD q = sd at cf cg ⊢
      have hosd : isOwn sd = false := by rw [← hsq]; rfl
      unfold b_shared_table_0
      generalize d_cross = dc at cf cg ⊢
      exact ifF (env1 := [G, A, B, sd, a4, a5, a6, a7]) (by simp -implicitDefEqProofs [hoA, hoB, hosd, cf, cg, hc]) rfl
    rw [List.map_cons, forGo_nx (e1 := [G, matD (matF m w f), matD (matF m w g), sqD q, a4, a5, a6, a7]) rfl hb, e]
/-- .. up to one at which they are not -/
theorem shr_bad {m w : Nat} (f g : Nat → Nat → Int) (G : D) {q : Sq} (hq : q ∈ sqs m w) (hc : crs f q ≠ crs g q) (r : List D) (a4 a5 a6 a7 : D) : ∀ (l : List Sq) (s : D), (∀ q ∈ l, q ∈ sqs m w) → (∀ q ∈ l, crs f q = crs g q) → forGo (gnD 3) b_shared_table_0 (l.map sqD ++ sqD q :: r) [G, matD (matF m w f), matD (matF m w g), s, a4, a5, a6, a7] = .ex "Uneven" [sqD q] [G, matD (matF m w f), matD (matF m w g), sqD q, a4, a5, a6, a7]
  | [], s, _, _ => by
    have cf := cross_ev (m := m) (w := w) f hq
    have cg := cross_ev (m := m) (w := w) g hq
    have hoA : isOwn (matD (matF m w f)) = false := rfl
    have hoB : isOwn (matD (matF m w g)) = false := rfl
    have hb : b_shared_table_0 [G, matD (matF m w f), matD (matF m w g), sqD q, a4, a5, a6, a7] = .ex "Uneven" [sqD q] [G, matD (matF m w f), matD (matF m w g), sqD q, a4, a5, a6, a7] := by
      generalize matD (matF m w f) = A at *
      generalize matD (matF m w g) = B at *
      generalize hsq : sqD q = sd at cf cg ⊢
      have hosd : isOwn sd = false := by rw [← hsq]; rfl
      unfold b_shared_table_0
      generalize d_cross = dc at cf cg ⊢
      exact ifT (env1 := [G, A, B, sd, a4, a5, a6, a7]) (by simp -implicitDefEqProofs [hoA, hoB, hosd, cf, cg, hc]) (by simp -implicitDefEqProofs [hosd])
    rw [List.map_nil, List.nil_append]
    exact forGo_ex (e1 := [G, matD (matF m w f), matD (matF m w g), sqD q, a4, a5, a6, a7]) rfl hb
  | p :: l, s, hl, hp => by
    have cf := cross_ev (m := m) (w := w) f (hl p (by simp))
    have cg := cross_ev (m := m) (w := w) g (hl p (by simp))
    have hpc := hp p (by simp)
    have e := shr_bad f g G hq hc r a4 a5 a6 a7 l (sqD p) (fun x hx => hl x (List.mem_cons_of_mem _ hx)) fun x hx => hp x (List.mem_cons_of_mem _ hx)
    have hoA : isOwn (matD (matF m w f)) = false := rfl
    have hoB : isOwn (matD (matF m w g)) = false := rfl
    have hb : b_shared_table_0 [G, matD (matF m w f), matD (matF m w g), sqD p, a4, a5, a6, a7] = .nx [G, matD (matF m w f), matD (matF m w g), sqD p, a4, a5, a6, a7] := by
      generalize matD (matF m w f) = A at *
      generalize matD (matF m w g) = B at *
      generalize hsq : sqD p = sd at cf cg ⊢
      have hosd : isOwn sd = false := by rw [← hsq]; rfl
      unfold b_shared_table_0
      generalize d_cross = dc at cf cg ⊢
      exact ifF (env1 := [G, A, B, sd, a4, a5, a6, a7]) (by simp -implicitDefEqProofs [hoA, hoB, hosd, cf, cg, hpc]) rfl
    rw [List.map_cons, List.cons_append, forGo_nx (e1 := [G, matD (matF m w f), matD (matF m w g), sqD p, a4, a5, a6, a7]) rfl hb, e]
theorem matF_src {m w : Nat} (f : Nat → Nat → Int) : srcOf (matD (matF m w f)) = some ((List.range m).map fun i => intsD ((List.range w).map (f i))) := by
  show some ((matF m w f).map intsD) = _
  unfold matF
  rw [List.map_map]
  rfl
/-- ahead of the squares -/
theorem shr_pre {ns ms : List (List Nat)} {T : List (List (Int × Int))} (h : GOk ns ms T) (f g : Nat → Nat → Int) (hf : ∀ i j, i < ns.length → j < ms.length → cell T i j = (f i j, g i j)) :
    asgG (tupD (consD (frzD (callO 2 [] d_pays_of (consA (varD 0) (consA (constD (.int 0)) (nilA))))) (consD (frzD (callO 2 [] d_pays_of (consA (varD 0) (consA (constD (.int 1)) (nilA))))) (nilD)))) (gTupD (gConsD (gnD 1) (gConsD (gnD 2) (gNilD)))) [gameD ns ms T, .unb, .unb, .unb, .unb, .unb, .unb, .unb] = .nx [gameD ns ms T, matD (matF ns.length ms.length f), matD (matF ns.length ms.length g), .unb, .unb, .unb, .unb, .unb] ∧
    itS (frzD (callO 1 [] d_squares (consA (varD 0) (nilA)))) [gameD ns ms T, matD (matF ns.length ms.length f), matD (matF ns.length ms.length g), .unb, .unb, .unb, .unb, .unb] = .ok ((sqs ns.length ms.length).map sqD) [gameD ns ms T, matD (matF ns.length ms.length f), matD (matF ns.length ms.length g), .unb, .unb, .unb, .unb, .unb] := by
  obtain ⟨p0, p1⟩ := pays_of_ev h f g hf
  have sq := squares_ev h
  have fA : frz (.ml ((matF ns.length ms.length f).map intsD)) = matD (matF ns.length ms.length f) := by rw [frz_ml, frzL_id (fun _ => rfl)]
  have fB : frz (.ml ((matF ns.length ms.length g).map intsD)) = matD (matF ns.length ms.length g) := by rw [frz_ml, frzL_id (fun _ => rfl)]
  have fS : frz (.ml ((sqs ns.length ms.length).map sqD)) = .lst ((sqs ns.length ms.length).map sqD) := by rw [frz_ml, frzL_id (fun _ => rfl)]
  have hsS : srcOf (.lst ((sqs ns.length ms.length).map sqD)) = some ((sqs ns.length ms.length).map sqD) := rfl
  have hoG : isOwn (gameD ns ms T) = false := rfl
  generalize gameD ns ms T = G at *
  generalize matD (matF ns.length ms.length f) = A at *
  generalize matD (matF ns.length ms.length g) = B at *
  generalize D.ml ((matF ns.length ms.length f).map intsD) = A' at *
  generalize D.ml ((matF ns.length ms.length g).map intsD) = B' at *
  generalize D.ml ((sqs ns.length ms.length).map sqD) = S' at *
  generalize D.lst ((sqs ns.length ms.length).map sqD) = SS at *
  generalize (sqs ns.length ms.length).map sqD = L at *
  constructor
  · generalize d_pays_of = q at *
    simp -implicitDefEqProofs [hoG, p0, p1, fA, fB]
  · generalize d_squares = q at *
    simp -implicitDefEqProofs [hoG, sq, fS, hsS]
theorem shr_uneven {ns ms : List (List Nat)} {T : List (List (Int × Int))} (h : GOk ns ms T) (f g : Nat → Nat → Int) (hf : ∀ i j, i < ns.length → j < ms.length → cell T i j = (f i j, g i j)) {q : Sq} {pre suf : List Sq} (hs : sqs ns.length ms.length = pre ++ q :: suf) (hp : ∀ p ∈ pre, crs f p = crs g p) (hq : crs f q ≠ crs g q) :
    d_shared_table [gameD ns ms T] = .exc "Uneven" [sqD q] [] := by
  obtain ⟨s1, s2⟩ := shr_pre h f g hf
  have e := shr_bad (m := ns.length) (w := ms.length) f g (gameD ns ms T) (q := q) (by rw [hs]; simp) hq (suf.map sqD) .unb .unb .unb .unb pre .unb (fun p hm => by rw [hs]; simp [hm]) hp
  rw [show pre.map sqD ++ sqD q :: suf.map sqD = (sqs ns.length ms.length).map sqD by rw [hs]; simp] at e
  unfold d_shared_table
  exact runE (env := _) (seqN _ s1 (seqE (forN s2 e)))
theorem shr_even {ns ms : List (List Nat)} {T : List (List (Int × Int))} (h : GOk ns ms T) (f g : Nat → Nat → Int) (hf : ∀ i j, i < ns.length → j < ms.length → cell T i j = (f i j, g i j)) (hp : ∀ p ∈ sqs ns.length ms.length, crs f p = crs g p) :
    d_shared_table [gameD ns ms T] = .ret (.ml ((matF ns.length ms.length (shrF f g)).map intsD)) [] := by
  obtain ⟨s1, s2⟩ := shr_pre h f g hf
  obtain ⟨s', e⟩ := shr_go (m := ns.length) (w := ms.length) f g (gameD ns ms T) (sqs ns.length ms.length) .unb .unb .unb .unb .unb (fun p hm => hm) hp
  have n1 := h.n1
  have m1 := h.m1
  have n4 := h.n4
  have m4 := h.m4
  generalize ns.length = m at *
  generalize ms.length = w at *
  have x1 := matF_ix (m := m) (w := w) f (i := 0) (by omega)
  have x2 := matF_ix (m := m) (w := w) g (i := 0) (by omega)
  have y1 : ∀ j, j < w → ixD (intsD ((List.range w).map (f 0))) (.int (j : Nat)) = some (.int (f 0 j)) := fun j hj => rowF_ix (f 0) hj
  have y2 := rowF_ix (w := w) (g 0) (j := 0) (by omega)
  have hsA := matF_src (m := m) (w := w) f
  have hoA : isOwn (matD (matF m w f)) = false := rfl
  have hoB : isOwn (matD (matF m w g)) = false := rfl
  have x1 : ixD (matD (matF m w f)) (.int 0) = _ := x1
  have x2 : ixD (matD (matF m w g)) (.int 0) = _ := x2
  have y2 : ixD (intsD ((List.range w).map (g 0))) (.int 0) = _ := y2
  generalize gameD ns ms T = G at *
  generalize matD (matF m w f) = A at *
  generalize matD (matF m w g) = B at *
  have hsB : srcOf (intsD ((List.range w).map (g 0))) = some ((List.range w).map fun j => .int (g 0 j)) := by
    show some (((List.range w).map (g 0)).map D.int) = _
    rw [List.map_map]
    rfl
  generalize intsD ((List.range w).map (g 0)) = B0 at *
  have c1 : lcD (itS (binD ixD (varD 2) (constD (.int 0)))) (gnD 5) (yesD) e_shared_table_0 [5] [G, A, B, s', .unb, .unb, .unb, .unb] = .ok (.ml ((List.range w).map fun j => .int (g 0 j - g 0 0))) [G, A, B, s', .unb, .unb, .unb, .unb] := by
    refine lcD_mapA (xs := List.range w) (env1 := [G, A, B, s', .unb, .unb, .unb, .unb]) (fun j => .int (g 0 j)) (fun j => [G, A, B, s', .unb, .int (g 0 j), .unb, .unb]) _ ?_ (by simp; omega) (fun j hj => ⟨?_, ?_, ?_⟩) ?_
    · simp -implicitDefEqProofs [hoB, x2, hsB]
    · simp
    · simp -implicitDefEqProofs [e_shared_table_0, hoB, x2, y2]
    · simp
    · simp
  have fc1 : frz (.ml ((List.range w).map fun j => D.int (g 0 j - g 0 0))) = intsD ((List.range w).map fun j => g 0 j - g 0 0) := by
    rw [frz_ml, frzL_id (fun _ => rfl), intsD, List.map_map]
    rfl
  have z1 : ∀ j, j < w → ixD (intsD ((List.range w).map fun j => g 0 j - g 0 0)) (.int (j : Nat)) = some (.int (g 0 j - g 0 0)) := fun j hj => rowF_ix _ hj
  have hoF : isOwn (intsD ((List.range w).map fun j => g 0 j - g 0 0)) = false := rfl
  have c2 : lcD (itS (varD 1)) (gnD 6) (yesD) e_shared_table_2 [6, 7] [G, A, B, s', intsD ((List.range w).map fun j => g 0 j - g 0 0), .unb, .unb, .unb] = .ok (.ml ((List.range m).map fun i => intsD ((List.range w).map (shrF f g i)))) [G, A, B, s', intsD ((List.range w).map fun j => g 0 j - g 0 0), .unb, .unb, .unb] := by
    generalize intsD ((List.range w).map fun j => g 0 j - g 0 0) = F at *
    generalize intsD ((List.range w).map (f 0)) = A0 at *
    refine lcD_mapA (xs := List.range m) (env1 := [G, A, B, s', F, .unb, .unb, .unb]) (fun i => intsD ((List.range w).map (f i))) (fun i => [G, A, B, s', F, .unb, intsD ((List.range w).map (f i)), .unb]) _ ?_ (by simp; omega) (fun i hi => ⟨?_, ?_, ?_⟩) ?_
    · simp -implicitDefEqProofs [hoA, hsA]
    · simp
    · have hlr : lenD [intsD ((List.range w).map (f i))] = some (.int w) := by rw [lenD_lst]; simp
      have yi : ∀ j, j < w → ixD (intsD ((List.range w).map (f i))) (.int (j : Nat)) = some (.int (f i j)) := fun j hj => rowF_ix (f i) hj
      have hoi : isOwn (intsD ((List.range w).map (f i))) = false := rfl
      generalize intsD ((List.range w).map (f i)) = Ai at *
      have c3 : lcD (range1D (callBD lenD (consD (varD 6) (nilD)))) (gnD 7) (yesD) e_shared_table_1 [7] [G, A, B, s', F, .unb, Ai, .unb] = .ok (.ml ((List.range w).map fun j => .int (shrF f g i j))) [G, A, B, s', F, .unb, Ai, .unb] := by
        refine lcD_mapA (xs := List.range w) (env1 := [G, A, B, s', F, .unb, Ai, .unb]) (fun j => .int (j : Nat)) (fun j => [G, A, B, s', F, .unb, Ai, .int (j : Nat)]) _ ?_ (by simp; omega) (fun j hj => ⟨?_, ?_, ?_⟩) ?_
        · rw [← range1]
          exact range1_nat (by simp -implicitDefEqProofs [hoi, hlr]) (by omega)
        · simp
        · have hj := List.mem_range.mp hj
          simp -implicitDefEqProofs [e_shared_table_1, hoA, hoF, hoi, x1, y1 j hj, yi j hj, z1 j hj, shrF]
        · simp
        · simp
      have f3 : frz (.ml ((List.range w).map fun j => D.int (shrF f g i j))) = intsD ((List.range w).map (shrF f g i)) := by
        rw [frz_ml, frzL_id (fun _ => rfl), intsD, List.map_map]
        rfl
      exact frz_ok c3 f3
    · simp
    · simp
  have fo := frz_ok c1 fc1
  generalize intsD ((List.range w).map fun j => g 0 j - g 0 0) = F at *
  have e5 : (matF m w (shrF f g)).map intsD = (List.range m).map fun i => intsD ((List.range w).map (shrF f g i)) := by
    unfold matF
    rw [List.map_map]
    rfl
  rw [e5]
  unfold d_shared_table
  refine runR (env := [G, A, B, s', F, .unb, .unb, .unb]) (seqN _ s1 (seqN _ (forN s2 e) (seqN [G, A, B, s', F, .unb, .unb, .unb] (asgN fo) (retR c2))))
/-! ### one number otherwise -/
def fp (a : Nat) : Nat × Nat := if a = 0 then (0, 1) else (0, a)
def hasB (a p : Nat) (q : Sq) : Bool := (decide (q.1.1 = a) || decide (q.1.2 = a)) && (decide (q.2.1 = p) || decide (q.2.2 = p))
theorem first_all : ((List.range 5).all fun m => (List.range 5).all fun w => (List.range m).all fun a => (List.range w).all fun p => !(decide (2 ≤ m) && decide (2 ≤ w)) || decide ((sqs m w).find? (hasB a p) = some (fp a, fp p))) = true := by decide +kernel
theorem first_key {m w a p : Nat} (m5 : m < 5) (w5 : w < 5) (ha : a < m) (hp : p < w) (m2 : 2 ≤ m) (w2 : 2 ≤ w) : (sqs m w).find? (hasB a p) = some (fp a, fp p) := by
  have h := List.all_eq_true.mp (List.all_eq_true.mp (List.all_eq_true.mp (List.all_eq_true.mp first_all m (List.mem_range.mpr m5)) w (List.mem_range.mpr w5)) a (List.mem_range.mpr ha)) p (List.mem_range.mpr hp)
  rw [decide_eq_true m2, decide_eq_true w2] at h
  simpa using h
theorem first_sq {m w a p : Nat} (m2 : 2 ≤ m) (m4 : m ≤ 4) (w2 : 2 ≤ w) (w4 : w ≤ 4) (ha : a < m) (hp : p < w) : ∃ pre suf, sqs m w = pre ++ (fp a, fp p) :: suf ∧ (∀ q ∈ pre, hasB a p q = false) ∧ hasB a p (fp a, fp p) = true := by
  have h := first_key (by omega) (by omega) ha hp m2 w2
  obtain ⟨h1, as, bs, h2, h3⟩ := List.find?_eq_some_iff_append.mp h
  exact ⟨as, bs, h2, fun q hq => by simpa using h3 q hq, h1⟩
/-- a number more at a place -/
def spot (a p : Nat) (v : Int) (i j : Nat) : Int := if i = a ∧ j = p then v else 0
theorem spot_no {a p : Nat} {v : Int} {q : Sq} (h : hasB a p q = false) : crs (spot a p v) q = 0 := by
  obtain ⟨⟨i, k⟩, ⟨j, l⟩⟩ := q
  unfold hasB at h
  unfold crs spot
  simp only at h ⊢
  by_cases h1 : i = a <;> by_cases h2 : k = a <;> by_cases h3 : j = p <;> by_cases h4 : l = p <;> simp [h1, h2, h3, h4] at h ⊢
theorem spot_yes {a p : Nat} {v : Int} (hv : v ≠ 0) {m w : Nat} {q : Sq} (hq : q ∈ sqs m w) (h : hasB a p q = true) : crs (spot a p v) q ≠ 0 := by
  obtain ⟨⟨i, k⟩, ⟨j, l⟩⟩ := q
  obtain ⟨⟨q1, q2⟩, q3, q4⟩ := sqs_mem.mp hq
  unfold hasB at h
  unfold crs spot
  simp only at h q1 q3 ⊢
  by_cases h1 : i = a <;> by_cases h2 : k = a <;> by_cases h3 : j = p <;> by_cases h4 : l = p <;> simp [h1, h2, h3, h4] at h ⊢ <;> omega
theorem crs_add (f g : Nat → Nat → Int) (q : Sq) : crs (fun i j => f i j + g i j) q = crs f q + crs g q := by
  unfold crs
  simp only
  omega
/-- what is said -/
theorem said_told {G d : D} (h : isOwn G = false) {e : D} (hs : d_shared_table [G] = .ret d []) (f : frz d = e) : d__law_said [G] = .ret (.tup [.str "told", e]) [] := by
  unfold d__law_said
  generalize d_shared_table = q at hs ⊢
  refine runR (env := [G, .unb]) (mix_rt (retR (env1 := [G, .unb]) ?_))
  simp -implicitDefEqProofs [h, hs, f]
theorem said_uneven {G d : D} (h : isOwn G = false) (hs : d_shared_table [G] = .exc "Uneven" [d] []) (hd : isOwn d = false) : d__law_said [G] = .ret (.tup [.str "uneven", d]) [] := by
  unfold d__law_said
  generalize d_shared_table = q at hs ⊢
  refine runR (env := [G, .unb]) ((mix_ex (c := "Uneven") (fs := [d]) (env1 := [G, .unb]) ?_).trans (pick_hit ?_ ?_ ?_))
  · simp -implicitDefEqProofs [h, hs]
  · show mtOf _ "Uneven" = _
    rw [mtOf_miss _ _ (by decide), mtOf_miss _ _ (by decide), mtOf_hit]
  · rfl
  · dsimp only [goneM, unbS]
    rw [pickD_hit]
    simp -implicitDefEqProofs [hd]
theorem square_ev (m w a p : Nat) : d__law_square [.int m, .int w, .int a, .int p] = .ret (sqD (fp a, fp p)) [] := by
  have key : ∀ a : Nat, ixD (.lst [.tup [.int 0, .int (a : Nat)], .tup [.int 0, .int 1]]) (.int (if a = 0 then 1 else 0)) = some (.tup [.int ((fp a).1 : Nat), .int ((fp a).2 : Nat)]) := by
    intro a
    by_cases h : a = 0
    · subst h
      simp [fp]
    · simp [fp, h]
  have k1 := key a
  have k2 := key p
  unfold d__law_square
  refine runR (env := [.int m, .int w, .int a, .int p, .int ((fp a).1 : Nat), .int ((fp a).2 : Nat), .int ((fp p).1 : Nat), .int ((fp p).2 : Nat)]) ?_
  refine seqN [.int m, .int w, .int a, .int p, .int ((fp a).1 : Nat), .int ((fp a).2 : Nat), .unb, .unb] ?_ (seqN [.int m, .int w, .int a, .int p, .int ((fp a).1 : Nat), .int ((fp a).2 : Nat), .int ((fp p).1 : Nat), .int ((fp p).2 : Nat)] ?_ ?_)
  · simp -implicitDefEqProofs [k1, -ixD_lst]
  · simp -implicitDefEqProofs [k2, -ixD_lst]
  · simp
/-- the table with one pair otherwise -/
def setT (T : List (List (Int × Int))) (a p : Nat) (v : Int × Int) : List (List (Int × Int)) := T.set a ((gd T a []).set p v)
theorem gd_set {α : Type} {l : List α} {n i : Nat} (h : n < l.length) (v d : α) : gd (l.set n v) i d = if i = n then v else gd l i d := by
  unfold gd
  rw [List.getD_eq_getElem?_getD, List.getElem?_set, List.getD_eq_getElem?_getD]
  by_cases e : n = i
  · subst e
    simp [h]
  · rw [if_neg e, if_neg (Ne.symm e)]
theorem setT_cell {T : List (List (Int × Int))} {m w : Nat} (h : Tab T m w) {a p : Nat} (ha : a < m) (hp : p < w) (v : Int × Int) (i j : Nat) : cell (setT T a p v) i j = if i = a ∧ j = p then v else cell T i j := by
  have hT : a < T.length := by rw [h.tall]; exact ha
  have hr : (gd T a []).length = w := h.wide _ (gd_mem hT _)
  unfold cell setT
  rw [gd_set hT]
  by_cases e : i = a
  · subst e
    rw [if_pos rfl, gd_set (by rw [hr]; exact hp)]
    by_cases e2 : j = p
    · simp [e2]
    · simp [e2]
  · simp [e]
theorem setT_tab {T : List (List (Int × Int))} {m w : Nat} (h : Tab T m w) {a p : Nat} (ha : a < m) (hp : p < w) {v : Int × Int} (h1 : Sm 80 v.1) (h2 : Sm 80 v.2) : Tab (setT T a p v) m w := by
  have hT : a < T.length := by rw [h.tall]; exact ha
  have hm : gd T a [] ∈ T := gd_mem hT _
  have key : ∀ r ∈ setT T a p v, r ∈ T ∨ r = (gd T a []).set p v := fun r hr => by
    unfold setT at hr
    exact List.mem_or_eq_of_mem_set hr
  refine ⟨by simp [setT, h.tall], fun r hr => ?_, fun r hr q hq => ?_⟩
  · rcases key r hr with e | e
    · exact h.wide r e
    · rw [e, List.length_set]
      exact h.wide _ hm
  · rcases key r hr with e | e
    · exact h.sm r e q hq
    · rw [e] at hq
      rcases List.mem_or_eq_of_mem_set hq with z | z
      · exact h.sm _ hm q z
      · rw [z]
        exact ⟨h1, h2⟩
/-! ### one game, one number more -/
abbrev mlT (T : List (List (Int × Int))) : D := .ml (T.map fun r => .ml (r.map pairD))
theorem ix2_ev {T : List (List (Int × Int))} {m w : Nat} (h : Tab T m w) {a p : Nat} (ha : a < m) (hp : p < w) {i : Nat} {env : List D} {da : List D → R D} {q : List D → Option Int} (h1 : env.getD i .unb = mlT T) (h2 : da env = .ok (.int a) env) (h3 : q env = some (p : Int)) : ixO2 i da q env = .ok (pairD (cell T a p)) env := by
  have hT : a < T.length := by rw [h.tall]; exact ha
  have hr : (gd T a []).length = w := h.wide _ (gd_mem hT _)
  have e1 : DL.listAt env i = some (T.map fun r => .ml (r.map pairD)) := by
    unfold DL.listAt
    rw [h1]
  have e2 := rowI_nat (f := fun r : List (Int × Int) => r.map pairD) hT []
  have e3 : atI ((gd T a []).map pairD) (p : Int) = some (pairD (cell T a p)) := atI_map pairD (by rw [hr]; exact hp) (0, 0)
  have e2 : rowI (T.map fun r => .ml (r.map pairD)) (a : Int) = some (a, (gd T a []).map pairD) := e2
  unfold ixO2
  rw [e1, h2]
  simp only [Option.isSome_some, if_true, bindR_ok]
  rw [e1]
  simp only
  rw [e2]
  simp only
  rw [h3]
  simp only
  rw [e3]
  rfl
theorem set2_ev {T : List (List (Int × Int))} {m w : Nat} (h : Tab T m w) {a p : Nat} (ha : a < m) (hp : p < w) {v : Int × Int} {i : Nat} {env env1 : List D} {dv da : List D → R D} {q : List D → Option Int} (h0 : dv env = .ok (pairD v) env1) (h1 : env1.getD i .unb = mlT T) (h2 : da env1 = .ok (.int a) env1) (h3 : q env1 = some (p : Int)) :
    setO2 i dv da q env = .nx (env1.set i (mlT (setT T a p v))) := by
  have hT : a < T.length := by rw [h.tall]; exact ha
  have hr : (gd T a []).length = w := h.wide _ (gd_mem hT _)
  have e1 : DL.listAt env1 i = some (T.map fun r => .ml (r.map pairD)) := by
    unfold DL.listAt
    rw [h1]
  have e2 : rowI (T.map fun r => .ml (r.map pairD)) (a : Int) = some (a, (gd T a []).map pairD) := rowI_nat (f := fun r : List (Int × Int) => r.map pairD) hT []
  have e3 : ixN ((gd T a []).map pairD).length (p : Int) = some p := DL.ixN_nat (by rw [List.length_map, hr]; exact hp)
  have e4 : (T.map fun r => D.ml (r.map pairD)).set a (.ml (((gd T a []).map pairD).set p (pairD v))) = (setT T a p v).map fun r => .ml (r.map pairD) := by
    unfold setT
    rw [List.map_set, List.map_set]
  unfold setO2
  rw [h0]
  simp only [bindS]
  rw [e1, h2]
  simp only [Option.isSome_some, if_true]
  rw [e1]
  simp only
  rw [e2]
  simp only
  rw [h3]
  simp only
  rw [e3]
  simp only
  rw [e4]
theorem frzL_mlT (L : List (List (Int × Int))) : frzL (L.map fun r => D.ml (r.map pairD)) = L.map rowD := by
  have e : ∀ r : List (Int × Int), frz (.ml (r.map pairD)) = rowD r := fun r => by rw [frz_ml, frzL_id (fun _ => rfl)]
  induction L with
  | nil => simp
  | cons r L ih =>
    rw [List.map_cons, List.map_cons]
    simp only [frzL_cons]
    rw [ih, e]
theorem two_small {n : Nat} (h : n < 2) : two n = [] := by
  have : n = 0 ∨ n = 1 := by omega
  rcases this with rfl | rfl <;> decide
theorem sqs_small {m w : Nat} (h : m < 2 ∨ w < 2) : sqs m w = [] := by
  unfold sqs
  rcases h with h | h
  · rw [two_small h]
    rfl
  · rw [two_small h]
    induction two m with
    | nil => rfl
    | cons a l ih => simp [List.flatMap_cons, ih]
theorem pd_word (s : Str) (l : List Nat) (h : s = S l) (ho : l.all (fun c => decide (c < 1114112)) = true) (n : Nat) : pd n (.str s) = true := by
  rw [h]
  exact pdS (fun c hc => of_decide_eq_true (List.all_eq_true.mp ho c hc)) n
theorem inner_ev {b : Nat} {x y z : Int} (h : WOk b x y z) (hb : 3 ≤ b) {A B : List (List Int)} {m w : Nat} (hA : Mat 72 A m w) (hB : Mat 72 B m w) (m1 : 1 ≤ m) (m4 : m ≤ 4) (w1 : 1 ≤ w) (w4 : w ≤ 4) {ns ms : List (List Nat)} (hG : GOk ns ms (zipT A B)) (l1 : ns.length = m) (l2 : ms.length = w)
    (hc : ∀ q ∈ sqs m w, crs (at2 A) q = crs (at2 B) q) {more : Int} (sM : Sm 72 more) (sc c tb d13 d15 d16 d17 d18 d19 : D) :
    ∃ (x' z' : Int) (a13 a15 a16 a17 a18 a19 : D), WOk (b - 3) x' y z' ∧ b_law_0 [sc, c, wD x y z, .int m, .int w, tb, matD A, matD B, .tup [.lst (namesD ns), .lst (namesD ms)], matD (matF m w (shrF (at2 A) (at2 B))), .unb, .unb, .int more, d13, .unb, d15, d16, d17, d18, d19] =
      .nx [sc, c, wD x' y z', .int m, .int w, tb, matD A, matD B, .tup [.lst (namesD ns), .lst (namesD ms)], matD (matF m w (shrF (at2 A) (at2 B))), .unb, .unb, .int more, a13, .unb, a15, a16, a17, a18, a19] := by
  obtain ⟨a, x1, z1, h1, ha, e1⟩ := draw_nat (m := m) h (by omega) (by omega) (by omega)
  obtain ⟨p, x2, z2, h2, hp, e2⟩ := draw_nat (m := w) h1 (by omega) (by omega) (by omega)
  obtain ⟨s, x3, z3, h3, hs, e3⟩ := draw_nat (m := 2) h2 (by omega) (by decide) (by decide)
  have hT : Tab (zipT A B) m w := zipT_tab hA hB (by decide)
  have hcl : ∀ i j, i < m → j < w → cell (zipT A B) i j = (at2 A i j, at2 B i j) := fun i j hi hj => cell_zip hA hB hi hj
  -- the pair
  let v : Int × Int := if s = 0 then (at2 A a p + more, at2 B a p) else (at2 A a p, at2 B a p + more)
  have sA := hA.at ha hp
  have sB := hB.at ha hp
  have sv : Sm 80 v.1 ∧ Sm 80 v.2 := by
    show Sm 80 (if s = 0 then (at2 A a p + more, at2 B a p) else (at2 A a p, at2 B a p + more)).1 ∧ Sm 80 (if s = 0 then (at2 A a p + more, at2 B a p) else (at2 A a p, at2 B a p + more)).2
    split
    · exact ⟨(sA.add sM).mono (by decide), sB.mono (by decide)⟩
    · exact ⟨sA.mono (by decide), (sB.add sM).mono (by decide)⟩
  have hT2 := setT_tab hT ha hp sv.1 sv.2
  have hG2 : GOk ns ms (setT (zipT A B) a p v) := ⟨hG.an, hG.am, hG.dn, hG.dm, hG.n1, hG.n4, hG.m1, hG.m4, by rw [l1, l2]; exact hT2⟩
  -- what both get now
  let f : Nat → Nat → Int := fun i j => at2 A i j + spot a p (if s = 0 then more else 0) i j
  let g : Nat → Nat → Int := fun i j => at2 B i j + spot a p (if s = 0 then 0 else more) i j
  have hfg : ∀ i j, i < ns.length → j < ms.length → cell (setT (zipT A B) a p v) i j = (f i j, g i j) := fun i j hi hj => by
    rw [setT_cell hT ha hp, hcl i j (by omega) (by omega)]
    show (if i = a ∧ j = p then (if s = 0 then (at2 A a p + more, at2 B a p) else (at2 A a p, at2 B a p + more)) else (at2 A i j, at2 B i j)) = (at2 A i j + spot a p (if s = 0 then more else 0) i j, at2 B i j + spot a p (if s = 0 then 0 else more) i j)
    unfold spot
    by_cases e : i = a ∧ j = p
    · obtain ⟨rfl, rfl⟩ := e
      by_cases s0 : s = 0 <;> simp [s0]
    · simp [e]
  have cf : ∀ q, crs f q = crs (at2 A) q + crs (spot a p (if s = 0 then more else 0)) q := fun q => crs_add _ _ q
  have cg : ∀ q, crs g q = crs (at2 B) q + crs (spot a p (if s = 0 then 0 else more)) q := fun q => crs_add _ _ q
  have sp0 : ∀ q, crs (spot a p 0) q = 0 := fun q => by unfold crs spot; simp
  have same : ∀ q ∈ sqs m w, hasB a p q = false → crs f q = crs g q := fun q hq hb => by
    rw [cf, cg, spot_no hb, spot_no hb, hc q hq]
  have other : more ≠ 0 → ∀ q ∈ sqs m w, hasB a p q = true → crs f q ≠ crs g q := fun h0 q hq hb => by
    have := spot_yes h0 hq hb
    rw [cf, cg, hc q hq]
    by_cases s0 : s = 0
    · simp only [s0, if_true, sp0]
      omega
    · simp only [s0, if_false, sp0]
      omega
  -- what is told
  have hoG : isOwn (gameD ns ms (setT (zipT A B) a p v)) = false := rfl
  have told : ∃ td, d__law_said [gameD ns ms (setT (zipT A B) a p v)] = .ret td [] ∧ isOwn td = false ∧ frz td = td ∧ (more = 0 → neD td (.tup [.str "told", matD (matF m w (shrF (at2 A) (at2 B)))]) = some (.bl false)) ∧ (more ≠ 0 → 1 < m → 1 < w → neD td (.tup [.str "uneven", sqD (fp a, fp p)]) = some (.bl false)) ∧ (m = 1 ∨ w = 1 → more ≠ 0 → ∃ e, ixD td (.int 0) = some e ∧ isOwn e = false ∧ neD e (.str "told") = some (.bl false)) := by
    have tt : neD (.str "told") (.str "told") = some (.bl false) := neD_self (n := 0) (pd_word "told" [116, 111, 108, 100] (by decide) (by decide) 0)
    by_cases ev : more = 0 ∨ m < 2 ∨ w < 2
    · have hall : ∀ q ∈ sqs m w, crs f q = crs g q := fun q hq => by
        rcases ev with e | e
        · subst e
          rw [cf, cg, hc q hq]
        · rw [sqs_small e] at hq
          cases hq
      have e := shr_even hG2 f g hfg (by rw [l1, l2]; exact hall)
      rw [l1, l2] at e
      refine ⟨_, said_told hoG e (e := matD (matF m w (shrF f g))) (by rw [frz_ml, frzL_id (fun _ => rfl)]), rfl, frz_tup _, fun h0 => ?_, fun h0 h1 h2 => ?_, fun h0 _ => ⟨.str "told", rfl, rfl, tt⟩⟩
      · have hs : shrF f g = shrF (at2 A) (at2 B) := by
          funext i j
          show g 0 j - g 0 0 + f i j - f 0 j = _
          show (at2 B 0 j + spot a p _ 0 j) - (at2 B 0 0 + spot a p _ 0 0) + (at2 A i j + spot a p _ i j) - (at2 A 0 j + spot a p _ 0 j) = at2 B 0 j - at2 B 0 0 + at2 A i j - at2 A 0 j
          subst h0
          simp [spot]
        rw [hs]
        refine neD_self (n := 3) ?_
        unfold pd
        simp only [pdL, Bool.and_eq_true, and_true]
        refine ⟨pd_word "told" [116, 111, 108, 100] (by decide) (by decide) 2, ?_⟩
        unfold pd
        exact pdL_map fun r _ => pd_ints r
      · omega
    · have ev' : more ≠ 0 ∧ 2 ≤ m ∧ 2 ≤ w := by omega
      obtain ⟨e0, em, ew⟩ := ev'
      obtain ⟨pre, suf, d1, d2, d3⟩ := first_sq em m4 ew w4 ha hp
      have hmem : ∀ q ∈ pre, q ∈ sqs m w := fun q hq => by rw [d1]; simp [hq]
      have e := shr_uneven hG2 f g hfg (q := (fp a, fp p)) (pre := pre) (suf := suf) (by rw [l1, l2]; exact d1) (fun q hq => same q (hmem q hq) (d2 q hq)) (other e0 _ (by rw [d1]; simp) d3)
      refine ⟨_, said_uneven hoG e rfl, rfl, frz_tup _, fun h => absurd h e0, fun _ _ _ => ?_, fun h _ => by omega⟩
      refine neD_self (n := 3) ?_
      unfold pd
      simp only [pdL, Bool.and_eq_true, and_true]
      refine ⟨pd_word "uneven" [117, 110, 101, 118, 101, 110] (by decide) (by decide) 2, ?_⟩
      unfold pd
      simp [pdL, pd]
  obtain ⟨td, t1, t2, t3, t4, t5, t6⟩ := told
  have ini := init_ev hG2 (NmD.l ns) (NmD.l ms)
  have sqe := square_ev m w a p
  have fT := frzL_mlT (setT (zipT A B) a p v)
  have hv : v = if s = 0 then (at2 A a p + more, at2 B a p) else (at2 A a p, at2 B a p + more) := rfl
  have hca := hcl a p ha hp
  -- the pays
  let N : D := .tup [.lst (namesD ns), .lst (namesD ms)]
  let U : D := matD (matF m w (shrF (at2 A) (at2 B)))
  have lc : lcoD (zipD (varD 6) (varD 7)) (gTupD (gConsD (gnD 10) (gConsD (gnD 14) (gNilD)))) (yesD) e_law_2 [10, 14] [sc, c, wD x y z, .int m, .int w, tb, matD A, matD B, N, U, .unb, .unb, .int more, d13, .unb, d15, d16, d17, d18, d19] = .ok (mlT (zipT A B)) [sc, c, wD x y z, .int m, .int w, tb, matD A, matD B, N, U, .unb, .unb, .int more, d13, .unb, d15, d16, d17, d18, d19] := by
    have e : (zipT A B).map (fun r => D.ml (r.map pairD)) = (List.zip A B).map fun p => D.ml ((List.zip p.1 p.2).map pairD) := by unfold zipT; rw [List.map_map]; rfl
    show _ = R.ok (D.ml _) _
    rw [e]
    generalize N = N'
    generalize U = U'
    refine lcoD_mapA (xs := List.zip A B) (env1 := [sc, c, wD x y z, .int m, .int w, tb, matD A, matD B, N', U', .unb, .unb, .int more, d13, .unb, d15, d16, d17, d18, d19]) (fun p => .tup [intsD p.1, intsD p.2]) (fun p => [sc, c, wD x y z, .int m, .int w, tb, matD A, matD B, N', U', intsD p.1, .unb, .int more, d13, intsD p.2, d15, d16, d17, d18, d19]) _ ?_ (by simp [hA.tall]; omega) (fun p hp => ⟨?_, ?_, ?_, ?_⟩) ?_
    · rw [← zipL_map intsD intsD]
      exact zip_eq (d := matD A) (e := matD B) (env1 := [sc, c, wD x y z, .int m, .int w, tb, matD A, matD B, N', U', .unb, .unb, .int more, d13, .unb, d15, d16, d17, d18, d19]) (by simp) (by simp) rfl rfl
    · simp
    · obtain ⟨q1, q2⟩ := List.of_mem_zip hp
      have la := hA.wide _ q1
      have lb := hB.wide _ q2
      have hz := zipL_map D.int D.int p.1 p.2
      have hm : min p.1.length p.2.length ≤ 1000000 := by omega
      simp -implicitDefEqProofs [e_law_2, hz, hm]
    · exact flatL_map (fun _ => rfl) _
    · simp
    · simp
  have oN : isOwn N = false := rfl
  have oU : isOwn U = false := rfl
  have xN0 : ixD N (.int 0) = some (.lst (namesD ns)) := rfl
  have xN1 : ixD N (.int 1) = some (.lst (namesD ms)) := rfl
  have ogm : ownd (.mi "Game" (gameL ns ms (setT (zipT A B) a p v))) = true := rfl
  have fgm : frz (.mi "Game" (gameL ns ms (setT (zipT A B) a p v))) = gameD ns ms (setT (zipT A B) a p v) := by
    show frz (.mi "Game" _) = _
    simp [gameL]
  have oR : isOwn (.lst ((setT (zipT A B) a p v).map rowD)) = false := rfl
  have t4 : more = 0 → neD td (.tup [.str "told", U]) = some (.bl false) := t4
  generalize hgs : setT (zipT A B) a p v = T2 at *
  refine ⟨x3, z3, .lst (T2.map rowD), .int a, .int p, .int s, .lst [.int v.1, .int v.2], td, h3.less (by omega), ?_⟩
  show b_law_0 [sc, c, wD x y z, .int m, .int w, tb, matD A, matD B, N, U, .unb, .unb, .int more, d13, .unb, d15, d16, d17, d18, d19] = .nx [sc, c, wD x3 y z3, .int m, .int w, tb, matD A, matD B, N, U, .unb, .unb, .int more, .lst (T2.map rowD), .unb, .int a, .int p, .int s, .lst [.int v.1, .int v.2], td]
  have p1 : asgD 13 (lcoD (zipD (varD 6) (varD 7)) (gTupD (gConsD (gnD 10) (gConsD (gnD 14) (gNilD)))) (yesD) e_law_2 [10, 14]) [sc, c, wD x y z, .int m, .int w, tb, matD A, matD B, N, U, .unb, .unb, .int more, d13, .unb, d15, d16, d17, d18, d19] = .nx [sc, c, wD x y z, .int m, .int w, tb, matD A, matD B, N, U, .unb, .unb, .int more, mlT (zipT A B), .unb, d15, d16, d17, d18, d19] := asgN lc
  generalize matD A = MA at *
  generalize matD B = MB at *
  generalize N = N' at *
  generalize U = U' at *
  have p2 : par3D 15 16 17 (frzD (callO 2 [0] d__law_draw (ioA 2 (consA (varD 3) (nilA))))) (frzD (callO 2 [0] d__law_draw (ioA 2 (consA (varD 4) (nilA))))) (frzD (callO 2 [0] d__law_draw (ioA 2 (consA (constD (.int 2)) (nilA))))) [sc, c, wD x y z, .int m, .int w, tb, MA, MB, N', U', .unb, .unb, .int more, mlT (zipT A B), .unb, d15, d16, d17, d18, d19] = .nx [sc, c, wD x3 y z3, .int m, .int w, tb, MA, MB, N', U', .unb, .unb, .int more, mlT (zipT A B), .unb, .int a, .int p, .int s, d18, d19] := by
    have e3 : d__law_draw [wD x2 y z2, .int 2] = _ := e3
    generalize d__law_draw = q at e1 e2 e3 ⊢
    simp -implicitDefEqProofs [e1, e2, e3]
  have p3 : asgD 18 (listO (consD (ixO2 13 (varD 15) (qVar 16)) (nilD))) [sc, c, wD x3 y z3, .int m, .int w, tb, MA, MB, N', U', .unb, .unb, .int more, mlT (zipT A B), .unb, .int a, .int p, .int s, d18, d19] = .nx [sc, c, wD x3 y z3, .int m, .int w, tb, MA, MB, N', U', .unb, .unb, .int more, mlT (zipT A B), .unb, .int a, .int p, .int s, .ml [.int (at2 A a p), .int (at2 B a p)], d19] := by
    have e := ix2_ev (i := 13) (da := varD 15) (q := qVar 16) (env := [sc, c, wD x3 y z3, .int m, .int w, tb, MA, MB, N', U', .unb, .unb, .int more, mlT (zipT A B), .unb, .int a, .int p, .int s, d18, d19]) hT ha hp rfl (by simp) (qVar_int rfl)
    rw [hca] at e
    generalize mlT (zipT A B) = TT at *
    simp -implicitDefEqProofs [e]
  have p4 : setO 18 (binD addD (ixO 18 (varD 17)) (varD 12)) (varD 17) [sc, c, wD x3 y z3, .int m, .int w, tb, MA, MB, N', U', .unb, .unb, .int more, mlT (zipT A B), .unb, .int a, .int p, .int s, .ml [.int (at2 A a p), .int (at2 B a p)], d19] = .nx [sc, c, wD x3 y z3, .int m, .int w, tb, MA, MB, N', U', .unb, .unb, .int more, mlT (zipT A B), .unb, .int a, .int p, .int s, .ml [.int v.1, .int v.2], d19] := by
    generalize mlT (zipT A B) = TT at *
    rw [hv]
    have hs2 : s = 0 ∨ s = 1 := by omega
    rcases hs2 with rfl | rfl
    · simp -implicitDefEqProofs
    · simp -implicitDefEqProofs
  have p5 : setO2 13 (callBD tupleD (consD (varF 18) (nilD))) (varD 15) (qVar 16) [sc, c, wD x3 y z3, .int m, .int w, tb, MA, MB, N', U', .unb, .unb, .int more, mlT (zipT A B), .unb, .int a, .int p, .int s, .ml [.int v.1, .int v.2], d19] = .nx [sc, c, wD x3 y z3, .int m, .int w, tb, MA, MB, N', U', .unb, .unb, .int more, mlT T2, .unb, .int a, .int p, .int s, .lst [.int v.1, .int v.2], d19] := by
    rw [← hgs]
    exact set2_ev (i := 13) (env1 := [sc, c, wD x3 y z3, .int m, .int w, tb, MA, MB, N', U', .unb, .unb, .int more, mlT (zipT A B), .unb, .int a, .int p, .int s, .lst [.int v.1, .int v.2], d19]) (v := v) hT ha hp (by simp -implicitDefEqProofs) rfl (by simp) (qVar_int rfl)
  have p6 : asgD 19 (frzD (callO 1 [] d__law_said (consA (frzD (makeO "Game" 4 d_Game_init (consD (binD ixD (varD 8) (constD (.int 0))) (consD (binD ixD (varD 8) (constD (.int 1))) (consD (varF 13) (nilD)))))) (nilA)))) [sc, c, wD x3 y z3, .int m, .int w, tb, MA, MB, N', U', .unb, .unb, .int more, mlT T2, .unb, .int a, .int p, .int s, .lst [.int v.1, .int v.2], d19] = .nx [sc, c, wD x3 y z3, .int m, .int w, tb, MA, MB, N', U', .unb, .unb, .int more, .lst (T2.map rowD), .unb, .int a, .int p, .int s, .lst [.int v.1, .int v.2], td] := by
    unfold mlT
    generalize (T2.map fun r => D.ml (r.map pairD)) = TT at *
    generalize d_Game_init = q at ini ⊢
    generalize d__law_said = q2 at t1 ⊢
    generalize D.mi "Game" (gameL ns ms T2) = GM at *
    generalize gameD ns ms T2 = GG at *
    generalize T2.map rowD = TL at *
    generalize D.lst (namesD ns) = n1 at *
    generalize D.lst (namesD ms) = n2 at *
    simp -implicitDefEqProofs [oN, fT, xN0, xN1, ini, ogm, fgm, hoG, t1, t3, oR]
  have p7 : ∀ o, ifS (andD (testD (binD eqD (varD 12) (constD (.int 0)))) (testD (binD neD (varD 19) (tupD (consD (constD (.str "told")) (consD (varD 9) (nilD))))))) o (skipD) [sc, c, wD x3 y z3, .int m, .int w, tb, MA, MB, N', U', .unb, .unb, .int more, .lst (T2.map rowD), .unb, .int a, .int p, .int s, .lst [.int v.1, .int v.2], td] = .nx [sc, c, wD x3 y z3, .int m, .int w, tb, MA, MB, N', U', .unb, .unb, .int more, .lst (T2.map rowD), .unb, .int a, .int p, .int s, .lst [.int v.1, .int v.2], td] := fun o => by
    generalize D.lst (T2.map rowD) = TL at *
    refine ifF (env1 := [sc, c, wD x3 y z3, .int m, .int w, tb, MA, MB, N', U', .unb, .unb, .int more, TL, .unb, .int a, .int p, .int s, .lst [.int v.1, .int v.2], td]) ?_ rfl
    by_cases h0 : more = 0
    · have t4 := t4 h0
      simp -implicitDefEqProofs [h0, t2, oU, t4, -neD_ap]
    · simp -implicitDefEqProofs [h0]
  have p8 : ∀ o, ifS (andD (testD (binD neD (varD 12) (constD (.int 0)))) (andD (testD (binD gtD (varD 3) (constD (.int 1)))) (andD (testD (binD gtD (varD 4) (constD (.int 1)))) (testD (binD neD (varD 19) (tupD (consD (constD (.str "uneven")) (consD (frzD (callO 4 [] d__law_square (consA (varD 3) (consA (varD 4) (consA (varD 15) (consA (varD 16) (nilA))))))) (nilD))))))))) o (skipD) [sc, c, wD x3 y z3, .int m, .int w, tb, MA, MB, N', U', .unb, .unb, .int more, .lst (T2.map rowD), .unb, .int a, .int p, .int s, .lst [.int v.1, .int v.2], td] = .nx [sc, c, wD x3 y z3, .int m, .int w, tb, MA, MB, N', U', .unb, .unb, .int more, .lst (T2.map rowD), .unb, .int a, .int p, .int s, .lst [.int v.1, .int v.2], td] := fun o => by
    generalize D.lst (T2.map rowD) = TL at *
    refine ifF (env1 := [sc, c, wD x3 y z3, .int m, .int w, tb, MA, MB, N', U', .unb, .unb, .int more, TL, .unb, .int a, .int p, .int s, .lst [.int v.1, .int v.2], td]) ?_ rfl
    generalize d__law_square = q at sqe ⊢
    by_cases h0 : more = 0
    · simp -implicitDefEqProofs [h0]
    · by_cases hm : 1 < m
      · by_cases hw : 1 < w
        · have t5 := t5 h0 hm hw
          have hm' : (1 : Int) < m := by omega
          have hw' : (1 : Int) < w := by omega
          have fq : frz (sqD (fp a, fp p)) = sqD (fp a, fp p) := frz_tup _
          generalize sqD (fp a, fp p) = sq at *
          have ne0 : neD (.int more) (.int 0) = some (.bl true) := by simp [neD_ap, h0]
          simp -implicitDefEqProofs [ne0, hm, hw, hm', hw', t2, sqe, fq, t5, -neD_ap]
        · have hw' : ¬ (1 : Int) < w := by omega
          simp -implicitDefEqProofs [h0, hm, hw, hw']
      · have hm' : ¬ (1 : Int) < m := by omega
        simp -implicitDefEqProofs [h0, hm, hm']
  have p9 : ∀ o, ifS (andD (testD (binD neD (varD 12) (constD (.int 0)))) (andD (orD (testD (binD eqD (varD 3) (constD (.int 1)))) (testD (binD eqD (varD 4) (constD (.int 1))))) (testD (binD neD (binD ixD (varD 19) (constD (.int 0))) (constD (.str "told")))))) o (skipD) [sc, c, wD x3 y z3, .int m, .int w, tb, MA, MB, N', U', .unb, .unb, .int more, .lst (T2.map rowD), .unb, .int a, .int p, .int s, .lst [.int v.1, .int v.2], td] = .nx [sc, c, wD x3 y z3, .int m, .int w, tb, MA, MB, N', U', .unb, .unb, .int more, .lst (T2.map rowD), .unb, .int a, .int p, .int s, .lst [.int v.1, .int v.2], td] := fun o => by
    generalize D.lst (T2.map rowD) = TL at *
    refine ifF (env1 := [sc, c, wD x3 y z3, .int m, .int w, tb, MA, MB, N', U', .unb, .unb, .int more, TL, .unb, .int a, .int p, .int s, .lst [.int v.1, .int v.2], td]) ?_ rfl
    by_cases h0 : more = 0
    · simp -implicitDefEqProofs [h0]
    · have ne0 : neD (.int more) (.int 0) = some (.bl true) := by simp [neD_ap, h0]
      by_cases hmw : m = 1 ∨ w = 1
      · obtain ⟨e, x0, oe, t6⟩ := t6 hmw h0
        have hmi : (m : Int) = 1 ∨ (w : Int) = 1 := by omega
        by_cases hm : m = 1
        · simp -implicitDefEqProofs [ne0, hm, t2, x0, oe, t6, -neD_ap]
        · have hw : w = 1 := by omega
          simp -implicitDefEqProofs [ne0, hm, hw, t2, x0, oe, t6, -neD_ap]
      · have hm : ¬ m = 1 := by omega
        have hw : ¬ w = 1 := by omega
        have hm' : ¬ (m : Int) = 1 := by omega
        have hw' : ¬ (w : Int) = 1 := by omega
        simp -implicitDefEqProofs [ne0, hm, hw, hm', hw', -neD_ap]
  unfold b_law_0
  exact seqN _ p1 (seqN _ p2 (seqN _ p3 (seqN _ p4 (seqN _ p5 (seqN _ p6 (seqN _ (p7 _) (seqN _ (p8 _) (p9 _))))))))
/-! ### the law -/
theorem rep_at {n k : Nat} (h : k < n) : gd (List.replicate n (0 : Int)) k 0 = 0 := by
  rw [gd_get (by simp; exact h)]
  simp
theorem flat_rep {α : Type} (x : α) : ∀ n : Nat, (List.replicate n [x]).flatten = List.replicate n x
  | 0 => rfl
  | n + 1 => by
    rw [List.replicate_succ, List.flatten_cons, List.replicate_succ, flat_rep x n]
    rfl
theorem due_row {T : List (List Int)} (t0 : Int) {r : List Int} (hl : r.length ≤ 1000) (hx : ixD (matD T) (.int 0) = some (intsD (gd T 0 []))) (hy : ixD (intsD (gd T 0 [])) (.int 0) = some (.int t0)) (a0 a1 a2 a3 a4 a6 a7 a8 a9 a12 a13 a14 a15 a16 a17 a18 a19 : D) : e_law_1 [a0, a1, a2, a3, a4, matD T, a6, a7, a8, a9, intsD r, .unb, a12, a13, a14, a15, a16, a17, a18, a19] = .ok (intsD (r.map fun x => x - t0)) [a0, a1, a2, a3, a4, matD T, a6, a7, a8, a9, intsD r, .unb, a12, a13, a14, a15, a16, a17, a18, a19] := by
  have hoT : isOwn (matD T) = false := rfl
  generalize matD T = M at *
  generalize intsD (gd T 0 []) = r0 at *
  have c : lcD (itS (varD 10)) (gnD 11) (yesD) e_law_0 [11] [a0, a1, a2, a3, a4, M, a6, a7, a8, a9, intsD r, .unb, a12, a13, a14, a15, a16, a17, a18, a19] = .ok (.ml (r.map fun x => .int (x - t0))) [a0, a1, a2, a3, a4, M, a6, a7, a8, a9, intsD r, .unb, a12, a13, a14, a15, a16, a17, a18, a19] := by
    refine lcD_mapA (xs := r) (env1 := [a0, a1, a2, a3, a4, M, a6, a7, a8, a9, intsD r, .unb, a12, a13, a14, a15, a16, a17, a18, a19]) D.int (fun x => [a0, a1, a2, a3, a4, M, a6, a7, a8, a9, intsD r, .int x, a12, a13, a14, a15, a16, a17, a18, a19]) _ ?_ (by omega) (fun x hx' => ⟨?_, ?_, ?_⟩) ?_
    · simp
    · simp
    · simp -implicitDefEqProofs [e_law_0, hoT, hx, hy]
    · simp
    · simp
  have f : frz (.ml (r.map fun x => D.int (x - t0))) = intsD (r.map fun x => x - t0) := by
    rw [frz_ml, frzL_id (fun _ => rfl), intsD, List.map_map]
    rfl
  exact frz_ok c f
theorem due_ev {T : List (List Int)} {m w n : Nat} (h : Mat n T m w) (m1 : 1 ≤ m) (m4 : m ≤ 1000) (w1 : 1 ≤ w) (w4 : w ≤ 1000) (a0 a1 a2 a3 a4 a6 a7 a8 a9 a12 a13 a14 a15 a16 a17 a18 a19 : D) : frzD (lcD (itS (varD 5)) (gnD 10) (yesD) e_law_1 [10, 11]) [a0, a1, a2, a3, a4, matD T, a6, a7, a8, a9, .unb, .unb, a12, a13, a14, a15, a16, a17, a18, a19] = .ok (matD (matF m w fun i j => at2 T i j - at2 T 0 0)) [a0, a1, a2, a3, a4, matD T, a6, a7, a8, a9, .unb, .unb, a12, a13, a14, a15, a16, a17, a18, a19] := by
  have x0 : ixD (matD T) (.int 0) = some (intsD (gd T 0 [])) := atI_map intsD (i := 0) (by rw [h.tall]; omega) []
  have y0 : ixD (intsD (gd T 0 [])) (.int 0) = some (.int (at2 T 0 0)) := atI_map D.int (i := 0) (by rw [h.row (by omega)]; omega) 0
  have row := fun r (hr : r ∈ T) => due_row (at2 T 0 0) (r := r) (by have := h.wide r hr; omega) x0 y0 a0 a1 a2 a3 a4 a6 a7 a8 a9 a12 a13 a14 a15 a16 a17 a18 a19
  have hoT : isOwn (matD T) = false := rfl
  have hsT : srcOf (matD T) = some (T.map intsD) := rfl
  have e : (T.map fun r => r.map fun x => x - at2 T 0 0) = matF m w fun i j => at2 T i j - at2 T 0 0 := by
    have := range_map (fun r : List Int => r.map fun x => x - at2 T 0 0) [] T
    rw [this, h.tall]
    unfold matF
    refine List.map_congr_left fun i hi => ?_
    have hi := List.mem_range.mp hi
    have := range_map (fun x : Int => x - at2 T 0 0) 0 (gd T i [])
    rw [h.row hi] at this
    exact this
  rw [← e]
  have f : frz (.ml (T.map fun r => intsD (r.map fun x => x - at2 T 0 0))) = matD (T.map fun r => r.map fun x => x - at2 T 0 0) := by
    rw [frz_ml, frzL_id (fun _ => rfl), matD, List.map_map]
    rfl
  generalize at2 T 0 0 = t0 at *
  refine frz_ok ?_ f
  have hl : T.length ≤ 1000 := by rw [h.tall]; omega
  generalize matD T = M at *
  refine lcD_mapA (xs := T) (env1 := [a0, a1, a2, a3, a4, M, a6, a7, a8, a9, .unb, .unb, a12, a13, a14, a15, a16, a17, a18, a19]) intsD (fun r => [a0, a1, a2, a3, a4, M, a6, a7, a8, a9, intsD r, .unb, a12, a13, a14, a15, a16, a17, a18, a19]) _ ?_ (by omega) (fun r hr' => ⟨?_, ?_, ?_⟩) ?_
  · simp -implicitDefEqProofs [hoT, hsT]
  · simp
  · exact row r hr'
  · simp
  · simp
theorem body_ev (c : Int) (sc d2 d3 d4 d5 d6 d7 d8 d9 d12 d13 d15 d16 d17 d18 d19 : D) : ∃ a2 a3 a4 a5 a6 a7 a8 a9 a12 a13 a15 a16 a17 a18 a19, b_law_1 [sc, .int c, d2, d3, d4, d5, d6, d7, d8, d9, .unb, .unb, d12, d13, .unb, d15, d16, d17, d18, d19] = .nx [sc, .int c, a2, a3, a4, a5, a6, a7, a8, a9, .unb, .unb, a12, a13, .unb, a15, a16, a17, a18, a19] := by
  obtain ⟨x0, y, h0, e0⟩ := well_ev c
  obtain ⟨r1, x1, z1, w1, p1, e1⟩ := draw_nat (m := 4) h0 (by decide) (by decide) (by decide)
  obtain ⟨r2, x2, z2, w2, p2, e2⟩ := draw_nat (m := 4) w1 (by decide) (by decide) (by decide)
  obtain ⟨kd, x3, z3, w3, p3, e3⟩ := draw_nat (m := 4) w2 (by decide) (by decide) (by decide)
  generalize hm : 1 + r1 = m
  generalize hw : 1 + r2 = w
  have m1 : 1 ≤ m := by omega
  have m4 : m ≤ 4 := by omega
  have w1' : 1 ≤ w := by omega
  have w4' : w ≤ 4 := by omega
  have mw : 4 * w * m ≤ 64 := by
    have : 4 * w * m ≤ 4 * 4 * 4 := Nat.mul_le_mul (by omega) m4
    omega
  obtain ⟨x4, z4, T, w4, hT, e4⟩ := wtable_ev w3 m w kd (by omega) (by omega) (by omega) (by omega)
  have w4 : WOk 900000 x4 y z4 := w4.less (by omega)
  obtain ⟨x7, z7, C, w7, hC, e7⟩ := wtable_ev w4 1 w 3 (by decide) (by decide) (by omega) (by omega)
  have w7 : WOk 800000 x7 y z7 := w7.less (by omega)
  obtain ⟨x8, z8, Rr, w8, hR, e8⟩ := wtable_ev w7 1 m 3 (by decide) (by decide) (by omega) (by omega)
  have w8 : WOk 700000 x8 y z8 := w8.less (by omega)
  have lc := hC.row (i := 0) (by decide)
  have lr := hR.row (i := 0) (by decide)
  have scs : ∀ a ∈ gd C 0 [], Sm 70 a := fun a ha => hC.sm _ (gd_mem (by rw [hC.tall]; decide) _) a ha
  have srs : ∀ a ∈ gd Rr 0 [], Sm 70 a := fun a ha => hR.sm _ (gd_mem (by rw [hR.tall]; decide) _) a ha
  have s0 : ∀ k : Nat, ∀ a ∈ List.replicate k (0 : Int), Sm 70 a := fun k a ha => by
    rw [List.eq_of_mem_replicate ha]
    unfold Sm
    decide
  have l1 := lifted_ev hT (cs := gd C 0 []) (rs := List.replicate m 0) lc (by simp) (by omega) (by omega)
  have l2 := lifted_ev hT (cs := List.replicate w 0) (rs := gd Rr 0 []) (by simp) lr (by omega) (by omega)
  rw [show intsD (List.replicate m 0) = .lst (List.replicate m (D.int 0)) from by rw [intsD, List.map_replicate]] at l1
  rw [show intsD (List.replicate w 0) = .lst (List.replicate w (D.int 0)) from by rw [intsD, List.map_replicate]] at l2
  have hAm := liftM_mat hT (cs := gd C 0 []) (rs := List.replicate m 0) lc (by simp) scs (s0 m)
  have hBm := liftM_mat hT (cs := List.replicate w 0) (rs := gd Rr 0 []) (by simp) lr (s0 w) srs
  have atA : ∀ i j, i < m → j < w → at2 (liftM T m w (gd C 0 []) (List.replicate m 0)) i j = at2 T i j + gd (gd C 0 []) j 0 := fun i j hi hj => by
    rw [liftM_at hi hj, rep_at hi, Int.add_zero]
  have atB : ∀ i j, i < m → j < w → at2 (liftM T m w (List.replicate w 0) (gd Rr 0 [])) i j = at2 T i j + gd (gd Rr 0 []) i 0 := fun i j hi hj => by
    rw [liftM_at hi hj, rep_at hj, Int.add_zero]
  generalize hAA : liftM T m w (gd C 0 []) (List.replicate m 0) = A at *
  generalize hBB : liftM T m w (List.replicate w 0) (gd Rr 0 []) = B at *
  have hcr : ∀ q ∈ sqs m w, crs (at2 A) q = crs (at2 B) q := fun q hq => by
    obtain ⟨⟨q1, q2⟩, q3, q4⟩ := sqs_mem.mp hq
    unfold crs
    rw [atA _ _ (by omega) (by omega), atA _ _ (by omega) (by omega), atA _ _ (by omega) (by omega), atA _ _ (by omega) (by omega), atB _ _ (by omega) (by omega), atB _ _ (by omega) (by omega), atB _ _ (by omega) (by omega), atB _ _ (by omega) (by omega)]
    omega
  have hdue : (matF m w fun i j => at2 T i j - at2 T 0 0) = matF m w (shrF (at2 A) (at2 B)) := by
    unfold matF
    refine List.map_congr_left fun i hi => List.map_congr_left fun j hj => ?_
    have hi := List.mem_range.mp hi
    have hj := List.mem_range.mp hj
    show at2 T i j - at2 T 0 0 = at2 B 0 j - at2 B 0 0 + at2 A i j - at2 A 0 j
    rw [atA i j hi hj, atA 0 j (by omega) hj, atB 0 j (by omega) hj, atB 0 0 (by omega) (by omega)]
    omega
  -- the names
  obtain ⟨ns, x9, z9, w9, n1, an, dn, e9⟩ := wnames_ev w8 (n := m) (by omega) (by omega)
  have w9 : WOk 600000 x9 y z9 := w9.less (by omega)
  obtain ⟨ms, xa, za, wa, n2, am, dm, ea⟩ := wnames_ev w9 (n := w) (by omega) (by omega)
  have wa : WOk 500000 xa y za := wa.less (by omega)
  have hTb : Tab (zipT A B) m w := zipT_tab hAm hBm (by decide)
  have hG : GOk ns ms (zipT A B) := ⟨an, am, dn, dm, by omega, by omega, by omega, by omega, by rw [n1, n2]; exact hTb⟩
  obtain ⟨r9, xb, zb, wb, p9, eb⟩ := draw_nat (m := 4) wa (by decide) (by decide) (by decide)
  -- the comprehensions
  have f5 : frz (.ml (T.map intsD)) = matD T := by rw [frz_ml, frzL_id (fun _ => rfl)]
  have f7 : frz (.ml (C.map intsD)) = matD C := by rw [frz_ml, frzL_id (fun _ => rfl)]
  have f8 : frz (.ml (Rr.map intsD)) = matD Rr := by rw [frz_ml, frzL_id (fun _ => rfl)]
  have fA : frz (.ml (A.map intsD)) = matD A := by rw [frz_ml, frzL_id (fun _ => rfl)]
  have fB : frz (.ml (B.map intsD)) = matD B := by rw [frz_ml, frzL_id (fun _ => rfl)]
  have xC : ixD (matD C) (.int 0) = some (intsD (gd C 0 [])) := atI_map intsD (i := 0) (by rw [hC.tall]; decide) []
  have xR : ixD (matD Rr) (.int 0) = some (intsD (gd Rr 0 [])) := atI_map intsD (i := 0) (by rw [hR.tall]; decide) []
  have e7 : d__law_table [wD x4 y z4, .int 1, .int w, .int 3] = _ := e7
  have e8 : d__law_table [wD x7 y z7, .int 1, .int m, .int 3] = _ := e8
  have oT : isOwn (matD T) = false := rfl
  have oA : isOwn (matD A) = false := rfl
  have hm' : (1 : Int) + (r1 : Nat) = (m : Nat) := by omega
  have hw' : (1 : Int) + (r2 : Nat) = (w : Nat) := by omega
  have rm1 : (m : Int) ≤ 1000 := by omega
  have rw1 : (w : Int) ≤ 1000 := by omega
  have rm0 : (-1000 : Int) ≤ m := by omega
  have rw0 : (-1000 : Int) ≤ w := by omega
  have fn1 := frz_names ns
  have fn2 := frz_names ms
  have s1 : asgD 2 (callO 1 [] d__law_well (consA (varD 1) (nilA))) [sc, .int c, d2, d3, d4, d5, d6, d7, d8, d9, .unb, .unb, d12, d13, .unb, d15, d16, d17, d18, d19] = .nx [sc, .int c, wD x0 y 0, d3, d4, d5, d6, d7, d8, d9, .unb, .unb, d12, d13, .unb, d15, d16, d17, d18, d19] := by
    generalize d__law_well = q at e0 ⊢
    simp -implicitDefEqProofs [e0]
  have s2 : parD 3 4 (binD addD (constD (.int 1)) (frzD (callO 2 [0] d__law_draw (ioA 2 (consA (constD (.int 4)) (nilA)))))) (binD addD (constD (.int 1)) (frzD (callO 2 [0] d__law_draw (ioA 2 (consA (constD (.int 4)) (nilA)))))) [sc, .int c, wD x0 y 0, d3, d4, d5, d6, d7, d8, d9, .unb, .unb, d12, d13, .unb, d15, d16, d17, d18, d19] = .nx [sc, .int c, wD x2 y z2, .int m, .int w, d5, d6, d7, d8, d9, .unb, .unb, d12, d13, .unb, d15, d16, d17, d18, d19] := by
    have e1 : d__law_draw [wD x0 y 0, .int 4] = _ := e1
    have e2 : d__law_draw [wD x1 y z1, .int 4] = _ := e2
    generalize d__law_draw = q at e1 e2 ⊢
    simp -implicitDefEqProofs [e1, e2, hm', hw']
  have s3 : asgD 5 (frzD (callO 4 [0] d__law_table (ioA 2 (consA (varD 3) (consA (varD 4) (consA (frzD (callO 2 [0] d__law_draw (ioA 2 (consA (constD (.int 4)) (nilA))))) (nilA))))))) [sc, .int c, wD x2 y z2, .int m, .int w, d5, d6, d7, d8, d9, .unb, .unb, d12, d13, .unb, d15, d16, d17, d18, d19] = .nx [sc, .int c, wD x4 y z4, .int m, .int w, matD T, d6, d7, d8, d9, .unb, .unb, d12, d13, .unb, d15, d16, d17, d18, d19] := by
    have e3 : d__law_draw [wD x2 y z2, .int 4] = _ := e3
    generalize d__law_draw = q at e3 ⊢
    generalize d__law_table = q2 at e4 ⊢
    generalize D.ml (T.map intsD) = TM at e4 f5
    generalize matD T = TT at f5 ⊢
    simp -implicitDefEqProofs [e3, e4, f5]
  have s4 : asgD 6 (frzD (callO 3 [] d__law_lifted (consA (varD 5) (consA (binD ixD (frzD (callO 4 [0] d__law_table (ioA 2 (consA (constD (.int 1)) (consA (varD 4) (consA (constD (.int 3)) (nilA))))))) (constD (.int 0))) (consA (repLD (consD (constD (.int 0)) (nilD)) (varD 3)) (nilA)))))) [sc, .int c, wD x4 y z4, .int m, .int w, matD T, d6, d7, d8, d9, .unb, .unb, d12, d13, .unb, d15, d16, d17, d18, d19] = .nx [sc, .int c, wD x7 y z7, .int m, .int w, matD T, matD A, d7, d8, d9, .unb, .unb, d12, d13, .unb, d15, d16, d17, d18, d19] := by
    generalize d__law_lifted = q at l1 ⊢
    generalize d__law_table = q2 at e7 ⊢
    generalize D.ml (C.map intsD) = CM at e7 f7
    generalize matD C = CC at f7 xC
    generalize intsD (gd C 0 []) = c0 at xC l1
    generalize D.ml (A.map intsD) = AM at l1 fA
    generalize matD A = AA at *
    generalize matD T = TT at *
    simp -implicitDefEqProofs [oT, e7, f7, xC, rm0, rm1, l1, fA]
  have s5 : asgD 7 (frzD (callO 3 [] d__law_lifted (consA (varD 5) (consA (repLD (consD (constD (.int 0)) (nilD)) (varD 4)) (consA (binD ixD (frzD (callO 4 [0] d__law_table (ioA 2 (consA (constD (.int 1)) (consA (varD 3) (consA (constD (.int 3)) (nilA))))))) (constD (.int 0))) (nilA)))))) [sc, .int c, wD x7 y z7, .int m, .int w, matD T, matD A, d7, d8, d9, .unb, .unb, d12, d13, .unb, d15, d16, d17, d18, d19] = .nx [sc, .int c, wD x8 y z8, .int m, .int w, matD T, matD A, matD B, d8, d9, .unb, .unb, d12, d13, .unb, d15, d16, d17, d18, d19] := by
    generalize d__law_lifted = q at l2 ⊢
    generalize d__law_table = q2 at e8 ⊢
    generalize D.ml (Rr.map intsD) = CM at e8 f8
    generalize matD Rr = CC at f8 xR
    generalize intsD (gd Rr 0 []) = c0 at xR l2
    generalize D.ml (B.map intsD) = BM at l2 fB
    generalize matD B = BB at *
    generalize matD A = AA at *
    generalize matD T = TT at *
    simp -implicitDefEqProofs [oT, e8, f8, xR, rw0, rw1, l2, fB]
  have s6 : asgD 8 (tupD (consD (frzD (callO 2 [0] d__law_names (ioA 2 (consA (varD 3) (nilA))))) (consD (frzD (callO 2 [0] d__law_names (ioA 2 (consA (varD 4) (nilA))))) (nilD)))) [sc, .int c, wD x8 y z8, .int m, .int w, matD T, matD A, matD B, d8, d9, .unb, .unb, d12, d13, .unb, d15, d16, d17, d18, d19] = .nx [sc, .int c, wD xa y za, .int m, .int w, matD T, matD A, matD B, .tup [.lst (namesD ns), .lst (namesD ms)], d9, .unb, .unb, d12, d13, .unb, d15, d16, d17, d18, d19] := by
    generalize d__law_names = q at e9 ea ⊢
    generalize matD B = BB at *
    generalize matD A = AA at *
    generalize matD T = TT at *
    generalize namesD ns = n1 at *
    generalize namesD ms = n2 at *
    simp -implicitDefEqProofs [e9, ea, fn1, fn2]
  have s7 : asgD 9 (frzD (lcD (itS (varD 5)) (gnD 10) (yesD) e_law_1 [10, 11])) [sc, .int c, wD xa y za, .int m, .int w, matD T, matD A, matD B, .tup [.lst (namesD ns), .lst (namesD ms)], d9, .unb, .unb, d12, d13, .unb, d15, d16, d17, d18, d19] = .nx [sc, .int c, wD xa y za, .int m, .int w, matD T, matD A, matD B, .tup [.lst (namesD ns), .lst (namesD ms)], matD (matF m w (shrF (at2 A) (at2 B))), .unb, .unb, d12, d13, .unb, d15, d16, d17, d18, d19] := by
    rw [← hdue]
    exact asgN (due_ev hT m1 (by omega) w1' (by omega) _ _ _ _ _ _ _ _ _ _ _ _ _ _ _ _ _)
  -- the numbers more
  have hb1 : (10 : Int) ^ 20 = 100000000000000000000 := by decide
  have s8 : itS (lstD (consD (constD (.int 0)) (consD (binD addD (constD (.int 1)) (frzD (callO 2 [0] d__law_draw (ioA 2 (consA (constD (.int 4)) (nilA)))))) (consD (binD subD (unD negD (binD powD (constD (.int 10)) (constD (.int 20)))) (constD (.int 7))) (nilD))))) [sc, .int c, wD xa y za, .int m, .int w, matD T, matD A, matD B, .tup [.lst (namesD ns), .lst (namesD ms)], matD (matF m w (shrF (at2 A) (at2 B))), .unb, .unb, d12, d13, .unb, d15, d16, d17, d18, d19] = .ok [.int 0, .int (1 + (r9 : Nat)), .int (-100000000000000000000 - 7)] [sc, .int c, wD xb y zb, .int m, .int w, matD T, matD A, matD B, .tup [.lst (namesD ns), .lst (namesD ms)], matD (matF m w (shrF (at2 A) (at2 B))), .unb, .unb, d12, d13, .unb, d15, d16, d17, d18, d19] := by
    have eb : d__law_draw [wD xa y za, .int 4] = _ := eb
    generalize d__law_draw = q at eb ⊢
    generalize matD (matF m w (shrF (at2 A) (at2 B))) = U
    generalize D.tup [D.lst (namesD ns), D.lst (namesD ms)] = N
    generalize matD B = BB at *
    generalize matD A = AA at *
    generalize matD T = TT at *
    simp -implicitDefEqProofs [eb, fitsPow_lit]
  obtain ⟨xc, zc, b13, b15, b16, b17, b18, b19, wc, i1⟩ := inner_ev wb (by decide) hAm hBm m1 m4 w1' w4' hG n1 n2 hcr (more := 0) (by unfold Sm; decide) sc (.int c) (matD T) d13 d15 d16 d17 d18 d19
  obtain ⟨xd, zd, c13, c15, c16, c17, c18, c19, wd, i2⟩ := inner_ev wc (by decide) hAm hBm m1 m4 w1' w4' hG n1 n2 hcr (more := 1 + (r9 : Nat)) (sm_lit 10 (by omega)) sc (.int c) (matD T) b13 b15 b16 b17 b18 b19
  obtain ⟨xe, ze, g13, g15, g16, g17, g18, g19, we, i3⟩ := inner_ev wd (by decide) hAm hBm m1 m4 w1' w4' hG n1 n2 hcr (more := -100000000000000000000 - 7) (by unfold Sm; decide) sc (.int c) (matD T) c13 c15 c16 c17 c18 c19
  have fin : b_law_1 [sc, .int c, d2, d3, d4, d5, d6, d7, d8, d9, .unb, .unb, d12, d13, .unb, d15, d16, d17, d18, d19] = .nx [sc, .int c, wD xe y ze, .int m, .int w, matD T, matD A, matD B, .tup [.lst (namesD ns), .lst (namesD ms)], matD (matF m w (shrF (at2 A) (at2 B))), .unb, .unb, .int (-100000000000000000000 - 7), g13, .unb, g15, g16, g17, g18, g19] := by
    unfold b_law_1
    refine seqN _ s1 (seqN _ s2 (seqN _ s3 (seqN _ s4 (seqN _ s5 (seqN _ s6 (seqN _ s7 (forN s8 ?_)))))))
    rw [forGo_nx (e1 := [sc, .int c, wD xb y zb, .int m, .int w, matD T, matD A, matD B, .tup [.lst (namesD ns), .lst (namesD ms)], matD (matF m w (shrF (at2 A) (at2 B))), .unb, .unb, .int 0, d13, .unb, d15, d16, d17, d18, d19]) rfl i1,
      forGo_nx (e1 := [sc, .int c, wD xc y zc, .int m, .int w, matD T, matD A, matD B, .tup [.lst (namesD ns), .lst (namesD ms)], matD (matF m w (shrF (at2 A) (at2 B))), .unb, .unb, .int (1 + (r9 : Nat)), b13, .unb, b15, b16, b17, b18, b19]) rfl i2,
      forGo_nx (e1 := [sc, .int c, wD xd y zd, .int m, .int w, matD T, matD A, matD B, .tup [.lst (namesD ns), .lst (namesD ms)], matD (matF m w (shrF (at2 A) (at2 B))), .unb, .unb, .int (-100000000000000000000 - 7), c13, .unb, c15, c16, c17, c18, c19]) rfl i3]
    rfl
  exact ⟨_, _, _, _, _, _, _, _, _, _, _, _, _, _, _, fin⟩
theorem law_loop (sc : D) : ∀ (ns : List Int) (a1 a2 a3 a4 a5 a6 a7 a8 a9 a12 a13 a15 a16 a17 a18 a19 : D), ∃ E, forGo (gnD 1) b_law_1 (ns.map D.int) [sc, a1, a2, a3, a4, a5, a6, a7, a8, a9, .unb, .unb, a12, a13, .unb, a15, a16, a17, a18, a19] = .nx E
  | [], _, _, _, _, _, _, _, _, _, _, _, _, _, _, _, _ => ⟨_, rfl⟩
  | c :: ns, a1, a2, a3, a4, a5, a6, a7, a8, a9, a12, a13, a15, a16, a17, a18, a19 => by
    obtain ⟨b2, b3, b4, b5, b6, b7, b8, b9, b12, b13, b15, b16, b17, b18, b19, e1⟩ := body_ev c sc a2 a3 a4 a5 a6 a7 a8 a9 a12 a13 a15 a16 a17 a18 a19
    obtain ⟨E2, e2⟩ := law_loop sc ns (.int c) b2 b3 b4 b5 b6 b7 b8 b9 b12 b13 b15 b16 b17 b18 b19
    refine ⟨E2, ?_⟩
    rw [List.map_cons, forGo_nx (e1 := [sc, .int c, a2, a3, a4, a5, a6, a7, a8, a9, .unb, .unb, a12, a13, .unb, a15, a16, a17, a18, a19]) rfl e1, e2]
theorem cell_at_ev (ns : List Int) (hn : ns.length ≤ 63) : ∃ c : Int, d__law_cell_at [.lst (ns.map D.int), .int 0] = .ret (.int c) [] := by
  have hl : lenD [.lst (ns.map D.int)] = some (.int ns.length) := by rw [lenD_lst, List.length_map]
  have ho : isOwn (.lst (ns.map D.int)) = false := rfl
  unfold d__law_cell_at
  cases ns with
  | nil =>
    refine ⟨0, ?_⟩
    simp [runD_ap]
  | cons a r =>
    refine ⟨a, ?_⟩
    have hp : (0 : Int) < ((a :: r).length : Nat) := by simp
    have hx : ixD (.lst ((a :: r).map D.int)) (.int 0) = some (.int a) := by simp
    generalize D.lst ((a :: r).map D.int) = L at *
    generalize (((a :: r).length : Nat) : Int) = u at *
    simp -implicitDefEqProofs [runD_ap, hl, ho, hp, hx]
theorem law_eq (ns : List Int) (hn : ns.length ≤ 63) (_ : ∀ z ∈ ns, PySem.Builtin.Int.intBits z ≤ 1048576) : ∃ outs, d_law [.lst (ns.map D.int)] = .ret (.bl true) outs := by
  obtain ⟨c0, e0⟩ := cell_at_ev ns hn
  obtain ⟨ks, hk, hkl⟩ : ∃ ks : List Int, cutL (ns.map D.int) (some 1) (some 6) = ks.map D.int ∧ ks.length ≤ 63 := by
    unfold cutL
    refine ⟨(ns.drop (HT.sIx (ns.map D.int).length 0 (some 1))).take (HT.sIx (ns.map D.int).length (ns.map D.int).length (some 6) - HT.sIx (ns.map D.int).length 0 (some 1)), by rw [List.map_take, List.map_drop], ?_⟩
    rw [List.length_take, List.length_drop]
    omega
  have e1 : addD (.lst [.int c0]) (.lst (ks.map D.int)) = some (.lst ((c0 :: ks).map D.int)) := addL (u := D.int) (a := [c0]) (b := ks) (len_line (by simp; omega))
  have hoL : isOwn (.lst (ns.map D.int)) = false := rfl
  have cd : cutD (.lst (ns.map D.int)) (some 1) (some 6) = some (.lst (ks.map D.int)) := by rw [cutD_lst, hk]
  obtain ⟨E', e3⟩ := law_loop (.lst (ns.map D.int)) (c0 :: ks) .unb .unb .unb .unb .unb .unb .unb .unb .unb .unb .unb .unb .unb .unb .unb .unb
  have hsr : srcOf (.lst ((c0 :: ks).map D.int)) = some ((c0 :: ks).map D.int) := rfl
  generalize D.lst ((c0 :: ks).map D.int) = A at *
  generalize (c0 :: ks).map D.int = AL at *
  generalize D.lst (ks.map D.int) = B at *
  generalize D.lst (ns.map D.int) = L at *
  refine ⟨outsD [] E', ?_⟩
  unfold d_law
  refine runR (env := E') ?_
  refine seqN E' (forN (ds := AL) (env1 := [L, .unb, .unb, .unb, .unb, .unb, .unb, .unb, .unb, .unb, .unb, .unb, .unb, .unb, .unb, .unb, .unb, .unb, .unb, .unb]) ?_ e3) rfl
  generalize d__law_cell_at = q at e0 ⊢
  simp -implicitDefEqProofs [hoL, e0, cd, e1, hsr, -addD_lst, -cutD_lst]
end K52
namespace K52
open PySem PySem.Spec PyProof.Rows L2 DL
noncomputable section
def topS (i : Nat) : Stmt := PySem.Challenge.pw_bestreply_k52_shared_tables_built.main.body.getD i (.Pass ⟨0, 0, 0, 0⟩)
abbrev s__law_well : Stmt := topS 29
def a__law_well : He.DefD := ⟨("_law_well", none), "_law_well", "_law_well", defArgs s__law_well, defBody s__law_well, defScope s__law_well, [], []⟩
abbrev s__law_draw : Stmt := topS 30
def a__law_draw : He.DefD := ⟨("_law_draw", none), "_law_draw", "_law_draw", defArgs s__law_draw, defBody s__law_draw, defScope s__law_draw, [], []⟩
abbrev s__law_table : Stmt := topS 34
def a__law_table : He.DefD := ⟨("_law_table", none), "_law_table", "_law_table", defArgs s__law_table, defBody s__law_table, defScope s__law_table, [], []⟩
abbrev s__law_lifted : Stmt := topS 35
def a__law_lifted : He.DefD := ⟨("_law_lifted", none), "_law_lifted", "_law_lifted", defArgs s__law_lifted, defBody s__law_lifted, defScope s__law_lifted, [], []⟩
abbrev s__law_cell_at : Stmt := topS 28
def a__law_cell_at : He.DefD := ⟨("_law_cell_at", none), "_law_cell_at", "_law_cell_at", defArgs s__law_cell_at, defBody s__law_cell_at, defScope s__law_cell_at, [], []⟩
abbrev s__law_pick : Stmt := topS 31
def a__law_pick : He.DefD := ⟨("_law_pick", none), "_law_pick", "_law_pick", defArgs s__law_pick, defBody s__law_pick, defScope s__law_pick, [], []⟩
abbrev s__law_name : Stmt := topS 32
def a__law_name : He.DefD := ⟨("_law_name", none), "_law_name", "_law_name", defArgs s__law_name, defBody s__law_name, defScope s__law_name, [], []⟩
abbrev s__law_names : Stmt := topS 33
def a__law_names : He.DefD := ⟨("_law_names", none), "_law_names", "_law_names", defArgs s__law_names, defBody s__law_names, defScope s__law_names, [], []⟩
abbrev s_two_of : Stmt := topS 11
def a_two_of : He.DefD := ⟨("two_of", none), "two_of", "two_of", defArgs s_two_of, defBody s_two_of, defScope s_two_of, [], []⟩
abbrev s_Game_size : Stmt := inCls (topS 26) 3
def a_Game_size : He.DefD := ⟨("Game", some "size"), "size", "Game.size", defArgs s_Game_size, defBody s_Game_size, defScope s_Game_size, [], []⟩
abbrev s_squares : Stmt := topS 12
def a_squares : He.DefD := ⟨("squares", none), "squares", "squares", defArgs s_squares, defBody s_squares, defScope s_squares, [], []⟩
abbrev s_Game_pay : Stmt := inCls (topS 26) 4
def a_Game_pay : He.DefD := ⟨("Game", some "pay"), "pay", "Game.pay", defArgs s_Game_pay, defBody s_Game_pay, defScope s_Game_pay, [], []⟩
abbrev s_pays_of : Stmt := topS 10
def a_pays_of : He.DefD := ⟨("pays_of", none), "pays_of", "pays_of", defArgs s_pays_of, defBody s_pays_of, defScope s_pays_of, [], []⟩
abbrev s_cross : Stmt := topS 13
def a_cross : He.DefD := ⟨("cross", none), "cross", "cross", defArgs s_cross, defBody s_cross, defScope s_cross, [], []⟩
abbrev s_shared_table : Stmt := topS 14
def a_shared_table : He.DefD := ⟨("shared_table", none), "shared_table", "shared_table", defArgs s_shared_table, defBody s_shared_table, defScope s_shared_table, [], []⟩
abbrev s__law_said : Stmt := topS 36
def a__law_said : He.DefD := ⟨("_law_said", none), "_law_said", "_law_said", defArgs s__law_said, defBody s__law_said, defScope s__law_said, [], []⟩
abbrev s_is_name : Stmt := topS 19
def a_is_name : He.DefD := ⟨("is_name", none), "is_name", "is_name", defArgs s_is_name, defBody s_is_name, defScope s_is_name, [], []⟩
abbrev s_asked_names : Stmt := topS 20
def a_asked_names : He.DefD := ⟨("asked_names", none), "asked_names", "asked_names", defArgs s_asked_names, defBody s_asked_names, defScope s_asked_names, [], []⟩
abbrev s_asked_once : Stmt := topS 21
def a_asked_once : He.DefD := ⟨("asked_once", none), "asked_once", "asked_once", defArgs s_asked_once, defBody s_asked_once, defScope s_asked_once, [], []⟩
abbrev s_asked_some : Stmt := topS 24
def a_asked_some : He.DefD := ⟨("asked_some", none), "asked_some", "asked_some", defArgs s_asked_some, defBody s_asked_some, defScope s_asked_some, [], []⟩
abbrev s_asked_pays : Stmt := topS 25
def a_asked_pays : He.DefD := ⟨("asked_pays", none), "asked_pays", "asked_pays", defArgs s_asked_pays, defBody s_asked_pays, defScope s_asked_pays, [], []⟩
abbrev s_Game_init : Stmt := inCls (topS 26) 0
def a_Game_init : He.DefD := ⟨("Game", some "__init__"), "__init__", "Game.__init__", defArgs s_Game_init, defBody s_Game_init, defScope s_Game_init, [], []⟩
abbrev s__law_square : Stmt := topS 37
def a__law_square : He.DefD := ⟨("_law_square", none), "_law_square", "_law_square", defArgs s__law_square, defBody s__law_square, defScope s__law_square, [], []⟩
abbrev s_law : Stmt := topS 38
def a_law : He.DefD := ⟨("law", none), "law", "law", defArgs s_law, defBody s_law, defScope s_law, [], []⟩
abbrev s_NoSide_init : Stmt := inCls (topS 6) 0
def a_NoSide_init : He.DefD := ⟨("NoSide", some "__init__"), "__init__", "NoSide.__init__", defArgs s_NoSide_init, defBody s_NoSide_init, defScope s_NoSide_init, [], []⟩
abbrev s_NoChoice_init : Stmt := inCls (topS 7) 0
def a_NoChoice_init : He.DefD := ⟨("NoChoice", some "__init__"), "__init__", "NoChoice.__init__", defArgs s_NoChoice_init, defBody s_NoChoice_init, defScope s_NoChoice_init, [], []⟩
abbrev s_Uneven_init : Stmt := inCls (topS 8) 0
def a_Uneven_init : He.DefD := ⟨("Uneven", some "__init__"), "__init__", "Uneven.__init__", defArgs s_Uneven_init, defBody s_Uneven_init, defScope s_Uneven_init, [], []⟩
abbrev s_NoName_init : Stmt := inCls (topS 4) 0
def a_NoName_init : He.DefD := ⟨("NoName", some "__init__"), "__init__", "NoName.__init__", defArgs s_NoName_init, defBody s_NoName_init, defScope s_NoName_init, [], []⟩
abbrev s_Twice_init : Stmt := inCls (topS 5) 0
def a_Twice_init : He.DefD := ⟨("Twice", some "__init__"), "__init__", "Twice.__init__", defArgs s_Twice_init, defBody s_Twice_init, defScope s_Twice_init, [], []⟩
abbrev s_BadCount_init : Stmt := inCls (topS 3) 0
def a_BadCount_init : He.DefD := ⟨("BadCount", some "__init__"), "__init__", "BadCount.__init__", defArgs s_BadCount_init, defBody s_BadCount_init, defScope s_BadCount_init, [], []⟩
def fns : List He.DefD := [a__law_well, a__law_draw, a__law_table, a__law_lifted, a__law_cell_at, a__law_pick, a__law_name, a__law_names, a_two_of, a_Game_size, a_squares, a_Game_pay, a_pays_of, a_cross, a_shared_table, a__law_said, a_is_name, a_asked_names, a_asked_once, a_asked_some, a_asked_pays, a_Game_init, a__law_square, a_law, a_NoSide_init, a_NoChoice_init, a_Uneven_init, a_NoName_init, a_Twice_init, a_BadCount_init]
def facts : List He.Fa := [.free "int",
  .free "range",
  .glo "_law_draw",
  .free "len",
  .glo "_law_pick",
  .free "str",
  .glo "_law_name",
  .glo "NoSide",
  .glo "Game",
  .cls "Game",
  .noat "Game" "called",
  .meth "Game" "size",
  .glo "two_of",
  .free "enumerate",
  .glo "NoChoice",
  .noat "Game" "table",
  .meth "Game" "pay",
  .glo "pays_of",
  .glo "squares",
  .glo "cross",
  .glo "Uneven",
  .glo "shared_table",
  .exm "Uneven" "Uneven" true,
  .exm "NoChoice" "Uneven" false,
  .exm "NoSide" "Uneven" false,
  .exm "NoChoice" "ReplyError" true,
  .exm "NoSide" "ReplyError" true,
  .glo "ReplyError",
  .int "LONGEST" 8,
  .str "LETTERS" "abcdefghijklmnopqrstuvwxyz",
  .str "FIGURES" "0123456789",
  .free "all",
  .glo "is_name",
  .glo "NoName",
  .glo "Twice",
  .int "MOST_CHOICES" 4,
  .glo "BadCount",
  .glo "asked_names",
  .glo "asked_once",
  .glo "asked_some",
  .glo "asked_pays",
  .free "tuple",
  .glo "_law_cell_at",
  .glo "_law_well",
  .glo "_law_table",
  .glo "_law_lifted",
  .glo "_law_names",
  .free "zip",
  .free "list",
  .mkr "Game",
  .glo "_law_said",
  .glo "_law_square",
  .glo "law"]
def exL (K : PySem.W.Frag) : List Bool := [xkfB "NoSide" K,
  xkfB "NoChoice" K,
  xkfB "Uneven" K,
  xfsB "Uneven" K,
  xkfB "NoName" K,
  xkfB "Twice" K,
  xkfB "BadCount" K]
def exB (K : PySem.W.Frag) : Bool := (exL K).all id
abbrev Cx (K : PySem.W.Frag) (mg : Str → Option Value) : Prop := Ctx facts fns exB K mg
theorem exf {K : PySem.W.Frag} {mg : Str → Option Value} (c : Cx K mg) (i : Nat) {b : Bool} (e : (exL K)[i]? = some b := by rfl) : b = true := List.all_eq_true.mp c.ex b (List.mem_of_getElem? e)
end
section
variable {P : Program} {w : World} {K : PySem.W.Frag} {mg : Str → Option Value} {base : Heap}
theorem sc_NoSide_init : FnScope ["self", "side"] ["self", "side"] (defScope s_NoSide_init) := ⟨rfl, rfl, rfl, by decide +kernel, rfl, by decide +kernel, by decide +kernel⟩
theorem ini_NoSide (c : Cx K mg) : ∃ fd, FnOk P w K mg base CX0 1 (He.ma K (He.ga K "NoSide") "__init__") fd ["self", "side"] (spX K (He.ga K "NoSide") (eflds "NoSide")) ∧ Binds K fd ["self", "side"] [] := by
  obtain ⟨fd, F⟩ := c.d.def_ 24 (d := a_NoSide_init) rfl
  exact ⟨fd, initD1 F sc_NoSide_init rfl (.inl rfl) (.inl rfl) (by decide) (by decide), F.bindsN fun _ _ _ _ _ _ us hl => match us, hl with | [_, _], _ => rfl⟩
theorem sc_NoChoice_init : FnScope ["self", "side", "choice"] ["self", "side", "choice"] (defScope s_NoChoice_init) := ⟨rfl, rfl, rfl, by decide +kernel, rfl, by decide +kernel, by decide +kernel⟩
theorem ini_NoChoice (c : Cx K mg) : ∃ fd, FnOk P w K mg base CX0 1 (He.ma K (He.ga K "NoChoice") "__init__") fd ["self", "side", "choice"] (spX K (He.ga K "NoChoice") (eflds "NoChoice")) ∧ Binds K fd ["self", "side", "choice"] [] := by
  obtain ⟨fd, F⟩ := c.d.def_ 25 (d := a_NoChoice_init) rfl
  exact ⟨fd, initD2 F sc_NoChoice_init rfl (.inl rfl) (.inl rfl) (.inl rfl) (by decide) (by decide) (by decide) (by decide), F.bindsN fun _ _ _ _ _ _ us hl => match us, hl with | [_, _, _], _ => rfl⟩
theorem sc_Uneven_init : FnScope ["self", "square"] ["self", "square"] (defScope s_Uneven_init) := ⟨rfl, rfl, rfl, by decide +kernel, rfl, by decide +kernel, by decide +kernel⟩
theorem ini_Uneven (c : Cx K mg) : ∃ fd, FnOk P w K mg base CX0 1 (He.ma K (He.ga K "Uneven") "__init__") fd ["self", "square"] (spX K (He.ga K "Uneven") (eflds "Uneven")) ∧ Binds K fd ["self", "square"] [] := by
  obtain ⟨fd, F⟩ := c.d.def_ 26 (d := a_Uneven_init) rfl
  exact ⟨fd, initD1 F sc_Uneven_init rfl (.inl rfl) (.inl rfl) (by decide) (by decide), F.bindsN fun _ _ _ _ _ _ us hl => match us, hl with | [_, _], _ => rfl⟩
theorem sc_NoName_init : FnScope ["self", "name"] ["self", "name"] (defScope s_NoName_init) := ⟨rfl, rfl, rfl, by decide +kernel, rfl, by decide +kernel, by decide +kernel⟩
theorem ini_NoName (c : Cx K mg) : ∃ fd, FnOk P w K mg base CX0 1 (He.ma K (He.ga K "NoName") "__init__") fd ["self", "name"] (spX K (He.ga K "NoName") (eflds "NoName")) ∧ Binds K fd ["self", "name"] [] := by
  obtain ⟨fd, F⟩ := c.d.def_ 27 (d := a_NoName_init) rfl
  exact ⟨fd, initD1 F sc_NoName_init rfl (.inl rfl) (.inl rfl) (by decide) (by decide), F.bindsN fun _ _ _ _ _ _ us hl => match us, hl with | [_, _], _ => rfl⟩
theorem sc_Twice_init : FnScope ["self", "name"] ["self", "name"] (defScope s_Twice_init) := ⟨rfl, rfl, rfl, by decide +kernel, rfl, by decide +kernel, by decide +kernel⟩
theorem ini_Twice (c : Cx K mg) : ∃ fd, FnOk P w K mg base CX0 1 (He.ma K (He.ga K "Twice") "__init__") fd ["self", "name"] (spX K (He.ga K "Twice") (eflds "Twice")) ∧ Binds K fd ["self", "name"] [] := by
  obtain ⟨fd, F⟩ := c.d.def_ 28 (d := a_Twice_init) rfl
  exact ⟨fd, initD1 F sc_Twice_init rfl (.inl rfl) (.inl rfl) (by decide) (by decide), F.bindsN fun _ _ _ _ _ _ us hl => match us, hl with | [_, _], _ => rfl⟩
theorem sc_BadCount_init : FnScope ["self", "what", "count"] ["self", "what", "count"] (defScope s_BadCount_init) := ⟨rfl, rfl, rfl, by decide +kernel, rfl, by decide +kernel, by decide +kernel⟩
theorem ini_BadCount (c : Cx K mg) : ∃ fd, FnOk P w K mg base CX0 1 (He.ma K (He.ga K "BadCount") "__init__") fd ["self", "what", "count"] (spX K (He.ga K "BadCount") (eflds "BadCount")) ∧ Binds K fd ["self", "what", "count"] [] := by
  obtain ⟨fd, F⟩ := c.d.def_ 29 (d := a_BadCount_init) rfl
  exact ⟨fd, initD2 F sc_BadCount_init rfl (.inl rfl) (.inl rfl) (.inl rfl) (by decide) (by decide) (by decide) (by decide), F.bindsN fun _ _ _ _ _ _ us hl => match us, hl with | [_, _, _], _ => rfl⟩
theorem sc__law_well : FnScope ["cell"] ["cell"] (defScope s__law_well) := ⟨rfl, rfl, rfl, by decide +kernel, rfl, by decide +kernel, by decide +kernel⟩
theorem ok__law_well (c : Cx K mg) : ∃ fd, Df P w K mg base a__law_well fd ["cell"] [] d__law_well 1 ∧ Binds K fd ["cell"] [] := by
  obtain ⟨fd, F⟩ := c.d.def_ 0 (d := a__law_well) rfl
  refine ⟨fd, ⟨F, fn_denD (k := 0) F sc__law_well (by decide) fun cdv A outer s H E j hr W => ?_, outLen_run⟩, F.bindsN fun _ _ _ _ _ _ us hl => match us, hl with | [_], _ => rfl⟩
  exact (ss_one (s_retO (o_lstO (l_cons (e_bin od_mulX (e_var 0 (pv 0)) (e_callT cd_intX rfl (c.free 0) rfl (l_cons (e_cmp od_ge (e_var 0 (pv 0)) (e_bin od_pow e_int e_int) (nomark _)) l_nil))) (l_cons (e_bin od_mod (e_var 0 (pv 0)) e_int) (l_cons e_int l_nil))))))
theorem sc__law_draw : FnScope ["well", "many", "found", "number"] ["well", "many"] (defScope s__law_draw) := ⟨rfl, rfl, rfl, by decide +kernel, rfl, by decide +kernel, by decide +kernel⟩
theorem ok__law_draw (c : Cx K mg) : ∃ fd, Df P w K mg base a__law_draw fd ["well", "many"] [0] d__law_draw 1 ∧ Binds K fd ["well", "many"] [] := by
  obtain ⟨fd, F⟩ := c.d.def_ 1 (d := a__law_draw) rfl
  refine ⟨fd, ⟨F, fn_denD (k := 0) F sc__law_draw (by decide) fun cdv A outer s H E j hr W => ?_, outLen_run⟩, F.bindsN fun _ _ _ _ _ _ us hl => match us, hl with | [_, _], _ => rfl⟩
  exact (ss_cons (s_if (t_cmp od_gt (e_ixO 0 (pv 0) e_int (fun _ _ => rfl)) e_int (nomark _)) (ss_cons (s_set 2 W.nd (W.pin 2 (by decide)) (e_bin od_mod (e_ixO 0 (pv 0) e_int (fun _ _ => rfl)) (e_var 1 (pv 1))))
    (ss_cons (s_setix 0 (e_bin od_fdiv (e_ixO 0 (pv 0) e_int (fun _ _ => rfl)) (e_var 1 (pv 1))) (pv 0) e_int)
    (ss_one (s_ret (e_var 2 (pv 2)))))) ss_nil)
    (ss_cons (s_setix 0 (e_bin od_add (e_ixO 0 (pv 0) e_int (fun _ _ => rfl)) e_int) (pv 0) e_int)
    (ss_cons (s_set 3 W.nd (W.pin 3 (by decide)) (e_bin od_mod (e_bin od_pow (e_bin od_add (e_bin od_add (e_ixO 0 (pv 0) e_int (fun _ _ => rfl)) (e_bin od_mulX e_int (e_ixO 0 (pv 0) e_int (fun _ _ => rfl)))) e_int) e_int) e_int))
    (ss_cons (s_set 3 W.nd (W.pin 3 (by decide)) (e_bin od_mod (e_bin od_mulX (e_var 3 (pv 3)) (e_bin od_add (e_bin od_fdiv (e_var 3 (pv 3)) e_int) e_int)) e_int))
    (ss_one (s_ret (e_bin od_mod (e_bin od_mod (e_bin od_mulX (e_var 3 (pv 3)) (e_bin od_add (e_bin od_fdiv (e_var 3 (pv 3)) e_int) e_int)) e_int) (e_var 1 (pv 1)))))))))
theorem sc__law_table : FnScope ["well", "tall", "wide", "kind", "found", "k", "row", "j", "number"] ["well", "tall", "wide", "kind"] (defScope s__law_table) := ⟨rfl, rfl, rfl, by decide +kernel, rfl, by decide +kernel, by decide +kernel⟩
theorem ok__law_table (c : Cx K mg) : ∃ fd, Df P w K mg base a__law_table fd ["well", "tall", "wide", "kind"] [0] d__law_table 2 ∧ Binds K fd ["well", "tall", "wide", "kind"] [] := by
  obtain ⟨fd, F⟩ := c.d.def_ 2 (d := a__law_table) rfl
  obtain ⟨fd__law_draw, D__law_draw, B__law_draw⟩ := ok__law_draw (P := P) (w := w) (base := base) c
  refine ⟨fd, ⟨F, fn_denD (k := 1) F sc__law_table (by decide) fun cdv A outer s H E j hr W => ?_, outLen_run⟩, F.bindsN fun _ _ _ _ _ _ us hl => match us, hl with | [_, _, _, _], _ => rfl⟩
  exact (ss_cons (s_setO 4 W.nd (W.pin 4 (by decide)) (o_lstO l_nil))
    (ss_cons (s_for W.pass W.calm (i_range1 rfl (c.free 1) (e_var 1 (pv 1))) (g_name 5 W.nd (W.pin 5 (by decide))) (ss_cons (s_setO 6 W.nd (W.pin 6 (by decide)) (o_lstO l_nil))
    (ss_cons (s_for W.pass W.calm (i_range1 rfl (c.free 1) (e_var 2 (pv 2))) (g_name 7 W.nd (W.pin 7 (by decide))) (ss_cons (s_set 8 W.nd (W.pin 8 (by decide)) (e_ix (e_lst (l_cons (e_bin od_sub (e_frzo (o_fn D__law_draw B__law_draw hr (c.glo 2) W.take (a_io 0 (pv 0) (a_cons e_int a_nil)))) e_int) (l_cons (e_bin od_sub (e_frzo (o_fn D__law_draw B__law_draw hr (c.glo 2) W.take (a_io 0 (pv 0) (a_cons e_int a_nil)))) e_int) (l_cons (e_bin od_sub (e_frzo (o_fn D__law_draw B__law_draw hr (c.glo 2) W.take (a_io 0 (pv 0) (a_cons e_int a_nil)))) e_int) l_nil)))) (e_bin od_mod (e_var 3 (pv 3)) e_int) (fun _ _ => rfl)))
    (ss_one (s_app 6 (pv 6) (e_bin od_add (e_var 8 (pv 8)) (e_bin od_mulX (e_bin od_pow e_int e_int) (e_callT cd_intX rfl (c.free 0) rfl (l_cons (e_and (e_cmp (od_eq hr.units) (e_var 3 (pv 3)) e_int (nomark _)) (e_one (e_cmp (od_eq hr.units) (e_frzo (o_fn D__law_draw B__law_draw hr (c.glo 2) W.take (a_io 0 (pv 0) (a_cons e_int a_nil)))) e_int (nomark _)))) l_nil))))))))
    (ss_one (s_app 4 (pv 4) (e_varF 6 (pv 6) (W.pin 6 (by decide))))))))
    (ss_one (s_retV 4 (pv 4) (W.pin 4 (by decide))))))
theorem sc__law_lifted : FnScope ["table", "by_columns", "by_rows", "found", "k", "j"] ["table", "by_columns", "by_rows"] (defScope s__law_lifted) := ⟨rfl, rfl, rfl, by decide +kernel, rfl, by decide +kernel, by decide +kernel⟩
theorem ok__law_lifted (c : Cx K mg) : ∃ fd, Df P w K mg base a__law_lifted fd ["table", "by_columns", "by_rows"] [] d__law_lifted 1 ∧ Binds K fd ["table", "by_columns", "by_rows"] [] := by
  obtain ⟨fd, F⟩ := c.d.def_ 3 (d := a__law_lifted) rfl
  refine ⟨fd, ⟨F, fn_denD (k := 0) F sc__law_lifted (by decide) fun cdv A outer s H E j hr W => ?_, outLen_run⟩, F.bindsN fun _ _ _ _ _ _ us hl => match us, hl with | [_, _, _], _ => rfl⟩
  exact (ss_cons (s_setO 3 W.nd (W.pin 3 (by decide)) (o_lstO l_nil))
    (ss_cons (s_for W.pass W.calm (i_range1 rfl (c.free 1) (e_callB cd_len rfl (c.free 3) rfl (l_cons (e_var 0 (pv 0)) l_nil))) (g_name 4 W.nd (W.pin 4 (by decide))) (ss_one (s_app 3 (pv 3) (e_frzo (o_lc (own := [("j", 5)]) W.calm W.nd (fun i hi => W.pin i (by revert i; decide)) (by decide) (i_range1 rfl (c.free 1) (e_callB cd_len rfl (c.free 3) rfl (l_cons (e_ix (e_var 0 (pv 0)) (e_var 4 (pv 4)) (fun _ _ => rfl)) l_nil))) (blkOk_by (by rfl)) (fun s1 H1 C1 cl1 fp1 eb1 hE1 => (w_name 5 W.nd (hE1 5 (by decide)))) (fun s1 H1 C1 cl1 fp1 eb1 hE1 => ts_nil) (fun s1 H1 C1 cl1 fp1 eb1 hE1 => (e_bin od_add (e_bin od_add (e_ix (e_ix (e_var 0 (pv 0)) (e_var 4 (pv 4)) (fun _ _ => rfl)) (e_var 5 (pv 5)) (fun _ _ => rfl)) (e_ix (e_var 1 (pv 1)) (e_var 5 (pv 5)) (fun _ _ => rfl))) (e_ix (e_var 2 (pv 2)) (e_var 4 (pv 4)) (fun _ _ => rfl)))))))))
    (ss_one (s_retV 3 (pv 3) (W.pin 3 (by decide))))))
theorem sc__law_cell_at : FnScope ["script", "k"] ["script", "k"] (defScope s__law_cell_at) := ⟨rfl, rfl, rfl, by decide +kernel, rfl, by decide +kernel, by decide +kernel⟩
theorem ok__law_cell_at (c : Cx K mg) : ∃ fd, Df P w K mg base a__law_cell_at fd ["script", "k"] [] d__law_cell_at 1 ∧ Binds K fd ["script", "k"] [] := by
  obtain ⟨fd, F⟩ := c.d.def_ 4 (d := a__law_cell_at) rfl
  refine ⟨fd, ⟨F, fn_denD (k := 0) F sc__law_cell_at (by decide) fun cdv A outer s H E j hr W => ?_, outLen_run⟩, F.bindsN fun _ _ _ _ _ _ us hl => match us, hl with | [_, _], _ => rfl⟩
  exact (ss_cons (s_if (t_cmp od_lt (e_var 1 (pv 1)) (e_callB cd_len rfl (c.free 3) rfl (l_cons (e_var 0 (pv 0)) l_nil)) (nomark _)) (ss_one (s_ret (e_ix (e_var 0 (pv 0)) (e_var 1 (pv 1)) (fun _ _ => rfl)))) ss_nil)
    (ss_one (s_ret e_int)))
theorem sc__law_pick : FnScope ["well", "some"] ["well", "some"] (defScope s__law_pick) := ⟨rfl, rfl, rfl, by decide +kernel, rfl, by decide +kernel, by decide +kernel⟩
theorem ok__law_pick (c : Cx K mg) : ∃ fd, Df P w K mg base a__law_pick fd ["well", "some"] [0] d__law_pick 2 ∧ Binds K fd ["well", "some"] [] := by
  obtain ⟨fd, F⟩ := c.d.def_ 5 (d := a__law_pick) rfl
  obtain ⟨fd__law_draw, D__law_draw, B__law_draw⟩ := ok__law_draw (P := P) (w := w) (base := base) c
  refine ⟨fd, ⟨F, fn_denD (k := 1) F sc__law_pick (by decide) fun cdv A outer s H E j hr W => ?_, outLen_run⟩, F.bindsN fun _ _ _ _ _ _ us hl => match us, hl with | [_, _], _ => rfl⟩
  exact (ss_one (s_ret (e_ix (e_var 1 (pv 1)) (e_frzo (o_fn D__law_draw B__law_draw hr (c.glo 2) W.take (a_io 0 (pv 0) (a_cons (e_callB cd_len rfl (c.free 3) rfl (l_cons (e_var 1 (pv 1)) l_nil)) a_nil)))) (fun _ _ => rfl))))
theorem sc__law_name : FnScope ["well", "taken", "letters", "turn", "name", "k", "some", "word"] ["well", "taken"] (defScope s__law_name) := ⟨rfl, rfl, rfl, by decide +kernel, rfl, by decide +kernel, by decide +kernel⟩
theorem ok__law_name (c : Cx K mg) : ∃ fd, Df P w K mg base a__law_name fd ["well", "taken"] [0, 1] d__law_name 3 ∧ Binds K fd ["well", "taken"] [] := by
  obtain ⟨fd, F⟩ := c.d.def_ 6 (d := a__law_name) rfl
  obtain ⟨fd__law_draw, D__law_draw, B__law_draw⟩ := ok__law_draw (P := P) (w := w) (base := base) c
  obtain ⟨fd__law_pick, D__law_pick, B__law_pick⟩ := ok__law_pick (P := P) (w := w) (base := base) c
  refine ⟨fd, ⟨F, fn_denD (k := 2) F sc__law_name (by decide) fun cdv A outer s H E j hr W => ?_, outLen_run⟩, F.bindsN fun _ _ _ _ _ _ us hl => match us, hl with | [_, _], _ => rfl⟩
  exact (ss_cons (s_set 2 W.nd (W.pin 2 (by decide)) e_str)
    (ss_cons (s_set 3 W.nd (W.pin 3 (by decide)) (e_frzo (o_fn D__law_draw B__law_draw hr (c.glo 2) W.take (a_io 0 (pv 0) (a_cons e_int a_nil)))))
    (ss_cons (s_set 4 W.nd (W.pin 4 (by decide)) (e_frzo (o_fn D__law_pick B__law_pick hr (c.glo 4) W.take (a_io 0 (pv 0) (a_cons (e_var 2 (pv 2)) a_nil)))))
    (ss_cons (s_if (t_cmp (od_eq hr.units) (e_var 3 (pv 3)) e_int (nomark _)) (ss_one (s_set 4 W.nd (W.pin 4 (by decide)) (e_frzo (o_fn D__law_pick B__law_pick hr (c.glo 4) W.take (a_io 0 (pv 0) (a_cons (e_lst (l_cons e_str (l_cons e_str (l_cons e_str (l_cons e_str (l_cons e_str (l_cons e_str (l_cons e_str (l_cons e_str (l_cons e_str (l_cons e_str l_nil))))))))))) a_nil)))))) (ss_one (s_if (t_cmp od_lt (e_var 3 (pv 3)) e_int (nomark _)) (ss_one (s_for W.pass W.calm (i_range1 rfl (c.free 1) (e_ix (e_lst (l_cons e_int (l_cons e_int (l_cons e_int l_nil)))) (e_frzo (o_fn D__law_draw B__law_draw hr (c.glo 2) W.take (a_io 0 (pv 0) (a_cons e_int a_nil)))) (fun _ _ => rfl))) (g_name 5 W.nd (W.pin 5 (by decide))) (ss_one (s_set 4 W.nd (W.pin 4 (by decide)) (e_bin od_add (e_var 4 (pv 4)) (e_frzo (o_fn D__law_pick B__law_pick hr (c.glo 4) W.take (a_io 0 (pv 0) (a_cons (e_bin od_add (e_var 2 (pv 2)) e_str) a_nil))))))))) ss_nil)))
    (ss_cons (s_set 6 W.nd (W.pin 6 (by decide)) (e_bin od_add (e_lst (l_cons (e_var 4 (pv 4)) l_nil)) (e_frzo (o_lc (own := [("k", 5)]) W.calm W.nd (fun i hi => W.pin i (by revert i; decide)) (by decide) (i_range1 rfl (c.free 1) (e_bin od_add (e_lenO 1 (pv 1) rfl (c.free 3) rfl) e_int)) (blkOk_by (by rfl)) (fun s1 H1 C1 cl1 fp1 eb1 hE1 => (w_name 5 W.nd (hE1 5 (by decide)))) (fun s1 H1 C1 cl1 fp1 eb1 hE1 => ts_nil) (fun s1 H1 C1 cl1 fp1 eb1 hE1 => (e_bin od_add e_str (e_callT cd_str rfl (c.free 5) rfl (l_cons (e_var 5 (pv 5)) l_nil))))))))
    (ss_one (s_ret (e_ix (e_frzo (o_lc (own := [("word", 7)]) W.calm W.nd (fun i hi => W.pin i (by revert i; decide)) (by decide) (i_src (e_var 6 (pv 6))) (blkOk_by (by rfl)) (fun s2 H2 C2 cl2 fp2 eb2 hE2 => (w_name 7 W.nd (hE2 7 (by decide)))) (fun s2 H2 C2 cl2 fp2 eb2 hE2 => (ts_one (t_cmpR (od_notIn (Room.units65 hr)) 1 (e_var 7 (pv 7)) (pv 1) (by rfl)))) (fun s2 H2 C2 cl2 fp2 eb2 hE2 => (e_var 7 (pv 7))))) e_int (fun _ _ => rfl)))))))))
theorem sc__law_names : FnScope ["well", "many", "found", "k"] ["well", "many"] (defScope s__law_names) := ⟨rfl, rfl, rfl, by decide +kernel, rfl, by decide +kernel, by decide +kernel⟩
theorem ok__law_names (c : Cx K mg) : ∃ fd, Df P w K mg base a__law_names fd ["well", "many"] [0] d__law_names 4 ∧ Binds K fd ["well", "many"] [] := by
  obtain ⟨fd, F⟩ := c.d.def_ 7 (d := a__law_names) rfl
  obtain ⟨fd__law_name, D__law_name, B__law_name⟩ := ok__law_name (P := P) (w := w) (base := base) c
  refine ⟨fd, ⟨F, fn_denD (k := 3) F sc__law_names (by decide) fun cdv A outer s H E j hr W => ?_, outLen_run⟩, F.bindsN fun _ _ _ _ _ _ us hl => match us, hl with | [_, _], _ => rfl⟩
  exact (ss_cons (s_setO 2 W.nd (W.pin 2 (by decide)) (o_lstO l_nil))
    (ss_cons (s_for W.pass W.calm (i_range1 rfl (c.free 1) (e_var 1 (pv 1))) (g_name 3 W.nd (W.pin 3 (by decide))) (ss_one (s_app 2 (pv 2) (e_frzo (o_fn D__law_name B__law_name hr (c.glo 6) W.take (a_io 0 (pv 0) (a_io 2 (pv 2) a_nil)))))))
    (ss_one (s_retV 2 (pv 2) (W.pin 2 (by decide))))))
theorem sc_two_of : FnScope ["many", "one", "other"] ["many"] (defScope s_two_of) := ⟨rfl, rfl, rfl, by decide +kernel, rfl, by decide +kernel, by decide +kernel⟩
theorem ok_two_of (c : Cx K mg) : ∃ fd, Df P w K mg base a_two_of fd ["many"] [] d_two_of 1 ∧ Binds K fd ["many"] [] := by
  obtain ⟨fd, F⟩ := c.d.def_ 8 (d := a_two_of) rfl
  refine ⟨fd, ⟨F, fn_denD (k := 0) F sc_two_of (by decide) fun cdv A outer s H E j hr W => ?_, outLen_run⟩, F.bindsN fun _ _ _ _ _ _ us hl => match us, hl with | [_], _ => rfl⟩
  exact (ss_one (s_retO (o_lc2 (own := [("one", 1), ("other", 2)]) (vs1 := [2]) W.calm W.nd (fun i hi => W.pin i (by revert i; decide)) (by decide) (by decide) (by decide) (i_range1 rfl (c.free 1) (e_var 0 (pv 0))) (blkOk_by (by rfl)) (fun s1 H1 C1 cl1 fp1 eb1 hE1 => (w_name 1 W.nd (hE1 1 (by decide)))) (fun s1 H1 C1 cl1 fp1 eb1 hE1 => ts_nil) (fun s1 H1 C1 cl1 fp1 eb1 hE1 => (i_range2 rfl (c.free 1) (e_bin od_add (e_var 1 (pv 1)) e_int) (e_var 0 (pv 0)))) (fun s2 H2 C2 cl2 fp2 eb2 hE2 => (w_name 2 W.nd (hE2 2 (by decide)))) (fun s2 H2 C2 cl2 fp2 eb2 hE2 => ts_nil) (fun s2 H2 C2 cl2 fp2 eb2 hE2 => (e_tup (l_cons (e_var 1 (pv 1)) (l_cons (e_var 2 (pv 2)) l_nil)))))))
theorem sc_Game_size : FnScope ["self", "side"] ["self", "side"] (defScope s_Game_size) := ⟨rfl, rfl, rfl, by decide +kernel, rfl, by decide +kernel, by decide +kernel⟩
theorem ok_Game_size (c : Cx K mg) : ∃ fd, Df P w K mg base a_Game_size fd ["self", "side"] [] d_Game_size 3 ∧ Binds K fd ["self", "side"] [] := by
  obtain ⟨fd, F⟩ := c.d.def_ 9 (d := a_Game_size) rfl
  obtain ⟨fd_NoSide, I_NoSide, J_NoSide⟩ := ini_NoSide (P := P) (w := w) (base := base) c
  refine ⟨fd, ⟨F, fn_denD (k := 2) F sc_Game_size (by decide) fun cdv A outer s H E j hr W => ?_, outLen_run⟩, F.bindsN fun _ _ _ _ _ _ us hl => match us, hl with | [_, _], _ => rfl⟩
  exact (ss_cons (s_if (t_cmp (od_notIn (Room.units65 hr)) (e_var 1 (pv 1)) (e_tup (l_cons e_int (l_cons e_int l_nil))) (by rfl)) (ss_one (s_raise W.calm W.take (xkfB_ok (exf c 0) (c.glo 7)) I_NoSide (hr.mono (by decide)) J_NoSide (l_cons (e_var 1 (pv 1)) l_nil) (consD_len (fun _ _ _ => nilD_len)))) ss_nil)
    (ss_one (s_ret (e_callB cd_len rfl (c.free 3) rfl (l_cons (e_ix (e_fld (c.fld 8 9 10) (e_var 0 (pv 0))) (e_var 1 (pv 1)) (fun _ _ => rfl)) l_nil)))))
theorem sc_squares : FnScope ["game", "i", "k", "j", "l"] ["game"] (defScope s_squares) := ⟨rfl, rfl, rfl, by decide +kernel, rfl, by decide +kernel, by decide +kernel⟩
theorem ok_squares (c : Cx K mg) : ∃ fd, Df P w K mg base a_squares fd ["game"] [] d_squares 4 ∧ Binds K fd ["game"] [] := by
  obtain ⟨fd, F⟩ := c.d.def_ 10 (d := a_squares) rfl
  obtain ⟨fd_two_of, D_two_of, B_two_of⟩ := ok_two_of (P := P) (w := w) (base := base) c
  obtain ⟨fd_Game_size, D_Game_size, B_Game_size⟩ := ok_Game_size (P := P) (w := w) (base := base) c
  refine ⟨fd, ⟨F, fn_denD (k := 3) F sc_squares (by decide) fun cdv A outer s H E j hr W => ?_, outLen_run⟩, F.bindsN fun _ _ _ _ _ _ us hl => match us, hl with | [_], _ => rfl⟩
  exact (ss_one (s_retO (o_lc2 (own := [("i", 1), ("k", 2), ("j", 3), ("l", 4)]) (vs1 := [3, 4]) W.calm W.nd (fun i hi => W.pin i (by revert i; decide)) (by decide) (by decide) (by decide) (i_src (e_frzo (o_fn D_two_of B_two_of hr (c.glo 12) W.take (a_cons (e_frzo (o_meth D_Game_size B_Game_size rfl (c.meth 8 9 11) hr W.take (e_var 0 (pv 0)) (a_cons e_int a_nil))) a_nil)))) (blkOk_by (by rfl)) (fun s1 H1 C1 cl1 fp1 eb1 hE1 => (w_tup W.calm (ws_cons (w_name 1 W.nd (hE1 1 (by decide))) (ws_cons (w_name 2 W.nd (hE1 2 (by decide))) ws_nil)) (fun _ _ _ e => gConsD_len (fun _ _ _ e => gConsD_len (fun _ _ _ e => gNilD_len e) e) e))) (fun s1 H1 C1 cl1 fp1 eb1 hE1 => ts_nil) (fun s1 H1 C1 cl1 fp1 eb1 hE1 => (i_src (e_frzo (o_fn D_two_of B_two_of hr (c.glo 12) takes_noX (a_cons (e_frzo (o_meth D_Game_size B_Game_size rfl (c.meth 8 9 11) hr takes_noX (e_var 0 (pv 0)) (a_cons e_int a_nil))) a_nil))))) (fun s2 H2 C2 cl2 fp2 eb2 hE2 => (w_tup W.calm (ws_cons (w_name 3 W.nd (hE2 3 (by decide))) (ws_cons (w_name 4 W.nd (hE2 4 (by decide))) ws_nil)) (fun _ _ _ e => gConsD_len (fun _ _ _ e => gConsD_len (fun _ _ _ e => gNilD_len e) e) e))) (fun s2 H2 C2 cl2 fp2 eb2 hE2 => ts_nil) (fun s2 H2 C2 cl2 fp2 eb2 hE2 => (e_tup (l_cons (e_var 1 (pv 1)) (l_cons (e_var 2 (pv 2)) (l_cons (e_var 3 (pv 3)) (l_cons (e_var 4 (pv 4)) l_nil)))))))))
theorem sc_Game_pay : FnScope ["self", "row", "column", "side", "choice"] ["self", "row", "column"] (defScope s_Game_pay) := ⟨rfl, rfl, rfl, by decide +kernel, rfl, by decide +kernel, by decide +kernel⟩
theorem ok_Game_pay (c : Cx K mg) : ∃ fd, Df P w K mg base a_Game_pay fd ["self", "row", "column"] [] d_Game_pay 3 ∧ Binds K fd ["self", "row", "column"] [] := by
  obtain ⟨fd, F⟩ := c.d.def_ 11 (d := a_Game_pay) rfl
  obtain ⟨fd_NoChoice, I_NoChoice, J_NoChoice⟩ := ini_NoChoice (P := P) (w := w) (base := base) c
  refine ⟨fd, ⟨F, fn_denD (k := 2) F sc_Game_pay (by decide) fun cdv A outer s H E j hr W => ?_, outLen_run⟩, F.bindsN fun _ _ _ _ _ _ us hl => match us, hl with | [_, _, _], _ => rfl⟩
  exact (ss_cons (s_for W.pass W.calm (i_enum rfl (c.free 13) (e_tup (l_cons (e_var 1 (pv 1)) (l_cons (e_var 2 (pv 2)) l_nil)))) (g_tup W.calm (gs_cons (g_name 3 W.nd (W.pin 3 (by decide))) (gs_cons (g_name 4 W.nd (W.pin 4 (by decide))) gs_nil)) (fun _ _ _ e => gConsD_len (fun _ _ _ e => gConsD_len (fun _ _ _ e => gNilD_len e) e) e)) (ss_one (s_if (t_not (t_chain od_le od_lt e_int (e_var 4 (pv 4)) (e_callB cd_len rfl (c.free 3) rfl (l_cons (e_ix (e_fld (c.fld 8 9 10) (e_var 0 (pv 0))) (e_var 3 (pv 3)) (fun _ _ => rfl)) l_nil)))) (ss_one (s_raise W.calm W.take (xkfB_ok (exf c 1) (c.glo 14)) I_NoChoice (hr.mono (by decide)) J_NoChoice (l_cons (e_var 3 (pv 3)) (l_cons (e_var 4 (pv 4)) l_nil)) (consD_len (consD_len (fun _ _ _ => nilD_len))))) ss_nil)))
    (ss_one (s_ret (e_ix (e_ix (e_fld (c.fld 8 9 15) (e_var 0 (pv 0))) (e_var 1 (pv 1)) (fun _ _ => rfl)) (e_var 2 (pv 2)) (fun _ _ => rfl)))))
theorem sc_pays_of : FnScope ["game", "side", "row", "column"] ["game", "side"] (defScope s_pays_of) := ⟨rfl, rfl, rfl, by decide +kernel, rfl, by decide +kernel, by decide +kernel⟩
theorem ok_pays_of (c : Cx K mg) : ∃ fd, Df P w K mg base a_pays_of fd ["game", "side"] [] d_pays_of 4 ∧ Binds K fd ["game", "side"] [] := by
  obtain ⟨fd, F⟩ := c.d.def_ 12 (d := a_pays_of) rfl
  obtain ⟨fd_Game_size, D_Game_size, B_Game_size⟩ := ok_Game_size (P := P) (w := w) (base := base) c
  obtain ⟨fd_Game_pay, D_Game_pay, B_Game_pay⟩ := ok_Game_pay (P := P) (w := w) (base := base) c
  refine ⟨fd, ⟨F, fn_denD (k := 3) F sc_pays_of (by decide) fun cdv A outer s H E j hr W => ?_, outLen_run⟩, F.bindsN fun _ _ _ _ _ _ us hl => match us, hl with | [_, _], _ => rfl⟩
  exact (ss_one (s_retO (o_lc (own := [("row", 2), ("column", 3)]) W.calm W.nd (fun i hi => W.pin i (by revert i; decide)) (by decide) (i_range1 rfl (c.free 1) (e_frzo (o_meth D_Game_size B_Game_size rfl (c.meth 8 9 11) hr W.take (e_var 0 (pv 0)) (a_cons e_int a_nil)))) (blkOk_by (by rfl)) (fun s2 H2 C2 cl2 fp2 eb2 hE1 => (w_name 2 W.nd (hE1 2 (by decide)))) (fun s2 H2 C2 cl2 fp2 eb2 hE1 => ts_nil) (fun s2 H2 C2 cl2 fp2 eb2 hE1 => (e_frzo (o_lc (own := [("column", 3)]) W.calm W.nd (fun i hi => hE1 i (by revert i; decide)) (by decide) (i_range1 rfl (c.free 1) (e_frzo (o_meth D_Game_size B_Game_size rfl (c.meth 8 9 11) hr takes_noX (e_var 0 (pv 0)) (a_cons e_int a_nil)))) (blkOk_by (by rfl)) (fun s2 H2 C2 cl2 fp2 eb2 hE2 => (w_name 3 W.nd (hE2 3 (by decide)))) (fun s2 H2 C2 cl2 fp2 eb2 hE2 => ts_nil) (fun s2 H2 C2 cl2 fp2 eb2 hE2 => (e_ix (e_frzo (o_meth D_Game_pay B_Game_pay rfl (c.meth 8 9 16) hr takes_noX (e_var 0 (pv 0)) (a_cons (e_var 2 (pv 2)) (a_cons (e_var 3 (pv 3)) a_nil)))) (e_var 1 (pv 1)) (fun _ _ => rfl)))))))))
theorem sc_cross : FnScope ["table", "square", "i", "k", "j", "l"] ["table", "square"] (defScope s_cross) := ⟨rfl, rfl, rfl, by decide +kernel, rfl, by decide +kernel, by decide +kernel⟩
theorem ok_cross (c : Cx K mg) : ∃ fd, Df P w K mg base a_cross fd ["table", "square"] [] d_cross 1 ∧ Binds K fd ["table", "square"] [] := by
  obtain ⟨fd, F⟩ := c.d.def_ 13 (d := a_cross) rfl
  refine ⟨fd, ⟨F, fn_denD (k := 0) F sc_cross (by decide) fun cdv A outer s H E j hr W => ?_, outLen_run⟩, F.bindsN fun _ _ _ _ _ _ us hl => match us, hl with | [_, _], _ => rfl⟩
  exact (ss_cons (s_asg (e_var 1 (pv 1)) (g_tup W.calm (gs_cons (g_name 2 W.nd (W.pin 2 (by decide))) (gs_cons (g_name 3 W.nd (W.pin 3 (by decide))) (gs_cons (g_name 4 W.nd (W.pin 4 (by decide))) (gs_cons (g_name 5 W.nd (W.pin 5 (by decide))) gs_nil)))) (fun _ _ _ e => gConsD_len (fun _ _ _ e => gConsD_len (fun _ _ _ e => gConsD_len (fun _ _ _ e => gConsD_len (fun _ _ _ e => gNilD_len e) e) e) e) e)))
    (ss_one (s_ret (e_bin od_add (e_bin od_sub (e_bin od_sub (e_ix (e_ix (e_var 0 (pv 0)) (e_var 2 (pv 2)) (fun _ _ => rfl)) (e_var 4 (pv 4)) (fun _ _ => rfl)) (e_ix (e_ix (e_var 0 (pv 0)) (e_var 3 (pv 3)) (fun _ _ => rfl)) (e_var 4 (pv 4)) (fun _ _ => rfl))) (e_ix (e_ix (e_var 0 (pv 0)) (e_var 2 (pv 2)) (fun _ _ => rfl)) (e_var 5 (pv 5)) (fun _ _ => rfl))) (e_ix (e_ix (e_var 0 (pv 0)) (e_var 3 (pv 3)) (fun _ _ => rfl)) (e_var 5 (pv 5)) (fun _ _ => rfl))))))
theorem sc_shared_table : FnScope ["game", "mine", "its", "square", "first", "number", "row", "j"] ["game"] (defScope s_shared_table) := ⟨rfl, rfl, rfl, by decide +kernel, rfl, by decide +kernel, by decide +kernel⟩
theorem ok_shared_table (c : Cx K mg) : ∃ fd, Df P w K mg base a_shared_table fd ["game"] [] d_shared_table 5 ∧ Binds K fd ["game"] [] := by
  obtain ⟨fd, F⟩ := c.d.def_ 14 (d := a_shared_table) rfl
  obtain ⟨fd_pays_of, D_pays_of, B_pays_of⟩ := ok_pays_of (P := P) (w := w) (base := base) c
  obtain ⟨fd_squares, D_squares, B_squares⟩ := ok_squares (P := P) (w := w) (base := base) c
  obtain ⟨fd_cross, D_cross, B_cross⟩ := ok_cross (P := P) (w := w) (base := base) c
  obtain ⟨fd_Uneven, I_Uneven, J_Uneven⟩ := ini_Uneven (P := P) (w := w) (base := base) c
  refine ⟨fd, ⟨F, fn_denD (k := 4) F sc_shared_table (by decide) fun cdv A outer s H E j hr W => ?_, outLen_run⟩, F.bindsN fun _ _ _ _ _ _ us hl => match us, hl with | [_], _ => rfl⟩
  exact (ss_cons (s_asg (e_tup (l_cons (e_frzo (o_fn D_pays_of B_pays_of hr (c.glo 17) W.take (a_cons (e_var 0 (pv 0)) (a_cons e_int a_nil)))) (l_cons (e_frzo (o_fn D_pays_of B_pays_of hr (c.glo 17) W.take (a_cons (e_var 0 (pv 0)) (a_cons e_int a_nil)))) l_nil))) (g_tup W.calm (gs_cons (g_name 1 W.nd (W.pin 1 (by decide))) (gs_cons (g_name 2 W.nd (W.pin 2 (by decide))) gs_nil)) (fun _ _ _ e => gConsD_len (fun _ _ _ e => gConsD_len (fun _ _ _ e => gNilD_len e) e) e)))
    (ss_cons (s_for W.pass W.calm (i_src (e_frzo (o_fn D_squares B_squares hr (c.glo 18) W.take (a_cons (e_var 0 (pv 0)) a_nil)))) (g_name 3 W.nd (W.pin 3 (by decide))) (ss_one (s_if (t_cmp (od_ne hr.units) (e_frzo (o_fn D_cross B_cross hr (c.glo 19) W.take (a_cons (e_var 1 (pv 1)) (a_cons (e_var 3 (pv 3)) a_nil)))) (e_frzo (o_fn D_cross B_cross hr (c.glo 19) W.take (a_cons (e_var 2 (pv 2)) (a_cons (e_var 3 (pv 3)) a_nil)))) (nomark _)) (ss_one (s_raise W.calm W.take (xkfB_ok (exf c 2) (c.glo 20)) I_Uneven (hr.mono (by decide)) J_Uneven (l_cons (e_var 3 (pv 3)) l_nil) (consD_len (fun _ _ _ => nilD_len)))) ss_nil)))
    (ss_cons (s_set 4 W.nd (W.pin 4 (by decide)) (e_frzo (o_lc (own := [("number", 5)]) W.calm W.nd (fun i hi => W.pin i (by revert i; decide)) (by decide) (i_src (e_ix (e_var 2 (pv 2)) e_int (fun _ _ => rfl))) (blkOk_by (by rfl)) (fun s1 H1 C1 cl1 fp1 eb1 hE1 => (w_name 5 W.nd (hE1 5 (by decide)))) (fun s1 H1 C1 cl1 fp1 eb1 hE1 => ts_nil) (fun s1 H1 C1 cl1 fp1 eb1 hE1 => (e_bin od_sub (e_var 5 (pv 5)) (e_ix (e_ix (e_var 2 (pv 2)) e_int (fun _ _ => rfl)) e_int (fun _ _ => rfl)))))))
    (ss_one (s_retO (o_lc (own := [("row", 6), ("j", 7)]) W.calm W.nd (fun i hi => W.pin i (by revert i; decide)) (by decide) (i_src (e_var 1 (pv 1))) (blkOk_by (by rfl)) (fun s3 H3 C3 cl3 fp3 eb3 hE2 => (w_name 6 W.nd (hE2 6 (by decide)))) (fun s3 H3 C3 cl3 fp3 eb3 hE2 => ts_nil) (fun s3 H3 C3 cl3 fp3 eb3 hE2 => (e_frzo (o_lc (own := [("j", 7)]) W.calm W.nd (fun i hi => hE2 i (by revert i; decide)) (by decide) (i_range1 rfl (c.free 1) (e_callB cd_len rfl (c.free 3) rfl (l_cons (e_var 6 (pv 6)) l_nil))) (blkOk_by (by rfl)) (fun s3 H3 C3 cl3 fp3 eb3 hE3 => (w_name 7 W.nd (hE3 7 (by decide)))) (fun s3 H3 C3 cl3 fp3 eb3 hE3 => ts_nil) (fun s3 H3 C3 cl3 fp3 eb3 hE3 => (e_bin od_sub (e_bin od_add (e_ix (e_var 4 (pv 4)) (e_var 7 (pv 7)) (fun _ _ => rfl)) (e_ix (e_var 6 (pv 6)) (e_var 7 (pv 7)) (fun _ _ => rfl))) (e_ix (e_ix (e_var 1 (pv 1)) e_int (fun _ _ => rfl)) (e_var 7 (pv 7)) (fun _ _ => rfl)))))))))))))
theorem sc__law_said : FnScope ["play", "e"] ["play"] (defScope s__law_said) := ⟨rfl, rfl, rfl, by decide +kernel, rfl, by decide +kernel, by decide +kernel⟩
theorem ok__law_said (c : Cx K mg) : ∃ fd, Df P w K mg base a__law_said fd ["play"] [] d__law_said 6 ∧ Binds K fd ["play"] [] := by
  obtain ⟨fd, F⟩ := c.d.def_ 15 (d := a__law_said) rfl
  obtain ⟨fd_shared_table, D_shared_table, B_shared_table⟩ := ok_shared_table (P := P) (w := w) (base := base) c
  have K_shared_table_0 : KP K fd_shared_table ["game"] ["game"] 0 [0] := FunD.kp0 D_shared_table.fn fun _ _ _ _ _ _ us ws l1 l2 => match us, l1, ws, l2 with | [], _, [_], _ => rfl
  refine ⟨fd, ⟨F, fn_denD (k := 5) F sc__law_said (by decide) fun cdv A outer s H E j hr W => ?_, outLen_run⟩, F.bindsN fun _ _ _ _ _ _ us hl => match us, hl with | [_], _ => rfl⟩
  exact (ss_one (s_mix rfl rfl W.nd (fun V pn xe tk pw => (ss_one (s_ret (e_tup (l_cons e_str (l_cons (e_frzo (o_fnK0 D_shared_table hr (c.glo 21) K_shared_table_0 tk (k_cons (e_var 0 (pv 0)) k_nil))) l_nil))))))
    (DMix.cons (i := (some 1)) (as := []) ⟨rfl, by decide, .inl (c.glo 20)⟩ ⟨rfl, rfl⟩ (fun k e => by cases e; exact ⟨(W.pin 1 (by decide)), by decide⟩) (fun k hk => nomatch hk)
    (mtOf_ok (M := ⟨K, mg⟩) (.cons (c.glo 7) (c.exm 24) (.cons (c.glo 14) (c.exm 23) (.cons (c.glo 20) (c.exm 22) .nil))))
    (fun a oe cls d pn es cn fs hZ hF hP hA hM hX => by
    have hM := mtOf_mem hM
    simp only [takesOf, List.filter, List.map, List.mem_cons, List.not_mem_nil, or_false] at hM
    subst hM; have hC : Caught _ _ _ _ _ _ _ _ _ := ⟨hZ, hF, hP _ rfl, hX⟩; obtain rfl := caughtC hC (c.glo 20); exact (ss_one (s_ret (e_tup (l_cons e_str (l_cons (e_xfld 1 hC (xfsB_ok (exf c 3)).1 ((xfsB_ok (exf c 3)).2 _ (by decide)) (pv 1)) l_nil)))))) (DMix.cons (i := none) (as := []) ⟨rfl, by decide, .inl (c.glo 27)⟩ trivial (fun k e => nomatch e) (fun k hk => nomatch hk)
    (mtOf_ok (M := ⟨K, mg⟩) (.cons (c.glo 7) (c.exm 26) (.cons (c.glo 14) (c.exm 25) .nil)))
    (fun a oe cls d pn es cn fs hZ hF hP hA hM hX => by
    have hM := mtOf_mem hM
    simp only [takesOf, List.filter, List.map, List.mem_cons, List.not_mem_nil, or_false] at hM
    rcases hM with rfl | rfl
    · exact (ss_one (s_ret (e_tup (l_cons e_str (l_cons e_non l_nil)))))
    · exact (ss_one (s_ret (e_tup (l_cons e_str (l_cons e_non l_nil)))))
    ) .nil))))
theorem sc_is_name : FnScope ["text", "sign"] ["text"] (defScope s_is_name) := ⟨rfl, rfl, rfl, by decide +kernel, rfl, by decide +kernel, by decide +kernel⟩
theorem ok_is_name (c : Cx K mg) : ∃ fd, Df P w K mg base a_is_name fd ["text"] [] d_is_name 1 ∧ Binds K fd ["text"] [] := by
  obtain ⟨fd, F⟩ := c.d.def_ 16 (d := a_is_name) rfl
  refine ⟨fd, ⟨F, fn_denD (k := 0) F sc_is_name (by decide) fun cdv A outer s H E j hr W => ?_, outLen_run⟩, F.bindsN fun _ _ _ _ _ _ us hl => match us, hl with | [_], _ => rfl⟩
  exact (ss_cons (s_if (t_pw (t_or (t_not (t_chain od_le od_le e_int (e_callB cd_len rfl (c.free 3) rfl (l_cons (e_var 0 (pv 0)) l_nil)) (g_int c 28))) (t_or1 (t_cmp (od_notIn (Room.units65 hr)) (e_ix (e_var 0 (pv 0)) e_int (fun _ _ => rfl)) (g_str c 29) (by rfl))))) (ss_one (s_ret e_bl)) ss_nil)
    (ss_one (s_ret (e_callB (cd_all W.calm) rfl (c.free 31) rfl (l_cons (e_frzo (o_lc (own := [("sign", 1)]) W.calm W.nd (fun i hi => W.pin i (by revert i; decide)) (by decide) (i_src (e_var 0 (pv 0))) (blkOk_by (by rfl)) (fun s1 H1 C1 cl1 fp1 eb1 hE1 => (w_name 1 W.nd (hE1 1 (by decide)))) (fun s1 H1 C1 cl1 fp1 eb1 hE1 => ts_nil) (fun s1 H1 C1 cl1 fp1 eb1 hE1 => (e_or (e_cmp (od_in (Room.units65 hr)) (e_var 1 (pv 1)) (g_str c 29) (by rfl)) (e_one (e_cmp (od_in (Room.units65 hr)) (e_var 1 (pv 1)) (g_str c 30) (by rfl))))))) l_nil)))))
theorem sc_asked_names : FnScope ["texts", "text"] ["texts"] (defScope s_asked_names) := ⟨rfl, rfl, rfl, by decide +kernel, rfl, by decide +kernel, by decide +kernel⟩
theorem ok_asked_names (c : Cx K mg) : ∃ fd, Df P w K mg base a_asked_names fd ["texts"] [] d_asked_names 3 ∧ Binds K fd ["texts"] [] := by
  obtain ⟨fd, F⟩ := c.d.def_ 17 (d := a_asked_names) rfl
  obtain ⟨fd_is_name, D_is_name, B_is_name⟩ := ok_is_name (P := P) (w := w) (base := base) c
  obtain ⟨fd_NoName, I_NoName, J_NoName⟩ := ini_NoName (P := P) (w := w) (base := base) c
  refine ⟨fd, ⟨F, fn_denD (k := 2) F sc_asked_names (by decide) fun cdv A outer s H E j hr W => ?_, outLen_run⟩, F.bindsN fun _ _ _ _ _ _ us hl => match us, hl with | [_], _ => rfl⟩
  exact (ss_one (s_for W.pass W.calm (i_src (e_var 0 (pv 0))) (g_name 1 W.nd (W.pin 1 (by decide))) (ss_one (s_if (t_not (t_val (e_frzo (o_fn D_is_name B_is_name hr (c.glo 32) W.take (a_cons (e_var 1 (pv 1)) a_nil))))) (ss_one (s_raise W.calm W.take (xkfB_ok (exf c 4) (c.glo 33)) I_NoName (hr.mono (by decide)) J_NoName (l_cons (e_var 1 (pv 1)) l_nil) (consD_len (fun _ _ _ => nilD_len)))) ss_nil))))
theorem sc_asked_once : FnScope ["names", "seen", "name"] ["names"] (defScope s_asked_once) := ⟨rfl, rfl, rfl, by decide +kernel, rfl, by decide +kernel, by decide +kernel⟩
theorem ok_asked_once (c : Cx K mg) : ∃ fd, Df P w K mg base a_asked_once fd ["names"] [] d_asked_once 3 ∧ Binds K fd ["names"] [] := by
  obtain ⟨fd, F⟩ := c.d.def_ 18 (d := a_asked_once) rfl
  obtain ⟨fd_Twice, I_Twice, J_Twice⟩ := ini_Twice (P := P) (w := w) (base := base) c
  refine ⟨fd, ⟨F, fn_denD (k := 2) F sc_asked_once (by decide) fun cdv A outer s H E j hr W => ?_, outLen_run⟩, F.bindsN fun _ _ _ _ _ _ us hl => match us, hl with | [_], _ => rfl⟩
  exact (ss_cons (s_setO 1 W.nd (W.pin 1 (by decide)) o_dict0)
    (ss_one (s_for W.pass W.calm (i_src (e_var 0 (pv 0))) (g_name 2 W.nd (W.pin 2 (by decide))) (ss_cons (s_if (t_din 1 (Room.units1 hr) (e_var 2 (pv 2)) (pv 1)) (ss_one (s_raise W.calm W.take (xkfB_ok (exf c 5) (c.glo 34)) I_Twice (hr.mono (by decide)) J_Twice (l_cons (e_var 2 (pv 2)) l_nil) (consD_len (fun _ _ _ => nilD_len)))) ss_nil)
    (ss_one (s_dput 1 (Room.units1 hr) (pv 1) (e_var 2 (pv 2)) e_bl))))))
theorem sc_asked_some : FnScope ["what", "names"] ["what", "names"] (defScope s_asked_some) := ⟨rfl, rfl, rfl, by decide +kernel, rfl, by decide +kernel, by decide +kernel⟩
theorem ok_asked_some (c : Cx K mg) : ∃ fd, Df P w K mg base a_asked_some fd ["what", "names"] [] d_asked_some 4 ∧ Binds K fd ["what", "names"] [] := by
  obtain ⟨fd, F⟩ := c.d.def_ 19 (d := a_asked_some) rfl
  obtain ⟨fd_asked_names, D_asked_names, B_asked_names⟩ := ok_asked_names (P := P) (w := w) (base := base) c
  obtain ⟨fd_asked_once, D_asked_once, B_asked_once⟩ := ok_asked_once (P := P) (w := w) (base := base) c
  obtain ⟨fd_BadCount, I_BadCount, J_BadCount⟩ := ini_BadCount (P := P) (w := w) (base := base) c
  refine ⟨fd, ⟨F, fn_denD (k := 3) F sc_asked_some (by decide) fun cdv A outer s H E j hr W => ?_, outLen_run⟩, F.bindsN fun _ _ _ _ _ _ us hl => match us, hl with | [_, _], _ => rfl⟩
  exact (ss_cons (s_if (t_not (t_chain od_le od_le e_int (e_callB cd_len rfl (c.free 3) rfl (l_cons (e_var 1 (pv 1)) l_nil)) (g_int c 35))) (ss_one (s_raise W.calm W.take (xkfB_ok (exf c 6) (c.glo 36)) I_BadCount (hr.mono (by decide)) J_BadCount (l_cons (e_var 0 (pv 0)) (l_cons (e_callB cd_len rfl (c.free 3) rfl (l_cons (e_var 1 (pv 1)) l_nil)) l_nil)) (consD_len (consD_len (fun _ _ _ => nilD_len))))) ss_nil)
    (ss_cons (s_expr (e_frzo (o_fn D_asked_names B_asked_names hr (c.glo 37) W.take (a_cons (e_var 1 (pv 1)) a_nil))))
    (ss_one (s_expr (e_frzo (o_fn D_asked_once B_asked_once hr (c.glo 38) W.take (a_cons (e_var 1 (pv 1)) a_nil)))))))
theorem sc_asked_pays : FnScope ["pays", "tall", "wide", "row"] ["pays", "tall", "wide"] (defScope s_asked_pays) := ⟨rfl, rfl, rfl, by decide +kernel, rfl, by decide +kernel, by decide +kernel⟩
theorem ok_asked_pays (c : Cx K mg) : ∃ fd, Df P w K mg base a_asked_pays fd ["pays", "tall", "wide"] [] d_asked_pays 3 ∧ Binds K fd ["pays", "tall", "wide"] [] := by
  obtain ⟨fd, F⟩ := c.d.def_ 20 (d := a_asked_pays) rfl
  obtain ⟨fd_BadCount, I_BadCount, J_BadCount⟩ := ini_BadCount (P := P) (w := w) (base := base) c
  refine ⟨fd, ⟨F, fn_denD (k := 2) F sc_asked_pays (by decide) fun cdv A outer s H E j hr W => ?_, outLen_run⟩, F.bindsN fun _ _ _ _ _ _ us hl => match us, hl with | [_, _, _], _ => rfl⟩
  exact (ss_cons (s_if (t_cmp (od_ne hr.units) (e_callB cd_len rfl (c.free 3) rfl (l_cons (e_var 0 (pv 0)) l_nil)) (e_var 1 (pv 1)) (nomark _)) (ss_one (s_raise W.calm W.take (xkfB_ok (exf c 6) (c.glo 36)) I_BadCount (hr.mono (by decide)) J_BadCount (l_cons e_str (l_cons (e_callB cd_len rfl (c.free 3) rfl (l_cons (e_var 0 (pv 0)) l_nil)) l_nil)) (consD_len (consD_len (fun _ _ _ => nilD_len))))) ss_nil)
    (ss_one (s_for W.pass W.calm (i_src (e_var 0 (pv 0))) (g_name 3 W.nd (W.pin 3 (by decide))) (ss_one (s_if (t_cmp (od_ne hr.units) (e_callB cd_len rfl (c.free 3) rfl (l_cons (e_var 3 (pv 3)) l_nil)) (e_var 2 (pv 2)) (nomark _)) (ss_one (s_raise W.calm W.take (xkfB_ok (exf c 6) (c.glo 36)) I_BadCount (hr.mono (by decide)) J_BadCount (l_cons e_str (l_cons (e_callB cd_len rfl (c.free 3) rfl (l_cons (e_var 3 (pv 3)) l_nil)) l_nil)) (consD_len (consD_len (fun _ _ _ => nilD_len))))) ss_nil)))))
theorem sc_Game_init : FnScope ["self", "rows", "columns", "pays", "row", "one", "other"] ["self", "rows", "columns", "pays"] (defScope s_Game_init) := ⟨rfl, rfl, rfl, by decide +kernel, rfl, by decide +kernel, by decide +kernel⟩
theorem ok_Game_init (c : Cx K mg) : ∃ fd, Df P w K mg base a_Game_init fd ["self", "rows", "columns", "pays"] [0] d_Game_init 5 ∧ Binds K fd ["self", "rows", "columns", "pays"] [] := by
  obtain ⟨fd, F⟩ := c.d.def_ 21 (d := a_Game_init) rfl
  obtain ⟨fd_asked_some, D_asked_some, B_asked_some⟩ := ok_asked_some (P := P) (w := w) (base := base) c
  obtain ⟨fd_asked_pays, D_asked_pays, B_asked_pays⟩ := ok_asked_pays (P := P) (w := w) (base := base) c
  refine ⟨fd, ⟨F, fn_denD (k := 4) F sc_Game_init (by decide) fun cdv A outer s H E j hr W => ?_, outLen_run⟩, F.bindsN fun _ _ _ _ _ _ us hl => match us, hl with | [_, _, _, _], _ => rfl⟩
  exact (ss_cons (s_expr (e_frzo (o_fn D_asked_some B_asked_some hr (c.glo 39) W.take (a_cons e_str (a_cons (e_var 1 (pv 1)) a_nil)))))
    (ss_cons (s_expr (e_frzo (o_fn D_asked_some B_asked_some hr (c.glo 39) W.take (a_cons e_str (a_cons (e_var 2 (pv 2)) a_nil)))))
    (ss_cons (s_expr (e_frzo (o_fn D_asked_pays B_asked_pays hr (c.glo 40) W.take (a_cons (e_var 3 (pv 3)) (a_cons (e_callB cd_len rfl (c.free 3) rfl (l_cons (e_var 1 (pv 1)) l_nil)) (a_cons (e_callB cd_len rfl (c.free 3) rfl (l_cons (e_var 2 (pv 2)) l_nil)) a_nil))))))
    (ss_cons (s_setf (c.fld 8 9 10) (by decide) 0 (pv 0) (e_tup (l_cons (e_callT cd_tuple rfl (c.free 41) rfl (l_cons (e_var 1 (pv 1)) l_nil)) (l_cons (e_callT cd_tuple rfl (c.free 41) rfl (l_cons (e_var 2 (pv 2)) l_nil)) l_nil))))
    (ss_one (s_setf (c.fld 8 9 15) (by decide) 0 (pv 0) (e_callT cd_tuple rfl (c.free 41) rfl (l_cons (e_frzo (o_lc (own := [("row", 4), ("one", 5), ("other", 6)]) W.calm W.nd (fun i hi => W.pin i (by revert i; decide)) (by decide) (i_src (e_var 3 (pv 3))) (blkOk_by (by rfl)) (fun s2 H2 C2 cl2 fp2 eb2 hE1 => (w_name 4 W.nd (hE1 4 (by decide)))) (fun s2 H2 C2 cl2 fp2 eb2 hE1 => ts_nil) (fun s2 H2 C2 cl2 fp2 eb2 hE1 => (e_callT cd_tuple rfl (c.free 41) rfl (l_cons (e_frzo (o_lc (own := [("one", 5), ("other", 6)]) W.calm W.nd (fun i hi => hE1 i (by revert i; decide)) (by decide) (i_src (e_var 4 (pv 4))) (blkOk_by (by rfl)) (fun s2 H2 C2 cl2 fp2 eb2 hE2 => (w_tup W.calm (ws_cons (w_name 5 W.nd (hE2 5 (by decide))) (ws_cons (w_name 6 W.nd (hE2 6 (by decide))) ws_nil)) (fun _ _ _ e => gConsD_len (fun _ _ _ e => gConsD_len (fun _ _ _ e => gNilD_len e) e) e))) (fun s2 H2 C2 cl2 fp2 eb2 hE2 => ts_nil) (fun s2 H2 C2 cl2 fp2 eb2 hE2 => (e_tup (l_cons (e_var 5 (pv 5)) (l_cons (e_var 6 (pv 6)) l_nil)))))) l_nil))))) l_nil))))))))
theorem sc__law_square : FnScope ["tall", "wide", "at", "place", "i", "k", "j", "l"] ["tall", "wide", "at", "place"] (defScope s__law_square) := ⟨rfl, rfl, rfl, by decide +kernel, rfl, by decide +kernel, by decide +kernel⟩
theorem ok__law_square (c : Cx K mg) : ∃ fd, Df P w K mg base a__law_square fd ["tall", "wide", "at", "place"] [] d__law_square 1 ∧ Binds K fd ["tall", "wide", "at", "place"] [] := by
  obtain ⟨fd, F⟩ := c.d.def_ 22 (d := a__law_square) rfl
  refine ⟨fd, ⟨F, fn_denD (k := 0) F sc__law_square (by decide) fun cdv A outer s H E j hr W => ?_, outLen_run⟩, F.bindsN fun _ _ _ _ _ _ us hl => match us, hl with | [_, _, _, _], _ => rfl⟩
  exact (ss_cons (s_asg (e_ix (e_lst (l_cons (e_tup (l_cons e_int (l_cons (e_var 2 (pv 2)) l_nil))) (l_cons (e_tup (l_cons e_int (l_cons e_int l_nil))) l_nil))) (e_callT cd_intX rfl (c.free 0) rfl (l_cons (e_cmp (od_eq hr.units) (e_var 2 (pv 2)) e_int (nomark _)) l_nil)) (fun _ _ => rfl)) (g_tup W.calm (gs_cons (g_name 4 W.nd (W.pin 4 (by decide))) (gs_cons (g_name 5 W.nd (W.pin 5 (by decide))) gs_nil)) (fun _ _ _ e => gConsD_len (fun _ _ _ e => gConsD_len (fun _ _ _ e => gNilD_len e) e) e)))
    (ss_cons (s_asg (e_ix (e_lst (l_cons (e_tup (l_cons e_int (l_cons (e_var 3 (pv 3)) l_nil))) (l_cons (e_tup (l_cons e_int (l_cons e_int l_nil))) l_nil))) (e_callT cd_intX rfl (c.free 0) rfl (l_cons (e_cmp (od_eq hr.units) (e_var 3 (pv 3)) e_int (nomark _)) l_nil)) (fun _ _ => rfl)) (g_tup W.calm (gs_cons (g_name 6 W.nd (W.pin 6 (by decide))) (gs_cons (g_name 7 W.nd (W.pin 7 (by decide))) gs_nil)) (fun _ _ _ e => gConsD_len (fun _ _ _ e => gConsD_len (fun _ _ _ e => gNilD_len e) e) e)))
    (ss_one (s_ret (e_tup (l_cons (e_var 4 (pv 4)) (l_cons (e_var 5 (pv 5)) (l_cons (e_var 6 (pv 6)) (l_cons (e_var 7 (pv 7)) l_nil)))))))))
theorem sc_law : FnScope ["script", "cell", "well", "tall", "wide", "table", "one", "other", "names", "due", "row", "number", "more", "pays", "its", "at", "place", "side", "here", "told"] ["script"] (defScope s_law) := ⟨rfl, rfl, rfl, by decide +kernel, rfl, by decide +kernel, by decide +kernel⟩
theorem ok_law (c : Cx K mg) : ∃ fd, Df P w K mg base a_law fd ["script"] [] d_law 7 ∧ Binds K fd ["script"] [] := by
  obtain ⟨fd, F⟩ := c.d.def_ 23 (d := a_law) rfl
  obtain ⟨fd__law_cell_at, D__law_cell_at, B__law_cell_at⟩ := ok__law_cell_at (P := P) (w := w) (base := base) c
  obtain ⟨fd__law_well, D__law_well, B__law_well⟩ := ok__law_well (P := P) (w := w) (base := base) c
  obtain ⟨fd__law_draw, D__law_draw, B__law_draw⟩ := ok__law_draw (P := P) (w := w) (base := base) c
  obtain ⟨fd__law_table, D__law_table, B__law_table⟩ := ok__law_table (P := P) (w := w) (base := base) c
  obtain ⟨fd__law_lifted, D__law_lifted, B__law_lifted⟩ := ok__law_lifted (P := P) (w := w) (base := base) c
  obtain ⟨fd__law_names, D__law_names, B__law_names⟩ := ok__law_names (P := P) (w := w) (base := base) c
  obtain ⟨fd__law_said, D__law_said, B__law_said⟩ := ok__law_said (P := P) (w := w) (base := base) c
  obtain ⟨fd_Game_init, D_Game_init, B_Game_init⟩ := ok_Game_init (P := P) (w := w) (base := base) c
  obtain ⟨fd__law_square, D__law_square, B__law_square⟩ := ok__law_square (P := P) (w := w) (base := base) c
  refine ⟨fd, ⟨F, fn_denD (k := 6) F sc_law (by decide) fun cdv A outer s H E j hr W => ?_, outLen_run⟩, F.bindsN fun _ _ _ _ _ _ us hl => match us, hl with | [_], _ => rfl⟩
  exact (ss_cons (s_for W.pass W.calm (i_src (e_bin od_add (e_lst (l_cons (e_frzo (o_fn D__law_cell_at B__law_cell_at hr (c.glo 42) W.take (a_cons (e_var 0 (pv 0)) (a_cons e_int a_nil)))) l_nil)) (e_slice (e_var 0 (pv 0)) (p_some e_int) (p_some e_int)))) (g_name 1 W.nd (W.pin 1 (by decide))) (ss_cons (s_setO 2 W.nd (W.pin 2 (by decide)) (o_fn D__law_well B__law_well hr (c.glo 43) W.take (a_cons (e_var 1 (pv 1)) a_nil)))
    (ss_cons (s_par 3 4 W.calm W.nd (W.pin 3 (by decide)) (W.pin 4 (by decide)) (e_bin od_add e_int (e_frzo (o_fn D__law_draw B__law_draw hr (c.glo 2) W.take (a_io 2 (pv 2) (a_cons e_int a_nil))))) (e_bin od_add e_int (e_frzo (o_fn D__law_draw B__law_draw hr (c.glo 2) W.take (a_io 2 (pv 2) (a_cons e_int a_nil))))))
    (ss_cons (s_set 5 W.nd (W.pin 5 (by decide)) (e_frzo (o_fn D__law_table B__law_table hr (c.glo 44) W.take (a_io 2 (pv 2) (a_cons (e_var 3 (pv 3)) (a_cons (e_var 4 (pv 4)) (a_cons (e_frzo (o_fn D__law_draw B__law_draw hr (c.glo 2) W.take (a_io 2 (pv 2) (a_cons e_int a_nil)))) a_nil)))))))
    (ss_cons (s_set 6 W.nd (W.pin 6 (by decide)) (e_frzo (o_fn D__law_lifted B__law_lifted hr (c.glo 45) W.take (a_cons (e_var 5 (pv 5)) (a_cons (e_ix (e_frzo (o_fn D__law_table B__law_table hr (c.glo 44) W.take (a_io 2 (pv 2) (a_cons e_int (a_cons (e_var 4 (pv 4)) (a_cons e_int a_nil)))))) e_int (fun _ _ => rfl)) (a_cons (e_repLit (l_cons e_int l_nil) (e_var 3 (pv 3))) a_nil))))))
    (ss_cons (s_set 7 W.nd (W.pin 7 (by decide)) (e_frzo (o_fn D__law_lifted B__law_lifted hr (c.glo 45) W.take (a_cons (e_var 5 (pv 5)) (a_cons (e_repLit (l_cons e_int l_nil) (e_var 4 (pv 4))) (a_cons (e_ix (e_frzo (o_fn D__law_table B__law_table hr (c.glo 44) W.take (a_io 2 (pv 2) (a_cons e_int (a_cons (e_var 3 (pv 3)) (a_cons e_int a_nil)))))) e_int (fun _ _ => rfl)) a_nil))))))
    (ss_cons (s_set 8 W.nd (W.pin 8 (by decide)) (e_tup (l_cons (e_frzo (o_fn D__law_names B__law_names hr (c.glo 46) W.take (a_io 2 (pv 2) (a_cons (e_var 3 (pv 3)) a_nil)))) (l_cons (e_frzo (o_fn D__law_names B__law_names hr (c.glo 46) W.take (a_io 2 (pv 2) (a_cons (e_var 4 (pv 4)) a_nil)))) l_nil))))
    (ss_cons (s_setLcF (own := [("row", 10), ("number", 11)]) 9 W.calm W.nd (W.pin 9 (by decide)) (fun i hi => W.pin i (by revert i; decide)) (by decide) (i_src (e_var 5 (pv 5))) (blkOk_by (by rfl)) (fun s2 H2 C2 cl2 fp2 eb2 hE1 => (w_name 10 W.nd (hE1 10 (by decide)))) (fun s2 H2 C2 cl2 fp2 eb2 hE1 => ts_nil) (fun s2 H2 C2 cl2 fp2 eb2 hE1 => (e_frzo (o_lc (own := [("number", 11)]) W.calm W.nd (fun i hi => hE1 i (by revert i; decide)) (by decide) (i_src (e_var 10 (pv 10))) (blkOk_by (by rfl)) (fun s2 H2 C2 cl2 fp2 eb2 hE2 => (w_name 11 W.nd (hE2 11 (by decide)))) (fun s2 H2 C2 cl2 fp2 eb2 hE2 => ts_nil) (fun s2 H2 C2 cl2 fp2 eb2 hE2 => (e_bin od_sub (e_var 11 (pv 11)) (e_ix (e_ix (e_var 5 (pv 5)) e_int (fun _ _ => rfl)) e_int (fun _ _ => rfl))))))))
    (ss_one (s_for W.pass W.calm (i_src (e_lst (l_cons e_int (l_cons (e_bin od_add e_int (e_frzo (o_fn D__law_draw B__law_draw hr (c.glo 2) W.take (a_io 2 (pv 2) (a_cons e_int a_nil))))) (l_cons (e_bin od_sub (e_un ud_neg (e_bin od_pow e_int e_int)) e_int) l_nil))))) (g_name 12 W.nd (W.pin 12 (by decide))) (ss_cons (s_setLco (own := [("row", 10), ("its", 14)]) 13 W.calm W.nd (W.pin 13 (by decide)) (fun i hi => W.pin i (by revert i; decide)) (by decide) (i_zip rfl (c.free 47) (e_var 6 (pv 6)) (e_var 7 (pv 7))) (blkOk_by (by rfl)) (fun s3 H3 C3 cl3 fp3 eb3 hE3 => (w_tup W.calm (ws_cons (w_name 10 W.nd (hE3 10 (by decide))) (ws_cons (w_name 14 W.nd (hE3 14 (by decide))) ws_nil)) (fun _ _ _ e => gConsD_len (fun _ _ _ e => gConsD_len (fun _ _ _ e => gNilD_len e) e) e))) (fun s3 H3 C3 cl3 fp3 eb3 hE3 => ts_nil) (fun s3 H3 C3 cl3 fp3 eb3 hE3 => (o_listZip W.calm rfl (c.free 48) rfl (c.free 47) (e_var 10 (pv 10)) (e_var 14 (pv 14)))))
    (ss_cons (s_par3 15 16 17 W.calm W.nd (W.pin 15 (by decide)) (W.pin 16 (by decide)) (W.pin 17 (by decide)) (e_frzo (o_fn D__law_draw B__law_draw hr (c.glo 2) W.take (a_io 2 (pv 2) (a_cons (e_var 3 (pv 3)) a_nil)))) (e_frzo (o_fn D__law_draw B__law_draw hr (c.glo 2) W.take (a_io 2 (pv 2) (a_cons (e_var 4 (pv 4)) a_nil)))) (e_frzo (o_fn D__law_draw B__law_draw hr (c.glo 2) W.take (a_io 2 (pv 2) (a_cons e_int a_nil)))))
    (ss_cons (s_setO 18 W.nd (W.pin 18 (by decide)) (o_list rfl (c.free 48) rfl (l_cons (e_ixO2 13 (pv 13) (e_var 15 (pv 15)) (fun _ _ => rfl) (qi_var 16 (pv 16)) (fun _ _ => rfl)) l_nil)))
    (ss_cons (s_setix 18 (e_bin od_add (e_ixO 18 (pv 18) (e_var 17 (pv 17)) (fun _ _ => rfl)) (e_var 12 (pv 12))) (pv 18) (e_var 17 (pv 17)))
    (ss_cons (s_setix2 13 (e_callT cd_tuple rfl (c.free 41) rfl (l_cons (e_varF 18 (pv 18) (W.pin 18 (by decide))) l_nil)) (pv 13) (e_var 15 (pv 15)) (fun _ _ => rfl) (qi_var 16 (pv 16)))
    (ss_cons (s_set 19 W.nd (W.pin 19 (by decide)) (e_frzo (o_fn D__law_said B__law_said hr (c.glo 50) W.take (a_cons (e_frzo (o_make D_Game_init B_Game_init rfl (c.make 8 49) hr W.take (l_cons (e_ix (e_var 8 (pv 8)) e_int (fun _ _ => rfl)) (l_cons (e_ix (e_var 8 (pv 8)) e_int (fun _ _ => rfl)) (l_cons (e_varF 13 (pv 13) (W.pin 13 (by decide))) l_nil))))) a_nil))))
    (ss_cons (s_if (t_pw (t_and (t_cmp (od_eq hr.units) (e_var 12 (pv 12)) e_int (nomark _)) (t_and1 (t_cmp (od_ne hr.units) (e_var 19 (pv 19)) (e_tup (l_cons e_str (l_cons (e_var 9 (pv 9)) l_nil))) (nomark _))))) (ss_one (s_ret e_bl)) ss_nil)
    (ss_cons (s_if (t_pw (t_and (t_cmp (od_ne hr.units) (e_var 12 (pv 12)) e_int (nomark _)) (t_and (t_cmp od_gt (e_var 3 (pv 3)) e_int (nomark _)) (t_and (t_cmp od_gt (e_var 4 (pv 4)) e_int (nomark _)) (t_and1 (t_cmp (od_ne hr.units) (e_var 19 (pv 19)) (e_tup (l_cons e_str (l_cons (e_frzo (o_fn D__law_square B__law_square hr (c.glo 51) W.take (a_cons (e_var 3 (pv 3)) (a_cons (e_var 4 (pv 4)) (a_cons (e_var 15 (pv 15)) (a_cons (e_var 16 (pv 16)) a_nil)))))) l_nil))) (nomark _))))))) (ss_one (s_ret e_bl)) ss_nil)
    (ss_one (s_if (t_pw (t_and (t_cmp (od_ne hr.units) (e_var 12 (pv 12)) e_int (nomark _)) (t_and (t_pw (t_or (t_cmp (od_eq hr.units) (e_var 3 (pv 3)) e_int (nomark _)) (t_or1 (t_cmp (od_eq hr.units) (e_var 4 (pv 4)) e_int (nomark _))))) (t_and1 (t_cmp (od_ne hr.units) (e_ix (e_var 19 (pv 19)) e_int (fun _ _ => rfl)) e_str (nomark _)))))) (ss_one (s_ret e_bl)) ss_nil))))))))))))))))))))
    (ss_one (s_ret e_bl)))
end
end K52
namespace K52
open PySem PySem.Spec PyProof.Rows L2 DL
abbrev R : PySem.W.OpenRow := PySem.W.OpenLaw.row PySem.Challenge.rw_bestreply_k52_shared_tables_built
abbrev hk : PySem.W.Hook := He.hookX 6 facts fns [] [] exB
def ob (s : PySem.W.SharedT) : He.AlX := He.obsX 6 facts fns [] [] exB (HandSHeadRun.getT s)
theorem ob_eq (s : PySem.W.SharedT) : ob s = hk.obs s.abs := He.obsX_eq (HandSHeadRun.getT_eq s)
def loose0 : List Str := ["_wall", "ReplyError", "BadCount", "NoName", "Twice", "NoSide", "NoChoice", "Uneven", "pays_of", "two_of", "squares", "cross", "shared_table", "LETTERS", "FIGURES", "LONGEST", "is_name", "asked_names", "asked_once", "MOST_CHOICES"]
def loose1 : List Str := ["asked_some", "asked_pays", "Game", "_law_cell_at", "_law_well", "_law_draw", "_law_pick", "_law_name", "_law_names", "_law_table", "_law_lifted", "_law_said", "_law_square"]
def loose : List Str := List.append (loose0) loose1
theorem run (w : World) : HandSHeadRun.RunEq R (PySem.W.view R.prog [38]) hk ob 12000 loose w := by
  intro os
  kernel_rfl
end K52
open PySem PySem.W PySem.Calls PyProof.Rows
theorem PySem.Challenge.cw_bestreply_k52_shared_tables_built_holds : PySem.Challenge.rw_bestreply_k52_shared_tables_built.Holds := by
  w_on; o_law
  refine HandSHeadRun.head_any (r := OpenLaw.row PySem.Challenge.rw_bestreply_k52_shared_tables_built) (q := view (OpenLaw.row PySem.Challenge.rw_bestreply_k52_shared_tables_built).prog [38]) (H := K52.hk) (ob := K52.ob) (M := 12000) (loose := K52.loose) (d := HandSHeadRun.topDef (OpenLaw.row PySem.Challenge.rw_bestreply_k52_shared_tables_built).prog 38) (kwd := []) K52.ob_eq
    (by kernel_rfl) (fun s => by kernel_rfl) K52.run (by kernel_rfl) (by kernel_rfl) (by kernel_rfl) (by rfl) (by first | assumption | decide +kernel) (by decide +kernel) ⟨rfl, rfl, rfl, rfl, rfl, by decide +kernel⟩ ?hw ?hc
  case hw => w_witness2
  case hc =>
    exact DL.walk_end (l := PySem.Challenge.rw_bestreply_k52_shared_tables_built) (k := 7) (i := 52) (a := K52.a_law) (g := K52.d_law) rfl (by kernel_rfl) ⟨rfl, by decide, by decide⟩ (by kernel_rfl) rfl rfl (fun _ _ _ _ _ _ us hl => match us, hl with | [_], _ => rfl) rfl (fun w base K mg c => let ⟨fd, D, _⟩ := K52.ok_law c; ⟨fd, D⟩) K52.law_eq
