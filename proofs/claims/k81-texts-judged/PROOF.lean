import PyProof.Rows.All
import Wide.All
import OpenK.AllK
import Wide.FinOn
import HandS.ForMost
import HandS.More
import HandS.Wide
import HandS.IsInst
import HandS.Style
import HandS.Deep
import PyProof.StrBlock2
import HandS.SetKeys
import HandS.SortKw
import HandS.SetFor
import HandS.WordsDict
import HandS.TupLen
import HandS.ExcCtx
import HandS.ExcIs
import HandS.CallSlots
import HandS.HotCalls
import HandS.Comp
import HandS.NoneIn
import PySem.Challenge.RW_threewebs_k81_texts_judged
set_option Elab.async false
set_option linter.all false
set_option maxRecDepth 100000
set_option maxHeartbeats 4000000
namespace Tw
open PySem PySem.Spec L2
open PyProof.Rows hiding St
abbrev qAdd : R2 := rI0 fun i j => .int (i + j)
abbrev qMul : R2 := rI CMulW fun i j => .int (i * j)
abbrev qDiv : R2 := rI CDivW fun i j => .int (i / j)
def CPos (_ j : Int) : Prop := 0 < j
theorem cpos {i j : Int} (h : 0 < j) : CPos i j := h
abbrev qMod : R2 := rI CPos fun i j => .int (i % j)
abbrev qPow : R2 := rI CPow fun i j => .int (i ^ j.toNat)
abbrev qNeg : V → Hp → VK → Prop := rU fun i => .int (-i)
abbrev qLt : R2 := rI0 fun i j => .bl (decide (i < j))
abbrev qGt : R2 := rI0 fun i j => .bl (decide (j < i))
abbrev qCatS : R2 := fun x y H Q => ∃ i j, x = .str i ∧ y = .str j ∧ i.length + j.length ≤ sizeLine ∧ Q (.str (i ++ j)) H
abbrev qRepS : R2 := fun x y H Q => ∃ z n, x = .str z ∧ y = .int n ∧ MulOk z n ∧ Q (.str (Txt.mul z n)) H
abbrev qNotInSign : R2 := fun x y H Q => ∃ (c : Nat) (z : Str), x = .str ⟨#[c]⟩ ∧ y = .str z ∧ Q (.bl (!decide (c ∈ z.cps.toList))) H
abbrev qIsN : R2 := fun x y H Q => y = .non ∧ Q (.bl (decide (x = .non))) H
abbrev qLenS : List V → Hp → VK → Prop := fun xs H Q => ∃ z, xs = [.str z] ∧ z.length ≤ sizeLine ∧ Q (.int z.length) H
abbrev qLenQ (K : PySem.W.Frag) : List V → Hp → VK → Prop := fun xs H Q => ∃ p ys, xs = [.ref p] ∧ (SqL K H p ys ∨ SqT K H p ys) ∧ Q (.int ys.length) H
abbrev qJoin (K : PySem.W.Frag) : V → List V → Hp → VK → Prop := fun x xs H Q => ∃ a p, ∃ ys : List Str, x = .str a ∧ xs = [.ref p] ∧ (SqL K H p (ys.map V.str) ∨ SqT K H p (ys.map V.str)) ∧ (ys.map (·.length)).sum + ys.length * a.length ≤ 16777216 ∧ Q (.str (Txt.join a ys)) H
abbrev qSplit : V → List V → Hp → VK → Prop := fun x xs H Q => ∃ a b, x = .str a ∧ xs = [.str b] ∧ (b.length == 0) = false ∧ a.length + 2 ≤ sizeLine ∧ rNewStrs (Txt.split a b) H Q
section
variable {X : Cx}
theorem op_rep_str : OpR X (binaryOp .Mult) qRepS := by
  intro pins s σ H x y v u Q I rx ry h
  obtain ⟨z, n, rfl, rfl, hz, q⟩ := h
  obtain ⟨t, rfl⟩ := rx
  obtain ⟨t', rfl⟩ := ry
  exact SB.mul hz (fun t' k => ⟨.str (Txt.mul z n), H, I.tok _, ⟨_, rfl⟩, q⟩)
end
end Tw
set_option Elab.async false
set_option linter.all false
set_option maxRecDepth 100000
set_option maxHeartbeats 4000000
namespace Tw
open PySem
inductive M (α : Type) where
  | ok (a : α) | exc (c : Str) | bad
namespace M
def b {α β : Type} (m : M α) (k : α → M β) : M β := match m with
  | .ok a => k a
  | .exc c => .exc c
  | .bad => .bad
@[simp] theorem b_ok {α β : Type} (a : α) (k : α → M β) : b (.ok a) k = k a := rfl
@[simp] theorem b_exc {α β : Type} (c : Str) (k : α → M β) : b (.exc c) k = .exc c := rfl
@[simp] theorem b_bad {α β : Type} (k : α → M β) : b .bad k = .bad := rfl
theorem b_assoc {α β γ : Type} (m : M α) (k : α → M β) (l : β → M γ) : b (b m k) l = b m fun a => b (k a) l := by cases m <;> rfl
def P {α : Type} (m : M α) (p : α → Prop) (x : Str → Prop) : Prop := match m with
  | .ok a => p a
  | .exc c => x c
  | .bad => False
theorem P_b {α β : Type} {m : M α} {k : α → M β} {p : β → Prop} {x : Str → Prop} : (b m k).P p x ↔ m.P (fun a => (k a).P p x) x := by cases m <;> exact Iff.rfl
theorem P.imp {α : Type} {m : M α} {p q : α → Prop} {x y : Str → Prop} (h : m.P p x) (f : ∀ a, p a → q a) (g : ∀ c, x c → y c) : m.P q y := by
  cases m with
  | ok a => exact f a h
  | exc c => exact g c h
  | bad => exact h
open Classical in
/-- only where c holds -/
noncomputable def chk (c : Prop) {α : Type} (m : M α) : M α := if c then m else .bad
theorem chk_of {c : Prop} {α : Type} {m : M α} (h : c) : chk c m = m := if_pos h
theorem P_chk {c : Prop} {α : Type} {m : M α} {p : α → Prop} {x : Str → Prop} : (chk c m).P p x ↔ c ∧ m.P p x := by
  by_cases h : c
  · rw [chk_of h]; exact ⟨fun q => ⟨h, q⟩, fun q => q.2⟩
  · unfold chk; rw [if_neg h]; exact ⟨fun q => q.elim, fun q => h q.1⟩
/-- what an option holds -/
def get {α : Type} : Option α → M α
  | some a => .ok a
  | none => .bad
@[simp] theorem get_some {α : Type} (a : α) : get (some a) = .ok a := rfl
theorem P_get {α : Type} {o : Option α} {p : α → Prop} {x : Str → Prop} : (get o).P p x ↔ ∃ a, o = some a ∧ p a := by
  cases o with
  | none => exact ⟨fun q => q.elim, fun ⟨_, e, _⟩ => by cases e⟩
  | some a => exact ⟨fun q => ⟨a, rfl, q⟩, fun ⟨_, e, q⟩ => by cases e; exact q⟩
/-- a loop over a list -/
def for_ {α S : Type} (f : S → α → M S) : List α → S → M S
  | [], s => .ok s
  | x :: r, s => b (f s x) (for_ f r)
@[simp] theorem for_nil {α S : Type} (f : S → α → M S) (s : S) : for_ f [] s = .ok s := rfl
@[simp] theorem for_cons {α S : Type} (f : S → α → M S) (x : α) (r : List α) (s : S) : for_ f (x :: r) s = b (f s x) (for_ f r) := rfl
theorem for_app {α S : Type} (f : S → α → M S) : ∀ (xs ys : List α) (s : S), for_ f (xs ++ ys) s = b (for_ f xs s) (for_ f ys)
  | [], ys, s => rfl
  | x :: r, ys, s => by
    show b (f s x) (for_ f (r ++ ys)) = b (b (f s x) (for_ f r)) (for_ f ys)
    rw [b_assoc]
    congr 1
    funext t
    exact for_app f r ys t
/-- where a turn may leave with an answer -/
def forR {α S R : Type} (f : S → α → M (S ⊕ R)) : List α → S → M (S ⊕ R)
  | [], s => .ok (.inl s)
  | x :: r, s => b (f s x) fun
    | .inl s => forR f r s
    | .inr a => .ok (.inr a)
@[simp] theorem forR_nil {α S R : Type} (f : S → α → M (S ⊕ R)) (s : S) : forR f [] s = .ok (.inl s) := rfl
theorem forR_cons {α S R : Type} (f : S → α → M (S ⊕ R)) (x : α) (r : List α) (s : S) : forR f (x :: r) s = b (f s x) fun | .inl s => forR f r s | .inr a => .ok (.inr a) := rfl
/-- what follows a loop that may leave -/
def orR {S R : Type} (k : S → M R) : S ⊕ R → M R
  | .inl s => k s
  | .inr r => .ok r
@[simp] theorem orR_inl {S R : Type} (k : S → M R) (s : S) : orR k (.inl s) = k s := rfl
@[simp] theorem orR_inr {S R : Type} (k : S → M R) (r : R) : orR k (.inr r) = .ok r := rfl
/-- [e for x in xs if t] -/
def lc {α β : Type} (t : α → M Bool) (e : α → M β) : List α → M (List β)
  | [] => .ok []
  | x :: r => b (t x) fun c => if c = true then b (e x) fun y => b (lc t e r) fun ys => .ok (y :: ys) else lc t e r
end M
/-- tuples of three, of four; tuples by place; dicts by a plain key, by a tuple; the script -/
structure T3 (α β γ : Type) where
  a : α
  b : β
  c : γ
deriving DecidableEq
structure T4 (α β γ δ : Type) where
  a : α
  b : β
  c : γ
  d : δ
deriving DecidableEq
structure Tp (α : Type) where
  l : List α
structure Dk (κ α : Type) where
  l : List (κ × α)
structure Dt (κ α : Type) where
  l : List (κ × α)
structure Scr where
  l : List Int
end Tw
set_option Elab.async false
set_option linter.all false
set_option maxRecDepth 100000
set_option maxHeartbeats 4000000
namespace Tw
open PySem PySem.Spec L2
open PyProof.Rows hiding St
theorem start_of {N : List Str} {vs : List V} : start N vs = vs.map some ++ List.replicate (N.length - vs.length) none := rfl
/-- where a def ends -/
abbrev dEnd (Q : VK) : Ends := { nx := fun _ H' => Q .non H', rt := Q }
theorem same_upd {H : Hp} {p : Addr} {o : HO} (h : H p = none) : Same H (upd H p o) := fun b x e => by
  rw [upd_ne (ne_of_none e h)]
  exact e
end Tw
set_option Elab.async false
set_option linter.all false
set_option maxRecDepth 100000
set_option maxHeartbeats 4000000
namespace Tw
open PySem PySem.Spec L2
open PyProof.Rows hiding St
structure Gb where
  K : PySem.W.Frag
  cl : Str → Addr
universe u v
inductive All2 {α : Type u} {β : Type v} (R : α → β → Prop) : List α → List β → Prop
  | nil : All2 R [] []
  | cons {a : α} {b : β} {l : List α} {m : List β} : R a b → All2 R l m → All2 R (a :: l) (b :: m)
namespace All2
variable {α : Type u} {β : Type v} {R S : α → β → Prop}
theorem imp (f : ∀ a b, R a b → S a b) : ∀ {l : List α} {m : List β}, All2 R l m → All2 S l m
  | _, _, .nil => .nil
  | _, _, .cons h t => .cons (f _ _ h) (imp f t)
theorem len : ∀ {l : List α} {m : List β}, All2 R l m → l.length = m.length
  | _, _, .nil => rfl
  | _, _, .cons _ t => by rw [List.length_cons, List.length_cons, len t]
theorem get : ∀ {l : List α} {m : List β} {i : Nat} {a : α}, All2 R l m → l[i]? = some a → ∃ b, m[i]? = some b ∧ R a b
  | _, _, _, _, .nil, e => by simp at e
  | _, _, 0, _, .cons h _, e => by simp at e; subst e; exact ⟨_, rfl, h⟩
  | _, _, i + 1, a, .cons _ t, e => by
    obtain ⟨b, h1, h2⟩ := get (i := i) (a := a) t (by simpa using e)
    exact ⟨b, by simpa using h1, h2⟩
theorem get' : ∀ {l : List α} {m : List β} {i : Nat} {b : β}, All2 R l m → m[i]? = some b → ∃ a, l[i]? = some a ∧ R a b
  | _, _, _, _, .nil, e => by simp at e
  | _, _, 0, _, .cons h _, e => by simp at e; subst e; exact ⟨_, rfl, h⟩
  | _, _, i + 1, a, .cons _ t, e => by
    obtain ⟨b, h1, h2⟩ := get' (i := i) (b := a) t (by simpa using e)
    exact ⟨b, by simpa using h1, h2⟩
theorem app : ∀ {l l' : List α} {m m' : List β}, All2 R l m → All2 R l' m' → All2 R (l ++ l') (m ++ m')
  | _, _, _, _, .nil, h => h
  | _, _, _, _, .cons h t, q => .cons h (app t q)
theorem snoc {l : List α} {m : List β} {a : α} {b : β} (h : All2 R l m) (q : R a b) : All2 R (l ++ [a]) (m ++ [b]) := h.app (.cons q .nil)
theorem take : ∀ {l : List α} {m : List β} (n : Nat), All2 R l m → All2 R (l.take n) (m.take n)
  | _, _, 0, _ => .nil
  | _, _, _ + 1, .nil => .nil
  | _, _, n + 1, .cons h t => .cons h (take n t)
theorem drop : ∀ {l : List α} {m : List β} (n : Nat), All2 R l m → All2 R (l.drop n) (m.drop n)
  | _, _, 0, h => h
  | _, _, _ + 1, .nil => .nil
  | _, _, n + 1, .cons _ t => drop n t
theorem set {a : α} {b : β} (q : R a b) : ∀ {l : List α} {m : List β} (i : Nat), All2 R l m → All2 R (l.set i a) (m.set i b)
  | _, _, _, .nil => .nil
  | _, _, 0, .cons _ t => .cons q t
  | _, _, i + 1, .cons h t => .cons h (set q i t)
theorem erase : ∀ {l : List α} {m : List β} (i : Nat), All2 R l m → All2 R (l.eraseIdx i) (m.eraseIdx i)
  | _, _, _, .nil => .nil
  | _, _, 0, .cons _ t => t
  | _, _, i + 1, .cons h t => .cons h (erase i t)
theorem of_map {f : β → α} (h : ∀ b, R (f b) b) : ∀ m : List β, All2 R (m.map f) m
  | [] => .nil
  | b :: r => .cons (h b) (of_map h r)
theorem to_map {f : β → α} (h : ∀ a b, R a b → a = f b) : ∀ {l : List α} {m : List β}, All2 R l m → l = m.map f
  | _, _, .nil => rfl
  | _, _, .cons q t => by rw [List.map_cons, h _ _ q, to_map h t]
end All2
class Rp (α : Type) where
  rep : Gb → Hp → V → α → Prop
  mono : ∀ {G : Gb} {H H' : Hp} {v : V} {a : α}, Same H H' → rep G H v a → rep G H' v a
abbrev rep {α : Type} [Rp α] (G : Gb) (H : Hp) (v : V) (a : α) : Prop := Rp.rep G H v a
/-- a thing that stands in no heap -/
class Sc (α : Type) [Rp α] where
  enc : α → V
  iff : ∀ (G : Gb) (H : Hp) (v : V) (a : α), rep G H v a ↔ v = enc a
/-- the things that may be changed: what stands at the address -/
class Rc (α : Type) [Rp α] where
  con : Gb → Hp → HO → α → Prop
  mono : ∀ {G : Gb} {H H' : Hp} {o : HO} {a : α}, Same H H' → con G H o a → con G H' o a
  fz : ∀ {G : Gb} {H : Hp} {p : Addr} {o : HO} {a : α}, H p = some o → con G H o a → rep G H (.ref p) a
abbrev con {α : Type} [Rp α] [Rc α] (G : Gb) (H : Hp) (o : HO) (a : α) : Prop := Rc.con G H o a
instance : Rp Int := ⟨fun _ _ v a => v = .int a, fun _ h => h⟩
instance : Rp Bool := ⟨fun _ _ v a => v = .bl a, fun _ h => h⟩
instance : Rp Str := ⟨fun _ _ v a => v = .str a, fun _ h => h⟩
instance : Rp Unit := ⟨fun _ _ v _ => v = .non, fun _ h => h⟩
instance : Sc Int := ⟨.int, fun _ _ _ _ => Iff.rfl⟩
instance : Sc Bool := ⟨.bl, fun _ _ _ _ => Iff.rfl⟩
instance : Sc Str := ⟨.str, fun _ _ _ _ => Iff.rfl⟩
instance : Sc Unit := ⟨fun _ => .non, fun _ _ _ _ => Iff.rfl⟩
section
variable {α β γ δ : Type} [Rp α] [Rp β] [Rp γ] [Rp δ]
instance : Rp (α × β) where
  rep G H x a := ∃ p v w, x = .ref p ∧ H p = some (.tup [v, w]) ∧ rep G H v a.1 ∧ rep G H w a.2
  mono := fun s ⟨p, v, w, e, h, h1, h2⟩ => ⟨p, v, w, e, s _ _ h, Rp.mono s h1, Rp.mono s h2⟩
instance : Rp (T3 α β γ) where
  rep G H x a := ∃ p v w u, x = .ref p ∧ H p = some (.tup [v, w, u]) ∧ rep G H v a.a ∧ rep G H w a.b ∧ rep G H u a.c
  mono := fun s ⟨p, v, w, u, e, h, h1, h2, h3⟩ => ⟨p, v, w, u, e, s _ _ h, Rp.mono s h1, Rp.mono s h2, Rp.mono s h3⟩
instance : Rp (T4 α β γ δ) where
  rep G H x a := ∃ p v w u z, x = .ref p ∧ H p = some (.tup [v, w, u, z]) ∧ rep G H v a.a ∧ rep G H w a.b ∧ rep G H u a.c ∧ rep G H z a.d
  mono := fun s ⟨p, v, w, u, z, e, h, h1, h2, h3, h4⟩ => ⟨p, v, w, u, z, e, s _ _ h, Rp.mono s h1, Rp.mono s h2, Rp.mono s h3, Rp.mono s h4⟩
abbrev reps (G : Gb) (H : Hp) (vs : List V) (as : List α) : Prop := All2 (rep G H) vs as
theorem reps_mono {G : Gb} {H H' : Hp} {vs : List V} {as : List α} (s : Same H H') (h : reps G H vs as) : reps G H' vs as := h.imp fun _ _ q => Rp.mono s q
instance : Rp (List α) where
  rep G H x a := ∃ p vs, x = .ref p ∧ H p = some (.lst vs) ∧ reps G H vs a
  mono := fun s ⟨p, vs, e, h, h1⟩ => ⟨p, vs, e, s _ _ h, reps_mono s h1⟩
instance : Rc (List α) where
  con G H o a := ∃ vs, o = .lst vs ∧ reps G H vs a
  mono := fun s ⟨vs, e, h⟩ => ⟨vs, e, reps_mono s h⟩
  fz := fun h ⟨vs, e, q⟩ => ⟨_, vs, rfl, by rw [h, e], q⟩
instance : Rp (Tp α) where
  rep G H x a := ∃ p vs, x = .ref p ∧ H p = some (.tup vs) ∧ reps G H vs a.l
  mono := fun s ⟨p, vs, e, h, h1⟩ => ⟨p, vs, e, s _ _ h, reps_mono s h1⟩
/-- None, or a thing -/
instance : Rp (Option α) where
  rep G H x a := match a with
    | none => x = .non
    | some a => rep G H x a ∧ x ≠ .non
  mono := fun {G H H' v a} s h => by
    cases a with
    | none => exact h
    | some a => exact ⟨Rp.mono s h.1, h.2⟩
end
instance : Rp Scr where
  rep G H x a := ∃ p, x = .ref p ∧ SqL G.K H p (a.l.map V.int)
  mono := fun s ⟨p, e, h⟩ => ⟨p, e, s.seq h⟩
/-- plain keys -/
class Ky (κ : Type) [Rp κ] [DecidableEq κ] where
  key : κ → Key
  inj : ∀ {a b : κ}, key a = key b → a = b
  iff : ∀ (G : Gb) (H : Hp) (v : V) (a : κ), rep G H v a ↔ v = kV (key a)
instance : Ky Int := ⟨.inl, fun h => Sum.inl.inj h, fun _ _ _ _ => Iff.rfl⟩
instance : Ky Str := ⟨.inr, fun h => Sum.inr.inj h, fun _ _ _ _ => Iff.rfl⟩
/-- keys that are tuples -/
class Kt (κ : Type) [Rp κ] [DecidableEq κ] where
  key : κ → List Key
  inj : ∀ {a b : κ}, key a = key b → a = b
  iff : ∀ (G : Gb) (H : Hp) (v : V) (a : κ), rep G H v a ↔ ∃ p, v = .ref p ∧ H p = some (.tup ((key a).map kV))
instance {κ μ : Type} [Rp κ] [Rp μ] [DecidableEq κ] [DecidableEq μ] [Ky κ] [Ky μ] : Kt (κ × μ) where
  key a := [Ky.key a.1, Ky.key a.2]
  inj := fun {a b} h => by
    have h1 := List.cons.inj h
    have h2 := List.cons.inj h1.2
    exact Prod.ext (Ky.inj h1.1) (Ky.inj h2.1)
  iff := fun G H v a => by
    constructor
    · rintro ⟨p, x, y, e, h, h1, h2⟩
      refine ⟨p, e, ?_⟩
      rw [h, (Ky.iff G H x a.1).mp h1, (Ky.iff G H y a.2).mp h2]
      rfl
    · rintro ⟨p, e, h⟩
      exact ⟨p, _, _, e, h, (Ky.iff G H _ a.1).mpr rfl, (Ky.iff G H _ a.2).mpr rfl⟩
section
variable {κ α : Type} [Rp κ] [DecidableEq κ] [Rp α]
abbrev repk [Ky κ] (G : Gb) (H : Hp) (kvs : List (Key × V)) (l : List (κ × α)) : Prop := All2 (fun p q => p.1 = Ky.key q.1 ∧ rep G H p.2 q.2) kvs l
abbrev rept [Kt κ] (G : Gb) (H : Hp) (kvs : List (List Key × V)) (l : List (κ × α)) : Prop := All2 (fun p q => p.1 = Kt.key q.1 ∧ rep G H p.2 q.2) kvs l
theorem repk_mono [Ky κ] {G : Gb} {H H' : Hp} {kvs : List (Key × V)} {l : List (κ × α)} (s : Same H H') (h : repk G H kvs l) : repk G H' kvs l := h.imp fun _ _ q => ⟨q.1, Rp.mono s q.2⟩
theorem rept_mono [Kt κ] {G : Gb} {H H' : Hp} {kvs : List (List Key × V)} {l : List (κ × α)} (s : Same H H') (h : rept G H kvs l) : rept G H' kvs l := h.imp fun _ _ q => ⟨q.1, Rp.mono s q.2⟩
theorem rd_mono {H H' : Hp} {p : Addr} {o : HO} (s : Same H H') (h : Rd H p o) : Rd H' p o := by
  rcases h with h | ⟨u, h⟩
  · exact .inl (s _ _ h)
  · exact .inr ⟨u, s _ _ h⟩
instance [Ky κ] : Rp (Dk κ α) where
  rep G H x a := ∃ p kvs, x = .ref p ∧ Rd H p (.dK kvs) ∧ repk G H kvs a.l
  mono := fun s ⟨p, vs, e, h, h1⟩ => ⟨p, vs, e, rd_mono s h, repk_mono s h1⟩
instance [Kt κ] : Rp (Dt κ α) where
  rep G H x a := ∃ p kvs, x = .ref p ∧ Rd H p (.dT kvs) ∧ rept G H kvs a.l
  mono := fun s ⟨p, vs, e, h, h1⟩ => ⟨p, vs, e, rd_mono s h, rept_mono s h1⟩
instance [Ky κ] : Rc (Dk κ α) where
  con G H o a := ∃ kvs, o = .dK kvs ∧ repk G H kvs a.l
  mono := fun s ⟨vs, e, h⟩ => ⟨vs, e, repk_mono s h⟩
  fz := fun h ⟨vs, e, q⟩ => ⟨_, vs, rfl, .inl (by rw [h, e]), q⟩
instance [Kt κ] : Rc (Dt κ α) where
  con G H o a := ∃ kvs, o = .dT kvs ∧ rept G H kvs a.l
  mono := fun s ⟨vs, e, h⟩ => ⟨vs, e, rept_mono s h⟩
  fz := fun h ⟨vs, e, q⟩ => ⟨_, vs, rfl, .inl (by rw [h, e]), q⟩
end
structure RC where
  p : Addr
  l : Addr
  n : Str
  ts : List Str
def RC.r (c : RC) : Str × List Str := (c.n, c.ts)
structure Rows (H : Hp) (a : Addr) (cs : List RC) : Prop where
  top : H a = some (.lst (cs.map fun c => V.ref c.p))
  tp : ∀ c ∈ cs, H c.p = some (.tup [.str c.n, .ref c.l])
  ls : ∀ c ∈ cs, H c.l = some (.lst (c.ts.map V.str))
  nl : (cs.map RC.l).Nodup
  ne : ∀ c ∈ cs, c.l ≠ a
theorem Rows.inj {H : Hp} {a : Addr} {cs ds : List RC} (h : Rows H a cs) (k : Rows H a ds) : cs = ds := by
  have e : cs.map (fun c => V.ref c.p) = ds.map fun c => V.ref c.p := by
    have := h.top.symm.trans k.top
    injection this with this
    injection this
  refine List.ext_getElem? fun i => ?_
  have ei := congrArg (fun l : List V => l[i]?) e
  simp only [List.getElem?_map] at ei
  cases ec : cs[i]? with
  | none =>
    rw [ec] at ei
    cases ed : ds[i]? with
    | none => rfl
    | some d => rw [ed] at ei; cases ei
  | some c =>
    rw [ec] at ei
    cases ed : ds[i]? with
    | none => rw [ed] at ei; cases ei
    | some d =>
      rw [ed] at ei
      have hp : c.p = d.p := by
        have := Option.some.inj ei
        injection this
      have hc := List.mem_of_getElem? ec
      have hd := List.mem_of_getElem? ed
      have ht := h.tp c hc
      rw [hp, k.tp d hd] at ht
      injection ht with ht
      injection ht with ht
      injection ht with h1 ht
      injection ht with h2 _
      injection h1 with h1
      injection h2 with h2
      have hl := h.ls c hc
      rw [← h2, k.ls d hd] at hl
      injection hl with hl
      injection hl with hl
      have h3 : d.ts = c.ts := List.map_inj_right (fun _ _ z => V.str.inj z) |>.mp hl
      obtain ⟨p, l, n, ts⟩ := c
      obtain ⟨p', l', n', ts'⟩ := d
      simp only at hp h1 h2 h3
      rw [hp, h1, h2, h3]
def FpR (p : Addr) (cs : List RC) (b : Addr) : Prop := b = p ∨ ∃ c ∈ cs, b = c.p ∨ b = c.l
theorem Rows.keep {H H' : Hp} {a : Addr} {cs : List RC} (h : Rows H a cs) (k : ∀ b o, FpR a cs b → H b = some o → H' b = some o) : Rows H' a cs :=
  ⟨k _ _ (.inl rfl) h.top, fun c hc => k _ _ (.inr ⟨c, hc, .inl rfl⟩) (h.tp c hc), fun c hc => k _ _ (.inr ⟨c, hc, .inr rfl⟩) (h.ls c hc), h.nl, h.ne⟩
theorem Rows.there {H : Hp} {a : Addr} {cs : List RC} (h : Rows H a cs) {b : Addr} (f : FpR a cs b) : ∃ o, H b = some o := by
  rcases f with rfl | ⟨c, hc, rfl | rfl⟩
  · exact ⟨_, h.top⟩
  · exact ⟨_, h.tp c hc⟩
  · exact ⟨_, h.ls c hc⟩
/-- a dict of lists of one's own -/
def DictL (H : Hp) (p : Addr) (es : List (Key × Addr)) : Prop := H p = some (.dK (es.map fun e => (e.1, V.ref e.2)))
theorem DictL.inj {H : Hp} {p : Addr} {es fs : List (Key × Addr)} (h : DictL H p es) (k : DictL H p fs) : es = fs := by
  have e : es.map (fun e => (e.1, V.ref e.2)) = fs.map fun e => (e.1, V.ref e.2) := by
    have := (show H p = _ from h).symm.trans k
    injection this with this
    injection this
  refine List.map_inj_right (fun a b z => ?_) |>.mp e
  obtain ⟨a1, a2⟩ := a
  obtain ⟨b1, b2⟩ := b
  injection z with z1 z2
  injection z2 with z2
  exact Prod.ext z1 z2
def FpD (p : Addr) (es : List (Key × Addr)) (b : Addr) : Prop := b = p ∨ ∃ e ∈ es, b = e.2
structure DlOk {κ α : Type} [Rp κ] [DecidableEq κ] [Ky κ] [Rp α] (G : Gb) (F H : Hp) (p : Addr) (es : List (Key × Addr)) (d : List (κ × List α)) : Prop where
  top : DictL H p es
  all : All2 (fun (e : Key × Addr) (q : κ × List α) => e.1 = Ky.key q.1 ∧ ∃ vs, H e.2 = some (.lst vs) ∧ reps G F vs q.2) es d
  nl : (es.map (·.2)).Nodup
  ne : ∀ e ∈ es, e.2 ≠ p
theorem All2.mem {α : Type u} {β : Type v} {R : α → β → Prop} {l : List α} {m : List β} {a : α} (h : All2 R l m) (ha : a ∈ l) : ∃ b, b ∈ m ∧ R a b := by
  obtain ⟨i, hi⟩ := List.mem_iff_getElem?.mp ha
  obtain ⟨b, hb, r⟩ := h.get hi
  exact ⟨b, List.mem_of_getElem? hb, r⟩
theorem All2.impm {α : Type u} {β : Type v} {R S : α → β → Prop} {l : List α} {m : List β} (h : All2 R l m) (f : ∀ a b, a ∈ l → R a b → S a b) : All2 S l m := by
  induction h with
  | nil => exact .nil
  | cons r t ih => exact .cons (f _ _ List.mem_cons_self r) (ih fun a b ha => f a b (List.mem_cons_of_mem _ ha))
theorem DlOk.there {κ α : Type} [Rp κ] [DecidableEq κ] [Ky κ] [Rp α] {G : Gb} {F H : Hp} {p : Addr} {es : List (Key × Addr)} {d : List (κ × List α)} (h : DlOk G F H p es d) {b : Addr} (f : FpD p es b) : ∃ o, H b = some o := by
  rcases f with rfl | ⟨e, he, rfl⟩
  · exact ⟨_, h.top⟩
  · obtain ⟨q, _, _, vs, hv, _⟩ := h.all.mem he
    exact ⟨_, hv⟩
theorem DlOk.keep {κ α : Type} [Rp κ] [DecidableEq κ] [Ky κ] [Rp α] {G : Gb} {F F' H H' : Hp} {p : Addr} {es : List (Key × Addr)} {d : List (κ × List α)} (h : DlOk G F H p es d) (hf : Same F F') (k : ∀ b o, FpD p es b → H b = some o → H' b = some o) : DlOk G F' H' p es d :=
  ⟨k _ _ (.inl rfl) h.top, h.all.impm fun e q he ⟨r1, vs, r2, r3⟩ => ⟨r1, vs, k _ _ (.inr ⟨e, he, rfl⟩) r2, reps_mono hf r3⟩, h.nl, h.ne⟩
abbrev RowsT := List (Str × List Str)
theorem Rows.rep {G : Gb} {H : Hp} {a : Addr} {cs : List RC} (h : Rows H a cs) : rep G H (.ref a) (cs.map RC.r) := by
  refine ⟨a, _, rfl, h.top, ?_⟩
  have : ∀ ds : List RC, (∀ c ∈ ds, c ∈ cs) → reps G H (ds.map fun c => V.ref c.p) (ds.map RC.r) := by
    intro ds
    induction ds with
    | nil => exact fun _ => .nil
    | cons d r ih => exact fun k => .cons ⟨d.p, _, _, rfl, h.tp d (k d List.mem_cons_self), rfl, ⟨d.l, _, rfl, h.ls d (k d List.mem_cons_self), .of_map (R := Tw.rep G H) (f := V.str) (fun _ => rfl) _⟩⟩ (ih fun c hc => k c (List.mem_cons_of_mem _ hc))
  exact this cs fun c hc => hc
/-- a thing that may be changed, of any kind -/
structure Fx : Type 1 where
  {α : Type}
  [i : Rp α]
  [j : Rc α]
  a : α
/-- .. and where it stands -/
abbrev Fd := Addr × Fx
def FdOk (G : Gb) (B F H : Hp) (d : Fd) : Prop := B d.1 = none ∧ F d.1 = none ∧ ∃ o, H d.1 = some o ∧ @Rc.con _ d.2.i d.2.j G F o d.2.a
abbrev insF (ns : List Str) (fl : List Fd) : List (Str × V) := ns.zip (fl.map fun d => V.ref d.1)
/-- things of one's own by their shape: what they own is told by the heap -/
class Sh (α : Type) where
  fp : Hp → V → List Addr
  ok : Gb → Hp → Hp → V → α → Prop
  there : ∀ {G : Gb} {F H : Hp} {v : V} {a : α} {b : Addr}, ok G F H v a → b ∈ fp H v → ∃ o, H b = some o
  keep : ∀ {G : Gb} {F F' H H' : Hp} {v : V} {a : α}, ok G F H v a → Same F F' → (∀ b o, b ∈ fp H v → H b = some o → H' b = some o) → ok G F' H' v a ∧ fp H' v = fp H v
inductive Slot : Type 1 where
  /-- frozen; borrowed; owned; owned and locked; rows that are owned down to their lists -/
  | fz {α : Type} [Rp α] (a : α)
  | bw {α : Type} [Rp α] (a : α)
  | ow {α : Type} [Rp α] [Rc α] (a : α)
  | lk {α : Type} [Rp α] [Rc α] (p : Addr) (ob : Obj) (u : HO) (a : α)
  | dr (p : Addr) (a : RowsT)
  | dd {κ α : Type} [Rp κ] [DecidableEq κ] [Ky κ] [Rp α] (p : Addr) (d : List (κ × List α))
  /-- an instance that is being made: its fields hold things of its own -/
  | ins (p C dx : Addr) (ns : List Str) (fl : List Fd)
  /-- a thing whose changeable parts are all one's own -/
  | rg {α : Type} [Rp α] (Fr : Hp) (a : α)
  /-- a part of such a thing -/
  | al {α : Type} [Rp α] (Fr : Hp) (a : α)
  /-- a thing of one's own by its shape; a value that is known -/
  | sh {α : Type} [Sh α] (a : α)
  | vl (v : V)
def un (F Fr : Hp) : Hp := fun b => match F b with
  | some o => some o
  | none => Fr b
theorem un_l {F Fr : Hp} {b : Addr} {o : HO} (h : F b = some o) : un F Fr b = some o := by unfold un; rw [h]
theorem un_r {F Fr : Hp} {b : Addr} (h : F b = none) : un F Fr b = Fr b := by unfold un; rw [h]
/-- the tuples -/
def tups (F : Hp) : Hp := fun b => match F b with
  | some (.tup xs) => some (.tup xs)
  | _ => none
theorem tups_of {F : Hp} {b : Addr} {xs : List V} (h : F b = some (.tup xs)) : tups F b = some (.tup xs) := by unfold tups; rw [h]
theorem tups_non {F : Hp} {b : Addr} (h : F b = none) : tups F b = none := by unfold tups; rw [h]
theorem tups_some {F : Hp} {b : Addr} {o : HO} (h : tups F b = some o) : F b = some o ∧ ∃ xs, o = .tup xs := by
  unfold tups at h
  split at h
  · rename_i xs e; cases h; exact ⟨e, xs, rfl⟩
  · cases h
theorem tups_mono {F F' : Hp} (s : Same F F') : Same (tups F) (tups F') := fun b o h => by
  obtain ⟨h1, xs, rfl⟩ := tups_some h
  exact tups_of (s _ _ h1)
abbrev Evr := List (Option Slot)
def SlOk (G : Gb) (B F H : Hp) : Option Slot → Option V → Prop
  | none, _ => True
  | some (@Slot.fz _ i a), x => ∃ v, x = some v ∧ @Rp.rep _ i G F v a
  | some (@Slot.bw _ i a), x => ∃ v, x = some v ∧ @Rp.rep _ i G B v a
  | some (@Slot.ow _ i j a), x => ∃ p o, x = some (.ref p) ∧ B p = none ∧ F p = none ∧ H p = some o ∧ @Rc.con _ i j G F o a
  | some (@Slot.lk _ i j p ob u a), x => x = some (.ref p) ∧ B p = none ∧ F p = none ∧ H p = some (.frz ob u) ∧ @Rc.con _ i j G F u a
  | some (Slot.dr p a), x => ∃ cs, x = some (.ref p) ∧ Rows H p cs ∧ cs.map RC.r = a ∧ ∀ b, FpR p cs b → B b = none ∧ F b = none
  | some (@Slot.dd _ _ i1 i2 i3 i4 p d), x => ∃ es, x = some (.ref p) ∧ DlOk G F H p es d ∧ ∀ b, FpD p es b → B b = none ∧ F b = none
  | some (Slot.ins p C dx ns fl), x => x = some (.ref p) ∧ B p = none ∧ F p = none ∧ H p = some (.ins C dx (insF ns fl)) ∧ (∀ d ∈ fl, FdOk G B F H d) ∧ (p :: fl.map (·.1)).Nodup
  | some (@Slot.rg _ i Fr a), x => ∃ v, x = some v ∧ @Rp.rep _ i G (un (tups F) Fr) v a ∧ Same Fr H ∧ (∀ b, Fr b ≠ none → B b = none ∧ F b = none) ∧ ∀ b xs, Fr b ≠ some (.tup xs)
  | some (@Slot.sh _ i a), x => ∃ v, x = some v ∧ @Sh.ok _ i G F H v a ∧ ∀ b, b ∈ @Sh.fp _ i H v → B b = none ∧ F b = none
  | some (Slot.vl v), x => x = some v
  | some (@Slot.al _ i Fr a), x => ∃ v F1, x = some v ∧ Same F1 F ∧ @Rp.rep _ i G (un (tups F1) Fr) v a
/-- what a slot owns -/
def Fp (H : Hp) : Option Slot → Option V → Addr → Prop
  | some (@Slot.ow _ _ _ _), x, b => x = some (.ref b)
  | some (@Slot.lk _ _ _ _ _ _ _), x, b => x = some (.ref b)
  | some (Slot.dr p _), x, b => ∃ cs, x = some (.ref p) ∧ Rows H p cs ∧ FpR p cs b
  | some (@Slot.dd _ _ _ _ _ _ p _), x, b => ∃ es, x = some (.ref p) ∧ DictL H p es ∧ FpD p es b
  | some (Slot.ins p _ _ _ fl), x, b => x = some (.ref p) ∧ b ∈ p :: fl.map (·.1)
  | some (@Slot.rg _ _ Fr _), _, b => Fr b ≠ none
  | some (@Slot.sh _ i _), x, b => ∃ v, x = some v ∧ b ∈ @Sh.fp _ i H v
  | _, _, _ => False
def isOw : Option Slot → Bool
  | some (@Slot.ow _ _ _ _) => true
  | some (@Slot.lk _ _ _ _ _ _ _) => true
  | some (Slot.dr _ _) => true
  | some (@Slot.dd _ _ _ _ _ _ _ _) => true
  | some (Slot.ins _ _ _ _ _) => true
  | some (@Slot.rg _ _ _ _) => true
  | some (@Slot.sh _ _ _) => true
  | _ => false
theorem Fp.own {H : Hp} {s : Option Slot} {x : Option V} {b : Addr} (h : Fp H s x b) : isOw s = true := by
  cases s with
  | none => cases h
  | some s => cases s <;> first | rfl | cases h
section
variable {G : Gb} {B F F' H H' : Hp} {s : Option Slot} {x : Option V} {b : Addr}
theorem Fp.at (h : SlOk G B F H s x) (f : Fp H s x b) : (∃ o, H b = some o) ∧ B b = none ∧ F b = none := by
  cases s with
  | none => cases f
  | some s =>
    cases s with
    | fz a => cases f
    | bw a => cases f
    | al Fr a => cases f
    | vl v => cases f
    | sh a =>
      obtain ⟨v, e, h1, h2⟩ := h
      obtain ⟨w, e2, f⟩ := f
      rw [e] at e2; cases e2
      exact ⟨Sh.there h1 f, h2 b f⟩
    | ow a => obtain ⟨p, o, e, h1, h2, h3, _⟩ := h; rw [show x = _ from f] at e; cases e; exact ⟨⟨o, h3⟩, h1, h2⟩
    | lk p ob u a => obtain ⟨e, h1, h2, h3, _⟩ := h; rw [show x = _ from f] at e; cases e; exact ⟨⟨_, h3⟩, h1, h2⟩
    | dr p a =>
      obtain ⟨cs, e, h1, _, h3⟩ := h
      obtain ⟨ds, e2, k1, k2⟩ := f
      have := h1.inj k1
      subst this
      exact ⟨h1.there k2, h3 b k2⟩
    | dd p d =>
      obtain ⟨es, e, h1, h3⟩ := h
      obtain ⟨fs, e2, k1, k2⟩ := f
      have := h1.top.inj k1
      subst this
      exact ⟨h1.there k2, h3 b k2⟩
    | ins p C dx ns fl =>
      obtain ⟨e, h1, h2, h3, h4, h5⟩ := h
      obtain ⟨e2, k⟩ := f
      rcases List.mem_cons.mp k with rfl | k
      · exact ⟨⟨_, h3⟩, h1, h2⟩
      · obtain ⟨d, hd, rfl⟩ := List.mem_map.mp k
        obtain ⟨q1, q2, o, q3, _⟩ := h4 d hd
        exact ⟨⟨o, q3⟩, q1, q2⟩
    | rg Fr a =>
      obtain ⟨v, e, h1, h2, h3, _⟩ := h
      cases q : Fr b with
      | none => exact absurd q f
      | some o => exact ⟨⟨o, h2 _ _ q⟩, h3 b f⟩
theorem Fp.lift (h : SlOk G B F H s x) (k : ∀ b o, Fp H s x b → H b = some o → H' b = some o) (f : Fp H' s x b) : Fp H s x b := by
  cases s with
  | none => cases f
  | some s =>
    cases s with
    | fz a => cases f
    | bw a => cases f
    | al Fr a => cases f
    | vl v => cases f
    | sh a =>
      obtain ⟨v, e, h1, h2⟩ := h
      obtain ⟨w, e2, f⟩ := f
      rw [e] at e2; cases e2
      rw [(Sh.keep h1 (.refl _) fun b o z => k b o ⟨v, e, z⟩).2] at f
      exact ⟨v, e, f⟩
    | ow a => exact f
    | lk p ob u a => exact f
    | dr p a =>
      obtain ⟨cs, e, h1, _, _⟩ := h
      obtain ⟨ds, e2, k1, k2⟩ := f
      have := (h1.keep (H' := H') fun b o f2 => k b o ⟨cs, e, h1, f2⟩).inj k1
      subst this
      exact ⟨cs, e, h1, k2⟩
    | dd p d =>
      obtain ⟨es, e, h1, _⟩ := h
      obtain ⟨fs, e2, k1, k2⟩ := f
      have := (show DictL H' p es from k p _ ⟨es, e, h1.top, .inl rfl⟩ h1.top).inj k1
      subst this
      exact ⟨es, e, h1.top, k2⟩
    | ins p C dx ns fl => exact f
    | rg Fr a => exact f
theorem SlOk.frame (h : SlOk G B F H s x) (hf : Same F F') (k : ∀ b o, Fp H s x b → H b = some o → H' b = some o) (n : ∀ b, Fp H s x b → F' b = none) : SlOk G B F' H' s x := by
  cases s with
  | none => exact trivial
  | some s =>
    cases s with
    | fz a => obtain ⟨v, e1, e2⟩ := h; exact ⟨v, e1, Rp.mono hf e2⟩
    | bw a => exact h
    | al Fr a => obtain ⟨v, F1, e1, e2, e3⟩ := h; exact ⟨v, F1, e1, e2.trans hf, e3⟩
    | vl v => exact h
    | sh a =>
      obtain ⟨v, e, h1, h2⟩ := h
      obtain ⟨q1, q2⟩ := Sh.keep h1 hf fun b o z => k b o ⟨v, e, z⟩
      exact ⟨v, e, q1, fun b z => by rw [q2] at z; exact ⟨(h2 b z).1, n b ⟨v, e, z⟩⟩⟩
    | ow a => obtain ⟨p, o, e1, e2, e3, e4, e5⟩ := h; exact ⟨p, o, e1, e2, n p e1, k p o e1 e4, Rc.mono hf e5⟩
    | lk p ob u a => obtain ⟨e1, e2, e3, e4, e5⟩ := h; exact ⟨e1, e2, n p e1, k p _ e1 e4, Rc.mono hf e5⟩
    | dr p a =>
      obtain ⟨cs, e, h1, h2, h3⟩ := h
      exact ⟨cs, e, h1.keep fun b o f => k b o ⟨cs, e, h1, f⟩, h2, fun b f => ⟨(h3 b f).1, n b ⟨cs, e, h1, f⟩⟩⟩
    | dd p d =>
      obtain ⟨es, e, h1, h3⟩ := h
      exact ⟨es, e, h1.keep hf fun b o f => k b o ⟨es, e, h1.top, f⟩, fun b f => ⟨(h3 b f).1, n b ⟨es, e, h1.top, f⟩⟩⟩
    | ins p C dx ns fl =>
      obtain ⟨e, h1, h2, h3, h4, h5⟩ := h
      refine ⟨e, h1, n p ⟨e, List.mem_cons_self⟩, k p _ ⟨e, List.mem_cons_self⟩ h3, fun d hd => ?_, h5⟩
      obtain ⟨q1, q2, o, q3, q4⟩ := h4 d hd
      have hm : d.1 ∈ p :: fl.map (·.1) := List.mem_cons_of_mem _ (List.mem_map.mpr ⟨d, hd, rfl⟩)
      exact ⟨q1, n _ ⟨e, hm⟩, o, k _ _ ⟨e, hm⟩ q3, @Rc.mono _ d.2.i d.2.j _ _ _ _ _ hf q4⟩
    | rg Fr a =>
      obtain ⟨v, e, h1, h2, h3, h4⟩ := h
      refine ⟨v, e, Rp.mono (fun b o z => ?_) h1, fun b o z => k b o (by show Fr b ≠ none; rw [z]; exact fun w => nomatch w) (h2 _ _ z), fun b z => ⟨(h3 b z).1, n b z⟩, h4⟩
      cases q : tups F b with
      | some u => rw [un_l q] at z; exact un_l (tups_mono hf _ _ (by rw [q]; exact z))
      | none =>
        rw [un_r q] at z
        rw [un_r (tups_non (n b (by show Fr b ≠ none; rw [z]; exact fun w => nomatch w)))]
        exact z
end
structure Rel (G : Gb) (B F0 F : Hp) (ρ : Evr) (σ : L2.St) (H : Hp) : Prop where
  sB : Same B H
  sF : Same F H
  s0 : Same F0 F
  nw : ∀ a, F0 a = none → F a ≠ none → B a = none
  len : ρ.length = σ.length
  sl : ∀ (i : Nat) (s : Option Slot) (x : Option V), ρ[i]? = some s → σ[i]? = some x → SlOk G B F H s x
  ds : ∀ (i j : Nat) (s t : Option Slot) (x y : Option V) (b : Addr), ρ[i]? = some s → σ[i]? = some x → ρ[j]? = some t → σ[j]? = some y → Fp H s x b → Fp H t y b → i = j
/-- heaps grow: what is newly frozen is new -/
structure Ext (F H F' H' : Hp) : Prop where
  f : Same F F'
  h : Same H H'
  n : ∀ a, F a = none → F' a ≠ none → H a = none
theorem Ext.refl (F H : Hp) : Ext F H F H := ⟨.refl _, .refl _, fun a h q => absurd h q⟩
theorem Ext.trans {F H F1 H1 F2 H2 : Hp} (a : Ext F H F1 H1) (b : Ext F1 H1 F2 H2) : Ext F H F2 H2 := ⟨a.f.trans b.f, a.h.trans b.h, fun x h q => by
  cases e : F1 x with
  | none => exact a.h.free (b.n x e q)
  | some o => exact a.n x h (by rw [e]; exact fun z => nomatch z)⟩
theorem Ext.non {F H F' H' : Hp} (e : Ext F H F' H') {p : Addr} {o : HO} (h : H p = some o) (f : F p = none) : F' p = none := by
  cases q : F' p with
  | none => rfl
  | some u => exact absurd (e.n p f (by rw [q]; exact fun z => nomatch z)) (by rw [h]; exact fun z => nomatch z)
/-- a thing that is made anew and stays unfrozen -/
theorem Ext.new {F H : Hp} {p : Addr} {o : HO} (h : H p = none) : Ext F H F (upd H p o) := ⟨.refl _, same_upd h, fun a e q => absurd e q⟩
/-- a thing that is made anew and frozen -/
theorem Ext.newF {F H : Hp} {p : Addr} {o : HO} (s : Same F H) (h : H p = none) : Ext F H (upd F p o) (upd H p o) := ⟨same_upd (s.free h), same_upd h, fun a e q => by
  by_cases z : a = p
  · rw [z]; exact h
  · rw [upd_ne z] at q; exact absurd e q⟩
theorem same_both {F H : Hp} {p : Addr} {o : HO} (s : Same F H) : Same (upd F p o) (upd H p o) := fun a u e => by
  by_cases z : a = p
  · subst z; rw [upd_same] at e ⊢; exact e
  · rw [upd_ne z] at e ⊢; exact s _ _ e
theorem same_updR {F H : Hp} {p : Addr} {o : HO} (s : Same F H) (f : F p = none) : Same F (upd H p o) := fun a u e => by
  rw [upd_ne (fun z => by rw [z, f] at e; cases e)]; exact s _ _ e
theorem set_at {α : Type u} {l : List α} {i j : Nat} {x y : α} (h : (l.set i x)[j]? = some y) : (i = j ∧ y = x ∧ ∃ z, l[i]? = some z) ∨ (i ≠ j ∧ l[j]? = some y) := by
  by_cases e : i = j
  · subst e
    rw [List.getElem?_set_self'] at h
    cases q : l[i]? with
    | none => rw [q] at h; cases h
    | some z => rw [q] at h; cases h; exact .inl ⟨rfl, rfl, z, rfl⟩
  · rw [List.getElem?_set_ne e] at h
    exact .inr ⟨e, h⟩
section
variable {G : Gb} {B F0 F F' H H' : Hp} {ρ : Evr} {σ : L2.St}
theorem Rel.ext (R : Rel G B F0 F ρ σ H) (e : Ext F H F' H') (s : Same F' H') : Rel G B F0 F' ρ σ H' where
  sB := R.sB.trans e.h
  sF := s
  s0 := R.s0.trans e.f
  nw := fun a h q => by
    cases z : F a with
    | none => exact R.sB.free (e.n a z q)
    | some o => exact R.nw a h (by rw [z]; exact fun z => nomatch z)
  len := R.len
  sl := fun i s x hs hx => (R.sl i s x hs hx).frame e.f (fun b o _ z => e.h _ _ z) fun b f => by
    obtain ⟨⟨o, h1⟩, _, h3⟩ := Fp.at (R.sl i s x hs hx) f
    exact e.non h1 h3
  ds := fun i j s t x y b hi hx hj hy f g => R.ds i j s t x y b hi hx hj hy (Fp.lift (R.sl i s x hi hx) (fun _ _ _ z => e.h _ _ z) f) (Fp.lift (R.sl j t y hj hy) (fun _ _ _ z => e.h _ _ z) g)
theorem Rel.base (R : Rel G B F0 F ρ σ H) : Rel G B F F ρ σ H := ⟨R.sB, R.sF, .refl _, fun a h q => absurd h q, R.len, R.sl, R.ds⟩
theorem Rel.under {F1 : Hp} {ρ' : Evr} {σ' : L2.St} (R : Rel G B F0 F ρ σ H) (R' : Rel G B F F1 ρ' σ' H') : Rel G B F0 F1 ρ' σ' H' := ⟨R'.sB, R'.sF, R.s0.trans R'.s0, fun a h q => by
  cases z : F a with
  | none => exact R'.nw a z q
  | some o => exact R.nw a h (by rw [z]; exact fun z => nomatch z), R'.len, R'.sl, R'.ds⟩
/-- the slot i is set anew: what it owns is owned by no other -/
theorem Rel.setv {i : Nat} {s : Option Slot} {v : Option V} (R : Rel G B F0 F ρ σ H) (h : SlOk G B F H s v) (hn : ∀ b, Fp H s v b → ∀ (j : Nat) (t : Option Slot) (y : Option V), j ≠ i → ρ[j]? = some t → σ[j]? = some y → ¬ Fp H t y b) : Rel G B F0 F (ρ.set i s) (σ.set i v) H where
  sB := R.sB
  sF := R.sF
  s0 := R.s0
  nw := R.nw
  len := by rw [List.length_set, List.length_set]; exact R.len
  sl := fun j t x hs hx => by
    rcases set_at hs with ⟨rfl, rfl, _⟩ | ⟨e, hs⟩
    · rcases set_at hx with ⟨_, rfl, _⟩ | ⟨e, _⟩
      · exact h
      · exact absurd rfl e
    · rcases set_at hx with ⟨e2, _⟩ | ⟨_, hx⟩
      · exact absurd e2 e
      · exact R.sl j t x hs hx
  ds := fun j k t u x y b hj hx hk hy f g => by
    rcases set_at hj with ⟨rfl, rfl, _⟩ | ⟨e, hj'⟩
    · rcases set_at hx with ⟨_, rfl, _⟩ | ⟨e, _⟩
      · rcases set_at hk with ⟨rfl, _⟩ | ⟨e2, hk⟩
        · rfl
        · rcases set_at hy with ⟨e3, _⟩ | ⟨_, hy⟩
          · exact absurd e3 e2
          · exact absurd g (hn b f k u y (Ne.symm e2) hk hy)
      · exact absurd rfl e
    · rcases set_at hx with ⟨e2, _⟩ | ⟨_, hx'⟩
      · exact absurd e2 e
      · rcases set_at hk with ⟨e2, e4, _⟩ | ⟨e2, hk'⟩
        · rcases set_at hy with ⟨_, e5, _⟩ | ⟨e3, _⟩
          · rw [e4, e5] at g
            exact absurd f (hn b g j t x (Ne.symm e) hj' hx')
          · exact absurd e2 e3
        · rcases set_at hy with ⟨e3, _⟩ | ⟨_, hy'⟩
          · exact absurd e3 e2
          · exact R.ds j k t u x y b hj' hx' hk' hy' f g
/-- the slot i gets a frozen or borrowed thing -/
theorem Rel.put {i : Nat} {s : Slot} {v : V} (R : Rel G B F0 F ρ σ H) (h : SlOk G B F H (some s) (some v)) (ho : isOw (some s) = false) : Rel G B F0 F (ρ.set i (some s)) (σ.set i (some v)) H :=
  R.setv h fun b f => by rw [f.own] at ho; cases ho
/-- what is new is owned by no slot -/
theorem Rel.fresh {p : Addr} (R : Rel G B F0 F ρ σ H) (h : H p = none) : ∀ (j : Nat) (s : Option Slot) (x : Option V), ρ[j]? = some s → σ[j]? = some x → ¬ Fp H s x p := fun j s x hs hx f => by
  obtain ⟨⟨o, e⟩, _⟩ := Fp.at (R.sl j s x hs hx) f
  rw [h] at e
  cases e
theorem Rel.freshE {p : Addr} (R : Rel G B F0 F ρ σ H) (h : H p = none) (s : Same H H') : ∀ (j : Nat) (t : Option Slot) (y : Option V), ρ[j]? = some t → σ[j]? = some y → ¬ Fp H' t y p := fun j t y hj hy f => R.fresh h j t y hj hy (Fp.lift (R.sl j t y hj hy) (fun _ _ _ z => s _ _ z) f)
/-- a new thing of one's own -/
theorem Rel.own {α : Type} [Rp α] [Rc α] {i : Nat} {a : α} {p : Addr} {o : HO} (R : Rel G B F0 F ρ σ H) (hB : B p = none) (hF : F p = none) (hH : H p = some o) (c : con G F o a) (hn : ∀ (j : Nat) (s : Option Slot) (x : Option V), ρ[j]? = some s → σ[j]? = some x → ¬ Fp H s x p) :
    Rel G B F0 F (ρ.set i (some (.ow a))) (σ.set i (some (.ref p))) H := R.setv ⟨p, o, rfl, hB, hF, hH, c⟩ fun b f j t y _ hj hy g => by
  have e : b = p := by
    have : (some (V.ref p) : Option V) = some (.ref b) := f
    injection this with this
    injection this with this
    exact this.symm
  rw [e] at g
  exact hn j t y hj hy g
/-- the things of slot i are changed; what it owns now is what it owned, or new -/
theorem Rel.mod {i : Nat} {s s' : Option Slot} {x : Option V} (R : Rel G B F0 F ρ σ H) (hi : ρ[i]? = some s) (hx : σ[i]? = some x) (hk : ∀ b o, ¬ Fp H s x b → H b = some o → H' b = some o) (c : SlOk G B F H' s' x) (hf : ∀ b, Fp H' s' x b → Fp H s x b ∨ ∀ (j : Nat) (t : Option Slot) (y : Option V), ρ[j]? = some t → σ[j]? = some y → ¬ Fp H t y b) :
    Rel G B F0 F (ρ.set i s') σ H' := by
  have sb : ∀ {b : Addr}, Fp H s x b → (∃ o, H b = some o) ∧ B b = none ∧ F b = none := fun f => Fp.at (R.sl i s x hi hx) f
  have same : ∀ {A : Hp}, (∀ b, Fp H s x b → A b = none) → Same A H → Same A H' := fun ha sa b o e => hk b o (fun f => by rw [ha b f] at e; cases e) (sa _ _ e)
  have hoth : ∀ (j : Nat) (t : Option Slot) (y : Option V), i ≠ j → ρ[j]? = some t → σ[j]? = some y → ∀ b o, Fp H t y b → H b = some o → H' b = some o := fun j t y ne hj hy b o f e => hk b o (fun g => ne (R.ds i j s t x y b hi hx hj hy g f)) e
  refine ⟨same (fun b f => (sb f).2.1) R.sB, same (fun b f => (sb f).2.2) R.sF, R.s0, R.nw, by rw [List.length_set]; exact R.len, fun j t y hj hy => ?_, fun j k t u y z b hj hy hk2 hz f g => ?_⟩
  · rcases set_at hj with ⟨rfl, rfl, _⟩ | ⟨ne, hj⟩
    · rw [hx] at hy
      cases hy
      exact c
    · exact (R.sl j t y hj hy).frame (.refl _) (hoth j t y ne hj hy) fun b f => (Fp.at (R.sl j t y hj hy) f).2.2
  · have key : ∀ (k : Nat) (u : Option Slot) (z : Option V), i ≠ k → ρ[k]? = some u → σ[k]? = some z → Fp H' s' x b → Fp H' u z b → False := fun k u z ne hk2 hz f g => by
      have g' := Fp.lift (R.sl k u z hk2 hz) (hoth k u z ne hk2 hz) g
      rcases hf b f with f' | f'
      · exact ne (R.ds i k s u x z b hi hx hk2 hz f' g')
      · exact f' k u z hk2 hz g'
    rcases set_at hj with ⟨rfl, rfl, _⟩ | ⟨ne, hj⟩
    · rw [hx] at hy
      cases hy
      rcases set_at hk2 with ⟨rfl, _⟩ | ⟨ne2, hk2⟩
      · rfl
      · exact (key k u z ne2 hk2 hz f g).elim
    · rcases set_at hk2 with ⟨e2, e3, _⟩ | ⟨ne2, hk2⟩
      · rw [← e2, hx] at hz
        cases hz
        rw [e3] at g
        exact (key j t y ne hj hy g f).elim
      · exact R.ds j k t u y z b hj hy hk2 hz (Fp.lift (R.sl j t y hj hy) (hoth j t y ne hj hy) f) (Fp.lift (R.sl k u z hk2 hz) (hoth k u z ne2 hk2 hz) g)
/-- the one thing of slot i stands otherwise -/
theorem Rel.shift {i : Nat} {s : Option Slot} {s' : Slot} {p : Addr} {o : HO} (R : Rel G B F0 F ρ σ H) (hi : ρ[i]? = some s) (hs : σ[i]? = some (some (.ref p))) (ho : Fp H s (some (.ref p)) p) (c : SlOk G B F (upd H p o) (some s') (some (.ref p))) (hf : ∀ b, Fp (upd H p o) (some s') (some (.ref p)) b → b = p) :
    Rel G B F0 F (ρ.set i (some s')) σ (upd H p o) :=
  R.mod hi hs (fun b u nf e => by rw [upd_ne (fun z => nf (by rw [z]; exact ho))]; exact e) c fun b f => .inl (by rw [hf b f]; exact ho)
theorem Rel.change {α : Type} [Rp α] [Rc α] {i : Nat} {a : α} {s : Option Slot} {p : Addr} {o : HO} (R : Rel G B F0 F ρ σ H) (hi : ρ[i]? = some s) (ho : Fp H s (some (.ref p)) p) (hs : σ[i]? = some (some (.ref p))) (hB : B p = none) (hF : F p = none) (c : con G F o a) :
    Rel G B F0 F (ρ.set i (some (.ow a))) σ (upd H p o) := R.shift hi hs ho ⟨p, o, rfl, hB, hF, upd_same, c⟩ fun b f => by
  have : (some (V.ref p) : Option V) = some (.ref b) := f
  injection this with this
  injection this with this
  exact this.symm
/-- what is known is forgotten -/
inductive Wk : Evr → Evr → Prop
  | nil : Wk [] []
  | keep {s : Option Slot} {ρ ρ' : Evr} : Wk ρ ρ' → Wk (s :: ρ) (s :: ρ')
  | drop {s : Option Slot} {ρ ρ' : Evr} : Wk ρ ρ' → Wk (s :: ρ) (none :: ρ')
theorem Wk.len : ∀ {ρ ρ' : Evr}, Wk ρ ρ' → ρ.length = ρ'.length
  | _, _, .nil => rfl
  | _, _, .keep h => by rw [List.length_cons, List.length_cons, h.len]
  | _, _, .drop h => by rw [List.length_cons, List.length_cons, h.len]
theorem Wk.at : ∀ {ρ ρ' : Evr} {i : Nat} {s : Option Slot}, Wk ρ ρ' → ρ'[i]? = some s → s = none ∨ ρ[i]? = some s
  | _, _, _, _, .nil, e => by simp at e
  | _, _, 0, _, .keep _, e => .inr e
  | _, _, 0, _, .drop _, e => by simp at e; exact .inl e.symm
  | _, _, i + 1, s, .keep h, e => h.at (i := i) (s := s) (by simpa using e) |>.imp id fun q => by simpa using q
  | _, _, i + 1, s, .drop h, e => h.at (i := i) (s := s) (by simpa using e) |>.imp id fun q => by simpa using q
theorem Rel.weak {ρ' : Evr} (R : Rel G B F0 F ρ σ H) (w : Wk ρ ρ') : Rel G B F0 F ρ' σ H where
  sB := R.sB
  sF := R.sF
  s0 := R.s0
  nw := R.nw
  len := w.len.symm.trans R.len
  sl := fun i s x hs hx => by
    rcases w.at hs with e | e
    · subst e; exact trivial
    · exact R.sl i s x e hx
  ds := fun i j s t x y b hi hx hj hy f g => by
    rcases w.at hi with e | e
    · subst e; cases f
    · rcases w.at hj with e' | e'
      · subst e'; cases g
      · exact R.ds i j s t x y b e hx e' hy f g
/-- what slot i owns is frozen -/
theorem Rel.freezeG {i : Nat} {s s' : Option Slot} {x : Option V} {F' : Hp} (R : Rel G B F0 F ρ σ H) (hi : ρ[i]? = some s) (hx : σ[i]? = some x) (sf : Same F F') (sh : Same F' H) (hn : ∀ b, F b = none → F' b ≠ none → Fp H s x b) (c : SlOk G B F' H s' x) (ho : isOw s' = false) :
    Rel G B F0 F' (ρ.set i s') σ H := by
  have none : ∀ (j : Nat) (t : Option Slot) (y : Option V), i ≠ j → ρ[j]? = some t → σ[j]? = some y → ∀ b, Fp H t y b → F' b = Option.none := fun j t y ne hj hy b f => by
    cases e : F' b with
    | none => rfl
    | some o => exact absurd (R.ds i j s t x y b hi hx hj hy (hn b (Fp.at (R.sl j t y hj hy) f).2.2 (by rw [e]; exact fun z => nomatch z)) f) ne
  refine ⟨R.sB, sh, R.s0.trans sf, fun a h q => ?_, by rw [List.length_set]; exact R.len, fun j t y hj hy => ?_, fun j k t u y z b hj hy hk hz f g => ?_⟩
  · cases e : F a with
    | none => exact (Fp.at (R.sl i s x hi hx) (hn a e q)).2.1
    | some o => exact R.nw a h (by rw [e]; exact fun z => nomatch z)
  · rcases set_at hj with ⟨rfl, rfl, _⟩ | ⟨ne, hj⟩
    · rw [hx] at hy
      cases hy
      exact c
    · exact (R.sl j t y hj hy).frame sf (fun _ _ _ z => z) (none j t y ne hj hy)
  · rcases set_at hj with ⟨rfl, rfl, _⟩ | ⟨ne, hj⟩
    · rw [f.own] at ho; cases ho
    · rcases set_at hk with ⟨rfl, rfl, _⟩ | ⟨ne2, hk⟩
      · rw [g.own] at ho; cases ho
      · exact R.ds j k t u y z b hj hy hk hz f g
theorem Rel.freeze {α : Type} [Rp α] [Rc α] {i : Nat} {a : α} (R : Rel G B F0 F ρ σ H) (hi : ρ[i]? = some (some (.ow a))) : ∃ F', Rel G B F0 F' (ρ.set i (some (.fz a))) σ H := by
  have hil : i < σ.length := by rw [← R.len]; exact (List.getElem?_eq_some_iff.mp hi).1
  obtain ⟨x, hx⟩ : ∃ x, σ[i]? = some x := ⟨σ[i], List.getElem?_eq_getElem hil⟩
  obtain ⟨p, o, e1, e2, e3, e4, e5⟩ := R.sl i _ x hi hx
  subst e1
  have s1 : Same F (upd F p o) := same_upd e3
  refine ⟨upd F p o, R.freezeG hi hx s1 (fun b u e => ?_) (fun b h q => ?_) ⟨_, rfl, Rc.fz upd_same (Rc.mono s1 e5)⟩ rfl⟩
  · by_cases z : b = p
    · subst z; rw [upd_same] at e; cases e; exact e4
    · rw [upd_ne z] at e; exact R.sF _ _ e
  · by_cases z : b = p
    · rw [z]; exact rfl
    · rw [upd_ne z] at q; exact absurd h q
end
end Tw
set_option Elab.async false
set_option linter.all false
set_option maxRecDepth 100000
set_option maxHeartbeats 4000000
namespace Tw
open PySem PySem.Spec L2
open PyProof.Rows hiding St
inductive Md where
  | F | B | H
def hpM : Md → Hp → Hp → Hp → Hp
  | .F, F, _, _ => F
  | .B, _, B, _ => B
  | .H, _, _, H => H
/-- what is wanted where a refusal leaves -/
def Xc (G : Gb) (B : Hp) (E : XK) (c : Str) : Prop := ∀ H', Same B H' → E (.ref (G.cl c)) none H'
section
variable (G : Gb) (B : Hp) (E : XK) {α : Type} [Rp α]
def Ev (md : Md) (ρ : Evr) (te : TE) (m : M α) : Prop := ∀ (F0 F : Hp) (σ : L2.St) (H : Hp) (Q : VK), Rel G B F0 F ρ σ H →
  m.P (fun a => ∀ (F' : Hp) (v : V) (H' : Hp), Ext F H F' H' → Same F' H' → rep G (hpM md F' B H') v a → Q v H') (Xc G B E) → te σ H Q
/-- a new thing -/
def EvN [Rc α] (ρ : Evr) (te : TE) (m : M α) : Prop := ∀ (F0 F : Hp) (σ : L2.St) (H : Hp) (Q : VK), Rel G B F0 F ρ σ H →
  m.P (fun a => ∀ (F' : Hp) (p : Addr) (o : HO) (H' : Hp), Ext F H F' H' → Same F' H' → H p = none → F' p = none → H' p = some o → con G F' o a → Q (.ref p) H') (Xc G B E) → te σ H Q
def EvT (ρ : Evr) (tt : TT) (m : M Bool) : Prop := ∀ (F0 F : Hp) (σ : L2.St) (H : Hp) (Q : Bool → Hp → Prop), Rel G B F0 F ρ σ H →
  m.P (fun a => ∀ (F' H' : Hp), Ext F H F' H' → Same F' H' → Q a H') (Xc G B E) → tt σ H Q
end
section
variable {G : Gb} {B : Hp} {E : XK} {ρ : Evr} {α β γ δ : Type} [Rp α] [Rp β] [Rp γ] [Rp δ] {md md' : Md}
theorem hpM_H {F H : Hp} (R : Same B H) (s : Same F H) : Same (hpM md F B H) H := by
  cases md with
  | F => exact s
  | B => exact R
  | H => exact .refl _
theorem hpM_ext {F H F' H' : Hp} (e : Ext F H F' H') : Same (hpM md F B H) (hpM md F' B H') := by
  cases md with
  | F => exact e.f
  | B => exact .refl _
  | H => exact e.h
theorem Ev.toH {te : TE} {m : M α} (h : Ev G B E md ρ te m) : Ev G B E .H ρ te m := fun F0 F σ H Q R q =>
  h F0 F σ H Q R (q.imp (fun a k F' v H' e s r => k F' v H' e s (Rp.mono (hpM_H (R.sB.trans e.h) s) r)) fun _ x => x)
theorem Ev.sc [Sc α] {te : TE} {m : M α} (h : Ev G B E md ρ te m) : Ev G B E md' ρ te m := fun F0 F σ H Q R q =>
  h F0 F σ H Q R (q.imp (fun a k F' v H' e s r => k F' v H' e s ((Sc.iff _ _ _ _).mpr ((Sc.iff _ _ _ _).mp r))) fun _ x => x)
theorem EvN.F [Rc α] {te : TE} {m : M α} (h : EvN G B E ρ te m) : Ev G B E .F ρ te m := fun F0 F σ H Q R q =>
  h F0 F σ H Q R (q.imp (fun a k F' p o H' e s hp fp hp' c => k (upd F' p o) (.ref p) H' ⟨e.f.trans (same_upd fp), e.h, fun b hb q => by
    by_cases z : b = p
    · rw [z]; exact hp
    · rw [upd_ne z] at q; exact e.n b hb q⟩ (fun b u z => by
    by_cases w : b = p
    · subst w; rw [upd_same] at z; cases z; exact hp'
    · rw [upd_ne w] at z; exact s _ _ z) (Rc.fz upd_same (Rc.mono (same_upd fp) c))) fun _ x => x)
theorem EvN.H [Rc α] {te : TE} {m : M α} (h : EvN G B E ρ te m) : Ev G B E .H ρ te m := fun F0 F σ H Q R q =>
  h F0 F σ H Q R (q.imp (fun a k F' p o H' e s hp fp hp' c => k F' (.ref p) H' e s (Rc.fz hp' (Rc.mono s c))) fun _ x => x)
theorem Ev.go {ω : Type} {te : TE} {m : M α} {k : α → M ω} {p : ω → Prop} {F0 F : Hp} {σ : L2.St} {H : Hp} {Q : VK} (h : Ev G B E md ρ te m) (R : Rel G B F0 F ρ σ H) (q : (m.b k).P p (Xc G B E))
    (f : ∀ (a : α) (F' : Hp) (v : V) (H' : Hp), Ext F H F' H' → rep G (hpM md F' B H') v a → Rel G B F0 F' ρ σ H' → (k a).P p (Xc G B E) → Q v H') : te σ H Q :=
  h F0 F σ H Q R ((M.P_b.mp q).imp (fun a k F' v H' e s r => f a F' v H' e r (R.ext e s) k) fun _ x => x)
theorem EvN.go {ω : Type} [Rc α] {te : TE} {m : M α} {k : α → M ω} {p : ω → Prop} {F0 F : Hp} {σ : L2.St} {H : Hp} {Q : VK} (h : EvN G B E ρ te m) (R : Rel G B F0 F ρ σ H) (q : (m.b k).P p (Xc G B E))
    (f : ∀ (a : α) (F' : Hp) (d : Addr) (o : HO) (H' : Hp), Ext F H F' H' → H d = none → F' d = none → H' d = some o → con G F' o a → Rel G B F0 F' ρ σ H' → (k a).P p (Xc G B E) → Q (.ref d) H') : te σ H Q :=
  h F0 F σ H Q R ((M.P_b.mp q).imp (fun a k F' d o H' e s h1 h2 h3 h4 => f a F' d o H' e h1 h2 h3 h4 (R.ext e s) k) fun _ x => x)
theorem EvT.go {ω : Type} {tt : TT} {m : M Bool} {k : Bool → M ω} {p : ω → Prop} {F0 F : Hp} {σ : L2.St} {H : Hp} {Q : Bool → Hp → Prop} (h : EvT G B E ρ tt m) (R : Rel G B F0 F ρ σ H) (q : (m.b k).P p (Xc G B E))
    (f : ∀ (a : Bool) (F' H' : Hp), Ext F H F' H' → Rel G B F0 F' ρ σ H' → (k a).P p (Xc G B E) → Q a H') : tt σ H Q :=
  h F0 F σ H Q R ((M.P_b.mp q).imp (fun a k F' H' e s => f a F' H' e (R.ext e s) k) fun _ x => x)
theorem Rel.at {F0 F : Hp} {σ : L2.St} {H : Hp} {i : Nat} {s : Slot} (R : Rel G B F0 F ρ σ H) (h : ρ[i]? = some (some s)) : ∃ x, σ[i]? = some x ∧ SlOk G B F H (some s) x := by
  have hi : i < σ.length := by rw [← R.len]; exact (List.getElem?_eq_some_iff.mp h).1
  exact ⟨σ[i], List.getElem?_eq_getElem hi, R.sl i _ _ h (List.getElem?_eq_getElem hi)⟩
theorem ev_fz {i : Nat} {a : α} (h : ρ[i]? = some (some (.fz a))) : Ev G B E .F ρ (tVar i) (.ok a) := fun F0 F σ H Q R q => by
  obtain ⟨x, e, v, rfl, r⟩ := R.at h
  exact ⟨v, e, q F v H (.refl _ _) R.sF r⟩
theorem ev_bw {i : Nat} {a : α} (h : ρ[i]? = some (some (.bw a))) : Ev G B E .B ρ (tVar i) (.ok a) := fun F0 F σ H Q R q => by
  obtain ⟨x, e, v, rfl, r⟩ := R.at h
  exact ⟨v, e, q F v H (.refl _ _) R.sF r⟩
theorem ev_ow [Rc α] {i : Nat} {a : α} (h : ρ[i]? = some (some (.ow a))) : Ev G B E .H ρ (tVar i) (.ok a) := fun F0 F σ H Q R q => by
  obtain ⟨x, e, p, o, rfl, _, _, h4, h5⟩ := R.at h
  exact ⟨_, e, q F _ H (.refl _ _) R.sF (Rc.fz h4 (Rc.mono R.sF h5))⟩
theorem ev_int {i : Int} : Ev G B E md ρ (tC (.int i)) (.ok i) := fun F0 F σ H Q R q => q F _ H (.refl _ _) R.sF rfl
theorem ev_bl {i : Bool} : Ev G B E md ρ (tC (.bl i)) (.ok i) := fun F0 F σ H Q R q => q F _ H (.refl _ _) R.sF rfl
theorem ev_str {i : Str} : Ev G B E md ρ (tC (.str i)) (.ok i) := fun F0 F σ H Q R q => q F _ H (.refl _ _) R.sF rfl
theorem ev_nonO : Ev G B E md ρ (tC .non) (.ok (none : Option α)) := fun F0 F σ H Q R q => q F _ H (.refl _ _) R.sF rfl
/-- a thing where None might stand -/
class NoN (α : Type) [Rp α] : Prop where
  no : ∀ {G : Gb} {H : Hp} {v : V} {a : α}, rep G H v a → v ≠ .non
instance : NoN Int := ⟨fun h e => by rw [show _ = _ from h] at e; cases e⟩
instance : NoN Str := ⟨fun h e => by rw [show _ = _ from h] at e; cases e⟩
instance : NoN Bool := ⟨fun h e => by rw [show _ = _ from h] at e; cases e⟩
instance : NoN (List α) := ⟨fun ⟨p, vs, e, _⟩ z => by rw [e] at z; cases z⟩
instance : NoN (α × β) := ⟨fun ⟨p, v, w, e, _⟩ z => by rw [e] at z; cases z⟩
theorem Ev.some [NoN α] {te : TE} {m : M α} (h : Ev G B E md ρ te m) : Ev G B E md ρ te (m.b fun a => .ok (some a)) := fun F0 F σ H Q R q =>
  h F0 F σ H Q R ((M.P_b.mp q).imp (fun a k F' v H' e s r => k F' v H' e s ⟨r, NoN.no r⟩) fun _ x => x)
theorem ev_rI0 [Sc β] {f : Int → Int → V} {g : Int → Int → β} (hf : ∀ i j, f i j = Sc.enc (g i j)) {ta tb : TE} {ma mb : M Int} (ha : Ev G B E md ρ ta ma) (hb : Ev G B E md' ρ tb mb) {mr : Md} :
    Ev G B E mr ρ (tOp (rI0 f) ta tb) (ma.b fun i => mb.b fun j => .ok (g i j)) := fun F0 F σ H Q R q =>
  ha.go R q fun i F1 v H1 e1 r1 R1 q => hb.go R1 q fun j F2 w H2 e2 r2 R2 q => ⟨i, j, r1, r2, q F2 _ H2 (e1.trans e2) R2.sF ((Sc.iff _ _ _ _).mpr (hf i j))⟩
theorem ev_rI [Sc β] {C : Int → Int → Prop} {f : Int → Int → V} {g : Int → Int → β} (hf : ∀ i j, f i j = Sc.enc (g i j)) {ta tb : TE} {ma mb : M Int} (ha : Ev G B E md ρ ta ma) (hb : Ev G B E md' ρ tb mb) {mr : Md} :
    Ev G B E mr ρ (tOp (rI C f) ta tb) (ma.b fun i => mb.b fun j => .chk (C i j) (.ok (g i j))) := fun F0 F σ H Q R q =>
  ha.go R q fun i F1 v H1 e1 r1 R1 q => hb.go R1 q fun j F2 w H2 e2 r2 R2 q => by
    obtain ⟨c, q⟩ := M.P_chk.mp q
    exact ⟨i, j, r1, r2, c, q F2 _ H2 (e1.trans e2) R2.sF ((Sc.iff _ _ _ _).mpr (hf i j))⟩
section
variable {ta tb : TE} {ma mb : M Int} (ha : Ev G B E md ρ ta ma) (hb : Ev G B E md' ρ tb mb) {mr : Md}
include ha hb
theorem ev_add : Ev G B E mr ρ (tOp qAdd ta tb) (ma.b fun i => mb.b fun j => .ok (i + j)) := ev_rI0 (fun _ _ => rfl) ha hb
theorem ev_lt : Ev G B E mr ρ (tOp qLt ta tb) (ma.b fun i => mb.b fun j => .ok (decide (i < j))) := ev_rI0 (fun _ _ => rfl) ha hb
theorem ev_gt : Ev G B E mr ρ (tOp qGt ta tb) (ma.b fun i => mb.b fun j => .ok (decide (j < i))) := ev_rI0 (fun _ _ => rfl) ha hb
theorem ev_mul : Ev G B E mr ρ (tOp qMul ta tb) (ma.b fun i => mb.b fun j => .chk (CMulW i j) (.ok (i * j))) := ev_rI (fun _ _ => rfl) ha hb
theorem ev_div : Ev G B E mr ρ (tOp qDiv ta tb) (ma.b fun i => mb.b fun j => .chk (CDivW i j) (.ok (i / j))) := ev_rI (fun _ _ => rfl) ha hb
theorem ev_mod : Ev G B E mr ρ (tOp qMod ta tb) (ma.b fun i => mb.b fun j => .chk (CPos i j) (.ok (i % j))) := ev_rI (fun _ _ => rfl) ha hb
theorem ev_pow : Ev G B E mr ρ (tOp qPow ta tb) (ma.b fun i => mb.b fun j => .chk (CPow i j) (.ok (i ^ j.toNat))) := ev_rI (fun _ _ => rfl) ha hb
end
end
end Tw
set_option Elab.async false
set_option linter.all false
set_option maxRecDepth 100000
set_option maxHeartbeats 4000000
namespace Tw
open PySem PySem.Spec L2 TL
open PyProof.Rows hiding St
class Dd (α : Type) [Rp α] [DecidableEq α] where
  dat : α → PyData
  dp : ∀ {G : Gb} {H : Hp} {v : V} {a : α}, rep G H v a → Dp G.K H v (dat a)
  eq : ∀ a b : α, PyData.eqv (dat a) (dat b) = decide (a = b)
  Ok : α → Prop
  lay : ∀ {a : α}, Ok a → PyData.canLay0 (dat a) = true
  n : Nat
  dep : ∀ a : α, PyData.depth (dat a) ≤ n
theorem Dd.shaped {α : Type} [Rp α] [DecidableEq α] [Dd α] {a : α} (h : Dd.Ok a) (hn : Dd.n α ≤ 64) : SeqAt.shaped (Dd.dat a) = true := by
  unfold SeqAt.shaped
  rw [Dd.lay h, Bool.true_and]
  exact decide_eq_true (Nat.le_trans (Dd.dep a) hn)
instance : Dd Int := ⟨.int, fun h => by rw [show _ = _ from h]; exact .int _, fun a b => by rw [PyData.eqv]; exact Bool.eq_iff_iff.mpr (by simp), fun _ => True, fun _ => by rw [PyData.canLay0], 0, fun a => by rw [PyData.depth]; exact Nat.le_refl _⟩
instance : Dd Bool := ⟨.bool, fun h => by rw [show _ = _ from h]; exact .bl _, fun a b => by rw [PyData.eqv]; exact Bool.eq_iff_iff.mpr (by simp), fun _ => True, fun _ => by rw [PyData.canLay0], 0, fun a => by rw [PyData.depth]; exact Nat.le_refl _⟩
instance : Dd Str := ⟨.str, fun h => by rw [show _ = _ from h]; exact .str _, fun a b => by rw [PyData.eqv]; exact Bool.eq_iff_iff.mpr (by simp), fun a => PyData.strOk a = true, fun h => by rw [PyData.canLay0]; exact h, 0, fun a => by rw [PyData.depth]; exact Nat.le_refl _⟩
section
variable {α β γ δ : Type} [Rp α] [Rp β] [Rp γ] [Rp δ] [DecidableEq α] [DecidableEq β] [DecidableEq γ] [DecidableEq δ] [Dd α] [Dd β] [Dd γ] [Dd δ]
theorem dd_dpAll {G : Gb} {H : Hp} : ∀ {vs : List V} {as : List α}, reps G H vs as → DpAll G.K H vs (as.map Dd.dat)
  | _, _, .nil => .nil
  | _, _, .cons h t => .cons (Dd.dp h) (dd_dpAll t)
theorem dd_eqAll : ∀ as bs : List α, PyData.eqvAll (as.map Dd.dat) (bs.map Dd.dat) = decide (as = bs)
  | [], [] => by simp [PyData.eqvAll]
  | [], u :: r => by simp [PyData.eqvAll]
  | t :: r, [] => by simp [PyData.eqvAll]
  | t :: r, u :: q => by
    rw [List.map_cons, List.map_cons, PyData.eqvAll, Dd.eq, dd_eqAll r q]
    by_cases e : t = u
    · subst e
      by_cases e2 : r = q
      · subst e2; simp
      · simp [e2]
    · simp [e]
theorem dd_layAll : ∀ {as : List α}, (∀ a ∈ as, Dd.Ok a) → PyData.canLayAll0 (as.map Dd.dat) = true
  | [], _ => by simp [PyData.canLayAll0]
  | t :: r, h => by
    rw [List.map_cons, PyData.canLayAll0, Dd.lay (h t List.mem_cons_self), dd_layAll fun x hx => h x (List.mem_cons_of_mem _ hx)]
    rfl
theorem dd_depAll : ∀ as : List α, PyData.depthAll (as.map Dd.dat) ≤ Dd.n α
  | [] => by simp [PyData.depthAll]
  | t :: r => by
    rw [List.map_cons, PyData.depthAll]
    exact Nat.max_le.mpr ⟨Dd.dep t, dd_depAll r⟩
instance : Dd (List α) where
  dat a := .list (a.map Dd.dat)
  dp := fun ⟨p, vs, e, h, r⟩ => by rw [e]; exact .lst (.of h) (dd_dpAll r)
  eq := fun a b => by rw [PyData.eqv]; exact dd_eqAll a b
  Ok := fun a => ∀ x ∈ a, Dd.Ok x
  lay := fun h => by rw [PyData.canLay0]; exact dd_layAll h
  n := Dd.n α + 1
  dep := fun a => by rw [PyData.depth]; exact Nat.succ_le_succ (dd_depAll a)
instance : Dd (α × β) where
  dat a := .tuple [Dd.dat a.1, Dd.dat a.2]
  dp := fun ⟨p, v, w, e, h, r1, r2⟩ => by rw [e]; exact .tup (.of h) (.cons (Dd.dp r1) (.cons (Dd.dp r2) .nil))
  eq := fun a b => by
    rw [PyData.eqv, PyData.eqvAll, PyData.eqvAll, PyData.eqvAll, Dd.eq, Dd.eq]
    obtain ⟨a1, a2⟩ := a
    obtain ⟨b1, b2⟩ := b
    by_cases h1 : a1 = b1 <;> by_cases h2 : a2 = b2 <;> simp [h1, h2]
  Ok := fun a => Dd.Ok a.1 ∧ Dd.Ok a.2
  lay := fun h => by rw [PyData.canLay0, PyData.canLayAll0, PyData.canLayAll0, PyData.canLayAll0, Dd.lay h.1, Dd.lay h.2]; rfl
  n := max (Dd.n α) (Dd.n β) + 1
  dep := fun a => by
    rw [PyData.depth, PyData.depthAll, PyData.depthAll, PyData.depthAll]
    have := Dd.dep a.1
    have := Dd.dep a.2
    omega
instance : Dd (T3 α β γ) where
  dat a := .tuple [Dd.dat a.a, Dd.dat a.b, Dd.dat a.c]
  dp := fun ⟨p, v, w, u, e, h, r1, r2, r3⟩ => by rw [e]; exact .tup (.of h) (.cons (Dd.dp r1) (.cons (Dd.dp r2) (.cons (Dd.dp r3) .nil)))
  eq := fun a b => by
    rw [PyData.eqv, PyData.eqvAll, PyData.eqvAll, PyData.eqvAll, PyData.eqvAll, Dd.eq, Dd.eq, Dd.eq]
    obtain ⟨a1, a2, a3⟩ := a
    obtain ⟨b1, b2, b3⟩ := b
    by_cases h1 : a1 = b1 <;> by_cases h2 : a2 = b2 <;> by_cases h3 : a3 = b3 <;> simp [h1, h2, h3]
  Ok := fun a => Dd.Ok a.a ∧ Dd.Ok a.b ∧ Dd.Ok a.c
  lay := fun h => by rw [PyData.canLay0, PyData.canLayAll0, PyData.canLayAll0, PyData.canLayAll0, PyData.canLayAll0, Dd.lay h.1, Dd.lay h.2.1, Dd.lay h.2.2]; rfl
  n := max (Dd.n α) (max (Dd.n β) (Dd.n γ)) + 1
  dep := fun a => by
    rw [PyData.depth, PyData.depthAll, PyData.depthAll, PyData.depthAll, PyData.depthAll]
    have := Dd.dep a.a
    have := Dd.dep a.b
    have := Dd.dep a.c
    omega
end
/-- the scalars that == and in tell apart -/
class Sq (α : Type) [Rp α] [DecidableEq α] [Sc α] : Prop where
  sc : ∀ a b : α, scal (Sc.enc a) (Sc.enc b) = true
  inj : ∀ a b : α, (Sc.enc a = Sc.enc b) ↔ a = b
  fl : ∀ a : α, flatV (Sc.enc a) = true
  eqv : ∀ a b : α, eqV (Sc.enc a) (Sc.enc b) = decide (a = b)
instance : Sq Int := ⟨fun _ _ => rfl, fun _ _ => ⟨fun h => V.int.inj h, fun h => by rw [h]⟩, fun _ => rfl, fun a b => by show (a == b) = _; exact Bool.eq_iff_iff.mpr (by simp)⟩
instance : Sq Bool := ⟨fun _ _ => rfl, fun _ _ => ⟨fun h => V.bl.inj h, fun h => by rw [h]⟩, fun _ => rfl, fun a b => by show (a == b) = _; exact Bool.eq_iff_iff.mpr (by simp)⟩
instance : Sq Str := ⟨fun _ _ => rfl, fun _ _ => ⟨fun h => V.str.inj h, fun h => by rw [h]⟩, fun _ => rfl, fun a b => by show (a == b) = _; exact Bool.eq_iff_iff.mpr (by simp)⟩
/-- one sign of a text -/
structure Sgn where
  c : Nat
deriving DecidableEq
def Sgn.s (a : Sgn) : Str := ⟨#[a.c]⟩
instance : Rp Sgn := ⟨fun _ _ v a => v = .str a.s, fun _ h => h⟩
instance : Sc Sgn := ⟨fun a => .str a.s, fun _ _ _ _ => Iff.rfl⟩
section
variable {G : Gb} {B : Hp} {E : XK} {ρ : Evr} {α β γ δ : Type} [Rp α] [Rp β] [Rp γ] [Rp δ] {md md' mr : Md} {ta tb tc te : TE}
theorem ev_neg {m : M Int} (h : Ev G B E md ρ ta m) : Ev G B E mr ρ (tUn qNeg ta) (m.b fun i => .ok (-i)) := fun F0 F σ H Q R q =>
  h.go R q fun i F1 v H1 e1 r1 R1 q => ⟨i, r1, q F1 _ H1 e1 R1.sF rfl⟩
theorem ev_eq [DecidableEq α] [Sc α] [Sq α] {ma mb : M α} (ha : Ev G B E md ρ ta ma) (hb : Ev G B E md' ρ tb mb) : Ev G B E mr ρ (tOp rEq ta tb) (ma.b fun i => mb.b fun j => .ok (decide (i = j))) := fun F0 F σ H Q R q =>
  ha.go R q fun i F1 v H1 e1 r1 R1 q => hb.go R1 q fun j F2 w H2 e2 r2 R2 q => by
    rw [(Sc.iff _ _ _ _).mp r1, (Sc.iff _ _ _ _).mp r2]
    refine ⟨Sq.sc i j, ?_⟩
    rw [show decide ((Sc.enc i : V) = Sc.enc j) = decide (i = j) from Bool.eq_iff_iff.mpr (by rw [decide_eq_true_iff, decide_eq_true_iff]; exact Sq.inj i j)]
    exact q F2 _ H2 (e1.trans e2) R2.sF rfl
theorem ev_ne [DecidableEq α] [Sc α] [Sq α] {ma mb : M α} (ha : Ev G B E md ρ ta ma) (hb : Ev G B E md' ρ tb mb) : Ev G B E mr ρ (tOp rNe ta tb) (ma.b fun i => mb.b fun j => .ok (!decide (i = j))) := fun F0 F σ H Q R q =>
  ha.go R q fun i F1 v H1 e1 r1 R1 q => hb.go R1 q fun j F2 w H2 e2 r2 R2 q => by
    rw [(Sc.iff _ _ _ _).mp r1, (Sc.iff _ _ _ _).mp r2]
    refine ⟨Sq.sc i j, ?_⟩
    rw [show decide ((Sc.enc i : V) = Sc.enc j) = decide (i = j) from Bool.eq_iff_iff.mpr (by rw [decide_eq_true_iff, decide_eq_true_iff]; exact Sq.inj i j)]
    exact q F2 _ H2 (e1.trans e2) R2.sF rfl
theorem ev_neD [DecidableEq α] [Dd α] {ma mb : M α} (hn : Dd.n α ≤ 64) (ha : Ev G B E md ρ ta ma) (hb : Ev G B E md' ρ tb mb) : Ev G B E mr ρ (tOp (rNeD G.K) ta tb) (ma.b fun i => mb.b fun j => .chk (Dd.Ok i ∧ Dd.Ok j) (.ok (!decide (i = j)))) := fun F0 F σ H Q R q =>
  ha.toH.go R q fun i F1 v H1 e1 r1 R1 q => hb.toH.go R1 q fun j F2 w H2 e2 r2 R2 q => by
    obtain ⟨c, q⟩ := M.P_chk.mp q
    refine ⟨_, _, Dd.dp (Rp.mono e2.h r1), Dd.dp r2, Dd.shaped c.1 hn, Dd.shaped c.2 hn, ?_⟩
    rw [Dd.eq]
    exact q F2 _ H2 (e1.trans e2) R2.sF rfl
theorem rep_opt {G : Gb} {H : Hp} {v : V} {o : Option α} (h : rep G H v o) : decide (v = .non) = o.isNone := by
  cases o with
  | none => rw [show v = .non from h]; rfl
  | some a => exact decide_eq_false h.2
theorem ev_isN {m : M (Option α)} (ha : Ev G B E md ρ ta m) : Ev G B E mr ρ (tOp qIsN ta (tC .non)) (m.b fun o => .ok o.isNone) := fun F0 F σ H Q R q =>
  ha.go R q fun i F1 v H1 e1 r1 R1 q => ⟨rfl, by rw [rep_opt r1]; exact q F1 _ H1 e1 R1.sF rfl⟩
/-- what is no None -/
theorem Ev.val {m : M (Option α)} (ha : Ev G B E md ρ ta m) : Ev G B E md ρ ta (m.b M.get) := fun F0 F σ H Q R q =>
  ha.go R q fun o F1 v H1 e1 r1 R1 q => by
    obtain ⟨a, rfl, q⟩ := M.P_get.mp q
    exact q F1 v H1 e1 R1.sF r1.1
theorem evT_B {m : M Bool} (h : Ev G B E md ρ te m) : EvT G B E ρ (tB te) m := fun F0 F σ H Q R q => h F0 F σ H _ R (q.imp (fun a k F' v H' e s r => ⟨a, r, k F' H' e s⟩) fun _ x => x)
theorem evT_T {m : M Bool} (h : Ev G B E md ρ te m) : EvT G B E ρ (tTest te) m := fun F0 F σ H Q R q => h F0 F σ H _ R (q.imp (fun a k F' v H' e s r => ⟨a, r, k F' H' e s⟩) fun _ x => x)
theorem evT_not {t : TT} {m : M Bool} (h : EvT G B E ρ t m) : EvT G B E ρ (tNot t) (m.b fun c => .ok (!c)) := fun F0 F σ H Q R q => h.go R q fun a F' H' e R' q => q F' H' e R'.sF
theorem evT_and {t u : TT} {m n : M Bool} (h : EvT G B E ρ t m) (k : EvT G B E ρ u n) : EvT G B E ρ (tAnd t u) (m.b fun c => if c = true then n else .ok false) := fun F0 F σ H Q R q => h.go R q fun a F' H' e R' q => by
  cases a with
  | true => exact k F0 F' σ H' Q R' (M.P.imp q (fun b f F2 H2 e2 s2 => f F2 H2 (e.trans e2) s2) fun _ x => x)
  | false => exact q F' H' e R'.sF
theorem evT_or {t u : TT} {m n : M Bool} (h : EvT G B E ρ t m) (k : EvT G B E ρ u n) : EvT G B E ρ (tOr t u) (m.b fun c => if c = true then .ok true else n) := fun F0 F σ H Q R q => h.go R q fun a F' H' e R' q => by
  cases a with
  | true => exact q F' H' e R'.sF
  | false => exact k F0 F' σ H' Q R' (M.P.imp q (fun b f F2 H2 e2 s2 => f F2 H2 (e.trans e2) s2) fun _ x => x)
theorem evT_yes : EvT G B E ρ tYes (.ok true) := fun F0 F σ H Q R q => q F H (.refl _ _) R.sF
theorem ev_andV {m n : M Bool} (h : Ev G B E md ρ ta m) (k : Ev G B E md' ρ tb n) : Ev G B E mr ρ (tAndV ta tb) (m.b fun c => if c = true then n else .ok false) := fun F0 F σ H Q R q => h.go R q fun a F' v H' e r R' q => by
  refine ⟨a, r, ?_⟩
  cases a with
  | true => exact k.sc F0 F' σ H' Q R' (M.P.imp q (fun b f F2 v2 H2 e2 s2 => f F2 v2 H2 (e.trans e2) s2) fun _ x => x)
  | false => exact q F' _ H' e R'.sF rfl
theorem ev_chainLtLt {a b c : M Int} (ha : Ev G B E md ρ ta a) (hb : Ev G B E md ρ tb b) (hc : Ev G B E md ρ tc c) : Ev G B E mr ρ (tChain qLt qLt ta tb tc) (a.b fun i => b.b fun j => if decide (i < j) = true then c.b fun k => .ok (decide (j < k)) else .ok false) := fun F0 F σ H Q R q =>
  ha.go R q fun i F1 v H1 e1 r1 R1 q => hb.go R1 q fun j F2 w H2 e2 r2 R2 q => ⟨i, j, r1, r2, _, rfl, by
    by_cases z : i < j
    · rw [decide_eq_true z] at q ⊢
      exact iteT (hc.go R2 q fun k F3 u H3 e3 r3 R3 q => ⟨j, k, r2, r3, q F3 _ H3 ((e1.trans e2).trans e3) R3.sF rfl⟩)
    · rw [decide_eq_false z] at q ⊢
      exact iteF (q F2 _ H2 (e1.trans e2) R2.sF rfl)⟩
end
end Tw
set_option Elab.async false
set_option linter.all false
set_option maxRecDepth 100000
set_option maxHeartbeats 4000000
namespace Tw
open PySem PySem.Spec L2 TL
open PyProof.Rows hiding St
theorem atI_all2 {α β : Type} {R : α → β → Prop} {l : List α} {m : List β} {i : Int} {b : β} (h : All2 R l m) (e : atI m i = some b) : ∃ a, atI l i = some a ∧ R a b := by
  unfold atI at e ⊢
  rw [h.len]
  cases q : ixN m.length i with
  | none => rw [q] at e; cases e
  | some j => rw [q] at e; exact h.get' e
theorem atI_map {α β : Type} (f : α → β) (l : List α) (i : Int) : atI (l.map f) i = (atI l i).map f := by
  unfold atI
  rw [List.length_map]
  cases ixN l.length i with
  | none => rfl
  | some j => exact List.getElem?_map ..
def cutL {α : Type} (xs : List α) (lo hi : Option Int) : List α := (xs.drop (HT.sIx xs.length 0 lo)).take (HT.sIx xs.length xs.length hi - HT.sIx xs.length 0 lo)
theorem cut_all2 {β : Type} {R : V → β → Prop} {l : List V} {m : List β} {lo hi : Option Int} (h : All2 R l m) : All2 R (cutV l lo hi) (cutL m lo hi) := by
  unfold cutV cutL
  rw [h.len]
  exact (h.drop _).take _
section
variable (G : Gb) (B : Hp) (E : XK) {α : Type} [Rp α]
/-- a list whose items are frozen -/
def EvS (ρ : Evr) (te : TE) (m : M (List α)) : Prop := ∀ (F0 F : Hp) (σ : L2.St) (H : Hp) (Q : VK), Rel G B F0 F ρ σ H →
  m.P (fun a => ∀ (F' : Hp) (p : Addr) (vs : List V) (H' : Hp), Ext F H F' H' → Same F' H' → H' p = some (.lst vs) → reps G F' vs a → Q (.ref p) H') (Xc G B E) → te σ H Q
/-- a part of a slice -/
def EvO (ρ : Evr) (to : TO) (m : M (Option Int)) : Prop := ∀ (F0 F : Hp) (σ : L2.St) (H : Hp) (Q : Option Int → Hp → Prop), Rel G B F0 F ρ σ H →
  m.P (fun a => ∀ (F' H' : Hp), Ext F H F' H' → Same F' H' → Q a H') (Xc G B E) → to σ H Q
/-- items, all frozen -/
def EvL (ρ : Evr) (ta : TA) (m : M (List α)) : Prop := ∀ (F0 F : Hp) (σ : L2.St) (H : Hp) (Q : List V → Hp → Prop), Rel G B F0 F ρ σ H →
  m.P (fun a => ∀ (F' : Hp) (vs : List V) (H' : Hp), Ext F H F' H' → Same F' H' → reps G F' vs a → Q vs H') (Xc G B E) → ta σ H Q
end
section
variable {G : Gb} {B : Hp} {E : XK} {ρ : Evr} {α β γ δ : Type} [Rp α] [Rp β] [Rp γ] [Rp δ] {md md' mr : Md} {ta tb tc te : TE}
theorem EvS.go {ω : Type} {m : M (List α)} {k : List α → M ω} {p : ω → Prop} {F0 F : Hp} {σ : L2.St} {H : Hp} {Q : VK} (h : EvS G B E ρ te m) (R : Rel G B F0 F ρ σ H) (q : (m.b k).P p (Xc G B E))
    (f : ∀ (a : List α) (F' : Hp) (d : Addr) (vs : List V) (H' : Hp), Ext F H F' H' → H' d = some (.lst vs) → reps G F' vs a → Rel G B F0 F' ρ σ H' → (k a).P p (Xc G B E) → Q (.ref d) H') : te σ H Q :=
  h F0 F σ H Q R ((M.P_b.mp q).imp (fun a k F' d vs H' e s h1 h2 => f a F' d vs H' e h1 h2 (R.ext e s) k) fun _ x => x)
theorem EvO.go {ω : Type} {t : TO} {m : M (Option Int)} {k : Option Int → M ω} {p : ω → Prop} {F0 F : Hp} {σ : L2.St} {H : Hp} {Q : Option Int → Hp → Prop} (h : EvO G B E ρ t m) (R : Rel G B F0 F ρ σ H) (q : (m.b k).P p (Xc G B E))
    (f : ∀ (a : Option Int) (F' H' : Hp), Ext F H F' H' → Rel G B F0 F' ρ σ H' → (k a).P p (Xc G B E) → Q a H') : t σ H Q :=
  h F0 F σ H Q R ((M.P_b.mp q).imp (fun a k F' H' e s => f a F' H' e (R.ext e s) k) fun _ x => x)
theorem EvL.go {ω : Type} {t : TA} {m : M (List α)} {k : List α → M ω} {p : ω → Prop} {F0 F : Hp} {σ : L2.St} {H : Hp} {Q : List V → Hp → Prop} (h : EvL G B E ρ t m) (R : Rel G B F0 F ρ σ H) (q : (m.b k).P p (Xc G B E))
    (f : ∀ (a : List α) (F' : Hp) (vs : List V) (H' : Hp), Ext F H F' H' → reps G F' vs a → Rel G B F0 F' ρ σ H' → (k a).P p (Xc G B E) → Q vs H') : t σ H Q :=
  h F0 F σ H Q R ((M.P_b.mp q).imp (fun a k F' vs H' e s r => f a F' vs H' e r (R.ext e s) k) fun _ x => x)
theorem es_N {m : M (List α)} (h : EvN G B E ρ te m) : EvS G B E ρ te m := fun F0 F σ H Q R q => h F0 F σ H Q R (q.imp (fun a k F' p o H' e s h1 h2 h3 h4 => by
  obtain ⟨vs, rfl, h4⟩ := h4
  exact k F' p vs H' e s h3 h4) fun _ x => x)
theorem es_ow {i : Nat} {a : List α} (h : ρ[i]? = some (some (.ow a))) : EvS G B E ρ (tVar i) (.ok a) := fun F0 F σ H Q R q => by
  obtain ⟨x, e, p, o, rfl, _, _, h4, vs, rfl, h5⟩ := R.at h
  exact ⟨_, e, q F p vs H (.refl _ _) R.sF h4 h5⟩
theorem ev_notinSg {ma : M Sgn} {mb : M Str} (ha : Ev G B E md ρ ta ma) (hb : Ev G B E md' ρ tb mb) : Ev G B E mr ρ (tOp qNotInSign ta tb) (ma.b fun a => mb.b fun z => .ok (!decide (a.c ∈ z.cps.toList))) := fun F0 F σ H Q R q =>
  ha.go R q fun a F1 v H1 e1 r1 R1 q => hb.go R1 q fun z F2 w H2 e2 r2 R2 q => ⟨a.c, z, r1, r2, q F2 _ H2 (e1.trans e2) R2.sF rfl⟩
theorem ev_ix {ma : M (List α)} {mi : M Int} (ha : Ev G B E md ρ ta ma) (hi : Ev G B E md' ρ tb mi) : Ev G B E md ρ (tOp (rIxL G.K) ta tb) (ma.b fun l => mi.b fun i => M.get (atI l i)) := fun F0 F σ H Q R q =>
  ha.go R q fun l F1 v H1 e1 r1 R1 q => hi.go R1 q fun i F2 w H2 e2 r2 R2 q => by
    obtain ⟨x, ex, q⟩ := M.P_get.mp q
    obtain ⟨p, vs, rfl, h1, h2⟩ := Rp.mono (hpM_ext e2) r1
    obtain ⟨u, eu, ru⟩ := atI_all2 h2 ex
    exact ⟨p, vs, i, u, rfl, r2, .of (hpM_H R2.sB R2.sF _ _ h1), eu, q F2 u H2 (e1.trans e2) R2.sF ru⟩
theorem ev_ixS {ma : M (List α)} {mi : M Int} (ha : EvS G B E ρ ta ma) (hi : Ev G B E md' ρ tb mi) : Ev G B E .F ρ (tOp (rIxL G.K) ta tb) (ma.b fun l => mi.b fun i => M.get (atI l i)) := fun F0 F σ H Q R q =>
  ha.go R q fun l F1 p vs H1 e1 h1 h2 R1 q => hi.go R1 q fun i F2 w H2 e2 r2 R2 q => by
    obtain ⟨x, ex, q⟩ := M.P_get.mp q
    obtain ⟨u, eu, ru⟩ := atI_all2 (reps_mono e2.f h2) ex
    exact ⟨p, vs, i, u, rfl, r2, .of (e2.h _ _ h1), eu, q F2 u H2 (e1.trans e2) R2.sF ru⟩
theorem ev_ixTp {ma : M (Tp α)} {mi : M Int} (ha : Ev G B E md ρ ta ma) (hi : Ev G B E md' ρ tb mi) : Ev G B E md ρ (tOp (rIxT G.K) ta tb) (ma.b fun l => mi.b fun i => M.get (atI l.l i)) := fun F0 F σ H Q R q =>
  ha.go R q fun l F1 v H1 e1 r1 R1 q => hi.go R1 q fun i F2 w H2 e2 r2 R2 q => by
    obtain ⟨x, ex, q⟩ := M.P_get.mp q
    obtain ⟨p, vs, rfl, h1, h2⟩ := Rp.mono (hpM_ext e2) r1
    obtain ⟨u, eu, ru⟩ := atI_all2 h2 ex
    exact ⟨p, vs, i, u, rfl, r2, .of (hpM_H R2.sB R2.sF _ _ h1), eu, q F2 u H2 (e1.trans e2) R2.sF ru⟩
theorem ev_ixScr {ma : M Scr} {mi : M Int} (ha : Ev G B E md ρ ta ma) (hi : Ev G B E md' ρ tb mi) : Ev G B E mr ρ (tOp (rIxL G.K) ta tb) (ma.b fun l => mi.b fun i => M.get (atI l.l i)) := fun F0 F σ H Q R q =>
  ha.toH.go R q fun l F1 v H1 e1 r1 R1 q => hi.go R1 q fun i F2 w H2 e2 r2 R2 q => by
    obtain ⟨x, ex, q⟩ := M.P_get.mp q
    obtain ⟨p, rfl, h1⟩ := Rp.mono e2.h r1
    exact ⟨p, _, i, .int x, rfl, r2, h1, by rw [atI_map, ex]; rfl, q F2 _ H2 (e1.trans e2) R2.sF rfl⟩
theorem ev_ixStr {ma : M Str} {mi : M Int} (ha : Ev G B E md ρ ta ma) (hi : Ev G B E md' ρ tb mi) : Ev G B E mr ρ (tOp rIxS ta tb) (ma.b fun z => mi.b fun i => .chk (z.length ≤ sizeLine) ((M.get (atI z.cps.toList i)).b fun c => .ok (⟨#[c]⟩ : Str))) := fun F0 F σ H Q R q =>
  ha.go R q fun z F1 v H1 e1 r1 R1 q => hi.go R1 q fun i F2 w H2 e2 r2 R2 q => by
    obtain ⟨hz, q⟩ := M.P_chk.mp q
    obtain ⟨c, ec, q⟩ := M.P_get.mp (M.P_b.mp q)
    exact ⟨z, i, c, r1, r2, hz, ec, q F2 _ H2 (e1.trans e2) R2.sF rfl⟩
theorem ev_p1 {m : M (α × β)} (h : Ev G B E md ρ ta m) : Ev G B E md ρ (tOp (rIxT G.K) ta (tC (.int 0))) (m.b fun a => .ok a.1) := fun F0 F σ H Q R q =>
  h.go R q fun a F1 v H1 e1 r1 R1 q => by
    obtain ⟨p, x, y, rfl, h1, h2, h3⟩ := r1
    exact ⟨p, _, 0, x, rfl, rfl, .of (hpM_H R1.sB R1.sF _ _ h1), rfl, q F1 _ H1 e1 R1.sF h2⟩
theorem ev_p2 {m : M (α × β)} (h : Ev G B E md ρ ta m) : Ev G B E md ρ (tOp (rIxT G.K) ta (tC (.int 1))) (m.b fun a => .ok a.2) := fun F0 F σ H Q R q =>
  h.go R q fun a F1 v H1 e1 r1 R1 q => by
    obtain ⟨p, x, y, rfl, h1, h2, h3⟩ := r1
    exact ⟨p, _, 1, y, rfl, rfl, .of (hpM_H R1.sB R1.sF _ _ h1), rfl, q F1 _ H1 e1 R1.sF h3⟩
theorem eo_none : EvO G B E ρ tNoPart (.ok none) := fun F0 F σ H Q R q => q F H (.refl _ _) R.sF
theorem eo_some {m : M Int} (h : Ev G B E md ρ te m) : EvO G B E ρ (tPart te) (m.b fun i => .ok (some i)) := fun F0 F σ H Q R q => h.go R q fun i F1 v H1 e1 r1 R1 q => ⟨i, r1, q F1 H1 e1 R1.sF⟩
theorem en_slice {m : M (List α)} {l h : M (Option Int)} {tl th : TO} (ha : EvS G B E ρ te m) (hl : EvO G B E ρ tl l) (hh : EvO G B E ρ th h) : EvN G B E ρ (tSl (rSlL G.K) te tl th) (m.b fun xs => l.b fun i => h.b fun j => .ok (cutL xs i j)) := fun F0 F σ H Q R q =>
  ha.go R q fun xs F1 p vs H1 e1 h1 h2 R1 q => hl.go R1 q fun i F2 H2 e2 R2 q => hh.go R2 q fun j F3 H3 e3 R3 q => by
    have s := e2.h.trans e3.h
    refine ⟨p, vs, rfl, .of (s _ _ h1), fun d nd => ?_⟩
    have e := (e1.trans e2).trans e3
    exact q F3 d _ _ (e.trans (.new nd)) (R3.sF.trans (same_upd nd)) (e.h.free nd) (R3.sF.free nd) upd_same ⟨_, rfl, cut_all2 (reps_mono (e2.f.trans e3.f) h2)⟩
theorem ev_sliceStr {m : M Str} {l h : M (Option Int)} {tl th : TO} (ha : Ev G B E md ρ te m) (hl : EvO G B E ρ tl l) (hh : EvO G B E ρ th h) : Ev G B E mr ρ (tSl rSlS te tl th) (m.b fun z => l.b fun i => h.b fun j => .chk (z.length ≤ sizeLine) (.ok (cutS z i j))) := fun F0 F σ H Q R q =>
  ha.go R q fun z F1 v H1 e1 r1 R1 q => hl.go R1 q fun i F2 H2 e2 R2 q => hh.go R2 q fun j F3 H3 e3 R3 q => by
    obtain ⟨c, q⟩ := M.P_chk.mp q
    exact ⟨z, r1, c, q F3 _ H3 ((e1.trans e2).trans e3) R3.sF rfl⟩
theorem ev_len {m : M (List α)} (ha : Ev G B E md ρ te m) : Ev G B E mr ρ (tCB (qLenQ G.K) (tCons te tNil)) (m.b fun xs => .ok ((xs.length : Nat) : Int)) := fun F0 F σ H Q R q =>
  ha.toH.go R q fun xs F1 v H1 e1 r1 R1 q => by
    obtain ⟨p, vs, rfl, h1, h2⟩ := r1
    exact ⟨p, vs, rfl, .inl (.of h1), q F1 _ H1 e1 R1.sF (by rw [h2.len]; rfl)⟩
theorem ev_lenScr {m : M Scr} (ha : Ev G B E md ρ te m) : Ev G B E mr ρ (tCB (qLenQ G.K) (tCons te tNil)) (m.b fun xs => .ok ((xs.l.length : Nat) : Int)) := fun F0 F σ H Q R q =>
  ha.toH.go R q fun xs F1 v H1 e1 r1 R1 q => by
    obtain ⟨p, rfl, h1⟩ := r1
    exact ⟨p, _, rfl, .inl h1, q F1 _ H1 e1 R1.sF (by rw [List.length_map]; rfl)⟩
theorem ev_lenPair {m : M (α × β)} (ha : Ev G B E md ρ te m) : Ev G B E mr ρ (tCB (qLenQ G.K) (tCons te tNil)) (m.b fun _ => .ok (2 : Int)) := fun F0 F σ H Q R q =>
  ha.toH.go R q fun xs F1 v H1 e1 r1 R1 q => by
    obtain ⟨p, x, y, rfl, h1, _⟩ := r1
    exact ⟨p, _, rfl, .inr (.of h1), q F1 _ H1 e1 R1.sF rfl⟩
theorem ev_lenStr {m : M Str} (ha : Ev G B E md ρ te m) : Ev G B E mr ρ (tCB qLenS (tCons te tNil)) (m.b fun z => .chk (z.length ≤ sizeLine) (.ok ((z.length : Nat) : Int))) := fun F0 F σ H Q R q =>
  ha.go R q fun z F1 v H1 e1 r1 R1 q => by
    obtain ⟨c, q⟩ := M.P_chk.mp q
    exact ⟨z, by rw [show v = .str z from r1], c, q F1 _ H1 e1 R1.sF rfl⟩
class Tyn (α : Type) [Rp α] where
  ty : String
  h : ∀ {G : Gb} {H : Hp} {v : V} {a : α}, rep G H v a → TyX G.K H v (.type ty)
instance : Tyn Int := ⟨"int", fun h => by rw [show _ = _ from h]; exact .base (.int _)⟩
instance : Tyn Bool := ⟨"bool", fun h => by rw [show _ = _ from h]; exact .base (.bl _)⟩
instance : Tyn Str := ⟨"str", fun h => by rw [show _ = _ from h]; exact .base (.str _)⟩
instance : Tyn Unit := ⟨"NoneType", fun h => by rw [show _ = _ from h]; exact .base .non⟩
instance : Tyn (List α) := ⟨"list", fun ⟨p, vs, e, h, _⟩ => by rw [e]; exact .base (.lst h)⟩
instance : Tyn (α × β) := ⟨"tuple", fun ⟨p, v, w, e, h, _⟩ => by rw [e]; exact .base (.tup h)⟩
instance : Tyn (T3 α β γ) := ⟨"tuple", fun ⟨p, v, w, u, e, h, _⟩ => by rw [e]; exact .base (.tup h)⟩
theorem ev_isi [Tyn α] {m : M α} {c : String} {k : Bool} (hk : ∀ K, PySem.W.kitOne K (.type (Tyn.ty α)) (.type c) = some k) (ha : Ev G B E md ρ te m) : Ev G B E mr ρ (tCB (rIsi G.K) (tCons te (tCons (tC (.ty c)) tNil))) (m.b fun _ => .ok k) := fun F0 F σ H Q R q =>
  ha.toH.go R q fun a F1 v H1 e1 r1 R1 q => ⟨v, .ty c, _, _, k, rfl, .ty c, Tyn.h r1, hk _, q F1 _ H1 e1 R1.sF rfl⟩
theorem el_nil : EvL G B E ρ tNil (.ok ([] : List α)) := fun F0 F σ H Q R q => q F [] H (.refl _ _) R.sF .nil
theorem el_cons {m : M α} {n : M (List α)} {tr : TA} (h : Ev G B E .F ρ te m) (k : EvL G B E ρ tr n) : EvL G B E ρ (tCons te tr) (m.b fun a => n.b fun l => .ok (a :: l)) := fun F0 F σ H Q R q =>
  h.go R q fun a F1 v H1 e1 r1 R1 q => k.go R1 q fun l F2 vs H2 e2 r2 R2 q => q F2 _ H2 (e1.trans e2) R2.sF (.cons (Rp.mono e2.f r1) r2)
theorem en_lst {m : M (List α)} {t : TA} (h : EvL G B E ρ t m) : EvN G B E ρ (tLst t) (m.b fun l => .chk (l.length ≤ sizeLine) (.ok l)) := fun F0 F σ H Q R q =>
  h.go R q fun l F1 vs H1 e1 r1 R1 q => by
    obtain ⟨c, q⟩ := M.P_chk.mp q
    refine ⟨by rw [r1.len]; exact c, fun p np => ?_⟩
    exact q F1 p _ _ (e1.trans (.new np)) (R1.sF.trans (same_upd np)) (e1.h.free np) (R1.sF.free np) upd_same ⟨vs, rfl, r1⟩
theorem en_nil : EvN G B E ρ (tLst tNil) (.ok ([] : List α)) := fun F0 F σ H Q R q => ⟨Nat.zero_le _, fun p np => q F p _ _ (.new np) (R.sF.trans (same_upd np)) np (R.sF.free np) upd_same ⟨[], rfl, .nil⟩⟩
theorem ev_tp {m : M (List α)} {t : TA} (h : EvL G B E ρ t m) : Ev G B E .F ρ (tTup t) (m.b fun l => .chk (l.length ≤ sizeLine) (.ok (⟨l⟩ : Tp α))) := fun F0 F σ H Q R q =>
  h.go R q fun l F1 vs H1 e1 r1 R1 q => by
    obtain ⟨c, q⟩ := M.P_chk.mp q
    refine ⟨by rw [r1.len]; exact c, fun p np => ?_⟩
    exact q (upd F1 p (.tup vs)) _ _ (e1.trans (.newF R1.sF np)) (same_both R1.sF) ⟨p, vs, rfl, upd_same, reps_mono (same_upd (R1.sF.free np)) r1⟩
theorem ev_pair {m : M α} {n : M β} (h : Ev G B E .F ρ ta m) (k : Ev G B E .F ρ tb n) : Ev G B E .F ρ (tTup (tCons ta (tCons tb tNil))) (m.b fun a => n.b fun b => .ok (a, b)) := fun F0 F σ H Q R q =>
  h.go R q fun a F1 v H1 e1 r1 R1 q => k.go R1 q fun b F2 w H2 e2 r2 R2 q => ⟨show 2 ≤ sizeLine by decide, fun p np => by
    have s := same_upd (o := .tup [v, w]) (R2.sF.free np)
    exact q (upd F2 p (.tup [v, w])) _ _ ((e1.trans e2).trans (.newF R2.sF np)) (same_both R2.sF) ⟨p, v, w, rfl, upd_same, Rp.mono (e2.f.trans s) r1, Rp.mono s r2⟩⟩
theorem ev_catStr {m n : M Str} (h : Ev G B E md ρ ta m) (k : Ev G B E md' ρ tb n) : Ev G B E mr ρ (tOp qCatS ta tb) (m.b fun a => n.b fun b => .chk (a.length + b.length ≤ sizeLine) (.ok (a ++ b))) := fun F0 F σ H Q R q =>
  h.go R q fun a F1 v H1 e1 r1 R1 q => k.go R1 q fun b F2 w H2 e2 r2 R2 q => by
    obtain ⟨c, q⟩ := M.P_chk.mp q
    exact ⟨a, b, r1, r2, c, q F2 _ H2 (e1.trans e2) R2.sF rfl⟩
theorem ev_repStr {m : M Str} {n : M Int} (h : Ev G B E md ρ ta m) (k : Ev G B E md' ρ tb n) : Ev G B E mr ρ (tOp qRepS ta tb) (m.b fun a => n.b fun b => .chk (MulOk a b) (.ok (Txt.mul a b))) := fun F0 F σ H Q R q =>
  h.go R q fun a F1 v H1 e1 r1 R1 q => k.go R1 q fun b F2 w H2 e2 r2 R2 q => by
    obtain ⟨c, q⟩ := M.P_chk.mp q
    exact ⟨a, b, r1, r2, c, q F2 _ H2 (e1.trans e2) R2.sF rfl⟩
theorem en_cat {m n : M (List α)} (h : EvS G B E ρ ta m) (k : EvS G B E ρ tb n) : EvN G B E ρ (tOp rCat ta tb) (m.b fun a => n.b fun b => .chk (a.length + b.length ≤ sizeLine) (.ok (a ++ b))) := fun F0 F σ H Q R q =>
  h.go R q fun a F1 x vs H1 e1 h1 r1 R1 q => k.go R1 q fun b F2 y ws H2 e2 h2 r2 R2 q => by
    obtain ⟨c, q⟩ := M.P_chk.mp q
    refine ⟨x, y, vs, ws, rfl, rfl, e2.h _ _ h1, h2, by rw [r1.len, r2.len]; exact c, fun p np => ?_⟩
    have e := e1.trans e2
    exact q F2 p _ _ (e.trans (.new np)) (R2.sF.trans (same_upd np)) (e.h.free np) (R2.sF.free np) upd_same ⟨_, rfl, (reps_mono e2.f r1).app r2⟩
theorem strs_of {H : Hp} {vs : List V} {ss : List Str} (h : reps G H vs ss) : vs = ss.map V.str := h.to_map fun _ _ q => q
theorem ev_join {m : M Str} {n : M (List Str)} (h : Ev G B E md ρ ta m) (k : Ev G B E md' ρ tb n) : Ev G B E mr ρ (tM1 (qJoin G.K) ta tb) (m.b fun a => n.b fun l => .chk ((l.map (·.length)).sum + l.length * a.length ≤ 16777216) (.ok (Txt.join a l))) := fun F0 F σ H Q R q =>
  h.go R q fun a F1 v H1 e1 r1 R1 q => ⟨⟨a, r1⟩, k.toH.go R1 q fun l F2 w H2 e2 r2 R2 q => by
    obtain ⟨c, q⟩ := M.P_chk.mp q
    obtain ⟨p, vs, rfl, h1, h2⟩ := r2
    rw [strs_of h2] at h1
    exact ⟨a, p, l, r1, rfl, .inl (.of h1), c, q F2 _ H2 (e1.trans e2) R2.sF rfl⟩⟩
theorem en_split {m n : M Str} (h : Ev G B E md ρ ta m) (k : Ev G B E md' ρ tb n) : EvN G B E ρ (tM1 qSplit ta tb) (m.b fun a => n.b fun b => .chk ((b.length == 0) = false ∧ a.length + 2 ≤ sizeLine) (.ok (Txt.split a b))) := fun F0 F σ H Q R q =>
  h.go R q fun a F1 v H1 e1 r1 R1 q => ⟨⟨a, r1⟩, k.go R1 q fun b F2 w H2 e2 r2 R2 q => by
    obtain ⟨c, q⟩ := M.P_chk.mp q
    have e := e1.trans e2
    exact ⟨a, b, r1, by rw [show w = .str b from r2], c.1, c.2, fun p np => q F2 p _ _ (e.trans (.new np)) (R2.sF.trans (same_upd np)) (e.h.free np) (R2.sF.free np) upd_same ⟨_, rfl, All2.of_map (R := rep G F2) (f := V.str) (fun _ => rfl) _⟩⟩⟩
end
end Tw
set_option Elab.async false
set_option linter.all false
set_option maxRecDepth 100000
set_option maxHeartbeats 4000000
namespace Tw
open PySem PySem.Spec L2 TL
open PyProof.Rows hiding St
theorem wipe_get (σ : L2.St) (j : Nat) : ∀ vs : List Nat, (wipe σ vs)[j]? = if j ∈ vs then (σ[j]?).map fun _ => none else σ[j]?
  | [] => by simp [wipe]
  | v :: vs => by
    show ((wipe σ vs).set v none)[j]? = _
    by_cases e : v = j
    · subst e
      rw [List.getElem?_set_self', wipe_get σ v vs, if_pos List.mem_cons_self]
      by_cases h : v ∈ vs
      · rw [if_pos h]
        cases σ[v]? <;> rfl
      · rw [if_neg h]
        cases σ[v]? <;> rfl
    · rw [List.getElem?_set_ne e, wipe_get σ j vs]
      by_cases h : j ∈ vs
      · rw [if_pos h, if_pos (List.mem_cons_of_mem _ h)]
      · rw [if_neg h, if_neg fun w => by
          rcases List.mem_cons.mp w with w | w
          · exact e w.symm
          · exact h w]
theorem wipe_set {σ : L2.St} {i : Nat} {x : Option V} {vs : List Nat} (h : i ∈ vs) : wipe (σ.set i x) vs = wipe σ vs := by
  refine List.ext_getElem? fun j => ?_
  rw [wipe_get, wipe_get]
  by_cases e : i = j
  · subst e
    rw [if_pos h, if_pos h, List.getElem?_set_self']
    cases σ[i]? <;> rfl
  · rw [List.getElem?_set_ne e]
theorem wipe_idem (σ : L2.St) (vs : List Nat) : wipe (wipe σ vs) vs = wipe σ vs := by
  refine List.ext_getElem? fun j => ?_
  rw [wipe_get, wipe_get]
  by_cases h : j ∈ vs
  · rw [if_pos h, if_pos h]
    cases σ[j]? <;> rfl
  · rw [if_neg h]
theorem wipe_app {σ τ υ : L2.St} {a b : List Nat} (h : wipe τ a = wipe σ a) (k : wipe υ b = wipe τ b) : wipe υ (a ++ b) = wipe σ (a ++ b) := by
  refine List.ext_getElem? fun j => ?_
  have h1 := congrArg (fun l : L2.St => l[j]?) h
  have h2 := congrArg (fun l : L2.St => l[j]?) k
  simp only [wipe_get] at h1 h2 ⊢
  have m : ∀ {x y : Option (Option V)}, x = y → (x.map fun _ => (none : Option V)) = y.map fun _ => none := fun e => by rw [e]
  by_cases ha : j ∈ a
  · rw [if_pos ha, if_pos ha] at h1
    rw [if_pos (List.mem_append_left _ ha), if_pos (List.mem_append_left _ ha)]
    by_cases hb : j ∈ b
    · rw [if_pos hb, if_pos hb] at h2
      exact h2.trans h1
    · rw [if_neg hb, if_neg hb] at h2
      exact (m h2).trans h1
  · rw [if_neg ha, if_neg ha] at h1
    by_cases hb : j ∈ b
    · rw [if_pos (List.mem_append_right _ hb), if_pos (List.mem_append_right _ hb)]
      rw [if_pos hb, if_pos hb] at h2
      exact h2.trans (m h1)
    · have hn : ¬ j ∈ a ++ b := fun w => (List.mem_append.mp w).elim ha hb
      rw [if_neg hn, if_neg hn]
      rw [if_neg hb, if_neg hb] at h2
      exact h2.trans h1
/-- the comprehension's own names are forgotten -/
def wipeE (ρ : Evr) : List Nat → Evr
  | [] => ρ
  | v :: vs => (wipeE ρ vs).set v none
theorem Rel.unset {G : Gb} {B F0 F H : Hp} {ρ : Evr} {σ : L2.St} (R : Rel G B F0 F ρ σ H) (i : Nat) (x : Option V) : Rel G B F0 F (ρ.set i none) (σ.set i x) H := R.setv trivial fun b f => nomatch f
theorem Rel.wipe {G : Gb} {B F0 F H : Hp} {ρ : Evr} {σ : L2.St} (R : Rel G B F0 F ρ σ H) : ∀ vs : List Nat, Rel G B F0 F (wipeE ρ vs) (L2.wipe σ vs) H
  | [] => R
  | v :: vs => (R.wipe vs).unset v none
/-- a thing beside is changed -/
theorem Rel.side {G : Gb} {B F0 F H : Hp} {ρ : Evr} {σ : L2.St} {p : Addr} {o : HO} (R : Rel G B F0 F ρ σ H) (hB : B p = none) (hF : F p = none) (hn : ∀ (j : Nat) (s : Option Slot) (x : Option V), ρ[j]? = some s → σ[j]? = some x → ¬ Fp H s x p) : Rel G B F0 F ρ σ (upd H p o) where
  sB := same_updR R.sB hB
  sF := same_updR R.sF hF
  s0 := R.s0
  nw := R.nw
  len := R.len
  sl := fun j t x ht hx => (R.sl j t x ht hx).frame (.refl _) (fun b u f e => by rw [upd_ne (fun z => hn j t x ht hx (by rw [← z]; exact f))]; exact e) fun b f => (Fp.at (R.sl j t x ht hx) f).2.2
  ds := fun i j s t x y b hi hx hj hy f g => R.ds i j s t x y b hi hx hj hy (Fp.lift (R.sl i s x hi hx) (fun b u f e => by rw [upd_ne (fun z => hn i s x hi hx (by rw [← z]; exact f))]; exact e) f) (Fp.lift (R.sl j t y hj hy) (fun b u f e => by rw [upd_ne (fun z => hn j t y hj hy (by rw [← z]; exact f))]; exact e) g)
section
variable (G : Gb) (B : Hp) (E : XK) {α : Type} [Rp α]
/-- a target binds a thing -/
def Tgt (md : Md) (g : TG) (ts : List Nat) (bind : α → Evr → Evr) : Prop := ∀ (F0 F : Hp) (ρ : Evr) (σ : L2.St) (H : Hp) (v : V) (x : α) (Qt : L2.St → Hp → Prop), Rel G B F0 F ρ σ H → rep G (hpM md F B H) v x →
  (∀ σ', wipe σ' ts = wipe σ ts → Rel G B F0 F (bind x ρ) σ' H → Qt σ' H) → g v σ H Qt
/-- a walk, turn by turn -/
def Walk {α : Type} (W : Hp → Hp → Prop) (J : It) (g : TG) (ts : List Nat) (bind : α → Evr → Evr) (xs : List α) : Prop := ∀ (i : Nat) (F0 F : Hp) (ρ : Evr) (σ : L2.St) (H : Hp), W F H → Rel G B F0 F ρ σ H →
  (xs.length ≤ i → J.stop i H) ∧ ∀ x, xs[i]? = some x → J.go i H ∧ ∀ v H', J.yld i H v H' → ∀ Qt : L2.St → Hp → Prop,
    (∀ F' σ' H2, Ext F H F' H2 → wipe σ' ts = wipe σ ts → Rel G B F0 F' (bind x ρ) σ' H2 → Qt σ' H2) → g v σ H' Qt
def EvW {α : Type} (per : Bool) (ρ : Evr) (wi : TI) (g : TG) (ts : List Nat) (bind : α → Evr → Evr) (m : M (List α)) : Prop := ∀ (F0 F : Hp) (σ : L2.St) (H : Hp) (R : It → Hp → Prop), Rel G B F0 F ρ σ H →
  m.P (fun xs => ∀ (F' H' : Hp) (J : It), Ext F H F' H' → Same F' H' → Walk G B (fun F2 H2 => Same F' F2 ∧ (per = false → Same H' H2)) J g ts bind xs → R J H') (Xc G B E) → wi σ H R
end
section
variable {G : Gb} {B : Hp} {E : XK} {ρ : Evr} {α β γ δ : Type} [Rp α] [Rp β] [Rp γ] [Rp δ] {md md' mr : Md} {ta tb tc te : TE} {g g1 g2 g3 g4 : TG} {ts t1 t2 t3 t4 : List Nat} {bind : α → Evr → Evr}
theorem tg_F {i : Nat} : Tgt (α := α) G B .F (gName i) [i] (fun x ρ => ρ.set i (some (.fz x))) := fun F0 F ρ σ H v x Qt R r k => k _ (wipe_set List.mem_cons_self) (R.put ⟨v, rfl, r⟩ rfl)
theorem tg_B {i : Nat} : Tgt (α := α) G B .B (gName i) [i] (fun x ρ => ρ.set i (some (.bw x))) := fun F0 F ρ σ H v x Qt R r k => k _ (wipe_set List.mem_cons_self) (R.put ⟨v, rfl, r⟩ rfl)
theorem tg_S [Sc α] {i : Nat} : Tgt (α := α) G B md (gName i) [i] (fun x ρ => ρ.set i (some (.fz x))) := fun F0 F ρ σ H v x Qt R r k => k _ (wipe_set List.mem_cons_self) (R.put ⟨v, rfl, (Sc.iff _ _ _ _).mpr ((Sc.iff _ _ _ _).mp r)⟩ rfl)
theorem tg_tri {b1 : α → Evr → Evr} {b2 : β → Evr → Evr} {b3 : γ → Evr → Evr} (h1 : Tgt G B md g1 t1 b1) (h2 : Tgt G B md g2 t2 b2) (h3 : Tgt G B md g3 t3 b3) : Tgt G B md (gTup G.K 3 (gCons g1 (gCons g2 (gCons g3 gNil)))) ((t1 ++ t2) ++ t3) (fun (x : T3 α β γ) ρ => b3 x.c (b2 x.b (b1 x.a ρ))) := fun F0 F ρ σ H v x Qt R r k => by
  obtain ⟨p, y, z, u, rfl, hp, r1, r2, r3⟩ := r
  exact ⟨p, _, rfl, .of (hpM_H R.sB R.sF _ _ hp), rfl, y, _, rfl, h1 F0 F ρ σ H y x.a _ R r1 fun σ1 w1 R1 => ⟨z, _, rfl, h2 F0 F _ σ1 H z x.b _ R1 r2 fun σ2 w2 R2 => ⟨u, _, rfl, h3 F0 F _ σ2 H u x.c _ R2 r3 fun σ3 w3 R3 => ⟨rfl, k σ3 (wipe_app (wipe_app w1 w2) w3) R3⟩⟩⟩⟩
theorem walk_list {W : Hp → Hp → Prop} {p : Addr} {vs : List V} {xs : List α} (ht : Tgt G B md g ts bind) (h1 : ∀ F0 F ρ σ H, W F H → Rel G B F0 F ρ σ H → H p = some (.lst vs) ∧ reps G (hpM md F B H) vs xs) : Walk G B W (Itl G.K p) g ts bind xs := fun i F0 F ρ σ H w R => by
  obtain ⟨hp, hr⟩ := h1 F0 F ρ σ H w R
  refine ⟨fun hl => ⟨vs, .of hp, by rw [hr.len]; exact hl⟩, fun x hx => ?_⟩
  obtain ⟨v, ev, rv⟩ := hr.get' hx
  refine ⟨⟨vs, v, .of hp, ev⟩, fun u H' y Qt k => ?_⟩
  obtain ⟨rfl, y⟩ := y
  have e : u = v := Option.some.inj ((y vs (.of hp)).symm.trans ev)
  subst e
  exact ht F0 F ρ σ _ u x Qt R rv fun σ' ws R' => k F σ' _ (.refl _ _) ws R'
theorem ew_F {m : M (List α)} (h : Ev G B E .F ρ te m) (ht : Tgt G B .F g ts bind) : EvW G B E true ρ (iList G.K te) g ts bind m := fun F0 F σ H R RR q => h F0 F σ H _ RR (q.imp (fun xs k F' v H' e s r => by
  obtain ⟨p, vs, rfl, h1, h2⟩ := r
  exact ⟨p, rfl, ⟨vs, .of (s _ _ h1)⟩, k F' H' _ e s (walk_list ht fun F0 F ρ σ H w R => ⟨R.sF _ _ (w.1 _ _ h1), reps_mono w.1 h2⟩)⟩) fun _ x => x)
theorem ew_S {m : M (List α)} (h : EvS G B E ρ te m) (ht : Tgt G B .F g ts bind) : EvW G B E false ρ (iList G.K te) g ts bind m := fun F0 F σ H R RR q => h F0 F σ H _ RR (q.imp (fun xs k F' p vs H' e s h1 h2 =>
  ⟨p, rfl, ⟨vs, .of h1⟩, k F' H' _ e s (walk_list ht fun F0 F ρ σ H w R => ⟨w.2 rfl _ _ h1, reps_mono w.1 h2⟩)⟩) fun _ x => x)
def rng (lo hi : Int) : List Int := (List.range (hi - lo).toNat).map fun (k : Nat) => lo + k
theorem rng_len (lo hi : Int) : (rng lo hi).length = (hi - lo).toNat := by unfold rng; rw [List.length_map, List.length_range]
theorem rng_at {lo hi : Int} {i : Nat} {x : Int} (h : (rng lo hi)[i]? = some x) : i < (hi - lo).toNat ∧ x = lo + i := by
  have hi' : i < (rng lo hi).length := (List.getElem?_eq_some_iff.mp h).1
  rw [rng_len] at hi'
  refine ⟨hi', ?_⟩
  unfold rng at h
  rw [List.getElem?_map, List.getElem?_range hi'] at h
  exact (Option.some.inj h).symm
theorem walk_rng {W : Hp → Hp → Prop} {lo hi : Int} {bind : Int → Evr → Evr} (ht : Tgt G B .F g ts bind) : Walk G B W (Itr lo (hi - lo).toNat) g ts bind (rng lo hi) := fun i F0 F ρ σ H w R => by
  refine ⟨fun hl => by rw [rng_len] at hl; exact hl, fun x hx => ?_⟩
  obtain ⟨hl, rfl⟩ := rng_at hx
  refine ⟨hl, fun u H' y Qt k => ?_⟩
  obtain ⟨rfl, rfl⟩ := y
  exact ht F0 F ρ σ _ _ _ Qt R rfl fun σ' ws R' => k F σ' _ (.refl _ _) ws R'
theorem ew_rng1 {m : M Int} {bind : Int → Evr → Evr} (h : Ev G B E md ρ te m) (ht : Tgt G B .F g ts bind) : EvW G B E true ρ (iRng1 (tCons te tNil)) g ts bind (m.b fun n => .chk (-(2 ^ 62) ≤ n ∧ n < 2 ^ 62) (.ok (rng 0 n))) := fun F0 F σ H R RR q => h.go RR q fun n F' v H' e r R' q => by
  obtain ⟨c, q⟩ := M.P_chk.mp q
  have w := walk_rng (G := G) (B := B) (W := fun F2 H2 => Same F' F2 ∧ (true = false → Same H' H2)) (lo := 0) (hi := n) ht
  rw [Int.sub_zero] at w
  exact ⟨n, by rw [show v = .int n from r], c.1, c.2, q F' H' _ e R'.sF w⟩
theorem ew_str {m : M Str} {bind : Sgn → Evr → Evr} (h : Ev G B E md ρ te m) (ht : Tgt G B .F g ts bind) : EvW G B E true ρ (iStr te) g ts bind (m.b fun z => .ok (z.cps.toList.map Sgn.mk)) := fun F0 F σ H R RR q => h.go RR q fun z F' v H' e r R' q => by
  refine ⟨z, r, q F' H' _ e R'.sF fun i F0 F ρ σ H w R => ?_⟩
  refine ⟨fun hl => by rw [List.length_map] at hl; show z.cps.size ≤ i; simpa using hl, fun x hx => ?_⟩
  rw [List.getElem?_map] at hx
  cases ec : z.cps.toList[i]? with
  | none => rw [ec] at hx; cases hx
  | some c =>
    rw [ec] at hx
    cases hx
    have hl : i < z.cps.size := by have := (List.getElem?_eq_some_iff.mp ec).1; simpa using this
    refine ⟨hl, fun u H' y Qt k => ?_⟩
    obtain ⟨rfl, d, ed, rfl⟩ := y
    have e2 : c = d := by
      have : z.cps.toList[i]? = some d := by simpa using ed
      rw [ec] at this
      exact Option.some.inj this
    subst e2
    exact ht F0 F ρ σ _ _ _ Qt R rfl fun σ' ws R' => k F σ' _ (.refl _ _) ws R'
theorem en_lc {α : Type} {per : Bool} {wi : TI} {bind : α → Evr → Evr} {m : M (List α)} {tt : TT} {t : α → M Bool} {e : α → M β} (hw : EvW G B E per ρ wi g ts bind m) (ht : ∀ x, EvT G B E (bind x (wipeE ρ ts)) tt (t x)) (he : ∀ x, Ev G B E .F (bind x (wipeE ρ ts)) te (e x)) :
    EvN G B E ρ (tLc wi g tt te ts) (m.b fun xs => .chk (xs.length ≤ sizeLine) (M.lc t e xs)) := fun F0 F σ H Q R q => hw F0 F σ H _ R ((M.P_b.mp q).imp (fun xs q F1 H1 J e1 s1 wk D nD => by
  obtain ⟨cl, q⟩ := M.P_chk.mp q
  have R1 := R.ext e1 s1
  have hBD : B D = none := R1.sB.free nD
  refine ⟨fun i k H2 => k = xs.length - i ∧ i ≤ xs.length ∧ ∃ (F2 : Hp) (acc : List V) (ys : List β), Rel G B F0 F2 (wipeE ρ ts) (wipe σ ts) H2 ∧ Ext F1 H1 F2 H2 ∧ H2 D = some (.lst acc) ∧ F2 D = none ∧ reps G F2 acc ys ∧ ys.length ≤ i ∧
    (M.lc t e (xs.drop i)).P (fun r => ∀ (F' : Hp) (p : Addr) (o : HO) (H' : Hp), Ext F H F' H' → Same F' H' → H p = none → F' p = none → H' p = some o → con G F' o (ys ++ r) → Q (.ref p) H') (Xc G B E), ⟨xs.length, by simp, Nat.zero_le _, F1, [], [], ?_, ?_, upd_same, s1.free nD, .nil, Nat.zero_le _, ?_⟩, ?_⟩
  · exact (R1.wipe ts).side hBD (s1.free nD) ((R1.wipe ts).fresh nD)
  · exact .new nD
  · rw [List.drop_zero]
    exact q
  rintro i k H2 ⟨rfl, hi, F2, acc, ys, R2, e2, hD, fD, ra, hy, q2⟩
  obtain ⟨w1, w2⟩ := wk i F0 F2 _ _ H2 ⟨e2.f, fun _ => e2.h⟩ R2
  by_cases hlt : i < xs.length
  · have hx : xs[i]? = some xs[i] := List.getElem?_eq_getElem hlt
    obtain ⟨g1, g2⟩ := w2 xs[i] hx
    rw [List.drop_eq_getElem_cons hlt] at q2
    refine .inr ⟨g1, fun H3 => ∃ m', m' < xs.length - i ∧ (m' = xs.length - (i + 1) ∧ i + 1 ≤ xs.length ∧ ∃ (F2 : Hp) (acc : List V) (ys : List β), Rel G B F0 F2 (wipeE ρ ts) (wipe σ ts) H3 ∧ Ext F1 H1 F2 H3 ∧ H3 D = some (.lst acc) ∧ F2 D = none ∧ reps G F2 acc ys ∧ ys.length ≤ i + 1 ∧
      (M.lc t e (xs.drop (i + 1))).P (fun r => ∀ (F' : Hp) (p : Addr) (o : HO) (H' : Hp), Ext F H F' H' → Same F' H' → H p = none → F' p = none → H' p = some o → con G F' o (ys ++ r) → Q (.ref p) H') (Xc G B E)), fun H3 z => z, fun v H3 hyld => g2 v H3 hyld _ fun F3 σ3 H4 e3 ws R3 => ⟨ws.trans (wipe_idem σ ts), ?_⟩⟩
    have hm : xs.length - (i + 1) < xs.length - i := by omega
    have dn : ∀ {Fx Hx : Hp}, Ext F2 H2 Fx Hx → Hx D = some (.lst acc) ∧ Fx D = none := fun ex => ⟨ex.h _ _ hD, ex.non hD fD⟩
    refine (ht xs[i]).go R3 q2 fun c F4 H5 e4 R4 q3 => ?_
    have e24 := e3.trans e4
    have Rw : ∀ {Fx Hx : Hp}, Ext F2 H2 Fx Hx → Same Fx Hx → Rel G B F0 Fx (wipeE ρ ts) (wipe σ ts) Hx := fun ex sx => R2.ext ex sx
    cases c with
    | true =>
      refine iteT ((he xs[i]).go R4 q3 fun y F5 v2 H6 e5 r5 R5 q4 => ?_)
      have e25 := e24.trans e5
      obtain ⟨hD5, fD5⟩ := dn e25
      refine ⟨acc, hD5, by rw [ra.len]; omega, _, hm, rfl, hlt, F5, acc ++ [v2], ys ++ [y], ?_, ?_, upd_same, fD5, (reps_mono e25.f ra).snoc r5, by rw [List.length_append]; exact Nat.succ_le_succ hy, ?_⟩
      · have R6 := Rw e25 R5.sF
        exact R6.side hBD fD5 (fun j s x hs hx f => (R1.wipe ts).fresh nD j s x hs hx (Fp.lift ((R1.wipe ts).sl j s x hs hx) (fun b o _ z => (e2.trans e25).h _ _ z) f))
      · have e26 := e2.trans e25
        exact ⟨e26.f, fun b o hb => by rw [upd_ne (ne_of_none hb nD)]; exact e26.h _ _ hb, e26.n⟩
      · refine (M.P_b.mp q4).imp (fun r f F' p o H' a1 a2 a3 a4 a5 a6 => f F' p o H' a1 a2 a3 a4 a5 ?_) fun _ x => x
        rw [List.append_assoc] at a6
        exact a6
    | false =>
      refine iteF ?_
      obtain ⟨hD4, fD4⟩ := dn e24
      exact ⟨_, hm, rfl, hlt, F4, acc, ys, Rw e24 R4.sF, e2.trans e24, hD4, fD4, reps_mono e24.f ra, Nat.le_succ_of_le hy, q3⟩
  · have e : i = xs.length := by omega
    subst e
    rw [List.drop_length] at q2
    have e12 := e1.trans e2
    refine .inl ⟨w1 (Nat.le_refl _), q2 F2 D _ H2 e12 R2.sF (e1.h.free nD) fD hD ⟨acc, rfl, by rw [List.append_nil]; exact ra⟩⟩) fun _ x => x)
end
end Tw
set_option Elab.async false
set_option linter.all false
set_option maxRecDepth 100000
set_option maxHeartbeats 4000000
namespace Tw
open PySem PySem.Spec L2 TL
open PyProof.Rows hiding St
structure Fin (G : Gb) (B F0 F H : Hp) : Prop where
  sB : Same B H
  sF : Same F H
  s0 : Same F0 F
  nw : ∀ a, F0 a = none → F a ≠ none → B a = none
section
variable (G : Gb) (B : Hp) (E : XK)
def Run {Ω : Type} (post : Hp → Ω → Ends → Prop) (ρ : Evr) (t : TS) (m : M Ω) : Prop := ∀ (F0 F : Hp) (σ : L2.St) (H : Hp) (D : Ends), Rel G B F0 F ρ σ H → m.P (fun ω => post F0 ω D) (Xc G B E) → t D σ H
/-- it goes on -/
def oN {S : Type} (EX : S → Evr) : Hp → S → Ends → Prop := fun F0 s D => ∀ (F' : Hp) (σ' : L2.St) (H' : Hp), Rel G B F0 F' (EX s) σ' H' → D.nx σ' H'
/-- it tells; how a thing is told: frozen, new, None -/
abbrev RP (R : Type) := Hp → Hp → Hp → V → R → Prop
def oR {R : Type} (rp : RP R) : Hp → R → Ends → Prop := fun F0 r D => ∀ (F' : Hp) (v : V) (H' : Hp), Fin G B F0 F' H' → rp B F' H' v r → D.rt v H'
def oC {S R : Type} (EX : S → Evr) (rp : RP R) : Hp → S ⊕ R → Ends → Prop := fun F0 c D => match c with
  | .inl s => oN G B EX F0 s D
  | .inr r => oR G B rp F0 r D
end
def rpF (G : Gb) {R : Type} [Rp R] : RP R := fun _ F' _ v r => rep G F' v r
def rpN (G : Gb) {R : Type} [Rp R] [Rc R] : RP R := fun B F' H' v r => ∃ p o, v = .ref p ∧ B p = none ∧ F' p = none ∧ H' p = some o ∧ con G F' o r
section
variable {G : Gb} {B : Hp} {E : XK} {ρ ρ' : Evr} {α β γ δ : Type} [Rp α] [Rp β] [Rp γ] [Rp δ] {md md' mr : Md} {ta tb tc te : TE} {g : TG} {ts : List Nat} {bind : α → Evr → Evr}
  {Ω S S' R : Type} {post : Hp → Ω → Ends → Prop} {EX : S → Evr} {EX' : S' → Evr} {rp : RP R} {t t1 t2 rest : TS}
theorem Rel.fin {F0 F H : Hp} {σ : L2.St} (R : Rel G B F0 F ρ σ H) : Fin G B F0 F H := ⟨R.sB, R.sF, R.s0, R.nw⟩
theorem Fin.under {F0 F F1 H H' : Hp} {σ : L2.St} (R : Rel G B F0 F ρ σ H) (f : Fin G B F F1 H') : Fin G B F0 F1 H' := ⟨f.sB, f.sF, R.s0.trans f.s0, fun a h q => by
  cases z : F a with
  | none => exact f.nw a z q
  | some o => exact R.nw a h (by rw [z]; exact fun z => nomatch z)⟩
theorem Fin.ext {F0 F F' H H' : Hp} (f : Fin G B F0 F H) (e : Ext F H F' H') (s : Same F' H') : Fin G B F0 F' H' := ⟨f.sB.trans e.h, s, f.s0.trans e.f, fun a h q => by
  cases z : F a with
  | none => exact f.sB.free (e.n a z q)
  | some o => exact f.nw a h (by rw [z]; exact fun z => nomatch z)⟩
theorem run_seq {m1 : M S} {k : S → M Ω} (h1 : Run G B E (oN G B EX) ρ t1 m1) (h2 : ∀ s, Run G B E post (EX s) t2 (k s)) : Run G B E post ρ (tSeq t1 t2) (m1.b k) := fun F0 F σ H D R q =>
  h1 F0 F σ H _ R ((M.P_b.mp q).imp (fun s q F' σ' H' R' => h2 s F0 F' σ' H' D R' q) fun _ x => x)
theorem run_seqR {m1 : M (S ⊕ R)} {k : S → M R} (h1 : Run G B E (oC G B EX rp) ρ t1 m1) (h2 : ∀ s, Run G B E (oR G B rp) (EX s) t2 (k s)) : Run G B E (oR G B rp) ρ (tSeq t1 t2) (m1.b (M.orR k)) := fun F0 F σ H D RR q =>
  h1 F0 F σ H _ RR ((M.P_b.mp q).imp (fun c q => by
    cases c with
    | inl s => exact fun F' σ' H' R' => h2 s F0 F' σ' H' D R' q
    | inr r => exact fun F' v H' f h => q F' v H' f h) fun _ x => x)
def M.orC {S S' R : Type} (k : S → M (S' ⊕ R)) : S ⊕ R → M (S' ⊕ R)
  | .inl s => k s
  | .inr r => .ok (.inr r)
theorem run_seqC {m1 : M (S ⊕ R)} {k : S → M (S' ⊕ R)} (h1 : Run G B E (oC G B EX rp) ρ t1 m1) (h2 : ∀ s, Run G B E (oC G B EX' rp) (EX s) t2 (k s)) : Run G B E (oC G B EX' rp) ρ (tSeq t1 t2) (m1.b (M.orC k)) := fun F0 F σ H D RR q =>
  h1 F0 F σ H _ RR ((M.P_b.mp q).imp (fun c q => by
    cases c with
    | inl s => exact fun F' σ' H' R' => h2 s F0 F' σ' H' D R' q
    | inr r => exact fun F' v H' f h => q F' v H' f h) fun _ x => x)
theorem run_last {m : M Ω} (h : Run G B E post ρ (tSeq t tNext) m) : Run G B E post ρ t m := h
theorem run_skip {m : M Ω} (h : Run G B E post ρ rest m) : Run G B E post ρ (tSeq tNext rest) m := h
theorem run_next {s : S} (w : Wk ρ (EX s)) : Run G B E (oN G B EX) ρ tNext (.ok s) := fun F0 F σ H D R q => q F σ H (R.weak w)
theorem run_nextC {s : S} (w : Wk ρ (EX s)) : Run G B E (oC G B EX rp) ρ tNext (.ok (.inl s)) := fun F0 F σ H D R q => q F σ H (R.weak w)
theorem run_freeze [Rc α] {i : Nat} {a : α} {m : M Ω} (h : ρ[i]? = some (some (.ow a))) (k : Run G B E post (ρ.set i (some (.fz a))) t m) : Run G B E post ρ t m := fun F0 F σ H D R q => by
  obtain ⟨F', R'⟩ := R.freeze h
  exact k F0 F' σ H D R' q
theorem run_weak {m : M Ω} (w : Wk ρ ρ') (k : Run G B E post ρ' t m) : Run G B E post ρ t m := fun F0 F σ H D R q => k F0 F σ H D (R.weak w) q
theorem run_asg {m : M α} {k : α → M Ω} (he : Ev G B E md ρ te m) (ht : Tgt G B md g ts bind) (hk : ∀ a, Run G B E post (bind a ρ) rest (k a)) : Run G B E post ρ (tSeq (tAsg te g) rest) (m.b k) := fun F0 F σ H D R q =>
  he.go R q fun a F' v H' e r R' q => ht F0 F' ρ σ H' v a _ R' r fun σ' _ R2 => hk a F0 F' σ' H' D R2 q
theorem run_asgN [Rc α] {i : Nat} {m : M α} {k : α → M Ω} (he : EvN G B E ρ te m) (hk : ∀ a, Run G B E post (ρ.set i (some (.ow a))) rest (k a)) : Run G B E post ρ (tSeq (tAsg te (gName i)) rest) (m.b k) := fun F0 F σ H D R q =>
  he.go R q fun a F' p o H' e h1 h2 h3 h4 R' q => hk a F0 F' _ H' D (R'.own (R.sB.free h1) h2 h3 h4 fun j s x hs hx f => R.fresh h1 j s x hs hx (Fp.lift (R.sl j s x hs hx) (fun b o _ z => e.h _ _ z) f)) q
theorem Rel.ow [Rc α] {F0 F H : Hp} {σ : L2.St} {i : Nat} {a : α} (R : Rel G B F0 F ρ σ H) (h : ρ[i]? = some (some (.ow a))) : ∃ p o, σ[i]? = some (some (.ref p)) ∧ B p = none ∧ F p = none ∧ H p = some o ∧ con G F o a := by
  obtain ⟨x, e, p, o, rfl, h1, h2, h3, h4⟩ := R.at h
  exact ⟨p, o, e, h1, h2, h3, h4⟩
theorem run_append {i : Nat} {l : List α} {m : M α} {k : α → M Ω} (h : ρ[i]? = some (some (.ow l))) (he : Ev G B E .F ρ te m) (hk : ∀ a, Run G B E post (ρ.set i (some (.ow (l ++ [a])))) rest (k a)) :
    Run G B E post ρ (tSeq (tDrop (tBM G.K "list" rAppend (tVar i) (tCons te tNil))) rest) (m.b fun a => .chk (l.length < sizeLine) (k a)) := fun F0 F σ H D R q => by
  obtain ⟨p, o, e, h1, h2, h3, vs, rfl, h4⟩ := R.ow h
  refine ⟨_, e, .inl ⟨rfl, vs, .of h3⟩, he.go R q fun a F' v H' e' r R' q => ?_⟩
  obtain ⟨c, q⟩ := M.P_chk.mp q
  have f2 := e'.non h3 h2
  refine ⟨p, vs, v, rfl, rfl, e'.h _ _ h3, by rw [h4.len]; exact c, hk a F0 F' σ _ D ?_ q⟩
  exact R'.change h (show _ = _ from rfl) e h1 f2 ⟨_, rfl, (reps_mono e'.f h4).snoc r⟩
theorem run_if {c : TT} {mc : M Bool} {m n : M Ω} (hc : EvT G B E ρ c mc) (h1 : Run G B E post ρ t1 m) (h2 : Run G B E post ρ t2 n) : Run G B E post ρ (tIfS c t1 t2) (mc.b fun x => if x = true then m else n) := fun F0 F σ H D R q =>
  hc.go R q fun x F' H' e R' q => by
    cases x with
    | true => exact iteT (h1 F0 F' σ H' D R' q)
    | false => exact iteF (h2 F0 F' σ H' D R' q)
theorem run_ifS {c : TT} {mc : M Bool} {m n : M Ω} (hc : EvT G B E ρ c mc) (h1 : Run G B E post ρ (tSeq t1 rest) m) (h2 : Run G B E post ρ (tSeq t2 rest) n) : Run G B E post ρ (tSeq (tIfS c t1 t2) rest) (mc.b fun x => if x = true then m else n) := fun F0 F σ H D R q =>
  hc.go R q fun x F' H' e R' q => by
    cases x with
    | true => exact iteT (h1 F0 F' σ H' D R' q)
    | false => exact iteF (h2 F0 F' σ H' D R' q)
theorem run_ret {m : M α} (h : Ev G B E .F ρ te m) : Run G B E (oR G B (rpF G)) ρ (tRet te) m := fun F0 F σ H D R q => h F0 F σ H _ R (q.imp (fun a k F' v H' e s r => k F' v H' (R.ext e s).fin r) fun _ x => x)
theorem run_retC {m : M α} (h : Ev G B E .F ρ te m) : Run G B E (oC G B EX (rpF G)) ρ (tRet te) (m.b fun a => .ok (.inr a)) := fun F0 F σ H D R q => h.go R q fun a F' v H' e r R' q => q F' v H' R'.fin r
theorem run_retN [Rc α] {m : M α} (h : EvN G B E ρ te m) : Run G B E (oR G B (rpN G)) ρ (tRet te) m := fun F0 F σ H D R q => h F0 F σ H _ R (q.imp (fun a k F' p o H' e s h1 h2 h3 h4 => k F' _ H' (R.ext e s).fin ⟨p, o, rfl, R.sB.free h1, h2, h3, h4⟩) fun _ x => x)
theorem run_for {α : Type} {wi : TI} {bind : α → Evr → Evr} {mx : M (List α)} {f : S → α → M S} {s0 : S} (hw : EvW G B E true ρ wi g ts bind mx) (h0 : Wk ρ (EX s0)) (hb : ∀ s x, Run G B E (oN G B EX) (bind x (EX s)) t (f s x)) :
    Run G B E (oN G B EX) ρ (tFor wi g t) (mx.b fun xs => M.for_ f xs s0) := fun F0 F σ H D R q => hw F0 F σ H _ R ((M.P_b.mp q).imp (fun xs q F1 H1 J e1 s1 wk => by
  have R1 := R.ext e1 s1
  refine ⟨fun i k σ2 H2 => k = xs.length - i ∧ i ≤ xs.length ∧ ∃ (F2 : Hp) (s : S), Rel G B F1 F2 (EX s) σ2 H2 ∧ (M.for_ f (xs.drop i) s).P (fun s => oN G B EX F0 s D) (Xc G B E), ⟨xs.length, by simp, Nat.zero_le _, F1, s0, (R1.weak h0).base, by rw [List.drop_zero]; exact q⟩, ?_⟩
  rintro i k σ2 H2 ⟨rfl, hi, F2, s, R2, q2⟩
  obtain ⟨w1, w2⟩ := wk i F1 F2 _ _ H2 ⟨R2.s0, fun z => nomatch z⟩ R2
  by_cases hlt : i < xs.length
  · have hx : xs[i]? = some xs[i] := List.getElem?_eq_getElem hlt
    obtain ⟨g1, g2⟩ := w2 xs[i] hx
    rw [List.drop_eq_getElem_cons hlt] at q2
    refine .inr ⟨g1, fun σ3 H3 => ∃ m', m' < xs.length - i ∧ (m' = xs.length - (i + 1) ∧ i + 1 ≤ xs.length ∧ ∃ (F2 : Hp) (s : S), Rel G B F1 F2 (EX s) σ3 H3 ∧ (M.for_ f (xs.drop (i + 1)) s).P (fun s => oN G B EX F0 s D) (Xc G B E)), fun _ _ z => z, fun v H3 hy => g2 v H3 hy _ fun F3 σ3 H4 e3 _ R3 => ?_⟩
    refine hb s xs[i] F1 F3 σ3 H4 _ R3 ((M.P_b.mp q2).imp (fun s' q3 F' σ' H' R' => ⟨_, by omega, rfl, hlt, F', s', R', q3⟩) fun _ x => x)
  · have e : i = xs.length := by omega
    subst e
    rw [List.drop_length] at q2
    exact .inl ⟨w1 (Nat.le_refl _), q2 F2 σ2 H2 (R1.under R2)⟩) fun _ x => x)
theorem run_forR {α : Type} {wi : TI} {bind : α → Evr → Evr} {mx : M (List α)} {f : S → α → M (S ⊕ R)} {s0 : S} (hw : EvW G B E true ρ wi g ts bind mx) (h0 : Wk ρ (EX s0)) (hb : ∀ s x, Run G B E (oC G B EX rp) (bind x (EX s)) t (f s x)) :
    Run G B E (oC G B EX rp) ρ (tFor wi g t) (mx.b fun xs => M.forR f xs s0) := fun F0 F σ H D RR q => hw F0 F σ H _ RR ((M.P_b.mp q).imp (fun xs q F1 H1 J e1 s1 wk => by
  have R1 := RR.ext e1 s1
  refine ⟨fun i k σ2 H2 => k = xs.length - i ∧ i ≤ xs.length ∧ ∃ (F2 : Hp) (s : S), Rel G B F1 F2 (EX s) σ2 H2 ∧ (M.forR f (xs.drop i) s).P (fun s => oC G B EX rp F0 s D) (Xc G B E), ⟨xs.length, by simp, Nat.zero_le _, F1, s0, (R1.weak h0).base, by rw [List.drop_zero]; exact q⟩, ?_⟩
  rintro i k σ2 H2 ⟨rfl, hi, F2, s, R2, q2⟩
  obtain ⟨w1, w2⟩ := wk i F1 F2 _ _ H2 ⟨R2.s0, fun z => nomatch z⟩ R2
  by_cases hlt : i < xs.length
  · have hx : xs[i]? = some xs[i] := List.getElem?_eq_getElem hlt
    obtain ⟨g1, g2⟩ := w2 xs[i] hx
    rw [List.drop_eq_getElem_cons hlt, M.forR_cons] at q2
    refine .inr ⟨g1, fun σ3 H3 => ∃ m', m' < xs.length - i ∧ (m' = xs.length - (i + 1) ∧ i + 1 ≤ xs.length ∧ ∃ (F2 : Hp) (s : S), Rel G B F1 F2 (EX s) σ3 H3 ∧ (M.forR f (xs.drop (i + 1)) s).P (fun s => oC G B EX rp F0 s D) (Xc G B E)), fun _ _ z => z, fun v H3 hy => g2 v H3 hy _ fun F3 σ3 H4 e3 _ R3 => ?_⟩
    refine hb s xs[i] F1 F3 σ3 H4 _ R3 ((M.P_b.mp q2).imp (fun c q3 => ?_) fun _ x => x)
    cases c with
    | inl s' => exact fun F' σ' H' R' => ⟨_, by omega, rfl, hlt, F', s', R', q3⟩
    | inr r => exact fun F' v H' f h => q3 F' v H' (Fin.under R1 f) h
  · have e : i = xs.length := by omega
    subst e
    rw [List.drop_length] at q2
    exact .inl ⟨w1 (Nat.le_refl _), q2 F2 σ2 H2 (R1.under R2)⟩) fun _ x => x)
end
end Tw
set_option Elab.async false
set_option linter.all false
set_option maxRecDepth 100000
set_option maxHeartbeats 4000000
namespace Tw
open PySem PySem.Spec L2 TL
open PyProof.Rows hiding St
def leS (a b : Str) : Bool := !decide (tl b < tl a)
abbrev Sorted (l : List Str) : Prop := l.Pairwise fun a b => leS a b = true
theorem Sorted.filter {l : List Str} (p : Str → Bool) (h : Sorted l) : Sorted (l.filter p) := List.Pairwise.filter p h
end Tw
set_option Elab.async false
set_option linter.all false
set_option maxRecDepth 100000
set_option maxHeartbeats 4000000
namespace Tw
open PySem PySem.Spec L2 TL
open PyProof.Rows hiding St
/-- nothing is refused -/
def M.cl {α : Type} : M α → M α
  | .exc _ => .bad
  | m => m
@[simp] theorem M.cl_ok {α : Type} (a : α) : M.cl (.ok a) = .ok a := rfl
theorem M.P_cl {α : Type} {m : M α} {p : α → Prop} {x : Str → Prop} (h : m.cl.P p x) : m.P p fun _ => False := by
  cases m with
  | ok a => exact h
  | exc c => exact h
  | bad => exact h
def ArgOk (G : Gb) (F H : Hp) : List Slot → List V → Prop
  | [], [] => True
  | @Slot.fz _ i a :: ss, v :: vs => @Rp.rep _ i G F v a ∧ ArgOk G F H ss vs
  | @Slot.bw _ i a :: ss, v :: vs => @Rp.rep _ i G H v a ∧ ArgOk G F H ss vs
  | _, _ => False
/-- what a def promises: f over plain data -/
def spA (G : Gb) {P R : Type} (sl : P → List Slot) (rp : RP R) (f : P → M R) : Sp := fun vs H Q E => ∃ (p : P) (F0 : Hp), Same F0 H ∧ ArgOk G F0 H (sl p) vs ∧
  (f p).P (fun r => ∀ (F' : Hp) (v : V) (H' : Hp), Fin G H F0 F' H' → rp H F' H' v r → Q v H') (Xc G H E)
/-- how an argument is handed on -/
def Ps {α : Type} [Rp α] (md : Md) (k : α → Slot) : Prop := ∀ {G : Gb} {B F H : Hp} {v : V} {a : α}, Same B H → Same F H → rep G (hpM md F B H) v a → ∀ {ss : List Slot} {vs : List V}, ArgOk G F H ss vs → ArgOk G F H (k a :: ss) (v :: vs)
theorem ps_F {α : Type} [Rp α] : Ps (α := α) .F Slot.fz := fun _ _ r => fun q => ⟨r, q⟩
theorem ps_B {α : Type} [Rp α] {md : Md} : Ps (α := α) md Slot.bw := fun s1 s2 r => fun q => ⟨Rp.mono (hpM_H s1 s2) r, q⟩
theorem Fin.ext0 {G : Gb} {H F F' H' : Hp} (f : Fin G H F F' H') : Ext F H F' H' := ⟨f.s0, f.sB, f.nw⟩
theorem Xc.mono {G : Gb} {B H : Hp} {E : XK} {c : Str} (h : Xc G B E c) (s : Same B H) : Xc G H E c := fun H' s' => h H' (s.trans s')
section
variable {G : Gb} {B : Hp} {E : XK} {ρ : Evr} {mr : Md}
theorem ev_call1 {R : Type} [Rp R] {α1 : Type} [Rp α1] {k1 : α1 → Slot} {d1 : Md} {m1 : M α1} {t1 : TE} {f : α1 → M R} (h1 : Ev G B E d1 ρ t1 m1) (p1 : Ps d1 k1) : Ev G B E .F ρ (tCall (spA G (fun (p : α1) => [k1 p]) (rpF G) (fun (p : α1) => f (p))) [] E0 (tCons t1 tNil)) (m1.b fun a1 => M.cl (f a1)) := fun F0 F σ H Q R0 q => by
  refine h1.go R0 q fun a1 F1 v1 H1 e1 r1 R1 q => ?_
  refine ⟨a1, F1, R1.sF, (p1 R1.sB R1.sF r1 trivial), ?_⟩
  refine (M.P_cl q).imp (fun a k F' v H' f h => ?_) fun _ z => z.elim
  have e := f.ext0
  exact k F' v H' (e1.trans e) f.sF h
theorem ev_callX1 {R : Type} [Rp R] {α1 : Type} [Rp α1] {k1 : α1 → Slot} {d1 : Md} {m1 : M α1} {t1 : TE} {f : α1 → M R} (h1 : Ev G B E d1 ρ t1 m1) (p1 : Ps d1 k1) : Ev G B E .F ρ (tCall (spA G (fun (p : α1) => [k1 p]) (rpF G) (fun (p : α1) => f (p))) [] E (tCons t1 tNil)) (m1.b fun a1 => f a1) := fun F0 F σ H Q R0 q => by
  refine h1.go R0 q fun a1 F1 v1 H1 e1 r1 R1 q => ?_
  refine ⟨a1, F1, R1.sF, (p1 R1.sB R1.sF r1 trivial), ?_⟩
  refine M.P.imp q (fun a k F' v H' f h => ?_) fun _ z => z.mono R1.sB
  have e := f.ext0
  exact k F' v H' (e1.trans e) f.sF h
theorem en_callX1 {R : Type} [Rp R] [Rc R] {α1 : Type} [Rp α1] {k1 : α1 → Slot} {d1 : Md} {m1 : M α1} {t1 : TE} {f : α1 → M R} (h1 : Ev G B E d1 ρ t1 m1) (p1 : Ps d1 k1) : EvN G B E ρ (tCall (spA G (fun (p : α1) => [k1 p]) (rpN G) (fun (p : α1) => f (p))) [] E (tCons t1 tNil)) (m1.b fun a1 => f a1) := fun F0 F σ H Q R0 q => by
  refine h1.go R0 q fun a1 F1 v1 H1 e1 r1 R1 q => ?_
  refine ⟨a1, F1, R1.sF, (p1 R1.sB R1.sF r1 trivial), ?_⟩
  refine M.P.imp q (fun a k F' v H' f h => ?_) fun _ z => z.mono R1.sB
  have e := f.ext0
  obtain ⟨p, o, rfl, h1, h2, h3, h4⟩ := h
  exact k F' p o H' (e1.trans e) f.sF (e1.h.free h1) h2 h3 h4
theorem ev_call2 {R : Type} [Rp R] {α1 : Type} [Rp α1] {α2 : Type} [Rp α2] {k1 : α1 → Slot} {k2 : α2 → Slot} {d1 : Md} {d2 : Md} {m1 : M α1} {t1 : TE} {m2 : M α2} {t2 : TE} {f : α1 → α2 → M R} (h1 : Ev G B E d1 ρ t1 m1) (p1 : Ps d1 k1) (h2 : Ev G B E d2 ρ t2 m2) (p2 : Ps d2 k2) : Ev G B E .F ρ (tCall (spA G (fun (p : α1 × α2) => [k1 p.1, k2 p.2]) (rpF G) (fun (p : α1 × α2) => f (p.1) (p.2))) [] E0 (tCons t1 (tCons t2 tNil))) (m1.b fun a1 => m2.b fun a2 => M.cl (f a1 a2)) := fun F0 F σ H Q R0 q => by
  refine h1.go R0 q fun a1 F1 v1 H1 e1 r1 R1 q => ?_
  refine h2.go R1 q fun a2 F2 v2 H2 e2 r2 R2 q => ?_
  refine ⟨(a1, a2), F2, R2.sF, (p1 R2.sB R2.sF (Rp.mono (hpM_ext e2) r1) (p2 R2.sB R2.sF r2 trivial)), ?_⟩
  refine (M.P_cl q).imp (fun a k F' v H' f h => ?_) fun _ z => z.elim
  have e := f.ext0
  exact k F' v H' ((e1.trans e2).trans e) f.sF h
end
end Tw
set_option Elab.async false
set_option linter.all false
set_option maxRecDepth 100000
set_option maxHeartbeats 4000000
namespace Tw
open PySem PySem.Spec L2 TL
open PyProof.Rows hiding St
theorem arg_all {G : Gb} {F H : Hp} : ∀ {ss : List Slot} {vs : List V}, ArgOk G F H ss vs → All2 (fun s v => SlOk G H F H (some s) (some v) ∧ isOw (some s) = false) ss vs
  | [], [], _ => .nil
  | @Slot.fz _ i a :: ss, v :: vs, h => .cons ⟨⟨v, rfl, h.1⟩, rfl⟩ (arg_all h.2)
  | @Slot.bw _ i a :: ss, v :: vs, h => .cons ⟨⟨v, rfl, h.1⟩, rfl⟩ (arg_all h.2)
  | @Slot.ow _ _ _ _ :: _, _, h => by cases h
  | @Slot.lk _ _ _ _ _ _ _ :: _, _, h => by cases h
  | Slot.dr _ _ :: _, _, h => by cases h
  | @Slot.dd _ _ _ _ _ _ _ _ :: _, _, h => by cases h
  | Slot.ins _ _ _ _ _ :: _, _, h => by cases h
  | @Slot.rg _ _ _ _ :: _, _, h => by cases h
  | @Slot.al _ _ _ _ :: _, _, h => by cases h
  | @Slot.sh _ _ _ :: _, _, h => by cases h
  | Slot.vl _ :: _, _, h => by cases h
  | [], _ :: _, h => by cases h
  | @Slot.fz _ _ _ :: _, [], h => by cases h
  | @Slot.bw _ _ _ :: _, [], h => by cases h
theorem arg_at {G : Gb} {F H : Hp} {ss : List Slot} {vs : List V} {n i : Nat} {s : Option Slot} (h : All2 (fun s v => SlOk G H F H (some s) (some v) ∧ isOw (some s) = false) ss vs) (hs : (ss.map some ++ List.replicate n none)[i]? = some s) :
    isOw s = false ∧ ∀ x, (vs.map some ++ List.replicate n none)[i]? = some x → SlOk G H F H s x := by
  by_cases hi : i < ss.length
  · rw [List.getElem?_append_left (by rw [List.length_map]; exact hi), List.getElem?_map, List.getElem?_eq_getElem hi] at hs
    obtain ⟨v, ev, h1, h2⟩ := h.get (List.getElem?_eq_getElem hi)
    cases hs
    refine ⟨h2, fun x hx => ?_⟩
    rw [List.getElem?_append_left (by rw [List.length_map, ← h.len]; exact hi), List.getElem?_map, ev] at hx
    cases hx
    exact h1
  · rw [List.getElem?_append_right (by rw [List.length_map]; omega), List.getElem?_replicate] at hs
    split at hs
    · cases hs
      exact ⟨rfl, fun _ _ => trivial⟩
    · cases hs
theorem rel_args {G : Gb} {F H : Hp} {ss : List Slot} {vs : List V} (n : Nat) (s : Same F H) (h : ArgOk G F H ss vs) : Rel G H F F (ss.map some ++ List.replicate n none) (vs.map some ++ List.replicate n none) H where
  sB := .refl _
  sF := s
  s0 := .refl _
  nw := fun a h q => absurd h q
  len := by rw [List.length_append, List.length_append, List.length_map, List.length_map, (arg_all h).len]; simp
  sl := fun i s x hs hx => (arg_at (arg_all h) hs).2 x hx
  ds := fun i j s t x y b hi _ _ _ f _ => by have := (arg_at (arg_all h) hi).1; rw [f.own] at this; cases this
section
variable {G : Gb} {P R : Type} {sl : P → List Slot} {rp : RP R} {f : P → M R} {N : List Str} {n k : Nat} {vs : List V} {H : Hp} {Q : VK} {E : XK} {t : TS}
theorem spA_len (hs : spA G sl rp f vs H Q E) (hk : ∀ p, (sl p).length = k) : vs.length = k := by
  obtain ⟨p, F0, _, a, _⟩ := hs
  rw [← (arg_all a).len, hk]
theorem spA_run (hs : spA G sl rp f vs H Q E) (hn : ∀ p, N.length = (sl p).length + n) (h : ∀ p B, Run G B E (oR G B rp) ((sl p).map some ++ List.replicate n none) t (f p)) : t (dEnd Q) (start N vs) H := by
  obtain ⟨p, F0, s, a, q⟩ := hs
  have e : N.length - vs.length = n := by rw [← (arg_all a).len, hn p]; omega
  rw [start_of, e]
  exact h p H F0 F0 _ H _ (rel_args n s a) (q.imp (fun r k F' v H' f h => k F' v H' f h) fun _ x => x)
/-- the law itself -/
theorem spA_law {f : Scr → M Bool} {a : Addr} {ns : List Int} (hl : SqL G.K H a (ns.map V.int)) (hf : f ⟨ns⟩ = .ok true) (hq : ∀ H', Q (.bl true) H') : spA G (fun p : Scr => [.bw p]) (rpF G) f [.ref a] H Q E :=
  ⟨⟨ns⟩, fun _ => none, (fun _ _ e => nomatch e), ⟨⟨a, rfl, hl⟩, trivial⟩, by rw [hf]; exact fun F' v H' _ h => by rw [show v = .bl true from h]; exact hq H'⟩
end
end Tw
set_option Elab.async false
set_option linter.all false
set_option maxRecDepth 100000
set_option maxHeartbeats 4000000
namespace Tw
open PySem PySem.Spec L2 TL
open PyProof.Rows hiding St
section
variable {G : Gb} {B : Hp} {E : XK} {ρ ρ' : Evr} {α β γ δ : Type} [Rp α] [Rp β] [Rp γ] [Rp δ] {md md' mr : Md} {ta tb tc td te : TE} {Ω S S' R : Type} {post : Hp → Ω → Ends → Prop} {EX : S → Evr} {rp : RP R} {t t1 t2 rest : TS}
theorem evT_oro {t u : TT} {a b : Bool} (h : EvT G B E ρ t (.ok a)) (k : EvT G B E ρ u (.ok b)) : EvT G B E ρ (tOr t u) (.ok (a || b)) := fun F0 F σ H Q R q => h F0 F σ H _ R fun F' H' e s => by
  cases a with
  | true => exact q F' H' e s
  | false => exact k F0 F' σ H' Q (R.ext e s) fun F2 H2 e2 s2 => q F2 H2 (e.trans e2) s2
theorem run_cutR {m : M R} (h : Run G B E (oR G B rp) ρ t m) : Run G B E (oR G B rp) ρ (tSeq t rest) m := fun F0 F σ H D RR q => h F0 F σ H _ RR q
theorem run_cutC {m : M R} (h : Run G B E (oR G B rp) ρ t m) : Run G B E (oC G B EX rp) ρ (tSeq t rest) (m.b fun r => .ok (.inr r)) := fun F0 F σ H D RR q => h F0 F σ H _ RR ((M.P_b.mp q).imp (fun _ k => k) fun _ x => x)
end
end Tw
set_option Elab.async false
set_option linter.all false
set_option maxRecDepth 100000
set_option maxHeartbeats 4000000
namespace Tw
open PySem PySem.Spec L2 TL
open PyProof.Rows hiding St
section
variable {G : Gb} {B : Hp} {E : XK} {ρ ρ' : Evr} {α β γ δ : Type} [Rp α] [Rp β] [Rp γ] [Rp δ] {md md' mr : Md} {ta tb tc te : TE} {g : TG} {ts : List Nat} {bind : α → Evr → Evr}
  {Ω S S' R : Type} {post : Hp → Ω → Ends → Prop} {EX : S → Evr} {EX' : S' → Evr} {rp : RP R} {t t1 t2 rest : TS} {i : Nat} {p : Addr} {rows : RowsT}
theorem Rel.dr {F0 F H : Hp} {σ : L2.St} (R : Rel G B F0 F ρ σ H) (h : ρ[i]? = some (some (.dr p rows))) : ∃ cs, σ[i]? = some (some (.ref p)) ∧ Rows H p cs ∧ cs.map RC.r = rows ∧ ∀ b, FpR p cs b → B b = none ∧ F b = none := by
  obtain ⟨x, e, cs, rfl, h1, h2, h3⟩ := R.at h
  exact ⟨cs, e, h1, h2, h3⟩
theorem Rows.ext {F H F' H' : Hp} {cs : List RC} (h : Rows H p cs) (e : Ext F H F' H') : Rows H' p cs := h.keep fun _ _ _ z => e.h _ _ z
/-- a row more -/
theorem Rows.snoc {H : Hp} {cs : List RC} {n : Str} {ts : List Str} {t l : Addr} (h : Rows H p cs) (ht : H t = some (.tup [.str n, .ref l])) (hl : H l = some (.lst (ts.map V.str))) (nl : ∀ c ∈ cs, c.l ≠ l) (np : l ≠ p) :
    Rows (upd H p (.lst ((cs.map fun c => V.ref c.p) ++ [.ref t]))) p (cs ++ [⟨t, l, n, ts⟩]) := by
  have tp : t ≠ p := fun e => by rw [e, h.top] at ht; cases ht
  have cp : ∀ c ∈ cs, c.p ≠ p := fun c hc e => by have := h.tp c hc; rw [e, h.top] at this; cases this
  refine ⟨by rw [upd_same, List.map_append]; rfl, fun c hc => ?_, fun c hc => ?_, ?_, fun c hc => ?_⟩
  · rcases List.mem_append.mp hc with w | w
    · rw [upd_ne (cp c w)]; exact h.tp c w
    · rw [List.mem_singleton.mp w, upd_ne tp]; exact ht
  · rcases List.mem_append.mp hc with w | w
    · rw [upd_ne (h.ne c w)]; exact h.ls c w
    · rw [List.mem_singleton.mp w, upd_ne np]; exact hl
  · rw [List.map_append, List.nodup_append]
    refine ⟨h.nl, by simp, fun a ha b hb => ?_⟩
    obtain ⟨c, hc, rfl⟩ := List.mem_map.mp ha
    rw [show b = l by simpa using hb]
    exact nl c hc
  · rcases List.mem_append.mp hc with w | w
    · exact h.ne c w
    · rw [List.mem_singleton.mp w]; exact np
theorem erase_map {α β : Type} (f : α → β) : ∀ (l : List α) (n : Nat), (l.map f).eraseIdx n = (l.eraseIdx n).map f
  | [], _ => rfl
  | _ :: _, 0 => rfl
  | a :: r, n + 1 => congrArg (f a :: ·) (erase_map f r n)
/-- the n-th row goes -/
theorem Rows.erase {H : Hp} {cs : List RC} (n : Nat) (h : Rows H p cs) : Rows (upd H p (.lst ((cs.map fun c => V.ref c.p).eraseIdx n))) p (cs.eraseIdx n) := by
  have sub : ∀ c, c ∈ cs.eraseIdx n → c ∈ cs := fun c hc => (List.eraseIdx_sublist cs n).subset hc
  have cp : ∀ c ∈ cs, c.p ≠ p := fun c hc e => by have := h.tp c hc; rw [e, h.top] at this; cases this
  refine ⟨by rw [upd_same, erase_map], fun c hc => by rw [upd_ne (cp c (sub c hc))]; exact h.tp c (sub c hc), fun c hc => by rw [upd_ne (h.ne c (sub c hc))]; exact h.ls c (sub c hc), ?_, fun c hc => h.ne c (sub c hc)⟩
  exact ((List.eraseIdx_sublist cs n).map RC.l).nodup h.nl
end
end Tw
set_option Elab.async false
set_option linter.all false
set_option maxRecDepth 100000
set_option maxHeartbeats 4000000
set_option Elab.async false
set_option linter.all false
set_option maxRecDepth 100000
set_option maxHeartbeats 4000000
set_option Elab.async false
set_option linter.all false
set_option maxRecDepth 100000
set_option maxHeartbeats 4000000
namespace Tw
open PySem PySem.Spec L2 TL
open PyProof.Rows hiding St
section
variable {G : Gb} {B : Hp} {E : XK} {ρ ρ' : Evr} {α β κ : Type} [Rp α] [Rp κ] [DecidableEq κ] [Ky κ] {md md' mr : Md} {ta tb tc te : TE}
  {Ω S R : Type} {post : Hp → Ω → Ends → Prop} {EX : S → Evr} {rp : RP R} {t rest : TS} {i : Nat} {p : Addr} {d : List (κ × List α)}
theorem Rel.dd {F0 F H : Hp} {σ : L2.St} (R : Rel G B F0 F ρ σ H) (h : ρ[i]? = some (some (.dd p d))) : ∃ es, σ[i]? = some (some (.ref p)) ∧ DlOk G F H p es d ∧ ∀ b, FpD p es b → B b = none ∧ F b = none := by
  obtain ⟨x, e, es, rfl, h1, h3⟩ := R.at h
  exact ⟨es, e, h1, h3⟩
theorem Rel.drop {F0 F H : Hp} {σ : L2.St} (R : Rel G B F0 F ρ σ H) (i : Nat) : Rel G B F0 F (ρ.set i none) σ H := by
  refine ⟨R.sB, R.sF, R.s0, R.nw, by rw [List.length_set]; exact R.len, fun j t y hj hy => ?_, fun j k t u y z b hj hy hk hz f g => ?_⟩
  · rcases set_at hj with ⟨rfl, rfl, _⟩ | ⟨_, hj⟩
    · exact trivial
    · exact R.sl j t y hj hy
  · rcases set_at hj with ⟨rfl, rfl, _⟩ | ⟨_, hj⟩
    · cases f
    · rcases set_at hk with ⟨rfl, rfl, _⟩ | ⟨_, hk⟩
      · cases g
      · exact R.ds j k t u y z b hj hy hk hz f g
end
end Tw
set_option Elab.async false
set_option linter.all false
set_option maxRecDepth 100000
set_option maxHeartbeats 4000000
namespace Tw
open PySem PySem.Spec L2 TL
open PyProof.Rows hiding St
section
variable {G : Gb} {B : Hp} {E : XK} {ρ ρ' : Evr} {α β γ δ : Type} [Rp α] [Rp β] [Rp γ] [Rp δ] {md md' mr : Md} {ta tb tc te : TE} {g : TG} {ts : List Nat} {bind : α → Evr → Evr}
  {Ω S S' R : Type} {post : Hp → Ω → Ends → Prop} {EX : S → Evr} {EX' : S' → Evr} {rp : RP R} {t t1 t2 rest : TS}
def Anti (rp : RP R) : Prop := ∀ {B B' F' H' : Hp} {v : V} {r : R}, Same B B' → rp B' F' H' v r → rp B F' H' v r
theorem antiF {G : Gb} {R : Type} [Rp R] : Anti (rpF G : RP R) := fun _ h => h
end
end Tw
set_option Elab.async false
set_option linter.all false
set_option maxRecDepth 100000
set_option maxHeartbeats 4000000
namespace Tw
open PySem PySem.Spec L2 TL
open PyProof.Rows hiding St
/-- a thing without lists and dicts -/
class Im (α : Type) [Rp α] : Prop where
  im : ∀ {G : Gb} {H H' : Hp} {v : V} {a : α}, (∀ b xs, H b = some (.tup xs) → H' b = some (.tup xs)) → rep G H v a → rep G H' v a
instance : Im Int := ⟨fun _ h => h⟩
instance : Im Bool := ⟨fun _ h => h⟩
instance : Im Str := ⟨fun _ h => h⟩
instance : Im Unit := ⟨fun _ h => h⟩
section
variable {α β γ δ : Type} [Rp α] [Rp β] [Rp γ] [Rp δ]
instance [Im α] [Im β] : Im (α × β) := ⟨fun s ⟨p, v, w, e, h, h1, h2⟩ => ⟨p, v, w, e, s _ _ h, Im.im s h1, Im.im s h2⟩⟩
instance [Im α] [Im β] [Im γ] : Im (T3 α β γ) := ⟨fun s ⟨p, v, w, u, e, h, h1, h2, h3⟩ => ⟨p, v, w, u, e, s _ _ h, Im.im s h1, Im.im s h2, Im.im s h3⟩⟩
instance [Im α] [Im β] [Im γ] [Im δ] : Im (T4 α β γ δ) := ⟨fun s ⟨p, v, w, u, z, e, h, h1, h2, h3, h4⟩ => ⟨p, v, w, u, z, e, s _ _ h, Im.im s h1, Im.im s h2, Im.im s h3, Im.im s h4⟩⟩
theorem Im.reps [Im α] {G : Gb} {H H' : Hp} {vs : List V} {as : List α} (s : ∀ b xs, H b = some (.tup xs) → H' b = some (.tup xs)) (h : Tw.reps G H vs as) : Tw.reps G H' vs as := h.imp fun _ _ q => Im.im s q
end
section
variable (G : Gb) (B : Hp) (E : XK) {α : Type} [Rp α]
/-- what is told stands in a region that is new -/
def EvR (ρ : Evr) (te : TE) (m : M α) : Prop := ∀ (F0 F : Hp) (σ : L2.St) (H : Hp) (Q : VK), Rel G B F0 F ρ σ H →
  m.P (fun a => ∀ (F1 Fr : Hp) (v : V) (H' : Hp), Ext F H F1 H' → Same F1 H' → Same Fr H' → (∀ b, Fr b ≠ none → H b = none ∧ F1 b = none) → rep G Fr v a → Q v H') (Xc G B E) → te σ H Q
end
section
variable {G : Gb} {B : Hp} {E : XK} {ρ : Evr} {α β : Type} [Rp α] [Rp β] {md md' mr : Md} {te : TE} {Ω : Type} {post : Hp → Ω → Ends → Prop} {rest : TS}
theorem reg_ext {F H F1 H' Fr : Hp} (e : Ext F H F1 H') (s : Same F1 H') (sr : Same Fr H') (n : ∀ b, Fr b ≠ none → H b = none ∧ F1 b = none) : Ext F H (un F1 (tups Fr)) H' ∧ Same (un F1 (tups Fr)) H' := by
  refine ⟨⟨fun b o z => un_l (e.f _ _ z), e.h, fun b z w => ?_⟩, fun b o z => ?_⟩
  · cases q : F1 b with
    | some o => exact e.n b z (by rw [q]; exact fun z => nomatch z)
    | none =>
      rw [un_r q] at w
      cases t : tups Fr b with
      | none => exact absurd t w
      | some o => exact (n b (by rw [(tups_some t).1]; exact fun z => nomatch z)).1
  · cases q : F1 b with
    | some u => rw [un_l q] at z; cases z; exact s _ _ q
    | none => rw [un_r q] at z; exact sr _ _ (tups_some z).1
theorem reg_tup {F1 Fr : Hp} {b : Addr} {xs : List V} (n : ∀ b, Fr b ≠ none → F1 b = none) (h : Fr b = some (.tup xs)) : un F1 (tups Fr) b = some (.tup xs) := by
  rw [un_r (n b (by rw [h]; exact fun z => nomatch z))]
  exact tups_of h
/-- a list told anew is one's own -/
theorem EvR.N [Im α] {m : M (List α)} (h : EvR G B E ρ te m) : EvN G B E ρ te m := fun F0 F σ H Q R q => h F0 F σ H Q R (q.imp (fun a k F1 Fr v H' e s sr n r => by
  obtain ⟨p, vs, rfl, h1, h2⟩ := r
  obtain ⟨e2, s2⟩ := reg_ext e s sr n
  have np := n p (by rw [h1]; exact fun z => nomatch z)
  refine k _ p _ H' e2 s2 np.1 ?_ (sr _ _ h1) ⟨vs, rfl, Im.reps (fun b xs z => reg_tup (fun b w => (n b w).2) z) h2⟩
  rw [un_r np.2]
  cases t : tups Fr p with
  | none => rfl
  | some o => obtain ⟨t1, xs, t2⟩ := tups_some t; rw [h1] at t1; cases t1; cases t2) fun _ x => x)
theorem Rel.rg {F0 F H : Hp} {σ : L2.St} {i : Nat} {Fr : Hp} {a : α} (R : Rel G B F0 F ρ σ H) (h : ρ[i]? = some (some (.rg Fr a))) : ∃ v, σ[i]? = some (some v) ∧ rep G (un (tups F) Fr) v a ∧ Same Fr H ∧ (∀ b, Fr b ≠ none → B b = none ∧ F b = none) ∧ (∀ b xs, Fr b ≠ some (.tup xs)) ∧ Same (un (tups F) Fr) H := by
  obtain ⟨x, e, v, rfl, h1, h2, h3, h4⟩ := R.at h
  refine ⟨v, e, h1, h2, h3, h4, fun b o z => ?_⟩
  cases q : tups F b with
  | some u => rw [un_l q] at z; cases z; exact R.sF _ _ (tups_some q).1
  | none => rw [un_r q] at z; exact h2 _ _ z
end
end Tw
set_option Elab.async false
set_option linter.all false
set_option maxRecDepth 100000
set_option maxHeartbeats 4000000
namespace Tw
open PySem PySem.Spec L2 TL
open PyProof.Rows hiding St
structure Anyt where
instance : Rp Anyt := ⟨fun _ _ _ _ => True, fun _ h => h⟩
/-- a list, whatever it holds -/
structure Shp where
instance : Rp Shp := ⟨fun _ H v _ => ∃ p vs, v = .ref p ∧ H p = some (.lst vs) ∧ vs.length ≤ 1000, fun s ⟨p, vs, e, h, l⟩ => ⟨p, vs, e, s _ _ h, l⟩⟩
class NotLs (α : Type) [Rp α] : Prop where
  no : ∀ {G : Gb} {H : Hp} {q : Addr} {a : α} {ws : List V}, rep G H (.ref q) a → H q ≠ some (.lst ws)
instance : NotLs Str := ⟨fun h => by cases (show V.ref _ = V.str _ from h)⟩
instance : NotLs Int := ⟨fun h => by cases (show V.ref _ = V.int _ from h)⟩
instance {α β : Type} [Rp α] [Rp β] : NotLs (α × β) := ⟨fun ⟨p, v, w, e, h, _⟩ z => by cases e; rw [h] at z; cases z⟩
end Tw
set_option Elab.async false
set_option linter.all false
set_option maxRecDepth 100000
set_option maxHeartbeats 4000000
namespace L2
open PySem PySem.Spec PyProof.Rows
end L2
set_option Elab.async false
set_option linter.all false
set_option maxRecDepth 100000
set_option maxHeartbeats 4000000
namespace Tw
open PySem PySem.Spec L2 TL
open PyProof.Rows hiding St
structure Dl (κ α : Type) where
  l : List (κ × α)
section
variable {κ α : Type} [Rp κ] [DecidableEq κ] [Ky κ] [Rp α]
instance : Rp (Dl κ α) where
  rep G H x a := ∃ p ob kvs, x = .ref p ∧ H p = some (.frz ob (.dK kvs)) ∧ repk G H kvs a.l
  mono := fun s ⟨p, ob, vs, e, h, h1⟩ => ⟨p, ob, vs, e, s _ _ h, repk_mono s h1⟩
end
end Tw
set_option Elab.async false
set_option linter.all false
set_option maxRecDepth 100000
set_option maxHeartbeats 4000000
set_option Elab.async false
set_option linter.all false
set_option maxRecDepth 100000
set_option maxHeartbeats 4000000
set_option Elab.async false
set_option linter.all false
set_option maxRecDepth 100000
set_option maxHeartbeats 4000000
namespace Tw
open PySem PySem.Spec L2 TL
open PyProof.Rows hiding St
theorem takesN {X : Cx} : L2N.Takes X (fun _ _ _ _ => False) := fun _ _ x => by
  obtain ⟨_, _, _, _, _, _, _, _, _, _, _, _, _, _, _, _, z⟩ := x
  exact z.elim
section
variable {P : Program} {w : World} {K : PySem.W.Frag} {mg : Str → Option Value} {base : Heap}
theorem okN {x qual : Str} {st : Stmt} {f : Addr} {fd : FuncData} {N ps : List Str} {k : Nat} {sp : Sp} (F : Fun K x qual st f fd) (S : FnScope N ps (defScope st)) (len : ∀ vs H Q E, sp vs H Q E → vs.length = ps.length)
    (hb : ∀ (cdv : Value) (A : Around) (outer : List Env) (s : Shared) (H : Hp) (vs : List V) (Q : VK) (E : XK), Room k (A.deeper (envOfC qual (defScope st) s.heap.objs.size f cdv)) → sp vs H Q E → ∃ t, PSs (cxOf (L2N.CX P w) P w K mg base N qual (defScope st) f cdv A outer s H E) (defBody st) t ∧ t (dEnd Q) (start N vs) H) :
    FnOk P w K mg base (L2N.CX P w) (k + 1) f fd ps sp := by
  obtain ⟨oc, od, kV, doc, pm, an, cdv, ct, osl, rfl, lk, hcd⟩ := F.ex
  exact fn_of lk hcd S len fun A outer s H vs Q E hr h => hb cdv A outer s H vs Q E hr h
end
abbrev tRaise (G : Gb) (E : XK) (c : Str) : TS := fun _ _ H => E (.ref (G.cl c)) none H
/-- an exception in hand: where it stands, its class -/
structure Exn where
  a : Addr
  c : Str
instance : Rp Exn := ⟨fun _ _ v e => v = .ref e.a, fun _ h => h⟩
instance : Sc Exn := ⟨fun e => .ref e.a, fun _ _ _ _ => Iff.rfl⟩
def excIs (c T : Str) : Bool := decide (c = T) || decide (T = Str.ofString "NetError")
class ExF (G : Gb) (cs ts : List Str) : Prop where
  exc : ∀ c ∈ cs, ExcC G.K (G.cl c)
  one : ∀ c ∈ cs, ∀ T ∈ ts, PySem.W.kitOne G.K (.ref (G.cl c)) (.ref (G.cl T)) = some (excIs c T)
  vE : ∀ c ∈ cs, PySem.W.kitOne G.K (.ref (G.cl c)) (.type "ValueError") = some true
  exm : ∀ c ∈ cs, ∀ T ∈ ts, PySem.W.exmOne G.K (.ref (G.cl c)) (.ref (G.cl T)) = some (excIs c T)
theorem kit_ref {K : PySem.W.Frag} {D C : Addr} {b : Bool} (hs : PySem.W.subIn K (.ref D) (.ref D) = some true) (hd : PySem.W.hasDictIn K C = true) (ht : PySem.W.typeIn K (.ref C) = some (.type "type")) (h : PySem.W.subIn K (.ref D) (.ref C) = some b) : PySem.W.kitOne K (.ref D) (.ref C) = some b := by
  unfold PySem.W.kitOne
  by_cases e : (Value.ref D == Value.ref C) = true
  · rw [if_pos e]
    have e2 : D = C := Value.ref.inj (beq_iff_eq.mp e)
    rw [← e2, hs] at h
    exact h
  · rw [if_neg e]
    obtain ⟨cd, hc, _⟩ := PySem.W.any_some hd
    have e2 : ((PySem.W.clsIn K C).isSome && PySem.W.typeIn K (.ref C) == some (.type "type")) = true := by rw [hc, ht] <;> rfl
    show (if ((PySem.W.clsIn K C).isSome && PySem.W.typeIn K (.ref C) == some (.type "type")) = true then PySem.W.subIn K (.ref D) (.ref C) else none) = some b
    rw [if_pos e2]
    exact h
theorem kit_vE {K : PySem.W.Frag} {D : Addr} (h : PySem.W.subIn K (.ref D) (.type "ValueError") = some true) : PySem.W.kitOne K (.ref D) (.type "ValueError") = some true := by
  unfold PySem.W.kitOne
  rw [if_neg (by simp)]
  show (if PySem.W.kitMeta "ValueError" = true then PySem.W.subIn K (.ref D) (.type "ValueError") else none) = some true
  rw [if_pos (by decide +kernel)]
  exact h
/-- isinstance of what is caught -/
def rIsX (K : PySem.W.Frag) (cls : Value) (d : Option Addr) (a : Addr) : List V → Hp → VK → Prop := fun xs H Q => ∃ (D : Addr) (c : V) (cv : Value) (b : Bool), cls = .ref D ∧ d = none ∧ ExcC K D ∧ xs = [.ref a, c] ∧ ClsV c cv ∧ PySem.W.kitOne K (.ref D) cv = some b ∧ Q (.bl b) H
theorem PSs_as {X : Cx} {b : List Stmt} {t t' : TS} (h : PSs X b t) (e : t = t') : PSs X b t' := e ▸ h
namespace M
/-- what is refused is taken -/
def tr {α : Type} (m : M α) (h : Str → M α) : M α := match m with
  | .ok a => .ok a
  | .exc c => h c
  | .bad => .bad
@[simp] theorem tr_ok {α : Type} (a : α) (h : Str → M α) : tr (.ok a) h = .ok a := rfl
@[simp] theorem tr_exc {α : Type} (c : Str) (h : Str → M α) : tr (.exc c : M α) h = h c := rfl
theorem P_tr {α : Type} {m : M α} {h : Str → M α} {p : α → Prop} {x : Str → Prop} : (tr m h).P p x ↔ m.P p fun c => (h c).P p x := by cases m <;> exact Iff.rfl
end M
def isFz : Option Slot → Bool
  | none => true
  | some (@Slot.fz _ _ _) => true
  | _ => false
theorem isFz_at {ρ : Evr} (h : ρ.all isFz = true) {i : Nat} {s : Option Slot} (hs : ρ[i]? = some s) : isFz s = true := List.all_eq_true.mp h s (List.mem_of_getElem? hs)
theorem isFz_own {s : Option Slot} (h : isFz s = true) : isOw s = false := by
  cases s with
  | none => rfl
  | some s => cases s <;> first | rfl | cases h
section
variable {G : Gb} {B : Hp} {E : XK} {ρ : Evr} {Ω S R : Type}
theorem Rel.rebase {F0 F H B2 F2 : Hp} {σ : L2.St} (R : Rel G B F0 F ρ σ H) (hz : ρ.all isFz = true) (sB : Same B2 H) (s0 : Same F2 F) (nw : ∀ a, F2 a = none → F a ≠ none → B2 a = none) : Rel G B2 F2 F ρ σ H where
  sB := sB
  sF := R.sF
  s0 := s0
  nw := nw
  len := R.len
  sl := fun i s x hs hx => by
    have ok := R.sl i s x hs hx
    have z := isFz_at hz hs
    cases s with
    | none => exact trivial
    | some s => cases s <;> first | exact ok | cases z
  ds := fun i j s t x y b hi hx hj hy f g => by
    have z := isFz_own (isFz_at hz hi)
    rw [f.own] at z
    cases z
theorem Rel.calmH {F0 F H : Hp} {σ : L2.St} (R : Rel G B F0 F ρ σ H) (hz : ρ.all isFz = true) : Rel G H F F ρ σ H := R.rebase hz (.refl _) (.refl _) fun a h q => absurd h q
/-- what a block's end wants, by another ground -/
structure Gnd (G : Gb) (post : Hp → Hp → Ω → Ends → Prop) (i : Nat) : Prop where
  up : ∀ {B F0 F H : Hp} {ρ : Evr} {σ : L2.St} {ω : Ω} {D : Ends}, Rel G B F0 F ρ σ H → post B F0 ω D → post H F ω D
  at_ : ∀ {B F0 : Hp} {ω : Ω} {D : Ends}, post B F0 ω D → post B F0 ω { nx := fun σ' H' => D.nx (σ'.set i none) H', rt := D.rt, bk := fun σ' H' => D.bk (σ'.set i none) H', ct := fun σ' H' => D.ct (σ'.set i none) H' }
theorem Fin.down {F0 F F' H H' : Hp} {σ : L2.St} (R : Rel G B F0 F ρ σ H) (f : Fin G H F F' H') : Fin G B F0 F' H' := ⟨R.sB.trans f.sB, f.sF, R.s0.trans f.s0, fun a h q => by
  cases z : F a with
  | none => exact R.sB.free (f.nw a z q)
  | some o => exact R.nw a h (by rw [z]; exact fun z => nomatch z)⟩
theorem gnd_R {rp : RP R} {i : Nat} (ha : Anti rp) : Gnd G (fun B => oR G B rp) i := ⟨fun RR h F' v H' f q => h F' v H' (f.down RR) (ha RR.sB q), fun h => h⟩
theorem Rel.down {F0 F F' H H' : Hp} {ρ' : Evr} {σ σ' : L2.St} (R : Rel G B F0 F ρ σ H) (R' : Rel G H F F' ρ' σ' H') (hz : ρ'.all isFz = true) : Rel G B F0 F' ρ' σ' H' :=
  R'.rebase hz (R.sB.trans R'.sB) (R.s0.trans R'.s0) (R'.fin.down R).nw
def tTryK (K : PySem.W.Frag) (c : Value) (i : Nat) (tb : XK → TS) (ts : Addr → Value → Option Addr → TS) : TS := fun D σ H => tb (L2.WE (wAs K c i ts (fun _ _ _ _ => False) D) σ) D σ H
abbrev tTryAs (G : Gb) (T : Str) (i : Nat) (tb : XK → TS) (ts : Addr → Value → Option Addr → TS) : TS := tTryK G.K (.ref (G.cl T)) i tb ts
theorem ps_tryAs {X : Cx} {x n : Str} {c : Value} {i : Nat} {body suite : List Stmt} {b₀ : Stmt} {np pos pos' : Pos} {tb : XK → TS} {ts : Addr → Value → Option Addr → TS} (hs : X.stack = X.env :: X.outer) (hf : X.env.frame = some X.env.locals) (hN : X.N.Nodup) (hi : X.N[i]? = some n) (hln : X.env.kindOf n = some .local) (hc : Names X x c)
    (hb : ∀ (W : WX) (pn : List (Addr × Obj)) (xe : Value → Shared → Prop), L2N.Takes (X.tr pn xe) W → PassesOwn (model X.prog X.w) X.A X.env xe → PSs (X.tr pn xe) body (fun D σ H => tb (L2.WE W σ) D σ H))
    (hsu : ∀ (a : Addr) (oe : Obj) (cls : Value) (d : Option Addr) (pn : List (Addr × Obj)), L2N.Zn cls d oe → (∃ vs, oe.data = .fields vs) → PSs (X.suite a ((a, oe) :: pn)) (b₀ :: suite) (ts a cls d)) :
    PS X (.Try body [.ExceptHandler (some (.Name x np)) (some n) (b₀ :: suite) pos'] [] [] pos) (tTryK X.K c i tb ts) := L2N.ps_try_as (tb := fun W D σ H => tb (L2.WE W σ) D σ H) hs hf hN hi hln hc takesN hb hsu
theorem run_tryAs {post : Hp → Hp → Ω → Ends → Prop} {cs ts' : List Str} [X : ExF G cs ts'] {T : Str} {i : Nat} {tb : XK → TS} {ts : Addr → Value → Option Addr → TS} {mb : M Ω} {ms : Str → M Ω} (hT : T ∈ ts') (hg : Gnd G post i) (hz : ρ.all isFz = true)
    (hb : ∀ B E, Run G B E (post B) ρ (tb E) mb) (hs : ∀ a c, Run G B E (post B) (ρ.set i (some (.fz (⟨a, c⟩ : Exn)))) (ts a (.ref (G.cl c)) none) (ms c)) :
    Run G B E (post B) ρ (tTryAs G T i tb ts) (mb.tr fun c => M.chk (c ∈ cs ∧ excIs c T = true) (ms c)) := fun F0 F σ H D R q => by
  refine hb H _ F F σ H D (R.calmH hz) ((M.P_tr.mp q).imp (fun ω k => hg.up R k) fun c k H' sH => ?_)
  obtain ⟨⟨c1, c2⟩, k⟩ := M.P_chk.mp k
  refine ⟨true, ?_, fun _ a ha => ?_, fun z => nomatch z⟩
  · rw [X.exm c c1 T hT, c2]
  · have R1 := R.ext ⟨.refl _, sH, fun a h q => absurd h q⟩ (R.sF.trans sH)
    exact hs a c F0 F _ H' _ (R1.put (i := i) (s := .fz (⟨a, c⟩ : Exn)) (v := .ref a) ⟨_, rfl, rfl⟩ rfl) (k.imp (fun ω k => hg.at_ k) fun _ x => x)
end
section
variable {G : Gb} {B : Hp} {E : XK} {ρ : Evr} {Ω S R : Type} {post : Hp → Ω → Ends → Prop} {mr : Md} {rest : TS}
theorem run_raise {c : Str} : Run G B E post ρ (tRaise G E c) (.exc c) := fun F0 F σ H D R q => q H R.sB
theorem run_raiseS {c : Str} : Run G B E post ρ (tSeq (tRaise G E c) rest) (.exc c) := fun F0 F σ H D R q => q H R.sB
theorem ev_isX {cs ts : List Str} [X : ExF G cs ts] {i : Nat} {xa : Addr} {xc : Str} {T : Str} (h : ρ[i]? = some (some (.fz (⟨xa, xc⟩ : Exn)))) (hT : T ∈ ts) : Ev G B E mr ρ (tCB (rIsX G.K (.ref (G.cl xc)) none xa) (tCons (tVar i) (tCons (tC (.ref (G.cl T))) tNil))) (M.chk (xc ∈ cs) (.ok (excIs xc T))) := fun F0 F σ H Q R q => by
  obtain ⟨x, ex, v, rfl, r⟩ := R.at h
  obtain ⟨c, k⟩ := M.P_chk.mp q
  have r' : v = .ref xa := r
  subst r'
  exact ⟨_, ex, G.cl xc, _, _, _, rfl, rfl, X.exc _ c, rfl, .own _, X.one _ c T hT, k F _ H (.refl _ _) R.sF rfl⟩
theorem ev_isXv {cs ts : List Str} [X : ExF G cs ts] {i : Nat} {xa : Addr} {xc : Str} (h : ρ[i]? = some (some (.fz (⟨xa, xc⟩ : Exn)))) : Ev G B E mr ρ (tCB (rIsX G.K (.ref (G.cl xc)) none xa) (tCons (tVar i) (tCons (tC (.ty "ValueError")) tNil))) (M.chk (xc ∈ cs) (.ok true)) := fun F0 F σ H Q R q => by
  obtain ⟨x, ex, v, rfl, r⟩ := R.at h
  obtain ⟨c, k⟩ := M.P_chk.mp q
  have r' : v = .ref xa := r
  subst r'
  exact ⟨_, ex, G.cl xc, _, _, _, rfl, rfl, X.exc _ c, rfl, .ty _, X.vE _ c, k F _ H (.refl _ _) R.sF rfl⟩
end
end Tw
set_option Elab.async false
set_option linter.all false
set_option maxRecDepth 100000
set_option maxHeartbeats 4000000
namespace Tw
open PySem PySem.Spec L2 TL
open PyProof.Rows hiding St
section
variable {prog : Program} {w : World} {A : Around} {E : Value → Shared → Prop} {s : Shared}
/-- the end of a list, the handled exception becoming the context of the StopIteration -/
theorem listEnd_hot {cur l x1 : Addr} {n : Nat} {xs : Array Value} {Q : Option Value → Shared → Prop} (hot : HotX.HotAt A x1 s.heap) (ne : x1 ≠ cur) (hi : s.heap.IsListIter cur l n) (hl : s.heap.IsList l xs) (hx : xs[n]? = none)
    (done : ∀ h', (∀ b o, b ≠ cur → s.heap.get? b = some o → h'.get? b = some o) → Q none { s with heap := h' }) : wpAny (model prog w) A (pyNext (.ref cur)) Q E s := by
  obtain ⟨hh, oh, vh, gh, dh, ch⟩ := hot
  obtain ⟨oc, gc, cc, dc⟩ := id hi
  obtain ⟨ol, gl, _, nl, dl⟩ := hl
  have hT := hi.typeIs
  unfold pyNext
  refine wpAny_bind (wpAny_attempt (wpAny_callSpecial?_slot (name := Str.ofString "__next__") hT slot_listiter_next (wpAny_call_entry slot_listiter_next hT entry_listiter_next ?_ (args_listiter_next _))))
  show wpAny _ _ (field (.ref cur) 0 >>= _) _ _ s
  refine wpAny_bind (wpAny_field gc dc (x := .ref l) rfl ?_)
  show wpAny _ _ (if (Value.ref l == Value.none) = true then _ else _) _ _ s
  rw [if_neg (by exact Bool.false_ne_true)]
  show wpAny _ _ (field (.ref cur) 1 >>= _) _ _ s
  refine wpAny_bind (wpAny_field gc dc (x := .int n 0) rfl ?_)
  show wpAny _ _ (seqItems? (.ref l) >>= _) _ _ s
  refine wpAny_bind (wpAny_seqItems gl dl ?_)
  simp only [Int.toNat_natCast, hx]
  refine wpAny_bind (wpAny_rule (wpAny_bind (wpAny_setField gc dc (by simp) ?_)))
  show wpAny _ _ (newExc (.type "StopIteration") [] >>= _) _ _ _
  refine wpAny_bind ?_
  simp only [newExc, newTuple]
  refine wpAny_bind (wpAny_newObj_type ?_ (by size_fits))
  refine wpAny_bind (m := firstArgMember _ _) (wpAny_of_eq (a := Value.none) (by first | rfl | (simp only [firstArgMember]; rfl)) (wpAny_newObj_type ?_ (by size_fits)))
  have g1 : ∀ (b : Addr) (o : Obj), b ≠ cur → s.heap.get? b = some o → (s.heap.update cur (Obj.mapFields fun fs => fs.setIfInBounds 0 .none)).get? b = some o := fun b o nb e => (Heap.get?_update_ne _ _ _ _ nb).trans e
  refine HotX.raiseNew_hot ⟨hh, oh, vh, Heap.get?_push_of_some _ (Heap.get?_push_of_some _ ((Heap.get?_update_ne _ _ _ _ ne).trans gh)), dh, ch⟩ (Nat.ne_of_lt (Heap.lt_size (Heap.get?_push_of_some _ ((Heap.get?_update_ne _ _ _ _ ne).trans gh)))) (Heap.get?_push_size _ rfl) rfl (by first | (simp; done) | (simp; omega) | (simp only [Array.size_append]; simp; omega)) ?_
  refine wpAny_bind (wpAny_isInstance (T := "StopIteration") (b := true) ⟨_, Heap.get?_update_self _ (Heap.get?_push_size _ rfl) rfl, rfl⟩ isSubtype_stop (wpAny_pure (done _ fun b o nb e => ?_)))
  have e2 := g1 b o nb e
  rw [Heap.get?_update_other _ _ (Nat.ne_of_gt (Heap.lt_size (Heap.get?_push_of_some _ e2)))]
  exact Heap.get?_push_of_some _ (Heap.get?_push_of_some _ e2)
end
section
variable {X : Cx}
/-- what the comprehension's own block finds at a turn: the list as it stands, and that no one else's things were touched -/
theorem hotC_blk {pins : List (Addr × Obj)} {σ σ' : L2.St} {H H' H5 : Hp} {s s5 : Shared} {scope : Scope} {ce : Env} {fp : List Addr} (hot : L2H.HotC X) (I : Inv X pins σ H s) (nf : ∀ b ∈ fp, ∀ p ∈ X.pn ++ pins, p.1 ≠ b) (J : Inv (X.blk s H scope ce fp) [] σ' H5 s5) : ∃ x1, HotX.HotAt X.A x1 s5.heap ∧ ∀ b ∈ fp, x1 ≠ b := by
  obtain ⟨p, ⟨hh, vs, d1, c1⟩, hp⟩ := hot
  have hpp : p ∈ X.pn ++ pins := List.mem_append_left _ hp
  obtain ⟨g, fr, nl, nfs, _⟩ := I.pin p hpp
  have nx : p.1 ∉ fp := fun w => nf p.1 w p hpp rfl
  have nst : p.1 ∉ frs X.stack := fun w => (List.mem_cons.mp (I.stkSub p.1 w)).elim nl nfs
  exact ⟨p.1, ⟨hh, p.2, vs, J.base.keep p.1 p.2 g fr nst nx, d1, c1⟩, fun b hb e => nx (by rw [e]; exact hb)⟩
theorem lc_hot {pins : List (Addr × Obj)} {s : Shared} {σ : L2.St} {H : Hp} {Q : VK} {elt tg l : Expr} {ifs : List Expr} {scope : Scope} {own : List (Str × Nat)} {pos pos' : Pos} {tl : TE} {g : TG} {tt : TT} {te : TE} {use : Option (Value → Sem Unit)} {Qf : Value → Shared → Prop}
    (hot : L2H.HotC X) (nd : X.N.Nodup) (I : Inv X pins σ H s) (hl : PE X l tl) (ok : BlkOk X.N X.env.scope scope own)
    (pg : ∀ (s : Shared) (H : Hp) (C : Addr) (cl : List (Str × Addr)) (fp : List Addr), PG (X.blk s H scope (compEnvC scope cl C X.env) fp) tg g) (pt : ∀ (s : Shared) (H : Hp) (C : Addr) (cl : List (Str × Addr)) (fp : List Addr), PTs (X.blk s H scope (compEnvC scope cl C X.env) fp) ifs tt)
    (pe : ∀ (s : Shared) (H : Hp) (C : Addr) (cl : List (Str × Addr)) (fp : List Addr), PE (X.blk s H scope (compEnvC scope cl C X.env) fp) elt te) (hs : ∀ x, foldedSetIterable l X.env x = pure x)
    (q : tLc (iList X.K tl) g tt te (own.map (·.2)) σ H Q)
    (fin : ∀ D C s' m H', Inv X pins σ H' s' → Q (.ref D) H' → s'.heap.Ns C m → FpOk X pins H' C → compPost (model X.prog X.w) X.A X.xe use Qf (.ref D) C (.ok .next) s') :
    wpAny (model X.prog X.w) X.A (comprehension (.ListComp elt [⟨tg, l, ifs, 0⟩] scope pos) scope X.env pos' (newList []) false (eval l X.env) use) Qf X.xe s := by
  have cells : ∀ y ∈ scope.names, y.2 = .free → ∃ c, X.env.cells.lookup y.1 = some c := fun y hy e => (ok.free y hy e).elim (fun k => I.ok.has _ (.inl k)) fun k => I.ok.has _ (.inr k)
  refine wpAny_comprehension_free (use := use) rfl hs (closure_ok cells) ok.kind (fun y hy e => by rw [ok.uniq y hy, e]) (thn (hl.run pins s σ H _ I q) fun v s1 hv => ?_)
  obtain ⟨x, H1, I1, r1, a, e, ⟨xs, hq⟩, turns⟩ := hv
  subst e
  cases r1
  obtain ⟨its, rv, pl, hz⟩ := I1.list hq
  refine wpAny_pyIter_list pl.isList ?_
  -- the iterator stands at cur, the new list at dst
  generalize hcur : s1.heap.objs.size = cur
  generalize hs2 : ({ s1 with heap := s1.heap.push { cls := .type "list_iterator", data := .fields #[.ref a, .int 0 0] } } : Shared) = s2
  have k12 : ∀ b o, s1.heap.get? b = some o → s2.heap.get? b = some o := fun b o e => by rw [← hs2]; exact Heap.get?_push_of_some _ e
  have I2 : Inv X pins σ H1 s2 := by rw [← hs2]; exact I1.kept (t' := s1.toks) fun b o e => Heap.get?_push_of_some _ e
  have it2 : s2.heap.IsListIter cur a 0 := by rw [← hs2, ← hcur]; exact ⟨_, Heap.get?_push_size _ rfl, rfl, rfl⟩
  have fcur : FpOk X pins H1 cur := by rw [← hcur]; exact I1.fpOk (Nat.le_refl _) (I1.hok.fresh (Nat.le_refl _))
  refine wpAny_newObj_type (newEnv_comp ?_) (by show 0 ≤ sizeLine; decide)
  generalize hdst : s2.heap.objs.size = dst
  have curlt : cur < dst := by
    obtain ⟨oc, gc, _⟩ := it2
    rw [← hdst]
    exact Heap.lt_size gc
  have fresh : H1 dst = none := I2.hok.fresh (Nat.le_of_eq hdst)
  obtain ⟨W, ⟨m0, w0⟩, turn⟩ := turns dst fresh
  generalize hs3 : ({ s2 with heap := s2.heap.push { cls := .type "list", data := .seq ([] : List Value).toArray } } : Shared) = s3
  have eq3 : s3.heap = s2.heap.push { cls := .type "list", data := .seq ([] : List Value).toArray } := by rw [← hs3]
  have I3 : Inv X pins σ (upd H1 dst (.lst [])) s3 := by
    rw [← hs3]
    exact I2.laid (t' := s2.toks) (fun b o e => Heap.get?_push_of_some _ e) (Nat.le_of_eq hdst) ⟨Nat.zero_le _, [], 0, .nil, by rw [← hdst]; exact Heap.get?_push_size _ rfl⟩
  generalize hH3 : upd H1 dst (.lst []) = H3 at I3 w0
  have f3 : ∀ b ∈ [cur], FpOk X pins H3 b ∧ b < s3.heap.objs.size := fun b hb => by
    obtain rfl : b = cur := by simpa using hb
    refine ⟨⟨?_, fcur.2⟩, by rw [eq3, Heap.size_push, hdst]; omega⟩
    rw [← hH3, upd_ne (Nat.ne_of_lt curlt)]
    exact fcur.1
  have it3 : s3.heap.IsListIter cur a 0 := it2.at fun o e => by rw [eq3]; exact Heap.get?_push_of_some _ e
  have I4 := block_start I3 ok nd f3
  generalize hcl : cellsFrom (s3.heap.objs.size + 1) scope.names (cloFrom X.env.cells scope.names []) = cl at I4
  have pg' := pg s3 H3 s3.heap.objs.size cl [cur]
  have pt' := pt s3 H3 s3.heap.objs.size cl [cur]
  have pe' := pe s3 H3 s3.heap.objs.size cl [cur]
  show codeAny _ _ (.compStart (.ListComp elt [⟨tg, l, ifs, 0⟩] scope pos) 0 (.ref cur) (.ref dst) (compEnvC scope cl s3.heap.objs.size X.env)) (compPost (model X.prog X.w) X.A X.xe use Qf (.ref dst) s3.heap.objs.size) { s3 with heap := pushCells (s3.heap.push { cls := .type "dict", data := .dict #[] }) scope.names }
  generalize hce : compEnvC scope cl s3.heap.objs.size X.env = ce at I4 pg' pt' pe' ⊢
  have loc : ce.locals = s3.heap.objs.size := by rw [← hce]; rfl
  generalize hs4 : ({ s3 with heap := pushCells (s3.heap.push { cls := .type "dict", data := .dict #[] }) scope.names } : Shared) = s4 at I4 ⊢
  have it4 : s4.heap.IsListIter cur a 0 := it3.at fun o e => by rw [← hs4]; exact pushCells_keeps _ _ _ _ (Heap.get?_push_of_some _ e)
  have own3 := (f3 cur (by simp)).1
  have stay : ∀ {σ' : L2.St} {H' : Hp} {s' : Shared}, Inv (X.blk s3 H3 scope ce [cur]) [] σ' H' s' → H' cur = none → FpOk (X.blk s3 H3 scope ce [cur]) [] H' cur := fun {σ' H' s'} J n =>
    ⟨n, (J.ok.exf cur (by simp)).1, J.ok.exfs cur (by simp), .inl (by simp), fun x c e => (J.ok.exf cur (by simp)).2 x c e, fun p hp => nomatch (show p ∈ ([] : List (Addr × Obj)) from hp)⟩
  have loop : codeAny (model X.prog X.w) X.A (.compLoop (.ListComp elt [⟨tg, l, ifs, 0⟩] scope pos) 0 (.ref cur) (.ref dst) ce) (compPost (model X.prog X.w) X.A X.xe use Qf (.ref dst) s3.heap.objs.size) s4 := by
    refine compLoop_any (fun n s' => ∃ i H', Inv (X.blk s3 H3 scope ce [cur]) [] (wipe σ (own.map (·.2))) H' s' ∧ s'.heap.IsListIter cur a i ∧ H' cur = none ∧ W i n H') ?_ m0 ⟨0, H3, I4, it4, own3.1, w0⟩
    rintro n s5 ⟨i, H5, I5, it5, n5, w5⟩
    obtain ⟨f0, f1, f2, f3', f4, f5⟩ := stay I5 n5
    rcases turn i n H5 w5 with ⟨⟨ys, hys, stop⟩, qd⟩ | ⟨⟨ys, y, hys, hy⟩, Nx, hNx, step⟩
    · obtain ⟨us, ru, pu, _⟩ := I5.list hys
      obtain ⟨x1, hx1, nx1⟩ := hotC_blk (H' := H3) hot I3 (fun b hb p hp => by
        obtain rfl : b = cur := by simpa using hb
        exact own3.2.2.2.2.2 p hp) I5
      have hlen := ru.length
      refine listEnd_hot hx1 (nx1 cur (by simp)) it5 pu.isList (by simp; omega) fun h' kb => ?_
      have I6 : Inv (X.blk s3 H3 scope ce [cur]) [] (wipe σ (own.map (·.2))) H5 { s5 with heap := h' } := I5.turned (t' := s5.toks) (fun b o hb e => kb b o hb e) f0 f1 f3' f4 f5
      have I7 : Inv X pins σ H5 { s5 with heap := h' } := I3.call' (ch := [cur]) I6.os I6.base I6.hok I6.bare fun b hb => by
        obtain rfl : b = cur := by simpa using hb
        exact ⟨own3.2.2.2.1, own3.2.1, own3.2.2.2.2.1, own3.2.2.2.2.2⟩
      obtain ⟨m, hm, _⟩ := I6.loc
      have hm : Heap.Ns h' ce.locals m := hm
      have free : H5 ce.locals = none := I6.free
      rw [loc] at hm free
      exact fin dst s3.heap.objs.size _ m H5 I7 qd hm (I3.fpOk (Nat.le_refl _) free)
    · obtain ⟨us, ru, pu, _⟩ := I5.list hys
      obtain ⟨u, hu, rel⟩ := ru.get hy
      refine wpAny_pyNext_list_item it5 pu.isList (x := u) (by simpa using hu) fun h' it6 sb => ?_
      have I6 : Inv (X.blk s3 H3 scope ce [cur]) [] (wipe σ (own.map (·.2))) H5 { s5 with heap := h' } := I5.turned (t' := s5.toks) (fun b o hb e => (sb.2 b hb).trans e) f0 f1 f3' f4 f5
      obtain ⟨o6, e6, c6, d6⟩ := id it6
      refine go_of (s := { s5 with heap := h' }) e6 c6 d6 (by decide) ?_
      have I7 := I6.pinned (fp := [cur]) (fun b hb => by
        obtain rfl : b = cur := by simpa using hb
        exact stay I6 n5) fun b hb => by
        obtain rfl : b = cur := by simpa using hb
        exact ⟨o6, e6, fun v z => by rw [d6] at z; cases z⟩
      refine thnF (pg'.run _ _ _ H5 y u _ I7 rel (step y H5 ⟨rfl, fun zs hzs => by rw [I5.list_inj hzs hys]; exact hy⟩)) fun _ s8 ⟨σ8, H8, I8, hw, q8⟩ => ?_
      refine thnF (pt'.run _ s8 σ8 H8 _ I8 q8) fun b s9 ⟨H9, I9, q9⟩ => ?_
      have again : ∀ {s' : Shared} {H' : Hp}, Inv (X.blk s3 H3 scope ce [cur]) ([] ++ pinsAt [cur] h') σ8 H' s' → Nx H' → ∃ m, m < n ∧ ∃ i H', Inv (X.blk s3 H3 scope ce [cur]) [] (wipe σ (own.map (·.2))) H' s' ∧ s'.heap.IsListIter cur a i ∧ H' cur = none ∧ W i m H' := fun {s' H'} J nx => by
        obtain ⟨m', lt, w'⟩ := hNx H' nx
        have pin := J.pin (cur, o6) (List.mem_append_right _ (List.mem_append_right _ (mem_pinsAt (by simp) e6)))
        refine ⟨m', lt, i + 1, H', (J.unpinned (pins := [])).weak (by rw [← hw, wipe_length]) (fun j v e => ?_), ⟨o6, pin.1, c6, d6⟩, pin.2.1, w'⟩
        rw [← hw] at e
        exact (wipe_some e).1
      cases b with
      | false =>
        simp only [Bool.false_eq_true, if_false] at q9 ⊢
        exact again I9 q9
      | true =>
        simp only [if_true] at q9 ⊢
        refine thnF (pe'.run _ s9 σ8 H9 _ I9 q9) fun z s10 ⟨yv, H10, I10, r10, acc, hd10, hz10, nx⟩ => ?_
        exact app_ok (X := X.blk s3 H3 scope ce [cur]) I10 hd10 hz10 r10 fun s11 I11 => again I11 nx
  exact codeAny_compStart_list loop (wpAny_pyIter_listiter it4 loop)
end
end Tw
set_option Elab.async false
set_option linter.all false
set_option maxRecDepth 100000
set_option maxHeartbeats 4000000
namespace Tw
open PySem PySem.Spec L2 TL
open PyProof.Rows hiding St
/-- no slot owns b -/
def Unow (ρ : Evr) (σ : L2.St) (H : Hp) (b : Addr) : Prop := ∀ (j : Nat) (s : Option Slot) (x : Option V), ρ[j]? = some s → σ[j]? = some x → ¬ Fp H s x b
/-- what no slot owns stays, and no slot takes it -/
def Kp (ρ ρ' : Evr) (σ : L2.St) (F F' H H' : Hp) : Prop := ∀ b o, H b = some o → F b = none → Unow ρ σ H b → H' b = some o ∧ F' b = none ∧ Unow ρ' σ H' b
theorem Kp.trans {ρ ρ1 ρ2 : Evr} {σ : L2.St} {F F1 F2 H H1 H2 : Hp} (a : Kp ρ ρ1 σ F F1 H H1) (b : Kp ρ1 ρ2 σ F1 F2 H1 H2) : Kp ρ ρ2 σ F F2 H H2 := fun c o h f u => (a c o h f u).elim fun h1 u1 => b c o h1 u1.1 u1.2
section
variable (G : Gb) (B : Hp) (E : XK) {α S : Type} [Rp α]
/-- te gives a value and leaves the slots as EX says -/
def EvX (md : Md) (ρ : Evr) (te : TE) (EX : S → Evr) (m : M (α × S)) : Prop := ∀ (F0 F : Hp) (σ : L2.St) (H : Hp) (Q : VK), Rel G B F0 F ρ σ H →
  m.P (fun r => ∀ (F' : Hp) (v : V) (H' : Hp), Rel G B F0 F' (EX r.2) σ H' → Same F F' → Kp ρ (EX r.2) σ F F' H H' → rep G (hpM md F' B H') v r.1 → Q v H') (Xc G B E) → te σ H Q
end
section
variable {G : Gb} {B : Hp} {E : XK} {ρ : Evr} {α β γ S S' Ω R : Type} [Rp α] [Rp β] [Rp γ] {md md' mr : Md} {ta tb te : TE} {EX : S → Evr} {EX' : S' → Evr} {post : Hp → Ω → Ends → Prop} {rest t1 t2 : TS} {r : R2}
theorem Kp.ext {F0 F H F' H' : Hp} {σ : L2.St} (R : Rel G B F0 F ρ σ H) (e : Ext F H F' H') : Kp ρ ρ σ F F' H H' := fun b o h f u => ⟨e.h _ _ h, e.non h f, fun j s x hs hx f => u j s x hs hx (Fp.lift (R.sl j s x hs hx) (fun b o _ z => e.h _ _ z) f)⟩
/-- a plain expression -/
theorem EvX.of {m : M α} (h : Ev G B E md ρ te m) : EvX G B E md ρ te (fun _ : Unit => ρ) (m.b fun a => .ok (a, ())) := fun F0 F σ H Q R q =>
  h.go R q fun a F' v H' e r R' q => q F' v H' R' e.f (Kp.ext R e) r
theorem EvX.go {ω : Type} {m : M (α × S)} {k : α × S → M ω} {p : ω → Prop} {F0 F : Hp} {σ : L2.St} {H : Hp} {Q : VK} (h : EvX G B E md ρ te EX m) (R : Rel G B F0 F ρ σ H) (q : (m.b k).P p (Xc G B E))
    (f : ∀ (x : α × S) (F' : Hp) (v : V) (H' : Hp), Rel G B F0 F' (EX x.2) σ H' → Same F F' → Kp ρ (EX x.2) σ F F' H H' → rep G (hpM md F' B H') v x.1 → (k x).P p (Xc G B E) → Q v H') : te σ H Q :=
  h F0 F σ H Q R ((M.P_b.mp q).imp (fun x k F' v H' R' s kp r => f x F' v H' R' s kp r k) fun _ x => x)
/-- the left side changes, then the rest with its value set in -/
theorem EvX.opL [Sc α] {ma : M (α × S)} {k : α → S → M (β × S')} (h : EvX G B E md ρ ta EX ma) (hk : ∀ a s, EvX G B E mr (EX s) (tOp r (tC (Sc.enc a)) tb) EX' (k a s)) : EvX G B E mr ρ (tOp r ta tb) EX' (ma.b fun x => k x.1 x.2) := fun F0 F σ H Q R q =>
  h.go R q fun x F' v H' R' s kp rv q => by
    have e := (Sc.iff _ _ _ _).mp rv
    rw [e]
    exact hk x.1 x.2 F0 F' σ H' Q R' (q.imp (fun y k F2 v2 H2 R2 s2 kp2 r2 => k F2 v2 H2 R2 (s.trans s2) (kp.trans kp2) r2) fun _ x => x)
/-- the right side changes; on the left a name that the change does not touch -/
theorem EvX.opV [Sc α] {i : Nat} {ma : M (α × S)} {k : α → S → M (β × S')} (hi : ∃ s, ρ[i]? = some (some s)) (hv : ∀ (F0 F H : Hp) (σ : L2.St), Rel G B F0 F ρ σ H → ∃ v, σ[i]? = some (some v)) (h : EvX G B E md ρ tb EX ma) (hk : ∀ a s, EvX G B E mr (EX s) (tOp r (tVar i) (tC (Sc.enc a))) EX' (k a s)) : EvX G B E mr ρ (tOp r (tVar i) tb) EX' (ma.b fun x => k x.1 x.2) := fun F0 F σ H Q R q => by
  obtain ⟨v, e⟩ := hv F0 F H σ R
  refine ⟨v, e, h.go R q fun x F' w H' R' s kp rv q => ?_⟩
  have ew := (Sc.iff _ _ _ _).mp rv
  rw [ew]
  obtain ⟨v2, e2, hh⟩ := hk x.1 x.2 F0 F' σ H' Q R' (q.imp (fun y k F2 v2 H2 R2 s2 kp2 r2 => k F2 v2 H2 R2 (s.trans s2) (kp.trans kp2) r2) fun _ x => x)
  rw [e] at e2
  have : v2 = v := Option.some.inj (Option.some.inj e2.symm)
  rw [← this]
  exact hh
/-- on the left a constant -/
theorem EvX.opC [Sc α] {c : V} {ma : M (α × S)} {k : α → S → M (β × S')} (h : EvX G B E md ρ tb EX ma) (hk : ∀ a s, EvX G B E mr (EX s) (tOp r (tC c) (tC (Sc.enc a))) EX' (k a s)) : EvX G B E mr ρ (tOp r (tC c) tb) EX' (ma.b fun x => k x.1 x.2) := fun F0 F σ H Q R q =>
  h.go R q fun x F' w H' R' s kp rv q => by
    have ew := (Sc.iff _ _ _ _).mp rv
    rw [ew]
    exact hk x.1 x.2 F0 F' σ H' Q R' (q.imp (fun y k F2 v2 H2 R2 s2 kp2 r2 => k F2 v2 H2 R2 (s.trans s2) (kp.trans kp2) r2) fun _ x => x)
/-- a value set in -/
theorem ev_K [Sc α] (a : α) : Ev G B E md ρ (tC (Sc.enc a)) (.ok a) := fun F0 F σ H Q R q => q F _ H (.refl _ _) R.sF ((Sc.iff _ _ _ _).mpr rfl)
theorem runX_asg {g : TG} {ts : List Nat} {bind : α → Evr → Evr} {m : M (α × S)} {k : α → S → M Ω} (he : EvX G B E md ρ te EX m) (ht : Tgt G B md g ts bind) (hk : ∀ a s, Run G B E post (bind a (EX s)) rest (k a s)) : Run G B E post ρ (tSeq (tAsg te g) rest) (m.b fun x => k x.1 x.2) := fun F0 F σ H D R q =>
  he.go R q fun x F' v H' R' s kp rv q => ht F0 F' (EX x.2) σ H' v x.1 _ R' rv fun σ' _ R2 => hk x.1 x.2 F0 F' σ' H' D R2 q
end
structure CellO where
  p : Addr
  c : Int
instance : Sh CellO where
  fp _ v := match v with
    | .ref p => [p]
    | _ => []
  ok _ _ H v a := v = .ref a.p ∧ H a.p = some (.lst [.int a.c])
  there := fun {G F H v a b} h hb => by
    obtain ⟨rfl, h1⟩ := h
    have : b = a.p := List.mem_singleton.mp hb
    rw [this]
    exact ⟨_, h1⟩
  keep := fun {G F F' H H' v a} h _ k => by
    obtain ⟨rfl, h1⟩ := h
    exact ⟨⟨rfl, k _ _ (List.mem_singleton.mpr rfl) h1⟩, rfl⟩
def lessA (H : Hp) (a : Addr) : Hp := fun b => if b = a then none else H b
theorem lessA_same {H : Hp} {a : Addr} : Same (lessA H a) H := fun b o e => by
  unfold lessA at e
  split at e
  · cases e
  · exact e
theorem lessA_off {H : Hp} {a b : Addr} (h : b ≠ a) : lessA H a b = H b := if_neg h
theorem same_lessA {F H : Hp} {a : Addr} (s : Same F H) (h : F a = none) : Same F (lessA H a) := fun b o e => by
  rw [lessA_off fun z => by rw [z, h] at e; cases e]
  exact s b o e
section
variable {G : Gb} {B : Hp} {E : XK} {ρ : Evr} {α β S Ω R : Type} [Rp α] [Rp β] [Rp R] {md md' mr : Md} {ta tb te : TE} {EX : S → Evr} {post : Hp → Ω → Ends → Prop} {rest : TS} {i : Nat} {a : Addr} {c : Int}
theorem Rel.cell {F0 F H : Hp} {σ : L2.St} (R : Rel G B F0 F ρ σ H) (h : ρ[i]? = some (some (.sh (⟨a, c⟩ : CellO)))) : σ[i]? = some (some (.ref a)) ∧ H a = some (.lst [.int c]) ∧ B a = none ∧ F a = none := by
  obtain ⟨x, e, v, rfl, ⟨rfl, h1⟩, h2⟩ := R.at h
  obtain ⟨h3, h4⟩ := h2 a (List.mem_singleton.mpr rfl)
  exact ⟨e, h1, h3, h4⟩
theorem Rel.cellSet {F0 F H : Hp} {σ : L2.St} (R : Rel G B F0 F ρ σ H) (h : ρ[i]? = some (some (.sh (⟨a, c⟩ : CellO)))) (c' : Int) : Rel G B F0 F (ρ.set i (some (.sh (⟨a, c'⟩ : CellO)))) σ (upd H a (.lst [.int c'])) := by
  obtain ⟨e, h1, h2, h3⟩ := R.cell h
  refine R.shift h e ⟨_, rfl, List.mem_singleton.mpr rfl⟩ ⟨_, rfl, ⟨rfl, upd_same⟩, fun b hb => ?_⟩ fun b hb => ?_
  · rw [List.mem_singleton.mp hb]; exact ⟨h2, h3⟩
  · obtain ⟨w, ew, hb⟩ := hb
    cases ew
    exact List.mem_singleton.mp hb
theorem Kp.cell {F0 F F' H H' : Hp} {σ : L2.St} {c' : Int} (R : Rel G B F0 F ρ σ H) (h : ρ[i]? = some (some (.sh (⟨a, c⟩ : CellO)))) (k : Same (lessA H a) H') (nw : ∀ b, F b = none → F' b ≠ none → lessA H a b = none) : Kp ρ (ρ.set i (some (.sh (⟨a, c'⟩ : CellO)))) σ F F' H H' := fun b o hb fb u => by
  obtain ⟨e, h1, _, _⟩ := R.cell h
  have own : Fp H (some (.sh (⟨a, c⟩ : CellO))) (some (.ref a)) a := ⟨_, rfl, List.mem_singleton.mpr rfl⟩
  have ba : b ≠ a := fun z => u i _ _ h e (z ▸ own)
  refine ⟨k _ _ (by rw [lessA_off ba]; exact hb), Classical.byContradiction fun z => ?_, fun j s x hs hx f => ?_⟩
  · have := nw b fb z
    rw [lessA_off ba, hb] at this
    cases this
  by_cases q : i = j
  · subst q
    rw [e] at hx
    cases hx
    rw [List.getElem?_set_self (List.getElem?_eq_some_iff.mp h).1] at hs
    cases hs
    obtain ⟨w, ew, hw⟩ := f
    cases ew
    exact ba (List.mem_singleton.mp hw)
  · rw [List.getElem?_set_ne q] at hs
    exact u j s x hs hx (Fp.lift (R.sl j s x hs hx) (fun d o' fd z => k _ _ (by
      have da : d ≠ a := fun w => q (R.ds i j _ _ _ _ a h e hs hx own (by rw [← w]; exact fd))
      rw [lessA_off da]
      exact z)) f)
/-- the def tells r and leaves the number r.2 -/
def spC (G : Gb) {P R : Type} [Rp R] (sl : P → List Slot) (f : Int → P → M (R × Int)) : Sp := fun vs H Q E => ∃ (a : Addr) (c : Int) (us : List V) (p : P) (F0 : Hp), vs = .ref a :: us ∧ H a = some (.lst [.int c]) ∧ F0 a = none ∧ Same F0 H ∧ ArgOk G F0 (lessA H a) (sl p) us ∧
  (f c p).P (fun r => ∀ (F' : Hp) (v : V) (H' : Hp), Fin G (lessA H a) F0 F' H' → F' a = none → H' a = some (.lst [.int r.2]) → rep G F' v r.1 → Q v H') fun x => ∀ H', Same (lessA H a) H' → E (.ref (G.cl x)) none H'
/-- its own block -/
def oRC (G : Gb) (B : Hp) (a : Addr) {R : Type} [Rp R] : Hp → R × Int → Ends → Prop := fun F0 r D => ∀ (F' : Hp) (v : V) (H' : Hp), Fin G B F0 F' H' → F' a = none → H' a = some (.lst [.int r.2]) → rep G F' v r.1 → D.rt v H'
theorem run_retC1 {m : M R} (h : ρ[i]? = some (some (.sh (⟨a, c⟩ : CellO)))) (hm : Ev G B E .F ρ te m) : Run G B E (oRC G B a) ρ (tRet te) (m.b fun r => .ok (r, c)) := fun F0 F σ H D R q =>
  hm.go R q fun r F' v H' e rr R' q => by
    obtain ⟨_, h1, _, h3⟩ := R'.cell h
    exact q F' v H' R'.fin h3 h1 rr
theorem run_retCX {m : M (R × S)} {cn : S → Int} (he : EvX G B E .F ρ te EX m) (h : ∀ s, (EX s)[i]? = some (some (.sh (⟨a, cn s⟩ : CellO)))) : Run G B E (oRC G B a) ρ (tRet te) (m.b fun x => .ok (x.1, cn x.2)) := fun F0 F σ H D R q =>
  he.go R q fun x F' v H' R' s kp rr q => by
    obtain ⟨_, h1, _, h3⟩ := R'.cell (h x.2)
    exact q F' v H' R'.fin h3 h1 rr
/-- the number that it holds -/
theorem ev_cellGet (h : ρ[i]? = some (some (.sh (⟨a, c⟩ : CellO)))) : Ev G B E mr ρ (tOp (rIxL G.K) (tVar i) (tC (.int 0))) (.ok c) := fun F0 F σ H Q R q => by
  obtain ⟨e, h1, _, _⟩ := R.cell h
  refine ⟨_, e, a, [.int c], 0, .int c, rfl, rfl, .of h1, rfl, ?_⟩
  exact q F (.int c) H (.refl _ _) R.sF rfl
/-- a call that changes it, one more argument -/
theorem ex_callC1 [Sc β] {mb : M β} {f : Int → β → M (R × Int)} (h : ρ[i]? = some (some (.sh (⟨a, c⟩ : CellO)))) (hb : Ev G B E md ρ tb mb) :
    EvX G B E .F ρ (tCall (spC G (fun p : β => [.fz p]) f) [] E0 (tCons (tVar i) (tCons tb tNil))) (fun c' : Int => ρ.set i (some (.sh (⟨a, c'⟩ : CellO)))) (mb.b fun b => (f c b).cl) := fun F0 F σ H Q R q => by
  obtain ⟨e, _, _, _⟩ := R.cell h
  refine ⟨_, e, hb.go R q fun b F1 v1 H1 e1 r1 R1 q => ?_⟩
  obtain ⟨_, h1, h2, h3⟩ := R1.cell h
  refine ⟨a, c, [v1], b, F1, rfl, h1, h3, R1.sF, ⟨(Sc.iff _ _ _ _).mpr ((Sc.iff _ _ _ _).mp r1), trivial⟩, ?_⟩
  refine (M.P_cl q).imp (fun r k F' v H' f0 fa ha rr => ?_) fun _ z => z.elim
  refine k F' v H' ((R1.cellSet h r.2).ext ⟨f0.s0, fun b o z => ?_, fun b z w => ?_⟩ f0.sF) (e1.f.trans f0.s0) ((Kp.ext R e1).trans (Kp.cell R1 h f0.sB f0.nw)) rr
  · by_cases q : b = a
    · subst q
      rw [upd_same] at z
      rw [ha, ← z]
    · rw [upd_ne q] at z
      exact f0.sB b o (by rw [lessA_off q]; exact z)
  · by_cases q : b = a
    · subst q; exact absurd fa w
    · rw [upd_ne q, ← lessA_off (H := H1) q]
      exact f0.nw b z w
theorem ex_callC0 {f : Int → Unit → M (R × Int)} (h : ρ[i]? = some (some (.sh (⟨a, c⟩ : CellO)))) :
    EvX G B E .F ρ (tCall (spC G (fun _ : Unit => []) f) [] E0 (tCons (tVar i) tNil)) (fun c' : Int => ρ.set i (some (.sh (⟨a, c'⟩ : CellO)))) ((f c ()).cl) := fun F0 F σ H Q R q => by
  obtain ⟨e, h1, h2, h3⟩ := R.cell h
  refine ⟨_, e, ?_⟩
  refine ⟨a, c, [], (), F, rfl, h1, h3, R.sF, trivial, ?_⟩
  refine (M.P_cl q).imp (fun r k F' v H' f0 fa ha rr => ?_) fun _ z => z.elim
  refine k F' v H' ((R.cellSet h r.2).ext ⟨f0.s0, fun b o z => ?_, fun b z w => ?_⟩ f0.sF) f0.s0 (Kp.cell R h f0.sB f0.nw) rr
  · by_cases q : b = a
    · subst q
      rw [upd_same] at z
      rw [ha, ← z]
    · rw [upd_ne q] at z
      exact f0.sB b o (by rw [lessA_off q]; exact z)
  · by_cases q : b = a
    · subst q; exact absurd fa w
    · rw [upd_ne q, ← lessA_off (H := H) q]
      exact f0.nw b z w
/-- a list of one number, made -/
theorem run_cellNew {m : M Int} {k : Int → M Ω} (he : Ev G B E md ρ te m) (hk : ∀ (p : Addr) (c : Int), Run G B E post (ρ.set i (some (.sh (⟨p, c⟩ : CellO)))) rest (k c)) : Run G B E post ρ (tSeq (tAsg (tLst (tCons te tNil)) (gName i)) rest) (m.b k) := fun F0 F σ H D R q =>
  he.go R q fun c F1 v H1 e1 r1 R1 q => by
    refine ⟨show 1 ≤ sizeLine by decide, fun p np => ?_⟩
    have ev : v = .int c := r1
    subst ev
    have R2 := R1.ext (.new (o := .lst [.int c]) np) (R1.sF.trans (same_upd np))
    refine hk p c F0 F1 _ _ D (R2.setv ⟨_, rfl, ⟨rfl, upd_same⟩, fun b hb => ?_⟩ fun b hb j t y _ hj hy g => ?_) q
    · rw [List.mem_singleton.mp hb]; exact ⟨R1.sB.free np, R1.sF.free np⟩
    · obtain ⟨w, ew, hb⟩ := hb
      cases ew
      have := List.mem_singleton.mp hb
      subst this
      exact R1.freshE np (same_upd np) j t y hj hy g
end
end Tw
set_option Elab.async false
set_option linter.all false
set_option maxRecDepth 100000
set_option maxHeartbeats 4000000
set_option Elab.async false
set_option linter.all false
set_option maxRecDepth 100000
set_option maxHeartbeats 4000000
namespace Tw
open PySem PySem.Spec L2 TL
open PyProof.Rows hiding St
section
variable {X : Cx} {a : Addr} {cls : Value} {d : Option Addr} {oe : Obj}
theorem call_isXg (hp : (a, oe) ∈ X.pn) (hz : L2N.Zn cls d oe) (hf : ∃ vs, oe.data = .fields vs) : CallR X (.builtin "isinstance") (rIsX X.K cls d a) := by
  intro pins s σ H xs us Q I r h
  obtain ⟨D, c, cv, b, rfl, rfl, C, rfl, k, e, q⟩ := h
  cases r with
  | cons rx rr =>
    cases rr with
    | cons rt rr =>
      cases rr
      cases rx
      have ec := k.eq rt
      subst ec
      obtain ⟨hget, _⟩ := I.pin (a, oe) (List.mem_append_left _ hp)
      obtain ⟨vs, hv⟩ := hf
      have J : PySem.W.InstAt s.heap a oe D none := by
        obtain ⟨oc, od, oda, osl⟩ := oe
        obtain ⟨h1, h2, _⟩ := hz
        dsimp only at h1 h2 hv
        subst h1 h2 hv
        exact ⟨hget, rfl, rfl, trivial⟩
      exact PySem.W.kia_one (PySem.W.handS_kitx_exc C.hg C.hk C.hs C.hd C.ha C.hn C.ht C.hm) I.kIn J e (fun z => nomatch z) fun tk => ⟨.bl b, H, I.kept (t' := tk) fun _ _ z => z, rfl, q⟩
end
structure FnX (P : Program) (w : World) (K : PySem.W.Frag) (mg : Str → Option Value) (base : Heap) (CX : CXT) (k : Nat) (f : Addr) (fd : FuncData) (ps : List Str) (p : Addr × Obj) (sp : Sp) : Prop where
  len : ∀ vs H Q E, sp vs H Q E → vs.length = ps.length
  run : ∀ (A : Around) (outer : List Env) (s : Shared) (H : Hp) (args : Args) (us : List Value) (vs : List V) (Q : VK) (E : XK), L2H.RoomH k A → L2H.Hot1 A p → L2H.PinOk outer H s p → Env0 P w K mg base A outer s H → BindsTo s fd args (ps.zip us) → Vals vs us → sp vs H Q E →
    codeAny (model P w) A (.call (.ref f) args) (CR CX outer P w H s Q E) s
section
variable {P : Program} {w : World} {K : PySem.W.Frag} {mg : Str → Option Value} {base : Heap} {CX : CXT} {k : Nat} {f : Addr} {fd : FuncData} {N ps : List Str} {p : Addr × Obj} {sp : Sp}
theorem okX {x qual : Str} {st : Stmt} (F : Fun K x qual st f fd) (S : FnScope N ps (defScope st)) (len : ∀ vs H Q E, sp vs H Q E → vs.length = ps.length)
    (hb : ∀ (cdv : Value) (A : Around) (outer : List Env) (s : Shared) (H : Hp) (vs : List V) (Q : VK) (E : XK), L2H.Hot1 A p → L2H.RoomH k (A.deeper (envOfC qual (defScope st) s.heap.objs.size f cdv)) → sp vs H Q E → ∃ t, PSs (L2H.cxH CX P w K mg base N qual (defScope st) f cdv A outer s H E p) (defBody st) t ∧ t (dEnd Q) (start N vs) H) :
    FnX P w K mg base CX (k + 1) f fd ps p sp := by
  obtain ⟨oc, od, kV, doc, pm, an, cdv, ct, osl, rfl, lk, hcd⟩ := F.ex
  refine ⟨len, fun A outer s H args us vs Q E room hot pin e0 bd rv hsp => ?_⟩
  have inK : K.In s.heap := e0.mod.kin.keeps fun b o e => (e0.bs b o e).1
  have par : ∀ y ∈ ps.zip us, (defScope st).names.lookup y.1 = some .local ∨ ((defScope st).names.lookup y.1 = some .cell ∧ ((cellsFrom (s.heap.objs.size + 1) (defScope st).names []).lookup y.1).isSome = true) := fun y hy =>
    (S.par y.1 (List.of_mem_zip (show (y.1, y.2) ∈ ps.zip us from hy)).1).imp id fun z => ⟨z, PySem.W.cellsFrom_some _ _ _ (.inl z)⟩
  refine codeAny_call_function room.depth (inK _ _ lk) rfl S.co S.gen rfl (PySem.W.codeRec_of inK hcd) (bd _ _ _ _ (wpAny_newFunctionEnv_cells S.kind par fun env he s1 x => ?_))
  subst he
  refine ⟨(e0.mod.nolimit.keeps fun b o e => (e0.bs b o e).1).keeps x.toInCall.keep, codeAny_func ?_⟩
  obtain ⟨t, ht, hq⟩ := hb cdv A outer s H vs Q E hot (room.deeper _) hsp
  have I := L2H.inv_startH (CX := CX) (E := E) S pin e0 (len _ _ _ _ hsp) rv x
  refine wpAny_mono (ht.run [] s1 (start N vs) H _ I hq) (fun fl s' h => ?_) fun _ _ h => h
  cases fl with
  | ret u => obtain ⟨v, σ', H', J, r, z⟩ := h; exact ⟨v, H', J.os, J.bare, J.base, J.hok, r, z⟩
  | next => obtain ⟨σ', H', J, z⟩ := h; exact ⟨.non, H', J.os, J.bare, J.base, J.hok, rfl, z⟩
  | brk => obtain ⟨_, _, _, z⟩ := h; exact z.elim
  | cont => obtain ⟨_, _, _, z⟩ := h; exact z.elim
end
section
variable {X : Cx} {k : Nat} {f : Addr} {fd : FuncData} {ps : List Str} {p : Addr × Obj} {sp : Sp} {x : Str} {q pos : Pos} {e : Expr} {es : List Expr} {t : TA}
/-- x(e, ..) there; it never raises -/
theorem pe_callX (F : FnX X.prog X.w X.K X.mg X.base CX0 k f fd ps p sp) (hr : L2H.RoomH k X.A) (hot : L2H.Hot1 X.A p) (hp : p ∈ X.pn) (hg : Gl X x) (hm : X.mg x = some (.ref f)) (hk : PySem.W.keepIn X.K (.ref f) = true) (hb : Binds X.K fd ps [])
    (ha : PA X (e :: es) t) (hdb : (x == ("__debug__" : Str)) = false := by decide) (he : starEach (e :: es) X.env = (false, eval e X.env) :: starEach es X.env := by rfl) (hpl : (backTo pos (starEach es X.env)).any (·.1) = false := by rfl) :
    PE X (.Call (.Name x q) (e :: es) [] pos) (tCall sp [] E0 t) := by
  refine ⟨fun pins s σ H Q I h => wpAny_Call_Name_kw (ld_glob I hg hm ?_ hdb)⟩
  refine PySem.W.callWith_K (h₀ := X.base) I.ok.mod.kin hk (thn (ha.run pos pins s σ H _ I h) fun us s1 ⟨vs, H1, I1, r, z⟩ => ⟨I1.kIn, ?_⟩) he hpl
  have z : sp vs H1 Q E0 := by simpa using z
  have hl : us.length = ps.length := by rw [← r.length]; exact F.len _ _ _ _ z
  have b := hb s1 us I1.kIn (by rw [List.append_nil]; exact hl)
  rw [List.append_nil] at b
  obtain ⟨p1, p2, p3, p4, p5⟩ := I1.pin p (List.mem_append_left _ hp)
  refine wpAny_call (codeAny_mono (F.run X.A X.stack s1 H1 ⟨us, []⟩ us vs Q E0 hr hot ⟨p1, p2, fun w => (List.mem_cons.mp (I1.stkSub p.1 w)).elim p3 p4, p5⟩ I1.env0 b r z) fun rs s' hq => ?_)
  cases rs with
  | error e => exact pass0 pins σ H1 s1 e s' I1 hq
  | ok fl =>
    cases fl with
    | ret u => exact I1.after hq
    | next => exact hq.elim
    | brk => exact hq.elim
    | cont => exact hq.elim
end
/-- name = [..] there -/
theorem ps_setLcHot {X : Cx} {i : Nat} {y : Str} {py : Pos} {elt tg l : Expr} {ifs : List Expr} {scope : Scope} {own : List (Str × Nat)} {pos spos : Pos} {tl : TE} {g : TG} {tt : TT} {te : TE} (hot : L2H.HotC X) (nd : X.N.Nodup) (hy : X.N[i]? = some y) (hyl : X.env.scope.names.lookup y = some .local)
    (hsw : swapsWith (.ListComp elt [⟨tg, l, ifs, 0⟩] scope pos) (some (.Name y py)) spos.line X.env = pure true) (hl : PE X l tl) (ok : BlkOk X.N X.env.scope scope own)
    (pg : ∀ (s : Shared) (H : Hp) (C : Addr) (cl : List (Str × Addr)) (fp : List Addr), PG (X.blk s H scope (compEnvC scope cl C X.env) fp) tg g) (pt : ∀ (s : Shared) (H : Hp) (C : Addr) (cl : List (Str × Addr)) (fp : List Addr), PTs (X.blk s H scope (compEnvC scope cl C X.env) fp) ifs tt)
    (pe : ∀ (s : Shared) (H : Hp) (C : Addr) (cl : List (Str × Addr)) (fp : List Addr), PE (X.blk s H scope (compEnvC scope cl C X.env) fp) elt te) (hs : ∀ x, foldedSetIterable l X.env x = pure x := by intro _; rfl) :
    PS X (.Assign [.Name y py] (.ListComp elt [⟨tg, l, ifs, 0⟩] scope pos) spos) (tAsg (tLc (iList X.K tl) g tt te (own.map (·.2))) (gName i)) := by
  refine ⟨fun pins s σ H D I h => ?_⟩
  rw [exec_Assign_Name_used _ _ _ _ hsw]
  refine wpAny_bind (wpAny_standAt (wpAny_bind ?_))
  show wpAny _ X.A (do let _ ← comprehension (.ListComp elt [⟨tg, l, ifs, 0⟩] scope pos) scope X.env (firstIterPos [⟨tg, l, ifs, 0⟩] pos) (newList []) false (eval l X.env) (some (assign (.Name y py) X.env))) _ _ s
  have h : tLc (iList X.K tl) g tt te (own.map (·.2)) σ H (fun x H1 => gName i x σ H1 D.nx) := h
  refine wpAny_bind (thn (lc_hot (Qf := fun _ s' => SP X pins D .next s') hot nd I hl ok pg pt pe hs h fun L C s' m H' J z hn fr => ?_) fun _ _ z => wpAny_pure (wpAny_pure z))
  show wpAny _ _ (assign (.Name y py) X.env (.ref L)) _ _ _
  refine wpAny_assign_Name (store_ok2 (v := V.ref L) J nd hy (.inl hyl) rfl (fun s2 J2 ⟨b, sb, hb⟩ => ?_) (.inr hyl))
  obtain ⟨c0, c1, c2, c3, c4, c5⟩ := fr
  have ne : C ≠ b := hb.elim (fun z => by rw [z]; exact c1) fun z e => c4 y b z e.symm
  exact ⟨m, hn.sameBut sb ne, fun h3 sb3 => ⟨_, H', J2.turned (t' := s2.toks) (fun b o nb e => (sb3.2 b nb).trans e) c0 c1 c3 c4 c5, z⟩⟩
end Tw
set_option Elab.async false
set_option linter.all false
set_option maxRecDepth 100000
set_option maxHeartbeats 4000000
namespace Tw
open PySem PySem.Spec L2 TL
open PyProof.Rows hiding St
/-- the promise of a def whose one argument is the exception that is handled -/
def spE (G : Gb) {R : Type} (rp : RP R) (f : Exn → M R) (xa : Addr) (xl : Value) (xd : Option Addr) : Sp := fun vs H Q E => ∃ c, xl = .ref (G.cl c) ∧ xd = none ∧ spA G (fun (_ : Unit) => [.fz (⟨xa, c⟩ : Exn)]) rp (fun _ => f ⟨xa, c⟩) vs H Q E
section
variable {G : Gb} {B : Hp} {E : XK} {ρ : Evr} {R : Type} {rp : RP R} {f : Exn → M R} {xa : Addr} {xl : Value} {xd : Option Addr} {vs : List V} {H : Hp} {Q : VK} {N : List Str} {n : Nat} {t : Addr → Value → Option Addr → TS}
theorem spE_len (h : spE G rp f xa xl xd vs H Q E) : vs.length = 1 := by
  obtain ⟨c, _, _, h⟩ := h
  exact spA_len h fun _ => rfl
theorem spE_run (h : spE G rp f xa xl xd vs H Q E) (hn : N.length = 1 + n) (hr : ∀ (x : Exn) B, Run G B E (oR G B rp) (some (.fz x) :: List.replicate n none) (t x.a (.ref (G.cl x.c)) none) (f x)) : t xa xl xd (dEnd Q) (start N vs) H := by
  obtain ⟨c, rfl, rfl, h⟩ := h
  exact spA_run (n := n) h (fun _ => hn) fun _ B => hr ⟨xa, c⟩ B
theorem ev_callE [Rp R] {i : Nat} {xc : Str} {f : Exn → M R} (h : ρ[i]? = some (some (.fz (⟨xa, xc⟩ : Exn)))) : Ev G B E .F ρ (tCall (spE G (rpF G) f xa (.ref (G.cl xc)) none) [] E0 (tCons (tVar i) tNil)) (M.cl (f ⟨xa, xc⟩)) := fun F0 F σ H Q R0 q => by
  obtain ⟨x, ex, v, rfl, r⟩ := R0.at h
  refine ⟨_, ex, xc, rfl, rfl, (), F, R0.sF, ⟨r, trivial⟩, ?_⟩
  refine (M.P_cl q).imp (fun a k F' v H' f h => ?_) fun _ z => z.elim
  exact k F' v H' f.ext0 f.sF h
theorem hot1_suite {X : Cx} {a : Addr} {oe : Obj} {cls : Value} {d : Option Addr} (hz : L2N.Zn cls d oe) (hf : ∃ vs, oe.data = .fields vs) : L2H.Hot1 (X.A.mark (some (.ref a))) (a, oe) := by
  obtain ⟨vs, hv⟩ := hf
  exact ⟨rfl, vs, hv, hz.2.2 vs hv⟩
end
theorem roomHM {j : Nat} {A A' : Around} (r : Room j A) (hd : A'.depth = A.depth := by rfl) (hu : A'.units = A.units := by rfl) : L2H.RoomH j A' := ⟨by rw [hd]; exact r.dp, by rw [hu]; exact r.un⟩
end Tw
set_option Elab.async false
set_option linter.all false
set_option maxRecDepth 100000
set_option maxHeartbeats 4000000
namespace Tw
open PySem PySem.Spec L2 TL
open PyProof.Rows hiding St
/-- the steps one by one, the state handed on -/
def M.lcS {α β S : Type} (e : S → α → M (β × S)) : List α → S → M (List β × S)
  | [], s => .ok ([], s)
  | x :: xs, s => (e s x).b fun r => (M.lcS e xs r.2).b fun q => .ok (r.1 :: q.1, q.2)
section
variable {G : Gb} {B : Hp} {E : XK} {α β S : Type} [Rp α] [Rp β] {te : TE} {tt : TT} {wi : TI} {v : Nat} {EX : S → Evr} {c0 : S} {m : M (List α)} {e : S → α → M (β × S)}
theorem unow_set {ρ : Evr} {σ σ2 : L2.St} {H : Hp} {b : Addr} {x : α} (u : Unow (ρ.set v none) (wipe σ [v]) H b) (w : wipe σ2 [v] = wipe σ [v]) : Unow ((ρ.set v none).set v (some (.fz x))) σ2 H b := fun j s y hs hy f => by
  by_cases q : v = j
  · subst q
    have hl : v < ((ρ.set v none).set v (some (Slot.fz x))).length := (List.getElem?_eq_some_iff.mp hs).1
    rw [List.length_set] at hl
    rw [List.getElem?_set_self hl] at hs
    cases hs
    exact f
  · rw [List.getElem?_set_ne q] at hs
    refine u j s y hs ?_ f
    rw [← w]
    show (σ2.set v none)[j]? = _
    rw [List.getElem?_set_ne q]
    exact hy
theorem unow_unset {ρ : Evr} {σ σ2 : L2.St} {H : Hp} {b : Addr} {x : α} (u : Unow ((ρ.set v none).set v (some (.fz x))) σ2 H b) (w : wipe σ2 [v] = wipe σ [v]) : Unow (ρ.set v none) (wipe σ [v]) H b := fun j s y hs hy f => by
  by_cases q : v = j
  · subst q
    have hl : v < (ρ.set v none).length := (List.getElem?_eq_some_iff.mp hs).1
    rw [List.length_set] at hl
    rw [List.getElem?_set_self hl] at hs
    cases hs
    exact f
  · refine u j s y (by rw [List.getElem?_set_ne q]; exact hs) ?_ f
    rw [← w] at hy
    have hy : (σ2.set v none)[j]? = some y := hy
    rw [List.getElem?_set_ne q] at hy
    exact hy
theorem set_same {ρ : Evr} (h : ρ[v]? = some none) : ρ.set v none = ρ := by
  have := List.set_getElem_self (as := ρ) (i := v) (List.getElem?_eq_some_iff.mp h).1
  rw [(List.getElem?_eq_some_iff.mp h).2] at this
  exact this
theorem unow_w {ρ : Evr} {σ : L2.St} {H : Hp} {b : Addr} (h : ρ[v]? = some none) : Unow ρ σ H b ↔ Unow ρ (wipe σ [v]) H b := by
  have key : ∀ {τ τ' : L2.St}, (∀ j, j ≠ v → τ[j]? = τ'[j]?) → Unow ρ τ H b → Unow ρ τ' H b := fun hh u j s y hs hy f => by
    by_cases q : j = v
    · subst q
      rw [h] at hs
      cases hs
      exact f
    · exact u j s y hs (by rw [hh j q]; exact hy) f
  have w : ∀ j, j ≠ v → σ[j]? = (wipe σ [v])[j]? := fun j q => by
    show _ = (σ.set v none)[j]?
    rw [List.getElem?_set_ne (Ne.symm q)]
  exact ⟨key w, key fun j q => (w j q).symm⟩
theorem rel_unw {ρ : Evr} {σ : L2.St} {F0 F H : Hp} (h : ρ[v]? = some none) (R : Rel G B F0 F ρ (wipe σ [v]) H) (hl : v < σ.length) : Rel G B F0 F ρ σ H := by
  have := R.setv (i := v) (s := none) (v := σ[v]) trivial fun b f => absurd f id
  rw [set_same h] at this
  have e : (wipe σ [v]).set v σ[v] = σ := by
    show (σ.set v none).set v σ[v] = σ
    rw [List.set_set]
    exact List.set_getElem_self hl
  rw [e] at this
  exact this
theorem Rel.freezeU {ρ : Evr} {σ : L2.St} {F0 F H : Hp} {D : Addr} {o : HO} (R : Rel G B F0 F ρ σ H) (hD : H D = some o) (fD : F D = none) (bD : B D = none) (u : Unow ρ σ H D) : Rel G B F0 (upd F D o) ρ σ H where
  sB := R.sB
  sF := fun b w z => by
    by_cases q : b = D
    · subst q; rw [upd_same] at z; rw [hD]; exact z
    · rw [upd_ne q] at z; exact R.sF b w z
  s0 := R.s0.trans (same_upd fD)
  nw := fun a h q => by
    by_cases z : a = D
    · rw [z]; exact bD
    · rw [upd_ne z] at q; exact R.nw a h q
  len := R.len
  sl := fun j s x hs hx => (R.sl j s x hs hx).frame (same_upd fD) (fun _ _ _ z => z) fun b f => by
    have bd : b ≠ D := fun z => u j s x hs hx (by rw [← z]; exact f)
    rw [upd_ne bd]
    exact (Fp.at (R.sl j s x hs hx) f).2.2
  ds := R.ds
theorem unow_upd {ρ : Evr} {σ : L2.St} {F0 F H : Hp} {D b : Addr} {o : HO} (R : Rel G B F0 F ρ σ H) (uD : Unow ρ σ H D) (u : Unow ρ σ H b) : Unow ρ σ (upd H D o) b := fun j s y hs hy f =>
  u j s y hs hy (Fp.lift (R.sl j s y hs hy) (fun d w fd z => by
    have dd : d ≠ D := fun q => uD j s y hs hy (by rw [← q]; exact fd)
    rw [upd_ne dd]
    exact z) f)
theorem ex_lc (hv : ∀ c, (EX c)[v]? = some none) (hw : EvW G B E true (EX c0) wi (gName v) [v] (fun x r => r.set v (some (.fz x))) m)
    (ht : ∀ c (x : α), EvT G B E ((EX c).set v (some (.fz x))) tt (.ok true))
    (he : ∀ c (x : α), EvX G B E .F ((EX c).set v (some (.fz x))) te (fun c' => (EX c').set v (some (.fz x))) (e c x)) :
    EvX G B E .F (EX c0) (tLc wi (gName v) tt te [v]) EX (m.b fun xs => .chk (xs.length ≤ sizeLine) (M.lcS e xs c0)) := fun F0 F σ H Q R q => hw F0 F σ H _ R ((M.P_b.mp q).imp (fun xs q F1 H1 J e1 s1 wk D nD => by
  obtain ⟨cl, q⟩ := M.P_chk.mp q
  have R1 := R.ext e1 s1
  have hBD : B D = none := R1.sB.free nD
  have kp1 := Kp.ext R e1
  have vl : v < σ.length := by rw [← R.len]; exact (List.getElem?_eq_some_iff.mp (hv c0)).1
  have Rw : Rel G B F0 F1 (EX c0) (wipe σ [v]) H1 := by have := R1.wipe [v]; rw [show wipeE (EX c0) [v] = EX c0 from set_same (hv c0)] at this; exact this
  have uset : ∀ {c : S} {σ2 : L2.St} {H : Hp} {x : α}, Unow (EX c) (wipe σ [v]) H D → wipe σ2 [v] = wipe σ [v] → Unow ((EX c).set v (some (.fz x))) σ2 H D := fun {c σ2 H x} u w => by
    have := unow_set (ρ := EX c) (x := x) (by rw [set_same (hv c)]; exact u) w
    rw [set_same (hv c)] at this
    exact this
  refine ⟨fun i k H2 => k = xs.length - i ∧ i ≤ xs.length ∧ ∃ (F2 : Hp) (c : S) (acc : List V) (ys : List β), Rel G B F0 F2 (EX c) (wipe σ [v]) H2 ∧ Same F1 F2 ∧ H2 D = some (.lst acc) ∧ F2 D = none ∧ Unow (EX c) (wipe σ [v]) H2 D ∧ Kp (EX c0) (EX c) (wipe σ [v]) F1 F2 H1 H2 ∧ reps G F2 acc ys ∧ ys.length ≤ i ∧
    (M.lcS e (xs.drop i) c).P (fun r => ∀ (F' : Hp) (w : V) (H' : Hp), Rel G B F0 F' (EX r.2) σ H' → Same F F' → Kp (EX c0) (EX r.2) σ F F' H H' → rep G F' w (ys ++ r.1) → Q w H') (Xc G B E), ⟨xs.length, by simp, Nat.zero_le _, F1, c0, [], [], ?_, .refl _, upd_same, s1.free nD, ?_, ?_, .nil, Nat.zero_le _, ?_⟩, ?_⟩
  · exact Rw.side hBD (s1.free nD) (Rw.fresh nD)
  · exact Rw.freshE nD (same_upd nD)
  · exact Kp.ext Rw (.new nD)
  · rw [List.drop_zero]
    exact q
  rintro i k H2 ⟨rfl, hi, F2, c, acc, ys, R2, s2, hD, fD, uD, kp, ra, hy, q2⟩
  obtain ⟨w1, w2⟩ := wk i F0 F2 _ _ H2 ⟨s2, fun z => nomatch z⟩ R2
  by_cases hlt : i < xs.length
  · have hx : xs[i]? = some xs[i] := List.getElem?_eq_getElem hlt
    obtain ⟨g1, g2⟩ := w2 xs[i] hx
    rw [List.drop_eq_getElem_cons hlt] at q2
    refine .inr ⟨g1, fun H3 => ∃ m', m' < xs.length - i ∧ (m' = xs.length - (i + 1) ∧ i + 1 ≤ xs.length ∧ ∃ (F2 : Hp) (c : S) (acc : List V) (ys : List β), Rel G B F0 F2 (EX c) (wipe σ [v]) H3 ∧ Same F1 F2 ∧ H3 D = some (.lst acc) ∧ F2 D = none ∧ Unow (EX c) (wipe σ [v]) H3 D ∧ Kp (EX c0) (EX c) (wipe σ [v]) F1 F2 H1 H3 ∧ reps G F2 acc ys ∧ ys.length ≤ i + 1 ∧
      (M.lcS e (xs.drop (i + 1)) c).P (fun r => ∀ (F' : Hp) (w : V) (H' : Hp), Rel G B F0 F' (EX r.2) σ H' → Same F F' → Kp (EX c0) (EX r.2) σ F F' H H' → rep G F' w (ys ++ r.1) → Q w H') (Xc G B E)), fun H3 z => z, fun vv H3 hyld => g2 vv H3 hyld _ fun F3 σ3 H4 e3 ws R3 => ⟨ws.trans (wipe_idem σ [v]), ?_⟩⟩
    have hm : xs.length - (i + 1) < xs.length - i := by omega
    have ws' : wipe σ3 [v] = wipe σ [v] := ws.trans (wipe_idem σ [v])
    have k3 := Kp.ext R2 e3
    obtain ⟨hD4, fD4, uD4⟩ := k3 D _ hD fD uD
    refine ht c xs[i] F0 F3 σ3 H4 _ R3 (show (M.ok true).P _ _ from fun F4 H5 e4 s4 => ?_)
    have R4 := R3.ext e4 s4
    have k4 := Kp.ext R3 e4
    obtain ⟨hD5, fD5, uD5⟩ := k4 D _ hD4 fD4 (uset uD4 ws')
    refine iteT ((he c xs[i]).go R4 q2 fun x F5 v2 H6 R5 s5 kp5 r5 q4 => ?_)
    obtain ⟨hD6, fD6, uD6⟩ := kp5 D _ hD5 fD5 uD5
    have uD6' : Unow (EX x.2) (wipe σ [v]) H6 D := by
      have := unow_unset (ρ := EX x.2) (x := xs[i]) (by rw [set_same (hv x.2)]; exact uD6) ws'
      rw [set_same (hv x.2)] at this
      exact this
    have R6 : Rel G B F0 F5 (EX x.2) (wipe σ [v]) H6 := by
      have := R5.wipe [v]
      rw [ws'] at this
      have e6 : wipeE ((EX x.2).set v (some (.fz xs[i]))) [v] = EX x.2 := by
        show ((EX x.2).set v (some (.fz xs[i]))).set v none = EX x.2
        rw [List.set_set, set_same (hv x.2)]
      rw [e6] at this
      exact this
    have kst : Kp (EX c) (EX x.2) (wipe σ [v]) F2 F5 H2 H6 := fun b o h f u => by
      obtain ⟨h4, f4, u4⟩ := k3 b o h f u
      have us : Unow ((EX c).set v (some (.fz xs[i]))) σ3 H4 b := by
        have := unow_set (ρ := EX c) (x := xs[i]) (by rw [set_same (hv c)]; exact u4) ws'
        rw [set_same (hv c)] at this
        exact this
      obtain ⟨h5, f5, u5⟩ := k4 b o h4 f4 us
      obtain ⟨h6, f6, u6⟩ := kp5 b o h5 f5 u5
      refine ⟨h6, f6, ?_⟩
      have := unow_unset (ρ := EX x.2) (x := xs[i]) (by rw [set_same (hv x.2)]; exact u6) ws'
      rw [set_same (hv x.2)] at this
      exact this
    have s25 : Same F2 F5 := (e3.f.trans e4.f).trans s5
    refine ⟨acc, hD6, by rw [ra.len]; omega, _, hm, rfl, hlt, F5, x.2, acc ++ [v2], ys ++ [x.1], R6.side hBD fD6 uD6', s2.trans s25, upd_same, fD6, ?_, ?_, (reps_mono s25 ra).snoc r5, by rw [List.length_append]; exact Nat.succ_le_succ hy, ?_⟩
    · exact unow_upd R6 uD6' uD6'
    · intro b o hb fb ub
      obtain ⟨z1, z2, z3⟩ := (kp.trans kst) b o hb fb ub
      exact ⟨by rw [upd_ne (ne_of_none hb nD)]; exact z1, z2, unow_upd R6 uD6' z3⟩
    · refine (M.P_b.mp q4).imp (fun r f F' w H' a1 a2 a3 a4 => f F' w H' a1 a2 a3 ?_) fun _ x => x
      rw [List.append_assoc] at a4
      exact a4
  · have ei : i = xs.length := by omega
    subst ei
    rw [List.drop_length] at q2
    refine .inl ⟨w1 (Nat.le_refl _), ?_⟩
    have R7 := rel_unw (hv c) R2 vl
    have u7 := (unow_w (hv c)).mpr uD
    refine q2 (upd F2 D (.lst acc)) (.ref D) H2 (R7.freezeU hD fD hBD u7) ((e1.f.trans s2).trans (same_upd fD)) (fun b o hb fb ub => ?_) ⟨D, acc, rfl, upd_same, by rw [List.append_nil]; exact reps_mono (same_upd fD) ra⟩
    obtain ⟨y1, y2, y3⟩ := kp1 b o hb fb ub
    obtain ⟨z1, z2, z3⟩ := kp b o y1 y2 ((unow_w (hv c0)).mp y3)
    exact ⟨z1, by rw [upd_ne (ne_of_none y1 nD)]; exact z2, (unow_w (hv c)).mpr z3⟩) fun _ x => x)
end
end Tw
set_option Elab.async false
set_option linter.all false
set_option maxRecDepth 100000
set_option maxHeartbeats 4000000
namespace Tw
open PySem PySem.Spec L2 TL
open PyProof.Rows hiding St
section
variable {G : Gb} {B : Hp} {E : XK} {ρ : Evr} {α β S S' Ω R : Type} [Rp α] [Rp β] [Rp R] {md md' mr : Md} {ta tb te : TE} {EX : S → Evr} {EX' : S' → Evr} {post : Hp → Ω → Ends → Prop} {rest t : TS} {i : Nat} {a : Addr} {c : Int}
/-- a plain expression, the state told as EX wants it -/
theorem EvX.ofS {m : M α} (s0 : S) (h : Ev G B E md (EX s0) te m) : EvX G B E md (EX s0) te EX (m.b fun a => .ok (a, s0)) := fun F0 F σ H Q R q =>
  h.go R q fun a F' v H' e r R' q => q F' v H' R' e.f (Kp.ext R e) r
/-- x[0] = e -/
theorem run_cellSet {m : M Int} {k : Int → M Ω} (h : ρ[i]? = some (some (.sh (⟨a, c⟩ : CellO)))) (he : Ev G B E md ρ te m) (hk : ∀ c', Run G B E post (ρ.set i (some (.sh (⟨a, c'⟩ : CellO)))) rest (k c')) :
    Run G B E post ρ (tSeq (tAsg te (gSub (tVar i) (tC (.int 0)) rSetL)) rest) (m.b k) := fun F0 F σ H D R q => by
  obtain ⟨e, _, _, _⟩ := R.cell h
  refine he.go R q fun c' F1 v H1 e1 r1 R1 q => ⟨_, e, ?_⟩
  obtain ⟨_, h1, h2, h3⟩ := R1.cell h
  have ev : v = .int c' := r1
  subst ev
  exact ⟨a, [.int c], 0, 0, rfl, rfl, h1, rfl, hk c' F0 F1 σ _ D (R1.cellSet h c') q⟩
theorem run_forArgS {g : TG} {m : M (Int × S)} {k : Int → S → M Ω} (he : EvX G B E md ρ te EX m) (hk : ∀ n s, Run G B E post (EX s) (tSeq (tFor (iRng1 (tCons (tC (.int n)) tNil)) g t) rest) (k n s)) : Run G B E post ρ (tSeq (tFor (iRng1 (tCons te tNil)) g t) rest) (m.b fun x => k x.1 x.2) := fun F0 F σ H D R q =>
  he.go R q fun x F' v H' R' s kp rv q => by
    have ev : v = .int x.1 := rv
    subst ev
    exact hk x.1 x.2 F0 F' σ H' D R' q
theorem runX_ifLS [Sc α] {rr : R2} {t1 t2 : TS} {m : M (α × S)} {k : α → S → M Ω} (he : EvX G B E md ρ ta EX m) (hk : ∀ a s, Run G B E post (EX s) (tSeq (tIfS (tTest (tOp rr (tC (Sc.enc a)) tb)) t1 t2) rest) (k a s)) : Run G B E post ρ (tSeq (tIfS (tTest (tOp rr ta tb)) t1 t2) rest) (m.b fun x => k x.1 x.2) := fun F0 F σ H D R q =>
  he.go R q fun x F' v H' R' s kp rv q => by
    rw [(Sc.iff _ _ _ _).mp rv]
    exact hk x.1 x.2 F0 F' σ H' D R' q
theorem run_cutX {m : M (R × Int)} (h : Run G B E (oRC G B a) ρ t m) : Run G B E (oRC G B a) ρ (tSeq t rest) m := fun F0 F σ H D R q => h F0 F σ H { D with nx := rest D } R q
theorem ex_lcArg {g : TG} {tt : TT} {ts : List Nat} {m : M (Int × S)} {k : Int → S → M (α × S')} (he : EvX G B E md ρ ta EX m) (hk : ∀ n s, EvX G B E mr (EX s) (tLc (iRng1 (tCons (tC (.int n)) tNil)) g tt te ts) EX' (k n s)) : EvX G B E mr ρ (tLc (iRng1 (tCons ta tNil)) g tt te ts) EX' (m.b fun x => k x.1 x.2) := fun F0 F σ H Q R q =>
  he.go R q fun x F' v H' R' s kp rv q => by
    have ev : v = .int x.1 := rv
    subst ev
    exact hk x.1 x.2 F0 F' σ H' Q R' (q.imp (fun y k F2 v2 H2 R2 s2 kp2 r2 => k F2 v2 H2 R2 (s.trans s2) (kp.trans kp2) r2) fun _ x => x)
theorem Rel.def_ {F0 F H : Hp} {σ : L2.St} {j : Nat} {b : α} (R : Rel G B F0 F ρ σ H) (h : ρ[j]? = some (some (.fz b))) : ∃ v, σ[j]? = some (some v) := by
  obtain ⟨x, e, v, rfl, _⟩ := R.at h
  exact ⟨v, e⟩
theorem spC_len {P : Type} {sl : P → List Slot} {f : Int → P → M (R × Int)} {n : Nat} {vs : List V} {H : Hp} {Q : VK} (hs : spC G sl f vs H Q E) (hn : ∀ p, (sl p).length + 1 = n) : vs.length = n := by
  obtain ⟨a, c, us, p, F0, rfl, h1, h2, h3, h4, q⟩ := hs
  have := (arg_all h4).len
  rw [List.length_cons, ← this, hn p]
/-- l.append(e) -/
theorem run_appendX {j : Nat} {l : List α} {m : M (α × S)} {k : α → S → M Ω} (h : ρ[j]? = some (some (.ow l))) (h2 : ∀ s, (EX s)[j]? = some (some (.ow l))) (he : EvX G B E .F ρ te EX m) (hk : ∀ a s, Run G B E post ((EX s).set j (some (.ow (l ++ [a])))) rest (k a s)) :
    Run G B E post ρ (tSeq (tDrop (tBM G.K "list" rAppend (tVar j) (tCons te tNil))) rest) (m.b fun x => .chk (l.length < sizeLine) (k x.1 x.2)) := fun F0 F σ H D R q => by
  obtain ⟨p, o, e, h1, h2', h3, vs, rfl, h4⟩ := R.ow h
  refine ⟨_, e, .inl ⟨rfl, vs, .of h3⟩, he.go R q fun x F' v H' R' s kp rv q => ?_⟩
  obtain ⟨cc, q⟩ := M.P_chk.mp q
  obtain ⟨p2, o2, e2, k1, k2, k3, ws, rfl, k4⟩ := R'.ow (h2 x.2)
  have pe : p2 = p := by
    rw [e] at e2
    cases e2
    rfl
  subst pe
  refine ⟨p2, ws, v, rfl, rfl, k3, by rw [k4.len]; exact cc, hk x.1 x.2 F0 F' σ _ D ?_ q⟩
  exact R'.change (h2 x.2) (show _ = _ from rfl) e k1 k2 ⟨_, rfl, k4.snoc rv⟩
/-- a text's join of what a changing expression tells -/
theorem ex_join {z : Str} {m : M (List Str × S)} (he : EvX G B E .F ρ te EX m) : EvX G B E md ρ (tM1 (qJoin G.K) (tC (.str z)) te) EX (m.b fun x => .chk ((x.1.map (·.length)).sum + x.1.length * z.length ≤ 16777216) (.ok (Txt.join z x.1, x.2))) := fun F0 F σ H Q R q =>
  ⟨⟨z, rfl⟩, he.go R q fun x F' v H' R' s kp rv q => by
    obtain ⟨c, q⟩ := M.P_chk.mp q
    obtain ⟨p, vs, rfl, h1, h2⟩ := rv
    rw [strs_of h2] at h1
    exact ⟨z, p, x.1, rfl, rfl, .inl (.of (R'.sF _ _ h1)), c, q F' _ H' R' s kp rfl⟩⟩
/-- its own block -/
theorem spC_run {P : Type} {sl : P → List Slot} {f : Int → P → M (R × Int)} {N : List Str} {n : Nat} {vs : List V} {H : Hp} {Q : VK} (hs : spC G sl f vs H Q E) (hn : ∀ p, N.length = (sl p).length + n + 1)
    (h : ∀ (a : Addr) (c : Int) p B, Run G B E (oRC G B a) (some (.sh (⟨a, c⟩ : CellO)) :: ((sl p).map some ++ List.replicate n none)) t (f c p)) : t (dEnd Q) (start N vs) H := by
  obtain ⟨a, c, us, p, F0, rfl, h1, h2, h3, h4, q⟩ := hs
  have e : N.length - (V.ref a :: us).length = n := by
    have := (arg_all h4).len
    rw [List.length_cons, ← this, hn p]
    omega
  rw [start_of, e]
  have R0 := rel_args n (same_lessA h3 h2) h4
  have R1 : Rel G (lessA H a) F0 F0 (some (.sh (⟨a, c⟩ : CellO)) :: ((sl p).map some ++ List.replicate n none)) (some (.ref a) :: (us.map some ++ List.replicate n none)) H := by
    have R2 := R0.ext (F' := F0) (H' := H) ⟨.refl _, lessA_same, fun b h q => absurd h q⟩ h3
    have off : ∀ (j : Nat) (s : Option Slot) (x : Option V), ((sl p).map some ++ List.replicate n none)[j]? = some s → (us.map some ++ List.replicate n none)[j]? = some x → ¬ Fp H s x a := fun j s x hs hx f => by
      have f1 := Fp.lift (R0.sl j s x hs hx) (fun b o _ z => lessA_same b o z) f
      obtain ⟨⟨o, ho⟩, _⟩ := Fp.at (R0.sl j s x hs hx) f1
      unfold lessA at ho
      rw [if_pos rfl] at ho
      cases ho
    have la : lessA H a a = none := if_pos rfl
    refine ⟨R2.sB, R2.sF, R2.s0, R2.nw, by rw [List.length_cons, List.length_cons, R2.len], fun j s x hs hx => ?_, fun i j s t x y b hs hx ht hy f g => ?_⟩
    · cases j with
      | zero =>
        cases hs
        cases hx
        exact ⟨_, rfl, ⟨rfl, h1⟩, fun b hb => by rw [List.mem_singleton.mp hb]; exact ⟨la, h2⟩⟩
      | succ j => exact R2.sl j s x hs hx
    · cases i with
      | zero =>
        cases j with
        | zero => rfl
        | succ j =>
          cases hs
          cases hx
          obtain ⟨w, ew, hw⟩ := f
          cases ew
          have hb : b = a := List.mem_singleton.mp hw
          subst hb
          exact absurd g (off j t y ht hy)
      | succ i =>
        cases j with
        | zero =>
          cases ht
          cases hy
          obtain ⟨w, ew, hw⟩ := g
          cases ew
          have hb : b = a := List.mem_singleton.mp hw
          subst hb
          exact absurd f (off i s x hs hx)
        | succ j => exact congrArg Nat.succ (R2.ds i j s t x y b hs hx ht hy f g)
  exact h a c p (lessA H a) F0 F0 _ H _ R1 (q.imp (fun r k F' v H' f h h2 h3 => k F' v H' f h h2 h3) fun _ x => x)
end
end Tw
set_option Elab.async false
set_option linter.all false
set_option maxRecDepth 100000
set_option maxHeartbeats 4000000
namespace Tw
open PySem PySem.Spec L2 TL
open PyProof.Rows hiding St
section
variable {G : Gb} {B : Hp} {E : XK} {ρ : Evr} {α β P S S' Ω R : Type} [Rp α] [Rp β] [Rp P] [Rp R] {md md' mr : Md} {ta tb te : TE} {EX : S → Evr} {EX' : S' → Evr} {post : Hp → Ω → Ends → Prop} {rest t : TS} {i : Nat} {a : Addr} {c : Int} {r : R2}
/-- a plain side, then the rest with its value in its place -/
theorem EvX.opP [Sc α] {ma : M α} {k : α → M (β × S')} (h : Ev G B E md ρ ta ma) (hk : ∀ a, EvX G B E mr ρ (tOp r (tC (Sc.enc a)) tb) EX' (k a)) : EvX G B E mr ρ (tOp r ta tb) EX' (ma.b k) := fun F0 F σ H Q R q =>
  h.go R q fun a F1 v H1 e1 r1 R1 q => by
    rw [(Sc.iff _ _ _ _).mp r1]
    exact hk a F0 F1 σ H1 Q R1 (q.imp (fun y k F2 v2 H2 R2 s2 kp2 r2 => k F2 v2 H2 R2 (e1.f.trans s2) ((Kp.ext R e1).trans kp2) r2) fun _ x => x)
def spCb (G : Gb) {P R : Type} [Rp P] [Sc P] [Rp R] (f : P → Int → M (R × Int)) : Sp := fun vs H Q E => ∃ (a : Addr) (c : Int) (p : P) (F0 : Hp), vs = [Sc.enc p, .ref a] ∧ H a = some (.lst [.int c]) ∧ F0 a = none ∧ Same F0 H ∧
  (f p c).P (fun r => ∀ (F' : Hp) (v : V) (H' : Hp), Fin G (lessA H a) F0 F' H' → F' a = none → H' a = some (.lst [.int r.2]) → rep G F' v r.1 → Q v H') fun x => ∀ H', Same (lessA H a) H' → E (.ref (G.cl x)) none H'
theorem spCb_len [Sc P] {f : P → Int → M (R × Int)} {vs : List V} {H : Hp} {Q : VK} (hs : spCb G f vs H Q E) : vs.length = 2 := by
  obtain ⟨a, c, p, F0, rfl, _⟩ := hs
  rfl
theorem spCb_run [Sc P] {f : P → Int → M (R × Int)} {N : List Str} {n : Nat} {vs : List V} {H : Hp} {Q : VK} (hs : spCb G f vs H Q E) (hn : N.length = n + 2)
    (h : ∀ (a : Addr) (c : Int) (p : P) B, Run G B E (oRC G B a) (some (.fz p) :: some (.sh (⟨a, c⟩ : CellO)) :: List.replicate n none) t (f p c)) : t (dEnd Q) (start N vs) H := by
  obtain ⟨a, c, p, F0, rfl, h1, h2, h3, q⟩ := hs
  have e : N.length - [Sc.enc p, V.ref a].length = n := by rw [hn]; rfl
  rw [start_of, e]
  have la : lessA H a a = none := if_pos rfl
  have R1 : Rel G (lessA H a) F0 F0 (some (.fz p) :: some (.sh (⟨a, c⟩ : CellO)) :: List.replicate n none) (some (Sc.enc p) :: some (.ref a) :: List.replicate n none) H := by
    have nn : ∀ {j : Nat} {s : Option Slot}, (List.replicate n (none : Option Slot))[j]? = some s → s = none := fun {j s} hs => by
      rw [List.getElem?_replicate] at hs
      split at hs
      · exact (Option.some.inj hs).symm
      · cases hs
    have own : ∀ (j : Nat) (s : Option Slot) (x : Option V) (b : Addr), (some (.fz p) :: some (.sh (⟨a, c⟩ : CellO)) :: List.replicate n none : Evr)[j]? = some s → (some (Sc.enc p) :: some (.ref a) :: List.replicate n none : L2.St)[j]? = some x → Fp H s x b → j = 1 := fun j s x b hs hx f => by
      match j, hs, hx with
      | 0, hs, _ => cases hs; exact absurd f id
      | 1, _, _ => rfl
      | j + 2, hs, _ =>
        have := nn (j := j) hs
        subst this
        exact absurd f id
    refine ⟨lessA_same, h3, .refl _, fun b h q => absurd h q, by simp, fun j s x hs hx => ?_, fun i j s t x y b hs hx ht hy f g => (own i s x b hs hx f).trans (own j t y b ht hy g).symm⟩
    match j, hs, hx with
    | 0, hs, hx => cases hs; cases hx; exact ⟨_, rfl, (Sc.iff _ _ _ _).mpr rfl⟩
    | 1, hs, hx => cases hs; cases hx; exact ⟨_, rfl, ⟨rfl, h1⟩, fun b hb => by rw [List.mem_singleton.mp hb]; exact ⟨la, h2⟩⟩
    | j + 2, hs, _ =>
      have := nn (j := j) hs
      subst this
      exact trivial
  exact h a c p (lessA H a) F0 F0 _ H _ R1 (q.imp (fun r k F' v H' f h h2 h3 => k F' v H' f h h2 h3) fun _ x => x)
theorem ex_callCb [Sc P] {m : M (P × S)} {cn : S → Int} {EX2 : Int → Evr} {f : P → Int → M (R × Int)} (he : EvX G B E md ρ ta EX m) (h : ∀ s, (EX s)[i]? = some (some (.sh (⟨a, cn s⟩ : CellO)))) (hE : ∀ s c', (EX s).set i (some (.sh (⟨a, c'⟩ : CellO))) = EX2 c') :
    EvX G B E .F ρ (tCall (spCb G f) [] E0 (tCons ta (tCons (tVar i) tNil))) EX2 (m.b fun x => (f x.1 (cn x.2)).cl) := fun F0 F σ H Q R q =>
  he.go R q fun x F1 v1 H1 R1 s kp r1 q => by
    obtain ⟨e, h1, h2, h3⟩ := R1.cell (h x.2)
    refine ⟨_, e, ?_⟩
    refine ⟨a, cn x.2, x.1, F1, by rw [(Sc.iff _ _ _ _).mp r1]; rfl, h1, h3, R1.sF, ?_⟩
    refine (M.P_cl q).imp (fun y k F' v H' f0 fa ha rr => ?_) fun _ z => z.elim
    have R2 := (R1.cellSet (h x.2) y.2).ext (F' := F') (H' := H') ⟨f0.s0, fun b o z => ?_, fun b z w => ?_⟩ f0.sF
    · rw [hE] at R2
      have kc := Kp.cell (c' := y.2) R1 (h x.2) f0.sB f0.nw
      rw [hE] at kc
      exact k F' v H' R2 (s.trans f0.s0) (kp.trans kc) rr
    · by_cases q : b = a
      · subst q
        rw [upd_same] at z
        rw [ha, ← z]
      · rw [upd_ne q] at z
        exact f0.sB b o (by rw [lessA_off q]; exact z)
    · by_cases q : b = a
      · subst q; exact absurd fa w
      · rw [upd_ne q, ← lessA_off (H := H1) q]
        exact f0.nw b z w
end
end Tw
set_option Elab.async false
set_option linter.all false
set_option maxRecDepth 100000
set_option maxHeartbeats 4000000
namespace Tw
open PySem PySem.Spec L2 TL
open PyProof.Rows hiding St
section
variable {G : Gb} {B : Hp} {E : XK} {ρ : Evr} {md md' : Md} {ta tb : TE}
abbrev qPart : V → List V → Hp → VK → Prop := fun x xs H Q => ∃ a b, x = .str a ∧ xs = [.str b] ∧ (b.length == 0) = false ∧ a.length ≤ sizeLine ∧
  ∀ p, H p = none → Q (.ref p) (upd H p (.tup [.str (Txt.partition a b).1, .str (Txt.partition a b).2.1, .str (Txt.partition a b).2.2]))
theorem ev_part {m n : M Str} (h : Ev G B E md ρ ta m) (k : Ev G B E md' ρ tb n) : Ev G B E .F ρ (tM1 qPart ta tb) (m.b fun a => n.b fun b => .chk ((b.length == 0) = false ∧ a.length ≤ sizeLine) (.ok (T3.mk (Txt.partition a b).1 (Txt.partition a b).2.1 (Txt.partition a b).2.2))) := fun F0 F σ H Q R q =>
  h.go R q fun a F1 v H1 e1 r1 R1 q => ⟨⟨a, r1⟩, k.go R1 q fun b F2 w H2 e2 r2 R2 q => by
    obtain ⟨c, q⟩ := M.P_chk.mp q
    refine ⟨a, b, r1, by rw [show w = .str b from r2], c.1, c.2, fun p np => ?_⟩
    exact q (upd F2 p _) _ _ ((e1.trans e2).trans (.newF R2.sF np)) (same_both R2.sF) ⟨p, _, _, _, rfl, upd_same, rfl, rfl, rfl⟩⟩
end
end Tw
set_option Elab.async false
set_option linter.all false
set_option maxRecDepth 100000
set_option maxHeartbeats 4000000
namespace Tw
open PySem PySem.Spec L2 TL
open PyProof.Rows hiding St
section
variable {M : Model} {A : Around} {E : Value → Shared → Prop} {s : Shared} {env : Env}
/-- what is asked behind a comprehension's loop: as compPost, the frame told -/
def cpX (M : Model) (A : Around) (E : Value → Shared → Prop) (Q : Value → Shared → Prop) (acc : Value) (C : Addr) (fr : Option Addr) (r : Result) (s1 : Shared) : Prop :=
  match r with
  | .ok _ => ∃ m, s1.heap.Ns C m ∧ ∀ h1, Heap.SameBut C s1.heap h1 → Q acc { s1 with heap := h1 }
  | .error x => ∃ m, s1.heap.Ns C m ∧ ∀ h1, Heap.SameBut C s1.heap h1 → ∀ ce : Env, ce.frame = fr → wpAny M A (passOn "comprehension.variables-let-go" x ce : Sem Value) (fun _ _ => False) E { s1 with heap := h1 }
theorem wp_comp {e : Expr} {scope : Scope} {pos : Pos} {mk fst : Sem Value} {g : Comprehension} {gs : List Comprehension} {cl : List (Str × Addr)} {Q : Value → Shared → Prop}
    (c1 : clausesOf e = g :: gs) (c2 : ∀ x, foldedSetIterable g.iter env x = pure x) (c3 : closureFor scope env = pure cl) (c4 : scope.kind = .function) (c5 : ∀ x ∈ scope.names, x.2 = .local → scope.names.lookup x.1 = some .local)
    (h : wpAny M A fst (fun x s1 => wpAny M A (pyIter x) (fun it s2 => wpAny M A mk (fun acc s3 => wpAny M A (newFunctionEnv scope env.globals cl [] env.qual none .none (some env)) (fun ce s4 =>
      codeAny M A (.compStart e 0 it acc { ce with scope := relabel scope env }) (cpX M A E Q acc ce.locals ce.frame) s4) E s3) E s2) E s1) E s) :
    wpAny M A (comprehension e scope env pos mk false fst none) Q E s := by
  unfold comprehension
  rw [c3, c1]
  refine wpAny_bind (thn h fun x s1 k1 => wpAny_bind (wpAny_standAt (wpAny_bind (wpAny_of_eq (c2 x) (wpAny_bind (wpAny_holding (thn k1 fun it s2 k2 => wpAny_standIf (wpAny_bind (thn k2 fun acc s3 k3 => wpAny_bind (wpAny_pure (wpAny_bind (thn k3 fun ce s4 k4 => ?_))))))))))))
  dsimp only
  have vk : ∀ x ∈ (scope.names.filter fun x => (x.2 == .local || x.2 == .cell) && x.1 != (".0" : Str)).reverse, x.2 = .local → Env.kindOf { ce with scope := relabel scope env } x.1 = some .local := fun x hx hl =>
    lookup_relabel_local (c5 x (List.mem_filter.mp (List.mem_reverse.mp hx)).1 hl)
  refine wpAny_holding (wpAny_bind (wpAny_attempt (wpAny_holding (wpAny_run (codeAny_mono k4 fun r s5 hr => ?_)))))
  cases r with
  | ok f =>
    obtain ⟨m, hn, hr⟩ := hr
    exact wpAny_bind (wpAny_holding (wpAny_comp_letGo (cenv := { ce with scope := relabel scope env }) c4 _ s5 m vk hn fun h1 m1 _ sb => wpAny_pure (hr h1 sb)))
  | error x =>
    obtain ⟨m, hn, hr⟩ := hr
    exact wpAny_bind (wpAny_holding (wpAny_comp_letGo (cenv := { ce with scope := relabel scope env }) c4 _ s5 m vk hn fun h1 m1 _ sb => thn (hr h1 sb _ rfl) fun _ _ f => f.elim))
/-- noting an exception looks at the frame's number alone -/
theorem note_as {x : Value} {e1 e2 : Env} (h : e1.frame = e2.frame) : noteFrame x e1 = noteFrame x e2 := by unfold noteFrame PySem.frameOf; rw [h]
end
theorem funFr_as {B B1 h h1 : Heap} : ∀ {l : List Env}, h.FunFrames B l → (∀ L ∈ frs l, B1.get? L = none) → (∀ L ∈ frs l, ∀ o, h.get? L = some o → h1.get? L = some o) → h1.FunFrames B1 l
  | [], _, _, _ => trivial
  | env :: l, w, n, k => by
    obtain ⟨w1, ⟨L, o, w2, _, w3, w4⟩, w5⟩ := w
    have m0 : L ∈ frs (env :: l) := List.mem_filterMap.mpr ⟨env, List.mem_cons_self, w2⟩
    have mm : ∀ b ∈ frs l, b ∈ frs (env :: l) := fun b hb => by
      obtain ⟨e, he, q⟩ := List.mem_filterMap.mp hb
      exact List.mem_filterMap.mpr ⟨e, List.mem_cons_of_mem _ he, q⟩
    exact ⟨w1, ⟨L, o, w2, n L m0, k L m0 o w3, w4⟩, funFr_as w5 (fun b hb => n b (mm b hb)) fun b hb => k b (mm b hb)⟩
section
variable {X : Cx} {pins : List (Addr × Obj)} {σ : L2.St} {H : Hp} {s : Shared} {E : XK}
/-- an exception of a step's call, noted by the block, passed on behind it: it is in the def's air -/
theorem blk_pass {fp : List Addr} {scope : Scope} {ce : Env} {u : Value} {s' : Shared} {xe : Value → Shared → Prop} {p2 : List (Addr × Obj)} {σ2 : L2.St} {H2 : Hp} {s2 : Shared}
    (tk : L2N.Takes X fun cls d _ H => E cls d H) (hs : X.stack = X.env :: X.outer) (hf : X.env.frame = some X.env.locals)
    (I3 : Inv X pins σ H s) (hfp : ∀ b ∈ fp, FpOk X pins H b ∧ b < s.heap.objs.size) (loc : ce.locals = s.heap.objs.size) (hfr : ce.frame = X.env.frame)
    (J : Inv ((X.blk s H scope ce fp).wish xe) p2 σ2 H2 s2) (c : L2N.CX X.prog X.w X.stack H2 s2 E u s') {Q : Value → Shared → Prop} {acc : Value} :
    notedBy (model X.prog X.w) X.A ce (fun e s'' => cpX (model X.prog X.w) X.A X.xe Q acc s.heap.objs.size ce.frame (.error e) s'') u s' := by
  obtain ⟨a0, B0, H0, cls0, d0, e0, fl0, _⟩ := id c
  obtain ⟨a, B, sI, p3, σ3, H3, cls, d, rfl, I', nb, up, sky, na, os, ag, hE⟩ := L2N.XE.of_call (W := fun cls d _ H => E cls d H) J (fun _ _ _ h => h) c
  have ea : a0 = a := by cases e0; rfl
  subst ea
  have I4 : Inv (X.blk s H scope ce fp) p3 σ3 H3 sI := I'.unwish
  have I7 : Inv X pins σ H3 sI := I3.call' (ch := fp) I4.os I4.base I4.hok I4.bare fun b hb => ⟨(hfp b hb).1.2.2.2.1, (hfp b hb).1.2.1, (hfp b hb).1.2.2.2.2.1, (hfp b hb).1.2.2.2.2.2⟩
  have nC : H3 s.heap.objs.size = none := by
    have z : H3 ce.locals = none := I4.free
    rw [loc] at z
    exact z
  obtain ⟨m, hm, _⟩ := I4.loc
  have hm : Heap.Ns sI.heap ce.locals m := hm
  rw [loc] at hm
  obtain ⟨f0, f1, f2, f3, f4, f5⟩ := I3.fpOk (H' := H3) (Nat.le_refl _) nC
  have hA : X.A.frames = some (X.env :: X.outer) := by rw [I3.ok.frames, hs]
  have nst : s.heap.objs.size ∉ frs X.stack := fun w => (List.mem_cons.mp (I3.stkSub _ w)).elim f1 f2
  -- it flies over the ground B
  have fl : HandSPX.FlyingZ B (X.env :: X.outer) a0 (L2N.Zn cls d) s'.heap := by
    obtain ⟨_, _, _, oe0, vs0, T0, oT0, ts0, g1, _, g3, g4, g5, g6, g7, g8, g9⟩ := fl0
    have sky : L2.Sky B (X.env :: X.outer) a0 (L2N.Zn cls d) ce.locals s'.heap := by rw [← hs]; exact sky
    rcases sky with ⟨_, _, _, oe, vs, he, _, hd, h1⟩ | q | ⟨q1, q2, q3, oe, vs, T, oT, ts, he, hz, hd, h1, hT, hTe, gT, dT, hL⟩
    · rw [g1] at he
      injection he with he
      subst he
      rw [g3] at hd
      injection hd with hd
      subst hd
      rw [g4] at h1
      cases h1
    · exact q
    · have e1 : oe0 = oe := by rw [g1] at he; injection he
      subst e1
      have e2 : vs0 = vs := by rw [g3] at hd; injection hd
      subst e2
      have e3 : T0 = T := by rw [g4] at h1; injection h1 with h1; injection h1
      subst e3
      exact ⟨q1, q2, q3, oe0, vs0, T0, oT0, ts0, g1, hz, g3, g4, hT, g6, g7, g8, g9⟩
  show wpAny _ _ (noteFrame (.ref a0) ce) _ _ _
  rw [note_as hfr]
  refine PXN.looks_onZ L2N.Zn.steady hA hf fl fun h1 held up1 => ?_
  have kC : ∀ o, sI.heap.get? s.heap.objs.size = some o → B.get? s.heap.objs.size = some o := fun o e => nb _ o e nst
  refine ⟨m, hm.at fun o e => held.1 _ o (kC o e), fun h2 sb ce2 hc2 => ?_⟩
  obtain ⟨k1, k2, k3, oe, vs, T, oT, ts, he, hz, hd, h1', hT, hTe, gT, dT, hL⟩ := held
  obtain ⟨oC, gC⟩ : ∃ o, sI.heap.get? s.heap.objs.size = some o := by
    obtain ⟨o, _, _, g, _⟩ := hm
    exact ⟨o, g⟩
  have aC : a0 ≠ s.heap.objs.size := fun w => by rw [w, kC _ gC] at k2; cases k2
  have tC : T ≠ s.heap.objs.size := fun w => by rw [w, kC _ gC] at hT; cases hT
  have st2 : (PySem.W.hideAll B [s.heap.objs.size]).StaysIn h2 := fun b o e => by
    have nb' : b ≠ s.heap.objs.size := fun w => by rw [w, PySem.W.hideAll_none _ (List.mem_singleton_self _)] at e; cases e
    rw [sb.2 b nb']
    exact k1 b o (PySem.W.of_hideAll _ e)
  have held2 : HandSPX.HeldZ (PySem.W.hideAll B [s.heap.objs.size]) (X.env :: X.outer) a0 (L2N.Zn cls d) X.env.locals h2 := by
    refine ⟨st2, ?_, funFr_as k3 (fun b hb => ?_) fun b hb o e => ?_, oe, vs, T, oT, ts, ?_, hz, hd, h1', ?_, hTe, ?_, dT, hL⟩
    · cases q : (PySem.W.hideAll B [s.heap.objs.size]).get? a0 with
      | none => rfl
      | some o => have z := PySem.W.of_hideAll _ q; rw [k2] at z; cases z
    · cases q : (PySem.W.hideAll B [s.heap.objs.size]).get? b with
      | none => rfl
      | some o => have z := PySem.W.of_hideAll _ q; rw [(k3.mem hb).1] at z; cases z
    · rw [sb.2 b (fun w => nst (by rw [hs, ← w]; exact hb))]
      exact e
    · rw [sb.2 a0 aC]; exact he
    · cases q : (PySem.W.hideAll B [s.heap.objs.size]).get? T with
      | none => rfl
      | some o => have z := PySem.W.of_hideAll _ q; rw [hT] at z; cases z
    · rw [sb.2 T tC]; exact gT
  unfold PySem.passOn
  refine wpAny_bind (wpAny_field (by rw [sb.2 a0 aC]; exact he) hd h1' ?_)
  rw [if_neg (show ¬ ((Value.ref T == Value.none) = true) from by simp)]
  have fin : wpAny (model X.prog X.w) X.A (setFlight (.ref a0) ce2.frame) (fun _ s4 => wpAny (model X.prog X.w) X.A (throw (.ref a0) : Sem Value) (fun _ _ => False) X.xe s4) X.xe { s' with heap := h2 } := by
    rw [hc2, hfr, hf]
    refine HandSPX.setFlight_onZ held2 fun h4 hh4 up4 => wpAny_throw (tk _ _ ?_)
    refine ⟨a0, PySem.W.hideAll B [s.heap.objs.size], { sI with heap := PySem.W.hideAll sI.heap [s.heap.objs.size] }, pins, σ, H3, cls, d, rfl, ?_, fun b o e hb => ?_, fun b o e hnf => ?_, .inr (.inr (by rw [hs]; exact hh4)), na, os, ag, hE⟩
    · exact I7.turned (t' := sI.toks) (fun b o hb e => PySem.W.hideAll_get _ e (by simpa using hb)) f0 f1 f3 f4 f5
    · have nb' : b ≠ s.heap.objs.size := fun w => by
        have e : (PySem.W.hideAll sI.heap [s.heap.objs.size]).get? b = some o := e
        rw [w, PySem.W.hideAll_none _ (List.mem_singleton_self _)] at e; cases e
      exact PySem.W.hideAll_get _ (nb b o (PySem.W.of_hideAll _ e) hb) (by simpa using nb')
    · have e : (PySem.W.hideAll sI.heap [s.heap.objs.size]).get? b = some o := e
      have nb' : b ≠ s.heap.objs.size := fun w => by rw [w, PySem.W.hideAll_none _ (List.mem_singleton_self _)] at e; cases e
      obtain ⟨sl1, e1⟩ := up b o (PySem.W.of_hideAll _ e) hnf
      obtain ⟨sl2, e2⟩ := up1 b _ e1 hnf
      obtain ⟨sl4, e4⟩ := up4 b { o with slots := sl2 } (show h2.get? b = some { o with slots := sl2 } by rw [sb.2 b nb']; exact e2) hnf
      exact ⟨sl4, e4⟩
  first
    | exact wpAny_bind (wpAny_pure (wpAny_bind fin))
    | exact wpAny_bind fin
end
section
variable {X : Cx} {E : XK}
/-- [elt for tg in iter if ..] whose step's calls may let an exception out -/
theorem pe_lcX {elt tg iter : Expr} {ifs : List Expr} {scope : Scope} {own : List (Str × Nat)} {pos : Pos} {wi : TI} {g : TG} {tt : TT} {te : TE} (hc : X.calm = true) (hN : X.N.Nodup) (tk : L2N.Takes X fun cls d _ H => E cls d H) (hs : X.stack = X.env :: X.outer) (hf : X.env.frame = some X.env.locals)
    (hi : PI X tg iter wi) (ok : BlkOk X.N X.env.scope scope own)
    (pg : ∀ (s : Shared) (H : Hp) (C : Addr) (cl : List (Str × Addr)) (fp : List Addr), PG (X.blk s H scope (compEnvC scope cl C X.env) fp) tg g) (pt : ∀ (s : Shared) (H : Hp) (C : Addr) (cl : List (Str × Addr)) (fp : List Addr), PTs (X.blk s H scope (compEnvC scope cl C X.env) fp) ifs tt)
    (pe : ∀ (s : Shared) (H : Hp) (C : Addr) (cl : List (Str × Addr)) (fp : List Addr) (xe : Value → Shared → Prop), Passes (L2N.CX X.prog X.w) ((X.blk s H scope (compEnvC scope cl C X.env) fp).wish xe) E → PE ((X.blk s H scope (compEnvC scope cl C X.env) fp).wish xe) elt te)
    (hset : ∀ x, foldedSetIterable iter X.env x = pure x := by intro _; rfl) :
    PE X (.ListComp elt [⟨tg, iter, ifs, 0⟩] scope pos) (tLc wi g tt te (own.map (·.2))) := by
  refine ⟨fun pins s σ H Q I h => ?_⟩
  rw [eval_ListComp]
  have cells : ∀ y ∈ scope.names, y.2 = .free → ∃ c, X.env.cells.lookup y.1 = some c := fun y hy e => (ok.free y hy e).elim (fun k => I.ok.has _ (.inl k)) fun k => I.ok.has _ (.inr k)
  refine wp_comp rfl hset (closure_ok cells) ok.kind (fun y hy e => by rw [ok.uniq y hy, e]) (thn (hi.run pins s σ H _ I h) fun v s1 hv => thn hv fun iv s2 h2 => ?_)
  obtain ⟨cur, fp, tn, J, H2, e, I2, T, st2, f2, q⟩ := h2
  subst e
  refine wpAny_newObj_type (newEnv_comp ?_) (by show 0 ≤ sizeLine; decide)
  generalize hdst : s2.heap.objs.size = dst
  have fresh : H2 dst = none := I2.hok.fresh (Nat.le_of_eq hdst)
  obtain ⟨W, ⟨m0, w0⟩, turn⟩ := q dst fresh
  generalize hs3 : ({ s2 with heap := s2.heap.push { cls := .type "list", data := .seq ([] : List Value).toArray } } : Shared) = s3
  have eq3 : s3.heap = s2.heap.push { cls := .type "list", data := .seq ([] : List Value).toArray } := by rw [← hs3]
  have I3 : Inv X pins σ (upd H2 dst (.lst [])) s3 := by
    rw [← hs3]
    exact I2.laid (t' := s2.toks) (fun b o e => Heap.get?_push_of_some _ e) (Nat.le_of_eq hdst) ⟨Nat.zero_le _, [], 0, .nil, by rw [← hdst]; exact Heap.get?_push_size _ rfl⟩
  have f3 : ∀ b ∈ fp, FpOk X pins (upd H2 dst (.lst [])) b ∧ b < s3.heap.objs.size := fun b hb => by
    obtain ⟨o, eo, _⟩ := T.obj _ _ st2 b hb
    have lt := Heap.lt_size eo
    refine ⟨⟨?_, (f2 b hb).2⟩, by rw [eq3, Heap.size_push]; exact Nat.lt_succ_of_lt lt⟩
    rw [upd_ne (by rw [← hdst]; exact Nat.ne_of_lt lt)]
    exact (f2 b hb).1
  have st3 : tn 0 s3.heap := T.keep _ _ _ st2 fun b _ o eo => by rw [eq3]; exact Heap.get?_push_of_some _ eo
  generalize hH3 : upd H2 dst (.lst []) = H3 at I3 f3 w0
  have I4 := block_start I3 ok hN f3
  have fr4 : (newEnv scope s3.heap.objs.size X.env.globals (cellsFrom (s3.heap.objs.size + 1) scope.names (cloFrom X.env.cells scope.names [])) X.env.qual none .none (some X.env) X.env.builtins).frame = X.env.frame := rfl
  generalize hcl : cellsFrom (s3.heap.objs.size + 1) scope.names (cloFrom X.env.cells scope.names []) = cl at I4
  have pg' := pg s3 H3 s3.heap.objs.size cl fp
  have pt' := pt s3 H3 s3.heap.objs.size cl fp
  have pe' := pe s3 H3 s3.heap.objs.size cl fp
  show codeAny _ _ (.compStart (.ListComp elt [⟨tg, iter, ifs, 0⟩] scope pos) 0 (.ref cur) (.ref dst) (compEnvC scope cl s3.heap.objs.size X.env)) (cpX (model X.prog X.w) X.A X.xe (EP X pins σ Q) (.ref dst) s3.heap.objs.size X.env.frame) { s3 with heap := pushCells (s3.heap.push { cls := .type "dict", data := .dict #[] }) scope.names }
  have cfr : (compEnvC scope cl s3.heap.objs.size X.env).frame = X.env.frame := rfl
  generalize hce : compEnvC scope cl s3.heap.objs.size X.env = ce at I4 pg' pt' pe' cfr ⊢
  have loc : ce.locals = s3.heap.objs.size := by rw [← hce]; rfl
  have nfp : ∀ b ∈ fp, H3 b = none := fun b hb => (f3 b hb).1.1
  generalize hs4 : ({ s3 with heap := pushCells (s3.heap.push { cls := .type "dict", data := .dict #[] }) scope.names } : Shared) = s4 at I4 ⊢
  have st4 : tn 0 s4.heap := T.keep _ _ _ st3 fun b _ o eo => by rw [← hs4]; exact pushCells_keeps _ _ _ _ (Heap.get?_push_of_some _ eo)
  have stay : ∀ {σ' : L2.St} {H' : Hp} {s' : Shared}, Inv (X.blk s3 H3 scope ce fp) [] σ' H' s' → (∀ b ∈ fp, H' b = none) → ∀ b ∈ fp, FpOk (X.blk s3 H3 scope ce fp) [] H' b := fun {σ' H' s'} J n b hb =>
    ⟨n b hb, (J.ok.exf b hb).1, J.ok.exfs b hb, .inl hb, fun x c eo => (J.ok.exf b hb).2 x c eo, fun p hp => nomatch (show p ∈ ([] : List (Addr × Obj)) from hp)⟩
  generalize hxe : notedBy (model X.prog X.w) X.A ce (fun e s'' => cpX (model X.prog X.w) X.A X.xe (EP X pins σ Q) (.ref dst) s3.heap.objs.size X.env.frame (.error e) s'') = xe
  have pas : Passes (L2N.CX X.prog X.w) ((X.blk s3 H3 scope ce fp).wish xe) E := fun p2 σ2 H2 sx u s' Jx c => by
    rw [← hxe]
    have z := blk_pass tk hs hf I3 f3 loc cfr Jx c (Q := EP X pins σ Q) (acc := .ref dst)
    rw [cfr] at z
    exact z
  have pe'' := pe' xe pas
  have loop : codeAny (model X.prog X.w) X.A (.compLoop (.ListComp elt [⟨tg, iter, ifs, 0⟩] scope pos) 0 (.ref cur) (.ref dst) ce) (cpX (model X.prog X.w) X.A X.xe (EP X pins σ Q) (.ref dst) s3.heap.objs.size X.env.frame) s4 := by
    refine compLoop_any (fun n s' => ∃ i H', Inv (X.blk s3 H3 scope ce fp) [] (wipe σ (own.map (·.2))) H' s' ∧ tn i s'.heap ∧ (∀ b ∈ fp, H' b = none) ∧ W i n H') ?_ m0 ⟨0, H3, I4, st4, nfp, w0⟩
    rw [hxe]
    rintro n s5 ⟨i, H5, I5, st5, n5, w5⟩
    rcases turn i n H5 w5 with ⟨stop, qd⟩ | ⟨go, Nx, hNx, step⟩
    · refine thnF (T.done (X.blk s3 H3 scope ce fp) rfl rfl rfl hc i [] s5 _ H5 (fun _ _ => False) I5 (stay I5 n5) st5 stop) fun r s6 ⟨hr, I6⟩ => ?_
      subst hr
      have I7 : Inv X pins σ H5 s6 := I3.call' (ch := fp) I6.os I6.base I6.hok I6.bare fun b hb => ⟨(f3 b hb).1.2.2.2.1, (f3 b hb).1.2.1, (f3 b hb).1.2.2.2.2.1, (f3 b hb).1.2.2.2.2.2⟩
      obtain ⟨m, hm, _⟩ := I6.loc
      have hm : Heap.Ns s6.heap ce.locals m := hm
      have free : H5 ce.locals = none := I6.free
      rw [loc] at hm free
      obtain ⟨f0, f1, f2, f4, f5, f6⟩ := I3.fpOk (Nat.le_refl _) free
      exact ⟨m, hm, fun h1 sb => ⟨.ref dst, H5, I7.turned (t' := s6.toks) (fun b o hb eo => (sb.2 b hb).trans eo) f0 f1 f4 f5 f6, rfl, qd⟩⟩
    · refine thnF (T.item (X.blk s3 H3 scope ce fp) rfl rfl rfl hc i [] s5 _ H5 (fun _ _ => False) I5 (stay I5 n5) st5 go) fun r s6 ⟨u, hr, h6⟩ => ?_
      subst hr
      refine thnF h6 fun _ s7 ⟨x, H7, I7, r7, y7, st7, n7⟩ => ?_
      have I7' := I7.pinned (stay I7 n7) (T.obj _ _ st7)
      refine thnF (pg'.run _ s7 _ H7 x u _ I7' r7 (step x H7 y7)) fun _ s8 ⟨σ8, H8, I8, hw, q8⟩ => ?_
      refine thnF (pt'.run _ s8 σ8 H8 _ I8 q8) fun b s9 ⟨H9, I9, q9⟩ => ?_
      have again : ∀ {s' : Shared} {H' : Hp}, Inv (X.blk s3 H3 scope ce fp) ([] ++ pinsAt fp s7.heap) σ8 H' s' → Nx H' → ∃ m, m < n ∧ ∃ i H', Inv (X.blk s3 H3 scope ce fp) [] (wipe σ (own.map (·.2))) H' s' ∧ tn i s'.heap ∧ (∀ b ∈ fp, H' b = none) ∧ W i m H' := fun {s' H'} J nx => by
        obtain ⟨m', lt, w'⟩ := hNx H' nx
        have pin : ∀ b ∈ fp, ∀ o, s7.heap.get? b = some o → s'.heap.get? b = some o ∧ H' b = none := fun b hb o eo =>
          let z := J.pin (b, o) (List.mem_append_right _ (List.mem_append_right _ (mem_pinsAt hb eo)))
          ⟨z.1, z.2.1⟩
        refine ⟨m', lt, i + 1, H', (J.unpinned (pins := [])).weak (by rw [← hw, wipe_length]) (fun j v eo => ?_), T.keep _ _ _ st7 fun b hb o eo => (pin b hb o eo).1, fun b hb => ?_, w'⟩
        · rw [← hw] at eo
          exact (wipe_some eo).1
        · obtain ⟨o, eo, _⟩ := T.obj _ _ st7 b hb
          exact (pin b hb o eo).2
      cases b with
      | false =>
        simp only [Bool.false_eq_true, if_false] at q9 ⊢
        exact again I9 q9
      | true =>
        simp only [if_true] at q9 ⊢
        refine thn (pe''.run _ s9 σ8 H9 _ (I9.wish xe) q9) fun z s10 ⟨yv, H10, I10, r10, acc, hd10, hz10, nx⟩ => ?_
        exact app_ok (X := X.blk s3 H3 scope ce fp) I10.unwish hd10 hz10 r10 fun s11 I11 => again I11 nx
  exact codeAny_compStart_list loop (T.self X.A 0 _ _ _ st4 loop)
end
end Tw
set_option Elab.async false
set_option linter.all false
set_option maxRecDepth 100000
set_option maxHeartbeats 4000000
namespace Tw
open PySem PySem.Spec L2 TL
open PyProof.Rows hiding St
def SG : List Nat := (Str.ofString "abcdefghijklmnopqrstuvwxyz0123456789").cps.toList
def isNm (z : Str) : Bool := decide (z.length ≠ 0 ∧ z.length ≤ 8) && z.cps.toList.all (fun c => decide (c ∈ SG))
theorem str_len (z : Str) : z.length = z.cps.toList.length := by simp [Str.length]
theorem str_len_app (a b : Str) : (a ++ b).length = a.length + b.length := by
  show (a.cps ++ b.cps).size = a.cps.size + b.cps.size
  simp
theorem str_empty {z : Str} : z = Str.ofString "" ↔ z.length = 0 := by
  have e : Str.ofString "" = ⟨#[]⟩ := by decide +kernel
  rw [e]
  constructor
  · intro h
    rw [h]
    rfl
  · intro h
    obtain ⟨a⟩ := z
    have : a.size = 0 := h
    rw [show a = #[] by simpa using this]
theorem small_line {n : Nat} (h : n ≤ 100000) : n ≤ sizeLine := Nat.le_trans h (by decide)
theorem mul_ok (z : Str) (n : Int) (hz : z.length ≤ 30) (hn : 1 ≤ n ∧ n ≤ 100) : MulOk z n := by
  refine ⟨?_, fun _ _ => ?_, fun _ _ => ?_⟩
  · rw [decide_eq_false (by omega), decide_eq_false (by omega)]
    rfl
  · have : (30 : Int) ≤ (2 ^ 63 - 1) / n := by
      rw [Int.le_ediv_iff_mul_le (by omega)]
      omega
    omega
  · have h1 : n.toNat ≤ 100 := by omega
    have h2 : z.length * n.toNat ≤ 30 * 100 := Nat.mul_le_mul hz h1
    show decide (_ > _) = false
    refine decide_eq_false ?_
    have : (3000 : Nat) ≤ sizeLine := by decide
    omega
end Tw
set_option Elab.async false
set_option linter.all false
set_option maxRecDepth 100000
set_option maxHeartbeats 4000000
namespace Tw
open PySem PySem.Spec L2 TL
open PyProof.Rows hiding St
theorem rng_nat (n : Nat) : rng 0 n = (List.range n).map fun (k : Nat) => (k : Int) := by
  unfold rng
  rw [show ((n : Int) - 0).toNat = n by omega]
  congr 1
  funext k
  omega
theorem rng_succ (n : Nat) : rng 0 ((n + 1 : Nat) : Int) = rng 0 (n : Nat) ++ [(n : Int)] := by
  rw [rng_nat, rng_nat, List.range_succ, List.map_append]
  rfl
theorem M.for_rngI {S : Type} {f : S → Int → M S} (I : Nat → S → Prop) : ∀ (n : Nat) (s0 : S), I 0 s0 → (∀ i s, i < n → I i s → ∃ s', f s (i : Int) = .ok s' ∧ I (i + 1) s') → ∃ s', M.for_ f (rng 0 (n : Int)) s0 = .ok s' ∧ I n s'
  | 0, s0, h0, _ => ⟨s0, rfl, h0⟩
  | n + 1, s0, h0, h => by
    obtain ⟨s1, e1, i1⟩ := M.for_rngI I n s0 h0 fun i s hi => h i s (by omega)
    obtain ⟨s2, e2, i2⟩ := h n s1 (by omega) i1
    refine ⟨s2, ?_, i2⟩
    rw [rng_succ, M.for_app, e1, M.b_ok, M.for_cons, e2]
    rfl
theorem line_of {n : Nat} (h : n ≤ 100000) : n ≤ sizeLine := small_line h
theorem line_lt {n : Nat} (h : n ≤ 100000) : n < sizeLine := Nat.lt_of_le_of_lt h (by decide)
theorem chk_line {n : Nat} {α : Type} {m : M α} (h : n ≤ 100000) : M.chk (n ≤ sizeLine) m = m := M.chk_of (line_of h)
theorem chk_lt {n : Nat} {α : Type} {m : M α} (h : n ≤ 100000) : M.chk (n < sizeLine) m = m := M.chk_of (line_lt h)
def M.T {α : Type} (m : M α) (p : α → Prop) : Prop := m.P p fun _ => False
theorem M.T_ok {α : Type} {a : α} {p : α → Prop} (h : p a) : (M.ok a).T p := h
theorem M.T_b {α β : Type} {m : M α} {k : α → M β} {p : β → Prop} (h : m.T fun a => (k a).T p) : (M.b m k).T p := M.P_b.mpr h
theorem M.T_chk {α : Type} {c : Prop} {m : M α} {p : α → Prop} (hc : c) (h : m.T p) : (M.chk c m).T p := M.P_chk.mpr ⟨hc, h⟩
theorem M.T_get {α : Type} {o : Option α} {a : α} {p : α → Prop} (e : o = some a) (h : p a) : (M.get o).T p := M.P_get.mpr ⟨a, e, h⟩
theorem M.T_ite {α : Type} {c : Prop} [Decidable c] {m n : M α} {p : α → Prop} (h1 : c → m.T p) (h2 : ¬ c → n.T p) : (if c then m else n).T p := by
  split
  · exact h1 ‹_›
  · exact h2 ‹_›
theorem M.T_eq {α : Type} {m : M α} {p : α → Prop} (h : m.T p) : ∃ a, m = .ok a ∧ p a := by
  cases m with
  | ok a => exact ⟨a, rfl, h⟩
  | exc c => exact h.elim
  | bad => exact h.elim
theorem M.T_of {α : Type} {m : M α} {a : α} {p : α → Prop} (e : m = .ok a) (h : p a) : m.T p := by rw [e]; exact h
theorem M.T_is {α : Type} {m : M α} {a : α} (h : m.T fun b => b = a) : m = .ok a := by
  obtain ⟨b, e, rfl⟩ := M.T_eq h
  exact e
theorem M.T_cl {α : Type} {m : M α} {p : α → Prop} (h : m.T p) : m.cl.T p := by
  obtain ⟨b, rfl, h⟩ := M.T_eq h
  exact h
theorem M.T.imp {α : Type} {m : M α} {p q : α → Prop} (h : m.T p) (f : ∀ a, p a → q a) : m.T q := M.P.imp h f fun _ z => z
theorem M.T_rng {S : Type} {f : S → Int → M S} {p : S → Prop} (I : Nat → S → Prop) {n : Int} {s0 : S} (h0 : I 0 s0) (hs : ∀ (i : Nat) s, (i : Int) < n → I i s → (f s (i : Int)).T (I (i + 1))) (hp : ∀ s, I n.toNat s → p s) : (M.for_ f (rng 0 n) s0).T p := by
  have e : rng 0 n = rng 0 ((n.toNat : Nat) : Int) := by
    unfold rng
    rw [show (n - 0).toNat = (((n.toNat : Nat) : Int) - 0).toNat by omega]
  rw [e]
  obtain ⟨s, e, i⟩ := M.for_rngI I n.toNat s0 h0 fun i s hi h => M.T_eq (hs i s (by omega) h)
  exact M.T_of e (hp s i)
theorem M.T_forR {α S R : Type} {f : S → α → M (S ⊕ R)} {p : S ⊕ R → Prop} (I : List α → S → Prop) {xs : List α} {s0 : S} (h0 : I [] s0)
    (hs : ∀ ys x zs s, xs = ys ++ x :: zs → I ys s → (f s x).T fun c => match c with | .inl s => I (ys ++ [x]) s | .inr r => p (.inr r)) (hp : ∀ s, I xs s → p (.inl s)) : (M.forR f xs s0).T p := by
  suffices H : ∀ (zs ys : List α) (s : S), xs = ys ++ zs → I ys s → (M.forR f zs s).T p from H xs [] s0 rfl h0
  intro zs
  induction zs with
  | nil =>
    intro ys s e h
    rw [List.append_nil] at e
    subst e
    exact hp s h
  | cons x r ih =>
    intro ys s e h
    rw [M.forR_cons]
    refine M.T_b ((hs ys x r s e h).imp fun c hc => ?_)
    cases c with
    | inl s1 => exact ih (ys ++ [x]) s1 (by rw [e]; simp) hc
    | inr q => exact hc
theorem M.T_orRl {S R : Type} {k : S → M R} {s : S} {p : R → Prop} (h : (k s).T p) : (M.orR k (.inl s)).T p := h
theorem M.T_orRr {S R : Type} {k : S → M R} {r : R} {p : R → Prop} (h : p r) : (M.orR k (.inr r)).T p := h
theorem cdiv {i j : Int} (h : 0 < j) (h2 : j < 2 ^ 30) : CDivW i j := wide_div (b := 31) h (by omega) (by decide) (by decide)
theorem rng_side {n : Int} (h : -1000000000 ≤ n ∧ n ≤ 1000000000) : -(2 ^ 62) ≤ n ∧ n < 2 ^ 62 := ⟨by omega, by omega⟩
abbrev n__law_cell_at : List Str := ["_law_script", "_law_k"]
noncomputable def F__law_cell_at (p0 : Scr) (p1 : Int) : M Int :=
  (if (decide (p1 < ((p0.l.length : Nat) : Int))) = true then (M.get (atI p0.l p1)) else (M.ok (0 : Int)))
def sp__law_cell_at (G : Gb) : Sp := spA G (fun (p : Scr × Int) => [.bw (p.1), .fz (p.2)]) (rpF G) (fun (p : Scr × Int) => F__law_cell_at (p.1) (p.2))
def t__law_cell_at (G : Gb) : TS :=
  (tSeq (tIfS (tTest (tOp qLt (tVar 1) (tCB (qLenQ G.K) (tCons (tVar 0) tNil))))
  (tRet (tOp (rIxL G.K) (tVar 0) (tVar 1)))
  tNext)
  (tRet (tC (.int 0))))
theorem len__law_cell_at {G : Gb} (vs : List V) (H : Hp) (Q : VK) (E : XK) (h : sp__law_cell_at G vs H Q E) : vs.length = 2 := spA_len h fun _ => rfl
theorem rn__law_cell_at {G : Gb} {B : Hp} {E : XK} (p0 : Scr) (p1 : Int) : Run G B E (oR G B (rpF G)) [some (.bw p0), some (.fz p1)] (t__law_cell_at G) (F__law_cell_at p0 p1) := by
  have h : Run G B E (oR G B (rpF G)) [some (.bw p0), some (.fz p1)] (t__law_cell_at G) _ := (run_ifS (evT_T (ev_lt (mr := .F) (ev_fz rfl) (ev_lenScr (mr := .F) (ev_bw rfl)))) (run_cutR (run_ret (ev_ixScr (mr := .F) (ev_bw rfl) (ev_fz rfl)))) (run_skip (run_ret (ev_int (md := .F)))))
  exact h
theorem run__law_cell_at {G : Gb} {vs : List V} {H : Hp} {Q : VK} {E : XK} (h : sp__law_cell_at G vs H Q E) : t__law_cell_at G (dEnd Q) (start n__law_cell_at vs) H := spA_run (n := 0) h (fun _ => rfl) fun p B => rn__law_cell_at (p.1) (p.2)
abbrev n__law_big : List Str := ["_law_script", "_law_at", "_law_by", "_law_prime", "_law_cell", "_law_big_here", "_law_k", "_law_one"]
noncomputable def F__law_big (p0 : Scr) (p1 : Int) : M Int :=
  (M.b (M.chk (((48271 : Int) :: ((69621 : Int) :: ((16807 : Int) :: ((39373 : Int) :: ((21401 : Int) :: ((60493 : Int) :: ((87721 : Int) :: ((31337 : Int) :: [])))))))).length ≤ sizeLine) (M.ok (⟨((48271 : Int) :: ((69621 : Int) :: ((16807 : Int) :: ((39373 : Int) :: ((21401 : Int) :: ((60493 : Int) :: ((87721 : Int) :: ((31337 : Int) :: []))))))))⟩ : Tp Int))) fun v1 => (M.b (M.chk (((99991 : Int) :: ((99989 : Int) :: ((99971 : Int) :: ((99961 : Int) :: ((99929 : Int) :: ((99923 : Int) :: ((99907 : Int) :: ((99901 : Int) :: [])))))))).length ≤ sizeLine) (M.ok (⟨((99991 : Int) :: ((99989 : Int) :: ((99971 : Int) :: ((99961 : Int) :: ((99929 : Int) :: ((99923 : Int) :: ((99907 : Int) :: ((99901 : Int) :: []))))))))⟩ : Tp Int))) fun v2 => (M.b (M.cl (F__law_cell_at p0 p1)) fun v3 => (M.b (M.b (M.b (M.chk (CPos v3 (2 : Int)) (M.ok (v3 % (2 : Int)))) fun x4 => (M.ok (decide (x4 = (0 : Int))))) fun x6 => (if x6 = true then (M.b (M.chk (CPow (10 : Int) (20 : Int)) (M.ok ((10 : Int) ^ ((20 : Int) : Int).toNat))) fun x5 => (M.ok (decide (x5 < v3)))) else M.ok false)) fun x29 => (if x29 = true then (M.chk (CDivW v3 (2 : Int)) (M.ok (v3 / (2 : Int)))) else (M.b (M.ok (0 : Int)) fun v7 => (M.b (M.b (M.chk (-(2 ^ 62) ≤ (60 : Int) ∧ (60 : Int) < 2 ^ 62) (M.ok (rng 0 (60 : Int)))) fun x27 => (M.for_ (fun (s8 : Int) (x9 : Int) => (M.b (M.b (M.b (M.b (M.b (M.b (M.chk (CPos x9 (9 : Int)) (M.ok (x9 % (9 : Int)))) fun x10 => (M.ok (p1 + x10))) fun x11 => (M.cl (F__law_cell_at p0 x11))) fun x12 => (M.b (M.chk (CPow (10 : Int) (18 : Int)) (M.ok ((10 : Int) ^ ((18 : Int) : Int).toNat))) fun x13 => (M.chk (CPos x12 x13) (M.ok (x12 % x13))))) fun x14 => (M.ok (x14 + (1 : Int)))) fun x15 => (M.b (M.chk (CMulW x9 x9) (M.ok (x9 * x9))) fun x16 => (M.ok (x15 + x16)))) fun v17 => (M.b (M.b (M.chk (CMulW s8 (7919 : Int)) (M.ok (s8 * (7919 : Int)))) fun x24 => (M.b (M.b (M.b (M.b (M.b (M.chk (CPos x9 (8 : Int)) (M.ok (x9 % (8 : Int)))) fun x18 => (M.get (atI v1.l x18))) fun x19 => (M.chk (CMulW v17 x19) (M.ok (v17 * x19)))) fun x21 => (M.b (M.b (M.chk (CPos x9 (8 : Int)) (M.ok (x9 % (8 : Int)))) fun x20 => (M.get (atI v2.l x20))) fun x22 => (M.chk (CPos x21 x22) (M.ok (x21 % x22))))) fun x23 => (M.chk (CPos x23 (7919 : Int)) (M.ok (x23 % (7919 : Int))))) fun x25 => (M.ok (x24 + x25)))) fun v26 => (M.ok v26)))) x27 v7)) fun s28 => (M.ok s28))))))))
def sp__law_big (G : Gb) : Sp := spA G (fun (p : Scr × Int) => [.bw (p.1), .fz (p.2)]) (rpF G) (fun (p : Scr × Int) => F__law_big (p.1) (p.2))
def t__law_big (G : Gb) : TS :=
  (tSeq (tAsg (tTup (tCons (tC (.int 48271)) (tCons (tC (.int 69621)) (tCons (tC (.int 16807)) (tCons (tC (.int 39373)) (tCons (tC (.int 21401)) (tCons (tC (.int 60493)) (tCons (tC (.int 87721)) (tCons (tC (.int 31337)) tNil))))))))) (gName 2)) (tSeq (tAsg (tTup (tCons (tC (.int 99991)) (tCons (tC (.int 99989)) (tCons (tC (.int 99971)) (tCons (tC (.int 99961)) (tCons (tC (.int 99929)) (tCons (tC (.int 99923)) (tCons (tC (.int 99907)) (tCons (tC (.int 99901)) tNil))))))))) (gName 3)) (tSeq (tAsg (tCall (sp__law_cell_at G) [] E0 (tCons (tVar 0) (tCons (tVar 1) tNil))) (gName 4)) (tSeq (tIfS (tAnd (tTest (tOp rEq (tOp qMod (tVar 4) (tC (.int 2))) (tC (.int 0)))) (tTest (tOp qGt (tVar 4) (tOp qPow (tC (.int 10)) (tC (.int 20))))))
  (tRet (tOp qDiv (tVar 4) (tC (.int 2))))
  tNext)
  (tSeq (tAsg (tC (.int 0)) (gName 5)) (tSeq (tFor (iRng1 (tCons (tC (.int 60)) tNil)) (gName 6)
  (tSeq (tAsg (tOp qAdd (tOp qAdd (tOp qMod (tCall (sp__law_cell_at G) [] E0 (tCons (tVar 0) (tCons (tOp qAdd (tVar 1) (tOp qMod (tVar 6) (tC (.int 9)))) tNil))) (tOp qPow (tC (.int 10)) (tC (.int 18)))) (tC (.int 1))) (tOp qMul (tVar 6) (tVar 6))) (gName 7)) (tAsg (tOp qAdd (tOp qMul (tVar 5) (tC (.int 7919))) (tOp qMod (tOp qMod (tOp qMul (tVar 7) (tOp (rIxT G.K) (tVar 2) (tOp qMod (tVar 6) (tC (.int 8))))) (tOp (rIxT G.K) (tVar 3) (tOp qMod (tVar 6) (tC (.int 8))))) (tC (.int 7919)))) (gName 5))))
  (tRet (tVar 5))))))))
theorem len__law_big {G : Gb} (vs : List V) (H : Hp) (Q : VK) (E : XK) (h : sp__law_big G vs H Q E) : vs.length = 2 := spA_len h fun _ => rfl
theorem rn__law_big {G : Gb} {B : Hp} {E : XK} (p0 : Scr) (p1 : Int) : Run G B E (oR G B (rpF G)) [some (.bw p0), some (.fz p1), none, none, none, none, none, none] (t__law_big G) (F__law_big p0 p1) := by
  have h : Run G B E (oR G B (rpF G)) [some (.bw p0), some (.fz p1), none, none, none, none, none, none] (t__law_big G) _ := (run_asg (bind := fun (x : (Tp Int)) (r : Evr) => (r.set 2 (some (.fz x)))) (ev_tp (el_cons (ev_int (md := .F)) (el_cons (ev_int (md := .F)) (el_cons (ev_int (md := .F)) (el_cons (ev_int (md := .F)) (el_cons (ev_int (md := .F)) (el_cons (ev_int (md := .F)) (el_cons (ev_int (md := .F)) (el_cons (ev_int (md := .F)) (el_nil (α := Int))))))))))) tg_F (fun v1 => (run_asg (bind := fun (x : (Tp Int)) (r : Evr) => (r.set 3 (some (.fz x)))) (ev_tp (el_cons (ev_int (md := .F)) (el_cons (ev_int (md := .F)) (el_cons (ev_int (md := .F)) (el_cons (ev_int (md := .F)) (el_cons (ev_int (md := .F)) (el_cons (ev_int (md := .F)) (el_cons (ev_int (md := .F)) (el_cons (ev_int (md := .F)) (el_nil (α := Int))))))))))) tg_F (fun v2 => (run_asg (bind := fun (x : Int) (r : Evr) => (r.set 4 (some (.fz x)))) (ev_call2 (f := F__law_cell_at) (ev_bw rfl) ps_B (ev_fz rfl) ps_F) tg_S (fun v3 => (run_ifS (evT_and (evT_T (ev_eq (mr := .F) (ev_mod (mr := .F) (ev_fz rfl) (ev_int (md := .F))) (ev_int (md := .F)))) (evT_T (ev_gt (mr := .F) (ev_fz rfl) (ev_pow (mr := .F) (ev_int (md := .F)) (ev_int (md := .F)))))) (run_cutR (run_ret (ev_div (mr := .F) (ev_fz rfl) (ev_int (md := .F))))) (run_skip (run_asg (bind := fun (x : Int) (r : Evr) => (r.set 5 (some (.fz x)))) (ev_int (md := .F)) tg_S (fun v7 => (run_seq (EX := fun (s : Int) => [some (.bw p0), some (.fz p1), some (.fz v1), some (.fz v2), some (.fz v3), some (.fz s), none, none]) (run_for (bind := fun (x : Int) (r : Evr) => (r.set 6 (some (.fz x)))) (s0 := v7) (ew_rng1 (ev_int (md := .F)) tg_S) (.keep (.keep (.keep (.keep (.keep (.keep (.drop (.drop Wk.nil)))))))) (fun s8 x9 => (run_asg (bind := fun (x : Int) (r : Evr) => (r.set 7 (some (.fz x)))) (ev_add (mr := .F) (ev_add (mr := .F) (ev_mod (mr := .F) (ev_call2 (f := F__law_cell_at) (ev_bw rfl) ps_B (ev_add (mr := .F) (ev_fz rfl) (ev_mod (mr := .F) (ev_fz rfl) (ev_int (md := .F)))) ps_F) (ev_pow (mr := .F) (ev_int (md := .F)) (ev_int (md := .F)))) (ev_int (md := .F))) (ev_mul (mr := .F) (ev_fz rfl) (ev_fz rfl))) tg_S (fun v17 => (run_last (run_asg (bind := fun (x : Int) (r : Evr) => (r.set 5 (some (.fz x)))) (ev_add (mr := .F) (ev_mul (mr := .F) (ev_fz rfl) (ev_int (md := .F))) (ev_mod (mr := .F) (ev_mod (mr := .F) (ev_mul (mr := .F) (ev_fz rfl) (ev_ixTp (ev_fz rfl) (ev_mod (mr := .F) (ev_fz rfl) (ev_int (md := .F))))) (ev_ixTp (ev_fz rfl) (ev_mod (mr := .F) (ev_fz rfl) (ev_int (md := .F))))) (ev_int (md := .F)))) tg_S (fun v26 => (run_next (s := v26) (.keep (.keep (.keep (.keep (.keep (.keep (.drop (.drop Wk.nil)))))))))))))))) (fun s28 => (run_ret (ev_fz rfl))))))))))))))
  exact h
theorem run__law_big {G : Gb} {vs : List V} {H : Hp} {Q : VK} {E : XK} (h : sp__law_big G vs H Q E) : t__law_big G (dEnd Q) (start n__law_big vs) H := spA_run (n := 6) h (fun _ => rfl) fun p B => rn__law_big (p.1) (p.2)
def cell (ns : List Int) (j : Nat) : Int := ns.getD j 0
theorem cell_at (ns : List Int) (j : Nat) : F__law_cell_at ⟨ns⟩ (j : Int) = .ok (cell ns j) := by
  unfold F__law_cell_at cell
  by_cases h : j < ns.length
  · rw [if_pos (decide_eq_true (by show (j : Int) < (ns.length : Int); omega)), atI_nat (List.getElem?_eq_getElem h), M.get_some, List.getD_eq_getElem?_getD, List.getElem?_eq_getElem h]
    rfl
  · rw [if_neg (by rw [decide_eq_false (by show ¬ (j : Int) < (ns.length : Int); omega)]; exact Bool.false_ne_true), List.getD_eq_getElem?_getD, List.getElem?_eq_none (by omega)]
    exact rfl
def byL : List Int := [48271, 69621, 16807, 39373, 21401, 60493, 87721, 31337]
def primeL : List Int := [99991, 99989, 99971, 99961, 99929, 99923, 99907, 99901]
theorem at8 (xs : List Int) (h : xs.length = 8) (hp : ∀ x ∈ xs, 0 < x ∧ x < 100000) (k : Nat) : ∃ x : Int, atI xs (((k : Int)) % 8) = some x ∧ 0 < x ∧ x < 100000 := by
  have e : ((k : Int) % 8) = ((k % 8 : Nat) : Int) := by omega
  have hk : k % 8 < xs.length := by omega
  refine ⟨xs[k % 8], ?_, hp _ (List.getElem_mem hk)⟩
  rw [e]
  exact atI_nat (List.getElem?_eq_getElem hk)
theorem big_ok (ns : List Int) (j : Nat) : (F__law_big ⟨ns⟩ (j : Int)).T fun b => 0 ≤ b := by
  unfold F__law_big
  refine M.T_b (M.T_chk (line_of (show 8 ≤ 100000 by decide)) (M.T_ok (M.T_b (M.T_chk (line_of (show 8 ≤ 100000 by decide)) (M.T_ok ?_)))))
  rw [cell_at]
  refine M.T_b (M.T_cl (M.T_ok ?_))
  have e10 : (10 : Int) ^ ((20 : Int).toNat) = 100000000000000000000 := by decide
  refine M.T_b (M.T.imp (p := fun x => x = true → 0 < cell ns j) ?_ fun x29 hx => ?_)
  · (repeat' (first | with_reducible refine M.T_b ?_ | with_reducible refine M.T_ok ?_ | (with_reducible refine M.T_chk ?hc ?_; (case hc => (first | assumption | exact cpos (by omega) | exact cdiv (by omega) (by omega) | exact rng_side (by omega) | (unfold CPow; decide) | decide | omega))) | with_reducible refine M.T_cl ?_ | with_reducible refine M.T_orRl ?_ | with_reducible refine M.T_orRr ?_))
    refine M.T_ite (fun h => ?_) fun h => ?_
    · (repeat' (first | with_reducible refine M.T_b ?_ | with_reducible refine M.T_ok ?_ | (with_reducible refine M.T_chk ?hc ?_; (case hc => (first | assumption | exact cpos (by omega) | exact cdiv (by omega) (by omega) | exact rng_side (by omega) | (unfold CPow; decide) | decide | omega))) | with_reducible refine M.T_cl ?_ | with_reducible refine M.T_orRl ?_ | with_reducible refine M.T_orRr ?_))
      intro h2
      have := of_decide_eq_true h2
      rw [e10] at this
      omega
    · (repeat' (first | with_reducible refine M.T_b ?_ | with_reducible refine M.T_ok ?_ | (with_reducible refine M.T_chk ?hc ?_; (case hc => (first | assumption | exact cpos (by omega) | exact cdiv (by omega) (by omega) | exact rng_side (by omega) | (unfold CPow; decide) | decide | omega))) | with_reducible refine M.T_cl ?_ | with_reducible refine M.T_orRl ?_ | with_reducible refine M.T_orRr ?_))
      exact fun z => nomatch z
  refine M.T_ite (fun h => ?_) fun h => ?_
  · have := hx h
    (repeat' (first | with_reducible refine M.T_b ?_ | with_reducible refine M.T_ok ?_ | (with_reducible refine M.T_chk ?hc ?_; (case hc => (first | assumption | exact cpos (by omega) | exact cdiv (by omega) (by omega) | exact rng_side (by omega) | (unfold CPow; decide) | decide | omega))) | with_reducible refine M.T_cl ?_ | with_reducible refine M.T_orRl ?_ | with_reducible refine M.T_orRr ?_))
    omega
  (repeat' (first | with_reducible refine M.T_b ?_ | with_reducible refine M.T_ok ?_ | (with_reducible refine M.T_chk ?hc ?_; (case hc => (first | assumption | exact cpos (by omega) | exact cdiv (by omega) (by omega) | exact rng_side (by omega) | (unfold CPow; decide) | decide | omega))) | with_reducible refine M.T_cl ?_ | with_reducible refine M.T_orRl ?_ | with_reducible refine M.T_orRr ?_))
  refine M.T_rng (fun i (s : Int) => 0 ≤ s ∧ s.natAbs < 2 ^ (13 * i + 1)) ⟨by decide, by decide⟩ (fun i b hi ⟨hb0, hb⟩ => ?_) fun s h => h.1
  obtain ⟨x1, a1, l1, u1⟩ := at8 byL rfl (by decide) i
  obtain ⟨x2, a2, l2, u2⟩ := at8 primeL rfl (by decide) i
  have ej : (j : Int) + (i : Int) % 9 = ((j + i % 9 : Nat) : Int) := by omega
  have m0 := Int.emod_nonneg (cell ns (j + i % 9)) (show (10 : Int) ^ ((18 : Int).toNat) ≠ 0 by decide)
  have m1 := Int.emod_lt_of_pos (cell ns (j + i % 9)) (show (0 : Int) < 10 ^ ((18 : Int).toNat) by decide)
  have e10 : (10 : Int) ^ ((18 : Int).toNat) = 1000000000000000000 := by decide
  have h3 : (i : Int) * (i : Int) ≤ 60 * 60 := Int.mul_le_mul (by omega) (by omega) (by omega) (by omega)
  have h4 : 0 ≤ (i : Int) * (i : Int) := Int.mul_nonneg (by omega) (by omega)
  have cb : 0 ≤ cell ns (j + i % 9) % 10 ^ ((18 : Int).toNat) + 1 + (i : Int) * (i : Int) ∧ cell ns (j + i % 9) % 10 ^ ((18 : Int).toNat) + 1 + (i : Int) * (i : Int) < 2 ^ 61 := by
    rw [e10] at m0 m1 ⊢
    omega
  have w1 : CMulW (i : Int) (i : Int) := wide_mul (a := 6) (b := 6) (by omega) (by omega) (by decide) (by decide) (by decide)
  have w2 : CMulW b 7919 := wide_mul (a := 13 * i + 1) (b := 13) hb (by decide) (by omega) (by decide) (by omega)
  have w3 : CMulW (cell ns (j + i % 9) % 10 ^ ((18 : Int).toNat) + 1 + (i : Int) * (i : Int)) x1 := wide_mul (a := 61) (b := 17) (by omega) (by omega) (by decide) (by decide) (by decide)
  have w4 : (0 : Int) < 10 ^ ((18 : Int).toNat) := by decide
  (repeat' (first | with_reducible refine M.T_b ?_ | with_reducible refine M.T_ok ?_ | (with_reducible refine M.T_chk ?hc ?_; (case hc => (first | assumption | exact cpos (by omega) | exact cdiv (by omega) (by omega) | exact rng_side (by omega) | (unfold CPow; decide) | decide | omega))) | with_reducible refine M.T_cl ?_ | with_reducible refine M.T_orRl ?_ | with_reducible refine M.T_orRr ?_))
  rw [ej, cell_at]
  (repeat' (first | with_reducible refine M.T_b ?_ | with_reducible refine M.T_ok ?_ | (with_reducible refine M.T_chk ?hc ?_; (case hc => (first | assumption | exact cpos (by omega) | exact cdiv (by omega) (by omega) | exact rng_side (by omega) | (unfold CPow; decide) | decide | omega))) | with_reducible refine M.T_cl ?_ | with_reducible refine M.T_orRl ?_ | with_reducible refine M.T_orRr ?_))
  refine M.T_get a1 ?_
  (repeat' (first | with_reducible refine M.T_b ?_ | with_reducible refine M.T_ok ?_ | (with_reducible refine M.T_chk ?hc ?_; (case hc => (first | assumption | exact cpos (by omega) | exact cdiv (by omega) (by omega) | exact rng_side (by omega) | (unfold CPow; decide) | decide | omega))) | with_reducible refine M.T_cl ?_ | with_reducible refine M.T_orRl ?_ | with_reducible refine M.T_orRr ?_))
  refine M.T_get a2 ?_
  (repeat' (first | with_reducible refine M.T_b ?_ | with_reducible refine M.T_ok ?_ | (with_reducible refine M.T_chk ?hc ?_; (case hc => (first | assumption | exact cpos (by omega) | exact cdiv (by omega) (by omega) | exact rng_side (by omega) | (unfold CPow; decide) | decide | omega))) | with_reducible refine M.T_cl ?_ | with_reducible refine M.T_orRl ?_ | with_reducible refine M.T_orRr ?_))
  have q0 := Int.emod_nonneg ((cell ns (j + i % 9) % 10 ^ ((18 : Int).toNat) + 1 + (i : Int) * (i : Int)) * x1 % x2) (show (7919 : Int) ≠ 0 by decide)
  have q1 := Int.emod_lt_of_pos ((cell ns (j + i % 9) % 10 ^ ((18 : Int).toNat) + 1 + (i : Int) * (i : Int)) * x1 % x2) (show (0 : Int) < 7919 by decide)
  have e : 2 ^ (13 * (i + 1) + 1) = 2 ^ (13 * i + 1) * 8192 := by
    rw [show 13 * (i + 1) + 1 = (13 * i + 1) + 13 by omega, Nat.pow_add]
  refine ⟨by omega, ?_⟩
  rw [e]
  omega
theorem big_T {ns : List Int} {n : Int} {p : Int → Prop} (h : 0 ≤ n) (k : ∀ b, 0 ≤ b → p b) : (F__law_big ⟨ns⟩ n).T p := by
  rw [show n = ((n.toNat : Nat) : Int) by omega]
  exact (big_ok ns n.toNat).imp k
end Tw
set_option Elab.async false
set_option linter.all false
set_option maxRecDepth 100000
set_option maxHeartbeats 4000000
namespace Tw
theorem nodup_le {α : Type} [DecidableEq α] : ∀ {s l : List α}, s.Nodup → (∀ x ∈ s, x ∈ l) → s.length ≤ l.length
  | [], _, _, _ => Nat.zero_le _
  | a :: r, l, h, k => by
    have h1 := List.nodup_cons.mp h
    have h2 := nodup_le (l := l.erase a) h1.2 fun x hx => (List.mem_erase_of_ne (fun e => h1.1 (by rw [← e]; exact hx))).mpr (k x (List.mem_cons_of_mem _ hx))
    have ha := k a List.mem_cons_self
    rw [List.length_erase_of_mem ha] at h2
    have := List.length_pos_of_mem ha
    rw [List.length_cons]
    omega
def itr {α : Type} (f : α → α) : Nat → α → α
  | 0, x => x
  | n + 1, x => f (itr f n x)
theorem itr_add {α : Type} (f : α → α) (x : α) (m : Nat) : ∀ n, itr f (n + m) x = itr f n (itr f m x)
  | 0 => by rw [Nat.zero_add]; rfl
  | n + 1 => by rw [show n + 1 + m = (n + m) + 1 by omega]; show f (itr f (n + m) x) = _; rw [itr_add f x m n]; rfl
section
variable {α : Type} [DecidableEq α] {f : α → α} {L : List α}
/-- f maps L into itself, no two to one -/
structure Inj (f : α → α) (L : List α) : Prop where
  to : ∀ x ∈ L, f x ∈ L
  inj : ∀ x ∈ L, ∀ y ∈ L, f x = f y → x = y
theorem Inj.itr (h : Inj f L) {x : α} (hx : x ∈ L) : ∀ n, itr f n x ∈ L
  | 0 => hx
  | n + 1 => h.to _ (h.itr hx n)
theorem Inj.back (h : Inj f L) {x : α} (hx : x ∈ L) : ∀ (i n : Nat), Tw.itr f (i + n) x = Tw.itr f i x → Tw.itr f n x = x
  | 0, n, e => by rw [Nat.zero_add] at e; exact e
  | i + 1, n, e => by
    refine h.back hx i n ?_
    refine h.inj _ (h.itr hx _) _ (h.itr hx _) ?_
    rw [show i + 1 + n = (i + n) + 1 by omega] at e
    exact e
theorem nodup_of_inj {β : Type} (g : Nat → β) (n : Nat) (h : ∀ i j, i < j → j < n → g i ≠ g j) : ((List.range n).map g).Nodup := by
  rw [List.nodup_iff_pairwise_ne, List.pairwise_map]
  refine List.Pairwise.imp_of_mem (fun {a b} ha hb hab => ?_) (List.pairwise_lt_range (n := n))
  exact h a b hab (List.mem_range.mp hb)
theorem Inj.period (h : Inj f L) {x : α} (hx : x ∈ L) : ∃ k, 1 ≤ k ∧ k ≤ L.length ∧ Tw.itr f k x = x ∧ ∀ j, 1 ≤ j → j < k → Tw.itr f j x ≠ x := by
  classical
  have ex : ∃ k, 1 ≤ k ∧ k ≤ L.length ∧ Tw.itr f k x = x := by
    refine Classical.byContradiction fun no => ?_
    have nd := nodup_of_inj (fun i => Tw.itr f i x) (L.length + 1) fun i j hij hj e => by
      refine no ⟨j - i, by omega, by omega, h.back hx i (j - i) ?_⟩
      rw [show i + (j - i) = j by omega]
      exact e.symm
    have := nodup_le nd fun y hy => by
      obtain ⟨i, _, rfl⟩ := List.mem_map.mp hy
      exact h.itr hx i
    rw [List.length_map, List.length_range] at this
    omega
  have key : ∀ n, (∃ k, k ≤ n ∧ 1 ≤ k ∧ k ≤ L.length ∧ Tw.itr f k x = x) → ∃ k, 1 ≤ k ∧ k ≤ L.length ∧ Tw.itr f k x = x ∧ ∀ j, 1 ≤ j → j < k → Tw.itr f j x ≠ x := by
    intro n
    induction n with
    | zero => rintro ⟨k, h1, h2, _⟩; omega
    | succ n ih =>
      rintro ⟨k, h1, h2, h3, h4⟩
      by_cases q : ∃ j, j < k ∧ 1 ≤ j ∧ Tw.itr f j x = x
      · obtain ⟨j, q1, q2, q3⟩ := q
        exact ih ⟨j, by omega, q2, by omega, q3⟩
      · exact ⟨k, h2, h3, h4, fun j j1 j2 e => q ⟨j, j2, j1, e⟩⟩
  obtain ⟨k, h1, h2, h3⟩ := ex
  exact key k ⟨k, Nat.le_refl _, h1, h2, h3⟩
/-- the orbit, once round -/
def orb (f : α → α) (x : α) (k : Nat) : List α := (List.range k).map fun i => itr f i x
open Classical in
noncomputable def per (f : α → α) (L : List α) (x : α) : Nat := if h : ∃ k, 1 ≤ k ∧ k ≤ L.length ∧ itr f k x = x ∧ ∀ j, 1 ≤ j → j < k → itr f j x ≠ x then h.choose else 0
theorem Inj.perd (h : Inj f L) {x : α} (hx : x ∈ L) : 1 ≤ per f L x ∧ per f L x ≤ L.length ∧ Tw.itr f (per f L x) x = x ∧ ∀ j, 1 ≤ j → j < per f L x → Tw.itr f j x ≠ x := by
  unfold Tw.per
  rw [dif_pos (h.period hx)]
  exact (h.period hx).choose_spec
noncomputable def face (f : α → α) (L : List α) (x : α) : List α := orb f x (per f L x)
theorem itr_mod {x : α} {k : Nat} (e : itr f k x = x) : ∀ n, itr f (n * k) x = x
  | 0 => by rw [Nat.zero_mul]; rfl
  | n + 1 => by rw [Nat.add_mul, Nat.one_mul, itr_add, e, itr_mod e n]
theorem Inj.mem_face (h : Inj f L) {x : α} (hx : x ∈ L) (n : Nat) : Tw.itr f n x ∈ face f L x := by
  obtain ⟨h1, h2, h3, h4⟩ := h.perd hx
  refine List.mem_map.mpr ⟨n % per f L x, List.mem_range.mpr (Nat.mod_lt _ (by omega)), ?_⟩
  have e : n = n % per f L x + n / per f L x * per f L x := by rw [Nat.mul_comm]; exact (Nat.mod_add_div n _).symm
  show Tw.itr f (n % per f L x) x = Tw.itr f n x
  conv => rhs; rw [e, itr_add, itr_mod h3]
theorem Inj.face_iff (h : Inj f L) {x : α} (hx : x ∈ L) {y : α} : y ∈ face f L x ↔ ∃ n, y = Tw.itr f n x := by
  constructor
  · intro hy
    obtain ⟨i, _, rfl⟩ := List.mem_map.mp hy
    exact ⟨i, rfl⟩
  · rintro ⟨n, rfl⟩
    exact h.mem_face hx n
/-- one comes back -/
theorem Inj.symm (h : Inj f L) {x y : α} (hx : x ∈ L) (hy : y ∈ face f L x) : x ∈ face f L y := by
  obtain ⟨n, rfl⟩ := (h.face_iff hx).mp hy
  obtain ⟨h1, h2, h3, h4⟩ := h.perd hx
  have hm : n ≤ n * per f L x := Nat.le_mul_of_pos_right _ (by omega)
  refine (h.face_iff (h.itr hx n)).mpr ⟨n * per f L x - n, ?_⟩
  rw [← itr_add, show n * per f L x - n + n = n * per f L x by omega, itr_mod h3]
theorem Inj.trans (h : Inj f L) {x y z : α} (hx : x ∈ L) (hy : y ∈ face f L x) (hz : z ∈ face f L y) : z ∈ face f L x := by
  obtain ⟨n, rfl⟩ := (h.face_iff hx).mp hy
  obtain ⟨m, rfl⟩ := (h.face_iff (h.itr hx n)).mp hz
  rw [← itr_add]
  exact h.mem_face hx _
end
end Tw
set_option Elab.async false
set_option linter.all false
set_option maxRecDepth 100000
set_option maxHeartbeats 4000000
namespace Tw
open PySem PySem.Spec L2 TL
open PyProof.Rows hiding St
def rowT (rows : RowsT) (r : Nat) : List Str := ((rows[r]?).map (·.2)).getD []
end Tw
set_option Elab.async false
set_option linter.all false
set_option maxRecDepth 100000
set_option maxHeartbeats 4000000
set_option Elab.async false
set_option linter.all false
set_option maxRecDepth 100000
set_option maxHeartbeats 4000000
namespace Tw
open PySem PySem.Spec L2 TL
open PyProof.Rows hiding St
/-- bare, or each point has an end -/
def Full (rows : RowsT) : Prop := (∃ n, rows = [(n, [])]) ∨ (rows ≠ [] ∧ ∀ r, r < rows.length → rowT rows r ≠ [])
theorem Full.bare {rows : RowsT} (h : Full rows) (h0 : rowT rows 0 = []) : ∃ n, rows = [(n, [])] := by
  rcases h with h | ⟨h1, h⟩
  · exact h
  · exact absurd h0 (h 0 (List.length_pos_iff.mpr h1))
end Tw
set_option Elab.async false
set_option linter.all false
set_option maxRecDepth 100000
set_option maxHeartbeats 4000000
set_option Elab.async false
set_option linter.all false
set_option maxRecDepth 100000
set_option maxHeartbeats 4000000
namespace Tw
open PySem PySem.Spec L2 TL
open PyProof.Rows hiding St
theorem nm_okS {z : Str} (h : isNm z = true) : Dd.Ok z := by
  unfold isNm at h
  rw [Bool.and_eq_true, List.all_eq_true] at h
  have h2 : ∀ c ∈ SG, c < 0x110000 := by decide +kernel
  show z.cps.all (· < 0x110000) = true
  rw [← Array.all_toList, List.all_eq_true]
  intro c hc
  exact decide_eq_true (h2 c (of_decide_eq_true (h.2 c hc)))
end Tw
set_option Elab.async false
set_option linter.all false
set_option maxRecDepth 100000
set_option maxHeartbeats 4000000
namespace Tw
open PySem PySem.Spec L2 TL
open PyProof.Rows hiding St
abbrev XC : List Str := ["NoText"]
abbrev XT : List Str := ["NetError", "NoNet", "Broken", "NoPlane", "NoWalker", "NoDouble", "TooMany", "NoTie", "NoCorner", "NoFace", "Taken", "Bridge", "Loop", "NoText", "NoRow"]
abbrev n_is_name : List Str := ["thing", "sign"]
noncomputable def F_is_name (p0 : Str) : M Bool :=
  (M.b (if (!true) = true then M.ok true else (if (decide (p0 = (Str.ofString ""))) = true then M.ok true else (M.b (M.chk (p0.length ≤ sizeLine) (M.ok ((p0.length : Nat) : Int))) fun x1 => (M.ok (decide ((8 : Int) < x1)))))) fun x7 => (if x7 = true then (M.ok false) else (M.b (M.forR (fun (s2 : Unit) (x3 : Sgn) => (M.b (M.b (M.ok (Str.ofString "abcdefghijklmnopqrstuvwxyz0123456789")) fun x4 => (M.ok (!decide (x3.c ∈ x4.cps.toList)))) fun x5 => (if x5 = true then (M.ok (.inr false)) else (M.ok (.inl ()))))) (p0.cps.toList.map Sgn.mk) ()) (M.orR fun s6 => (M.ok true)))))
def sp_is_name (G : Gb) : Sp := spA G (fun (p : Str) => [.fz p]) (rpF G) (fun (p : Str) => F_is_name p)
def t_is_name (G : Gb) : TS :=
  (tSeq (tIfS (tOr (tNot (tB (tCB (rIsi G.K) (tCons (tVar 0) (tCons (tC (.ty "str")) tNil))))) (tOr (tTest (tOp rEq (tVar 0) (tC (.str "")))) (tTest (tOp qGt (tCB qLenS (tCons (tVar 0) tNil)) (tC (.int 8))))))
  (tRet (tC (.bl false)))
  tNext)
  (tSeq (tFor (iStr (tVar 0)) (gName 1)
  (tIfS (tTest (tOp qNotInSign (tVar 1) (tC (.str "abcdefghijklmnopqrstuvwxyz0123456789"))))
  (tRet (tC (.bl false)))
  tNext))
  (tRet (tC (.bl true)))))
theorem len_is_name {G : Gb} (vs : List V) (H : Hp) (Q : VK) (E : XK) (h : sp_is_name G vs H Q E) : vs.length = 1 := spA_len h fun _ => rfl
theorem rn_is_name {G : Gb} {B : Hp} {E : XK} (p0 : Str) : Run G B E (oR G B (rpF G)) [some (.fz p0), none] (t_is_name G) (F_is_name p0) := by
  have h : Run G B E (oR G B (rpF G)) [some (.fz p0), none] (t_is_name G) _ := (run_ifS (evT_or (evT_not (evT_B (ev_isi (mr := .F) (k := true) (fun _ => kit_ty (by decide +kernel)) (ev_fz rfl)))) (evT_or (evT_T (ev_eq (mr := .F) (ev_fz rfl) (ev_str (md := .F)))) (evT_T (ev_gt (mr := .F) (ev_lenStr (mr := .F) (ev_fz rfl)) (ev_int (md := .F)))))) (run_cutR (run_ret (ev_bl (md := .F)))) (run_skip (run_seqR (EX := fun (s : Unit) => [some (.fz p0), none]) (run_forR (bind := fun (x : Sgn) (r : Evr) => (r.set 1 (some (.fz x)))) (s0 := ()) (ew_str (ev_fz rfl) tg_S) (.keep (.drop Wk.nil)) (fun s2 x3 => (run_if (evT_T (ev_notinSg (mr := .F) (ev_fz rfl) (ev_str (md := .F)))) (run_retC (ev_bl (md := .F))) (run_nextC (s := ()) (.keep (.drop Wk.nil)))))) (fun s6 => (run_ret (ev_bl (md := .F)))))))
  exact h
theorem run_is_name {G : Gb} {vs : List V} {H : Hp} {Q : VK} {E : XK} (h : sp_is_name G vs H Q E) : t_is_name G (dEnd Q) (start n_is_name vs) H := spA_run (n := 1) h (fun _ => rfl) fun p B => rn_is_name p
abbrev n_row_in : List Str := ["part", "words", "point", "word"]
noncomputable def F_row_in (p0 : Str) : M (Str × (List Str)) :=
  (M.b (M.chk (((Str.ofString " ").length == 0) = false ∧ p0.length + 2 ≤ sizeLine) (M.ok (Txt.split p0 (Str.ofString " ")))) fun v1 => (M.b (M.b (M.get (atI v1 (0 : Int))) fun x2 => (M.chk (x2.length ≤ sizeLine) (M.ok (cutS x2 none (some ((-(1 : Int)))))))) fun v3 => (M.b (M.b (M.b (M.b (M.get (atI v1 (0 : Int))) fun x4 => (M.chk (x4.length ≤ sizeLine) (M.ok (cutS x4 (some ((-(1 : Int)))) none)))) fun x5 => (M.ok (!decide (x5 = (Str.ofString ":"))))) fun x7 => (if x7 = true then M.ok true else (M.b (M.cl (F_is_name v3)) fun x6 => (M.ok (!x6))))) fun x13 => (if x13 = true then (M.exc "NoText") else (M.b (M.for_ (fun (s8 : Unit) (x9 : Str) => (M.b (M.b (M.cl (F_is_name x9)) fun x10 => (M.ok (!x10))) fun x11 => (if x11 = true then (M.exc "NoText") else (M.ok ())))) (cutL v1 (some ((1 : Int))) none) ()) fun s12 => (M.ok (v3, (cutL v1 (some ((1 : Int))) none))))))))
def sp_row_in (G : Gb) : Sp := spA G (fun (p : Str) => [.fz p]) (rpF G) (fun (p : Str) => F_row_in p)
def t_row_in (G : Gb) (E : XK) : TS :=
  (tSeq (tAsg (tM1 qSplit (tVar 0) (tC (.str " "))) (gName 1)) (tSeq (tAsg (tSl rSlS (tOp (rIxL G.K) (tVar 1) (tC (.int 0))) tNoPart (tPart (tUn qNeg (tC (.int 1))))) (gName 2)) (tSeq (tIfS (tOr (tTest (tOp rNe (tSl rSlS (tOp (rIxL G.K) (tVar 1) (tC (.int 0))) (tPart (tUn qNeg (tC (.int 1)))) tNoPart) (tC (.str ":")))) (tNot (tB (tCall (sp_is_name G) [] E0 (tCons (tVar 2) tNil)))))
  (tRaise G E "NoText")
  tNext)
  (tSeq (tFor (iList G.K (tSl (rSlL G.K) (tVar 1) (tPart (tC (.int 1))) tNoPart)) (gName 3)
  (tIfS (tNot (tB (tCall (sp_is_name G) [] E0 (tCons (tVar 3) tNil))))
  (tRaise G E "NoText")
  tNext))
  (tRet (tTup (tCons (tVar 2) (tCons (tSl (rSlL G.K) (tVar 1) (tPart (tC (.int 1))) tNoPart) tNil))))))))
theorem len_row_in {G : Gb} (vs : List V) (H : Hp) (Q : VK) (E : XK) (h : sp_row_in G vs H Q E) : vs.length = 1 := spA_len h fun _ => rfl
theorem rn_row_in {G : Gb} {B : Hp} {E : XK} (p0 : Str) : Run G B E (oR G B (rpF G)) [some (.fz p0), none, none, none] (t_row_in G E) (F_row_in p0) := by
  have h : Run G B E (oR G B (rpF G)) [some (.fz p0), none, none, none] (t_row_in G E) _ := (run_asgN (en_split (ev_fz rfl) (ev_str (md := .F))) (fun v1 => (run_asg (bind := fun (x : Str) (r : Evr) => (r.set 2 (some (.fz x)))) (ev_sliceStr (mr := .F) (ev_ixS (es_ow rfl) (ev_int (md := .F))) eo_none (eo_some (ev_neg (mr := .F) (ev_int (md := .F))))) tg_S (fun v3 => (run_ifS (evT_or (evT_T (ev_ne (mr := .F) (ev_sliceStr (mr := .F) (ev_ixS (es_ow rfl) (ev_int (md := .F))) (eo_some (ev_neg (mr := .F) (ev_int (md := .F)))) eo_none) (ev_str (md := .F)))) (evT_not (evT_B (ev_call1 (f := F_is_name) (ev_fz rfl) ps_F)))) run_raiseS (run_skip (run_seq (EX := fun (s : Unit) => [some (.fz p0), some (.ow v1), some (.fz v3), none]) (run_for (bind := fun (x : Str) (r : Evr) => (r.set 3 (some (.fz x)))) (s0 := ()) (ew_F (EvN.F (en_slice (es_ow rfl) (eo_some (ev_int (md := .F))) eo_none)) tg_S) (.keep (.keep (.keep (.drop Wk.nil)))) (fun s8 x9 => (run_if (evT_not (evT_B (ev_call1 (f := F_is_name) (ev_fz rfl) ps_F))) run_raise (run_next (s := ()) (.keep (.keep (.keep (.drop Wk.nil)))))))) (fun s12 => (run_ret (ev_pair (ev_fz rfl) (EvN.F (en_slice (es_ow rfl) (eo_some (ev_int (md := .F))) eo_none))))))))))))
  exact h
theorem run_row_in {G : Gb} {vs : List V} {H : Hp} {Q : VK} {E : XK} (h : sp_row_in G vs H Q E) : t_row_in G E (dEnd Q) (start n_row_in vs) H := spA_run (n := 3) h (fun _ => rfl) fun p B => rn_row_in p
abbrev n_read : List Str := ["text", "part"]
noncomputable def F_read (p0 : Str) : M (List (Str × (List Str))) :=
  (M.b (M.chk (((Str.ofString "; ").length == 0) = false ∧ p0.length + 2 ≤ sizeLine) (M.ok (Txt.split p0 (Str.ofString "; ")))) fun x2 => (M.chk (x2.length ≤ sizeLine) (M.lc (fun (y1 : Str) => (M.ok true)) (fun (y1 : Str) => (F_row_in y1)) x2)))
def sp_read (G : Gb) : Sp := spA G (fun (p : Str) => [.fz p]) (rpN G) (fun (p : Str) => F_read p)
def t_read (G : Gb) (E : XK) : TS :=
  (tRet (tLc (iList G.K (tM1 qSplit (tVar 0) (tC (.str "; ")))) (gName 1) tYes (tCall (sp_row_in G) [] E (tCons (tVar 1) tNil)) [1]))
theorem len_read {G : Gb} (vs : List V) (H : Hp) (Q : VK) (E : XK) (h : sp_read G vs H Q E) : vs.length = 1 := spA_len h fun _ => rfl
theorem rn_read {G : Gb} {B : Hp} {E : XK} (p0 : Str) : Run G B E (oR G B (rpN G)) [some (.fz p0), none] (t_read G E) (F_read p0) := by
  have h : Run G B E (oR G B (rpN G)) [some (.fz p0), none] (t_read G E) _ := (run_retN (en_lc (te := (tCall (sp_row_in G) [] E (tCons (tVar 1) tNil))) (bind := fun (x : Str) (r : Evr) => (r.set 1 (some (.fz x)))) (ew_S (es_N (en_split (ev_fz rfl) (ev_str (md := .F)))) tg_S) (fun y1 => evT_yes) (fun y1 => (ev_callX1 (f := F_row_in) (ev_fz rfl) ps_F))))
  exact h
theorem run_read {G : Gb} {vs : List V} {H : Hp} {Q : VK} {E : XK} (h : sp_read G vs H Q E) : t_read G E (dEnd Q) (start n_read vs) H := spA_run (n := 1) h (fun _ => rfl) fun p B => rn_read p
abbrev n__law_is_good : List Str := ["_law_name", "_law_sign_here"]
noncomputable def F__law_is_good (p0 : Str) : M Bool :=
  (M.b (M.forR (fun (s1 : Unit) (x2 : Sgn) => (M.b (M.b (M.ok (Str.ofString "abcdefghijklmnopqrstuvwxyz0123456789")) fun x3 => (M.ok (!decide (x2.c ∈ x3.cps.toList)))) fun x4 => (if x4 = true then (M.ok (.inr false)) else (M.ok (.inl ()))))) (p0.cps.toList.map Sgn.mk) ()) (M.orR fun s5 => (M.b (M.chk (p0.length ≤ sizeLine) (M.ok ((p0.length : Nat) : Int))) fun x6 => (if decide ((0 : Int) < x6) = true then (M.ok (decide (x6 < (9 : Int)))) else M.ok false))))
def sp__law_is_good (G : Gb) : Sp := spA G (fun (p : Str) => [.fz p]) (rpF G) (fun (p : Str) => F__law_is_good p)
def t__law_is_good (G : Gb) : TS :=
  (tSeq (tFor (iStr (tVar 0)) (gName 1)
  (tIfS (tTest (tOp qNotInSign (tVar 1) (tC (.str "abcdefghijklmnopqrstuvwxyz0123456789"))))
  (tRet (tC (.bl false)))
  tNext))
  (tRet (tChain qLt qLt (tC (.int 0)) (tCB qLenS (tCons (tVar 0) tNil)) (tC (.int 9)))))
theorem len__law_is_good {G : Gb} (vs : List V) (H : Hp) (Q : VK) (E : XK) (h : sp__law_is_good G vs H Q E) : vs.length = 1 := spA_len h fun _ => rfl
theorem rn__law_is_good {G : Gb} {B : Hp} {E : XK} (p0 : Str) : Run G B E (oR G B (rpF G)) [some (.fz p0), none] (t__law_is_good G) (F__law_is_good p0) := by
  have h : Run G B E (oR G B (rpF G)) [some (.fz p0), none] (t__law_is_good G) _ := (run_seqR (EX := fun (s : Unit) => [some (.fz p0), none]) (run_forR (bind := fun (x : Sgn) (r : Evr) => (r.set 1 (some (.fz x)))) (s0 := ()) (ew_str (ev_fz rfl) tg_S) (.keep (.drop Wk.nil)) (fun s1 x2 => (run_if (evT_T (ev_notinSg (mr := .F) (ev_fz rfl) (ev_str (md := .F)))) (run_retC (ev_bl (md := .F))) (run_nextC (s := ()) (.keep (.drop Wk.nil)))))) (fun s5 => (run_ret (ev_chainLtLt (mr := .F) (ev_int (md := .F)) (ev_lenStr (mr := .F) (ev_fz rfl)) (ev_int (md := .F))))))
  exact h
theorem run__law_is_good {G : Gb} {vs : List V} {H : Hp} {Q : VK} {E : XK} (h : sp__law_is_good G vs H Q E) : t__law_is_good G (dEnd Q) (start n__law_is_good vs) H := spA_run (n := 1) h (fun _ => rfl) fun p B => rn__law_is_good p
abbrev n__law_due : List Str := ["_law_text_here", "_law_rows", "_law_part", "_law_point", "_law_colon", "_law_rest", "_law_ties", "_law_tie"]
noncomputable def F__law_due (p0 : Str) : M (Option (List (Str × (List Str)))) :=
  (M.b (M.ok ([] : (List (Str × (List Str))))) fun v1 => (M.b (M.b (M.chk (((Str.ofString "; ").length == 0) = false ∧ p0.length + 2 ≤ sizeLine) (M.ok (Txt.split p0 (Str.ofString "; ")))) fun x16 => (M.forR (fun (s2 : (List (Str × (List Str)))) (x3 : Str) => (M.b (M.chk (((Str.ofString ":").length == 0) = false ∧ x3.length ≤ sizeLine) (M.ok (T3.mk (Txt.partition x3 (Str.ofString ":")).1 (Txt.partition x3 (Str.ofString ":")).2.1 (Txt.partition x3 (Str.ofString ":")).2.2))) fun v4 => (M.b (M.chk (((Str.ofString " ").length == 0) = false ∧ v4.c.length + 2 ≤ sizeLine) (M.ok (Txt.split v4.c (Str.ofString " ")))) fun v5 => (M.b (if (decide (v4.b = (Str.ofString ""))) = true then M.ok true else (M.b (M.b (M.cl (F__law_is_good v4.a)) fun x6 => (M.ok (!x6))) fun x8 => (if x8 = true then M.ok true else (M.b (M.get (atI v5 (0 : Int))) fun x7 => (M.ok (!decide (x7 = (Str.ofString "")))))))) fun x15 => (if x15 = true then (M.ok (.inr (none : (Option (List (Str × (List Str))))))) else (M.b (M.forR (fun (s9 : Unit) (x10 : Str) => (M.b (M.b (M.cl (F__law_is_good x10)) fun x11 => (M.ok (!x11))) fun x12 => (if x12 = true then (M.ok (.inr (none : (Option (List (Str × (List Str))))))) else (M.ok (.inl ()))))) (cutL v5 (some ((1 : Int))) none) ()) (M.orC fun s13 => (M.b (M.ok (v4.a, (cutL v5 (some ((1 : Int))) none))) fun a14 => M.chk (s2.length < sizeLine) (M.ok (.inl (s2 ++ [a14]))))))))))) x16 v1)) (M.orR fun s17 => (M.ok (some s17)))))
def sp__law_due (G : Gb) : Sp := spA G (fun (p : Str) => [.fz p]) (rpF G) (fun (p : Str) => F__law_due p)
def t__law_due (G : Gb) : TS :=
  (tSeq (tAsg (tLst tNil) (gName 1)) (tSeq (tFor (iList G.K (tM1 qSplit (tVar 0) (tC (.str "; ")))) (gName 2)
  (tSeq (tAsg (tM1 qPart (tVar 2) (tC (.str ":"))) (gTup G.K 3 (gCons (gName 3) (gCons (gName 4) (gCons (gName 5) gNil))))) (tSeq (tAsg (tM1 qSplit (tVar 5) (tC (.str " "))) (gName 6)) (tSeq (tIfS (tOr (tTest (tOp rEq (tVar 4) (tC (.str "")))) (tOr (tNot (tB (tCall (sp__law_is_good G) [] E0 (tCons (tVar 3) tNil)))) (tTest (tOp rNe (tOp (rIxL G.K) (tVar 6) (tC (.int 0))) (tC (.str ""))))))
  (tRet (tC .non))
  tNext)
  (tSeq (tFor (iList G.K (tSl (rSlL G.K) (tVar 6) (tPart (tC (.int 1))) tNoPart)) (gName 7)
  (tIfS (tNot (tB (tCall (sp__law_is_good G) [] E0 (tCons (tVar 7) tNil))))
  (tRet (tC .non))
  tNext))
  (tDrop (tBM G.K "list" rAppend (tVar 1) (tCons (tTup (tCons (tVar 3) (tCons (tSl (rSlL G.K) (tVar 6) (tPart (tC (.int 1))) tNoPart) tNil))) tNil))))))))
  (tRet (tVar 1))))
theorem len__law_due {G : Gb} (vs : List V) (H : Hp) (Q : VK) (E : XK) (h : sp__law_due G vs H Q E) : vs.length = 1 := spA_len h fun _ => rfl
theorem rn__law_due {G : Gb} {B : Hp} {E : XK} (p0 : Str) : Run G B E (oR G B (rpF G)) [some (.fz p0), none, none, none, none, none, none, none] (t__law_due G) (F__law_due p0) := by
  have h : Run G B E (oR G B (rpF G)) [some (.fz p0), none, none, none, none, none, none, none] (t__law_due G) _ := (run_asgN (en_nil (α := (Str × (List Str)))) (fun v1 => (run_seqR (EX := fun (s : (List (Str × (List Str)))) => [some (.fz p0), some (.ow s), none, none, none, none, none, none]) (run_forR (bind := fun (x : Str) (r : Evr) => (r.set 2 (some (.fz x)))) (s0 := v1) (ew_F (EvN.F (en_split (ev_fz rfl) (ev_str (md := .F)))) tg_S) (.keep (.keep (.drop (.drop (.drop (.drop (.drop (.drop Wk.nil)))))))) (fun s2 x3 => (run_asg (bind := fun (x : (T3 Str Str Str)) (r : Evr) => (((r.set 3 (some (.fz x.a))).set 4 (some (.fz x.b))).set 5 (some (.fz x.c)))) (ev_part (ev_fz rfl) (ev_str (md := .F))) (tg_tri tg_S tg_S tg_S) (fun v4 => (run_asgN (en_split (ev_fz rfl) (ev_str (md := .F))) (fun v5 => (run_ifS (evT_or (evT_T (ev_eq (mr := .F) (ev_fz rfl) (ev_str (md := .F)))) (evT_or (evT_not (evT_B (ev_call1 (f := F__law_is_good) (ev_fz rfl) ps_F))) (evT_T (ev_ne (mr := .F) (ev_ixS (es_ow rfl) (ev_int (md := .F))) (ev_str (md := .F)))))) (run_cutC (run_ret (ev_nonO (α := (List (Str × (List Str)))) (md := .F)))) (run_skip (run_seqC (EX := fun (s : Unit) => [some (.fz p0), some (.ow s2), some (.fz x3), some (.fz v4.a), some (.fz v4.b), some (.fz v4.c), some (.ow v5), none]) (run_forR (bind := fun (x : Str) (r : Evr) => (r.set 7 (some (.fz x)))) (s0 := ()) (ew_F (EvN.F (en_slice (es_ow rfl) (eo_some (ev_int (md := .F))) eo_none)) tg_S) (.keep (.keep (.keep (.keep (.keep (.keep (.keep (.drop Wk.nil)))))))) (fun s9 x10 => (run_if (evT_not (evT_B (ev_call1 (f := F__law_is_good) (ev_fz rfl) ps_F))) (run_retC (ev_nonO (α := (List (Str × (List Str)))) (md := .F))) (run_nextC (s := ()) (.keep (.keep (.keep (.keep (.keep (.keep (.keep (.drop Wk.nil)))))))))))) (fun s13 => (run_last (run_append rfl (ev_pair (ev_fz rfl) (EvN.F (en_slice (es_ow rfl) (eo_some (ev_int (md := .F))) eo_none))) (fun a14 => (run_nextC (s := (s2 ++ [a14])) (.keep (.keep (.drop (.drop (.drop (.drop (.drop (.drop Wk.nil)))))))))))))))))))))) (fun s17 => (run_freeze (i := 1) rfl (run_ret (Ev.some (ev_fz rfl))))))))
  exact h
theorem run__law_due {G : Gb} {vs : List V} {H : Hp} {Q : VK} {E : XK} (h : sp__law_due G vs H Q E) : t__law_due G (dEnd Q) (start n__law_due vs) H := spA_run (n := 7) h (fun _ => rfl) fun p B => rn__law_due p
abbrev n__law_same : List Str := ["_law_told", "_law_due_here", "_law_k", "_law_row"]
noncomputable def F__law_same (p0 : (List (Str × (List Str)))) (p1 : (List (Str × (List Str)))) : M Bool :=
  (M.b (M.ok ((!true) || (!decide (((p0.length : Nat) : Int) = ((p1.length : Nat) : Int))))) fun x13 => (if x13 = true then (M.ok false) else (M.b (M.b (M.chk (-(2 ^ 62) ≤ ((p1.length : Nat) : Int) ∧ ((p1.length : Nat) : Int) < 2 ^ 62) (M.ok (rng 0 ((p1.length : Nat) : Int)))) fun x11 => (M.forR (fun (s1 : Unit) (x2 : Int) => (M.b (M.get (atI p0 x2)) fun v3 => (M.b (M.ok ((!true) || ((!decide ((2 : Int) = (2 : Int))) || ((!true) || (!true))))) fun x10 => (if x10 = true then (M.ok (.inr false)) else (M.b (M.b (M.b (M.b (M.get (atI p1 x2)) fun x4 => (M.ok x4.1)) fun x5 => (M.ok (!decide (v3.1 = x5)))) fun x8 => (if x8 = true then M.ok true else (M.b (M.b (M.get (atI p1 x2)) fun x6 => (M.ok x6.2)) fun x7 => (M.chk (Dd.Ok v3.2 ∧ Dd.Ok x7) (M.ok (!decide (v3.2 = x7))))))) fun x9 => (if x9 = true then (M.ok (.inr false)) else (M.ok (.inl ())))))))) x11 ())) (M.orR fun s12 => (M.ok true)))))
def sp__law_same (G : Gb) : Sp := spA G (fun (p : (List (Str × (List Str))) × (List (Str × (List Str)))) => [.bw (p.1), .bw (p.2)]) (rpF G) (fun (p : (List (Str × (List Str))) × (List (Str × (List Str)))) => F__law_same (p.1) (p.2))
def t__law_same (G : Gb) : TS :=
  (tSeq (tIfS (tOr (tNot (tB (tCB (rIsi G.K) (tCons (tVar 0) (tCons (tC (.ty "list")) tNil))))) (tTest (tOp rNe (tCB (qLenQ G.K) (tCons (tVar 0) tNil)) (tCB (qLenQ G.K) (tCons (tVar 1) tNil)))))
  (tRet (tC (.bl false)))
  tNext)
  (tSeq (tFor (iRng1 (tCons (tCB (qLenQ G.K) (tCons (tVar 1) tNil)) tNil)) (gName 2)
  (tSeq (tAsg (tOp (rIxL G.K) (tVar 0) (tVar 2)) (gName 3)) (tSeq (tIfS (tOr (tNot (tB (tCB (rIsi G.K) (tCons (tVar 3) (tCons (tC (.ty "tuple")) tNil))))) (tOr (tTest (tOp rNe (tCB (qLenQ G.K) (tCons (tVar 3) tNil)) (tC (.int 2)))) (tOr (tNot (tB (tCB (rIsi G.K) (tCons (tOp (rIxT G.K) (tVar 3) (tC (.int 0))) (tCons (tC (.ty "str")) tNil))))) (tNot (tB (tCB (rIsi G.K) (tCons (tOp (rIxT G.K) (tVar 3) (tC (.int 1))) (tCons (tC (.ty "list")) tNil))))))))
  (tRet (tC (.bl false)))
  tNext)
  (tIfS (tOr (tTest (tOp rNe (tOp (rIxT G.K) (tVar 3) (tC (.int 0))) (tOp (rIxT G.K) (tOp (rIxL G.K) (tVar 1) (tVar 2)) (tC (.int 0))))) (tTest (tOp (rNeD G.K) (tOp (rIxT G.K) (tVar 3) (tC (.int 1))) (tOp (rIxT G.K) (tOp (rIxL G.K) (tVar 1) (tVar 2)) (tC (.int 1))))))
  (tRet (tC (.bl false)))
  tNext))))
  (tRet (tC (.bl true)))))
theorem len__law_same {G : Gb} (vs : List V) (H : Hp) (Q : VK) (E : XK) (h : sp__law_same G vs H Q E) : vs.length = 2 := spA_len h fun _ => rfl
theorem rn__law_same {G : Gb} {B : Hp} {E : XK} (p0 : (List (Str × (List Str)))) (p1 : (List (Str × (List Str)))) : Run G B E (oR G B (rpF G)) [some (.bw p0), some (.bw p1), none, none] (t__law_same G) (F__law_same p0 p1) := by
  have h : Run G B E (oR G B (rpF G)) [some (.bw p0), some (.bw p1), none, none] (t__law_same G) _ := (run_ifS (evT_oro (evT_not (evT_B (ev_isi (mr := .F) (k := true) (fun _ => kit_ty (by decide +kernel)) (ev_bw rfl)))) (evT_T (ev_ne (mr := .F) (ev_len (mr := .F) (ev_bw rfl)) (ev_len (mr := .F) (ev_bw rfl))))) (run_cutR (run_ret (ev_bl (md := .F)))) (run_skip (run_seqR (EX := fun (s : Unit) => [some (.bw p0), some (.bw p1), none, none]) (run_forR (bind := fun (x : Int) (r : Evr) => (r.set 2 (some (.fz x)))) (s0 := ()) (ew_rng1 (ev_len (mr := .F) (ev_bw rfl)) tg_S) (.keep (.keep (.drop (.drop Wk.nil)))) (fun s1 x2 => (run_asg (bind := fun (x : (Str × (List Str))) (r : Evr) => (r.set 3 (some (.bw x)))) (ev_ix (ev_bw rfl) (ev_fz rfl)) tg_B (fun v3 => (run_ifS (evT_oro (evT_not (evT_B (ev_isi (mr := .F) (k := true) (fun _ => kit_ty (by decide +kernel)) (ev_bw rfl)))) (evT_oro (evT_T (ev_ne (mr := .F) (ev_lenPair (mr := .F) (ev_bw rfl)) (ev_int (md := .F)))) (evT_oro (evT_not (evT_B (ev_isi (mr := .F) (k := true) (fun _ => kit_ty (by decide +kernel)) (ev_p1 (ev_bw rfl))))) (evT_not (evT_B (ev_isi (mr := .F) (k := true) (fun _ => kit_ty (by decide +kernel)) (ev_p2 (ev_bw rfl)))))))) (run_cutC (run_ret (ev_bl (md := .F)))) (run_skip (run_if (evT_or (evT_T (ev_ne (mr := .F) (ev_p1 (ev_bw rfl)) (ev_p1 (ev_ix (ev_bw rfl) (ev_fz rfl))))) (evT_T (ev_neD (mr := .F) (by decide) (ev_p2 (ev_bw rfl)) (ev_p2 (ev_ix (ev_bw rfl) (ev_fz rfl)))))) (run_retC (ev_bl (md := .F))) (run_nextC (s := ()) (.keep (.keep (.drop (.drop Wk.nil)))))))))))) (fun s12 => (run_ret (ev_bl (md := .F)))))))
  exact h
theorem run__law_same {G : Gb} {vs : List V} {H : Hp} {Q : VK} {E : XK} (h : sp__law_same G vs H Q E) : t__law_same G (dEnd Q) (start n__law_same vs) H := spA_run (n := 2) h (fun _ => rfl) fun p B => rn__law_same (p.1) (p.2)
abbrev n__law_which : List Str := ["_law_e", "_law_kinds", "_law_met", "_law_pair"]
noncomputable def F__law_which (p0 : Exn) : M Str :=
  (M.b (M.b (M.b (M.b (M.chk (p0.c ∈ XC) (M.ok (excIs p0.c "NoNet"))) fun x1 => (M.ok ((Str.ofString "NoNet"), x1))) fun x3 => (M.b (M.b (M.b (M.chk (p0.c ∈ XC) (M.ok (excIs p0.c "Broken"))) fun x2 => (M.ok ((Str.ofString "Broken"), x2))) fun x4 => (M.ok (x4 :: []))) fun x5 => (M.ok (x3 :: x5)))) fun x6 => (M.chk (x6.length ≤ sizeLine) (M.ok x6))) fun v7 => (M.b (M.b (M.b (M.b (M.b (M.chk (p0.c ∈ XC) (M.ok (excIs p0.c "NoPlane"))) fun x8 => (M.ok ((Str.ofString "NoPlane"), x8))) fun x10 => (M.b (M.b (M.b (M.chk (p0.c ∈ XC) (M.ok (excIs p0.c "NoWalker"))) fun x9 => (M.ok ((Str.ofString "NoWalker"), x9))) fun x11 => (M.ok (x11 :: []))) fun x12 => (M.ok (x10 :: x12)))) fun x13 => (M.chk (x13.length ≤ sizeLine) (M.ok x13))) fun x14 => (M.chk (v7.length + x14.length ≤ sizeLine) (M.ok (v7 ++ x14)))) fun v15 => (M.b (M.b (M.b (M.b (M.b (M.chk (p0.c ∈ XC) (M.ok (excIs p0.c "NoDouble"))) fun x16 => (M.ok ((Str.ofString "NoDouble"), x16))) fun x18 => (M.b (M.b (M.b (M.chk (p0.c ∈ XC) (M.ok (excIs p0.c "TooMany"))) fun x17 => (M.ok ((Str.ofString "TooMany"), x17))) fun x19 => (M.ok (x19 :: []))) fun x20 => (M.ok (x18 :: x20)))) fun x21 => (M.chk (x21.length ≤ sizeLine) (M.ok x21))) fun x22 => (M.chk (v15.length + x22.length ≤ sizeLine) (M.ok (v15 ++ x22)))) fun v23 => (M.b (M.b (M.b (M.b (M.b (M.chk (p0.c ∈ XC) (M.ok (excIs p0.c "NoTie"))) fun x24 => (M.ok ((Str.ofString "NoTie"), x24))) fun x26 => (M.b (M.b (M.b (M.chk (p0.c ∈ XC) (M.ok (excIs p0.c "NoCorner"))) fun x25 => (M.ok ((Str.ofString "NoCorner"), x25))) fun x27 => (M.ok (x27 :: []))) fun x28 => (M.ok (x26 :: x28)))) fun x29 => (M.chk (x29.length ≤ sizeLine) (M.ok x29))) fun x30 => (M.chk (v23.length + x30.length ≤ sizeLine) (M.ok (v23 ++ x30)))) fun v31 => (M.b (M.b (M.b (M.b (M.b (M.chk (p0.c ∈ XC) (M.ok (excIs p0.c "NoFace"))) fun x32 => (M.ok ((Str.ofString "NoFace"), x32))) fun x34 => (M.b (M.b (M.b (M.chk (p0.c ∈ XC) (M.ok (excIs p0.c "Taken"))) fun x33 => (M.ok ((Str.ofString "Taken"), x33))) fun x35 => (M.ok (x35 :: []))) fun x36 => (M.ok (x34 :: x36)))) fun x37 => (M.chk (x37.length ≤ sizeLine) (M.ok x37))) fun x38 => (M.chk (v31.length + x38.length ≤ sizeLine) (M.ok (v31 ++ x38)))) fun v39 => (M.b (M.b (M.b (M.b (M.b (M.chk (p0.c ∈ XC) (M.ok (excIs p0.c "Bridge"))) fun x40 => (M.ok ((Str.ofString "Bridge"), x40))) fun x42 => (M.b (M.b (M.b (M.chk (p0.c ∈ XC) (M.ok (excIs p0.c "Loop"))) fun x41 => (M.ok ((Str.ofString "Loop"), x41))) fun x43 => (M.ok (x43 :: []))) fun x44 => (M.ok (x42 :: x44)))) fun x45 => (M.chk (x45.length ≤ sizeLine) (M.ok x45))) fun x46 => (M.chk (v39.length + x46.length ≤ sizeLine) (M.ok (v39 ++ x46)))) fun v47 => (M.b (M.b (M.b (M.b (M.b (M.chk (p0.c ∈ XC) (M.ok (excIs p0.c "NoText"))) fun x48 => (M.ok ((Str.ofString "NoText"), x48))) fun x50 => (M.b (M.b (M.b (M.chk (p0.c ∈ XC) (M.ok (excIs p0.c "NoRow"))) fun x49 => (M.ok ((Str.ofString "NoRow"), x49))) fun x51 => (M.ok (x51 :: []))) fun x52 => (M.ok (x50 :: x52)))) fun x53 => (M.chk (x53.length ≤ sizeLine) (M.ok x53))) fun x54 => (M.chk (v47.length + x54.length ≤ sizeLine) (M.ok (v47 ++ x54)))) fun v55 => (M.b (M.chk (v55.length ≤ sizeLine) (M.lc (fun (y56 : (Str × Bool)) => (M.ok y56.2)) (fun (y56 : (Str × Bool)) => (M.ok y56.1)) v55)) fun v57 => (M.b (M.b (M.ok (!decide (((v57.length : Nat) : Int) = (1 : Int)))) fun x59 => (if x59 = true then M.ok true else (M.b (M.chk (p0.c ∈ XC) (M.ok true)) fun x58 => (M.ok (!x58))))) fun x60 => (if x60 = true then (M.ok (Str.ofString "many")) else (M.get (atI v57 (0 : Int)))))))))))))
def sp__law_which (G : Gb) : Addr → Value → Option Addr → Sp := spE G (rpF G) F__law_which
def t__law_which (G : Gb) (xa : Addr) (xl : Value) (xd : Option Addr) : TS :=
  (tSeq (tAsg (tLst (tCons (tTup (tCons (tC (.str "NoNet")) (tCons (tCB (rIsX G.K xl xd xa) (tCons (tVar 0) (tCons (tC (.ref (G.cl "NoNet"))) tNil))) tNil))) (tCons (tTup (tCons (tC (.str "Broken")) (tCons (tCB (rIsX G.K xl xd xa) (tCons (tVar 0) (tCons (tC (.ref (G.cl "Broken"))) tNil))) tNil))) tNil))) (gName 1)) (tSeq (tAsg (tOp rCat (tVar 1) (tLst (tCons (tTup (tCons (tC (.str "NoPlane")) (tCons (tCB (rIsX G.K xl xd xa) (tCons (tVar 0) (tCons (tC (.ref (G.cl "NoPlane"))) tNil))) tNil))) (tCons (tTup (tCons (tC (.str "NoWalker")) (tCons (tCB (rIsX G.K xl xd xa) (tCons (tVar 0) (tCons (tC (.ref (G.cl "NoWalker"))) tNil))) tNil))) tNil)))) (gName 1)) (tSeq (tAsg (tOp rCat (tVar 1) (tLst (tCons (tTup (tCons (tC (.str "NoDouble")) (tCons (tCB (rIsX G.K xl xd xa) (tCons (tVar 0) (tCons (tC (.ref (G.cl "NoDouble"))) tNil))) tNil))) (tCons (tTup (tCons (tC (.str "TooMany")) (tCons (tCB (rIsX G.K xl xd xa) (tCons (tVar 0) (tCons (tC (.ref (G.cl "TooMany"))) tNil))) tNil))) tNil)))) (gName 1)) (tSeq (tAsg (tOp rCat (tVar 1) (tLst (tCons (tTup (tCons (tC (.str "NoTie")) (tCons (tCB (rIsX G.K xl xd xa) (tCons (tVar 0) (tCons (tC (.ref (G.cl "NoTie"))) tNil))) tNil))) (tCons (tTup (tCons (tC (.str "NoCorner")) (tCons (tCB (rIsX G.K xl xd xa) (tCons (tVar 0) (tCons (tC (.ref (G.cl "NoCorner"))) tNil))) tNil))) tNil)))) (gName 1)) (tSeq (tAsg (tOp rCat (tVar 1) (tLst (tCons (tTup (tCons (tC (.str "NoFace")) (tCons (tCB (rIsX G.K xl xd xa) (tCons (tVar 0) (tCons (tC (.ref (G.cl "NoFace"))) tNil))) tNil))) (tCons (tTup (tCons (tC (.str "Taken")) (tCons (tCB (rIsX G.K xl xd xa) (tCons (tVar 0) (tCons (tC (.ref (G.cl "Taken"))) tNil))) tNil))) tNil)))) (gName 1)) (tSeq (tAsg (tOp rCat (tVar 1) (tLst (tCons (tTup (tCons (tC (.str "Bridge")) (tCons (tCB (rIsX G.K xl xd xa) (tCons (tVar 0) (tCons (tC (.ref (G.cl "Bridge"))) tNil))) tNil))) (tCons (tTup (tCons (tC (.str "Loop")) (tCons (tCB (rIsX G.K xl xd xa) (tCons (tVar 0) (tCons (tC (.ref (G.cl "Loop"))) tNil))) tNil))) tNil)))) (gName 1)) (tSeq (tAsg (tOp rCat (tVar 1) (tLst (tCons (tTup (tCons (tC (.str "NoText")) (tCons (tCB (rIsX G.K xl xd xa) (tCons (tVar 0) (tCons (tC (.ref (G.cl "NoText"))) tNil))) tNil))) (tCons (tTup (tCons (tC (.str "NoRow")) (tCons (tCB (rIsX G.K xl xd xa) (tCons (tVar 0) (tCons (tC (.ref (G.cl "NoRow"))) tNil))) tNil))) tNil)))) (gName 1)) (tSeq (tAsg (tLc (iList G.K (tVar 1)) (gName 3) (tB (tOp (rIxT G.K) (tVar 3) (tC (.int 1)))) (tOp (rIxT G.K) (tVar 3) (tC (.int 0))) [3]) (gName 2)) (tSeq (tIfS (tOr (tTest (tOp rNe (tCB (qLenQ G.K) (tCons (tVar 2) tNil)) (tC (.int 1)))) (tNot (tB (tCB (rIsX G.K xl xd xa) (tCons (tVar 0) (tCons (tC (.ty "ValueError")) tNil))))))
  (tRet (tC (.str "many")))
  tNext)
  (tRet (tOp (rIxL G.K) (tVar 2) (tC (.int 0)))))))))))))
theorem len__law_which {G : Gb} {xa : Addr} {xl : Value} {xd : Option Addr} (vs : List V) (H : Hp) (Q : VK) (E : XK) (h : sp__law_which G xa xl xd vs H Q E) : vs.length = 1 := spE_len h
theorem rn__law_which {G : Gb} [ExF G XC XT] {B : Hp} {E : XK} (p0 : Exn) : Run G B E (oR G B (rpF G)) [some (.fz p0), none, none, none] (t__law_which G p0.a (.ref (G.cl p0.c)) none) (F__law_which p0) := by
  have h : Run G B E (oR G B (rpF G)) [some (.fz p0), none, none, none] (t__law_which G p0.a (.ref (G.cl p0.c)) none) _ := (run_asgN (en_lst (el_cons (ev_pair (ev_str (md := .F)) (ev_isX (xa := p0.a) (xc := p0.c) (cs := XC) (ts := XT) (mr := .F) (T := "NoNet") rfl (by decide))) (el_cons (ev_pair (ev_str (md := .F)) (ev_isX (xa := p0.a) (xc := p0.c) (cs := XC) (ts := XT) (mr := .F) (T := "Broken") rfl (by decide))) (el_nil (α := (Str × Bool)))))) (fun v7 => (run_asgN (en_cat (es_ow rfl) (es_N (en_lst (el_cons (ev_pair (ev_str (md := .F)) (ev_isX (xa := p0.a) (xc := p0.c) (cs := XC) (ts := XT) (mr := .F) (T := "NoPlane") rfl (by decide))) (el_cons (ev_pair (ev_str (md := .F)) (ev_isX (xa := p0.a) (xc := p0.c) (cs := XC) (ts := XT) (mr := .F) (T := "NoWalker") rfl (by decide))) (el_nil (α := (Str × Bool)))))))) (fun v15 => (run_asgN (en_cat (es_ow rfl) (es_N (en_lst (el_cons (ev_pair (ev_str (md := .F)) (ev_isX (xa := p0.a) (xc := p0.c) (cs := XC) (ts := XT) (mr := .F) (T := "NoDouble") rfl (by decide))) (el_cons (ev_pair (ev_str (md := .F)) (ev_isX (xa := p0.a) (xc := p0.c) (cs := XC) (ts := XT) (mr := .F) (T := "TooMany") rfl (by decide))) (el_nil (α := (Str × Bool)))))))) (fun v23 => (run_asgN (en_cat (es_ow rfl) (es_N (en_lst (el_cons (ev_pair (ev_str (md := .F)) (ev_isX (xa := p0.a) (xc := p0.c) (cs := XC) (ts := XT) (mr := .F) (T := "NoTie") rfl (by decide))) (el_cons (ev_pair (ev_str (md := .F)) (ev_isX (xa := p0.a) (xc := p0.c) (cs := XC) (ts := XT) (mr := .F) (T := "NoCorner") rfl (by decide))) (el_nil (α := (Str × Bool)))))))) (fun v31 => (run_asgN (en_cat (es_ow rfl) (es_N (en_lst (el_cons (ev_pair (ev_str (md := .F)) (ev_isX (xa := p0.a) (xc := p0.c) (cs := XC) (ts := XT) (mr := .F) (T := "NoFace") rfl (by decide))) (el_cons (ev_pair (ev_str (md := .F)) (ev_isX (xa := p0.a) (xc := p0.c) (cs := XC) (ts := XT) (mr := .F) (T := "Taken") rfl (by decide))) (el_nil (α := (Str × Bool)))))))) (fun v39 => (run_asgN (en_cat (es_ow rfl) (es_N (en_lst (el_cons (ev_pair (ev_str (md := .F)) (ev_isX (xa := p0.a) (xc := p0.c) (cs := XC) (ts := XT) (mr := .F) (T := "Bridge") rfl (by decide))) (el_cons (ev_pair (ev_str (md := .F)) (ev_isX (xa := p0.a) (xc := p0.c) (cs := XC) (ts := XT) (mr := .F) (T := "Loop") rfl (by decide))) (el_nil (α := (Str × Bool)))))))) (fun v47 => (run_asgN (en_cat (es_ow rfl) (es_N (en_lst (el_cons (ev_pair (ev_str (md := .F)) (ev_isX (xa := p0.a) (xc := p0.c) (cs := XC) (ts := XT) (mr := .F) (T := "NoText") rfl (by decide))) (el_cons (ev_pair (ev_str (md := .F)) (ev_isX (xa := p0.a) (xc := p0.c) (cs := XC) (ts := XT) (mr := .F) (T := "NoRow") rfl (by decide))) (el_nil (α := (Str × Bool)))))))) (fun v55 => (run_asgN (en_lc (te := (tOp (rIxT G.K) (tVar 3) (tC (.int 0)))) (bind := fun (x : (Str × Bool)) (r : Evr) => (r.set 3 (some (.fz x)))) (ew_S (es_ow rfl) tg_F) (fun y56 => (evT_B (ev_p2 (ev_fz rfl)))) (fun y56 => (ev_p1 (ev_fz rfl)))) (fun v57 => (run_ifS (evT_or (evT_T (ev_ne (mr := .F) (ev_len (mr := .F) (ev_ow rfl)) (ev_int (md := .F)))) (evT_not (evT_B (ev_isXv (xa := p0.a) (xc := p0.c) (cs := XC) (ts := XT) (mr := .F) rfl)))) (run_cutR (run_ret (ev_str (md := .F)))) (run_skip (run_ret (ev_ixS (es_ow rfl) (ev_int (md := .F))))))))))))))))))))))
  exact h
theorem ecx__law_which {G : Gb} {B : Hp} {E : XK} {ρ : Evr} {i : Nat} {xa : Addr} {xc : Str} (h : ρ[i]? = some (some (.fz (⟨xa, xc⟩ : Exn)))) : Ev G B E .F ρ (tCall (sp__law_which G xa (.ref (G.cl xc)) none) [] E0 (tCons (tVar i) tNil)) (M.cl (F__law_which (⟨0, xc⟩ : Exn))) := ev_callE (f := F__law_which) h
theorem run__law_which {G : Gb} [ExF G XC XT] {xa : Addr} {xl : Value} {xd : Option Addr} {vs : List V} {H : Hp} {Q : VK} {E : XK} (h : sp__law_which G xa xl xd vs H Q E) : t__law_which G xa xl xd (dEnd Q) (start n__law_which vs) H := spE_run (n := 3) (t := t__law_which G) h rfl fun x B => rn__law_which x
abbrev n__law_asked : List Str := ["_law_text_here", "_law_e"]
noncomputable def F__law_asked (p0 : Str) : M (Str × (Option (List (Str × (List Str))))) :=
  (M.tr (M.b (M.b (F_read p0) fun x5 => (M.ok (some x5))) fun x6 => (M.ok ((Str.ofString ""), x6))) fun xc2 => M.chk (xc2 ∈ XC ∧ excIs xc2 "NetError" = true) (M.b (M.cl (F__law_which (⟨0, xc2⟩ : Exn))) fun x7 => (M.ok (x7, (none : (Option (List (Str × (List Str)))))))))
def sp__law_asked (G : Gb) : Sp := spA G (fun (p : Str) => [.fz p]) (rpF G) (fun (p : Str) => F__law_asked p)
def t__law_asked (G : Gb) : TS :=
  (tTryAs G "NetError" 1 (fun E => (tRet (tTup (tCons (tC (.str "")) (tCons (tCall (sp_read G) [] E (tCons (tVar 0) tNil)) tNil))))) (fun xa1 xl3 xd4 => (tRet (tTup (tCons (tCall (sp__law_which G xa1 xl3 xd4) [] E0 (tCons (tVar 1) tNil)) (tCons (tC .non) tNil))))))
theorem len__law_asked {G : Gb} (vs : List V) (H : Hp) (Q : VK) (E : XK) (h : sp__law_asked G vs H Q E) : vs.length = 1 := spA_len h fun _ => rfl
theorem rn__law_asked {G : Gb} [ExF G XC XT] {B : Hp} {E : XK} (p0 : Str) : Run G B E (oR G B (rpF G)) [some (.fz p0), none] (t__law_asked G) (F__law_asked p0) := by
  have h : Run G B E (oR G B (rpF G)) [some (.fz p0), none] (t__law_asked G) _ := (run_weak (ρ' := [some (.fz p0), none]) (.keep (.drop Wk.nil)) (run_tryAs (post := fun B => oR G B (rpF G)) (ρ := [some (.fz p0), none]) (cs := XC) (ts' := XT) (T := "NetError") (i := 1) (by decide) (gnd_R antiF) rfl (fun _ _ => (run_ret (ev_pair (ev_str (md := .F)) (Ev.some (EvN.F (en_callX1 (f := F_read) (ev_fz rfl) ps_F)))))) (fun xa1 xc2 => (run_ret (ev_pair (ecx__law_which (xa := xa1) (xc := xc2) rfl) (ev_nonO (α := (List (Str × (List Str)))) (md := .F)))))))
  exact h
theorem run__law_asked {G : Gb} [ExF G XC XT] {vs : List V} {H : Hp} {Q : VK} {E : XK} (h : sp__law_asked G vs H Q E) : t__law_asked G (dEnd Q) (start n__law_asked vs) H := spA_run (n := 1) h (fun _ => rfl) fun p B => rn__law_asked p
abbrev n__law_digit : List Str := ["_law_rest", "_law_many", "_law_digit_here"]
noncomputable def F__law_digit (p0 : Int) (p1 : Int) : M (Int × Int) :=
  (M.b (M.chk (CPos p0 p1) (M.ok (p0 % p1))) fun v1 => (M.b (M.chk (CDivW p0 p1) (M.ok (p0 / p1))) fun c2 => (M.ok (v1, c2))))
def sp__law_digit (G : Gb) : Sp := spC G (fun (p : Int) => [.fz (p)]) (fun (c : Int) (p : Int) => F__law_digit c (p))
def t__law_digit (G : Gb) : TS :=
  (tSeq (tAsg (tOp qMod (tOp (rIxL G.K) (tVar 0) (tC (.int 0))) (tVar 1)) (gName 2)) (tSeq (tAsg (tOp qDiv (tOp (rIxL G.K) (tVar 0) (tC (.int 0))) (tVar 1)) (gSub (tVar 0) (tC (.int 0)) rSetL)) (tRet (tVar 2))))
theorem len__law_digit {G : Gb} (vs : List V) (H : Hp) (Q : VK) (E : XK) (h : sp__law_digit G vs H Q E) : vs.length = 2 := spC_len h fun _ => rfl
theorem rn__law_digit {G : Gb} {B : Hp} {E : XK} {pa : Addr} (p0 : Int) (p1 : Int) : Run G B E (oRC G B pa) [some (.sh (⟨pa, p0⟩ : CellO)), some (.fz p1), none] (t__law_digit G) (F__law_digit p0 p1) := by
  have h : Run G B E (oRC G B pa) [some (.sh (⟨pa, p0⟩ : CellO)), some (.fz p1), none] (t__law_digit G) _ := (run_asg (bind := fun (x : Int) (r : Evr) => (r.set 2 (some (.fz x)))) (ev_mod (mr := .F) (ev_cellGet (mr := .F) rfl) (ev_fz rfl)) tg_S (fun v1 => (run_cellSet rfl (ev_div (mr := .F) (ev_cellGet (mr := .F) rfl) (ev_fz rfl)) (fun c2 => (run_retC1 (i := 0) rfl (ev_fz rfl))))))
  exact h
theorem run__law_digit {G : Gb} {vs : List V} {H : Hp} {Q : VK} {E : XK} (h : sp__law_digit G vs H Q E) : t__law_digit G (dEnd Q) (start n__law_digit vs) H := spC_run (n := 1) h (fun _ => rfl) fun a c p B => rn__law_digit c (p)
abbrev n__law_word : List Str := ["_law_rest", "_law_signs", "_law_word_here", "_law_k"]
noncomputable def F__law_word (p0 : Int)  : M (Str × Int) :=
  (M.b (M.ok (Str.ofString "abcdefghijklmnopqrstuvwxyz0123456789")) fun v1 => (M.b (M.ok (Str.ofString "")) fun v2 => (M.b (M.b (M.cl (F__law_digit p0 (8 : Int))) fun x5 => (M.ok (((1 : Int) + x5.1), x5.2))) fun x9 => (M.b (M.b (M.chk (-(2 ^ 62) ≤ x9.1 ∧ x9.1 < 2 ^ 62) (M.ok (rng 0 x9.1))) fun x25 => (M.for_ (fun (s10 : Str × Int) (x11 : Int) => (M.b (M.b (M.b (M.cl (F__law_digit s10.2 (36 : Int))) fun x14 => (M.b (M.chk (v1.length ≤ sizeLine) (M.b (M.get (atI v1.cps.toList x14.1)) fun c => M.ok (⟨#[c]⟩ : Str))) fun x16 => (M.ok (x16, x14.2)))) fun x19 => (M.b (M.chk (s10.1.length + x19.1.length ≤ sizeLine) (M.ok (s10.1 ++ x19.1))) fun x21 => (M.ok (x21, x19.2)))) fun x24 => (M.ok (x24.1, x24.2)))) x25 (v2, x9.2))) fun s26 => (M.ok (s26.1, s26.2))))))
def sp__law_word (G : Gb) : Sp := spC G (fun (p : Unit) => []) (fun (c : Int) (p : Unit) => F__law_word c )
def t__law_word (G : Gb) : TS :=
  (tSeq (tAsg (tC (.str "abcdefghijklmnopqrstuvwxyz0123456789")) (gName 1)) (tSeq (tAsg (tC (.str "")) (gName 2)) (tSeq (tFor (iRng1 (tCons (tOp qAdd (tC (.int 1)) (tCall (sp__law_digit G) [] E0 (tCons (tVar 0) (tCons (tC (.int 8)) tNil)))) tNil)) (gName 3)
  (tAsg (tOp qCatS (tVar 2) (tOp rIxS (tVar 1) (tCall (sp__law_digit G) [] E0 (tCons (tVar 0) (tCons (tC (.int 36)) tNil))))) (gName 2)))
  (tRet (tVar 2)))))
theorem len__law_word {G : Gb} (vs : List V) (H : Hp) (Q : VK) (E : XK) (h : sp__law_word G vs H Q E) : vs.length = 1 := spC_len h fun _ => rfl
theorem rn__law_word {G : Gb} {B : Hp} {E : XK} {pa : Addr} (p0 : Int)  : Run G B E (oRC G B pa) [some (.sh (⟨pa, p0⟩ : CellO)), none, none, none] (t__law_word G) (F__law_word p0) := by
  have h : Run G B E (oRC G B pa) [some (.sh (⟨pa, p0⟩ : CellO)), none, none, none] (t__law_word G) _ := (run_asg (bind := fun (x : Str) (r : Evr) => (r.set 1 (some (.fz x)))) (ev_str (md := .F)) tg_S (fun v1 => (run_asg (bind := fun (x : Str) (r : Evr) => (r.set 2 (some (.fz x)))) (ev_str (md := .F)) tg_S (fun v2 => (run_forArgS (EvX.opC (ex_callC1 (f := fun c p => F__law_digit c p) rfl (ev_int (md := .F))) (fun a3 s4 => (EvX.ofS (EX := fun (s6 : Int) => [some (.sh (⟨pa, s6⟩ : CellO)), some (.fz v1), some (.fz v2), none]) s4 (ev_add (mr := .F) (ev_int (md := .F)) (ev_K (md := .F) a3))))) (fun a7 s8 => (run_seq (EX := fun (s : Str × Int) => [some (.sh (⟨pa, s.2⟩ : CellO)), some (.fz v1), some (.fz s.1), none]) (run_for (bind := fun (x : Int) (r : Evr) => (r.set 3 (some (.fz x)))) (s0 := (v2, s8)) (ew_rng1 (ev_int (md := .F)) tg_S) (.keep (.keep (.keep (.drop Wk.nil)))) (fun s10 x11 => (run_last (runX_asg (bind := fun (x : Str) (r : Evr) => (r.set 2 (some (.fz x)))) (EvX.opV ⟨_, rfl⟩ (fun _ _ _ _ R => R.def_ rfl) (EvX.opV ⟨_, rfl⟩ (fun _ _ _ _ R => R.def_ rfl) (ex_callC1 (f := fun c p => F__law_digit c p) rfl (ev_int (md := .F))) (fun a12 s13 => (EvX.ofS (EX := fun (s15 : Int) => [some (.sh (⟨pa, s15⟩ : CellO)), some (.fz v1), some (.fz s10.1), some (.fz x11)]) s13 (ev_ixStr (mr := .F) (ev_fz rfl) (ev_K (md := .F) a12))))) (fun a17 s18 => (EvX.ofS (EX := fun (s20 : Int) => [some (.sh (⟨pa, s20⟩ : CellO)), some (.fz v1), some (.fz s10.1), some (.fz x11)]) s18 (ev_catStr (mr := .F) (ev_fz rfl) (ev_K (md := .F) a17))))) tg_F (fun v22 c23 => (run_next (s := (v22, c23)) (.keep (.keep (.keep (.drop Wk.nil)))))))))) (fun s26 => (run_retC1 (i := 0) rfl (ev_fz rfl))))))))))
  exact h
theorem run__law_word {G : Gb} {vs : List V} {H : Hp} {Q : VK} {E : XK} (h : sp__law_word G vs H Q E) : t__law_word G (dEnd Q) (start n__law_word vs) H := spC_run (n := 3) h (fun _ => rfl) fun a c p B => rn__law_word c
abbrev n__law_sign : List Str := ["_law_rest", "_law_some"]
noncomputable def F__law_sign (p0 : Int)  : M (Str × Int) :=
  (M.b (M.ok (Str.ofString " !\"#$&'()*+,-./0123456789:;<=>?@ABCDEFGHIJKLMNOPQRSTUVWXYZ[\\]^_`")) fun v1 => (M.b (M.chk (v1.length + (Str.ofString "abcdefghijklmnopqrstuvwxyz{|}~").length ≤ sizeLine) (M.ok (v1 ++ (Str.ofString "abcdefghijklmnopqrstuvwxyz{|}~")))) fun v2 => (M.b (M.cl (F__law_digit p0 (2 : Int))) fun x5 => (if (decide (x5.1 = (0 : Int))) = true then (M.b (M.b (M.cl (F__law_digit x5.2 (6 : Int))) fun x8 => (M.b (M.chk ((Str.ofString " ;:Aa0").length ≤ sizeLine) (M.b (M.get (atI (Str.ofString " ;:Aa0").cps.toList x8.1)) fun c => M.ok (⟨#[c]⟩ : Str))) fun x10 => (M.ok (x10, x8.2)))) fun xr => M.ok (xr.1, xr.2)) else (M.b (M.b (M.b (M.chk (v2.length ≤ sizeLine) (M.ok ((v2.length : Nat) : Int))) fun x11 => (M.cl (F__law_digit x5.2 x11))) fun x14 => (M.b (M.chk (v2.length ≤ sizeLine) (M.b (M.get (atI v2.cps.toList x14.1)) fun c => M.ok (⟨#[c]⟩ : Str))) fun x16 => (M.ok (x16, x14.2)))) fun xr => M.ok (xr.1, xr.2))))))
def sp__law_sign (G : Gb) : Sp := spC G (fun (p : Unit) => []) (fun (c : Int) (p : Unit) => F__law_sign c )
def t__law_sign (G : Gb) : TS :=
  (tSeq (tAsg (tC (.str " !\"#$&'()*+,-./0123456789:;<=>?@ABCDEFGHIJKLMNOPQRSTUVWXYZ[\\]^_`")) (gName 1)) (tSeq (tAsg (tOp qCatS (tVar 1) (tC (.str "abcdefghijklmnopqrstuvwxyz{|}~"))) (gName 1)) (tSeq (tIfS (tTest (tOp rEq (tCall (sp__law_digit G) [] E0 (tCons (tVar 0) (tCons (tC (.int 2)) tNil))) (tC (.int 0))))
  (tRet (tOp rIxS (tC (.str " ;:Aa0")) (tCall (sp__law_digit G) [] E0 (tCons (tVar 0) (tCons (tC (.int 6)) tNil)))))
  tNext)
  (tRet (tOp rIxS (tVar 1) (tCall (sp__law_digit G) [] E0 (tCons (tVar 0) (tCons (tCB qLenS (tCons (tVar 1) tNil)) tNil))))))))
theorem len__law_sign {G : Gb} (vs : List V) (H : Hp) (Q : VK) (E : XK) (h : sp__law_sign G vs H Q E) : vs.length = 1 := spC_len h fun _ => rfl
theorem rn__law_sign {G : Gb} {B : Hp} {E : XK} {pa : Addr} (p0 : Int)  : Run G B E (oRC G B pa) [some (.sh (⟨pa, p0⟩ : CellO)), none] (t__law_sign G) (F__law_sign p0) := by
  have h : Run G B E (oRC G B pa) [some (.sh (⟨pa, p0⟩ : CellO)), none] (t__law_sign G) _ := (run_asg (bind := fun (x : Str) (r : Evr) => (r.set 1 (some (.fz x)))) (ev_str (md := .F)) tg_S (fun v1 => (run_asg (bind := fun (x : Str) (r : Evr) => (r.set 1 (some (.fz x)))) (ev_catStr (mr := .F) (ev_fz rfl) (ev_str (md := .F))) tg_S (fun v2 => (runX_ifLS (ex_callC1 (f := fun c p => F__law_digit c p) rfl (ev_int (md := .F))) (fun a3 s4 => (run_ifS (evT_T (ev_eq (mr := .F) (ev_K (md := .F) a3) (ev_int (md := .F)))) (run_cutX (run_retCX (i := 0) (cn := fun s => s) (EvX.opC (ex_callC1 (f := fun c p => F__law_digit c p) rfl (ev_int (md := .F))) (fun a6 s7 => (EvX.ofS (EX := fun (s9 : Int) => [some (.sh (⟨pa, s9⟩ : CellO)), some (.fz v2)]) s7 (ev_ixStr (mr := .F) (ev_str (md := .F)) (ev_K (md := .F) a6))))) (fun _ => rfl))) (run_skip (run_retCX (i := 0) (cn := fun s => s) (EvX.opV ⟨_, rfl⟩ (fun _ _ _ _ R => R.def_ rfl) (ex_callC1 (f := fun c p => F__law_digit c p) rfl (ev_lenStr (mr := .F) (ev_fz rfl))) (fun a12 s13 => (EvX.ofS (EX := fun (s15 : Int) => [some (.sh (⟨pa, s15⟩ : CellO)), some (.fz v2)]) s13 (ev_ixStr (mr := .F) (ev_fz rfl) (ev_K (md := .F) a12))))) (fun _ => rfl))))))))))
  exact h
theorem run__law_sign {G : Gb} {vs : List V} {H : Hp} {Q : VK} {E : XK} (h : sp__law_sign G vs H Q E) : t__law_sign G (dEnd Q) (start n__law_sign vs) H := spC_run (n := 1) h (fun _ => rfl) fun a c p B => rn__law_sign c
abbrev n__law_text : List Str := ["_law_rest", "_law_parts", "_law_k", "_law_j"]
noncomputable def F__law_text (p0 : Int)  : M (Str × Int) :=
  (M.b (M.ok ([] : (List Str))) fun v1 => (M.b (M.b (M.cl (F__law_digit p0 (4 : Int))) fun x4 => (M.ok (((1 : Int) + x4.1), x4.2))) fun x8 => (M.b (M.b (M.chk (-(2 ^ 62) ≤ x8.1 ∧ x8.1 < 2 ^ 62) (M.ok (rng 0 x8.1))) fun x39 => (M.for_ (fun (s9 : (List Str) × Int) (x10 : Int) => (M.b (M.b (M.b (M.cl (F__law_word s9.2)) fun x13 => (M.b (M.chk (x13.1.length + (Str.ofString ":").length ≤ sizeLine) (M.ok (x13.1 ++ (Str.ofString ":")))) fun x15 => (M.ok (x15, x13.2)))) fun x18 => (M.b (M.b (M.b (M.cl (F__law_digit x18.2 (5 : Int))) fun x21 => (M.b (M.chk (-(2 ^ 62) ≤ x21.1 ∧ x21.1 < 2 ^ 62) (M.ok (rng 0 x21.1))) fun x29 => (M.chk (x29.length ≤ sizeLine) (M.lcS (fun (c22 : Int) (y23 : Int) => (M.b (M.cl (F__law_word c22)) fun x26 => (M.b (M.chk ((Str.ofString " ").length + x26.1.length ≤ sizeLine) (M.ok ((Str.ofString " ") ++ x26.1))) fun x28 => (M.ok (x28, x26.2))))) x29 x21.2)))) fun x30 => M.chk ((x30.1.map (·.length)).sum + x30.1.length * (Str.ofString "").length ≤ 16777216) (M.ok (Txt.join (Str.ofString "") x30.1, x30.2))) fun x33 => (M.b (M.chk (x18.1.length + x33.1.length ≤ sizeLine) (M.ok (x18.1 ++ x33.1))) fun x35 => (M.ok (x35, x33.2))))) fun x38 => (M.chk (s9.1.length < sizeLine) (M.ok ((s9.1 ++ [x38.1]), x38.2))))) x39 (v1, x8.2))) fun s40 => (M.b (M.chk ((s40.1.map (·.length)).sum + s40.1.length * (Str.ofString "; ").length ≤ 16777216) (M.ok (Txt.join (Str.ofString "; ") s40.1))) fun x41 => (M.ok (x41, s40.2))))))
def sp__law_text (G : Gb) : Sp := spC G (fun (p : Unit) => []) (fun (c : Int) (p : Unit) => F__law_text c )
def t__law_text (G : Gb) : TS :=
  (tSeq (tAsg (tLst tNil) (gName 1)) (tSeq (tFor (iRng1 (tCons (tOp qAdd (tC (.int 1)) (tCall (sp__law_digit G) [] E0 (tCons (tVar 0) (tCons (tC (.int 4)) tNil)))) tNil)) (gName 2)
  (tDrop (tBM G.K "list" rAppend (tVar 1) (tCons (tOp qCatS (tOp qCatS (tCall (sp__law_word G) [] E0 (tCons (tVar 0) tNil)) (tC (.str ":"))) (tM1 (qJoin G.K) (tC (.str "")) (tLc (iRng1 (tCons (tCall (sp__law_digit G) [] E0 (tCons (tVar 0) (tCons (tC (.int 5)) tNil))) tNil)) (gName 3) tYes (tOp qCatS (tC (.str " ")) (tCall (sp__law_word G) [] E0 (tCons (tVar 0) tNil))) [3]))) tNil))))
  (tRet (tM1 (qJoin G.K) (tC (.str "; ")) (tVar 1)))))
theorem len__law_text {G : Gb} (vs : List V) (H : Hp) (Q : VK) (E : XK) (h : sp__law_text G vs H Q E) : vs.length = 1 := spC_len h fun _ => rfl
theorem rn__law_text {G : Gb} {B : Hp} {E : XK} {pa : Addr} (p0 : Int)  : Run G B E (oRC G B pa) [some (.sh (⟨pa, p0⟩ : CellO)), none, none, none] (t__law_text G) (F__law_text p0) := by
  have h : Run G B E (oRC G B pa) [some (.sh (⟨pa, p0⟩ : CellO)), none, none, none] (t__law_text G) _ := (run_asgN (en_nil (α := Str)) (fun v1 => (run_forArgS (EvX.opC (ex_callC1 (f := fun c p => F__law_digit c p) rfl (ev_int (md := .F))) (fun a2 s3 => (EvX.ofS (EX := fun (s5 : Int) => [some (.sh (⟨pa, s5⟩ : CellO)), some (.ow v1), none, none]) s3 (ev_add (mr := .F) (ev_int (md := .F)) (ev_K (md := .F) a2))))) (fun a6 s7 => (run_seq (EX := fun (s : (List Str) × Int) => [some (.sh (⟨pa, s.2⟩ : CellO)), some (.ow s.1), none, none]) (run_for (bind := fun (x : Int) (r : Evr) => (r.set 2 (some (.fz x)))) (s0 := (v1, s7)) (ew_rng1 (ev_int (md := .F)) tg_S) (.keep (.keep (.drop (.drop Wk.nil)))) (fun s9 x10 => (run_last (run_appendX rfl (fun _ => rfl) (EvX.opL (EvX.opL (ex_callC0 (f := fun c _ => F__law_word c) rfl) (fun a11 s12 => (EvX.ofS (EX := fun (s14 : Int) => [some (.sh (⟨pa, s14⟩ : CellO)), some (.ow s9.1), some (.fz x10), none]) s12 (ev_catStr (mr := .F) (ev_K (md := .F) a11) (ev_str (md := .F)))))) (fun a16 s17 => (EvX.opC (ex_join (md := .F) (ex_lcArg (ex_callC1 (f := fun c p => F__law_digit c p) rfl (ev_int (md := .F))) (fun a19 s20 => (ex_lc (v := 3) (EX := fun (sx : Int) => [some (.sh (⟨pa, sx⟩ : CellO)), some (.ow s9.1), some (.fz x10), none]) (fun _ => rfl) (ew_rng1 (ev_int (md := .F)) tg_S) (fun _ _ => evT_yes) (fun c22 y23 => (EvX.opC (ex_callC0 (f := fun c _ => F__law_word c) rfl) (fun a24 s25 => (EvX.ofS (EX := fun (s27 : Int) => [some (.sh (⟨pa, s27⟩ : CellO)), some (.ow s9.1), some (.fz x10), some (.fz y23)]) s25 (ev_catStr (mr := .F) (ev_str (md := .F)) (ev_K (md := .F) a24)))))))))) (fun a31 s32 => (EvX.ofS (EX := fun (s34 : Int) => [some (.sh (⟨pa, s34⟩ : CellO)), some (.ow s9.1), some (.fz x10), none]) s32 (ev_catStr (mr := .F) (ev_K (md := .F) a16) (ev_K (md := .F) a31))))))) (fun v36 c37 => (run_next (s := ((s9.1 ++ [v36]), c37)) (.keep (.keep (.drop (.drop Wk.nil)))))))))) (fun s40 => (run_retC1 (i := 0) rfl (ev_join (mr := .F) (ev_str (md := .F)) (ev_ow rfl)))))))))
  exact h
theorem run__law_text {G : Gb} {vs : List V} {H : Hp} {Q : VK} {E : XK} (h : sp__law_text G vs H Q E) : t__law_text G (dEnd Q) (start n__law_text vs) H := spC_run (n := 3) h (fun _ => rfl) fun a c p B => rn__law_text c
abbrev n__law_odd : List Str := ["_law_text_here", "_law_rest", "_law_kind", "_law_place", "_law_k"]
noncomputable def F__law_odd (p0 : Str) (p1 : Int) : M (Str × Int) :=
  (M.b (M.cl (F__law_digit p1 (10 : Int))) fun x3 => (M.b (M.b (M.b (M.chk (p0.length ≤ sizeLine) (M.ok ((p0.length : Nat) : Int))) fun x4 => (M.ok (x4 + (1 : Int)))) fun x5 => (M.cl (F__law_digit x3.2 x5))) fun x8 => (if (decide (x3.1 < (3 : Int))) = true then (M.b (M.b (M.b (M.chk (p0.length ≤ sizeLine) (M.ok (cutS p0 none (some (x8.1))))) fun a9 => (M.b (M.cl (F__law_sign x8.2)) fun x12 => (M.b (M.chk (a9.length + x12.1.length ≤ sizeLine) (M.ok (a9 ++ x12.1))) fun x14 => (M.ok (x14, x12.2))))) fun x17 => (M.b (M.b (M.chk (p0.length ≤ sizeLine) (M.ok (cutS p0 (some (x8.1)) none))) fun x18 => (M.chk (x17.1.length + x18.length ≤ sizeLine) (M.ok (x17.1 ++ x18)))) fun x20 => (M.ok (x20, x17.2)))) fun xr => M.ok (xr.1, xr.2)) else (if (decide (x3.1 < (5 : Int))) = true then (M.b (M.b (M.b (M.chk (p0.length ≤ sizeLine) (M.ok (cutS p0 none (some (x8.1))))) fun a21 => (M.b (M.cl (F__law_sign x8.2)) fun x24 => (M.b (M.chk (a21.length + x24.1.length ≤ sizeLine) (M.ok (a21 ++ x24.1))) fun x26 => (M.ok (x26, x24.2))))) fun x29 => (M.b (M.b (M.chk (p0.length ≤ sizeLine) (M.ok (cutS p0 (some ((x8.1 + (1 : Int)))) none))) fun x30 => (M.chk (x29.1.length + x30.length ≤ sizeLine) (M.ok (x29.1 ++ x30)))) fun x32 => (M.ok (x32, x29.2)))) fun xr => M.ok (xr.1, xr.2)) else (if (decide (x3.1 < (7 : Int))) = true then (M.b (M.b (M.chk (p0.length ≤ sizeLine) (M.ok (cutS p0 none (some (x8.1))))) fun x33 => (M.b (M.chk (p0.length ≤ sizeLine) (M.ok (cutS p0 (some ((x8.1 + (1 : Int)))) none))) fun x34 => (M.chk (x33.length + x34.length ≤ sizeLine) (M.ok (x33 ++ x34))))) fun x35 => (M.ok (x35, x8.2))) else (if (decide (x3.1 = (7 : Int))) = true then (M.b (M.b (M.chk (p0.length + (Str.ofString " ").length ≤ sizeLine) (M.ok (p0 ++ (Str.ofString " ")))) fun x36 => (M.b (M.chk (MulOk (Str.ofString "a") (9 : Int)) (M.ok (Txt.mul (Str.ofString "a") (9 : Int)))) fun x37 => (M.chk (x36.length + x37.length ≤ sizeLine) (M.ok (x36 ++ x37))))) fun x38 => (M.ok (x38, x8.2))) else (if (decide (x3.1 = (8 : Int))) = true then (M.b (M.b (M.b (M.cl (F__law_digit x8.2 (13 : Int))) fun x41 => (M.b (M.chk (-(2 ^ 62) ≤ x41.1 ∧ x41.1 < 2 ^ 62) (M.ok (rng 0 x41.1))) fun x44 => (M.chk (x44.length ≤ sizeLine) (M.lcS (fun (c42 : Int) (y43 : Int) => (M.cl (F__law_sign c42))) x44 x41.2)))) fun x45 => M.chk ((x45.1.map (·.length)).sum + x45.1.length * (Str.ofString "").length ≤ 16777216) (M.ok (Txt.join (Str.ofString "") x45.1, x45.2))) fun xr => M.ok (xr.1, xr.2)) else (M.ok (p0, x8.2)))))))))
def sp__law_odd (G : Gb) : Sp := spCb G F__law_odd
def t__law_odd (G : Gb) : TS :=
  (tSeq (tAsg (tCall (sp__law_digit G) [] E0 (tCons (tVar 1) (tCons (tC (.int 10)) tNil))) (gName 2)) (tSeq (tAsg (tCall (sp__law_digit G) [] E0 (tCons (tVar 1) (tCons (tOp qAdd (tCB qLenS (tCons (tVar 0) tNil)) (tC (.int 1))) tNil))) (gName 3)) (tSeq (tIfS (tTest (tOp qLt (tVar 2) (tC (.int 3))))
  (tRet (tOp qCatS (tOp qCatS (tSl rSlS (tVar 0) tNoPart (tPart (tVar 3))) (tCall (sp__law_sign G) [] E0 (tCons (tVar 1) tNil))) (tSl rSlS (tVar 0) (tPart (tVar 3)) tNoPart)))
  tNext)
  (tSeq (tIfS (tTest (tOp qLt (tVar 2) (tC (.int 5))))
  (tRet (tOp qCatS (tOp qCatS (tSl rSlS (tVar 0) tNoPart (tPart (tVar 3))) (tCall (sp__law_sign G) [] E0 (tCons (tVar 1) tNil))) (tSl rSlS (tVar 0) (tPart (tOp qAdd (tVar 3) (tC (.int 1)))) tNoPart)))
  tNext)
  (tSeq (tIfS (tTest (tOp qLt (tVar 2) (tC (.int 7))))
  (tRet (tOp qCatS (tSl rSlS (tVar 0) tNoPart (tPart (tVar 3))) (tSl rSlS (tVar 0) (tPart (tOp qAdd (tVar 3) (tC (.int 1)))) tNoPart)))
  tNext)
  (tSeq (tIfS (tTest (tOp rEq (tVar 2) (tC (.int 7))))
  (tRet (tOp qCatS (tOp qCatS (tVar 0) (tC (.str " "))) (tOp qRepS (tC (.str "a")) (tC (.int 9)))))
  tNext)
  (tSeq (tIfS (tTest (tOp rEq (tVar 2) (tC (.int 8))))
  (tRet (tM1 (qJoin G.K) (tC (.str "")) (tLc (iRng1 (tCons (tCall (sp__law_digit G) [] E0 (tCons (tVar 1) (tCons (tC (.int 13)) tNil))) tNil)) (gName 4) tYes (tCall (sp__law_sign G) [] E0 (tCons (tVar 1) tNil)) [4])))
  tNext)
  (tRet (tVar 0)))))))))
theorem len__law_odd {G : Gb} (vs : List V) (H : Hp) (Q : VK) (E : XK) (h : sp__law_odd G vs H Q E) : vs.length = 2 := spCb_len h
theorem rn__law_odd {G : Gb} {B : Hp} {E : XK} {pa : Addr} (p0 : Str) (p1 : Int) : Run G B E (oRC G B pa) [some (.fz p0), some (.sh (⟨pa, p1⟩ : CellO)), none, none, none] (t__law_odd G) (F__law_odd p0 p1) := by
  have h : Run G B E (oRC G B pa) [some (.fz p0), some (.sh (⟨pa, p1⟩ : CellO)), none, none, none] (t__law_odd G) _ := (runX_asg (bind := fun (x : Int) (r : Evr) => (r.set 2 (some (.fz x)))) (ex_callC1 (f := fun c p => F__law_digit c p) rfl (ev_int (md := .F))) tg_F (fun v1 c2 => (runX_asg (bind := fun (x : Int) (r : Evr) => (r.set 3 (some (.fz x)))) (ex_callC1 (f := fun c p => F__law_digit c p) rfl (ev_add (mr := .F) (ev_lenStr (mr := .F) (ev_fz rfl)) (ev_int (md := .F)))) tg_F (fun v6 c7 => (run_ifS (evT_T (ev_lt (mr := .F) (ev_fz rfl) (ev_int (md := .F)))) (run_cutX (run_retCX (i := 1) (cn := fun s => s) (EvX.opL (EvX.opP (ev_sliceStr (mr := .F) (ev_fz rfl) eo_none (eo_some (ev_fz rfl))) (fun a9 => (EvX.opC (ex_callC0 (f := fun c _ => F__law_sign c) rfl) (fun a10 s11 => (EvX.ofS (EX := fun (s13 : Int) => [some (.fz p0), some (.sh (⟨pa, s13⟩ : CellO)), some (.fz v1), some (.fz v6), none]) s11 (ev_catStr (mr := .F) (ev_K (md := .F) a9) (ev_K (md := .F) a10))))))) (fun a15 s16 => (EvX.ofS (EX := fun (s19 : Int) => [some (.fz p0), some (.sh (⟨pa, s19⟩ : CellO)), some (.fz v1), some (.fz v6), none]) s16 (ev_catStr (mr := .F) (ev_K (md := .F) a15) (ev_sliceStr (mr := .F) (ev_fz rfl) (eo_some (ev_fz rfl)) eo_none))))) (fun _ => rfl))) (run_skip (run_ifS (evT_T (ev_lt (mr := .F) (ev_fz rfl) (ev_int (md := .F)))) (run_cutX (run_retCX (i := 1) (cn := fun s => s) (EvX.opL (EvX.opP (ev_sliceStr (mr := .F) (ev_fz rfl) eo_none (eo_some (ev_fz rfl))) (fun a21 => (EvX.opC (ex_callC0 (f := fun c _ => F__law_sign c) rfl) (fun a22 s23 => (EvX.ofS (EX := fun (s25 : Int) => [some (.fz p0), some (.sh (⟨pa, s25⟩ : CellO)), some (.fz v1), some (.fz v6), none]) s23 (ev_catStr (mr := .F) (ev_K (md := .F) a21) (ev_K (md := .F) a22))))))) (fun a27 s28 => (EvX.ofS (EX := fun (s31 : Int) => [some (.fz p0), some (.sh (⟨pa, s31⟩ : CellO)), some (.fz v1), some (.fz v6), none]) s28 (ev_catStr (mr := .F) (ev_K (md := .F) a27) (ev_sliceStr (mr := .F) (ev_fz rfl) (eo_some (ev_add (mr := .F) (ev_fz rfl) (ev_int (md := .F)))) eo_none))))) (fun _ => rfl))) (run_skip (run_ifS (evT_T (ev_lt (mr := .F) (ev_fz rfl) (ev_int (md := .F)))) (run_cutX (run_retC1 (i := 1) rfl (ev_catStr (mr := .F) (ev_sliceStr (mr := .F) (ev_fz rfl) eo_none (eo_some (ev_fz rfl))) (ev_sliceStr (mr := .F) (ev_fz rfl) (eo_some (ev_add (mr := .F) (ev_fz rfl) (ev_int (md := .F)))) eo_none)))) (run_skip (run_ifS (evT_T (ev_eq (mr := .F) (ev_fz rfl) (ev_int (md := .F)))) (run_cutX (run_retC1 (i := 1) rfl (ev_catStr (mr := .F) (ev_catStr (mr := .F) (ev_fz rfl) (ev_str (md := .F))) (ev_repStr (mr := .F) (ev_str (md := .F)) (ev_int (md := .F)))))) (run_skip (run_ifS (evT_T (ev_eq (mr := .F) (ev_fz rfl) (ev_int (md := .F)))) (run_cutX (run_retCX (i := 1) (cn := fun s => s) (ex_join (md := .F) (ex_lcArg (ex_callC1 (f := fun c p => F__law_digit c p) rfl (ev_int (md := .F))) (fun a39 s40 => (ex_lc (v := 4) (EX := fun (sx : Int) => [some (.fz p0), some (.sh (⟨pa, sx⟩ : CellO)), some (.fz v1), some (.fz v6), none]) (fun _ => rfl) (ew_rng1 (ev_int (md := .F)) tg_S) (fun _ _ => evT_yes) (fun c42 y43 => (ex_callC0 (f := fun c _ => F__law_sign c) rfl)))))) (fun _ => rfl))) (run_skip (run_retC1 (i := 1) rfl (ev_fz rfl))))))))))))))))
  exact h
theorem run__law_odd {G : Gb} {vs : List V} {H : Hp} {Q : VK} {E : XK} (h : sp__law_odd G vs H Q E) : t__law_odd G (dEnd Q) (start n__law_odd vs) H := spCb_run (n := 3) h rfl fun a c p B => rn__law_odd p c
abbrev n_law : List Str := ["_law_script", "_law_rest", "_law_text_here", "_law_due_here", "_law_told"]
noncomputable def F_law (p0 : Scr) : M Bool :=
  (M.b (M.cl (F__law_big p0 (0 : Int))) fun c2 => (M.b (M.b (M.cl (F__law_text c2)) fun x3 => M.cl (F__law_odd x3.1 x3.2)) fun x6 => (M.b (M.cl (F__law_due x6.1)) fun v7 => (M.b (M.cl (F__law_asked x6.1)) fun v8 => (if (v7.isNone) = true then (M.ok (decide (v8.1 = (Str.ofString "NoText")))) else (if (decide (v8.1 = (Str.ofString ""))) = true then (M.b (M.get v8.2) fun x9 => (M.b (M.get v7) fun x10 => (M.cl (F__law_same x9 x10)))) else M.ok false))))))
def sp_law (G : Gb) : Sp := spA G (fun (p : Scr) => [.bw p]) (rpF G) (fun (p : Scr) => F_law p)
def t_law (G : Gb) : TS :=
  (tSeq (tAsg (tLst (tCons (tCall (sp__law_big G) [] E0 (tCons (tVar 0) (tCons (tC (.int 0)) tNil))) tNil)) (gName 1)) (tSeq (tAsg (tCall (sp__law_odd G) [] E0 (tCons (tCall (sp__law_text G) [] E0 (tCons (tVar 1) tNil)) (tCons (tVar 1) tNil))) (gName 2)) (tSeq (tAsg (tCall (sp__law_due G) [] E0 (tCons (tVar 2) tNil)) (gName 3)) (tSeq (tAsg (tCall (sp__law_asked G) [] E0 (tCons (tVar 2) tNil)) (gName 4)) (tSeq (tIfS (tTest (tOp qIsN (tVar 3) (tC .non)))
  (tRet (tOp rEq (tOp (rIxT G.K) (tVar 4) (tC (.int 0))) (tC (.str "NoText"))))
  tNext)
  (tRet (tAndV (tOp rEq (tOp (rIxT G.K) (tVar 4) (tC (.int 0))) (tC (.str ""))) (tCall (sp__law_same G) [] E0 (tCons (tOp (rIxT G.K) (tVar 4) (tC (.int 1))) (tCons (tVar 3) tNil))))))))))
theorem len_law {G : Gb} (vs : List V) (H : Hp) (Q : VK) (E : XK) (h : sp_law G vs H Q E) : vs.length = 1 := spA_len h fun _ => rfl
theorem rn_law {G : Gb} {B : Hp} {E : XK} (p0 : Scr) : Run G B E (oR G B (rpF G)) [some (.bw p0), none, none, none, none] (t_law G) (F_law p0) := by
  have h : Run G B E (oR G B (rpF G)) [some (.bw p0), none, none, none, none] (t_law G) _ := (run_cellNew (ev_call2 (f := F__law_big) (ev_bw rfl) ps_B (ev_int (md := .F)) ps_F) (fun q1 c2 => (runX_asg (bind := fun (x : Str) (r : Evr) => (r.set 2 (some (.fz x)))) (ex_callCb (i := 1) (cn := fun s => s) (EX2 := fun (sx : Int) => [some (.bw p0), some (.sh (⟨q1, sx⟩ : CellO)), none, none, none]) (f := F__law_odd) (ex_callC0 (f := fun c _ => F__law_text c) rfl) (fun _ => rfl) (fun _ _ => rfl)) tg_F (fun v4 c5 => (run_asg (bind := fun (x : (Option (List (Str × (List Str))))) (r : Evr) => (r.set 3 (some (.fz x)))) (ev_call1 (f := F__law_due) (ev_fz rfl) ps_F) tg_F (fun v7 => (run_asg (bind := fun (x : (Str × (Option (List (Str × (List Str)))))) (r : Evr) => (r.set 4 (some (.fz x)))) (ev_call1 (f := F__law_asked) (ev_fz rfl) ps_F) tg_F (fun v8 => (run_ifS (evT_T (ev_isN (mr := .F) (ev_fz rfl))) (run_cutR (run_ret (ev_eq (mr := .F) (ev_p1 (ev_fz rfl)) (ev_str (md := .F))))) (run_skip (run_ret (ev_andV (mr := .F) (ev_eq (mr := .F) (ev_p1 (ev_fz rfl)) (ev_str (md := .F))) (ev_call2 (f := F__law_same) (Ev.val (ev_p2 (ev_fz rfl))) ps_B (Ev.val (ev_fz rfl)) ps_B)))))))))))))
  exact h
theorem run_law {G : Gb} {vs : List V} {H : Hp} {Q : VK} {E : XK} (h : sp_law G vs H Q E) : t_law G (dEnd Q) (start n_law vs) H := spA_run (n := 4) h (fun _ => rfl) fun p B => rn_law p
end Tw
set_option Elab.async false
set_option linter.all false
set_option maxRecDepth 100000
set_option maxHeartbeats 4000000
namespace Tw
open PySem PySem.Spec L2 TL
open PyProof.Rows hiding St
theorem digit_T {c n : Int} {p : Int × Int → Prop} (hc : 0 ≤ c) (hn : 0 < n) (h2 : n < 2 ^ 30) (k : ∀ d c', 0 ≤ d → d < n → 0 ≤ c' → p (d, c')) : (F__law_digit c n).T p := by
  unfold F__law_digit
  exact M.T_b (M.T_chk (cpos hn) (M.T_ok (M.T_b (M.T_chk (cdiv hn h2) (M.T_ok (M.T_ok (k _ _ (Int.emod_nonneg _ (by omega)) (Int.emod_lt_of_pos _ hn) (Int.ediv_nonneg hc (by omega)))))))))
theorem one_len (c : Nat) : (⟨#[c]⟩ : Str).length = 1 := rfl
theorem at_in {l : List Nat} {d : Int} {n : Nat} (hl : l.length = n) (h0 : 0 ≤ d) (h1 : d < (n : Int)) : ∃ x, atI l d = some x := by
  obtain ⟨k, rfl⟩ : ∃ k : Nat, d = (k : Int) := ⟨d.toNat, by omega⟩
  exact ⟨_, atI_nat (List.getElem?_eq_getElem (by omega))⟩
theorem word_T {c : Int} (hc : 0 ≤ c) : (F__law_word c).T fun r => r.1.length ≤ 8 ∧ 0 ≤ r.2 := by
  unfold F__law_word
  refine M.T_b (M.T_ok (M.T_b (M.T_ok (M.T_b (M.T_b (M.T_cl (digit_T hc (by decide) (by decide) fun d c' d0 d1 h => M.T_ok ?_)))))))
  refine M.T_b (M.T_b (M.T_chk (rng_side (show -1000000000 ≤ (1 : Int) + d ∧ (1 : Int) + d ≤ 1000000000 by omega)) (M.T_ok ?_)))
  refine M.T_rng (fun k (s : Str × Int) => s.1.length ≤ k ∧ 0 ≤ s.2) ⟨Nat.le_refl 0, h⟩ (fun k s hk ⟨e1, e2⟩ => ?_) fun s ⟨e1, e2⟩ => M.T_ok ⟨Nat.le_trans e1 (show ((1 : Int) + d).toNat ≤ 8 by omega), e2⟩
  have hk' : (k : Int) < 1 + d := hk
  refine M.T_b (M.T_b (M.T_b (M.T_cl (digit_T e2 (by decide) (by decide) fun j c2 j0 j1 h2 => M.T_b (M.T_chk (line_of (by decide)) ?_)))))
  obtain ⟨x, hx⟩ := at_in (l := (Str.ofString "abcdefghijklmnopqrstuvwxyz0123456789").cps.toList) (n := 36) (by decide) j0 j1
  refine M.T_b (M.T_get hx (M.T_ok (M.T_ok (M.T_b (M.T_chk (line_of (by show s.1.length + 1 ≤ 100000; omega)) (M.T_ok (M.T_ok (M.T_ok ⟨?_, h2⟩))))))))
  show (s.1 ++ (⟨#[x]⟩ : Str)).length ≤ k + 1
  rw [str_len_app, one_len]
  omega
theorem sign_T {c : Int} (hc : 0 ≤ c) : (F__law_sign c).T fun r => r.1.length = 1 ∧ 0 ≤ r.2 := by
  unfold F__law_sign
  refine M.T_b (M.T_ok (M.T_b (M.T_chk (line_of (by decide)) (M.T_ok (M.T_b (M.T_cl (digit_T hc (by decide) (by decide) fun d c' d0 d1 h => ?_)))))))
  refine M.T_ite (fun z => ?_) fun z => ?_
  · refine M.T_b (M.T_b (M.T_cl (digit_T h (by decide) (by decide) fun j c2 j0 j1 h2 => M.T_b (M.T_chk (line_of (by decide)) ?_))))
    obtain ⟨x, hx⟩ := at_in (l := (Str.ofString " ;:Aa0").cps.toList) (n := 6) (by decide) j0 j1
    exact M.T_b (M.T_get hx (M.T_ok (M.T_ok (M.T_ok ⟨rfl, h2⟩))))
  · refine M.T_b (M.T_b (M.T_b (M.T_chk (line_of (by decide)) (M.T_ok (M.T_cl (digit_T h (by decide) (by decide) fun j c2 j0 j1 h2 => M.T_b (M.T_chk (line_of (by decide)) ?_)))))))
    obtain ⟨x, hx⟩ := at_in (l := (Str.ofString " !\"#$&'()*+,-./0123456789:;<=>?@ABCDEFGHIJKLMNOPQRSTUVWXYZ[\\]^_`" ++ Str.ofString "abcdefghijklmnopqrstuvwxyz{|}~").cps.toList) (n := (Str.ofString " !\"#$&'()*+,-./0123456789:;<=>?@ABCDEFGHIJKLMNOPQRSTUVWXYZ[\\]^_`" ++ Str.ofString "abcdefghijklmnopqrstuvwxyz{|}~").length) (str_len _).symm j0 j1
    exact M.T_b (M.T_get hx (M.T_ok (M.T_ok (M.T_ok ⟨rfl, h2⟩))))
theorem joinL_len (y : List Nat) : ∀ ps : List (List Nat), (joinL y ps).length ≤ (ps.map (·.length)).sum + ps.length * y.length
  | [] => Nat.zero_le _
  | [p] => by show p.length ≤ _; simp
  | p :: q :: r => by
    have ih := joinL_len y (q :: r)
    show (p ++ (y ++ joinL y (q :: r))).length ≤ _
    rw [List.length_append, List.length_append, List.map_cons, List.sum_cons, List.length_cons, Nat.add_mul]
    omega
theorem join_len (y : Str) (ps : List Str) : (Txt.join y ps).length ≤ (ps.map (·.length)).sum + ps.length * y.length := by
  have h := joinL_len (tl y) (ps.map tl)
  rw [← tl_join, ← join_eq, List.map_map, List.length_map] at h
  rw [str_len, str_len y]
  have e : (ps.map (·.length)) = ps.map ((·.length) ∘ tl) := List.map_congr_left fun z _ => str_len z
  rw [e]
  exact h
theorem sum_le (ps : List Str) {n : Nat} (h : ∀ z ∈ ps, z.length ≤ n) : (ps.map (·.length)).sum ≤ ps.length * n := by
  induction ps with
  | nil => exact Nat.zero_le _
  | cons z ps ih =>
    have h1 := h z List.mem_cons_self
    have h2 := ih fun y hy => h y (List.mem_cons_of_mem _ hy)
    rw [List.map_cons, List.sum_cons, List.length_cons, Nat.add_mul]
    omega
theorem M.T_lcS {α β S : Type} {e : S → α → M (β × S)} {p : β → Prop} {I : S → Prop} : ∀ {xs : List α} {s : S}, I s → (∀ s x, I s → (e s x).T fun r => p r.1 ∧ I r.2) → (M.lcS e xs s).T fun r => r.1.length = xs.length ∧ (∀ y ∈ r.1, p y) ∧ I r.2
  | [], s, h, _ => M.T_ok ⟨rfl, fun y hy => (by cases hy), h⟩
  | x :: xs, s, h, hs => by
    refine M.T_b ((hs s x h).imp fun r ⟨h1, h2⟩ => M.T_b ((M.T_lcS (xs := xs) h2 hs).imp fun q ⟨q1, q2, q3⟩ => M.T_ok ⟨by show q.1.length + 1 = xs.length + 1; rw [q1], fun y hy => ?_, q3⟩))
    rcases List.mem_cons.mp hy with z | z
    · rw [z]; exact h1
    · exact q2 y z
theorem text_T {c : Int} (hc : 0 ≤ c) : (F__law_text c).T fun r => r.1.length ≤ 1000 ∧ 0 ≤ r.2 := by
  unfold F__law_text
  refine M.T_b (M.T_ok (M.T_b (M.T_b (M.T_cl (digit_T hc (by decide) (by decide) fun d c' d0 d1 h => M.T_ok ?_)))))
  refine M.T_b (M.T_b (M.T_chk (rng_side (show -1000000000 ≤ (1 : Int) + d ∧ (1 : Int) + d ≤ 1000000000 by omega)) (M.T_ok ?_)))
  refine M.T_rng (fun k (s : List Str × Int) => s.1.length = k ∧ (∀ z ∈ s.1, z.length ≤ 100) ∧ 0 ≤ s.2) ⟨rfl, fun z hz => (by cases hz), h⟩ (fun k s hk ⟨e1, e2, e3⟩ => ?_) fun s ⟨e1, e2, e3⟩ => ?_
  · have hk' : (k : Int) < 1 + d := hk
    refine M.T_b (M.T_b (M.T_b (M.T_cl ((word_T e3).imp fun r ⟨r1, r2⟩ => M.T_b (M.T_chk (line_of (by show r.1.length + 1 ≤ 100000; omega)) (M.T_ok (M.T_ok ?_)))))))
    have la : (r.1 ++ Str.ofString ":").length ≤ 9 := by rw [str_len_app]; exact Nat.add_le_add_right r1 1
    refine M.T_b (M.T_b (M.T_b (M.T_cl (digit_T r2 (by decide) (by decide) fun j c2 j0 j1 h2 => M.T_b (M.T_chk (rng_side (show -1000000000 ≤ j ∧ j ≤ 1000000000 by omega)) (M.T_ok ?_))))))
    obtain ⟨n, rfl⟩ : ∃ n : Nat, j = (n : Int) := ⟨j.toNat, by omega⟩
    rw [rng_nat]
    refine M.T_chk (line_of (by rw [List.length_map, List.length_range]; omega)) ?_
    refine (M.T_lcS (p := fun z : Str => z.length ≤ 9) (I := fun c : Int => 0 ≤ c) h2 fun c x hc => ?_).imp fun q ⟨q1, q2, q3⟩ => ?_
    · refine M.T_b (M.T_cl ((word_T hc).imp fun r ⟨r1, r2⟩ => M.T_b (M.T_chk (line_of (by show 1 + r.1.length ≤ 100000; omega)) (M.T_ok (M.T_ok ⟨?_, r2⟩)))))
      show (Str.ofString " " ++ r.1).length ≤ 9
      rw [str_len_app]
      show 1 + r.1.length ≤ 9
      omega
    · rw [List.length_map, List.length_range] at q1
      have sl := sum_le q.1 q2
      have jl := join_len (Str.ofString "") q.1
      have z0 : (Str.ofString "").length = 0 := rfl
      rw [q1] at sl jl
      rw [z0] at jl
      have sm : (q.1.map (·.length)).sum ≤ 36 := by omega
      refine M.T_chk (by rw [z0]; omega) (M.T_ok (M.T_b (M.T_chk (line_of (by show (r.1 ++ Str.ofString ":").length + (Txt.join (Str.ofString "") q.1).length ≤ 100000; omega)) (M.T_ok (M.T_ok ?_)))))
      refine M.T_chk (line_lt (by omega)) (M.T_ok ⟨by show (s.1 ++ [_]).length = k + 1; rw [List.length_append, e1]; rfl, fun z hz => ?_, q3⟩)
      rcases List.mem_append.mp hz with w | w
      · exact e2 z w
      · rw [List.mem_singleton.mp w]
        show (r.1 ++ Str.ofString ":" ++ Txt.join (Str.ofString "") q.1).length ≤ 100
        rw [str_len_app]
        omega
  · have e1 : s.1.length = ((1 : Int) + d).toNat := e1
    have l4 : s.1.length ≤ 4 := by omega
    have sl := sum_le s.1 e2
    have jl := join_len (Str.ofString "; ") s.1
    have z2 : (Str.ofString "; ").length = 2 := rfl
    rw [z2] at jl
    have sm : (s.1.map (·.length)).sum ≤ 400 := by omega
    refine M.T_b (M.T_chk (by rw [z2]; omega) (M.T_ok (M.T_ok ⟨?_, e3⟩)))
    show (Txt.join (Str.ofString "; ") s.1).length ≤ 1000
    omega
theorem cutS_len (z : Str) (lo hi : Option Int) : (cutS z lo hi).length ≤ z.length := by
  have e : (cutS z lo hi).cps.toList = (z.cps.toList.drop (HT.sIx z.length 0 lo)).take (HT.sIx z.length z.length hi - HT.sIx z.length 0 lo) := rfl
  rw [str_len, str_len z, e]
  exact ((List.take_sublist _ _).trans (List.drop_sublist _ _)).length_le
theorem odd_T {z : Str} {c : Int} (hz : z.length ≤ 1000) (hc : 0 ≤ c) : (F__law_odd z c).T fun r => r.1.length ≤ 5000 := by
  unfold F__law_odd
  have zl : z.length ≤ sizeLine := line_of (by omega)
  refine M.T_b (M.T_cl (digit_T hc (by decide) (by decide) fun d c1 d0 d1 h1 => M.T_b (M.T_b (M.T_b (M.T_chk zl (M.T_ok (M.T_ok (M.T_cl (digit_T h1 (by show (0 : Int) < (z.length : Int) + 1; omega) (by show (z.length : Int) + 1 < 2 ^ 30; omega) fun e c2 e0 e1 h2 => ?_)))))))))
  have k1 := cutS_len z none (some e)
  have k2 := cutS_len z (some e) none
  have k3 := cutS_len z (some (e + 1)) none
  refine M.T_ite (fun _ => ?_) fun _ => M.T_ite (fun _ => ?_) fun _ => M.T_ite (fun _ => ?_) fun _ => M.T_ite (fun _ => ?_) fun _ => M.T_ite (fun _ => ?_) fun _ => M.T_ok (by show z.length ≤ 5000; omega)
  · refine M.T_b (M.T_b (M.T_b (M.T_chk zl (M.T_ok (M.T_b (M.T_cl ((sign_T h2).imp fun r ⟨r1, r2⟩ => M.T_b (M.T_chk (line_of (by show (cutS z none (some e)).length + r.1.length ≤ 100000; omega)) (M.T_ok (M.T_ok (M.T_b (M.T_b (M.T_chk zl (M.T_ok (M.T_chk (line_of ?_) (M.T_ok (M.T_ok (M.T_ok ?_))))))))))))))))))
    · show (cutS z none (some e) ++ r.1).length + (cutS z (some e) none).length ≤ 100000
      rw [str_len_app]
      omega
    · show (cutS z none (some e) ++ r.1 ++ cutS z (some e) none).length ≤ 5000
      rw [str_len_app, str_len_app]
      omega
  · refine M.T_b (M.T_b (M.T_b (M.T_chk zl (M.T_ok (M.T_b (M.T_cl ((sign_T h2).imp fun r ⟨r1, r2⟩ => M.T_b (M.T_chk (line_of (by show (cutS z none (some e)).length + r.1.length ≤ 100000; omega)) (M.T_ok (M.T_ok (M.T_b (M.T_b (M.T_chk zl (M.T_ok (M.T_chk (line_of ?_) (M.T_ok (M.T_ok (M.T_ok ?_))))))))))))))))))
    · show (cutS z none (some e) ++ r.1).length + (cutS z (some (e + 1)) none).length ≤ 100000
      rw [str_len_app]
      omega
    · show (cutS z none (some e) ++ r.1 ++ cutS z (some (e + 1)) none).length ≤ 5000
      rw [str_len_app, str_len_app]
      omega
  · refine M.T_b (M.T_b (M.T_chk zl (M.T_ok (M.T_b (M.T_chk zl (M.T_ok (M.T_chk (line_of ?_) (M.T_ok (M.T_ok ?_)))))))))
    · show (cutS z none (some e)).length + (cutS z (some (e + 1)) none).length ≤ 100000
      omega
    · show (cutS z none (some e) ++ cutS z (some (e + 1)) none).length ≤ 5000
      rw [str_len_app]
      omega
  · have m9 : (Txt.mul (Str.ofString "a") (9 : Int)).length = 9 := by decide +kernel
    have s1 : (Str.ofString " ").length = 1 := rfl
    refine M.T_b (M.T_b (M.T_chk (line_of (by rw [s1]; omega)) (M.T_ok (M.T_b (M.T_chk (mul_ok _ _ (show 1 ≤ 30 by decide) (by decide)) (M.T_ok (M.T_chk (line_of ?_) (M.T_ok (M.T_ok ?_)))))))))
    · rw [str_len_app, m9, s1]
      omega
    · show (z ++ Str.ofString " " ++ Txt.mul (Str.ofString "a") (9 : Int)).length ≤ 5000
      rw [str_len_app, str_len_app, m9, s1]
      omega
  · refine M.T_b (M.T_b (M.T_b (M.T_cl (digit_T h2 (by decide) (by decide) fun j c3 j0 j1 h3 => M.T_b (M.T_chk (rng_side (show -1000000000 ≤ j ∧ j ≤ 1000000000 by omega)) (M.T_ok ?_))))))
    obtain ⟨n, rfl⟩ : ∃ n : Nat, j = (n : Int) := ⟨j.toNat, by omega⟩
    rw [rng_nat]
    refine M.T_chk (line_of (by rw [List.length_map, List.length_range]; omega)) ?_
    refine (M.T_lcS (p := fun z : Str => z.length ≤ 1) (I := fun c : Int => 0 ≤ c) h3 fun c x hc => M.T_cl ((sign_T hc).imp fun r ⟨r1, r2⟩ => ⟨by show r.1.length ≤ 1; omega, r2⟩)).imp fun q ⟨q1, q2, q3⟩ => ?_
    rw [List.length_map, List.length_range] at q1
    have sl := sum_le q.1 q2
    have jl := join_len (Str.ofString "") q.1
    have z0 : (Str.ofString "").length = 0 := rfl
    rw [q1] at sl jl
    rw [z0] at jl
    refine M.T_chk (by rw [z0]; omega) (M.T_ok (M.T_ok ?_))
    show (Txt.join (Str.ofString "") q.1).length ≤ 5000
    omega
theorem is_name_ok {z : Str} (hz : z.length ≤ 100000) : F_is_name z = .ok (isNm z) := by
  refine M.T_is ?_
  unfold F_is_name
  have sg : (Str.ofString "abcdefghijklmnopqrstuvwxyz0123456789").cps.toList = SG := rfl
  refine M.T_b (M.T_ite (fun w => nomatch w) fun _ => M.T_ite (fun w => ?_) fun w => ?_)
  · refine M.T_ok (M.T_ite (fun _ => M.T_ok ?_) fun w => absurd rfl w)
    have e := str_empty.mp (of_decide_eq_true w)
    unfold isNm
    rw [decide_eq_false (fun q => q.1 e), Bool.false_and]
  have n0 : z.length ≠ 0 := fun q => w (decide_eq_true (str_empty.mpr q))
  refine M.T_b (M.T_chk (line_of hz) (M.T_ok (M.T_ok (M.T_ite (fun w => M.T_ok ?_) fun w => ?_))))
  · have := of_decide_eq_true w
    unfold isNm
    rw [decide_eq_false (fun q => by omega), Bool.false_and]
  have n8 : z.length ≤ 8 := by
    refine Nat.le_of_not_lt fun q => w (decide_eq_true ?_)
    omega
  have e1 : isNm z = z.cps.toList.all (fun c => decide (c ∈ SG)) := by
    unfold isNm
    rw [decide_eq_true ⟨n0, n8⟩, Bool.true_and]
  rw [e1]
  refine M.T_b (M.T_forR (fun ys _ => ∀ c ∈ ys, c.c ∈ SG) (fun c hc => by cases hc) (fun ys c zs s e I => ?_) fun s I => M.T_orRl (M.T_ok ?_))
  · refine M.T_b (M.T_b (M.T_ok (M.T_ok ?_)))
    rw [sg]
    by_cases h : c.c ∈ SG
    · rw [decide_eq_true h]
      refine M.T_ite (fun w => nomatch w) fun _ => M.T_ok fun d hd => ?_
      rcases List.mem_append.mp hd with q | q
      · exact I d q
      · rw [List.mem_singleton.mp q]; exact h
    · rw [decide_eq_false h]
      refine M.T_ite (fun _ => M.T_ok (M.T_orRr ?_)) fun w => absurd rfl w
      have hm : c ∈ z.cps.toList.map Sgn.mk := by rw [e]; simp
      obtain ⟨d, hd, rfl⟩ := List.mem_map.mp hm
      exact (List.all_eq_false.mpr ⟨d, hd, by rw [decide_eq_false h]; exact Bool.false_ne_true⟩).symm
  · exact (List.all_eq_true.mpr fun d hd => decide_eq_true (I ⟨d⟩ (List.mem_map.mpr ⟨d, hd, rfl⟩))).symm
theorem good_ok {z : Str} (hz : z.length ≤ 100000) : F__law_is_good z = .ok (isNm z) := by
  refine M.T_is ?_
  unfold F__law_is_good
  have sg : (Str.ofString "abcdefghijklmnopqrstuvwxyz0123456789").cps.toList = SG := rfl
  refine M.T_b (M.T_forR (fun ys _ => ∀ c ∈ ys, c.c ∈ SG) (fun c hc => by cases hc) (fun ys c zs s e I => ?_) fun s I => M.T_orRl (M.T_b (M.T_chk (line_of hz) (M.T_ok ?_))))
  · refine M.T_b (M.T_b (M.T_ok (M.T_ok ?_)))
    rw [sg]
    by_cases h : c.c ∈ SG
    · rw [decide_eq_true h]
      refine M.T_ite (fun w => nomatch w) fun _ => M.T_ok fun d hd => ?_
      rcases List.mem_append.mp hd with q | q
      · exact I d q
      · rw [List.mem_singleton.mp q]; exact h
    · rw [decide_eq_false h]
      refine M.T_ite (fun _ => M.T_ok (M.T_orRr ?_)) fun w => absurd rfl w
      have hm : c ∈ z.cps.toList.map Sgn.mk := by rw [e]; simp
      obtain ⟨d, hd, rfl⟩ := List.mem_map.mp hm
      unfold isNm
      rw [List.all_eq_false.mpr ⟨d, hd, by rw [decide_eq_false h]; exact Bool.false_ne_true⟩, Bool.and_false]
  · have al : z.cps.toList.all (fun c => decide (c ∈ SG)) = true := List.all_eq_true.mpr fun d hd => decide_eq_true (I ⟨d⟩ (List.mem_map.mpr ⟨d, hd, rfl⟩))
    unfold isNm
    rw [al, Bool.and_true]
    refine M.T_ite (fun w => M.T_ok ?_) fun w => M.T_ok ?_
    · have := of_decide_eq_true w
      exact decide_eq_decide.mpr ⟨fun h => ⟨by omega, by omega⟩, fun h => by omega⟩
    · refine (decide_eq_false fun h => w (decide_eq_true ?_)).symm
      omega
theorem which_ok {a : Addr} {c : Str} (h : c ∈ XC) : F__law_which ⟨a, c⟩ = .ok c := by
  have e : ∀ {α : Type} (m : M α), M.chk ((Exn.mk a c).c ∈ XC) m = m := fun m => M.chk_of h
  have e2 : ∀ {α : Type} (n : Nat) (m : M α), n ≤ 100 → M.chk (n ≤ sizeLine) m = m := fun n m q => chk_line (by omega)
  unfold F__law_which
  simp only [e, M.b_ok, List.length_cons, List.length_nil, List.cons_append, List.nil_append, Nat.zero_add, Nat.reduceAdd, e2, Nat.reduceLeDiff]
  simp only [XC, List.mem_cons, List.not_mem_nil, or_false] at h
  subst h; rfl
abbrev spS : Str := Str.ofString " "
abbrev coS : Str := Str.ofString ":"
abbrev semS : Str := Str.ofString "; "
theorem nm_free {z : Str} (h : isNm z = true) {c : Nat} (hc : c ∉ SG) : c ∉ tl z := fun w => by
  unfold isNm at h
  have := (Bool.and_eq_true _ _).mp h
  exact hc (of_decide_eq_true (List.all_eq_true.mp this.2 c w))
theorem n32 : (32 : Nat) ∉ SG := by decide
theorem n58 : (58 : Nat) ∉ SG := by decide
/-- the row of a part, as the program reads it -/
def rowOf (z : Str) : Option (Str × List Str) := match Txt.split z spS with
  | [] => none
  | w :: ws => if cutS w (some (-1)) none = coS ∧ isNm (cutS w none (some (-1))) = true ∧ ws.all isNm = true then some (cutS w none (some (-1)), ws) else none
theorem split_ne (z y : Str) : Txt.split z y ≠ [] := fun e => by
  have := split_pos z y
  rw [e] at this
  exact absurd this (by decide)
theorem part_len {z y p : Str} (h : p ∈ Txt.split z y) : p.length ≤ z.length := part_short h
theorem cutL1 {α : Type} (w : α) (ws : List α) : cutL (w :: ws) (some (1 : Int)) none = ws := by
  have e : cutL (w :: ws) (some (1 : Int)) none = ((w :: ws).drop 1).take ((w :: ws).length - 1) := by
    have h : HT.sIx (w :: ws).length 0 (some (1 : Int)) = 1 := by
      unfold HT.sIx
      simp
    unfold cutL
    rw [h]
    rfl
  rw [e]
  simp
theorem forN {ws : List Str} (h : ∀ w ∈ ws, w.length ≤ 100000) : M.for_ (fun (s8 : Unit) (x9 : Str) => (M.b (M.b (M.cl (F_is_name x9)) fun x10 => (M.ok (!x10))) fun x11 => (if x11 = true then (M.exc "NoText") else (M.ok ())))) ws () = if ws.all isNm = true then .ok () else .exc "NoText" := by
  induction ws with
  | nil => rfl
  | cons w r ih =>
    rw [M.for_cons, is_name_ok (h w List.mem_cons_self), List.all_cons]
    cases e : isNm w with
    | true =>
      rw [Bool.true_and]
      exact ih fun y hy => h y (List.mem_cons_of_mem _ hy)
    | false => rfl
theorem row_ok {z : Str} (hz : z.length ≤ 5000) : F_row_in z = match rowOf z with
    | some r => .ok r
    | none => .exc "NoText" := by
  unfold F_row_in rowOf
  rw [M.chk_of ⟨rfl, line_of (by omega)⟩, M.b_ok]
  cases e : Txt.split z spS with
  | nil => exact absurd e (split_ne _ _)
  | cons w ws =>
    have lw : ∀ y ∈ w :: ws, y.length ≤ 5000 := fun y hy => Nat.le_trans (part_len (by rw [e]; exact hy)) hz
    have l0 := lw w List.mem_cons_self
    have g : atI (w :: ws) (0 : Int) = some w := atI_nat (j := 0) rfl
    have c1 := cutS_len w none (some (-1))
    simp only [g, M.get_some, M.b_ok, chk_line (Nat.le_trans l0 (show 5000 ≤ 100000 by decide)), is_name_ok (show (cutS w none (some (-1))).length ≤ 100000 by omega), M.cl_ok, cutL1]
    rw [forN fun y hy => Nat.le_trans (lw y (List.mem_cons_of_mem _ hy)) (by decide)]
    by_cases h1 : cutS w (some (-1)) none = coS
    · rw [decide_eq_true h1]
      cases h2 : isNm (cutS w none (some (-1))) with
      | false =>
        rw [if_neg (c := _ ∧ _) (fun q => nomatch q.2.1)]
        rfl
      | true =>
        cases h3 : ws.all isNm with
        | false =>
          rw [if_neg (c := _ ∧ _) (fun q => nomatch q.2.2)]
          rfl
        | true =>
          rw [if_pos (c := _ ∧ _) ⟨h1, rfl, rfl⟩]
          rfl
    · rw [decide_eq_false h1, if_neg (c := _ ∧ _) (fun q => h1 q.1)]
      rfl
theorem cut_both (w : Str) : cutS w none (some (-1)) ++ cutS w (some (-1)) none = w := by
  refine ext_tl ?_
  rw [tl_append]
  have a : tl (cutS w none (some (-1))) = (tl w).take (w.length - 1) := by
    show ((tl w).drop (HT.sIx w.length 0 none)).take (HT.sIx w.length w.length (some (-1)) - HT.sIx w.length 0 none) = _
    have h0 : HT.sIx w.length 0 none = 0 := rfl
    have h1 : HT.sIx w.length w.length (some (-1)) = w.length - 1 := by
      unfold HT.sIx
      simp
      omega
    rw [h0, h1, List.drop_zero, Nat.sub_zero]
  have b : tl (cutS w (some (-1)) none) = (tl w).drop (w.length - 1) := by
    show ((tl w).drop (HT.sIx w.length 0 (some (-1)))).take (HT.sIx w.length w.length none - HT.sIx w.length 0 (some (-1))) = _
    have h0 : HT.sIx w.length w.length none = w.length := rfl
    have h1 : HT.sIx w.length 0 (some (-1)) = w.length - 1 := by
      unfold HT.sIx
      simp
      omega
    rw [h0, h1]
    exact List.take_of_length_le (by rw [List.length_drop, ← len_tl]; exact Nat.le_refl _)
  rw [a, b, List.take_append_drop]
theorem cut_of (a : Str) : cutS (a ++ coS) none (some (-1)) = a ∧ cutS (a ++ coS) (some (-1)) none = coS := by
  have h := cut_both (a ++ coS)
  have e : tl (cutS (a ++ coS) none (some (-1))) ++ tl (cutS (a ++ coS) (some (-1)) none) = tl a ++ tl coS := by rw [← tl_append, h, tl_append]
  have l1 : (tl (cutS (a ++ coS) none (some (-1)))).length = (tl a).length := by
    show (((tl (a ++ coS)).drop (HT.sIx (a ++ coS).length 0 none)).take (HT.sIx (a ++ coS).length (a ++ coS).length (some (-1)) - HT.sIx (a ++ coS).length 0 none)).length = _
    have h0 : HT.sIx (a ++ coS).length 0 none = 0 := rfl
    have h1 : HT.sIx (a ++ coS).length (a ++ coS).length (some (-1)) = (a ++ coS).length - 1 := by
      unfold HT.sIx
      simp
      omega
    rw [h0, h1, List.drop_zero, Nat.sub_zero, List.length_take, str_len_app, tl_append, List.length_append, ← len_tl]
    show min (a.length + 1 - 1) (a.length + 1) = _
    rw [Nat.add_sub_cancel]
    exact Nat.min_eq_left (by omega)
  obtain ⟨q1, q2⟩ := List.append_inj e l1
  exact ⟨ext_tl q1, ext_tl q2⟩
theorem join_head (y a b : Str) (l : List Str) : Txt.join y ((a ++ b) :: l) = a ++ Txt.join y (b :: l) := by
  rw [join_eq, join_eq]
  refine ext_tl ?_
  rw [tl_join, tl_append, tl_join]
  cases l with
  | nil => exact tl_append a b
  | cons c r =>
    show tl (a ++ b) ++ (tl y ++ _) = tl a ++ (tl b ++ (tl y ++ _))
    rw [tl_append, List.append_assoc]
theorem app_empty (a : Str) : a ++ Str.ofString "" = a := ext_tl (by rw [tl_append]; exact List.append_nil _)
theorem row_text (pt : Str) (ws : List Str) : Txt.join spS ((pt ++ coS) :: ws) = pt ++ coS ++ Txt.join spS (Str.ofString "" :: ws) := by
  have h := join_head spS (pt ++ coS) (Str.ofString "") ws
  rw [app_empty] at h
  exact h
theorem join_split' (x : Str) : Txt.join spS (Txt.split x spS) = x := by
  rw [join_eq]
  exact PySem.StrLaws.join_split x spS
theorem split_of {parts : List Str} (hne : parts ≠ []) (hp : ∀ p ∈ parts, 32 ∉ tl p) : Txt.split (Txt.join spS parts) spS = parts := split_join (s := 32) (S := []) rfl (by decide +kernel) hne hp
/-- it writes a row -/
def Wr (z pt : Str) (ws : List Str) : Prop := z = Txt.join spS ((pt ++ coS) :: ws) ∧ isNm pt = true ∧ ∀ w ∈ ws, isNm w = true
theorem wr_of {z : Str} {r : Str × List Str} (h : rowOf z = some r) : Wr z r.1 r.2 := by
  unfold rowOf at h
  cases e : Txt.split z spS with
  | nil => rw [e] at h; cases h
  | cons w ws =>
    rw [e] at h
    dsimp only at h
    split at h
    · rename_i q
      cases h
      refine ⟨?_, q.2.1, List.all_eq_true.mp q.2.2⟩
      have := cut_both w
      rw [q.1] at this
      show z = Txt.join spS ((cutS w none (some (-1)) ++ coS) :: ws)
      rw [this, ← e, join_split']
    · cases h
theorem of_wr {z pt : Str} {ws : List Str} (h : Wr z pt ws) : rowOf z = some (pt, ws) := by
  obtain ⟨e, h1, h2⟩ := h
  have s : Txt.split z spS = (pt ++ coS) :: ws := by
    rw [e]
    refine split_of (List.cons_ne_nil _ _) fun p hp => ?_
    rcases List.mem_cons.mp hp with q | q
    · rw [q, tl_append]
      intro w
      rcases List.mem_append.mp w with w | w
      · exact nm_free h1 n32 w
      · exact absurd w (by decide)
    · exact nm_free (h2 p q) n32
  unfold rowOf
  rw [s]
  dsimp only
  rw [if_pos ⟨(cut_of pt).2, by rw [(cut_of pt).1]; exact h1, List.all_eq_true.mpr h2⟩, (cut_of pt).1]
theorem part_wr {z pt : Str} {ws : List Str} (h : Wr z pt ws) : Txt.partition z coS = (pt, coS, Txt.join spS (Str.ofString "" :: ws)) ∧ Txt.split (Txt.join spS (Str.ofString "" :: ws)) spS = Str.ofString "" :: ws := by
  obtain ⟨e, h1, h2⟩ := h
  refine ⟨?_, split_of (List.cons_ne_nil _ _) fun p hp => ?_⟩
  · rw [e, row_text]
    exact partition_app (s := 58) (S := []) rfl (nm_free h1 n58)
  · rcases List.mem_cons.mp hp with q | q
    · rw [q]
      exact fun w => nomatch w
    · exact nm_free (h2 p q) n32
/-- what the law's own reading finds is a row -/
theorem wr_part {z pt rs : Str} {c : Str} {ws : List Str} (h : Txt.partition z coS = (pt, c, rs)) (hc : c ≠ Str.ofString "") (h1 : isNm pt = true) (hs : Txt.split rs spS = Str.ofString "" :: ws) (h2 : ∀ w ∈ ws, isNm w = true) : Wr z pt ws := by
  refine ⟨?_, h1, h2⟩
  by_cases m : 58 ∈ tl z
  · obtain ⟨a, b, e, na⟩ := List.eq_append_cons_of_mem m
    have ez : z = (⟨a.toArray⟩ : Str) ++ coS ++ (⟨b.toArray⟩ : Str) := ext_tl (by rw [tl_append, tl_append, e, List.append_assoc]; rfl)
    have p := partition_app (y := coS) (s := 58) (S := []) rfl (a := ⟨a.toArray⟩) (b := ⟨b.toArray⟩) na
    rw [← ez, h] at p
    injection p with p1 p2
    injection p2 with p2 p3
    rw [row_text, ← hs, join_split', ez, p1, p3]
  · have p := partition_none (y := coS) (s := 58) (S := []) rfl m
    rw [h] at p
    injection p with p1 p2
    injection p2 with p2 p3
    exact absurd p2 hc
/-- the rows of the parts -/
def rowsOf : List Str → Option RowsT
  | [] => some []
  | p :: r => (rowOf p).bind fun x => (rowsOf r).map (x :: ·)
theorem read_lc : ∀ {ps : List Str}, (∀ p ∈ ps, p.length ≤ 5000) → M.lc (fun (y1 : Str) => (M.ok true)) (fun (y1 : Str) => (F_row_in y1)) ps = match rowsOf ps with
    | some R => .ok R
    | none => .exc "NoText"
  | [], _ => rfl
  | p :: r, h => by
    show M.b (.ok true) _ = _
    rw [M.b_ok, if_pos rfl]
    show M.b (F_row_in p) _ = _
    rw [row_ok (h p List.mem_cons_self), read_lc fun q hq => h q (List.mem_cons_of_mem _ hq), show rowsOf (p :: r) = (rowOf p).bind fun x => (rowsOf r).map (x :: ·) from rfl]
    cases rowOf p with
    | none => rfl
    | some x =>
      cases rowsOf r with
      | none => rfl
      | some R => rfl
theorem forG {ws : List Str} (h : ∀ w ∈ ws, w.length ≤ 100000) : M.forR (fun (s9 : Unit) (x10 : Str) => (M.b (M.b (M.cl (F__law_is_good x10)) fun x11 => (M.ok (!x11))) fun x12 => (if x12 = true then (M.ok (.inr (none : (Option (List (Str × (List Str))))))) else (M.ok (.inl ()))))) ws () = if ws.all isNm = true then .ok (.inl ()) else .ok (.inr none) := by
  induction ws with
  | nil => rfl
  | cons w r ih =>
    rw [M.forR_cons, good_ok (h w List.mem_cons_self), List.all_cons]
    cases e : isNm w with
    | true =>
      rw [Bool.true_and]
      exact ih fun y hy => h y (List.mem_cons_of_mem _ hy)
    | false => rfl
noncomputable def dueStep (s2 : RowsT) (x3 : Str) : M (RowsT ⊕ Option RowsT) := (M.b (M.chk (((Str.ofString ":").length == 0) = false ∧ x3.length ≤ sizeLine) (M.ok (T3.mk (Txt.partition x3 (Str.ofString ":")).1 (Txt.partition x3 (Str.ofString ":")).2.1 (Txt.partition x3 (Str.ofString ":")).2.2))) fun v4 => (M.b (M.chk (((Str.ofString " ").length == 0) = false ∧ v4.c.length + 2 ≤ sizeLine) (M.ok (Txt.split v4.c (Str.ofString " ")))) fun v5 => (M.b (if (decide (v4.b = (Str.ofString ""))) = true then M.ok true else (M.b (M.b (M.cl (F__law_is_good v4.a)) fun x6 => (M.ok (!x6))) fun x8 => (if x8 = true then M.ok true else (M.b (M.get (atI v5 (0 : Int))) fun x7 => (M.ok (!decide (x7 = (Str.ofString "")))))))) fun x15 => (if x15 = true then (M.ok (.inr (none : (Option (List (Str × (List Str))))))) else (M.b (M.forR (fun (s9 : Unit) (x10 : Str) => (M.b (M.b (M.cl (F__law_is_good x10)) fun x11 => (M.ok (!x11))) fun x12 => (if x12 = true then (M.ok (.inr (none : (Option (List (Str × (List Str))))))) else (M.ok (.inl ()))))) (cutL v5 (some ((1 : Int))) none) ()) (M.orC fun s13 => (M.b (M.ok (v4.a, (cutL v5 (some ((1 : Int))) none))) fun a14 => M.chk (s2.length < sizeLine) (M.ok (.inl (s2 ++ [a14]))))))))))
theorem due_step {s : RowsT} {z : Str} (hz : z.length ≤ 5000) (hs : s.length < 100000) : dueStep s z = match rowOf z with
    | some r => .ok (.inl (s ++ [r]))
    | none => .ok (.inr none) := by
  unfold dueStep
  rw [M.chk_of ⟨rfl, line_of (by omega)⟩, M.b_ok]
  have pz := fact_partition z coS
  generalize e : Txt.partition z coS = q at pz
  obtain ⟨pt, c, rs⟩ := q
  dsimp only at pz ⊢
  rw [M.chk_of ⟨rfl, line_of (by omega)⟩, M.b_ok]
  have sl : ∀ y ∈ Txt.split rs spS, y.length ≤ 100000 := fun y hy => Nat.le_trans (part_len hy) (by omega)
  cases es : Txt.split rs spS with
  | nil => exact absurd es (split_ne _ _)
  | cons w ws =>
  rw [es] at sl
  have g : atI (w :: ws) (0 : Int) = some w := atI_nat (j := 0) rfl
  simp only [g, M.get_some, M.b_ok, good_ok (show pt.length ≤ 100000 by omega), M.cl_ok, cutL1]
  have fg := forG (ws := ws) fun y hy => sl y (List.mem_cons_of_mem _ hy)
  by_cases hc : c = Str.ofString ""
  · rw [if_pos (decide_eq_true hc)]
    cases r : rowOf z with
    | some r =>
      have := (part_wr (wr_of r)).1
      rw [e] at this
      injection this with _ p2
      injection p2 with p2 _
      rw [hc] at p2
      exact absurd p2 (by decide)
    | none => rfl
  rw [if_neg (fun w => hc (of_decide_eq_true w))]
  cases h1 : isNm pt with
  | false =>
    cases r : rowOf z with
    | some r =>
      have := (part_wr (wr_of r)).1
      rw [e] at this
      injection this with p1 _
      have k := (wr_of r).2.1
      rw [← p1, h1] at k
      cases k
    | none => rfl
  | true =>
  by_cases h0 : w = Str.ofString ""
  · subst h0
    rw [decide_eq_true rfl]
    show M.b (M.b (.ok false) _) _ = _
    rw [M.b_ok, M.b_ok, if_neg Bool.false_ne_true, fg]
    cases h2 : ws.all isNm with
    | true =>
      rw [of_wr (wr_part e hc h1 es (List.all_eq_true.mp h2)), if_pos rfl]
      show M.chk (s.length < sizeLine) (M.ok (Sum.inl (s ++ [(pt, ws)]))) = _
      rw [chk_lt (by omega)]
    | false =>
      cases r : rowOf z with
      | some r =>
        obtain ⟨k1, k2⟩ := part_wr (wr_of r)
        rw [e] at k1
        injection k1 with p1 p2
        injection p2 with p2 p3
        rw [← p3, es] at k2
        injection k2 with _ k3
        have := List.all_eq_true.mpr (wr_of r).2.2
        rw [← k3, h2] at this
        cases this
      | none => rfl
  · rw [decide_eq_false h0]
    show M.b (.ok true) _ = _
    rw [M.b_ok, if_pos rfl]
    cases r : rowOf z with
    | some r =>
      obtain ⟨k1, k2⟩ := part_wr (wr_of r)
      rw [e] at k1
      injection k1 with p1 p2
      injection p2 with p2 p3
      rw [← p3, es] at k2
      injection k2 with k3 _
      exact absurd k3 h0
    | none => rfl
theorem due_for : ∀ {ps : List Str} {s : RowsT}, (∀ p ∈ ps, p.length ≤ 5000) → s.length + ps.length ≤ 50000 → M.forR dueStep ps s = match rowsOf ps with
    | some R => .ok (.inl (s ++ R))
    | none => .ok (.inr none)
  | [], s, _, _ => by
    show _ = (M.ok (.inl (s ++ [])) : M (RowsT ⊕ Option RowsT))
    rw [List.append_nil]
    rfl
  | p :: r, s, h, hl => by
    rw [List.length_cons] at hl
    rw [M.forR_cons, due_step (h p List.mem_cons_self) (by omega), show rowsOf (p :: r) = (rowOf p).bind fun x => (rowsOf r).map (x :: ·) from rfl]
    cases e : rowOf p with
    | none => rfl
    | some x =>
      show M.forR dueStep r (s ++ [x]) = _
      rw [due_for (fun q hq => h q (List.mem_cons_of_mem _ hq)) (by rw [List.length_append, List.length_singleton]; omega)]
      cases rowsOf r with
      | none => rfl
      | some R =>
        show (M.ok (.inl (s ++ [x] ++ R)) : M (RowsT ⊕ Option RowsT)) = M.ok (.inl (s ++ x :: R))
        rw [List.append_assoc]
        rfl
theorem parts_small {z : Str} (hz : z.length ≤ 5000) : (∀ p ∈ Txt.split z semS, p.length ≤ 5000) ∧ (Txt.split z semS).length ≤ 5002 := ⟨fun p hp => Nat.le_trans (part_len hp) hz, Nat.le_trans (split_le z semS) (by omega)⟩
theorem due_ok {z : Str} (hz : z.length ≤ 5000) : F__law_due z = .ok (rowsOf (Txt.split z semS)) := by
  obtain ⟨h1, h2⟩ := parts_small hz
  have e : F__law_due z = M.b (.ok ([] : RowsT)) fun v1 => M.b (M.b (M.chk ((semS.length == 0) = false ∧ z.length + 2 ≤ sizeLine) (.ok (Txt.split z semS))) fun x16 => M.forR dueStep x16 v1) (M.orR fun s17 => .ok (some s17)) := rfl
  rw [e, M.b_ok, M.chk_of ⟨rfl, line_of (by omega)⟩, M.b_ok, due_for h1 (by rw [List.length_nil]; omega)]
  cases rowsOf (Txt.split z semS) with
  | none => rfl
  | some R => rfl
theorem read_ok {z : Str} (hz : z.length ≤ 5000) : F_read z = match rowsOf (Txt.split z semS) with
    | some R => .ok R
    | none => .exc "NoText" := by
  obtain ⟨h1, h2⟩ := parts_small hz
  unfold F_read
  rw [M.chk_of ⟨rfl, line_of (by omega)⟩, M.b_ok, chk_line (show (Txt.split z semS).length ≤ 100000 by omega), read_lc h1]
theorem rowsOf_nm : ∀ {ps : List Str} {R : RowsT}, rowsOf ps = some R → R.length = ps.length ∧ ∀ x ∈ R, isNm x.1 = true ∧ ∀ t ∈ x.2, isNm t = true
  | [], R, h => by cases h; exact ⟨rfl, fun x hx => by cases hx⟩
  | p :: r, R, h => by
    rw [show rowsOf (p :: r) = (rowOf p).bind fun x => (rowsOf r).map (x :: ·) from rfl] at h
    cases e : rowOf p with
    | none => rw [e] at h; cases h
    | some x =>
      cases e2 : rowsOf r with
      | none => rw [e, e2] at h; cases h
      | some R2 =>
        rw [e, e2] at h
        cases h
        obtain ⟨k1, k2⟩ := rowsOf_nm e2
        refine ⟨by rw [List.length_cons, List.length_cons, k1], fun y hy => ?_⟩
        rcases List.mem_cons.mp hy with q | q
        · rw [q]; exact (wr_of e).2
        · exact k2 y q
theorem same_ok {rows : RowsT} (hl : rows.length ≤ 10000) (ok : Dd.Ok rows) : F__law_same rows rows = .ok true := by
  refine M.T_is ?_
  unfold F__law_same
  refine M.T_b (M.T_ok ?_)
  rw [decide_eq_true rfl]
  refine M.T_ite (fun z => nomatch z) fun _ => M.T_b (M.T_b (M.T_chk (rng_side (by omega)) (M.T_ok ?_)))
  refine M.T_forR (p := fun c => c = .inl ()) (fun _ _ => True) trivial (fun ys x zs s e _ => ?_) (fun s _ => rfl) |>.imp fun c hc => by subst hc; exact M.T_orRl (M.T_ok rfl)
  have hx : x ∈ rng 0 ((rows.length : Nat) : Int) := by rw [e]; simp
  rw [rng_nat] at hx
  obtain ⟨k, hk, rfl⟩ := List.mem_map.mp hx
  have hk := List.mem_range.mp hk
  have g0 : atI rows (k : Int) = some rows[k] := atI_nat (List.getElem?_eq_getElem hk)
  have okr := ok _ (List.getElem_mem hk)
  refine M.T_b (M.T_get g0 (M.T_b (M.T_ok (M.T_ite (fun z => absurd z (by decide)) fun _ => M.T_b (M.T_b (M.T_b (M.T_b (M.T_get g0 (M.T_ok (M.T_ok ?_))))))))))
  rw [decide_eq_true rfl]
  refine M.T_ite (fun z => nomatch z) fun _ => M.T_b (M.T_b (M.T_get g0 (M.T_ok (M.T_chk ⟨okr.2, okr.2⟩ (M.T_ok ?_)))))
  rw [decide_eq_true rfl]
  exact M.T_ite (fun z => nomatch z) fun _ => M.T_ok trivial
theorem law_true (ns : List Int) (hl : ns.length ≤ 63) : F_law ⟨ns⟩ = .ok true := by
  refine M.T_is ?_
  unfold F_law
  refine M.T_b (M.T_cl (big_T (by decide) fun c hc => M.T_b (M.T_b (M.T_cl ((text_T hc).imp fun r hr => M.T_cl ((odd_T hr.1 hr.2).imp fun z hz => ?_))))))
  have hx : Str.ofString "NoText" ∈ XC := List.mem_cons_self
  refine M.T_b (M.T_cl (M.T_of (due_ok hz) ?_))
  cases e : rowsOf (Txt.split z.1 semS) with
  | none =>
    have a : F__law_asked z.1 = .ok (Str.ofString "NoText", none) := by
      unfold F__law_asked
      rw [read_ok hz, e]
      show M.chk _ _ = _
      rw [M.chk_of ⟨hx, by decide⟩, which_ok hx]
      rfl
    refine M.T_b (M.T_cl (M.T_of a (M.T_ite (fun _ => M.T_ok ?_) fun w => absurd rfl w)))
    exact decide_eq_true rfl
  | some R =>
    have a : F__law_asked z.1 = .ok (Str.ofString "", some R) := by
      unfold F__law_asked
      rw [read_ok hz, e]
      rfl
    obtain ⟨k1, k2⟩ := rowsOf_nm e
    have k3 := (parts_small hz).2
    refine M.T_b (M.T_cl (M.T_of a (M.T_ite (fun w => nomatch w) fun _ => M.T_ite (fun _ => ?_) fun w => absurd (decide_eq_true rfl) w)))
    refine M.T_b (M.T_get rfl (M.T_b (M.T_get rfl (M.T_cl (M.T_of (same_ok (by omega) fun x hx => ?_) rfl)))))
    exact ⟨nm_okS (k2 x hx).1, fun t ht => nm_okS ((k2 x hx).2 t ht)⟩
end Tw
namespace Tw
open PySem PySem.Spec L2
open PyProof.Rows hiding St
def topS (i : Nat) : Stmt := PySem.Challenge.pw_threewebs_k81_texts_judged.main.body.getD i (.Pass ⟨0, 0, 0, 0⟩)
def clOf (K : PySem.W.Frag) (n : Str) : Addr := match PySem.W.nsIn K mainGlobals n with | some (some (.ref a)) => a | _ => 0
abbrev gb (K : PySem.W.Frag) : Gb := ⟨K, clOf K⟩
abbrev s__law_cell_at : Stmt := topS 24
abbrev n2__law_cell_at : List Str := ["_law_script", "_law_k"]
theorem sc__law_cell_at : FnScope n2__law_cell_at ["_law_script", "_law_k"] (defScope s__law_cell_at) := ⟨rfl, rfl, rfl, by decide +kernel, rfl, by decide +kernel, by decide +kernel⟩
abbrev s__law_big : Stmt := topS 25
abbrev n2__law_big : List Str := ["_law_script", "_law_at", "_law_by", "_law_prime", "_law_cell", "_law_big_here", "_law_k", "_law_one"]
theorem sc__law_big : FnScope n2__law_big ["_law_script", "_law_at"] (defScope s__law_big) := ⟨rfl, rfl, rfl, by decide +kernel, rfl, by decide +kernel, by decide +kernel⟩
abbrev s__law_digit : Stmt := topS 28
abbrev n2__law_digit : List Str := ["_law_rest", "_law_many", "_law_digit_here"]
theorem sc__law_digit : FnScope n2__law_digit ["_law_rest", "_law_many"] (defScope s__law_digit) := ⟨rfl, rfl, rfl, by decide +kernel, rfl, by decide +kernel, by decide +kernel⟩
abbrev s__law_sign : Stmt := topS 30
abbrev n2__law_sign : List Str := ["_law_rest", "_law_some"]
theorem sc__law_sign : FnScope n2__law_sign ["_law_rest"] (defScope s__law_sign) := ⟨rfl, rfl, rfl, by decide +kernel, rfl, by decide +kernel, by decide +kernel⟩
abbrev s__law_odd : Stmt := topS 32
abbrev n2__law_odd : List Str := ["_law_text_here", "_law_rest", "_law_kind", "_law_place", "_law_k"]
theorem sc__law_odd : FnScope n2__law_odd ["_law_text_here", "_law_rest"] (defScope s__law_odd) := ⟨rfl, rfl, rfl, by decide +kernel, rfl, by decide +kernel, by decide +kernel⟩
abbrev s__law_word : Stmt := topS 29
abbrev n2__law_word : List Str := ["_law_rest", "_law_signs", "_law_word_here", "_law_k"]
theorem sc__law_word : FnScope n2__law_word ["_law_rest"] (defScope s__law_word) := ⟨rfl, rfl, rfl, by decide +kernel, rfl, by decide +kernel, by decide +kernel⟩
abbrev s__law_text : Stmt := topS 31
abbrev n2__law_text : List Str := ["_law_rest", "_law_parts", "_law_k", "_law_j"]
theorem sc__law_text : FnScope n2__law_text ["_law_rest"] (defScope s__law_text) := ⟨rfl, rfl, rfl, by decide +kernel, rfl, by decide +kernel, by decide +kernel⟩
abbrev s__law_is_good : Stmt := topS 33
abbrev n2__law_is_good : List Str := ["_law_name", "_law_sign_here"]
theorem sc__law_is_good : FnScope n2__law_is_good ["_law_name"] (defScope s__law_is_good) := ⟨rfl, rfl, rfl, by decide +kernel, rfl, by decide +kernel, by decide +kernel⟩
abbrev s__law_due : Stmt := topS 34
abbrev n2__law_due : List Str := ["_law_text_here", "_law_rows", "_law_part", "_law_point", "_law_colon", "_law_rest", "_law_ties", "_law_tie"]
theorem sc__law_due : FnScope n2__law_due ["_law_text_here"] (defScope s__law_due) := ⟨rfl, rfl, rfl, by decide +kernel, rfl, by decide +kernel, by decide +kernel⟩
abbrev s_is_name : Stmt := topS 19
abbrev n2_is_name : List Str := ["thing", "sign"]
theorem sc_is_name : FnScope n2_is_name ["thing"] (defScope s_is_name) := ⟨rfl, rfl, rfl, by decide +kernel, rfl, by decide +kernel, by decide +kernel⟩
abbrev s_row_in : Stmt := topS 21
abbrev n2_row_in : List Str := ["part", "words", "point", "word"]
theorem sc_row_in : FnScope n2_row_in ["part"] (defScope s_row_in) := ⟨rfl, rfl, rfl, by decide +kernel, rfl, by decide +kernel, by decide +kernel⟩
abbrev s_read : Stmt := topS 22
abbrev n2_read : List Str := ["text", "part"]
theorem sc_read : FnScope n2_read ["text"] (defScope s_read) := ⟨rfl, rfl, rfl, by decide +kernel, rfl, by decide +kernel, by decide +kernel⟩
abbrev s__law_which : Stmt := topS 27
abbrev n2__law_which : List Str := ["_law_e", "_law_kinds", "_law_met", "_law_pair"]
theorem sc__law_which : FnScope n2__law_which ["_law_e"] (defScope s__law_which) := ⟨rfl, rfl, rfl, by decide +kernel, rfl, by decide +kernel, by decide +kernel⟩
abbrev s__law_asked : Stmt := topS 35
abbrev n2__law_asked : List Str := ["_law_text_here", "_law_e"]
theorem sc__law_asked : FnScope n2__law_asked ["_law_text_here"] (defScope s__law_asked) := ⟨rfl, rfl, rfl, by decide +kernel, rfl, by decide +kernel, by decide +kernel⟩
abbrev s__law_same : Stmt := topS 26
abbrev n2__law_same : List Str := ["_law_told", "_law_due_here", "_law_k", "_law_row"]
theorem sc__law_same : FnScope n2__law_same ["_law_told", "_law_due_here"] (defScope s__law_same) := ⟨rfl, rfl, rfl, by decide +kernel, rfl, by decide +kernel, by decide +kernel⟩
abbrev s_law : Stmt := topS 36
abbrev n2_law : List Str := ["_law_script", "_law_rest", "_law_text_here", "_law_due_here", "_law_told"]
theorem sc_law : FnScope n2_law ["_law_script"] (defScope s_law) := ⟨rfl, rfl, rfl, by decide +kernel, rfl, by decide +kernel, by decide +kernel⟩
structure Top (K : PySem.W.Frag) (mg : Str → Option Value) (a : Nat → Addr) (d : Nat → FuncData) : Prop where
  f__law_cell_at : Fun K "_law_cell_at" "_law_cell_at" s__law_cell_at (a 0) (d 0)
  b__law_cell_at : Binds K (d 0) ["_law_script", "_law_k"] []
  g__law_cell_at : mg "_law_cell_at" = some (.ref (a 0))
  f__law_big : Fun K "_law_big" "_law_big" s__law_big (a 1) (d 1)
  b__law_big : Binds K (d 1) ["_law_script", "_law_at"] []
  g__law_big : mg "_law_big" = some (.ref (a 1))
  f__law_digit : Fun K "_law_digit" "_law_digit" s__law_digit (a 2) (d 2)
  b__law_digit : Binds K (d 2) ["_law_rest", "_law_many"] []
  g__law_digit : mg "_law_digit" = some (.ref (a 2))
  f__law_sign : Fun K "_law_sign" "_law_sign" s__law_sign (a 3) (d 3)
  b__law_sign : Binds K (d 3) ["_law_rest"] []
  g__law_sign : mg "_law_sign" = some (.ref (a 3))
  f__law_odd : Fun K "_law_odd" "_law_odd" s__law_odd (a 4) (d 4)
  b__law_odd : Binds K (d 4) ["_law_text_here", "_law_rest"] []
  g__law_odd : mg "_law_odd" = some (.ref (a 4))
  f__law_word : Fun K "_law_word" "_law_word" s__law_word (a 5) (d 5)
  b__law_word : Binds K (d 5) ["_law_rest"] []
  g__law_word : mg "_law_word" = some (.ref (a 5))
  f__law_text : Fun K "_law_text" "_law_text" s__law_text (a 6) (d 6)
  b__law_text : Binds K (d 6) ["_law_rest"] []
  g__law_text : mg "_law_text" = some (.ref (a 6))
  f__law_is_good : Fun K "_law_is_good" "_law_is_good" s__law_is_good (a 7) (d 7)
  b__law_is_good : Binds K (d 7) ["_law_name"] []
  g__law_is_good : mg "_law_is_good" = some (.ref (a 7))
  f__law_due : Fun K "_law_due" "_law_due" s__law_due (a 8) (d 8)
  b__law_due : Binds K (d 8) ["_law_text_here"] []
  g__law_due : mg "_law_due" = some (.ref (a 8))
  f_is_name : Fun K "is_name" "is_name" s_is_name (a 9) (d 9)
  b_is_name : Binds K (d 9) ["thing"] []
  g_is_name : mg "is_name" = some (.ref (a 9))
  f_row_in : Fun K "row_in" "row_in" s_row_in (a 10) (d 10)
  b_row_in : Binds K (d 10) ["part"] []
  g_row_in : mg "row_in" = some (.ref (a 10))
  f_read : Fun K "read" "read" s_read (a 11) (d 11)
  b_read : Binds K (d 11) ["text"] []
  g_read : mg "read" = some (.ref (a 11))
  f__law_which : Fun K "_law_which" "_law_which" s__law_which (a 12) (d 12)
  b__law_which : Binds K (d 12) ["_law_e"] []
  g__law_which : mg "_law_which" = some (.ref (a 12))
  f__law_asked : Fun K "_law_asked" "_law_asked" s__law_asked (a 13) (d 13)
  b__law_asked : Binds K (d 13) ["_law_text_here"] []
  g__law_asked : mg "_law_asked" = some (.ref (a 13))
  f__law_same : Fun K "_law_same" "_law_same" s__law_same (a 14) (d 14)
  b__law_same : Binds K (d 14) ["_law_told", "_law_due_here"] []
  g__law_same : mg "_law_same" = some (.ref (a 14))
  f_law : Fun K "law" "law" s_law (a 15) (d 15)
  b_law : Binds K (d 15) ["_law_script"] []
  g_law : mg "law" = some (.ref (a 15))
  g_NoText : mg "NoText" = some (.ref (clOf K "NoText"))
  g_NetError : mg "NetError" = some (.ref (clOf K "NetError"))
  g_NoNet : mg "NoNet" = some (.ref (clOf K "NoNet"))
  g_Broken : mg "Broken" = some (.ref (clOf K "Broken"))
  g_NoPlane : mg "NoPlane" = some (.ref (clOf K "NoPlane"))
  g_NoWalker : mg "NoWalker" = some (.ref (clOf K "NoWalker"))
  g_NoDouble : mg "NoDouble" = some (.ref (clOf K "NoDouble"))
  g_TooMany : mg "TooMany" = some (.ref (clOf K "TooMany"))
  g_NoTie : mg "NoTie" = some (.ref (clOf K "NoTie"))
  g_NoCorner : mg "NoCorner" = some (.ref (clOf K "NoCorner"))
  g_NoFace : mg "NoFace" = some (.ref (clOf K "NoFace"))
  g_Taken : mg "Taken" = some (.ref (clOf K "Taken"))
  g_Bridge : mg "Bridge" = some (.ref (clOf K "Bridge"))
  g_Loop : mg "Loop" = some (.ref (clOf K "Loop"))
  g_NoRow : mg "NoRow" = some (.ref (clOf K "NoRow"))
  xx_NoText : PySem.W.excIn K (clOf K "NoText") [.type "ValueError", .type "Exception", .type "BaseException", .type "object"] "ValueError.__new__" = true
  xk_NoText : PySem.W.keepIn K (.ref (clOf K "NoText")) = true
  xb_NoText : PySem.W.subIn K (.ref (clOf K "NoText")) (.type "BaseException") = some true
  xt_NoText : PySem.W.typeIn K (.ref (clOf K "NoText")) = some (.type "type")
  exf : ExF (gb K) XC XT
  m_ValueError : mg "ValueError" = none
  m_isinstance : mg "isinstance" = none
  m_len : mg "len" = none
  m_list : mg "list" = none
  m_range : mg "range" = none
  m_str : mg "str" = none
  m_tuple : mg "tuple" = none
  c_LONGEST : ∃ u, mg "LONGEST" = some u ∧ RelV (.int 8) u
  c_SIGNS : ∃ u, mg "SIGNS" = some u ∧ RelV (.str "abcdefghijklmnopqrstuvwxyz0123456789") u
section
variable {P : Program} {w : World} {K : PySem.W.Frag} {mg : Str → Option Value} {base : Heap} {a : Nat → Addr} {d : Nat → FuncData}
theorem ok__law_cell_at (T : Top K mg a d) : FnOk P w K mg base CX0 1 (a 0) (d 0) ["_law_script", "_law_k"] (sp__law_cell_at (gb K)) :=
  T.f__law_cell_at.ok sc__law_cell_at (fun vs H Q E h => len__law_cell_at vs H Q E h) (fun cdv A outer s H vs Q E hr h => ⟨t__law_cell_at (gb K), (pss_cons (ps_if (pt_cmpR op_lt (pv 1) (pe_callB call_len_seq (by rfl) T.m_len (by decide +kernel) (pa_cons (pv 0) pa_nil)) (nomark _))
  (pss_one (ps_ret (pe_ix ix_list (pv 0) (pv 1) (fun _ _ => rfl))))
  pss_nil)
  (pss_one (ps_ret pe_int))), run__law_cell_at h⟩)
theorem ok__law_big (T : Top K mg a d) : FnOk P w K mg base CX0 2 (a 1) (d 1) ["_law_script", "_law_at"] (sp__law_big (gb K)) :=
  T.f__law_big.ok sc__law_big (fun vs H Q E h => len__law_big vs H Q E h) (fun cdv A outer s H vs Q E hr h => ⟨t__law_big (gb K), (pss_cons (ps_set (i := 2) sc__law_big.nd rfl (by first | exact .inl rfl | exact .inr rfl) (pe_tup (pa_cons pe_int (pa_cons pe_int (pa_cons pe_int (pa_cons pe_int (pa_cons pe_int (pa_cons pe_int (pa_cons pe_int (pa_cons pe_int pa_nil))))))))))
  (pss_cons (ps_set (i := 3) sc__law_big.nd rfl (by first | exact .inl rfl | exact .inr rfl) (pe_tup (pa_cons pe_int (pa_cons pe_int (pa_cons pe_int (pa_cons pe_int (pa_cons pe_int (pa_cons pe_int (pa_cons pe_int (pa_cons pe_int pa_nil))))))))))
  (pss_cons (ps_set (i := 4) sc__law_big.nd rfl (by first | exact .inl rfl | exact .inr rfl) (pe_call (ok__law_cell_at T) (hr.mono (by decide)) (by rfl) T.g__law_cell_at T.f__law_cell_at.kp T.b__law_cell_at .nil pass0 (pa_cons (pv 0) (pa_cons (pv 1) pa_nil))))
  (pss_cons (ps_if (PW.pt (pw_and (pt_cmpR op_eq (pe_op op_mod (pv 4) pe_int) pe_int (nomark _)) (pw_and1 (pt_cmpR op_gt (pv 4) (pe_op op_pow pe_int pe_int) (nomark _)))))
  (pss_one (ps_ret (pe_op op_fdivW (pv 4) pe_int)))
  pss_nil)
  (pss_cons (ps_set (i := 5) sc__law_big.nd rfl (by first | exact .inl rfl | exact .inr rfl) pe_int)
  (pss_cons (ps_for PassesOwn.never rfl (pi_range1 (by rfl) T.m_range (pa_cons pe_int pa_nil)) (pg_name (i := 6) sc__law_big.nd rfl (by first | exact .inl rfl | exact .inr rfl))
  (pss_cons (ps_set (i := 7) sc__law_big.nd rfl (by first | exact .inl rfl | exact .inr rfl) (pe_op op_add (pe_op op_add (pe_op op_mod (pe_call (ok__law_cell_at T) (hr.mono (by decide)) (by rfl) T.g__law_cell_at T.f__law_cell_at.kp T.b__law_cell_at .nil pass0 (pa_cons (pv 0) (pa_cons (pe_op op_add (pv 1) (pe_op op_mod (pv 6) pe_int)) pa_nil))) (pe_op op_pow pe_int pe_int)) pe_int) (pe_op op_mulW (pv 6) (pv 6))))
  (pss_one (ps_set (i := 5) sc__law_big.nd rfl (by first | exact .inl rfl | exact .inr rfl) (pe_op op_add (pe_op op_mulW (pv 5) pe_int) (pe_op op_mod (pe_op op_mod (pe_op op_mulW (pv 7) (pe_ix ix_tup (pv 2) (pe_op op_mod (pv 6) pe_int) (fun _ _ => rfl))) (pe_ix ix_tup (pv 3) (pe_op op_mod (pv 6) pe_int) (fun _ _ => rfl))) pe_int))))))
  (pss_one (ps_ret (pv 5))))))))), run__law_big h⟩)
theorem ok__law_digit (T : Top K mg a d) : FnOk P w K mg base CX0 1 (a 2) (d 2) ["_law_rest", "_law_many"] (sp__law_digit (gb K)) :=
  T.f__law_digit.ok sc__law_digit (fun vs H Q E h => len__law_digit vs H Q E h) (fun cdv A outer s H vs Q E hr h => ⟨t__law_digit (gb K), (pss_cons (ps_set (i := 2) sc__law_digit.nd rfl (by first | exact .inl rfl | exact .inr rfl) (pe_op op_mod (pe_ix ix_list (pv 0) pe_int (fun _ _ => rfl)) (pv 1)))
  (pss_cons (ps_asg (pe_op op_fdivW (pe_ix ix_list (pv 0) pe_int (fun _ _ => rfl)) (pv 1)) (pg_sub (pv 0) pe_int set_list))
  (pss_one (ps_ret (pv 2))))), run__law_digit h⟩)
theorem ok__law_sign (T : Top K mg a d) : FnOk P w K mg base CX0 2 (a 3) (d 3) ["_law_rest"] (sp__law_sign (gb K)) :=
  T.f__law_sign.ok sc__law_sign (fun vs H Q E h => len__law_sign vs H Q E h) (fun cdv A outer s H vs Q E hr h => ⟨t__law_sign (gb K), (pss_cons (ps_set (i := 1) sc__law_sign.nd rfl (by first | exact .inl rfl | exact .inr rfl) pe_str)
  (pss_cons (ps_set (i := 1) sc__law_sign.nd rfl (by first | exact .inl rfl | exact .inr rfl) (pe_op op_add_str (pv 1) pe_str))
  (pss_cons (ps_if (pt_cmpR op_eq (pe_call (ok__law_digit T) (hr.mono (by decide)) (by rfl) T.g__law_digit T.f__law_digit.kp T.b__law_digit .nil pass0 (pa_cons (pv 0) (pa_cons pe_int pa_nil))) pe_int (nomark _))
  (pss_one (ps_ret (pe_ix ix_str pe_str (pe_call (ok__law_digit T) (hr.mono (by decide)) (by rfl) T.g__law_digit T.f__law_digit.kp T.b__law_digit .nil pass0 (pa_cons (pv 0) (pa_cons pe_int pa_nil))) (fun _ _ => rfl))))
  pss_nil)
  (pss_one (ps_ret (pe_ix ix_str (pv 1) (pe_call (ok__law_digit T) (hr.mono (by decide)) (by rfl) T.g__law_digit T.f__law_digit.kp T.b__law_digit .nil pass0 (pa_cons (pv 0) (pa_cons (pe_callB call_len_str (by rfl) T.m_len (by decide +kernel) (pa_cons (pv 1) pa_nil)) pa_nil))) (fun _ _ => rfl))))))), run__law_sign h⟩)
theorem ok__law_odd (T : Top K mg a d) : FnOk P w K mg base CX0 3 (a 4) (d 4) ["_law_text_here", "_law_rest"] (sp__law_odd (gb K)) :=
  T.f__law_odd.ok sc__law_odd (fun vs H Q E h => len__law_odd vs H Q E h) (fun cdv A outer s H vs Q E hr h => ⟨t__law_odd (gb K), (pss_cons (ps_set (i := 2) sc__law_odd.nd rfl (by first | exact .inl rfl | exact .inr rfl) (pe_call (ok__law_digit T) (hr.mono (by decide)) (by rfl) T.g__law_digit T.f__law_digit.kp T.b__law_digit .nil pass0 (pa_cons (pv 1) (pa_cons pe_int pa_nil))))
  (pss_cons (ps_set (i := 3) sc__law_odd.nd rfl (by first | exact .inl rfl | exact .inr rfl) (pe_call (ok__law_digit T) (hr.mono (by decide)) (by rfl) T.g__law_digit T.f__law_digit.kp T.b__law_digit .nil pass0 (pa_cons (pv 1) (pa_cons (pe_op op_add (pe_callB call_len_str (by rfl) T.m_len (by decide +kernel) (pa_cons (pv 0) pa_nil)) pe_int) pa_nil))))
  (pss_cons (ps_if (pt_cmpR op_lt (pv 2) pe_int (nomark _))
  (pss_one (ps_ret (pe_op op_add_str (pe_op op_add_str (pe_slice sl_str (pv 0) po_none (po_some (pv 3))) (pe_call (ok__law_sign T) (hr.mono (by decide)) (by rfl) T.g__law_sign T.f__law_sign.kp T.b__law_sign .nil pass0 (pa_cons (pv 1) pa_nil))) (pe_slice sl_str (pv 0) (po_some (pv 3)) po_none))))
  pss_nil)
  (pss_cons (ps_if (pt_cmpR op_lt (pv 2) pe_int (nomark _))
  (pss_one (ps_ret (pe_op op_add_str (pe_op op_add_str (pe_slice sl_str (pv 0) po_none (po_some (pv 3))) (pe_call (ok__law_sign T) (hr.mono (by decide)) (by rfl) T.g__law_sign T.f__law_sign.kp T.b__law_sign .nil pass0 (pa_cons (pv 1) pa_nil))) (pe_slice sl_str (pv 0) (po_some (pe_op op_add (pv 3) pe_int)) po_none))))
  pss_nil)
  (pss_cons (ps_if (pt_cmpR op_lt (pv 2) pe_int (nomark _))
  (pss_one (ps_ret (pe_op op_add_str (pe_slice sl_str (pv 0) po_none (po_some (pv 3))) (pe_slice sl_str (pv 0) (po_some (pe_op op_add (pv 3) pe_int)) po_none))))
  pss_nil)
  (pss_cons (ps_if (pt_cmpR op_eq (pv 2) pe_int (nomark _))
  (pss_one (ps_ret (pe_op op_add_str (pe_op op_add_str (pv 0) pe_str) (pe_op op_rep_str pe_str pe_int))))
  pss_nil)
  (pss_cons (ps_if (pt_cmpR op_eq (pv 2) pe_int (nomark _))
  (pss_one (ps_ret (pe_join pe_str (pe_lc (own := [("_law_k", 4)]) (g := (gName 4)) (tt := tYes) rfl sc__law_odd.nd (pi_range1 (by rfl) T.m_range (pa_cons (pe_call (ok__law_digit T) (hr.mono (by decide)) (by rfl) T.g__law_digit T.f__law_digit.kp T.b__law_digit .nil pass0 (pa_cons (pv 1) (pa_cons pe_int pa_nil))) pa_nil)) (blkOk_by (own := [("_law_k", 4)]) (N := ["_law_text_here", "_law_rest", "_law_kind", "_law_place", "_law_k"]) (sc := defScope s__law_odd) (by decide +kernel)) (fun _ _ _ _ _ => (pg_name (i := 4) sc__law_odd.nd rfl (by first | exact .inl rfl | exact .inr rfl))) (fun _ _ _ _ _ => pts_nil) (fun _ _ _ _ _ => (pe_call (ok__law_sign T) (hr.mono (by decide)) (by rfl) T.g__law_sign T.f__law_sign.kp T.b__law_sign .nil pass0 (pa_cons (pv 1) pa_nil)))))))
  pss_nil)
  (pss_one (ps_ret (pv 0)))))))))), run__law_odd h⟩)
theorem ok__law_word (T : Top K mg a d) : FnOk P w K mg base CX0 2 (a 5) (d 5) ["_law_rest"] (sp__law_word (gb K)) :=
  T.f__law_word.ok sc__law_word (fun vs H Q E h => len__law_word vs H Q E h) (fun cdv A outer s H vs Q E hr h => ⟨t__law_word (gb K), (pss_cons (ps_set (i := 1) sc__law_word.nd rfl (by first | exact .inl rfl | exact .inr rfl) pe_str)
  (pss_cons (ps_set (i := 2) sc__law_word.nd rfl (by first | exact .inl rfl | exact .inr rfl) pe_str)
  (pss_cons (ps_for PassesOwn.never rfl (pi_range1 (by rfl) T.m_range (pa_cons (pe_op op_add pe_int (pe_call (ok__law_digit T) (hr.mono (by decide)) (by rfl) T.g__law_digit T.f__law_digit.kp T.b__law_digit .nil pass0 (pa_cons (pv 0) (pa_cons pe_int pa_nil)))) pa_nil)) (pg_name (i := 3) sc__law_word.nd rfl (by first | exact .inl rfl | exact .inr rfl))
  (pss_one (ps_set (i := 2) sc__law_word.nd rfl (by first | exact .inl rfl | exact .inr rfl) (pe_op op_add_str (pv 2) (pe_ix ix_str (pv 1) (pe_call (ok__law_digit T) (hr.mono (by decide)) (by rfl) T.g__law_digit T.f__law_digit.kp T.b__law_digit .nil pass0 (pa_cons (pv 0) (pa_cons pe_int pa_nil))) (fun _ _ => rfl))))))
  (pss_one (ps_ret (pv 2)))))), run__law_word h⟩)
theorem ok__law_text (T : Top K mg a d) : FnOk P w K mg base CX0 3 (a 6) (d 6) ["_law_rest"] (sp__law_text (gb K)) :=
  T.f__law_text.ok sc__law_text (fun vs H Q E h => len__law_text vs H Q E h) (fun cdv A outer s H vs Q E hr h => ⟨t__law_text (gb K), (pss_cons (ps_set (i := 1) sc__law_text.nd rfl (by first | exact .inl rfl | exact .inr rfl) (pe_lst pa_nil))
  (pss_cons (ps_for PassesOwn.never rfl (pi_range1 (by rfl) T.m_range (pa_cons (pe_op op_add pe_int (pe_call (ok__law_digit T) (hr.mono (by decide)) (by rfl) T.g__law_digit T.f__law_digit.kp T.b__law_digit .nil pass0 (pa_cons (pv 0) (pa_cons pe_int pa_nil)))) pa_nil)) (pg_name (i := 2) sc__law_text.nd rfl (by first | exact .inl rfl | exact .inr rfl))
  (pss_one (ps_expr (pe_bm PySem.F.plainAttrs_list PySem.F.slot_list_append PySem.F.type_list_append mt_append (pv 1) (pa_cons (pe_op op_add_str (pe_op op_add_str (pe_call (ok__law_word T) (hr.mono (by decide)) (by rfl) T.g__law_word T.f__law_word.kp T.b__law_word .nil pass0 (pa_cons (pv 0) pa_nil)) pe_str) (pe_join pe_str (pe_lc (own := [("_law_j", 3)]) (g := (gName 3)) (tt := tYes) rfl sc__law_text.nd (pi_range1 (by rfl) T.m_range (pa_cons (pe_call (ok__law_digit T) (hr.mono (by decide)) (by rfl) T.g__law_digit T.f__law_digit.kp T.b__law_digit .nil pass0 (pa_cons (pv 0) (pa_cons pe_int pa_nil))) pa_nil)) (blkOk_by (own := [("_law_j", 3)]) (N := ["_law_rest", "_law_parts", "_law_k", "_law_j"]) (sc := defScope s__law_text) (by decide +kernel)) (fun _ _ _ _ _ => (pg_name (i := 3) sc__law_text.nd rfl (by first | exact .inl rfl | exact .inr rfl))) (fun _ _ _ _ _ => pts_nil) (fun _ _ _ _ _ => (pe_op op_add_str pe_str (pe_call (ok__law_word T) (hr.mono (by decide)) (by rfl) T.g__law_word T.f__law_word.kp T.b__law_word .nil pass0 (pa_cons (pv 0) pa_nil))))))) pa_nil)))))
  (pss_one (ps_ret (pe_join pe_str (pv 1)))))), run__law_text h⟩)
theorem ok__law_is_good (T : Top K mg a d) : FnOk P w K mg base CX0 1 (a 7) (d 7) ["_law_name"] (sp__law_is_good (gb K)) :=
  T.f__law_is_good.ok sc__law_is_good (fun vs H Q E h => len__law_is_good vs H Q E h) (fun cdv A outer s H vs Q E hr h => ⟨t__law_is_good (gb K), (pss_cons (ps_for PassesOwn.never rfl (pi_str (pv 0)) (pg_name (i := 1) sc__law_is_good.nd rfl (by first | exact .inl rfl | exact .inr rfl))
  (pss_one (ps_if (pt_cmpR op_notIn_sign (pv 1) pe_str rfl)
  (pss_one (ps_ret pe_bl))
  pss_nil)))
  (pss_one (ps_ret (pe_chain op_lt op_lt pe_int (pe_callB call_len_str (by rfl) T.m_len (by decide +kernel) (pa_cons (pv 0) pa_nil)) pe_int)))), run__law_is_good h⟩)
theorem ok__law_due (T : Top K mg a d) : FnOk P w K mg base CX0 2 (a 8) (d 8) ["_law_text_here"] (sp__law_due (gb K)) :=
  T.f__law_due.ok sc__law_due (fun vs H Q E h => len__law_due vs H Q E h) (fun cdv A outer s H vs Q E hr h => ⟨t__law_due (gb K), (pss_cons (ps_set (i := 1) sc__law_due.nd rfl (by first | exact .inl rfl | exact .inr rfl) (pe_lst pa_nil))
  (pss_cons (ps_for PassesOwn.never rfl (pi_list (pe_split (pv 0) pe_str)) (pg_name (i := 2) sc__law_due.nd rfl (by first | exact .inl rfl | exact .inr rfl))
  (pss_cons (ps_asg (pe_partition (pv 2) pe_str) (pg_tup rfl (pgs_cons (pg_name (i := 3) sc__law_due.nd rfl (by first | exact .inl rfl | exact .inr rfl)) (pgs_cons (pg_name (i := 4) sc__law_due.nd rfl (by first | exact .inl rfl | exact .inr rfl)) (pgs_cons (pg_name (i := 5) sc__law_due.nd rfl (by first | exact .inl rfl | exact .inr rfl)) pgs_nil)))))
  (pss_cons (ps_set (i := 6) sc__law_due.nd rfl (by first | exact .inl rfl | exact .inr rfl) (pe_split (pv 5) pe_str))
  (pss_cons (ps_if (PW.pt (pw_or (pt_cmpR op_eq (pv 4) pe_str (nomark _)) (pw_or (pt_not (pt_val (pe_call (ok__law_is_good T) (hr.mono (by decide)) (by rfl) T.g__law_is_good T.f__law_is_good.kp T.b__law_is_good .nil pass0 (pa_cons (pv 3) pa_nil)))) (pw_or1 (pt_cmpR op_ne (pe_ix ix_list (pv 6) pe_int (fun _ _ => rfl)) pe_str (nomark _))))))
  (pss_one (ps_ret pe_non))
  pss_nil)
  (pss_cons (ps_for PassesOwn.never rfl (pi_list (pe_slice sl_list (pv 6) (po_some pe_int) po_none)) (pg_name (i := 7) sc__law_due.nd rfl (by first | exact .inl rfl | exact .inr rfl))
  (pss_one (ps_if (pt_not (pt_val (pe_call (ok__law_is_good T) (hr.mono (by decide)) (by rfl) T.g__law_is_good T.f__law_is_good.kp T.b__law_is_good .nil pass0 (pa_cons (pv 7) pa_nil))))
  (pss_one (ps_ret pe_non))
  pss_nil)))
  (pss_one (ps_expr (pe_bm PySem.F.plainAttrs_list PySem.F.slot_list_append PySem.F.type_list_append mt_append (pv 1) (pa_cons (pe_tup (pa_cons (pv 3) (pa_cons (pe_slice sl_list (pv 6) (po_some pe_int) po_none) pa_nil))) pa_nil)))))))))
  (pss_one (ps_ret (pv 1))))), run__law_due h⟩)
theorem ok_is_name (T : Top K mg a d) : FnOk P w K mg base CX0 1 (a 9) (d 9) ["thing"] (sp_is_name (gb K)) :=
  T.f_is_name.ok sc_is_name (fun vs H Q E h => len_is_name vs H Q E h) (fun cdv A outer s H vs Q E hr h => ⟨t_is_name (gb K), (pss_cons (ps_if (PW.pt (pw_or (pt_not (pt_val (pe_callB call_isi (by rfl) T.m_isinstance (by decide +kernel) (pa_cons (pv 0) (pa_cons (pe_bltn (v := .ty "str") (by rfl) T.m_str (by decide +kernel) rfl) pa_nil))))) (pw_or (pt_cmpR op_eq (pv 0) pe_str (nomark _)) (pw_or1 (pt_cmpR op_gt (pe_callB call_len_str (by rfl) T.m_len (by decide +kernel) (pa_cons (pv 0) pa_nil)) (pe_glob (by rfl) T.c_LONGEST.choose_spec.1 T.c_LONGEST.choose_spec.2) (nomark _))))))
  (pss_one (ps_ret pe_bl))
  pss_nil)
  (pss_cons (ps_for PassesOwn.never rfl (pi_str (pv 0)) (pg_name (i := 1) sc_is_name.nd rfl (by first | exact .inl rfl | exact .inr rfl))
  (pss_one (ps_if (pt_cmpR op_notIn_sign (pv 1) (pe_glob (by rfl) T.c_SIGNS.choose_spec.1 T.c_SIGNS.choose_spec.2) rfl)
  (pss_one (ps_ret pe_bl))
  pss_nil)))
  (pss_one (ps_ret pe_bl)))), run_is_name h⟩)
theorem ok_row_in (T : Top K mg a d) : FnOk P w K mg base (L2N.CX P w) 2 (a 10) (d 10) ["part"] (sp_row_in (gb K)) :=
  okN T.f_row_in sc_row_in (fun vs H Q E h => len_row_in vs H Q E h) (fun cdv A outer s H vs Q E hr h => ⟨t_row_in (gb K) E, (pss_cons (ps_set (i := 1) sc_row_in.nd rfl (by first | exact .inl rfl | exact .inr rfl) (pe_split (pv 0) pe_str))
  (pss_cons (ps_set (i := 2) sc_row_in.nd rfl (by first | exact .inl rfl | exact .inr rfl) (pe_slice sl_str (pe_ix ix_list (pv 1) pe_int (fun _ _ => rfl)) po_none (po_some (pe_un un_neg pe_int))))
  (pss_cons (ps_if (PW.pt (pw_or (pt_cmpR op_ne (pe_slice sl_str (pe_ix ix_list (pv 1) pe_int (fun _ _ => rfl)) (po_some (pe_un un_neg pe_int)) po_none) pe_str (nomark _)) (pw_or1 (pt_not (pt_val (pe_call (ok_is_name T) (hr.mono (by decide)) (by rfl) T.g_is_name T.f_is_name.kp T.b_is_name .nil pass0 (pa_cons (pv 2) pa_nil)))))))
  (pss_one (L2N.ps_raise rfl (L2N.takes_of rfl rfl rfl rfl) (L2N.pmk_own PySem.F.excBase_ValueError T.xx_NoText T.g_NoText T.xk_NoText (raises_own T.xb_NoText T.xt_NoText) (by rfl))))
  pss_nil)
  (pss_cons (ps_for PassesOwn.leaving rfl (pi_list (pe_slice sl_list (pv 1) (po_some pe_int) po_none)) (pg_name (i := 3) sc_row_in.nd rfl (by first | exact .inl rfl | exact .inr rfl))
  (pss_one (ps_if (pt_not (pt_val (pe_call (ok_is_name T) (hr.mono (by decide)) (by rfl) T.g_is_name T.f_is_name.kp T.b_is_name .nil pass0 (pa_cons (pv 3) pa_nil))))
  (pss_one (L2N.ps_raise rfl (L2N.takes_of rfl rfl rfl rfl) (L2N.pmk_own PySem.F.excBase_ValueError T.xx_NoText T.g_NoText T.xk_NoText (raises_own T.xb_NoText T.xt_NoText) (by rfl))))
  pss_nil)))
  (pss_one (ps_ret (pe_tup (pa_cons (pv 2) (pa_cons (pe_slice sl_list (pv 1) (po_some pe_int) po_none) pa_nil))))))))), run_row_in h⟩)
theorem ok_read (T : Top K mg a d) : FnOk P w K mg base (L2N.CX P w) 3 (a 11) (d 11) ["text"] (sp_read (gb K)) :=
  okN T.f_read sc_read (fun vs H Q E h => len_read vs H Q E h) (fun cdv A outer s H vs Q E hr h => ⟨t_read (gb K) E, (pss_one (ps_ret (pe_lcX (own := [("part", 1)]) (g := (gName 1)) (tt := tYes) rfl sc_read.nd (L2N.takes_of rfl rfl rfl rfl) rfl rfl (pi_list (pe_split (pv 0) pe_str)) (blkOk_by (own := [("part", 1)]) (N := ["text", "part"]) (sc := defScope s_read) (by decide +kernel)) (fun _ _ _ _ _ => (pg_name (i := 1) sc_read.nd rfl (by first | exact .inl rfl | exact .inr rfl))) (fun _ _ _ _ _ => pts_nil) (fun _ _ _ _ _ xe hxE => (pe_call (ok_row_in T) (hr.mono (by decide)) (by rfl) T.g_row_in T.f_row_in.kp T.b_row_in .nil hxE (pa_cons (pv 1) pa_nil)))))), run_read h⟩)
theorem ok__law_which (T : Top K mg a d) {xa : Addr} {oe : Obj} {xl : Value} {xd : Option Addr} (hz : L2N.Zn xl xd oe) (hf : ∃ vs, oe.data = .fields vs) : FnX P w K mg base CX0 1 (a 12) (d 12) ["_law_e"] (xa, oe) (sp__law_which (gb K) xa xl xd) :=
  haveI := T.exf; okX T.f__law_which sc__law_which (fun vs H Q E h => len__law_which vs H Q E h) (fun cdv A outer s H vs Q E hot hr h => ⟨t__law_which (gb K) xa xl xd, (pss_cons (ps_set (i := 1) sc__law_which.nd rfl (by first | exact .inl rfl | exact .inr rfl) (pe_lst (pa_cons (pe_tup (pa_cons pe_str (pa_cons (pe_callB (call_isXg List.mem_cons_self hz hf) (by rfl) T.m_isinstance (by decide +kernel) (pa_cons (pv 0) (pa_cons (pe_glob (by rfl) T.g_NoNet rfl) pa_nil))) pa_nil))) (pa_cons (pe_tup (pa_cons pe_str (pa_cons (pe_callB (call_isXg List.mem_cons_self hz hf) (by rfl) T.m_isinstance (by decide +kernel) (pa_cons (pv 0) (pa_cons (pe_glob (by rfl) T.g_Broken rfl) pa_nil))) pa_nil))) pa_nil))))
  (pss_cons (ps_set (i := 1) sc__law_which.nd rfl (by first | exact .inl rfl | exact .inr rfl) (pe_op op_cat (pv 1) (pe_lst (pa_cons (pe_tup (pa_cons pe_str (pa_cons (pe_callB (call_isXg List.mem_cons_self hz hf) (by rfl) T.m_isinstance (by decide +kernel) (pa_cons (pv 0) (pa_cons (pe_glob (by rfl) T.g_NoPlane rfl) pa_nil))) pa_nil))) (pa_cons (pe_tup (pa_cons pe_str (pa_cons (pe_callB (call_isXg List.mem_cons_self hz hf) (by rfl) T.m_isinstance (by decide +kernel) (pa_cons (pv 0) (pa_cons (pe_glob (by rfl) T.g_NoWalker rfl) pa_nil))) pa_nil))) pa_nil)))))
  (pss_cons (ps_set (i := 1) sc__law_which.nd rfl (by first | exact .inl rfl | exact .inr rfl) (pe_op op_cat (pv 1) (pe_lst (pa_cons (pe_tup (pa_cons pe_str (pa_cons (pe_callB (call_isXg List.mem_cons_self hz hf) (by rfl) T.m_isinstance (by decide +kernel) (pa_cons (pv 0) (pa_cons (pe_glob (by rfl) T.g_NoDouble rfl) pa_nil))) pa_nil))) (pa_cons (pe_tup (pa_cons pe_str (pa_cons (pe_callB (call_isXg List.mem_cons_self hz hf) (by rfl) T.m_isinstance (by decide +kernel) (pa_cons (pv 0) (pa_cons (pe_glob (by rfl) T.g_TooMany rfl) pa_nil))) pa_nil))) pa_nil)))))
  (pss_cons (ps_set (i := 1) sc__law_which.nd rfl (by first | exact .inl rfl | exact .inr rfl) (pe_op op_cat (pv 1) (pe_lst (pa_cons (pe_tup (pa_cons pe_str (pa_cons (pe_callB (call_isXg List.mem_cons_self hz hf) (by rfl) T.m_isinstance (by decide +kernel) (pa_cons (pv 0) (pa_cons (pe_glob (by rfl) T.g_NoTie rfl) pa_nil))) pa_nil))) (pa_cons (pe_tup (pa_cons pe_str (pa_cons (pe_callB (call_isXg List.mem_cons_self hz hf) (by rfl) T.m_isinstance (by decide +kernel) (pa_cons (pv 0) (pa_cons (pe_glob (by rfl) T.g_NoCorner rfl) pa_nil))) pa_nil))) pa_nil)))))
  (pss_cons (ps_set (i := 1) sc__law_which.nd rfl (by first | exact .inl rfl | exact .inr rfl) (pe_op op_cat (pv 1) (pe_lst (pa_cons (pe_tup (pa_cons pe_str (pa_cons (pe_callB (call_isXg List.mem_cons_self hz hf) (by rfl) T.m_isinstance (by decide +kernel) (pa_cons (pv 0) (pa_cons (pe_glob (by rfl) T.g_NoFace rfl) pa_nil))) pa_nil))) (pa_cons (pe_tup (pa_cons pe_str (pa_cons (pe_callB (call_isXg List.mem_cons_self hz hf) (by rfl) T.m_isinstance (by decide +kernel) (pa_cons (pv 0) (pa_cons (pe_glob (by rfl) T.g_Taken rfl) pa_nil))) pa_nil))) pa_nil)))))
  (pss_cons (ps_set (i := 1) sc__law_which.nd rfl (by first | exact .inl rfl | exact .inr rfl) (pe_op op_cat (pv 1) (pe_lst (pa_cons (pe_tup (pa_cons pe_str (pa_cons (pe_callB (call_isXg List.mem_cons_self hz hf) (by rfl) T.m_isinstance (by decide +kernel) (pa_cons (pv 0) (pa_cons (pe_glob (by rfl) T.g_Bridge rfl) pa_nil))) pa_nil))) (pa_cons (pe_tup (pa_cons pe_str (pa_cons (pe_callB (call_isXg List.mem_cons_self hz hf) (by rfl) T.m_isinstance (by decide +kernel) (pa_cons (pv 0) (pa_cons (pe_glob (by rfl) T.g_Loop rfl) pa_nil))) pa_nil))) pa_nil)))))
  (pss_cons (ps_set (i := 1) sc__law_which.nd rfl (by first | exact .inl rfl | exact .inr rfl) (pe_op op_cat (pv 1) (pe_lst (pa_cons (pe_tup (pa_cons pe_str (pa_cons (pe_callB (call_isXg List.mem_cons_self hz hf) (by rfl) T.m_isinstance (by decide +kernel) (pa_cons (pv 0) (pa_cons (pe_glob (by rfl) T.g_NoText rfl) pa_nil))) pa_nil))) (pa_cons (pe_tup (pa_cons pe_str (pa_cons (pe_callB (call_isXg List.mem_cons_self hz hf) (by rfl) T.m_isinstance (by decide +kernel) (pa_cons (pv 0) (pa_cons (pe_glob (by rfl) T.g_NoRow rfl) pa_nil))) pa_nil))) pa_nil)))))
  (pss_cons (ps_setLcHot (i := 2) (own := [("_law_pair", 3)]) (g := (gName 3)) (tt := (tB (tOp (rIxT (gb K).K) (tVar 3) (tC (.int 1))))) ⟨_, hot, List.mem_cons_self⟩ sc__law_which.nd rfl rfl (sw_true rfl rfl rfl (by decide +kernel)) (pv 1) (blkOk_by (own := [("_law_pair", 3)]) (N := ["_law_e", "_law_kinds", "_law_met", "_law_pair"]) (sc := defScope s__law_which) (by decide +kernel)) (fun _ _ _ _ _ => (pg_name (i := 3) sc__law_which.nd rfl (by first | exact .inl rfl | exact .inr rfl))) (fun _ _ _ _ _ => (pts_one (pt_val (pe_ix ix_tup (pv 3) pe_int (fun _ _ => rfl))))) (fun _ _ _ _ _ => (pe_ix ix_tup (pv 3) pe_int (fun _ _ => rfl))))
  (pss_cons (ps_if (PW.pt (pw_or (pt_cmpR op_ne (pe_callB call_len_seq (by rfl) T.m_len (by decide +kernel) (pa_cons (pv 2) pa_nil)) pe_int (nomark _)) (pw_or1 (pt_not (pt_val (pe_callB (call_isXg List.mem_cons_self hz hf) (by rfl) T.m_isinstance (by decide +kernel) (pa_cons (pv 0) (pa_cons (pe_bltn (v := .ty "ValueError") (by rfl) T.m_ValueError (by decide +kernel) rfl) pa_nil))))))))
  (pss_one (ps_ret pe_str))
  pss_nil)
  (pss_one (ps_ret (pe_ix ix_list (pv 2) pe_int (fun _ _ => rfl))))))))))))), run__law_which h⟩)
theorem ok__law_asked (T : Top K mg a d) : FnOk P w K mg base CX0 4 (a 13) (d 13) ["_law_text_here"] (sp__law_asked (gb K)) :=
  haveI := T.exf; T.f__law_asked.ok sc__law_asked (fun vs H Q E h => len__law_asked vs H Q E h) (fun cdv A outer s H vs Q E hr h => ⟨t__law_asked (gb K), (by unfold t__law_asked; exact (pss_one (ps_tryAs (i := 1) rfl rfl sc__law_asked.nd rfl rfl ⟨by rfl, by decide, .inl T.g_NetError⟩ (fun W pn xe tk _ => (PSs_as (pss_one (ps_ret (pe_tup (pa_cons pe_str (pa_cons (pe_callSD (ok_read T) (hr.mono (by decide)) (by rfl) T.g_read T.f_read.kp T.b_read .nil (fun σ => L2N.passAt tk σ) (pa_cons (pv 0) pa_nil)) pa_nil))))) rfl)) (fun xa1 oe xl3 xd4 pn hz hf => (pss_one (ps_ret (pe_tup (pa_cons (pe_callX (ok__law_which T hz hf) (roomHM (hr.mono (by decide))) (hot1_suite hz hf) List.mem_cons_self (by rfl) T.g__law_which T.f__law_which.kp T.b__law_which (pa_cons (pv 1) pa_nil)) (pa_cons pe_non pa_nil))))))))), run__law_asked h⟩)
theorem ok__law_same (T : Top K mg a d) : FnOk P w K mg base CX0 1 (a 14) (d 14) ["_law_told", "_law_due_here"] (sp__law_same (gb K)) :=
  T.f__law_same.ok sc__law_same (fun vs H Q E h => len__law_same vs H Q E h) (fun cdv A outer s H vs Q E hr h => ⟨t__law_same (gb K), (pss_cons (ps_if (PW.pt (pw_or (pt_not (pt_val (pe_callB call_isi (by rfl) T.m_isinstance (by decide +kernel) (pa_cons (pv 0) (pa_cons (pe_bltn (v := .ty "list") (by rfl) T.m_list (by decide +kernel) rfl) pa_nil))))) (pw_or1 (pt_cmpR op_ne (pe_callB call_len_seq (by rfl) T.m_len (by decide +kernel) (pa_cons (pv 0) pa_nil)) (pe_callB call_len_seq (by rfl) T.m_len (by decide +kernel) (pa_cons (pv 1) pa_nil)) (nomark _)))))
  (pss_one (ps_ret pe_bl))
  pss_nil)
  (pss_cons (ps_for PassesOwn.never rfl (pi_range1 (by rfl) T.m_range (pa_cons (pe_callB call_len_seq (by rfl) T.m_len (by decide +kernel) (pa_cons (pv 1) pa_nil)) pa_nil)) (pg_name (i := 2) sc__law_same.nd rfl (by first | exact .inl rfl | exact .inr rfl))
  (pss_cons (ps_set (i := 3) sc__law_same.nd rfl (by first | exact .inl rfl | exact .inr rfl) (pe_ix ix_list (pv 0) (pv 2) (fun _ _ => rfl)))
  (pss_cons (ps_if (PW.pt (pw_or (pt_not (pt_val (pe_callB call_isi (by rfl) T.m_isinstance (by decide +kernel) (pa_cons (pv 3) (pa_cons (pe_bltn (v := .ty "tuple") (by rfl) T.m_tuple (by decide +kernel) rfl) pa_nil))))) (pw_or (pt_cmpR op_ne (pe_callB call_len_seq (by rfl) T.m_len (by decide +kernel) (pa_cons (pv 3) pa_nil)) pe_int (nomark _)) (pw_or (pt_not (pt_val (pe_callB call_isi (by rfl) T.m_isinstance (by decide +kernel) (pa_cons (pe_ix ix_tup (pv 3) pe_int (fun _ _ => rfl)) (pa_cons (pe_bltn (v := .ty "str") (by rfl) T.m_str (by decide +kernel) rfl) pa_nil))))) (pw_or1 (pt_not (pt_val (pe_callB call_isi (by rfl) T.m_isinstance (by decide +kernel) (pa_cons (pe_ix ix_tup (pv 3) pe_int (fun _ _ => rfl)) (pa_cons (pe_bltn (v := .ty "list") (by rfl) T.m_list (by decide +kernel) rfl) pa_nil))))))))))
  (pss_one (ps_ret pe_bl))
  pss_nil)
  (pss_one (ps_if (PW.pt (pw_or (pt_cmpR op_ne (pe_ix ix_tup (pv 3) pe_int (fun _ _ => rfl)) (pe_ix ix_tup (pe_ix ix_list (pv 1) (pv 2) (fun _ _ => rfl)) pe_int (fun _ _ => rfl)) (nomark _)) (pw_or1 (pt_cmpR (op_neD hr.units) (pe_ix ix_tup (pv 3) pe_int (fun _ _ => rfl)) (pe_ix ix_tup (pe_ix ix_list (pv 1) (pv 2) (fun _ _ => rfl)) pe_int (fun _ _ => rfl)) (nomark _)))))
  (pss_one (ps_ret pe_bl))
  pss_nil)))))
  (pss_one (ps_ret pe_bl)))), run__law_same h⟩)
theorem ok_law (T : Top K mg a d) : FnOk P w K mg base CX0 5 (a 15) (d 15) ["_law_script"] (sp_law (gb K)) :=
  T.f_law.ok sc_law (fun vs H Q E h => len_law vs H Q E h) (fun cdv A outer s H vs Q E hr h => ⟨t_law (gb K), (pss_cons (ps_set (i := 1) sc_law.nd rfl (by first | exact .inl rfl | exact .inr rfl) (pe_lst (pa_cons (pe_call (ok__law_big T) (hr.mono (by decide)) (by rfl) T.g__law_big T.f__law_big.kp T.b__law_big .nil pass0 (pa_cons (pv 0) (pa_cons pe_int pa_nil))) pa_nil)))
  (pss_cons (ps_set (i := 2) sc_law.nd rfl (by first | exact .inl rfl | exact .inr rfl) (pe_call (ok__law_odd T) (hr.mono (by decide)) (by rfl) T.g__law_odd T.f__law_odd.kp T.b__law_odd .nil pass0 (pa_cons (pe_call (ok__law_text T) (hr.mono (by decide)) (by rfl) T.g__law_text T.f__law_text.kp T.b__law_text .nil pass0 (pa_cons (pv 1) pa_nil)) (pa_cons (pv 1) pa_nil))))
  (pss_cons (ps_set (i := 3) sc_law.nd rfl (by first | exact .inl rfl | exact .inr rfl) (pe_call (ok__law_due T) (hr.mono (by decide)) (by rfl) T.g__law_due T.f__law_due.kp T.b__law_due .nil pass0 (pa_cons (pv 2) pa_nil)))
  (pss_cons (ps_set (i := 4) sc_law.nd rfl (by first | exact .inl rfl | exact .inr rfl) (pe_call (ok__law_asked T) (hr.mono (by decide)) (by rfl) T.g__law_asked T.f__law_asked.kp T.b__law_asked .nil pass0 (pa_cons (pv 2) pa_nil)))
  (pss_cons (ps_if (pt_cmpR op_isN (pv 3) pe_non (nomark _))
  (pss_one (ps_ret (pe_cmpR op_eq (pe_ix ix_tup (pv 4) pe_int (fun _ _ => rfl)) pe_str (nomark _))))
  pss_nil)
  (pss_one (ps_ret (pe_and (pe_cmpR op_eq (pe_ix ix_tup (pv 4) pe_int (fun _ _ => rfl)) pe_str (nomark _)) (pe_one (pe_call (ok__law_same T) (hr.mono (by decide)) (by rfl) T.g__law_same T.f__law_same.kp T.b__law_same .nil pass0 (pa_cons (pe_ix ix_tup (pv 4) pe_int (fun _ _ => rfl)) (pa_cons (pv 3) pa_nil)))))))))))), run_law h⟩)
end
theorem all_mk {l : PySem.W.OpenLaw} {w : World} {K : PySem.W.Frag} {h : Heap} {mg : Str → Option Value} {fa f0 f1 f2 f3 f4 f5 f6 f7 f8 f9 f10 f11 f12 f13 f14 f15  X_NoText X_NetError X_NoNet X_Broken X_NoPlane X_NoWalker X_NoDouble X_TooMany X_NoTie X_NoCorner X_NoFace X_Taken X_Bridge X_Loop X_NoRow : Addr} (X : K.In h) (G : h.Ns mainGlobals mg) (hfa : mg "law" = some (.ref fa))
    {od0 an0 : Option Addr} {sl0 : Array (Option Value)} {oc0 kV0 dc0 pm0 cd0 ct0 : Value}
    (a0 : PySem.W.nsIn K mainGlobals "_law_cell_at" = some (some (.ref f0)))
    (l0 : K.lookup f0 = some ⟨oc0, od0, .func (PySem.W.fnOf "_law_cell_at" "_law_cell_at" (defArgs s__law_cell_at) (defBody s__law_cell_at) (defScope s__law_cell_at) .none kV0 dc0 pm0 an0 cd0 ct0), sl0⟩)
    (c0 : PySem.W.codeIn K cd0 "_law_cell_at" = true) (k0 : PySem.W.keepIn K (.ref f0) = true)
    {od1 an1 : Option Addr} {sl1 : Array (Option Value)} {oc1 kV1 dc1 pm1 cd1 ct1 : Value}
    (a1 : PySem.W.nsIn K mainGlobals "_law_big" = some (some (.ref f1)))
    (l1 : K.lookup f1 = some ⟨oc1, od1, .func (PySem.W.fnOf "_law_big" "_law_big" (defArgs s__law_big) (defBody s__law_big) (defScope s__law_big) .none kV1 dc1 pm1 an1 cd1 ct1), sl1⟩)
    (c1 : PySem.W.codeIn K cd1 "_law_big" = true) (k1 : PySem.W.keepIn K (.ref f1) = true)
    {od2 an2 : Option Addr} {sl2 : Array (Option Value)} {oc2 kV2 dc2 pm2 cd2 ct2 : Value}
    (a2 : PySem.W.nsIn K mainGlobals "_law_digit" = some (some (.ref f2)))
    (l2 : K.lookup f2 = some ⟨oc2, od2, .func (PySem.W.fnOf "_law_digit" "_law_digit" (defArgs s__law_digit) (defBody s__law_digit) (defScope s__law_digit) .none kV2 dc2 pm2 an2 cd2 ct2), sl2⟩)
    (c2 : PySem.W.codeIn K cd2 "_law_digit" = true) (k2 : PySem.W.keepIn K (.ref f2) = true)
    {od3 an3 : Option Addr} {sl3 : Array (Option Value)} {oc3 kV3 dc3 pm3 cd3 ct3 : Value}
    (a3 : PySem.W.nsIn K mainGlobals "_law_sign" = some (some (.ref f3)))
    (l3 : K.lookup f3 = some ⟨oc3, od3, .func (PySem.W.fnOf "_law_sign" "_law_sign" (defArgs s__law_sign) (defBody s__law_sign) (defScope s__law_sign) .none kV3 dc3 pm3 an3 cd3 ct3), sl3⟩)
    (c3 : PySem.W.codeIn K cd3 "_law_sign" = true) (k3 : PySem.W.keepIn K (.ref f3) = true)
    {od4 an4 : Option Addr} {sl4 : Array (Option Value)} {oc4 kV4 dc4 pm4 cd4 ct4 : Value}
    (a4 : PySem.W.nsIn K mainGlobals "_law_odd" = some (some (.ref f4)))
    (l4 : K.lookup f4 = some ⟨oc4, od4, .func (PySem.W.fnOf "_law_odd" "_law_odd" (defArgs s__law_odd) (defBody s__law_odd) (defScope s__law_odd) .none kV4 dc4 pm4 an4 cd4 ct4), sl4⟩)
    (c4 : PySem.W.codeIn K cd4 "_law_odd" = true) (k4 : PySem.W.keepIn K (.ref f4) = true)
    {od5 an5 : Option Addr} {sl5 : Array (Option Value)} {oc5 kV5 dc5 pm5 cd5 ct5 : Value}
    (a5 : PySem.W.nsIn K mainGlobals "_law_word" = some (some (.ref f5)))
    (l5 : K.lookup f5 = some ⟨oc5, od5, .func (PySem.W.fnOf "_law_word" "_law_word" (defArgs s__law_word) (defBody s__law_word) (defScope s__law_word) .none kV5 dc5 pm5 an5 cd5 ct5), sl5⟩)
    (c5 : PySem.W.codeIn K cd5 "_law_word" = true) (k5 : PySem.W.keepIn K (.ref f5) = true)
    {od6 an6 : Option Addr} {sl6 : Array (Option Value)} {oc6 kV6 dc6 pm6 cd6 ct6 : Value}
    (a6 : PySem.W.nsIn K mainGlobals "_law_text" = some (some (.ref f6)))
    (l6 : K.lookup f6 = some ⟨oc6, od6, .func (PySem.W.fnOf "_law_text" "_law_text" (defArgs s__law_text) (defBody s__law_text) (defScope s__law_text) .none kV6 dc6 pm6 an6 cd6 ct6), sl6⟩)
    (c6 : PySem.W.codeIn K cd6 "_law_text" = true) (k6 : PySem.W.keepIn K (.ref f6) = true)
    {od7 an7 : Option Addr} {sl7 : Array (Option Value)} {oc7 kV7 dc7 pm7 cd7 ct7 : Value}
    (a7 : PySem.W.nsIn K mainGlobals "_law_is_good" = some (some (.ref f7)))
    (l7 : K.lookup f7 = some ⟨oc7, od7, .func (PySem.W.fnOf "_law_is_good" "_law_is_good" (defArgs s__law_is_good) (defBody s__law_is_good) (defScope s__law_is_good) .none kV7 dc7 pm7 an7 cd7 ct7), sl7⟩)
    (c7 : PySem.W.codeIn K cd7 "_law_is_good" = true) (k7 : PySem.W.keepIn K (.ref f7) = true)
    {od8 an8 : Option Addr} {sl8 : Array (Option Value)} {oc8 kV8 dc8 pm8 cd8 ct8 : Value}
    (a8 : PySem.W.nsIn K mainGlobals "_law_due" = some (some (.ref f8)))
    (l8 : K.lookup f8 = some ⟨oc8, od8, .func (PySem.W.fnOf "_law_due" "_law_due" (defArgs s__law_due) (defBody s__law_due) (defScope s__law_due) .none kV8 dc8 pm8 an8 cd8 ct8), sl8⟩)
    (c8 : PySem.W.codeIn K cd8 "_law_due" = true) (k8 : PySem.W.keepIn K (.ref f8) = true)
    {od9 an9 : Option Addr} {sl9 : Array (Option Value)} {oc9 kV9 dc9 pm9 cd9 ct9 : Value}
    (a9 : PySem.W.nsIn K mainGlobals "is_name" = some (some (.ref f9)))
    (l9 : K.lookup f9 = some ⟨oc9, od9, .func (PySem.W.fnOf "is_name" "is_name" (defArgs s_is_name) (defBody s_is_name) (defScope s_is_name) .none kV9 dc9 pm9 an9 cd9 ct9), sl9⟩)
    (c9 : PySem.W.codeIn K cd9 "is_name" = true) (k9 : PySem.W.keepIn K (.ref f9) = true)
    {od10 an10 : Option Addr} {sl10 : Array (Option Value)} {oc10 kV10 dc10 pm10 cd10 ct10 : Value}
    (a10 : PySem.W.nsIn K mainGlobals "row_in" = some (some (.ref f10)))
    (l10 : K.lookup f10 = some ⟨oc10, od10, .func (PySem.W.fnOf "row_in" "row_in" (defArgs s_row_in) (defBody s_row_in) (defScope s_row_in) .none kV10 dc10 pm10 an10 cd10 ct10), sl10⟩)
    (c10 : PySem.W.codeIn K cd10 "row_in" = true) (k10 : PySem.W.keepIn K (.ref f10) = true)
    {od11 an11 : Option Addr} {sl11 : Array (Option Value)} {oc11 kV11 dc11 pm11 cd11 ct11 : Value}
    (a11 : PySem.W.nsIn K mainGlobals "read" = some (some (.ref f11)))
    (l11 : K.lookup f11 = some ⟨oc11, od11, .func (PySem.W.fnOf "read" "read" (defArgs s_read) (defBody s_read) (defScope s_read) .none kV11 dc11 pm11 an11 cd11 ct11), sl11⟩)
    (c11 : PySem.W.codeIn K cd11 "read" = true) (k11 : PySem.W.keepIn K (.ref f11) = true)
    {od12 an12 : Option Addr} {sl12 : Array (Option Value)} {oc12 kV12 dc12 pm12 cd12 ct12 : Value}
    (a12 : PySem.W.nsIn K mainGlobals "_law_which" = some (some (.ref f12)))
    (l12 : K.lookup f12 = some ⟨oc12, od12, .func (PySem.W.fnOf "_law_which" "_law_which" (defArgs s__law_which) (defBody s__law_which) (defScope s__law_which) .none kV12 dc12 pm12 an12 cd12 ct12), sl12⟩)
    (c12 : PySem.W.codeIn K cd12 "_law_which" = true) (k12 : PySem.W.keepIn K (.ref f12) = true)
    {od13 an13 : Option Addr} {sl13 : Array (Option Value)} {oc13 kV13 dc13 pm13 cd13 ct13 : Value}
    (a13 : PySem.W.nsIn K mainGlobals "_law_asked" = some (some (.ref f13)))
    (l13 : K.lookup f13 = some ⟨oc13, od13, .func (PySem.W.fnOf "_law_asked" "_law_asked" (defArgs s__law_asked) (defBody s__law_asked) (defScope s__law_asked) .none kV13 dc13 pm13 an13 cd13 ct13), sl13⟩)
    (c13 : PySem.W.codeIn K cd13 "_law_asked" = true) (k13 : PySem.W.keepIn K (.ref f13) = true)
    {od14 an14 : Option Addr} {sl14 : Array (Option Value)} {oc14 kV14 dc14 pm14 cd14 ct14 : Value}
    (a14 : PySem.W.nsIn K mainGlobals "_law_same" = some (some (.ref f14)))
    (l14 : K.lookup f14 = some ⟨oc14, od14, .func (PySem.W.fnOf "_law_same" "_law_same" (defArgs s__law_same) (defBody s__law_same) (defScope s__law_same) .none kV14 dc14 pm14 an14 cd14 ct14), sl14⟩)
    (c14 : PySem.W.codeIn K cd14 "_law_same" = true) (k14 : PySem.W.keepIn K (.ref f14) = true)
    {od15 an15 : Option Addr} {sl15 : Array (Option Value)} {oc15 kV15 dc15 pm15 cd15 ct15 : Value}
    (a15 : PySem.W.nsIn K mainGlobals "law" = some (some (.ref f15)))
    (l15 : K.lookup f15 = some ⟨oc15, od15, .func (PySem.W.fnOf "law" "law" (defArgs s_law) (defBody s_law) (defScope s_law) .none kV15 dc15 pm15 an15 cd15 ct15), sl15⟩)
    (c15 : PySem.W.codeIn K cd15 "law" = true) (k15 : PySem.W.keepIn K (.ref f15) = true)
    (aX_NoText : PySem.W.nsIn K mainGlobals "NoText" = some (some (.ref X_NoText))) (xb_NoText : PySem.W.subIn K (.ref X_NoText) (.type "BaseException") = some true) (xd_NoText : PySem.W.hasDictIn K X_NoText = true) (xt_NoText : PySem.W.typeIn K (.ref X_NoText) = some (.type "type"))
    (aX_NetError : PySem.W.nsIn K mainGlobals "NetError" = some (some (.ref X_NetError))) (xb_NetError : PySem.W.subIn K (.ref X_NetError) (.type "BaseException") = some true) (xd_NetError : PySem.W.hasDictIn K X_NetError = true) (xt_NetError : PySem.W.typeIn K (.ref X_NetError) = some (.type "type"))
    (aX_NoNet : PySem.W.nsIn K mainGlobals "NoNet" = some (some (.ref X_NoNet))) (xb_NoNet : PySem.W.subIn K (.ref X_NoNet) (.type "BaseException") = some true) (xd_NoNet : PySem.W.hasDictIn K X_NoNet = true) (xt_NoNet : PySem.W.typeIn K (.ref X_NoNet) = some (.type "type"))
    (aX_Broken : PySem.W.nsIn K mainGlobals "Broken" = some (some (.ref X_Broken))) (xb_Broken : PySem.W.subIn K (.ref X_Broken) (.type "BaseException") = some true) (xd_Broken : PySem.W.hasDictIn K X_Broken = true) (xt_Broken : PySem.W.typeIn K (.ref X_Broken) = some (.type "type"))
    (aX_NoPlane : PySem.W.nsIn K mainGlobals "NoPlane" = some (some (.ref X_NoPlane))) (xb_NoPlane : PySem.W.subIn K (.ref X_NoPlane) (.type "BaseException") = some true) (xd_NoPlane : PySem.W.hasDictIn K X_NoPlane = true) (xt_NoPlane : PySem.W.typeIn K (.ref X_NoPlane) = some (.type "type"))
    (aX_NoWalker : PySem.W.nsIn K mainGlobals "NoWalker" = some (some (.ref X_NoWalker))) (xb_NoWalker : PySem.W.subIn K (.ref X_NoWalker) (.type "BaseException") = some true) (xd_NoWalker : PySem.W.hasDictIn K X_NoWalker = true) (xt_NoWalker : PySem.W.typeIn K (.ref X_NoWalker) = some (.type "type"))
    (aX_NoDouble : PySem.W.nsIn K mainGlobals "NoDouble" = some (some (.ref X_NoDouble))) (xb_NoDouble : PySem.W.subIn K (.ref X_NoDouble) (.type "BaseException") = some true) (xd_NoDouble : PySem.W.hasDictIn K X_NoDouble = true) (xt_NoDouble : PySem.W.typeIn K (.ref X_NoDouble) = some (.type "type"))
    (aX_TooMany : PySem.W.nsIn K mainGlobals "TooMany" = some (some (.ref X_TooMany))) (xb_TooMany : PySem.W.subIn K (.ref X_TooMany) (.type "BaseException") = some true) (xd_TooMany : PySem.W.hasDictIn K X_TooMany = true) (xt_TooMany : PySem.W.typeIn K (.ref X_TooMany) = some (.type "type"))
    (aX_NoTie : PySem.W.nsIn K mainGlobals "NoTie" = some (some (.ref X_NoTie))) (xb_NoTie : PySem.W.subIn K (.ref X_NoTie) (.type "BaseException") = some true) (xd_NoTie : PySem.W.hasDictIn K X_NoTie = true) (xt_NoTie : PySem.W.typeIn K (.ref X_NoTie) = some (.type "type"))
    (aX_NoCorner : PySem.W.nsIn K mainGlobals "NoCorner" = some (some (.ref X_NoCorner))) (xb_NoCorner : PySem.W.subIn K (.ref X_NoCorner) (.type "BaseException") = some true) (xd_NoCorner : PySem.W.hasDictIn K X_NoCorner = true) (xt_NoCorner : PySem.W.typeIn K (.ref X_NoCorner) = some (.type "type"))
    (aX_NoFace : PySem.W.nsIn K mainGlobals "NoFace" = some (some (.ref X_NoFace))) (xb_NoFace : PySem.W.subIn K (.ref X_NoFace) (.type "BaseException") = some true) (xd_NoFace : PySem.W.hasDictIn K X_NoFace = true) (xt_NoFace : PySem.W.typeIn K (.ref X_NoFace) = some (.type "type"))
    (aX_Taken : PySem.W.nsIn K mainGlobals "Taken" = some (some (.ref X_Taken))) (xb_Taken : PySem.W.subIn K (.ref X_Taken) (.type "BaseException") = some true) (xd_Taken : PySem.W.hasDictIn K X_Taken = true) (xt_Taken : PySem.W.typeIn K (.ref X_Taken) = some (.type "type"))
    (aX_Bridge : PySem.W.nsIn K mainGlobals "Bridge" = some (some (.ref X_Bridge))) (xb_Bridge : PySem.W.subIn K (.ref X_Bridge) (.type "BaseException") = some true) (xd_Bridge : PySem.W.hasDictIn K X_Bridge = true) (xt_Bridge : PySem.W.typeIn K (.ref X_Bridge) = some (.type "type"))
    (aX_Loop : PySem.W.nsIn K mainGlobals "Loop" = some (some (.ref X_Loop))) (xb_Loop : PySem.W.subIn K (.ref X_Loop) (.type "BaseException") = some true) (xd_Loop : PySem.W.hasDictIn K X_Loop = true) (xt_Loop : PySem.W.typeIn K (.ref X_Loop) = some (.type "type"))
    (aX_NoRow : PySem.W.nsIn K mainGlobals "NoRow" = some (some (.ref X_NoRow))) (xb_NoRow : PySem.W.subIn K (.ref X_NoRow) (.type "BaseException") = some true) (xd_NoRow : PySem.W.hasDictIn K X_NoRow = true) (xt_NoRow : PySem.W.typeIn K (.ref X_NoRow) = some (.type "type"))
    (xx_NoText : PySem.W.excIn K X_NoText [.type "ValueError", .type "Exception", .type "BaseException", .type "object"] "ValueError.__new__" = true) (xk_NoText : PySem.W.keepIn K (.ref X_NoText) = true)
    (e1_NoText : PySem.W.findIn K (.ref X_NoText) "__getattribute__" = some (some (.builtin "BaseException.__getattribute__"))) (e2_NoText : PySem.W.findIn K (.ref X_NoText) "__getattr__" = some none) (e3_NoText : PySem.W.findIn K (.ref X_NoText) "__class__" = some (some (.builtin "object.__class__"))) (e4_NoText : PySem.W.mroIn K X_NoText (.type "object") = some true) (e5_NoText : PySem.W.subIn K (.ref X_NoText) (.type "ValueError") = some true) (e6_NoText : PySem.W.subIn K (.ref X_NoText) (.ref X_NoText) = some true)
    (u_NoText_NetError : PySem.W.subIn K (.ref X_NoText) (.ref X_NetError) = some true)
    (u_NoText_NoNet : PySem.W.subIn K (.ref X_NoText) (.ref X_NoNet) = some false)
    (u_NoText_Broken : PySem.W.subIn K (.ref X_NoText) (.ref X_Broken) = some false)
    (u_NoText_NoPlane : PySem.W.subIn K (.ref X_NoText) (.ref X_NoPlane) = some false)
    (u_NoText_NoWalker : PySem.W.subIn K (.ref X_NoText) (.ref X_NoWalker) = some false)
    (u_NoText_NoDouble : PySem.W.subIn K (.ref X_NoText) (.ref X_NoDouble) = some false)
    (u_NoText_TooMany : PySem.W.subIn K (.ref X_NoText) (.ref X_TooMany) = some false)
    (u_NoText_NoTie : PySem.W.subIn K (.ref X_NoText) (.ref X_NoTie) = some false)
    (u_NoText_NoCorner : PySem.W.subIn K (.ref X_NoText) (.ref X_NoCorner) = some false)
    (u_NoText_NoFace : PySem.W.subIn K (.ref X_NoText) (.ref X_NoFace) = some false)
    (u_NoText_Taken : PySem.W.subIn K (.ref X_NoText) (.ref X_Taken) = some false)
    (u_NoText_Bridge : PySem.W.subIn K (.ref X_NoText) (.ref X_Bridge) = some false)
    (u_NoText_Loop : PySem.W.subIn K (.ref X_NoText) (.ref X_Loop) = some false)
    (u_NoText_NoText : PySem.W.subIn K (.ref X_NoText) (.ref X_NoText) = some true)
    (u_NoText_NoRow : PySem.W.subIn K (.ref X_NoText) (.ref X_NoRow) = some false)
    (fx1 : PySem.W.specialIn K (.builtin "object.__class__") "__get__" = some (some (.builtin "getset_descriptor.__get__"))) (fx2 : PySem.W.takesIn K (.builtin "object.__class__") = some true)
    (z_ValueError : PySem.W.nsIn K mainGlobals "ValueError" = some none)
    (z_isinstance : PySem.W.nsIn K mainGlobals "isinstance" = some none)
    (z_len : PySem.W.nsIn K mainGlobals "len" = some none)
    (z_list : PySem.W.nsIn K mainGlobals "list" = some none)
    (z_range : PySem.W.nsIn K mainGlobals "range" = some none)
    (z_str : PySem.W.nsIn K mainGlobals "str" = some none)
    (z_tuple : PySem.W.nsIn K mainGlobals "tuple" = some none)
    {tk_LONGEST : Tok} (q_LONGEST : PySem.W.nsIn K mainGlobals "LONGEST" = some (some (.int 8 tk_LONGEST)))
    {tk_SIGNS : Tok} (q_SIGNS : PySem.W.nsIn K mainGlobals "SIGNS" = some (some (.str "abcdefghijklmnopqrstuvwxyz0123456789" tk_SIGNS)))
    : ∃ fd : FuncData, (∀ (s : Shared) (v : Value), BindsTo s fd ⟨[v], []⟩ [("_law_script", v)]) ∧ ∀ base : Heap, K.In base → base.Ns mainGlobals mg → FnOk l.prog w K mg base CX0 5 fa fd ["_law_script"] (sp_law (gb K)) := by
  have e := hfa.symm.trans (PySem.W.mg_of X G a15)
  cases e
  have eX_NoText : clOf K "NoText" = X_NoText := by unfold clOf; rw [aX_NoText]
  subst eX_NoText
  have eX_NetError : clOf K "NetError" = X_NetError := by unfold clOf; rw [aX_NetError]
  subst eX_NetError
  have eX_NoNet : clOf K "NoNet" = X_NoNet := by unfold clOf; rw [aX_NoNet]
  subst eX_NoNet
  have eX_Broken : clOf K "Broken" = X_Broken := by unfold clOf; rw [aX_Broken]
  subst eX_Broken
  have eX_NoPlane : clOf K "NoPlane" = X_NoPlane := by unfold clOf; rw [aX_NoPlane]
  subst eX_NoPlane
  have eX_NoWalker : clOf K "NoWalker" = X_NoWalker := by unfold clOf; rw [aX_NoWalker]
  subst eX_NoWalker
  have eX_NoDouble : clOf K "NoDouble" = X_NoDouble := by unfold clOf; rw [aX_NoDouble]
  subst eX_NoDouble
  have eX_TooMany : clOf K "TooMany" = X_TooMany := by unfold clOf; rw [aX_TooMany]
  subst eX_TooMany
  have eX_NoTie : clOf K "NoTie" = X_NoTie := by unfold clOf; rw [aX_NoTie]
  subst eX_NoTie
  have eX_NoCorner : clOf K "NoCorner" = X_NoCorner := by unfold clOf; rw [aX_NoCorner]
  subst eX_NoCorner
  have eX_NoFace : clOf K "NoFace" = X_NoFace := by unfold clOf; rw [aX_NoFace]
  subst eX_NoFace
  have eX_Taken : clOf K "Taken" = X_Taken := by unfold clOf; rw [aX_Taken]
  subst eX_Taken
  have eX_Bridge : clOf K "Bridge" = X_Bridge := by unfold clOf; rw [aX_Bridge]
  subst eX_Bridge
  have eX_Loop : clOf K "Loop" = X_Loop := by unfold clOf; rw [aX_Loop]
  subst eX_Loop
  have eX_NoRow : clOf K "NoRow" = X_NoRow := by unfold clOf; rw [aX_NoRow]
  subst eX_NoRow
  have EXF : ExF (gb K) XC XT := by
    refine ⟨fun c hc => ?_, fun c hc T hT => ?_, fun c hc => ?_, fun c hc T hT => ?_⟩
    · simp only [XC, List.mem_cons, List.not_mem_nil, or_false] at hc
      rcases hc with rfl
      · exact ⟨e1_NoText, e2_NoText, xb_NoText, xd_NoText, e3_NoText, fx1, fx2, e4_NoText⟩
    · simp only [XC, List.mem_cons, List.not_mem_nil, or_false] at hc
      simp only [XT, List.mem_cons, List.not_mem_nil, or_false] at hT
      rcases hc with rfl
      · rcases hT with rfl | rfl | rfl | rfl | rfl | rfl | rfl | rfl | rfl | rfl | rfl | rfl | rfl | rfl | rfl
        · exact (kit_ref e6_NoText xd_NetError xt_NetError u_NoText_NetError).trans (congrArg some (by decide +kernel))
        · exact (kit_ref e6_NoText xd_NoNet xt_NoNet u_NoText_NoNet).trans (congrArg some (by decide +kernel))
        · exact (kit_ref e6_NoText xd_Broken xt_Broken u_NoText_Broken).trans (congrArg some (by decide +kernel))
        · exact (kit_ref e6_NoText xd_NoPlane xt_NoPlane u_NoText_NoPlane).trans (congrArg some (by decide +kernel))
        · exact (kit_ref e6_NoText xd_NoWalker xt_NoWalker u_NoText_NoWalker).trans (congrArg some (by decide +kernel))
        · exact (kit_ref e6_NoText xd_NoDouble xt_NoDouble u_NoText_NoDouble).trans (congrArg some (by decide +kernel))
        · exact (kit_ref e6_NoText xd_TooMany xt_TooMany u_NoText_TooMany).trans (congrArg some (by decide +kernel))
        · exact (kit_ref e6_NoText xd_NoTie xt_NoTie u_NoText_NoTie).trans (congrArg some (by decide +kernel))
        · exact (kit_ref e6_NoText xd_NoCorner xt_NoCorner u_NoText_NoCorner).trans (congrArg some (by decide +kernel))
        · exact (kit_ref e6_NoText xd_NoFace xt_NoFace u_NoText_NoFace).trans (congrArg some (by decide +kernel))
        · exact (kit_ref e6_NoText xd_Taken xt_Taken u_NoText_Taken).trans (congrArg some (by decide +kernel))
        · exact (kit_ref e6_NoText xd_Bridge xt_Bridge u_NoText_Bridge).trans (congrArg some (by decide +kernel))
        · exact (kit_ref e6_NoText xd_Loop xt_Loop u_NoText_Loop).trans (congrArg some (by decide +kernel))
        · exact (kit_ref e6_NoText xd_NoText xt_NoText u_NoText_NoText).trans (congrArg some (by decide +kernel))
        · exact (kit_ref e6_NoText xd_NoRow xt_NoRow u_NoText_NoRow).trans (congrArg some (by decide +kernel))
    · simp only [XC, List.mem_cons, List.not_mem_nil, or_false] at hc
      rcases hc with rfl
      · exact kit_vE e5_NoText
    · simp only [XC, List.mem_cons, List.not_mem_nil, or_false] at hc
      simp only [XT, List.mem_cons, List.not_mem_nil, or_false] at hT
      rcases hc with rfl
      · rcases hT with rfl | rfl | rfl | rfl | rfl | rfl | rfl | rfl | rfl | rfl | rfl | rfl | rfl | rfl | rfl
        · exact (PySem.W.exm_ref xb_NetError xd_NetError xt_NetError u_NoText_NetError).trans (congrArg some (by decide +kernel))
        · exact (PySem.W.exm_ref xb_NoNet xd_NoNet xt_NoNet u_NoText_NoNet).trans (congrArg some (by decide +kernel))
        · exact (PySem.W.exm_ref xb_Broken xd_Broken xt_Broken u_NoText_Broken).trans (congrArg some (by decide +kernel))
        · exact (PySem.W.exm_ref xb_NoPlane xd_NoPlane xt_NoPlane u_NoText_NoPlane).trans (congrArg some (by decide +kernel))
        · exact (PySem.W.exm_ref xb_NoWalker xd_NoWalker xt_NoWalker u_NoText_NoWalker).trans (congrArg some (by decide +kernel))
        · exact (PySem.W.exm_ref xb_NoDouble xd_NoDouble xt_NoDouble u_NoText_NoDouble).trans (congrArg some (by decide +kernel))
        · exact (PySem.W.exm_ref xb_TooMany xd_TooMany xt_TooMany u_NoText_TooMany).trans (congrArg some (by decide +kernel))
        · exact (PySem.W.exm_ref xb_NoTie xd_NoTie xt_NoTie u_NoText_NoTie).trans (congrArg some (by decide +kernel))
        · exact (PySem.W.exm_ref xb_NoCorner xd_NoCorner xt_NoCorner u_NoText_NoCorner).trans (congrArg some (by decide +kernel))
        · exact (PySem.W.exm_ref xb_NoFace xd_NoFace xt_NoFace u_NoText_NoFace).trans (congrArg some (by decide +kernel))
        · exact (PySem.W.exm_ref xb_Taken xd_Taken xt_Taken u_NoText_Taken).trans (congrArg some (by decide +kernel))
        · exact (PySem.W.exm_ref xb_Bridge xd_Bridge xt_Bridge u_NoText_Bridge).trans (congrArg some (by decide +kernel))
        · exact (PySem.W.exm_ref xb_Loop xd_Loop xt_Loop u_NoText_Loop).trans (congrArg some (by decide +kernel))
        · exact (PySem.W.exm_ref xb_NoText xd_NoText xt_NoText u_NoText_NoText).trans (congrArg some (by decide +kernel))
        · exact (PySem.W.exm_ref xb_NoRow xd_NoRow xt_NoRow u_NoText_NoRow).trans (congrArg some (by decide +kernel))
  have F0 := fun_mk (st := s__law_cell_at) l0 c0 k0
  have b0 := F0.binds (ps := ["_law_script", "_law_k"]) fun _ _ _ _ _ _ us hl => match us, hl with | [_, _], _ => rfl
  have F1 := fun_mk (st := s__law_big) l1 c1 k1
  have b1 := F1.binds (ps := ["_law_script", "_law_at"]) fun _ _ _ _ _ _ us hl => match us, hl with | [_, _], _ => rfl
  have F2 := fun_mk (st := s__law_digit) l2 c2 k2
  have b2 := F2.binds (ps := ["_law_rest", "_law_many"]) fun _ _ _ _ _ _ us hl => match us, hl with | [_, _], _ => rfl
  have F3 := fun_mk (st := s__law_sign) l3 c3 k3
  have b3 := F3.binds (ps := ["_law_rest"]) fun _ _ _ _ _ _ us hl => match us, hl with | [_], _ => rfl
  have F4 := fun_mk (st := s__law_odd) l4 c4 k4
  have b4 := F4.binds (ps := ["_law_text_here", "_law_rest"]) fun _ _ _ _ _ _ us hl => match us, hl with | [_, _], _ => rfl
  have F5 := fun_mk (st := s__law_word) l5 c5 k5
  have b5 := F5.binds (ps := ["_law_rest"]) fun _ _ _ _ _ _ us hl => match us, hl with | [_], _ => rfl
  have F6 := fun_mk (st := s__law_text) l6 c6 k6
  have b6 := F6.binds (ps := ["_law_rest"]) fun _ _ _ _ _ _ us hl => match us, hl with | [_], _ => rfl
  have F7 := fun_mk (st := s__law_is_good) l7 c7 k7
  have b7 := F7.binds (ps := ["_law_name"]) fun _ _ _ _ _ _ us hl => match us, hl with | [_], _ => rfl
  have F8 := fun_mk (st := s__law_due) l8 c8 k8
  have b8 := F8.binds (ps := ["_law_text_here"]) fun _ _ _ _ _ _ us hl => match us, hl with | [_], _ => rfl
  have F9 := fun_mk (st := s_is_name) l9 c9 k9
  have b9 := F9.binds (ps := ["thing"]) fun _ _ _ _ _ _ us hl => match us, hl with | [_], _ => rfl
  have F10 := fun_mk (st := s_row_in) l10 c10 k10
  have b10 := F10.binds (ps := ["part"]) fun _ _ _ _ _ _ us hl => match us, hl with | [_], _ => rfl
  have F11 := fun_mk (st := s_read) l11 c11 k11
  have b11 := F11.binds (ps := ["text"]) fun _ _ _ _ _ _ us hl => match us, hl with | [_], _ => rfl
  have F12 := fun_mk (st := s__law_which) l12 c12 k12
  have b12 := F12.binds (ps := ["_law_e"]) fun _ _ _ _ _ _ us hl => match us, hl with | [_], _ => rfl
  have F13 := fun_mk (st := s__law_asked) l13 c13 k13
  have b13 := F13.binds (ps := ["_law_text_here"]) fun _ _ _ _ _ _ us hl => match us, hl with | [_], _ => rfl
  have F14 := fun_mk (st := s__law_same) l14 c14 k14
  have b14 := F14.binds (ps := ["_law_told", "_law_due_here"]) fun _ _ _ _ _ _ us hl => match us, hl with | [_, _], _ => rfl
  have F15 := fun_mk (st := s_law) l15 c15 k15
  have b15 := F15.binds (ps := ["_law_script"]) fun _ _ _ _ _ _ us hl => match us, hl with | [_], _ => rfl
  let av : Nat → Addr := fun i => [f0, f1, f2, f3, f4, f5, f6, f7, f8, f9, f10, f11, f12, f13, f14, fa].getD i 0
  let dv : Nat → FuncData := fun i => [PySem.W.fnOf "_law_cell_at" "_law_cell_at" (defArgs s__law_cell_at) (defBody s__law_cell_at) (defScope s__law_cell_at) .none kV0 dc0 pm0 an0 cd0 ct0, PySem.W.fnOf "_law_big" "_law_big" (defArgs s__law_big) (defBody s__law_big) (defScope s__law_big) .none kV1 dc1 pm1 an1 cd1 ct1, PySem.W.fnOf "_law_digit" "_law_digit" (defArgs s__law_digit) (defBody s__law_digit) (defScope s__law_digit) .none kV2 dc2 pm2 an2 cd2 ct2, PySem.W.fnOf "_law_sign" "_law_sign" (defArgs s__law_sign) (defBody s__law_sign) (defScope s__law_sign) .none kV3 dc3 pm3 an3 cd3 ct3, PySem.W.fnOf "_law_odd" "_law_odd" (defArgs s__law_odd) (defBody s__law_odd) (defScope s__law_odd) .none kV4 dc4 pm4 an4 cd4 ct4, PySem.W.fnOf "_law_word" "_law_word" (defArgs s__law_word) (defBody s__law_word) (defScope s__law_word) .none kV5 dc5 pm5 an5 cd5 ct5, PySem.W.fnOf "_law_text" "_law_text" (defArgs s__law_text) (defBody s__law_text) (defScope s__law_text) .none kV6 dc6 pm6 an6 cd6 ct6, PySem.W.fnOf "_law_is_good" "_law_is_good" (defArgs s__law_is_good) (defBody s__law_is_good) (defScope s__law_is_good) .none kV7 dc7 pm7 an7 cd7 ct7, PySem.W.fnOf "_law_due" "_law_due" (defArgs s__law_due) (defBody s__law_due) (defScope s__law_due) .none kV8 dc8 pm8 an8 cd8 ct8, PySem.W.fnOf "is_name" "is_name" (defArgs s_is_name) (defBody s_is_name) (defScope s_is_name) .none kV9 dc9 pm9 an9 cd9 ct9, PySem.W.fnOf "row_in" "row_in" (defArgs s_row_in) (defBody s_row_in) (defScope s_row_in) .none kV10 dc10 pm10 an10 cd10 ct10, PySem.W.fnOf "read" "read" (defArgs s_read) (defBody s_read) (defScope s_read) .none kV11 dc11 pm11 an11 cd11 ct11, PySem.W.fnOf "_law_which" "_law_which" (defArgs s__law_which) (defBody s__law_which) (defScope s__law_which) .none kV12 dc12 pm12 an12 cd12 ct12, PySem.W.fnOf "_law_asked" "_law_asked" (defArgs s__law_asked) (defBody s__law_asked) (defScope s__law_asked) .none kV13 dc13 pm13 an13 cd13 ct13, PySem.W.fnOf "_law_same" "_law_same" (defArgs s__law_same) (defBody s__law_same) (defScope s__law_same) .none kV14 dc14 pm14 an14 cd14 ct14, PySem.W.fnOf "law" "law" (defArgs s_law) (defBody s_law) (defScope s_law) .none kV15 dc15 pm15 an15 cd15 ct15].getD i (PySem.W.fnOf "law" "law" (defArgs s_law) (defBody s_law) (defScope s_law) .none kV15 dc15 pm15 an15 cd15 ct15)
  have T : Top K mg av dv := { f__law_cell_at := F0, b__law_cell_at := b0, g__law_cell_at := PySem.W.mg_of X G a0, f__law_big := F1, b__law_big := b1, g__law_big := PySem.W.mg_of X G a1, f__law_digit := F2, b__law_digit := b2, g__law_digit := PySem.W.mg_of X G a2, f__law_sign := F3, b__law_sign := b3, g__law_sign := PySem.W.mg_of X G a3, f__law_odd := F4, b__law_odd := b4, g__law_odd := PySem.W.mg_of X G a4, f__law_word := F5, b__law_word := b5, g__law_word := PySem.W.mg_of X G a5, f__law_text := F6, b__law_text := b6, g__law_text := PySem.W.mg_of X G a6, f__law_is_good := F7, b__law_is_good := b7, g__law_is_good := PySem.W.mg_of X G a7, f__law_due := F8, b__law_due := b8, g__law_due := PySem.W.mg_of X G a8, f_is_name := F9, b_is_name := b9, g_is_name := PySem.W.mg_of X G a9, f_row_in := F10, b_row_in := b10, g_row_in := PySem.W.mg_of X G a10, f_read := F11, b_read := b11, g_read := PySem.W.mg_of X G a11, f__law_which := F12, b__law_which := b12, g__law_which := PySem.W.mg_of X G a12, f__law_asked := F13, b__law_asked := b13, g__law_asked := PySem.W.mg_of X G a13, f__law_same := F14, b__law_same := b14, g__law_same := PySem.W.mg_of X G a14, f_law := F15, b_law := b15, g_law := PySem.W.mg_of X G a15, g_NoText := PySem.W.mg_of X G aX_NoText, g_NetError := PySem.W.mg_of X G aX_NetError, g_NoNet := PySem.W.mg_of X G aX_NoNet, g_Broken := PySem.W.mg_of X G aX_Broken, g_NoPlane := PySem.W.mg_of X G aX_NoPlane, g_NoWalker := PySem.W.mg_of X G aX_NoWalker, g_NoDouble := PySem.W.mg_of X G aX_NoDouble, g_TooMany := PySem.W.mg_of X G aX_TooMany, g_NoTie := PySem.W.mg_of X G aX_NoTie, g_NoCorner := PySem.W.mg_of X G aX_NoCorner, g_NoFace := PySem.W.mg_of X G aX_NoFace, g_Taken := PySem.W.mg_of X G aX_Taken, g_Bridge := PySem.W.mg_of X G aX_Bridge, g_Loop := PySem.W.mg_of X G aX_Loop, g_NoRow := PySem.W.mg_of X G aX_NoRow, xx_NoText := xx_NoText, xk_NoText := xk_NoText, xb_NoText := xb_NoText, xt_NoText := xt_NoText, exf := EXF, m_ValueError := PySem.W.mg_none_of X G z_ValueError, m_isinstance := PySem.W.mg_none_of X G z_isinstance, m_len := PySem.W.mg_none_of X G z_len, m_list := PySem.W.mg_none_of X G z_list, m_range := PySem.W.mg_none_of X G z_range, m_str := PySem.W.mg_none_of X G z_str, m_tuple := PySem.W.mg_none_of X G z_tuple, c_LONGEST := ⟨_, PySem.W.mg_of X G q_LONGEST, ⟨_, rfl⟩⟩, c_SIGNS := ⟨_, PySem.W.mg_of X G q_SIGNS, ⟨_, rfl⟩⟩ }
  exact ⟨dv 15, fun s v => .of_eq rfl, fun base _ _ => ok_law T⟩
end Tw
open PySem PySem.W PyProof.Rows
set_option maxHeartbeats 0 in
theorem PySem.Challenge.cw_threewebs_k81_texts_judged_holds : PySem.Challenge.rw_threewebs_k81_texts_judged.Holds := by
  w_on; o_law; k_head; (case hw => w_witness2)
  k_fill
  refine L2.walk_of (l := PySem.Challenge.rw_threewebs_k81_texts_judged) (n := 63) (k := 5) (x := "_law_script") (CX := fun _ => L2.CX0) (sp := fun w => Tw.sp_law (Tw.gb _)) rfl (by decide) rfl ⟨rfl, by decide, by decide⟩ (fun w h Y => PySem.W.kIn_of Y) ?F (fun _ _ a ns hl _ hS => Tw.spA_law hS (Tw.law_true ns hl) (fun _ => rfl)) (fun _ _ _ _ _ h => h)
  case F =>
    intro w mg fa h KX G hmg
    refine' Tw.all_mk KX G hmg ?a0 ?l0 ?c0 ?k0 ?a1 ?l1 ?c1 ?k1 ?a2 ?l2 ?c2 ?k2 ?a3 ?l3 ?c3 ?k3 ?a4 ?l4 ?c4 ?k4 ?a5 ?l5 ?c5 ?k5 ?a6 ?l6 ?c6 ?k6 ?a7 ?l7 ?c7 ?k7 ?a8 ?l8 ?c8 ?k8 ?a9 ?l9 ?c9 ?k9 ?a10 ?l10 ?c10 ?k10 ?a11 ?l11 ?c11 ?k11 ?a12 ?l12 ?c12 ?k12 ?a13 ?l13 ?c13 ?k13 ?a14 ?l14 ?c14 ?k14 ?a15 ?l15 ?c15 ?k15 ?aX_NoText ?xb_NoText ?xd_NoText ?xt_NoText ?aX_NetError ?xb_NetError ?xd_NetError ?xt_NetError ?aX_NoNet ?xb_NoNet ?xd_NoNet ?xt_NoNet ?aX_Broken ?xb_Broken ?xd_Broken ?xt_Broken ?aX_NoPlane ?xb_NoPlane ?xd_NoPlane ?xt_NoPlane ?aX_NoWalker ?xb_NoWalker ?xd_NoWalker ?xt_NoWalker ?aX_NoDouble ?xb_NoDouble ?xd_NoDouble ?xt_NoDouble ?aX_TooMany ?xb_TooMany ?xd_TooMany ?xt_TooMany ?aX_NoTie ?xb_NoTie ?xd_NoTie ?xt_NoTie ?aX_NoCorner ?xb_NoCorner ?xd_NoCorner ?xt_NoCorner ?aX_NoFace ?xb_NoFace ?xd_NoFace ?xt_NoFace ?aX_Taken ?xb_Taken ?xd_Taken ?xt_Taken ?aX_Bridge ?xb_Bridge ?xd_Bridge ?xt_Bridge ?aX_Loop ?xb_Loop ?xd_Loop ?xt_Loop ?aX_NoRow ?xb_NoRow ?xd_NoRow ?xt_NoRow ?xx_NoText ?xk_NoText ?e1_NoText ?e2_NoText ?e3_NoText ?e4_NoText ?e5_NoText ?e6_NoText ?u_NoText_NetError ?u_NoText_NoNet ?u_NoText_Broken ?u_NoText_NoPlane ?u_NoText_NoWalker ?u_NoText_NoDouble ?u_NoText_TooMany ?u_NoText_NoTie ?u_NoText_NoCorner ?u_NoText_NoFace ?u_NoText_Taken ?u_NoText_Bridge ?u_NoText_Loop ?u_NoText_NoText ?u_NoText_NoRow ?fx1 ?fx2 ?z_ValueError ?z_isinstance ?z_len ?z_list ?z_range ?z_str ?z_tuple ?q_LONGEST ?q_SIGNS
    (case aX_NoText => k_is); (case aX_NetError => k_is); (case aX_NoNet => k_is); (case aX_Broken => k_is); (case aX_NoPlane => k_is); (case aX_NoWalker => k_is); (case aX_NoDouble => k_is); (case aX_TooMany => k_is); (case aX_NoTie => k_is); (case aX_NoCorner => k_is); (case aX_NoFace => k_is); (case aX_Taken => k_is); (case aX_Bridge => k_is); (case aX_Loop => k_is); (case aX_NoRow => k_is); (case a0 => k_is); (case l0 => k_is); (case c0 => k_is); (case k0 => k_is); (case a1 => k_is); (case l1 => k_is); (case c1 => k_is); (case k1 => k_is); (case a2 => k_is); (case l2 => k_is); (case c2 => k_is); (case k2 => k_is); (case a3 => k_is); (case l3 => k_is); (case c3 => k_is); (case k3 => k_is); (case a4 => k_is); (case l4 => k_is); (case c4 => k_is); (case k4 => k_is); (case a5 => k_is); (case l5 => k_is); (case c5 => k_is); (case k5 => k_is); (case a6 => k_is); (case l6 => k_is); (case c6 => k_is); (case k6 => k_is); (case a7 => k_is); (case l7 => k_is); (case c7 => k_is); (case k7 => k_is); (case a8 => k_is); (case l8 => k_is); (case c8 => k_is); (case k8 => k_is); (case a9 => k_is); (case l9 => k_is); (case c9 => k_is); (case k9 => k_is); (case a10 => k_is); (case l10 => k_is); (case c10 => k_is); (case k10 => k_is); (case a11 => k_is); (case l11 => k_is); (case c11 => k_is); (case k11 => k_is); (case a12 => k_is); (case l12 => k_is); (case c12 => k_is); (case k12 => k_is); (case a13 => k_is); (case l13 => k_is); (case c13 => k_is); (case k13 => k_is); (case a14 => k_is); (case l14 => k_is); (case c14 => k_is); (case k14 => k_is); (case a15 => k_is); (case l15 => k_is); (case c15 => k_is); (case k15 => k_is); (case xb_NoText => k_is); (case xd_NoText => k_is); (case xt_NoText => k_is); (case xb_NetError => k_is); (case xd_NetError => k_is); (case xt_NetError => k_is); (case xb_NoNet => k_is); (case xd_NoNet => k_is); (case xt_NoNet => k_is); (case xb_Broken => k_is); (case xd_Broken => k_is); (case xt_Broken => k_is); (case xb_NoPlane => k_is); (case xd_NoPlane => k_is); (case xt_NoPlane => k_is); (case xb_NoWalker => k_is); (case xd_NoWalker => k_is); (case xt_NoWalker => k_is); (case xb_NoDouble => k_is); (case xd_NoDouble => k_is); (case xt_NoDouble => k_is); (case xb_TooMany => k_is); (case xd_TooMany => k_is); (case xt_TooMany => k_is); (case xb_NoTie => k_is); (case xd_NoTie => k_is); (case xt_NoTie => k_is); (case xb_NoCorner => k_is); (case xd_NoCorner => k_is); (case xt_NoCorner => k_is); (case xb_NoFace => k_is); (case xd_NoFace => k_is); (case xt_NoFace => k_is); (case xb_Taken => k_is); (case xd_Taken => k_is); (case xt_Taken => k_is); (case xb_Bridge => k_is); (case xd_Bridge => k_is); (case xt_Bridge => k_is); (case xb_Loop => k_is); (case xd_Loop => k_is); (case xt_Loop => k_is); (case xb_NoRow => k_is); (case xd_NoRow => k_is); (case xt_NoRow => k_is); (case xx_NoText => k_exc); (case xk_NoText => k_is); (case e1_NoText => k_is); (case e2_NoText => k_is); (case e3_NoText => k_is); (case e4_NoText => k_is); (case e5_NoText => k_is); (case e6_NoText => k_is); (case u_NoText_NetError => k_is); (case u_NoText_NoNet => k_is); (case u_NoText_Broken => k_is); (case u_NoText_NoPlane => k_is); (case u_NoText_NoWalker => k_is); (case u_NoText_NoDouble => k_is); (case u_NoText_TooMany => k_is); (case u_NoText_NoTie => k_is); (case u_NoText_NoCorner => k_is); (case u_NoText_NoFace => k_is); (case u_NoText_Taken => k_is); (case u_NoText_Bridge => k_is); (case u_NoText_Loop => k_is); (case u_NoText_NoText => k_is); (case u_NoText_NoRow => k_is); (case fx1 => k_is); (case fx2 => k_is); (case z_ValueError => k_is); (case z_isinstance => k_is); (case z_len => k_is); (case z_list => k_is); (case z_range => k_is); (case z_str => k_is); (case z_tuple => k_is); (case q_LONGEST => k_is); (case q_SIGNS => k_is)
