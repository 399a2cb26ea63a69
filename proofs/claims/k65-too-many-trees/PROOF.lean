import PyProof.Rows.All
import Wide.All
import OpenK.AllK
import Wide.FinOn
import HandS.ForMost
import HandS.More
import HandS.Wide
import HandS.IsInst
import HandS.Style
import HandS.Deep
import PyProof.StrBlock2
import HandS.SetKeys
import HandS.SortKw
import HandS.SetFor
import HandS.WordsDict
import HandS.TupLen
import HandS.ExcCtx
import HandS.ExcIs
import HandS.CallSlots
import HandS.WideBits
import HandS.Rev
import HandS.Conv
import KE.LtSeq
import KE.KSortAsk
import HandS.DictTup
import KE.BitLaws
import HandS.Text
import HandS.HotCalls
import HandS.Comp
import HandS.NoneIn
import PySem.Challenge.RW_threewebs_k65_too_many_trees
set_option Elab.async false
set_option linter.all false
set_option maxRecDepth 100000
set_option maxHeartbeats 4000000
namespace Tw
open PySem PySem.Spec L2
open PyProof.Rows hiding St
abbrev qAdd : R2 := rI0 fun i j => .int (i + j)
abbrev qSub : R2 := rI0 fun i j => .int (i - j)
abbrev qMul : R2 := rI CMulW fun i j => .int (i * j)
abbrev qDiv : R2 := rI CDivW fun i j => .int (i / j)
def CPos (_ j : Int) : Prop := 0 < j
theorem cpos {i j : Int} (h : 0 < j) : CPos i j := h
abbrev qMod : R2 := rI CPos fun i j => .int (i % j)
abbrev qPow : R2 := rI CPow fun i j => .int (i ^ j.toNat)
abbrev qNeg : V → Hp → VK → Prop := rU fun i => .int (-i)
abbrev qLt : R2 := rI0 fun i j => .bl (decide (i < j))
abbrev qGt : R2 := rI0 fun i j => .bl (decide (j < i))
abbrev qCatS : R2 := fun x y H Q => ∃ i j, x = .str i ∧ y = .str j ∧ i.length + j.length ≤ sizeLine ∧ Q (.str (i ++ j)) H
abbrev qRepS : R2 := fun x y H Q => ∃ z n, x = .str z ∧ y = .int n ∧ MulOk z n ∧ Q (.str (Txt.mul z n)) H
abbrev qLenQ (K : PySem.W.Frag) : List V → Hp → VK → Prop := fun xs H Q => ∃ p ys, xs = [.ref p] ∧ (SqL K H p ys ∨ SqT K H p ys) ∧ Q (.int ys.length) H
abbrev qMin2 : List V → Hp → VK → Prop := fun xs H Q => ∃ i j, xs = [.int i, .int j] ∧ Q (.int (if j < i then j else i)) H
abbrev qStrI : List V → Hp → VK → Prop := fun xs H Q => ∃ i, xs = [.int i] ∧ i.natAbs.log2 < 1920 ∧ Q (.str (toString i)) H
abbrev qListOf (K : PySem.W.Frag) : List V → Hp → VK → Prop := fun xs H Q => ∃ p ys, xs = [.ref p] ∧ (SqL K H p ys ∨ SqT K H p ys) ∧ ∀ l, H l = none → Q (.ref l) (upd H l (.lst ys))
section
variable {X : Cx}
theorem op_rep_str : OpR X (binaryOp .Mult) qRepS := by
  intro pins s σ H x y v u Q I rx ry h
  obtain ⟨z, n, rfl, rfl, hz, q⟩ := h
  obtain ⟨t, rfl⟩ := rx
  obtain ⟨t', rfl⟩ := ry
  exact SB.mul hz (fun t' k => ⟨.str (Txt.mul z n), H, I.tok _, ⟨_, rfl⟩, q⟩)
end
end Tw
set_option Elab.async false
set_option linter.all false
set_option maxRecDepth 100000
set_option maxHeartbeats 4000000
namespace Tw
open PySem
inductive M (α : Type) where
  | ok (a : α) | exc (c : Str) | bad
namespace M
def b {α β : Type} (m : M α) (k : α → M β) : M β := match m with
  | .ok a => k a
  | .exc c => .exc c
  | .bad => .bad
@[simp] theorem b_ok {α β : Type} (a : α) (k : α → M β) : b (.ok a) k = k a := rfl
@[simp] theorem b_exc {α β : Type} (c : Str) (k : α → M β) : b (.exc c) k = .exc c := rfl
@[simp] theorem b_bad {α β : Type} (k : α → M β) : b .bad k = .bad := rfl
theorem b_assoc {α β γ : Type} (m : M α) (k : α → M β) (l : β → M γ) : b (b m k) l = b m fun a => b (k a) l := by cases m <;> rfl
def P {α : Type} (m : M α) (p : α → Prop) (x : Str → Prop) : Prop := match m with
  | .ok a => p a
  | .exc c => x c
  | .bad => False
theorem P_b {α β : Type} {m : M α} {k : α → M β} {p : β → Prop} {x : Str → Prop} : (b m k).P p x ↔ m.P (fun a => (k a).P p x) x := by cases m <;> exact Iff.rfl
theorem P.imp {α : Type} {m : M α} {p q : α → Prop} {x y : Str → Prop} (h : m.P p x) (f : ∀ a, p a → q a) (g : ∀ c, x c → y c) : m.P q y := by
  cases m with
  | ok a => exact f a h
  | exc c => exact g c h
  | bad => exact h
open Classical in
/-- only where c holds -/
noncomputable def chk (c : Prop) {α : Type} (m : M α) : M α := if c then m else .bad
theorem chk_of {c : Prop} {α : Type} {m : M α} (h : c) : chk c m = m := if_pos h
theorem P_chk {c : Prop} {α : Type} {m : M α} {p : α → Prop} {x : Str → Prop} : (chk c m).P p x ↔ c ∧ m.P p x := by
  by_cases h : c
  · rw [chk_of h]; exact ⟨fun q => ⟨h, q⟩, fun q => q.2⟩
  · unfold chk; rw [if_neg h]; exact ⟨fun q => q.elim, fun q => h q.1⟩
/-- what an option holds -/
def get {α : Type} : Option α → M α
  | some a => .ok a
  | none => .bad
@[simp] theorem get_some {α : Type} (a : α) : get (some a) = .ok a := rfl
theorem P_get {α : Type} {o : Option α} {p : α → Prop} {x : Str → Prop} : (get o).P p x ↔ ∃ a, o = some a ∧ p a := by
  cases o with
  | none => exact ⟨fun q => q.elim, fun ⟨_, e, _⟩ => by cases e⟩
  | some a => exact ⟨fun q => ⟨a, rfl, q⟩, fun ⟨_, e, q⟩ => by cases e; exact q⟩
/-- a loop over a list -/
def for_ {α S : Type} (f : S → α → M S) : List α → S → M S
  | [], s => .ok s
  | x :: r, s => b (f s x) (for_ f r)
@[simp] theorem for_nil {α S : Type} (f : S → α → M S) (s : S) : for_ f [] s = .ok s := rfl
@[simp] theorem for_cons {α S : Type} (f : S → α → M S) (x : α) (r : List α) (s : S) : for_ f (x :: r) s = b (f s x) (for_ f r) := rfl
theorem for_app {α S : Type} (f : S → α → M S) : ∀ (xs ys : List α) (s : S), for_ f (xs ++ ys) s = b (for_ f xs s) (for_ f ys)
  | [], ys, s => rfl
  | x :: r, ys, s => by
    show b (f s x) (for_ f (r ++ ys)) = b (b (f s x) (for_ f r)) (for_ f ys)
    rw [b_assoc]
    congr 1
    funext t
    exact for_app f r ys t
/-- by an invariant over what is done -/
theorem for_inv {α S : Type} {f : S → α → M S} (I : List α → S → Prop) (xs : List α) (s0 : S) (h0 : I [] s0)
    (hs : ∀ ys x zs s, xs = ys ++ x :: zs → I ys s → ∃ s', f s x = .ok s' ∧ I (ys ++ [x]) s') : ∃ s', for_ f xs s0 = .ok s' ∧ I xs s' := by
  suffices H : ∀ (zs ys : List α) (s : S), xs = ys ++ zs → I ys s → ∃ s', for_ f zs s = .ok s' ∧ I xs s' from H xs [] s0 rfl h0
  intro zs
  induction zs with
  | nil =>
    intro ys s e h
    rw [List.append_nil] at e
    subst e
    exact ⟨s, rfl, h⟩
  | cons x r ih =>
    intro ys s e h
    obtain ⟨s1, e1, h1⟩ := hs ys x r s e h
    rw [for_cons, e1, b_ok]
    exact ih (ys ++ [x]) s1 (by rw [e]; simp) h1
/-- where a turn may leave with an answer -/
def forR {α S R : Type} (f : S → α → M (S ⊕ R)) : List α → S → M (S ⊕ R)
  | [], s => .ok (.inl s)
  | x :: r, s => b (f s x) fun
    | .inl s => forR f r s
    | .inr a => .ok (.inr a)
@[simp] theorem forR_nil {α S R : Type} (f : S → α → M (S ⊕ R)) (s : S) : forR f [] s = .ok (.inl s) := rfl
/-- what follows a loop that may leave -/
def orR {S R : Type} (k : S → M R) : S ⊕ R → M R
  | .inl s => k s
  | .inr r => .ok r
@[simp] theorem orR_inl {S R : Type} (k : S → M R) (s : S) : orR k (.inl s) = k s := rfl
@[simp] theorem orR_inr {S R : Type} (k : S → M R) (r : R) : orR k (.inr r) = .ok r := rfl
/-- [e for x in xs if t] -/
def lc {α β : Type} (t : α → M Bool) (e : α → M β) : List α → M (List β)
  | [] => .ok []
  | x :: r => b (t x) fun c => if c = true then b (e x) fun y => b (lc t e r) fun ys => .ok (y :: ys) else lc t e r
theorem lc_ok {α β : Type} {t : α → M Bool} {e : α → M β} {p : α → Bool} {f : α → β} : ∀ (xs : List α), (∀ x ∈ xs, t x = .ok (p x)) → (∀ x ∈ xs, p x = true → e x = .ok (f x)) → lc t e xs = .ok ((xs.filter p).map f)
  | [], _, _ => rfl
  | x :: r, ht, he => by
    show b (t x) _ = _
    rw [ht x List.mem_cons_self, b_ok, lc_ok r (fun y hy => ht y (List.mem_cons_of_mem _ hy)) fun y hy => he y (List.mem_cons_of_mem _ hy)]
    cases hp : p x with
    | true => rw [if_pos rfl, he x List.mem_cons_self hp, b_ok, b_ok, List.filter_cons, if_pos hp]; rfl
    | false => rw [if_neg Bool.false_ne_true, List.filter_cons, if_neg (by rw [hp]; exact Bool.false_ne_true)]
theorem lc_map {α β : Type} {e : α → M β} {f : α → β} (xs : List α) (he : ∀ x ∈ xs, e x = .ok (f x)) : lc (fun _ => .ok true) e xs = .ok (xs.map f) := by
  rw [lc_ok (p := fun _ => true) (f := f) xs (fun _ _ => rfl) fun x hx _ => he x hx, List.filter_eq_self.mpr fun _ _ => rfl]
end M
section
variable {κ α : Type} [DecidableEq κ]
def dget (l : List (κ × α)) (k : κ) : Option α := (l.find? fun p => decide (p.1 = k)).map (·.2)
def dput (l : List (κ × α)) (k : κ) (a : α) : List (κ × α) := if (l.any fun p => decide (p.1 = k)) = true then l.map (fun p => if p.1 = k then (p.1, a) else p) else l ++ [(k, a)]
end
/-- tuples of three, of four; tuples by place; dicts by a plain key, by a tuple; the script -/
structure T3 (α β γ : Type) where
  a : α
  b : β
  c : γ
deriving DecidableEq
structure T4 (α β γ δ : Type) where
  a : α
  b : β
  c : γ
  d : δ
deriving DecidableEq
structure Tp (α : Type) where
  l : List α
structure Dk (κ α : Type) where
  l : List (κ × α)
structure Dt (κ α : Type) where
  l : List (κ × α)
structure Scr where
  l : List Int
end Tw
set_option Elab.async false
set_option linter.all false
set_option maxRecDepth 100000
set_option maxHeartbeats 4000000
namespace Tw
open PySem PySem.Spec L2
open PyProof.Rows hiding St
theorem start_of {N : List Str} {vs : List V} : start N vs = vs.map some ++ List.replicate (N.length - vs.length) none := rfl
/-- where a def ends -/
abbrev dEnd (Q : VK) : Ends := { nx := fun _ H' => Q .non H', rt := Q }
theorem same_upd {H : Hp} {p : Addr} {o : HO} (h : H p = none) : Same H (upd H p o) := fun b x e => by
  rw [upd_ne (ne_of_none e h)]
  exact e
end Tw
set_option Elab.async false
set_option linter.all false
set_option maxRecDepth 100000
set_option maxHeartbeats 4000000
namespace Tw
open PySem PySem.Spec L2
open PyProof.Rows hiding St
structure Gb where
  K : PySem.W.Frag
  cl : Str → Addr
universe u v
inductive All2 {α : Type u} {β : Type v} (R : α → β → Prop) : List α → List β → Prop
  | nil : All2 R [] []
  | cons {a : α} {b : β} {l : List α} {m : List β} : R a b → All2 R l m → All2 R (a :: l) (b :: m)
namespace All2
variable {α : Type u} {β : Type v} {R S : α → β → Prop}
theorem imp (f : ∀ a b, R a b → S a b) : ∀ {l : List α} {m : List β}, All2 R l m → All2 S l m
  | _, _, .nil => .nil
  | _, _, .cons h t => .cons (f _ _ h) (imp f t)
theorem len : ∀ {l : List α} {m : List β}, All2 R l m → l.length = m.length
  | _, _, .nil => rfl
  | _, _, .cons _ t => by rw [List.length_cons, List.length_cons, len t]
theorem get : ∀ {l : List α} {m : List β} {i : Nat} {a : α}, All2 R l m → l[i]? = some a → ∃ b, m[i]? = some b ∧ R a b
  | _, _, _, _, .nil, e => by simp at e
  | _, _, 0, _, .cons h _, e => by simp at e; subst e; exact ⟨_, rfl, h⟩
  | _, _, i + 1, a, .cons _ t, e => by
    obtain ⟨b, h1, h2⟩ := get (i := i) (a := a) t (by simpa using e)
    exact ⟨b, by simpa using h1, h2⟩
theorem get' : ∀ {l : List α} {m : List β} {i : Nat} {b : β}, All2 R l m → m[i]? = some b → ∃ a, l[i]? = some a ∧ R a b
  | _, _, _, _, .nil, e => by simp at e
  | _, _, 0, _, .cons h _, e => by simp at e; subst e; exact ⟨_, rfl, h⟩
  | _, _, i + 1, a, .cons _ t, e => by
    obtain ⟨b, h1, h2⟩ := get' (i := i) (b := a) t (by simpa using e)
    exact ⟨b, by simpa using h1, h2⟩
theorem app : ∀ {l l' : List α} {m m' : List β}, All2 R l m → All2 R l' m' → All2 R (l ++ l') (m ++ m')
  | _, _, _, _, .nil, h => h
  | _, _, _, _, .cons h t, q => .cons h (app t q)
theorem snoc {l : List α} {m : List β} {a : α} {b : β} (h : All2 R l m) (q : R a b) : All2 R (l ++ [a]) (m ++ [b]) := h.app (.cons q .nil)
theorem take : ∀ {l : List α} {m : List β} (n : Nat), All2 R l m → All2 R (l.take n) (m.take n)
  | _, _, 0, _ => .nil
  | _, _, _ + 1, .nil => .nil
  | _, _, n + 1, .cons h t => .cons h (take n t)
theorem drop : ∀ {l : List α} {m : List β} (n : Nat), All2 R l m → All2 R (l.drop n) (m.drop n)
  | _, _, 0, h => h
  | _, _, _ + 1, .nil => .nil
  | _, _, n + 1, .cons _ t => drop n t
theorem set {a : α} {b : β} (q : R a b) : ∀ {l : List α} {m : List β} (i : Nat), All2 R l m → All2 R (l.set i a) (m.set i b)
  | _, _, _, .nil => .nil
  | _, _, 0, .cons _ t => .cons q t
  | _, _, i + 1, .cons h t => .cons h (set q i t)
theorem rev : ∀ {l : List α} {m : List β}, All2 R l m → All2 R l.reverse m.reverse
  | _, _, .nil => .nil
  | _, _, .cons h t => by rw [List.reverse_cons, List.reverse_cons]; exact (rev t).snoc h
theorem erase : ∀ {l : List α} {m : List β} (i : Nat), All2 R l m → All2 R (l.eraseIdx i) (m.eraseIdx i)
  | _, _, _, .nil => .nil
  | _, _, 0, .cons _ t => t
  | _, _, i + 1, .cons h t => .cons h (erase i t)
theorem of_map {f : β → α} (h : ∀ b, R (f b) b) : ∀ m : List β, All2 R (m.map f) m
  | [] => .nil
  | b :: r => .cons (h b) (of_map h r)
theorem to_map {f : β → α} (h : ∀ a b, R a b → a = f b) : ∀ {l : List α} {m : List β}, All2 R l m → l = m.map f
  | _, _, .nil => rfl
  | _, _, .cons q t => by rw [List.map_cons, h _ _ q, to_map h t]
end All2
class Rp (α : Type) where
  rep : Gb → Hp → V → α → Prop
  mono : ∀ {G : Gb} {H H' : Hp} {v : V} {a : α}, Same H H' → rep G H v a → rep G H' v a
abbrev rep {α : Type} [Rp α] (G : Gb) (H : Hp) (v : V) (a : α) : Prop := Rp.rep G H v a
/-- a thing that stands in no heap -/
class Sc (α : Type) [Rp α] where
  enc : α → V
  iff : ∀ (G : Gb) (H : Hp) (v : V) (a : α), rep G H v a ↔ v = enc a
/-- the things that may be changed: what stands at the address -/
class Rc (α : Type) [Rp α] where
  con : Gb → Hp → HO → α → Prop
  mono : ∀ {G : Gb} {H H' : Hp} {o : HO} {a : α}, Same H H' → con G H o a → con G H' o a
  fz : ∀ {G : Gb} {H : Hp} {p : Addr} {o : HO} {a : α}, H p = some o → con G H o a → rep G H (.ref p) a
abbrev con {α : Type} [Rp α] [Rc α] (G : Gb) (H : Hp) (o : HO) (a : α) : Prop := Rc.con G H o a
instance : Rp Int := ⟨fun _ _ v a => v = .int a, fun _ h => h⟩
instance : Rp Bool := ⟨fun _ _ v a => v = .bl a, fun _ h => h⟩
instance : Rp Str := ⟨fun _ _ v a => v = .str a, fun _ h => h⟩
instance : Rp Unit := ⟨fun _ _ v _ => v = .non, fun _ h => h⟩
instance : Sc Int := ⟨.int, fun _ _ _ _ => Iff.rfl⟩
instance : Sc Bool := ⟨.bl, fun _ _ _ _ => Iff.rfl⟩
instance : Sc Str := ⟨.str, fun _ _ _ _ => Iff.rfl⟩
instance : Sc Unit := ⟨fun _ => .non, fun _ _ _ _ => Iff.rfl⟩
section
variable {α β γ δ : Type} [Rp α] [Rp β] [Rp γ] [Rp δ]
instance : Rp (α × β) where
  rep G H x a := ∃ p v w, x = .ref p ∧ H p = some (.tup [v, w]) ∧ rep G H v a.1 ∧ rep G H w a.2
  mono := fun s ⟨p, v, w, e, h, h1, h2⟩ => ⟨p, v, w, e, s _ _ h, Rp.mono s h1, Rp.mono s h2⟩
instance : Rp (T3 α β γ) where
  rep G H x a := ∃ p v w u, x = .ref p ∧ H p = some (.tup [v, w, u]) ∧ rep G H v a.a ∧ rep G H w a.b ∧ rep G H u a.c
  mono := fun s ⟨p, v, w, u, e, h, h1, h2, h3⟩ => ⟨p, v, w, u, e, s _ _ h, Rp.mono s h1, Rp.mono s h2, Rp.mono s h3⟩
instance : Rp (T4 α β γ δ) where
  rep G H x a := ∃ p v w u z, x = .ref p ∧ H p = some (.tup [v, w, u, z]) ∧ rep G H v a.a ∧ rep G H w a.b ∧ rep G H u a.c ∧ rep G H z a.d
  mono := fun s ⟨p, v, w, u, z, e, h, h1, h2, h3, h4⟩ => ⟨p, v, w, u, z, e, s _ _ h, Rp.mono s h1, Rp.mono s h2, Rp.mono s h3, Rp.mono s h4⟩
abbrev reps (G : Gb) (H : Hp) (vs : List V) (as : List α) : Prop := All2 (rep G H) vs as
theorem reps_mono {G : Gb} {H H' : Hp} {vs : List V} {as : List α} (s : Same H H') (h : reps G H vs as) : reps G H' vs as := h.imp fun _ _ q => Rp.mono s q
instance : Rp (List α) where
  rep G H x a := ∃ p vs, x = .ref p ∧ H p = some (.lst vs) ∧ reps G H vs a
  mono := fun s ⟨p, vs, e, h, h1⟩ => ⟨p, vs, e, s _ _ h, reps_mono s h1⟩
instance : Rc (List α) where
  con G H o a := ∃ vs, o = .lst vs ∧ reps G H vs a
  mono := fun s ⟨vs, e, h⟩ => ⟨vs, e, reps_mono s h⟩
  fz := fun h ⟨vs, e, q⟩ => ⟨_, vs, rfl, by rw [h, e], q⟩
instance : Rp (Tp α) where
  rep G H x a := ∃ p vs, x = .ref p ∧ H p = some (.tup vs) ∧ reps G H vs a.l
  mono := fun s ⟨p, vs, e, h, h1⟩ => ⟨p, vs, e, s _ _ h, reps_mono s h1⟩
/-- None, or a thing -/
instance : Rp (Option α) where
  rep G H x a := match a with
    | none => x = .non
    | some a => rep G H x a ∧ x ≠ .non
  mono := fun {G H H' v a} s h => by
    cases a with
    | none => exact h
    | some a => exact ⟨Rp.mono s h.1, h.2⟩
end
instance : Rp Scr where
  rep G H x a := ∃ p, x = .ref p ∧ SqL G.K H p (a.l.map V.int)
  mono := fun s ⟨p, e, h⟩ => ⟨p, e, s.seq h⟩
/-- plain keys -/
class Ky (κ : Type) [Rp κ] [DecidableEq κ] where
  key : κ → Key
  inj : ∀ {a b : κ}, key a = key b → a = b
  iff : ∀ (G : Gb) (H : Hp) (v : V) (a : κ), rep G H v a ↔ v = kV (key a)
instance : Ky Int := ⟨.inl, fun h => Sum.inl.inj h, fun _ _ _ _ => Iff.rfl⟩
instance : Ky Str := ⟨.inr, fun h => Sum.inr.inj h, fun _ _ _ _ => Iff.rfl⟩
/-- keys that are tuples -/
class Kt (κ : Type) [Rp κ] [DecidableEq κ] where
  key : κ → List Key
  inj : ∀ {a b : κ}, key a = key b → a = b
  iff : ∀ (G : Gb) (H : Hp) (v : V) (a : κ), rep G H v a ↔ ∃ p, v = .ref p ∧ H p = some (.tup ((key a).map kV))
instance {κ μ : Type} [Rp κ] [Rp μ] [DecidableEq κ] [DecidableEq μ] [Ky κ] [Ky μ] : Kt (κ × μ) where
  key a := [Ky.key a.1, Ky.key a.2]
  inj := fun {a b} h => by
    have h1 := List.cons.inj h
    have h2 := List.cons.inj h1.2
    exact Prod.ext (Ky.inj h1.1) (Ky.inj h2.1)
  iff := fun G H v a => by
    constructor
    · rintro ⟨p, x, y, e, h, h1, h2⟩
      refine ⟨p, e, ?_⟩
      rw [h, (Ky.iff G H x a.1).mp h1, (Ky.iff G H y a.2).mp h2]
      rfl
    · rintro ⟨p, e, h⟩
      exact ⟨p, _, _, e, h, (Ky.iff G H _ a.1).mpr rfl, (Ky.iff G H _ a.2).mpr rfl⟩
section
variable {κ α : Type} [Rp κ] [DecidableEq κ] [Rp α]
abbrev repk [Ky κ] (G : Gb) (H : Hp) (kvs : List (Key × V)) (l : List (κ × α)) : Prop := All2 (fun p q => p.1 = Ky.key q.1 ∧ rep G H p.2 q.2) kvs l
abbrev rept [Kt κ] (G : Gb) (H : Hp) (kvs : List (List Key × V)) (l : List (κ × α)) : Prop := All2 (fun p q => p.1 = Kt.key q.1 ∧ rep G H p.2 q.2) kvs l
theorem repk_mono [Ky κ] {G : Gb} {H H' : Hp} {kvs : List (Key × V)} {l : List (κ × α)} (s : Same H H') (h : repk G H kvs l) : repk G H' kvs l := h.imp fun _ _ q => ⟨q.1, Rp.mono s q.2⟩
theorem rept_mono [Kt κ] {G : Gb} {H H' : Hp} {kvs : List (List Key × V)} {l : List (κ × α)} (s : Same H H') (h : rept G H kvs l) : rept G H' kvs l := h.imp fun _ _ q => ⟨q.1, Rp.mono s q.2⟩
theorem rd_mono {H H' : Hp} {p : Addr} {o : HO} (s : Same H H') (h : Rd H p o) : Rd H' p o := by
  rcases h with h | ⟨u, h⟩
  · exact .inl (s _ _ h)
  · exact .inr ⟨u, s _ _ h⟩
instance [Ky κ] : Rp (Dk κ α) where
  rep G H x a := ∃ p kvs, x = .ref p ∧ Rd H p (.dK kvs) ∧ repk G H kvs a.l
  mono := fun s ⟨p, vs, e, h, h1⟩ => ⟨p, vs, e, rd_mono s h, repk_mono s h1⟩
instance [Kt κ] : Rp (Dt κ α) where
  rep G H x a := ∃ p kvs, x = .ref p ∧ Rd H p (.dT kvs) ∧ rept G H kvs a.l
  mono := fun s ⟨p, vs, e, h, h1⟩ => ⟨p, vs, e, rd_mono s h, rept_mono s h1⟩
instance [Ky κ] : Rc (Dk κ α) where
  con G H o a := ∃ kvs, o = .dK kvs ∧ repk G H kvs a.l
  mono := fun s ⟨vs, e, h⟩ => ⟨vs, e, repk_mono s h⟩
  fz := fun h ⟨vs, e, q⟩ => ⟨_, vs, rfl, .inl (by rw [h, e]), q⟩
instance [Kt κ] : Rc (Dt κ α) where
  con G H o a := ∃ kvs, o = .dT kvs ∧ rept G H kvs a.l
  mono := fun s ⟨vs, e, h⟩ => ⟨vs, e, rept_mono s h⟩
  fz := fun h ⟨vs, e, q⟩ => ⟨_, vs, rfl, .inl (by rw [h, e]), q⟩
end
structure RC where
  p : Addr
  l : Addr
  n : Str
  ts : List Str
def RC.r (c : RC) : Str × List Str := (c.n, c.ts)
structure Rows (H : Hp) (a : Addr) (cs : List RC) : Prop where
  top : H a = some (.lst (cs.map fun c => V.ref c.p))
  tp : ∀ c ∈ cs, H c.p = some (.tup [.str c.n, .ref c.l])
  ls : ∀ c ∈ cs, H c.l = some (.lst (c.ts.map V.str))
  nl : (cs.map RC.l).Nodup
  ne : ∀ c ∈ cs, c.l ≠ a
theorem Rows.inj {H : Hp} {a : Addr} {cs ds : List RC} (h : Rows H a cs) (k : Rows H a ds) : cs = ds := by
  have e : cs.map (fun c => V.ref c.p) = ds.map fun c => V.ref c.p := by
    have := h.top.symm.trans k.top
    injection this with this
    injection this
  refine List.ext_getElem? fun i => ?_
  have ei := congrArg (fun l : List V => l[i]?) e
  simp only [List.getElem?_map] at ei
  cases ec : cs[i]? with
  | none =>
    rw [ec] at ei
    cases ed : ds[i]? with
    | none => rfl
    | some d => rw [ed] at ei; cases ei
  | some c =>
    rw [ec] at ei
    cases ed : ds[i]? with
    | none => rw [ed] at ei; cases ei
    | some d =>
      rw [ed] at ei
      have hp : c.p = d.p := by
        have := Option.some.inj ei
        injection this
      have hc := List.mem_of_getElem? ec
      have hd := List.mem_of_getElem? ed
      have ht := h.tp c hc
      rw [hp, k.tp d hd] at ht
      injection ht with ht
      injection ht with ht
      injection ht with h1 ht
      injection ht with h2 _
      injection h1 with h1
      injection h2 with h2
      have hl := h.ls c hc
      rw [← h2, k.ls d hd] at hl
      injection hl with hl
      injection hl with hl
      have h3 : d.ts = c.ts := List.map_inj_right (fun _ _ z => V.str.inj z) |>.mp hl
      obtain ⟨p, l, n, ts⟩ := c
      obtain ⟨p', l', n', ts'⟩ := d
      simp only at hp h1 h2 h3
      rw [hp, h1, h2, h3]
def FpR (p : Addr) (cs : List RC) (b : Addr) : Prop := b = p ∨ ∃ c ∈ cs, b = c.p ∨ b = c.l
theorem Rows.keep {H H' : Hp} {a : Addr} {cs : List RC} (h : Rows H a cs) (k : ∀ b o, FpR a cs b → H b = some o → H' b = some o) : Rows H' a cs :=
  ⟨k _ _ (.inl rfl) h.top, fun c hc => k _ _ (.inr ⟨c, hc, .inl rfl⟩) (h.tp c hc), fun c hc => k _ _ (.inr ⟨c, hc, .inr rfl⟩) (h.ls c hc), h.nl, h.ne⟩
theorem Rows.there {H : Hp} {a : Addr} {cs : List RC} (h : Rows H a cs) {b : Addr} (f : FpR a cs b) : ∃ o, H b = some o := by
  rcases f with rfl | ⟨c, hc, rfl | rfl⟩
  · exact ⟨_, h.top⟩
  · exact ⟨_, h.tp c hc⟩
  · exact ⟨_, h.ls c hc⟩
/-- a dict of lists of one's own -/
def DictL (H : Hp) (p : Addr) (es : List (Key × Addr)) : Prop := H p = some (.dK (es.map fun e => (e.1, V.ref e.2)))
theorem DictL.inj {H : Hp} {p : Addr} {es fs : List (Key × Addr)} (h : DictL H p es) (k : DictL H p fs) : es = fs := by
  have e : es.map (fun e => (e.1, V.ref e.2)) = fs.map fun e => (e.1, V.ref e.2) := by
    have := (show H p = _ from h).symm.trans k
    injection this with this
    injection this
  refine List.map_inj_right (fun a b z => ?_) |>.mp e
  obtain ⟨a1, a2⟩ := a
  obtain ⟨b1, b2⟩ := b
  injection z with z1 z2
  injection z2 with z2
  exact Prod.ext z1 z2
def FpD (p : Addr) (es : List (Key × Addr)) (b : Addr) : Prop := b = p ∨ ∃ e ∈ es, b = e.2
structure DlOk {κ α : Type} [Rp κ] [DecidableEq κ] [Ky κ] [Rp α] (G : Gb) (F H : Hp) (p : Addr) (es : List (Key × Addr)) (d : List (κ × List α)) : Prop where
  top : DictL H p es
  all : All2 (fun (e : Key × Addr) (q : κ × List α) => e.1 = Ky.key q.1 ∧ ∃ vs, H e.2 = some (.lst vs) ∧ reps G F vs q.2) es d
  nl : (es.map (·.2)).Nodup
  ne : ∀ e ∈ es, e.2 ≠ p
theorem All2.mem {α : Type u} {β : Type v} {R : α → β → Prop} {l : List α} {m : List β} {a : α} (h : All2 R l m) (ha : a ∈ l) : ∃ b, b ∈ m ∧ R a b := by
  obtain ⟨i, hi⟩ := List.mem_iff_getElem?.mp ha
  obtain ⟨b, hb, r⟩ := h.get hi
  exact ⟨b, List.mem_of_getElem? hb, r⟩
theorem All2.impm {α : Type u} {β : Type v} {R S : α → β → Prop} {l : List α} {m : List β} (h : All2 R l m) (f : ∀ a b, a ∈ l → R a b → S a b) : All2 S l m := by
  induction h with
  | nil => exact .nil
  | cons r t ih => exact .cons (f _ _ List.mem_cons_self r) (ih fun a b ha => f a b (List.mem_cons_of_mem _ ha))
theorem DlOk.there {κ α : Type} [Rp κ] [DecidableEq κ] [Ky κ] [Rp α] {G : Gb} {F H : Hp} {p : Addr} {es : List (Key × Addr)} {d : List (κ × List α)} (h : DlOk G F H p es d) {b : Addr} (f : FpD p es b) : ∃ o, H b = some o := by
  rcases f with rfl | ⟨e, he, rfl⟩
  · exact ⟨_, h.top⟩
  · obtain ⟨q, _, _, vs, hv, _⟩ := h.all.mem he
    exact ⟨_, hv⟩
theorem DlOk.keep {κ α : Type} [Rp κ] [DecidableEq κ] [Ky κ] [Rp α] {G : Gb} {F F' H H' : Hp} {p : Addr} {es : List (Key × Addr)} {d : List (κ × List α)} (h : DlOk G F H p es d) (hf : Same F F') (k : ∀ b o, FpD p es b → H b = some o → H' b = some o) : DlOk G F' H' p es d :=
  ⟨k _ _ (.inl rfl) h.top, h.all.impm fun e q he ⟨r1, vs, r2, r3⟩ => ⟨r1, vs, k _ _ (.inr ⟨e, he, rfl⟩) r2, reps_mono hf r3⟩, h.nl, h.ne⟩
abbrev RowsT := List (Str × List Str)
theorem Rows.rep {G : Gb} {H : Hp} {a : Addr} {cs : List RC} (h : Rows H a cs) : rep G H (.ref a) (cs.map RC.r) := by
  refine ⟨a, _, rfl, h.top, ?_⟩
  have : ∀ ds : List RC, (∀ c ∈ ds, c ∈ cs) → reps G H (ds.map fun c => V.ref c.p) (ds.map RC.r) := by
    intro ds
    induction ds with
    | nil => exact fun _ => .nil
    | cons d r ih => exact fun k => .cons ⟨d.p, _, _, rfl, h.tp d (k d List.mem_cons_self), rfl, ⟨d.l, _, rfl, h.ls d (k d List.mem_cons_self), .of_map (R := Tw.rep G H) (f := V.str) (fun _ => rfl) _⟩⟩ (ih fun c hc => k c (List.mem_cons_of_mem _ hc))
  exact this cs fun c hc => hc
/-- a thing that may be changed, of any kind -/
structure Fx : Type 1 where
  {α : Type}
  [i : Rp α]
  [j : Rc α]
  a : α
/-- .. and where it stands -/
abbrev Fd := Addr × Fx
def FdOk (G : Gb) (B F H : Hp) (d : Fd) : Prop := B d.1 = none ∧ F d.1 = none ∧ ∃ o, H d.1 = some o ∧ @Rc.con _ d.2.i d.2.j G F o d.2.a
abbrev insF (ns : List Str) (fl : List Fd) : List (Str × V) := ns.zip (fl.map fun d => V.ref d.1)
/-- things of one's own by their shape: what they own is told by the heap -/
class Sh (α : Type) where
  fp : Hp → V → List Addr
  ok : Gb → Hp → Hp → V → α → Prop
  there : ∀ {G : Gb} {F H : Hp} {v : V} {a : α} {b : Addr}, ok G F H v a → b ∈ fp H v → ∃ o, H b = some o
  keep : ∀ {G : Gb} {F F' H H' : Hp} {v : V} {a : α}, ok G F H v a → Same F F' → (∀ b o, b ∈ fp H v → H b = some o → H' b = some o) → ok G F' H' v a ∧ fp H' v = fp H v
inductive Slot : Type 1 where
  /-- frozen; borrowed; owned; owned and locked; rows that are owned down to their lists -/
  | fz {α : Type} [Rp α] (a : α)
  | bw {α : Type} [Rp α] (a : α)
  | ow {α : Type} [Rp α] [Rc α] (a : α)
  | lk {α : Type} [Rp α] [Rc α] (p : Addr) (ob : Obj) (u : HO) (a : α)
  | dr (p : Addr) (a : RowsT)
  | dd {κ α : Type} [Rp κ] [DecidableEq κ] [Ky κ] [Rp α] (p : Addr) (d : List (κ × List α))
  /-- an instance that is being made: its fields hold things of its own -/
  | ins (p C dx : Addr) (ns : List Str) (fl : List Fd)
  /-- a thing whose changeable parts are all one's own -/
  | rg {α : Type} [Rp α] (Fr : Hp) (a : α)
  /-- a part of such a thing -/
  | al {α : Type} [Rp α] (Fr : Hp) (a : α)
  /-- a thing of one's own by its shape; a value that is known -/
  | sh {α : Type} [Sh α] (a : α)
  | vl (v : V)
def un (F Fr : Hp) : Hp := fun b => match F b with
  | some o => some o
  | none => Fr b
theorem un_l {F Fr : Hp} {b : Addr} {o : HO} (h : F b = some o) : un F Fr b = some o := by unfold un; rw [h]
theorem un_r {F Fr : Hp} {b : Addr} (h : F b = none) : un F Fr b = Fr b := by unfold un; rw [h]
/-- the tuples -/
def tups (F : Hp) : Hp := fun b => match F b with
  | some (.tup xs) => some (.tup xs)
  | _ => none
theorem tups_of {F : Hp} {b : Addr} {xs : List V} (h : F b = some (.tup xs)) : tups F b = some (.tup xs) := by unfold tups; rw [h]
theorem tups_non {F : Hp} {b : Addr} (h : F b = none) : tups F b = none := by unfold tups; rw [h]
theorem tups_some {F : Hp} {b : Addr} {o : HO} (h : tups F b = some o) : F b = some o ∧ ∃ xs, o = .tup xs := by
  unfold tups at h
  split at h
  · rename_i xs e; cases h; exact ⟨e, xs, rfl⟩
  · cases h
theorem tups_mono {F F' : Hp} (s : Same F F') : Same (tups F) (tups F') := fun b o h => by
  obtain ⟨h1, xs, rfl⟩ := tups_some h
  exact tups_of (s _ _ h1)
abbrev Evr := List (Option Slot)
def SlOk (G : Gb) (B F H : Hp) : Option Slot → Option V → Prop
  | none, _ => True
  | some (@Slot.fz _ i a), x => ∃ v, x = some v ∧ @Rp.rep _ i G F v a
  | some (@Slot.bw _ i a), x => ∃ v, x = some v ∧ @Rp.rep _ i G B v a
  | some (@Slot.ow _ i j a), x => ∃ p o, x = some (.ref p) ∧ B p = none ∧ F p = none ∧ H p = some o ∧ @Rc.con _ i j G F o a
  | some (@Slot.lk _ i j p ob u a), x => x = some (.ref p) ∧ B p = none ∧ F p = none ∧ H p = some (.frz ob u) ∧ @Rc.con _ i j G F u a
  | some (Slot.dr p a), x => ∃ cs, x = some (.ref p) ∧ Rows H p cs ∧ cs.map RC.r = a ∧ ∀ b, FpR p cs b → B b = none ∧ F b = none
  | some (@Slot.dd _ _ i1 i2 i3 i4 p d), x => ∃ es, x = some (.ref p) ∧ DlOk G F H p es d ∧ ∀ b, FpD p es b → B b = none ∧ F b = none
  | some (Slot.ins p C dx ns fl), x => x = some (.ref p) ∧ B p = none ∧ F p = none ∧ H p = some (.ins C dx (insF ns fl)) ∧ (∀ d ∈ fl, FdOk G B F H d) ∧ (p :: fl.map (·.1)).Nodup
  | some (@Slot.rg _ i Fr a), x => ∃ v, x = some v ∧ @Rp.rep _ i G (un (tups F) Fr) v a ∧ Same Fr H ∧ (∀ b, Fr b ≠ none → B b = none ∧ F b = none) ∧ ∀ b xs, Fr b ≠ some (.tup xs)
  | some (@Slot.sh _ i a), x => ∃ v, x = some v ∧ @Sh.ok _ i G F H v a ∧ ∀ b, b ∈ @Sh.fp _ i H v → B b = none ∧ F b = none
  | some (Slot.vl v), x => x = some v
  | some (@Slot.al _ i Fr a), x => ∃ v F1, x = some v ∧ Same F1 F ∧ @Rp.rep _ i G (un (tups F1) Fr) v a
/-- what a slot owns -/
def Fp (H : Hp) : Option Slot → Option V → Addr → Prop
  | some (@Slot.ow _ _ _ _), x, b => x = some (.ref b)
  | some (@Slot.lk _ _ _ _ _ _ _), x, b => x = some (.ref b)
  | some (Slot.dr p _), x, b => ∃ cs, x = some (.ref p) ∧ Rows H p cs ∧ FpR p cs b
  | some (@Slot.dd _ _ _ _ _ _ p _), x, b => ∃ es, x = some (.ref p) ∧ DictL H p es ∧ FpD p es b
  | some (Slot.ins p _ _ _ fl), x, b => x = some (.ref p) ∧ b ∈ p :: fl.map (·.1)
  | some (@Slot.rg _ _ Fr _), _, b => Fr b ≠ none
  | some (@Slot.sh _ i _), x, b => ∃ v, x = some v ∧ b ∈ @Sh.fp _ i H v
  | _, _, _ => False
def isOw : Option Slot → Bool
  | some (@Slot.ow _ _ _ _) => true
  | some (@Slot.lk _ _ _ _ _ _ _) => true
  | some (Slot.dr _ _) => true
  | some (@Slot.dd _ _ _ _ _ _ _ _) => true
  | some (Slot.ins _ _ _ _ _) => true
  | some (@Slot.rg _ _ _ _) => true
  | some (@Slot.sh _ _ _) => true
  | _ => false
theorem Fp.own {H : Hp} {s : Option Slot} {x : Option V} {b : Addr} (h : Fp H s x b) : isOw s = true := by
  cases s with
  | none => cases h
  | some s => cases s <;> first | rfl | cases h
section
variable {G : Gb} {B F F' H H' : Hp} {s : Option Slot} {x : Option V} {b : Addr}
theorem Fp.at (h : SlOk G B F H s x) (f : Fp H s x b) : (∃ o, H b = some o) ∧ B b = none ∧ F b = none := by
  cases s with
  | none => cases f
  | some s =>
    cases s with
    | fz a => cases f
    | bw a => cases f
    | al Fr a => cases f
    | vl v => cases f
    | sh a =>
      obtain ⟨v, e, h1, h2⟩ := h
      obtain ⟨w, e2, f⟩ := f
      rw [e] at e2; cases e2
      exact ⟨Sh.there h1 f, h2 b f⟩
    | ow a => obtain ⟨p, o, e, h1, h2, h3, _⟩ := h; rw [show x = _ from f] at e; cases e; exact ⟨⟨o, h3⟩, h1, h2⟩
    | lk p ob u a => obtain ⟨e, h1, h2, h3, _⟩ := h; rw [show x = _ from f] at e; cases e; exact ⟨⟨_, h3⟩, h1, h2⟩
    | dr p a =>
      obtain ⟨cs, e, h1, _, h3⟩ := h
      obtain ⟨ds, e2, k1, k2⟩ := f
      have := h1.inj k1
      subst this
      exact ⟨h1.there k2, h3 b k2⟩
    | dd p d =>
      obtain ⟨es, e, h1, h3⟩ := h
      obtain ⟨fs, e2, k1, k2⟩ := f
      have := h1.top.inj k1
      subst this
      exact ⟨h1.there k2, h3 b k2⟩
    | ins p C dx ns fl =>
      obtain ⟨e, h1, h2, h3, h4, h5⟩ := h
      obtain ⟨e2, k⟩ := f
      rcases List.mem_cons.mp k with rfl | k
      · exact ⟨⟨_, h3⟩, h1, h2⟩
      · obtain ⟨d, hd, rfl⟩ := List.mem_map.mp k
        obtain ⟨q1, q2, o, q3, _⟩ := h4 d hd
        exact ⟨⟨o, q3⟩, q1, q2⟩
    | rg Fr a =>
      obtain ⟨v, e, h1, h2, h3, _⟩ := h
      cases q : Fr b with
      | none => exact absurd q f
      | some o => exact ⟨⟨o, h2 _ _ q⟩, h3 b f⟩
theorem Fp.lift (h : SlOk G B F H s x) (k : ∀ b o, Fp H s x b → H b = some o → H' b = some o) (f : Fp H' s x b) : Fp H s x b := by
  cases s with
  | none => cases f
  | some s =>
    cases s with
    | fz a => cases f
    | bw a => cases f
    | al Fr a => cases f
    | vl v => cases f
    | sh a =>
      obtain ⟨v, e, h1, h2⟩ := h
      obtain ⟨w, e2, f⟩ := f
      rw [e] at e2; cases e2
      rw [(Sh.keep h1 (.refl _) fun b o z => k b o ⟨v, e, z⟩).2] at f
      exact ⟨v, e, f⟩
    | ow a => exact f
    | lk p ob u a => exact f
    | dr p a =>
      obtain ⟨cs, e, h1, _, _⟩ := h
      obtain ⟨ds, e2, k1, k2⟩ := f
      have := (h1.keep (H' := H') fun b o f2 => k b o ⟨cs, e, h1, f2⟩).inj k1
      subst this
      exact ⟨cs, e, h1, k2⟩
    | dd p d =>
      obtain ⟨es, e, h1, _⟩ := h
      obtain ⟨fs, e2, k1, k2⟩ := f
      have := (show DictL H' p es from k p _ ⟨es, e, h1.top, .inl rfl⟩ h1.top).inj k1
      subst this
      exact ⟨es, e, h1.top, k2⟩
    | ins p C dx ns fl => exact f
    | rg Fr a => exact f
theorem SlOk.frame (h : SlOk G B F H s x) (hf : Same F F') (k : ∀ b o, Fp H s x b → H b = some o → H' b = some o) (n : ∀ b, Fp H s x b → F' b = none) : SlOk G B F' H' s x := by
  cases s with
  | none => exact trivial
  | some s =>
    cases s with
    | fz a => obtain ⟨v, e1, e2⟩ := h; exact ⟨v, e1, Rp.mono hf e2⟩
    | bw a => exact h
    | al Fr a => obtain ⟨v, F1, e1, e2, e3⟩ := h; exact ⟨v, F1, e1, e2.trans hf, e3⟩
    | vl v => exact h
    | sh a =>
      obtain ⟨v, e, h1, h2⟩ := h
      obtain ⟨q1, q2⟩ := Sh.keep h1 hf fun b o z => k b o ⟨v, e, z⟩
      exact ⟨v, e, q1, fun b z => by rw [q2] at z; exact ⟨(h2 b z).1, n b ⟨v, e, z⟩⟩⟩
    | ow a => obtain ⟨p, o, e1, e2, e3, e4, e5⟩ := h; exact ⟨p, o, e1, e2, n p e1, k p o e1 e4, Rc.mono hf e5⟩
    | lk p ob u a => obtain ⟨e1, e2, e3, e4, e5⟩ := h; exact ⟨e1, e2, n p e1, k p _ e1 e4, Rc.mono hf e5⟩
    | dr p a =>
      obtain ⟨cs, e, h1, h2, h3⟩ := h
      exact ⟨cs, e, h1.keep fun b o f => k b o ⟨cs, e, h1, f⟩, h2, fun b f => ⟨(h3 b f).1, n b ⟨cs, e, h1, f⟩⟩⟩
    | dd p d =>
      obtain ⟨es, e, h1, h3⟩ := h
      exact ⟨es, e, h1.keep hf fun b o f => k b o ⟨es, e, h1.top, f⟩, fun b f => ⟨(h3 b f).1, n b ⟨es, e, h1.top, f⟩⟩⟩
    | ins p C dx ns fl =>
      obtain ⟨e, h1, h2, h3, h4, h5⟩ := h
      refine ⟨e, h1, n p ⟨e, List.mem_cons_self⟩, k p _ ⟨e, List.mem_cons_self⟩ h3, fun d hd => ?_, h5⟩
      obtain ⟨q1, q2, o, q3, q4⟩ := h4 d hd
      have hm : d.1 ∈ p :: fl.map (·.1) := List.mem_cons_of_mem _ (List.mem_map.mpr ⟨d, hd, rfl⟩)
      exact ⟨q1, n _ ⟨e, hm⟩, o, k _ _ ⟨e, hm⟩ q3, @Rc.mono _ d.2.i d.2.j _ _ _ _ _ hf q4⟩
    | rg Fr a =>
      obtain ⟨v, e, h1, h2, h3, h4⟩ := h
      refine ⟨v, e, Rp.mono (fun b o z => ?_) h1, fun b o z => k b o (by show Fr b ≠ none; rw [z]; exact fun w => nomatch w) (h2 _ _ z), fun b z => ⟨(h3 b z).1, n b z⟩, h4⟩
      cases q : tups F b with
      | some u => rw [un_l q] at z; exact un_l (tups_mono hf _ _ (by rw [q]; exact z))
      | none =>
        rw [un_r q] at z
        rw [un_r (tups_non (n b (by show Fr b ≠ none; rw [z]; exact fun w => nomatch w)))]
        exact z
end
structure Rel (G : Gb) (B F0 F : Hp) (ρ : Evr) (σ : L2.St) (H : Hp) : Prop where
  sB : Same B H
  sF : Same F H
  s0 : Same F0 F
  nw : ∀ a, F0 a = none → F a ≠ none → B a = none
  len : ρ.length = σ.length
  sl : ∀ (i : Nat) (s : Option Slot) (x : Option V), ρ[i]? = some s → σ[i]? = some x → SlOk G B F H s x
  ds : ∀ (i j : Nat) (s t : Option Slot) (x y : Option V) (b : Addr), ρ[i]? = some s → σ[i]? = some x → ρ[j]? = some t → σ[j]? = some y → Fp H s x b → Fp H t y b → i = j
/-- heaps grow: what is newly frozen is new -/
structure Ext (F H F' H' : Hp) : Prop where
  f : Same F F'
  h : Same H H'
  n : ∀ a, F a = none → F' a ≠ none → H a = none
theorem Ext.refl (F H : Hp) : Ext F H F H := ⟨.refl _, .refl _, fun a h q => absurd h q⟩
theorem Ext.trans {F H F1 H1 F2 H2 : Hp} (a : Ext F H F1 H1) (b : Ext F1 H1 F2 H2) : Ext F H F2 H2 := ⟨a.f.trans b.f, a.h.trans b.h, fun x h q => by
  cases e : F1 x with
  | none => exact a.h.free (b.n x e q)
  | some o => exact a.n x h (by rw [e]; exact fun z => nomatch z)⟩
theorem Ext.non {F H F' H' : Hp} (e : Ext F H F' H') {p : Addr} {o : HO} (h : H p = some o) (f : F p = none) : F' p = none := by
  cases q : F' p with
  | none => rfl
  | some u => exact absurd (e.n p f (by rw [q]; exact fun z => nomatch z)) (by rw [h]; exact fun z => nomatch z)
/-- a thing that is made anew and stays unfrozen -/
theorem Ext.new {F H : Hp} {p : Addr} {o : HO} (h : H p = none) : Ext F H F (upd H p o) := ⟨.refl _, same_upd h, fun a e q => absurd e q⟩
/-- a thing that is made anew and frozen -/
theorem Ext.newF {F H : Hp} {p : Addr} {o : HO} (s : Same F H) (h : H p = none) : Ext F H (upd F p o) (upd H p o) := ⟨same_upd (s.free h), same_upd h, fun a e q => by
  by_cases z : a = p
  · rw [z]; exact h
  · rw [upd_ne z] at q; exact absurd e q⟩
theorem same_both {F H : Hp} {p : Addr} {o : HO} (s : Same F H) : Same (upd F p o) (upd H p o) := fun a u e => by
  by_cases z : a = p
  · subst z; rw [upd_same] at e ⊢; exact e
  · rw [upd_ne z] at e ⊢; exact s _ _ e
theorem same_updR {F H : Hp} {p : Addr} {o : HO} (s : Same F H) (f : F p = none) : Same F (upd H p o) := fun a u e => by
  rw [upd_ne (fun z => by rw [z, f] at e; cases e)]; exact s _ _ e
theorem set_at {α : Type u} {l : List α} {i j : Nat} {x y : α} (h : (l.set i x)[j]? = some y) : (i = j ∧ y = x ∧ ∃ z, l[i]? = some z) ∨ (i ≠ j ∧ l[j]? = some y) := by
  by_cases e : i = j
  · subst e
    rw [List.getElem?_set_self'] at h
    cases q : l[i]? with
    | none => rw [q] at h; cases h
    | some z => rw [q] at h; cases h; exact .inl ⟨rfl, rfl, z, rfl⟩
  · rw [List.getElem?_set_ne e] at h
    exact .inr ⟨e, h⟩
section
variable {G : Gb} {B F0 F F' H H' : Hp} {ρ : Evr} {σ : L2.St}
theorem Rel.ext (R : Rel G B F0 F ρ σ H) (e : Ext F H F' H') (s : Same F' H') : Rel G B F0 F' ρ σ H' where
  sB := R.sB.trans e.h
  sF := s
  s0 := R.s0.trans e.f
  nw := fun a h q => by
    cases z : F a with
    | none => exact R.sB.free (e.n a z q)
    | some o => exact R.nw a h (by rw [z]; exact fun z => nomatch z)
  len := R.len
  sl := fun i s x hs hx => (R.sl i s x hs hx).frame e.f (fun b o _ z => e.h _ _ z) fun b f => by
    obtain ⟨⟨o, h1⟩, _, h3⟩ := Fp.at (R.sl i s x hs hx) f
    exact e.non h1 h3
  ds := fun i j s t x y b hi hx hj hy f g => R.ds i j s t x y b hi hx hj hy (Fp.lift (R.sl i s x hi hx) (fun _ _ _ z => e.h _ _ z) f) (Fp.lift (R.sl j t y hj hy) (fun _ _ _ z => e.h _ _ z) g)
theorem Rel.base (R : Rel G B F0 F ρ σ H) : Rel G B F F ρ σ H := ⟨R.sB, R.sF, .refl _, fun a h q => absurd h q, R.len, R.sl, R.ds⟩
theorem Rel.under {F1 : Hp} {ρ' : Evr} {σ' : L2.St} (R : Rel G B F0 F ρ σ H) (R' : Rel G B F F1 ρ' σ' H') : Rel G B F0 F1 ρ' σ' H' := ⟨R'.sB, R'.sF, R.s0.trans R'.s0, fun a h q => by
  cases z : F a with
  | none => exact R'.nw a z q
  | some o => exact R.nw a h (by rw [z]; exact fun z => nomatch z), R'.len, R'.sl, R'.ds⟩
/-- the slot i is set anew: what it owns is owned by no other -/
theorem Rel.setv {i : Nat} {s : Option Slot} {v : Option V} (R : Rel G B F0 F ρ σ H) (h : SlOk G B F H s v) (hn : ∀ b, Fp H s v b → ∀ (j : Nat) (t : Option Slot) (y : Option V), j ≠ i → ρ[j]? = some t → σ[j]? = some y → ¬ Fp H t y b) : Rel G B F0 F (ρ.set i s) (σ.set i v) H where
  sB := R.sB
  sF := R.sF
  s0 := R.s0
  nw := R.nw
  len := by rw [List.length_set, List.length_set]; exact R.len
  sl := fun j t x hs hx => by
    rcases set_at hs with ⟨rfl, rfl, _⟩ | ⟨e, hs⟩
    · rcases set_at hx with ⟨_, rfl, _⟩ | ⟨e, _⟩
      · exact h
      · exact absurd rfl e
    · rcases set_at hx with ⟨e2, _⟩ | ⟨_, hx⟩
      · exact absurd e2 e
      · exact R.sl j t x hs hx
  ds := fun j k t u x y b hj hx hk hy f g => by
    rcases set_at hj with ⟨rfl, rfl, _⟩ | ⟨e, hj'⟩
    · rcases set_at hx with ⟨_, rfl, _⟩ | ⟨e, _⟩
      · rcases set_at hk with ⟨rfl, _⟩ | ⟨e2, hk⟩
        · rfl
        · rcases set_at hy with ⟨e3, _⟩ | ⟨_, hy⟩
          · exact absurd e3 e2
          · exact absurd g (hn b f k u y (Ne.symm e2) hk hy)
      · exact absurd rfl e
    · rcases set_at hx with ⟨e2, _⟩ | ⟨_, hx'⟩
      · exact absurd e2 e
      · rcases set_at hk with ⟨e2, e4, _⟩ | ⟨e2, hk'⟩
        · rcases set_at hy with ⟨_, e5, _⟩ | ⟨e3, _⟩
          · rw [e4, e5] at g
            exact absurd f (hn b g j t x (Ne.symm e) hj' hx')
          · exact absurd e2 e3
        · rcases set_at hy with ⟨e3, _⟩ | ⟨_, hy'⟩
          · exact absurd e3 e2
          · exact R.ds j k t u x y b hj' hx' hk' hy' f g
/-- the slot i gets a frozen or borrowed thing -/
theorem Rel.put {i : Nat} {s : Slot} {v : V} (R : Rel G B F0 F ρ σ H) (h : SlOk G B F H (some s) (some v)) (ho : isOw (some s) = false) : Rel G B F0 F (ρ.set i (some s)) (σ.set i (some v)) H :=
  R.setv h fun b f => by rw [f.own] at ho; cases ho
/-- what is new is owned by no slot -/
theorem Rel.fresh {p : Addr} (R : Rel G B F0 F ρ σ H) (h : H p = none) : ∀ (j : Nat) (s : Option Slot) (x : Option V), ρ[j]? = some s → σ[j]? = some x → ¬ Fp H s x p := fun j s x hs hx f => by
  obtain ⟨⟨o, e⟩, _⟩ := Fp.at (R.sl j s x hs hx) f
  rw [h] at e
  cases e
theorem Rel.freshE {p : Addr} (R : Rel G B F0 F ρ σ H) (h : H p = none) (s : Same H H') : ∀ (j : Nat) (t : Option Slot) (y : Option V), ρ[j]? = some t → σ[j]? = some y → ¬ Fp H' t y p := fun j t y hj hy f => R.fresh h j t y hj hy (Fp.lift (R.sl j t y hj hy) (fun _ _ _ z => s _ _ z) f)
/-- a new thing of one's own -/
theorem Rel.own {α : Type} [Rp α] [Rc α] {i : Nat} {a : α} {p : Addr} {o : HO} (R : Rel G B F0 F ρ σ H) (hB : B p = none) (hF : F p = none) (hH : H p = some o) (c : con G F o a) (hn : ∀ (j : Nat) (s : Option Slot) (x : Option V), ρ[j]? = some s → σ[j]? = some x → ¬ Fp H s x p) :
    Rel G B F0 F (ρ.set i (some (.ow a))) (σ.set i (some (.ref p))) H := R.setv ⟨p, o, rfl, hB, hF, hH, c⟩ fun b f j t y _ hj hy g => by
  have e : b = p := by
    have : (some (V.ref p) : Option V) = some (.ref b) := f
    injection this with this
    injection this with this
    exact this.symm
  rw [e] at g
  exact hn j t y hj hy g
/-- the things of slot i are changed; what it owns now is what it owned, or new -/
theorem Rel.mod {i : Nat} {s s' : Option Slot} {x : Option V} (R : Rel G B F0 F ρ σ H) (hi : ρ[i]? = some s) (hx : σ[i]? = some x) (hk : ∀ b o, ¬ Fp H s x b → H b = some o → H' b = some o) (c : SlOk G B F H' s' x) (hf : ∀ b, Fp H' s' x b → Fp H s x b ∨ ∀ (j : Nat) (t : Option Slot) (y : Option V), ρ[j]? = some t → σ[j]? = some y → ¬ Fp H t y b) :
    Rel G B F0 F (ρ.set i s') σ H' := by
  have sb : ∀ {b : Addr}, Fp H s x b → (∃ o, H b = some o) ∧ B b = none ∧ F b = none := fun f => Fp.at (R.sl i s x hi hx) f
  have same : ∀ {A : Hp}, (∀ b, Fp H s x b → A b = none) → Same A H → Same A H' := fun ha sa b o e => hk b o (fun f => by rw [ha b f] at e; cases e) (sa _ _ e)
  have hoth : ∀ (j : Nat) (t : Option Slot) (y : Option V), i ≠ j → ρ[j]? = some t → σ[j]? = some y → ∀ b o, Fp H t y b → H b = some o → H' b = some o := fun j t y ne hj hy b o f e => hk b o (fun g => ne (R.ds i j s t x y b hi hx hj hy g f)) e
  refine ⟨same (fun b f => (sb f).2.1) R.sB, same (fun b f => (sb f).2.2) R.sF, R.s0, R.nw, by rw [List.length_set]; exact R.len, fun j t y hj hy => ?_, fun j k t u y z b hj hy hk2 hz f g => ?_⟩
  · rcases set_at hj with ⟨rfl, rfl, _⟩ | ⟨ne, hj⟩
    · rw [hx] at hy
      cases hy
      exact c
    · exact (R.sl j t y hj hy).frame (.refl _) (hoth j t y ne hj hy) fun b f => (Fp.at (R.sl j t y hj hy) f).2.2
  · have key : ∀ (k : Nat) (u : Option Slot) (z : Option V), i ≠ k → ρ[k]? = some u → σ[k]? = some z → Fp H' s' x b → Fp H' u z b → False := fun k u z ne hk2 hz f g => by
      have g' := Fp.lift (R.sl k u z hk2 hz) (hoth k u z ne hk2 hz) g
      rcases hf b f with f' | f'
      · exact ne (R.ds i k s u x z b hi hx hk2 hz f' g')
      · exact f' k u z hk2 hz g'
    rcases set_at hj with ⟨rfl, rfl, _⟩ | ⟨ne, hj⟩
    · rw [hx] at hy
      cases hy
      rcases set_at hk2 with ⟨rfl, _⟩ | ⟨ne2, hk2⟩
      · rfl
      · exact (key k u z ne2 hk2 hz f g).elim
    · rcases set_at hk2 with ⟨e2, e3, _⟩ | ⟨ne2, hk2⟩
      · rw [← e2, hx] at hz
        cases hz
        rw [e3] at g
        exact (key j t y ne hj hy g f).elim
      · exact R.ds j k t u y z b hj hy hk2 hz (Fp.lift (R.sl j t y hj hy) (hoth j t y ne hj hy) f) (Fp.lift (R.sl k u z hk2 hz) (hoth k u z ne2 hk2 hz) g)
/-- the one thing of slot i stands otherwise -/
theorem Rel.shift {i : Nat} {s : Option Slot} {s' : Slot} {p : Addr} {o : HO} (R : Rel G B F0 F ρ σ H) (hi : ρ[i]? = some s) (hs : σ[i]? = some (some (.ref p))) (ho : Fp H s (some (.ref p)) p) (c : SlOk G B F (upd H p o) (some s') (some (.ref p))) (hf : ∀ b, Fp (upd H p o) (some s') (some (.ref p)) b → b = p) :
    Rel G B F0 F (ρ.set i (some s')) σ (upd H p o) :=
  R.mod hi hs (fun b u nf e => by rw [upd_ne (fun z => nf (by rw [z]; exact ho))]; exact e) c fun b f => .inl (by rw [hf b f]; exact ho)
theorem Rel.change {α : Type} [Rp α] [Rc α] {i : Nat} {a : α} {s : Option Slot} {p : Addr} {o : HO} (R : Rel G B F0 F ρ σ H) (hi : ρ[i]? = some s) (ho : Fp H s (some (.ref p)) p) (hs : σ[i]? = some (some (.ref p))) (hB : B p = none) (hF : F p = none) (c : con G F o a) :
    Rel G B F0 F (ρ.set i (some (.ow a))) σ (upd H p o) := R.shift hi hs ho ⟨p, o, rfl, hB, hF, upd_same, c⟩ fun b f => by
  have : (some (V.ref p) : Option V) = some (.ref b) := f
  injection this with this
  injection this with this
  exact this.symm
/-- what is known is forgotten -/
inductive Wk : Evr → Evr → Prop
  | nil : Wk [] []
  | keep {s : Option Slot} {ρ ρ' : Evr} : Wk ρ ρ' → Wk (s :: ρ) (s :: ρ')
  | drop {s : Option Slot} {ρ ρ' : Evr} : Wk ρ ρ' → Wk (s :: ρ) (none :: ρ')
theorem Wk.len : ∀ {ρ ρ' : Evr}, Wk ρ ρ' → ρ.length = ρ'.length
  | _, _, .nil => rfl
  | _, _, .keep h => by rw [List.length_cons, List.length_cons, h.len]
  | _, _, .drop h => by rw [List.length_cons, List.length_cons, h.len]
theorem Wk.at : ∀ {ρ ρ' : Evr} {i : Nat} {s : Option Slot}, Wk ρ ρ' → ρ'[i]? = some s → s = none ∨ ρ[i]? = some s
  | _, _, _, _, .nil, e => by simp at e
  | _, _, 0, _, .keep _, e => .inr e
  | _, _, 0, _, .drop _, e => by simp at e; exact .inl e.symm
  | _, _, i + 1, s, .keep h, e => h.at (i := i) (s := s) (by simpa using e) |>.imp id fun q => by simpa using q
  | _, _, i + 1, s, .drop h, e => h.at (i := i) (s := s) (by simpa using e) |>.imp id fun q => by simpa using q
theorem Rel.weak {ρ' : Evr} (R : Rel G B F0 F ρ σ H) (w : Wk ρ ρ') : Rel G B F0 F ρ' σ H where
  sB := R.sB
  sF := R.sF
  s0 := R.s0
  nw := R.nw
  len := w.len.symm.trans R.len
  sl := fun i s x hs hx => by
    rcases w.at hs with e | e
    · subst e; exact trivial
    · exact R.sl i s x e hx
  ds := fun i j s t x y b hi hx hj hy f g => by
    rcases w.at hi with e | e
    · subst e; cases f
    · rcases w.at hj with e' | e'
      · subst e'; cases g
      · exact R.ds i j s t x y b e hx e' hy f g
/-- what slot i owns is frozen -/
theorem Rel.freezeG {i : Nat} {s s' : Option Slot} {x : Option V} {F' : Hp} (R : Rel G B F0 F ρ σ H) (hi : ρ[i]? = some s) (hx : σ[i]? = some x) (sf : Same F F') (sh : Same F' H) (hn : ∀ b, F b = none → F' b ≠ none → Fp H s x b) (c : SlOk G B F' H s' x) (ho : isOw s' = false) :
    Rel G B F0 F' (ρ.set i s') σ H := by
  have none : ∀ (j : Nat) (t : Option Slot) (y : Option V), i ≠ j → ρ[j]? = some t → σ[j]? = some y → ∀ b, Fp H t y b → F' b = Option.none := fun j t y ne hj hy b f => by
    cases e : F' b with
    | none => rfl
    | some o => exact absurd (R.ds i j s t x y b hi hx hj hy (hn b (Fp.at (R.sl j t y hj hy) f).2.2 (by rw [e]; exact fun z => nomatch z)) f) ne
  refine ⟨R.sB, sh, R.s0.trans sf, fun a h q => ?_, by rw [List.length_set]; exact R.len, fun j t y hj hy => ?_, fun j k t u y z b hj hy hk hz f g => ?_⟩
  · cases e : F a with
    | none => exact (Fp.at (R.sl i s x hi hx) (hn a e q)).2.1
    | some o => exact R.nw a h (by rw [e]; exact fun z => nomatch z)
  · rcases set_at hj with ⟨rfl, rfl, _⟩ | ⟨ne, hj⟩
    · rw [hx] at hy
      cases hy
      exact c
    · exact (R.sl j t y hj hy).frame sf (fun _ _ _ z => z) (none j t y ne hj hy)
  · rcases set_at hj with ⟨rfl, rfl, _⟩ | ⟨ne, hj⟩
    · rw [f.own] at ho; cases ho
    · rcases set_at hk with ⟨rfl, rfl, _⟩ | ⟨ne2, hk⟩
      · rw [g.own] at ho; cases ho
      · exact R.ds j k t u y z b hj hy hk hz f g
theorem Rel.freeze {α : Type} [Rp α] [Rc α] {i : Nat} {a : α} (R : Rel G B F0 F ρ σ H) (hi : ρ[i]? = some (some (.ow a))) : ∃ F', Rel G B F0 F' (ρ.set i (some (.fz a))) σ H := by
  have hil : i < σ.length := by rw [← R.len]; exact (List.getElem?_eq_some_iff.mp hi).1
  obtain ⟨x, hx⟩ : ∃ x, σ[i]? = some x := ⟨σ[i], List.getElem?_eq_getElem hil⟩
  obtain ⟨p, o, e1, e2, e3, e4, e5⟩ := R.sl i _ x hi hx
  subst e1
  have s1 : Same F (upd F p o) := same_upd e3
  refine ⟨upd F p o, R.freezeG hi hx s1 (fun b u e => ?_) (fun b h q => ?_) ⟨_, rfl, Rc.fz upd_same (Rc.mono s1 e5)⟩ rfl⟩
  · by_cases z : b = p
    · subst z; rw [upd_same] at e; cases e; exact e4
    · rw [upd_ne z] at e; exact R.sF _ _ e
  · by_cases z : b = p
    · rw [z]; exact rfl
    · rw [upd_ne z] at q; exact absurd h q
end
end Tw
set_option Elab.async false
set_option linter.all false
set_option maxRecDepth 100000
set_option maxHeartbeats 4000000
namespace Tw
open PySem PySem.Spec L2
open PyProof.Rows hiding St
inductive Md where
  | F | B | H
def hpM : Md → Hp → Hp → Hp → Hp
  | .F, F, _, _ => F
  | .B, _, B, _ => B
  | .H, _, _, H => H
/-- what is wanted where a refusal leaves -/
def Xc (G : Gb) (B : Hp) (E : XK) (c : Str) : Prop := ∀ H', Same B H' → E (.ref (G.cl c)) none H'
section
variable (G : Gb) (B : Hp) (E : XK) {α : Type} [Rp α]
def Ev (md : Md) (ρ : Evr) (te : TE) (m : M α) : Prop := ∀ (F0 F : Hp) (σ : L2.St) (H : Hp) (Q : VK), Rel G B F0 F ρ σ H →
  m.P (fun a => ∀ (F' : Hp) (v : V) (H' : Hp), Ext F H F' H' → Same F' H' → rep G (hpM md F' B H') v a → Q v H') (Xc G B E) → te σ H Q
/-- a new thing -/
def EvN [Rc α] (ρ : Evr) (te : TE) (m : M α) : Prop := ∀ (F0 F : Hp) (σ : L2.St) (H : Hp) (Q : VK), Rel G B F0 F ρ σ H →
  m.P (fun a => ∀ (F' : Hp) (p : Addr) (o : HO) (H' : Hp), Ext F H F' H' → Same F' H' → H p = none → F' p = none → H' p = some o → con G F' o a → Q (.ref p) H') (Xc G B E) → te σ H Q
def EvT (ρ : Evr) (tt : TT) (m : M Bool) : Prop := ∀ (F0 F : Hp) (σ : L2.St) (H : Hp) (Q : Bool → Hp → Prop), Rel G B F0 F ρ σ H →
  m.P (fun a => ∀ (F' H' : Hp), Ext F H F' H' → Same F' H' → Q a H') (Xc G B E) → tt σ H Q
end
section
variable {G : Gb} {B : Hp} {E : XK} {ρ : Evr} {α β γ δ : Type} [Rp α] [Rp β] [Rp γ] [Rp δ] {md md' : Md}
theorem hpM_H {F H : Hp} (R : Same B H) (s : Same F H) : Same (hpM md F B H) H := by
  cases md with
  | F => exact s
  | B => exact R
  | H => exact .refl _
theorem hpM_ext {F H F' H' : Hp} (e : Ext F H F' H') : Same (hpM md F B H) (hpM md F' B H') := by
  cases md with
  | F => exact e.f
  | B => exact .refl _
  | H => exact e.h
theorem Ev.toH {te : TE} {m : M α} (h : Ev G B E md ρ te m) : Ev G B E .H ρ te m := fun F0 F σ H Q R q =>
  h F0 F σ H Q R (q.imp (fun a k F' v H' e s r => k F' v H' e s (Rp.mono (hpM_H (R.sB.trans e.h) s) r)) fun _ x => x)
theorem Ev.sc [Sc α] {te : TE} {m : M α} (h : Ev G B E md ρ te m) : Ev G B E md' ρ te m := fun F0 F σ H Q R q =>
  h F0 F σ H Q R (q.imp (fun a k F' v H' e s r => k F' v H' e s ((Sc.iff _ _ _ _).mpr ((Sc.iff _ _ _ _).mp r))) fun _ x => x)
theorem EvN.F [Rc α] {te : TE} {m : M α} (h : EvN G B E ρ te m) : Ev G B E .F ρ te m := fun F0 F σ H Q R q =>
  h F0 F σ H Q R (q.imp (fun a k F' p o H' e s hp fp hp' c => k (upd F' p o) (.ref p) H' ⟨e.f.trans (same_upd fp), e.h, fun b hb q => by
    by_cases z : b = p
    · rw [z]; exact hp
    · rw [upd_ne z] at q; exact e.n b hb q⟩ (fun b u z => by
    by_cases w : b = p
    · subst w; rw [upd_same] at z; cases z; exact hp'
    · rw [upd_ne w] at z; exact s _ _ z) (Rc.fz upd_same (Rc.mono (same_upd fp) c))) fun _ x => x)
theorem EvN.H [Rc α] {te : TE} {m : M α} (h : EvN G B E ρ te m) : Ev G B E .H ρ te m := fun F0 F σ H Q R q =>
  h F0 F σ H Q R (q.imp (fun a k F' p o H' e s hp fp hp' c => k F' (.ref p) H' e s (Rc.fz hp' (Rc.mono s c))) fun _ x => x)
theorem Ev.go {ω : Type} {te : TE} {m : M α} {k : α → M ω} {p : ω → Prop} {F0 F : Hp} {σ : L2.St} {H : Hp} {Q : VK} (h : Ev G B E md ρ te m) (R : Rel G B F0 F ρ σ H) (q : (m.b k).P p (Xc G B E))
    (f : ∀ (a : α) (F' : Hp) (v : V) (H' : Hp), Ext F H F' H' → rep G (hpM md F' B H') v a → Rel G B F0 F' ρ σ H' → (k a).P p (Xc G B E) → Q v H') : te σ H Q :=
  h F0 F σ H Q R ((M.P_b.mp q).imp (fun a k F' v H' e s r => f a F' v H' e r (R.ext e s) k) fun _ x => x)
theorem EvN.go {ω : Type} [Rc α] {te : TE} {m : M α} {k : α → M ω} {p : ω → Prop} {F0 F : Hp} {σ : L2.St} {H : Hp} {Q : VK} (h : EvN G B E ρ te m) (R : Rel G B F0 F ρ σ H) (q : (m.b k).P p (Xc G B E))
    (f : ∀ (a : α) (F' : Hp) (d : Addr) (o : HO) (H' : Hp), Ext F H F' H' → H d = none → F' d = none → H' d = some o → con G F' o a → Rel G B F0 F' ρ σ H' → (k a).P p (Xc G B E) → Q (.ref d) H') : te σ H Q :=
  h F0 F σ H Q R ((M.P_b.mp q).imp (fun a k F' d o H' e s h1 h2 h3 h4 => f a F' d o H' e h1 h2 h3 h4 (R.ext e s) k) fun _ x => x)
theorem EvT.go {ω : Type} {tt : TT} {m : M Bool} {k : Bool → M ω} {p : ω → Prop} {F0 F : Hp} {σ : L2.St} {H : Hp} {Q : Bool → Hp → Prop} (h : EvT G B E ρ tt m) (R : Rel G B F0 F ρ σ H) (q : (m.b k).P p (Xc G B E))
    (f : ∀ (a : Bool) (F' H' : Hp), Ext F H F' H' → Rel G B F0 F' ρ σ H' → (k a).P p (Xc G B E) → Q a H') : tt σ H Q :=
  h F0 F σ H Q R ((M.P_b.mp q).imp (fun a k F' H' e s => f a F' H' e (R.ext e s) k) fun _ x => x)
theorem Rel.at {F0 F : Hp} {σ : L2.St} {H : Hp} {i : Nat} {s : Slot} (R : Rel G B F0 F ρ σ H) (h : ρ[i]? = some (some s)) : ∃ x, σ[i]? = some x ∧ SlOk G B F H (some s) x := by
  have hi : i < σ.length := by rw [← R.len]; exact (List.getElem?_eq_some_iff.mp h).1
  exact ⟨σ[i], List.getElem?_eq_getElem hi, R.sl i _ _ h (List.getElem?_eq_getElem hi)⟩
theorem ev_fz {i : Nat} {a : α} (h : ρ[i]? = some (some (.fz a))) : Ev G B E .F ρ (tVar i) (.ok a) := fun F0 F σ H Q R q => by
  obtain ⟨x, e, v, rfl, r⟩ := R.at h
  exact ⟨v, e, q F v H (.refl _ _) R.sF r⟩
theorem ev_bw {i : Nat} {a : α} (h : ρ[i]? = some (some (.bw a))) : Ev G B E .B ρ (tVar i) (.ok a) := fun F0 F σ H Q R q => by
  obtain ⟨x, e, v, rfl, r⟩ := R.at h
  exact ⟨v, e, q F v H (.refl _ _) R.sF r⟩
theorem ev_ow [Rc α] {i : Nat} {a : α} (h : ρ[i]? = some (some (.ow a))) : Ev G B E .H ρ (tVar i) (.ok a) := fun F0 F σ H Q R q => by
  obtain ⟨x, e, p, o, rfl, _, _, h4, h5⟩ := R.at h
  exact ⟨_, e, q F _ H (.refl _ _) R.sF (Rc.fz h4 (Rc.mono R.sF h5))⟩
theorem ev_int {i : Int} : Ev G B E md ρ (tC (.int i)) (.ok i) := fun F0 F σ H Q R q => q F _ H (.refl _ _) R.sF rfl
theorem ev_bl {i : Bool} : Ev G B E md ρ (tC (.bl i)) (.ok i) := fun F0 F σ H Q R q => q F _ H (.refl _ _) R.sF rfl
theorem ev_str {i : Str} : Ev G B E md ρ (tC (.str i)) (.ok i) := fun F0 F σ H Q R q => q F _ H (.refl _ _) R.sF rfl
/-- a thing where None might stand -/
class NoN (α : Type) [Rp α] : Prop where
  no : ∀ {G : Gb} {H : Hp} {v : V} {a : α}, rep G H v a → v ≠ .non
instance : NoN Int := ⟨fun h e => by rw [show _ = _ from h] at e; cases e⟩
instance : NoN Str := ⟨fun h e => by rw [show _ = _ from h] at e; cases e⟩
instance : NoN Bool := ⟨fun h e => by rw [show _ = _ from h] at e; cases e⟩
instance : NoN (List α) := ⟨fun ⟨p, vs, e, _⟩ z => by rw [e] at z; cases z⟩
instance : NoN (α × β) := ⟨fun ⟨p, v, w, e, _⟩ z => by rw [e] at z; cases z⟩
theorem Ev.some [NoN α] {te : TE} {m : M α} (h : Ev G B E md ρ te m) : Ev G B E md ρ te (m.b fun a => .ok (some a)) := fun F0 F σ H Q R q =>
  h F0 F σ H Q R ((M.P_b.mp q).imp (fun a k F' v H' e s r => k F' v H' e s ⟨r, NoN.no r⟩) fun _ x => x)
theorem ev_rI0 [Sc β] {f : Int → Int → V} {g : Int → Int → β} (hf : ∀ i j, f i j = Sc.enc (g i j)) {ta tb : TE} {ma mb : M Int} (ha : Ev G B E md ρ ta ma) (hb : Ev G B E md' ρ tb mb) {mr : Md} :
    Ev G B E mr ρ (tOp (rI0 f) ta tb) (ma.b fun i => mb.b fun j => .ok (g i j)) := fun F0 F σ H Q R q =>
  ha.go R q fun i F1 v H1 e1 r1 R1 q => hb.go R1 q fun j F2 w H2 e2 r2 R2 q => ⟨i, j, r1, r2, q F2 _ H2 (e1.trans e2) R2.sF ((Sc.iff _ _ _ _).mpr (hf i j))⟩
theorem ev_rI [Sc β] {C : Int → Int → Prop} {f : Int → Int → V} {g : Int → Int → β} (hf : ∀ i j, f i j = Sc.enc (g i j)) {ta tb : TE} {ma mb : M Int} (ha : Ev G B E md ρ ta ma) (hb : Ev G B E md' ρ tb mb) {mr : Md} :
    Ev G B E mr ρ (tOp (rI C f) ta tb) (ma.b fun i => mb.b fun j => .chk (C i j) (.ok (g i j))) := fun F0 F σ H Q R q =>
  ha.go R q fun i F1 v H1 e1 r1 R1 q => hb.go R1 q fun j F2 w H2 e2 r2 R2 q => by
    obtain ⟨c, q⟩ := M.P_chk.mp q
    exact ⟨i, j, r1, r2, c, q F2 _ H2 (e1.trans e2) R2.sF ((Sc.iff _ _ _ _).mpr (hf i j))⟩
section
variable {ta tb : TE} {ma mb : M Int} (ha : Ev G B E md ρ ta ma) (hb : Ev G B E md' ρ tb mb) {mr : Md}
include ha hb
theorem ev_add : Ev G B E mr ρ (tOp qAdd ta tb) (ma.b fun i => mb.b fun j => .ok (i + j)) := ev_rI0 (fun _ _ => rfl) ha hb
theorem ev_sub : Ev G B E mr ρ (tOp qSub ta tb) (ma.b fun i => mb.b fun j => .ok (i - j)) := ev_rI0 (fun _ _ => rfl) ha hb
theorem ev_lt : Ev G B E mr ρ (tOp qLt ta tb) (ma.b fun i => mb.b fun j => .ok (decide (i < j))) := ev_rI0 (fun _ _ => rfl) ha hb
theorem ev_gt : Ev G B E mr ρ (tOp qGt ta tb) (ma.b fun i => mb.b fun j => .ok (decide (j < i))) := ev_rI0 (fun _ _ => rfl) ha hb
theorem ev_mul : Ev G B E mr ρ (tOp qMul ta tb) (ma.b fun i => mb.b fun j => .chk (CMulW i j) (.ok (i * j))) := ev_rI (fun _ _ => rfl) ha hb
theorem ev_div : Ev G B E mr ρ (tOp qDiv ta tb) (ma.b fun i => mb.b fun j => .chk (CDivW i j) (.ok (i / j))) := ev_rI (fun _ _ => rfl) ha hb
theorem ev_mod : Ev G B E mr ρ (tOp qMod ta tb) (ma.b fun i => mb.b fun j => .chk (CPos i j) (.ok (i % j))) := ev_rI (fun _ _ => rfl) ha hb
theorem ev_pow : Ev G B E mr ρ (tOp qPow ta tb) (ma.b fun i => mb.b fun j => .chk (CPow i j) (.ok (i ^ j.toNat))) := ev_rI (fun _ _ => rfl) ha hb
end
end
end Tw
set_option Elab.async false
set_option linter.all false
set_option maxRecDepth 100000
set_option maxHeartbeats 4000000
namespace Tw
open PySem PySem.Spec L2 TL
open PyProof.Rows hiding St
class Dd (α : Type) [Rp α] [DecidableEq α] where
  dat : α → PyData
  dp : ∀ {G : Gb} {H : Hp} {v : V} {a : α}, rep G H v a → Dp G.K H v (dat a)
  eq : ∀ a b : α, PyData.eqv (dat a) (dat b) = decide (a = b)
  Ok : α → Prop
  lay : ∀ {a : α}, Ok a → PyData.canLay0 (dat a) = true
  n : Nat
  dep : ∀ a : α, PyData.depth (dat a) ≤ n
theorem Dd.shaped {α : Type} [Rp α] [DecidableEq α] [Dd α] {a : α} (h : Dd.Ok a) (hn : Dd.n α ≤ 64) : SeqAt.shaped (Dd.dat a) = true := by
  unfold SeqAt.shaped
  rw [Dd.lay h, Bool.true_and]
  exact decide_eq_true (Nat.le_trans (Dd.dep a) hn)
instance : Dd Int := ⟨.int, fun h => by rw [show _ = _ from h]; exact .int _, fun a b => by rw [PyData.eqv]; exact Bool.eq_iff_iff.mpr (by simp), fun _ => True, fun _ => by rw [PyData.canLay0], 0, fun a => by rw [PyData.depth]; exact Nat.le_refl _⟩
instance : Dd Bool := ⟨.bool, fun h => by rw [show _ = _ from h]; exact .bl _, fun a b => by rw [PyData.eqv]; exact Bool.eq_iff_iff.mpr (by simp), fun _ => True, fun _ => by rw [PyData.canLay0], 0, fun a => by rw [PyData.depth]; exact Nat.le_refl _⟩
instance : Dd Str := ⟨.str, fun h => by rw [show _ = _ from h]; exact .str _, fun a b => by rw [PyData.eqv]; exact Bool.eq_iff_iff.mpr (by simp), fun a => PyData.strOk a = true, fun h => by rw [PyData.canLay0]; exact h, 0, fun a => by rw [PyData.depth]; exact Nat.le_refl _⟩
section
variable {α β γ δ : Type} [Rp α] [Rp β] [Rp γ] [Rp δ] [DecidableEq α] [DecidableEq β] [DecidableEq γ] [DecidableEq δ] [Dd α] [Dd β] [Dd γ] [Dd δ]
theorem dd_dpAll {G : Gb} {H : Hp} : ∀ {vs : List V} {as : List α}, reps G H vs as → DpAll G.K H vs (as.map Dd.dat)
  | _, _, .nil => .nil
  | _, _, .cons h t => .cons (Dd.dp h) (dd_dpAll t)
theorem dd_eqAll : ∀ as bs : List α, PyData.eqvAll (as.map Dd.dat) (bs.map Dd.dat) = decide (as = bs)
  | [], [] => by simp [PyData.eqvAll]
  | [], u :: r => by simp [PyData.eqvAll]
  | t :: r, [] => by simp [PyData.eqvAll]
  | t :: r, u :: q => by
    rw [List.map_cons, List.map_cons, PyData.eqvAll, Dd.eq, dd_eqAll r q]
    by_cases e : t = u
    · subst e
      by_cases e2 : r = q
      · subst e2; simp
      · simp [e2]
    · simp [e]
theorem dd_layAll : ∀ {as : List α}, (∀ a ∈ as, Dd.Ok a) → PyData.canLayAll0 (as.map Dd.dat) = true
  | [], _ => by simp [PyData.canLayAll0]
  | t :: r, h => by
    rw [List.map_cons, PyData.canLayAll0, Dd.lay (h t List.mem_cons_self), dd_layAll fun x hx => h x (List.mem_cons_of_mem _ hx)]
    rfl
theorem dd_depAll : ∀ as : List α, PyData.depthAll (as.map Dd.dat) ≤ Dd.n α
  | [] => by simp [PyData.depthAll]
  | t :: r => by
    rw [List.map_cons, PyData.depthAll]
    exact Nat.max_le.mpr ⟨Dd.dep t, dd_depAll r⟩
instance : Dd (List α) where
  dat a := .list (a.map Dd.dat)
  dp := fun ⟨p, vs, e, h, r⟩ => by rw [e]; exact .lst (.of h) (dd_dpAll r)
  eq := fun a b => by rw [PyData.eqv]; exact dd_eqAll a b
  Ok := fun a => ∀ x ∈ a, Dd.Ok x
  lay := fun h => by rw [PyData.canLay0]; exact dd_layAll h
  n := Dd.n α + 1
  dep := fun a => by rw [PyData.depth]; exact Nat.succ_le_succ (dd_depAll a)
instance : Dd (α × β) where
  dat a := .tuple [Dd.dat a.1, Dd.dat a.2]
  dp := fun ⟨p, v, w, e, h, r1, r2⟩ => by rw [e]; exact .tup (.of h) (.cons (Dd.dp r1) (.cons (Dd.dp r2) .nil))
  eq := fun a b => by
    rw [PyData.eqv, PyData.eqvAll, PyData.eqvAll, PyData.eqvAll, Dd.eq, Dd.eq]
    obtain ⟨a1, a2⟩ := a
    obtain ⟨b1, b2⟩ := b
    by_cases h1 : a1 = b1 <;> by_cases h2 : a2 = b2 <;> simp [h1, h2]
  Ok := fun a => Dd.Ok a.1 ∧ Dd.Ok a.2
  lay := fun h => by rw [PyData.canLay0, PyData.canLayAll0, PyData.canLayAll0, PyData.canLayAll0, Dd.lay h.1, Dd.lay h.2]; rfl
  n := max (Dd.n α) (Dd.n β) + 1
  dep := fun a => by
    rw [PyData.depth, PyData.depthAll, PyData.depthAll, PyData.depthAll]
    have := Dd.dep a.1
    have := Dd.dep a.2
    omega
instance : Dd (T3 α β γ) where
  dat a := .tuple [Dd.dat a.a, Dd.dat a.b, Dd.dat a.c]
  dp := fun ⟨p, v, w, u, e, h, r1, r2, r3⟩ => by rw [e]; exact .tup (.of h) (.cons (Dd.dp r1) (.cons (Dd.dp r2) (.cons (Dd.dp r3) .nil)))
  eq := fun a b => by
    rw [PyData.eqv, PyData.eqvAll, PyData.eqvAll, PyData.eqvAll, PyData.eqvAll, Dd.eq, Dd.eq, Dd.eq]
    obtain ⟨a1, a2, a3⟩ := a
    obtain ⟨b1, b2, b3⟩ := b
    by_cases h1 : a1 = b1 <;> by_cases h2 : a2 = b2 <;> by_cases h3 : a3 = b3 <;> simp [h1, h2, h3]
  Ok := fun a => Dd.Ok a.a ∧ Dd.Ok a.b ∧ Dd.Ok a.c
  lay := fun h => by rw [PyData.canLay0, PyData.canLayAll0, PyData.canLayAll0, PyData.canLayAll0, PyData.canLayAll0, Dd.lay h.1, Dd.lay h.2.1, Dd.lay h.2.2]; rfl
  n := max (Dd.n α) (max (Dd.n β) (Dd.n γ)) + 1
  dep := fun a => by
    rw [PyData.depth, PyData.depthAll, PyData.depthAll, PyData.depthAll, PyData.depthAll]
    have := Dd.dep a.a
    have := Dd.dep a.b
    have := Dd.dep a.c
    omega
end
/-- the scalars that == and in tell apart -/
class Sq (α : Type) [Rp α] [DecidableEq α] [Sc α] : Prop where
  sc : ∀ a b : α, scal (Sc.enc a) (Sc.enc b) = true
  inj : ∀ a b : α, (Sc.enc a = Sc.enc b) ↔ a = b
  fl : ∀ a : α, flatV (Sc.enc a) = true
  eqv : ∀ a b : α, eqV (Sc.enc a) (Sc.enc b) = decide (a = b)
instance : Sq Int := ⟨fun _ _ => rfl, fun _ _ => ⟨fun h => V.int.inj h, fun h => by rw [h]⟩, fun _ => rfl, fun a b => by show (a == b) = _; exact Bool.eq_iff_iff.mpr (by simp)⟩
instance : Sq Bool := ⟨fun _ _ => rfl, fun _ _ => ⟨fun h => V.bl.inj h, fun h => by rw [h]⟩, fun _ => rfl, fun a b => by show (a == b) = _; exact Bool.eq_iff_iff.mpr (by simp)⟩
instance : Sq Str := ⟨fun _ _ => rfl, fun _ _ => ⟨fun h => V.str.inj h, fun h => by rw [h]⟩, fun _ => rfl, fun a b => by show (a == b) = _; exact Bool.eq_iff_iff.mpr (by simp)⟩
/-- one sign of a text -/
structure Sgn where
  c : Nat
deriving DecidableEq
def Sgn.s (a : Sgn) : Str := ⟨#[a.c]⟩
instance : Rp Sgn := ⟨fun _ _ v a => v = .str a.s, fun _ h => h⟩
instance : Sc Sgn := ⟨fun a => .str a.s, fun _ _ _ _ => Iff.rfl⟩
section
variable {G : Gb} {B : Hp} {E : XK} {ρ : Evr} {α β γ δ : Type} [Rp α] [Rp β] [Rp γ] [Rp δ] {md md' mr : Md} {ta tb tc te : TE}
theorem ev_neg {m : M Int} (h : Ev G B E md ρ ta m) : Ev G B E mr ρ (tUn qNeg ta) (m.b fun i => .ok (-i)) := fun F0 F σ H Q R q =>
  h.go R q fun i F1 v H1 e1 r1 R1 q => ⟨i, r1, q F1 _ H1 e1 R1.sF rfl⟩
theorem ev_eq [DecidableEq α] [Sc α] [Sq α] {ma mb : M α} (ha : Ev G B E md ρ ta ma) (hb : Ev G B E md' ρ tb mb) : Ev G B E mr ρ (tOp rEq ta tb) (ma.b fun i => mb.b fun j => .ok (decide (i = j))) := fun F0 F σ H Q R q =>
  ha.go R q fun i F1 v H1 e1 r1 R1 q => hb.go R1 q fun j F2 w H2 e2 r2 R2 q => by
    rw [(Sc.iff _ _ _ _).mp r1, (Sc.iff _ _ _ _).mp r2]
    refine ⟨Sq.sc i j, ?_⟩
    rw [show decide ((Sc.enc i : V) = Sc.enc j) = decide (i = j) from Bool.eq_iff_iff.mpr (by rw [decide_eq_true_iff, decide_eq_true_iff]; exact Sq.inj i j)]
    exact q F2 _ H2 (e1.trans e2) R2.sF rfl
theorem ev_ne [DecidableEq α] [Sc α] [Sq α] {ma mb : M α} (ha : Ev G B E md ρ ta ma) (hb : Ev G B E md' ρ tb mb) : Ev G B E mr ρ (tOp rNe ta tb) (ma.b fun i => mb.b fun j => .ok (!decide (i = j))) := fun F0 F σ H Q R q =>
  ha.go R q fun i F1 v H1 e1 r1 R1 q => hb.go R1 q fun j F2 w H2 e2 r2 R2 q => by
    rw [(Sc.iff _ _ _ _).mp r1, (Sc.iff _ _ _ _).mp r2]
    refine ⟨Sq.sc i j, ?_⟩
    rw [show decide ((Sc.enc i : V) = Sc.enc j) = decide (i = j) from Bool.eq_iff_iff.mpr (by rw [decide_eq_true_iff, decide_eq_true_iff]; exact Sq.inj i j)]
    exact q F2 _ H2 (e1.trans e2) R2.sF rfl
theorem ev_eqD [DecidableEq α] [Dd α] {ma mb : M α} (hn : Dd.n α ≤ 64) (ha : Ev G B E md ρ ta ma) (hb : Ev G B E md' ρ tb mb) : Ev G B E mr ρ (tOp (rEqD G.K) ta tb) (ma.b fun i => mb.b fun j => .chk (Dd.Ok i ∧ Dd.Ok j) (.ok (decide (i = j)))) := fun F0 F σ H Q R q =>
  ha.toH.go R q fun i F1 v H1 e1 r1 R1 q => hb.toH.go R1 q fun j F2 w H2 e2 r2 R2 q => by
    obtain ⟨c, q⟩ := M.P_chk.mp q
    refine ⟨_, _, Dd.dp (Rp.mono e2.h r1), Dd.dp r2, Dd.shaped c.1 hn, Dd.shaped c.2 hn, ?_⟩
    rw [Dd.eq]
    exact q F2 _ H2 (e1.trans e2) R2.sF rfl
/-- what is no None -/
theorem Ev.val {m : M (Option α)} (ha : Ev G B E md ρ ta m) : Ev G B E md ρ ta (m.b M.get) := fun F0 F σ H Q R q =>
  ha.go R q fun o F1 v H1 e1 r1 R1 q => by
    obtain ⟨a, rfl, q⟩ := M.P_get.mp q
    exact q F1 v H1 e1 R1.sF r1.1
theorem evT_B {m : M Bool} (h : Ev G B E md ρ te m) : EvT G B E ρ (tB te) m := fun F0 F σ H Q R q => h F0 F σ H _ R (q.imp (fun a k F' v H' e s r => ⟨a, r, k F' H' e s⟩) fun _ x => x)
theorem evT_T {m : M Bool} (h : Ev G B E md ρ te m) : EvT G B E ρ (tTest te) m := fun F0 F σ H Q R q => h F0 F σ H _ R (q.imp (fun a k F' v H' e s r => ⟨a, r, k F' H' e s⟩) fun _ x => x)
theorem evT_and {t u : TT} {m n : M Bool} (h : EvT G B E ρ t m) (k : EvT G B E ρ u n) : EvT G B E ρ (tAnd t u) (m.b fun c => if c = true then n else .ok false) := fun F0 F σ H Q R q => h.go R q fun a F' H' e R' q => by
  cases a with
  | true => exact k F0 F' σ H' Q R' (M.P.imp q (fun b f F2 H2 e2 s2 => f F2 H2 (e.trans e2) s2) fun _ x => x)
  | false => exact q F' H' e R'.sF
theorem evT_yes : EvT G B E ρ tYes (.ok true) := fun F0 F σ H Q R q => q F H (.refl _ _) R.sF
theorem ev_andV {m n : M Bool} (h : Ev G B E md ρ ta m) (k : Ev G B E md' ρ tb n) : Ev G B E mr ρ (tAndV ta tb) (m.b fun c => if c = true then n else .ok false) := fun F0 F σ H Q R q => h.go R q fun a F' v H' e r R' q => by
  refine ⟨a, r, ?_⟩
  cases a with
  | true => exact k.sc F0 F' σ H' Q R' (M.P.imp q (fun b f F2 v2 H2 e2 s2 => f F2 v2 H2 (e.trans e2) s2) fun _ x => x)
  | false => exact q F' _ H' e R'.sF rfl
theorem ev_notV {m : M Bool} (h : Ev G B E md ρ ta m) : Ev G B E mr ρ (tNotV ta) (m.b fun c => .ok (!c)) := fun F0 F σ H Q R q => h.go R q fun a F' v H' e r R' q => ⟨a, r, q F' _ H' e R'.sF rfl⟩
end
end Tw
set_option Elab.async false
set_option linter.all false
set_option maxRecDepth 100000
set_option maxHeartbeats 4000000
namespace Tw
open PySem PySem.Spec L2 TL
open PyProof.Rows hiding St
theorem atI_all2 {α β : Type} {R : α → β → Prop} {l : List α} {m : List β} {i : Int} {b : β} (h : All2 R l m) (e : atI m i = some b) : ∃ a, atI l i = some a ∧ R a b := by
  unfold atI at e ⊢
  rw [h.len]
  cases q : ixN m.length i with
  | none => rw [q] at e; cases e
  | some j => rw [q] at e; exact h.get' e
theorem atI_map {α β : Type} (f : α → β) (l : List α) (i : Int) : atI (l.map f) i = (atI l i).map f := by
  unfold atI
  rw [List.length_map]
  cases ixN l.length i with
  | none => rfl
  | some j => exact List.getElem?_map ..
def cutL {α : Type} (xs : List α) (lo hi : Option Int) : List α := (xs.drop (HT.sIx xs.length 0 lo)).take (HT.sIx xs.length xs.length hi - HT.sIx xs.length 0 lo)
theorem cut_all2 {β : Type} {R : V → β → Prop} {l : List V} {m : List β} {lo hi : Option Int} (h : All2 R l m) : All2 R (cutV l lo hi) (cutL m lo hi) := by
  unfold cutV cutL
  rw [h.len]
  exact (h.drop _).take _
section
variable (G : Gb) (B : Hp) (E : XK) {α : Type} [Rp α]
/-- a list whose items are frozen -/
def EvS (ρ : Evr) (te : TE) (m : M (List α)) : Prop := ∀ (F0 F : Hp) (σ : L2.St) (H : Hp) (Q : VK), Rel G B F0 F ρ σ H →
  m.P (fun a => ∀ (F' : Hp) (p : Addr) (vs : List V) (H' : Hp), Ext F H F' H' → Same F' H' → H' p = some (.lst vs) → reps G F' vs a → Q (.ref p) H') (Xc G B E) → te σ H Q
/-- a part of a slice -/
def EvO (ρ : Evr) (to : TO) (m : M (Option Int)) : Prop := ∀ (F0 F : Hp) (σ : L2.St) (H : Hp) (Q : Option Int → Hp → Prop), Rel G B F0 F ρ σ H →
  m.P (fun a => ∀ (F' H' : Hp), Ext F H F' H' → Same F' H' → Q a H') (Xc G B E) → to σ H Q
/-- items, all frozen -/
def EvL (ρ : Evr) (ta : TA) (m : M (List α)) : Prop := ∀ (F0 F : Hp) (σ : L2.St) (H : Hp) (Q : List V → Hp → Prop), Rel G B F0 F ρ σ H →
  m.P (fun a => ∀ (F' : Hp) (vs : List V) (H' : Hp), Ext F H F' H' → Same F' H' → reps G F' vs a → Q vs H') (Xc G B E) → ta σ H Q
end
section
variable {G : Gb} {B : Hp} {E : XK} {ρ : Evr} {α β γ δ : Type} [Rp α] [Rp β] [Rp γ] [Rp δ] {md md' mr : Md} {ta tb tc te : TE}
theorem EvS.go {ω : Type} {m : M (List α)} {k : List α → M ω} {p : ω → Prop} {F0 F : Hp} {σ : L2.St} {H : Hp} {Q : VK} (h : EvS G B E ρ te m) (R : Rel G B F0 F ρ σ H) (q : (m.b k).P p (Xc G B E))
    (f : ∀ (a : List α) (F' : Hp) (d : Addr) (vs : List V) (H' : Hp), Ext F H F' H' → H' d = some (.lst vs) → reps G F' vs a → Rel G B F0 F' ρ σ H' → (k a).P p (Xc G B E) → Q (.ref d) H') : te σ H Q :=
  h F0 F σ H Q R ((M.P_b.mp q).imp (fun a k F' d vs H' e s h1 h2 => f a F' d vs H' e h1 h2 (R.ext e s) k) fun _ x => x)
theorem EvO.go {ω : Type} {t : TO} {m : M (Option Int)} {k : Option Int → M ω} {p : ω → Prop} {F0 F : Hp} {σ : L2.St} {H : Hp} {Q : Option Int → Hp → Prop} (h : EvO G B E ρ t m) (R : Rel G B F0 F ρ σ H) (q : (m.b k).P p (Xc G B E))
    (f : ∀ (a : Option Int) (F' H' : Hp), Ext F H F' H' → Rel G B F0 F' ρ σ H' → (k a).P p (Xc G B E) → Q a H') : t σ H Q :=
  h F0 F σ H Q R ((M.P_b.mp q).imp (fun a k F' H' e s => f a F' H' e (R.ext e s) k) fun _ x => x)
theorem EvL.go {ω : Type} {t : TA} {m : M (List α)} {k : List α → M ω} {p : ω → Prop} {F0 F : Hp} {σ : L2.St} {H : Hp} {Q : List V → Hp → Prop} (h : EvL G B E ρ t m) (R : Rel G B F0 F ρ σ H) (q : (m.b k).P p (Xc G B E))
    (f : ∀ (a : List α) (F' : Hp) (vs : List V) (H' : Hp), Ext F H F' H' → reps G F' vs a → Rel G B F0 F' ρ σ H' → (k a).P p (Xc G B E) → Q vs H') : t σ H Q :=
  h F0 F σ H Q R ((M.P_b.mp q).imp (fun a k F' vs H' e s r => f a F' vs H' e r (R.ext e s) k) fun _ x => x)
theorem es_F {m : M (List α)} (h : Ev G B E .F ρ te m) : EvS G B E ρ te m := fun F0 F σ H Q R q => h F0 F σ H Q R (q.imp (fun a k F' v H' e s r => by
  obtain ⟨p, vs, rfl, h1, h2⟩ := r
  exact k F' p vs H' e s (s _ _ h1) h2) fun _ x => x)
theorem es_N {m : M (List α)} (h : EvN G B E ρ te m) : EvS G B E ρ te m := fun F0 F σ H Q R q => h F0 F σ H Q R (q.imp (fun a k F' p o H' e s h1 h2 h3 h4 => by
  obtain ⟨vs, rfl, h4⟩ := h4
  exact k F' p vs H' e s h3 h4) fun _ x => x)
theorem es_ow {i : Nat} {a : List α} (h : ρ[i]? = some (some (.ow a))) : EvS G B E ρ (tVar i) (.ok a) := fun F0 F σ H Q R q => by
  obtain ⟨x, e, p, o, rfl, _, _, h4, vs, rfl, h5⟩ := R.at h
  exact ⟨_, e, q F p vs H (.refl _ _) R.sF h4 h5⟩
theorem es_sc [Sc α] {m : M (List α)} (h : Ev G B E md ρ te m) : EvS G B E ρ te m := fun F0 F σ H Q R q => h.toH F0 F σ H Q R (q.imp (fun a k F' v H' e s r => by
  obtain ⟨p, vs, rfl, h1, h2⟩ := r
  exact k F' p vs H' e s h1 (h2.imp fun _ _ z => (Sc.iff _ _ _ _).mpr ((Sc.iff _ _ _ _).mp z))) fun _ x => x)
theorem ev_ix {ma : M (List α)} {mi : M Int} (ha : Ev G B E md ρ ta ma) (hi : Ev G B E md' ρ tb mi) : Ev G B E md ρ (tOp (rIxL G.K) ta tb) (ma.b fun l => mi.b fun i => M.get (atI l i)) := fun F0 F σ H Q R q =>
  ha.go R q fun l F1 v H1 e1 r1 R1 q => hi.go R1 q fun i F2 w H2 e2 r2 R2 q => by
    obtain ⟨x, ex, q⟩ := M.P_get.mp q
    obtain ⟨p, vs, rfl, h1, h2⟩ := Rp.mono (hpM_ext e2) r1
    obtain ⟨u, eu, ru⟩ := atI_all2 h2 ex
    exact ⟨p, vs, i, u, rfl, r2, .of (hpM_H R2.sB R2.sF _ _ h1), eu, q F2 u H2 (e1.trans e2) R2.sF ru⟩
theorem ev_ixS {ma : M (List α)} {mi : M Int} (ha : EvS G B E ρ ta ma) (hi : Ev G B E md' ρ tb mi) : Ev G B E .F ρ (tOp (rIxL G.K) ta tb) (ma.b fun l => mi.b fun i => M.get (atI l i)) := fun F0 F σ H Q R q =>
  ha.go R q fun l F1 p vs H1 e1 h1 h2 R1 q => hi.go R1 q fun i F2 w H2 e2 r2 R2 q => by
    obtain ⟨x, ex, q⟩ := M.P_get.mp q
    obtain ⟨u, eu, ru⟩ := atI_all2 (reps_mono e2.f h2) ex
    exact ⟨p, vs, i, u, rfl, r2, .of (e2.h _ _ h1), eu, q F2 u H2 (e1.trans e2) R2.sF ru⟩
theorem ev_ixTp {ma : M (Tp α)} {mi : M Int} (ha : Ev G B E md ρ ta ma) (hi : Ev G B E md' ρ tb mi) : Ev G B E md ρ (tOp (rIxT G.K) ta tb) (ma.b fun l => mi.b fun i => M.get (atI l.l i)) := fun F0 F σ H Q R q =>
  ha.go R q fun l F1 v H1 e1 r1 R1 q => hi.go R1 q fun i F2 w H2 e2 r2 R2 q => by
    obtain ⟨x, ex, q⟩ := M.P_get.mp q
    obtain ⟨p, vs, rfl, h1, h2⟩ := Rp.mono (hpM_ext e2) r1
    obtain ⟨u, eu, ru⟩ := atI_all2 h2 ex
    exact ⟨p, vs, i, u, rfl, r2, .of (hpM_H R2.sB R2.sF _ _ h1), eu, q F2 u H2 (e1.trans e2) R2.sF ru⟩
theorem ev_ixScr {ma : M Scr} {mi : M Int} (ha : Ev G B E md ρ ta ma) (hi : Ev G B E md' ρ tb mi) : Ev G B E mr ρ (tOp (rIxL G.K) ta tb) (ma.b fun l => mi.b fun i => M.get (atI l.l i)) := fun F0 F σ H Q R q =>
  ha.toH.go R q fun l F1 v H1 e1 r1 R1 q => hi.go R1 q fun i F2 w H2 e2 r2 R2 q => by
    obtain ⟨x, ex, q⟩ := M.P_get.mp q
    obtain ⟨p, rfl, h1⟩ := Rp.mono e2.h r1
    exact ⟨p, _, i, .int x, rfl, r2, h1, by rw [atI_map, ex]; rfl, q F2 _ H2 (e1.trans e2) R2.sF rfl⟩
theorem ev_ixStr {ma : M Str} {mi : M Int} (ha : Ev G B E md ρ ta ma) (hi : Ev G B E md' ρ tb mi) : Ev G B E mr ρ (tOp rIxS ta tb) (ma.b fun z => mi.b fun i => .chk (z.length ≤ sizeLine) ((M.get (atI z.cps.toList i)).b fun c => .ok (⟨#[c]⟩ : Str))) := fun F0 F σ H Q R q =>
  ha.go R q fun z F1 v H1 e1 r1 R1 q => hi.go R1 q fun i F2 w H2 e2 r2 R2 q => by
    obtain ⟨hz, q⟩ := M.P_chk.mp q
    obtain ⟨c, ec, q⟩ := M.P_get.mp (M.P_b.mp q)
    exact ⟨z, i, c, r1, r2, hz, ec, q F2 _ H2 (e1.trans e2) R2.sF rfl⟩
theorem ev_p1 {m : M (α × β)} (h : Ev G B E md ρ ta m) : Ev G B E md ρ (tOp (rIxT G.K) ta (tC (.int 0))) (m.b fun a => .ok a.1) := fun F0 F σ H Q R q =>
  h.go R q fun a F1 v H1 e1 r1 R1 q => by
    obtain ⟨p, x, y, rfl, h1, h2, h3⟩ := r1
    exact ⟨p, _, 0, x, rfl, rfl, .of (hpM_H R1.sB R1.sF _ _ h1), rfl, q F1 _ H1 e1 R1.sF h2⟩
section
variable {κ : Type} [Rp κ] [DecidableEq κ]
theorem valV_k [Ky κ] {H : Hp} {k : κ} : ∀ {kvs : List (Key × V)} {l : List (κ × α)}, repk G H kvs l → (∀ a, dget l k = some a → ∃ v, valV kvs (Ky.key k) = some v ∧ rep G H v a) ∧ (dget l k = none → valV kvs (Ky.key k) = none)
  | _, _, .nil => ⟨fun a e => (nomatch e), fun _ => rfl⟩
  | _, _, .cons (a := p) (b := x) (m := m) h t => by
    obtain ⟨f1, f2⟩ := valV_k (k := k) t
    by_cases e : x.1 = k
    · have e2 : p.1 = Ky.key k := by rw [h.1, e]
      have e3 : dget (x :: m) k = some x.2 := by simp [dget, List.find?_cons, e]
      rw [valV_pos e2, e3]
      exact ⟨fun a z => ⟨_, rfl, by cases z; exact h.2⟩, fun z => nomatch z⟩
    · have e2 : ¬ p.1 = Ky.key k := fun w => e (Ky.inj (h.1.symm.trans w))
      have e3 : dget (x :: m) k = dget m k := by simp [dget, List.find?_cons, e]
      rw [valV_neg e2, e3]
      exact ⟨f1, f2⟩
theorem isSome_k [Ky κ] {H : Hp} {k : κ} {kvs : List (Key × V)} {l : List (κ × α)} (h : repk G H kvs l) : (valV kvs (Ky.key k)).isSome = (dget l k).isSome := by
  obtain ⟨f1, f2⟩ := valV_k (k := k) h
  cases e : dget l k with
  | none => rw [f2 e]; rfl
  | some a => obtain ⟨v, ev, _⟩ := f1 a e; rw [ev]; rfl
section
variable [Ky κ] {mk : M κ} {mx : M (Dk κ α)}
theorem ev_dinK (hk : Ev G B E md ρ ta mk) (hd : Ev G B E md' ρ tb mx) : Ev G B E mr ρ (tDIn ta tb) (mk.b fun k => mx.b fun d => .ok (dget d.l k).isSome) := fun F0 F σ H Q R q =>
  hk.go R q fun k F1 v H1 e1 r1 R1 q => hd.toH.go R1 q fun d F2 w H2 e2 r2 R2 q => by
    obtain ⟨p, kvs, rfl, h1, h2⟩ := r2
    refine ⟨p, _, rfl, .inl ⟨kvs, _, h1, (Ky.iff _ _ _ _).mp r1, rfl⟩, ?_⟩
    rw [isSome_k h2]
    exact q F2 _ H2 (e1.trans e2) R2.sF rfl
/-- d[k] of an own dict: what it holds is frozen -/
theorem ev_dgetKo {i : Nat} {d : Dk κ α} (h : ρ[i]? = some (some (.ow d))) (hk : Ev G B E md' ρ tb mk) : Ev G B E .F ρ (tDGet (tVar i) tb) (mk.b fun k => M.get (dget d.l k)) := fun F0 F σ H Q R q => by
  obtain ⟨x, e, p, o, rfl, _, _, h4, kvs, rfl, h5⟩ := R.at h
  exact ⟨_, e, hk.go R q fun k F2 w H2 e2 r2 R2 q => by
    obtain ⟨a, ea, q⟩ := M.P_get.mp q
    obtain ⟨u, eu, ru⟩ := (valV_k (k := k) (repk_mono e2.f h5)).1 a ea
    exact ⟨p, u, rfl, .inl ⟨kvs, _, .inl (e2.h _ _ h4), (Ky.iff _ _ _ _).mp r2, eu.symm⟩, q F2 u H2 e2 R2.sF ru⟩⟩
theorem ev_dgetKl {i : Nat} {p : Addr} {ob : Obj} {u : HO} {d : Dk κ α} (h : ρ[i]? = some (some (.lk p ob u d))) (hk : Ev G B E md' ρ tb mk) : Ev G B E .F ρ (tDGet (tVar i) tb) (mk.b fun k => M.get (dget d.l k)) := fun F0 F σ H Q R q => by
  obtain ⟨x, e, rfl, _, _, h4, kvs, rfl, h5⟩ := R.at h
  exact ⟨_, e, hk.go R q fun k F2 w H2 e2 r2 R2 q => by
    obtain ⟨a, ea, q⟩ := M.P_get.mp q
    obtain ⟨u, eu, ru⟩ := (valV_k (k := k) (repk_mono e2.f h5)).1 a ea
    exact ⟨p, u, rfl, .inl ⟨kvs, _, .inr ⟨ob, e2.h _ _ h4⟩, (Ky.iff _ _ _ _).mp r2, eu.symm⟩, q F2 u H2 e2 R2.sF ru⟩⟩
end
end
theorem eo_none : EvO G B E ρ tNoPart (.ok none) := fun F0 F σ H Q R q => q F H (.refl _ _) R.sF
theorem eo_some {m : M Int} (h : Ev G B E md ρ te m) : EvO G B E ρ (tPart te) (m.b fun i => .ok (some i)) := fun F0 F σ H Q R q => h.go R q fun i F1 v H1 e1 r1 R1 q => ⟨i, r1, q F1 H1 e1 R1.sF⟩
theorem en_slice {m : M (List α)} {l h : M (Option Int)} {tl th : TO} (ha : EvS G B E ρ te m) (hl : EvO G B E ρ tl l) (hh : EvO G B E ρ th h) : EvN G B E ρ (tSl (rSlL G.K) te tl th) (m.b fun xs => l.b fun i => h.b fun j => .ok (cutL xs i j)) := fun F0 F σ H Q R q =>
  ha.go R q fun xs F1 p vs H1 e1 h1 h2 R1 q => hl.go R1 q fun i F2 H2 e2 R2 q => hh.go R2 q fun j F3 H3 e3 R3 q => by
    have s := e2.h.trans e3.h
    refine ⟨p, vs, rfl, .of (s _ _ h1), fun d nd => ?_⟩
    have e := (e1.trans e2).trans e3
    exact q F3 d _ _ (e.trans (.new nd)) (R3.sF.trans (same_upd nd)) (e.h.free nd) (R3.sF.free nd) upd_same ⟨_, rfl, cut_all2 (reps_mono (e2.f.trans e3.f) h2)⟩
theorem ev_len {m : M (List α)} (ha : Ev G B E md ρ te m) : Ev G B E mr ρ (tCB (qLenQ G.K) (tCons te tNil)) (m.b fun xs => .ok ((xs.length : Nat) : Int)) := fun F0 F σ H Q R q =>
  ha.toH.go R q fun xs F1 v H1 e1 r1 R1 q => by
    obtain ⟨p, vs, rfl, h1, h2⟩ := r1
    exact ⟨p, vs, rfl, .inl (.of h1), q F1 _ H1 e1 R1.sF (by rw [h2.len]; rfl)⟩
theorem ev_lenScr {m : M Scr} (ha : Ev G B E md ρ te m) : Ev G B E mr ρ (tCB (qLenQ G.K) (tCons te tNil)) (m.b fun xs => .ok ((xs.l.length : Nat) : Int)) := fun F0 F σ H Q R q =>
  ha.toH.go R q fun xs F1 v H1 e1 r1 R1 q => by
    obtain ⟨p, rfl, h1⟩ := r1
    exact ⟨p, _, rfl, .inl h1, q F1 _ H1 e1 R1.sF (by rw [List.length_map]; rfl)⟩
class Tyn (α : Type) [Rp α] where
  ty : String
  h : ∀ {G : Gb} {H : Hp} {v : V} {a : α}, rep G H v a → TyX G.K H v (.type ty)
instance : Tyn Int := ⟨"int", fun h => by rw [show _ = _ from h]; exact .base (.int _)⟩
instance : Tyn Bool := ⟨"bool", fun h => by rw [show _ = _ from h]; exact .base (.bl _)⟩
instance : Tyn Str := ⟨"str", fun h => by rw [show _ = _ from h]; exact .base (.str _)⟩
instance : Tyn Unit := ⟨"NoneType", fun h => by rw [show _ = _ from h]; exact .base .non⟩
instance : Tyn (List α) := ⟨"list", fun ⟨p, vs, e, h, _⟩ => by rw [e]; exact .base (.lst h)⟩
instance : Tyn (α × β) := ⟨"tuple", fun ⟨p, v, w, e, h, _⟩ => by rw [e]; exact .base (.tup h)⟩
instance : Tyn (T3 α β γ) := ⟨"tuple", fun ⟨p, v, w, u, e, h, _⟩ => by rw [e]; exact .base (.tup h)⟩
theorem ev_isi [Tyn α] {m : M α} {c : String} {k : Bool} (hk : ∀ K, PySem.W.kitOne K (.type (Tyn.ty α)) (.type c) = some k) (ha : Ev G B E md ρ te m) : Ev G B E mr ρ (tCB (rIsi G.K) (tCons te (tCons (tC (.ty c)) tNil))) (m.b fun _ => .ok k) := fun F0 F σ H Q R q =>
  ha.toH.go R q fun a F1 v H1 e1 r1 R1 q => ⟨v, .ty c, _, _, k, rfl, .ty c, Tyn.h r1, hk _, q F1 _ H1 e1 R1.sF rfl⟩
theorem el_nil : EvL G B E ρ tNil (.ok ([] : List α)) := fun F0 F σ H Q R q => q F [] H (.refl _ _) R.sF .nil
theorem el_cons {m : M α} {n : M (List α)} {tr : TA} (h : Ev G B E .F ρ te m) (k : EvL G B E ρ tr n) : EvL G B E ρ (tCons te tr) (m.b fun a => n.b fun l => .ok (a :: l)) := fun F0 F σ H Q R q =>
  h.go R q fun a F1 v H1 e1 r1 R1 q => k.go R1 q fun l F2 vs H2 e2 r2 R2 q => q F2 _ H2 (e1.trans e2) R2.sF (.cons (Rp.mono e2.f r1) r2)
theorem en_lst {m : M (List α)} {t : TA} (h : EvL G B E ρ t m) : EvN G B E ρ (tLst t) (m.b fun l => .chk (l.length ≤ sizeLine) (.ok l)) := fun F0 F σ H Q R q =>
  h.go R q fun l F1 vs H1 e1 r1 R1 q => by
    obtain ⟨c, q⟩ := M.P_chk.mp q
    refine ⟨by rw [r1.len]; exact c, fun p np => ?_⟩
    exact q F1 p _ _ (e1.trans (.new np)) (R1.sF.trans (same_upd np)) (e1.h.free np) (R1.sF.free np) upd_same ⟨vs, rfl, r1⟩
theorem en_nil : EvN G B E ρ (tLst tNil) (.ok ([] : List α)) := fun F0 F σ H Q R q => ⟨Nat.zero_le _, fun p np => q F p _ _ (.new np) (R.sF.trans (same_upd np)) np (R.sF.free np) upd_same ⟨[], rfl, .nil⟩⟩
theorem ev_tp {m : M (List α)} {t : TA} (h : EvL G B E ρ t m) : Ev G B E .F ρ (tTup t) (m.b fun l => .chk (l.length ≤ sizeLine) (.ok (⟨l⟩ : Tp α))) := fun F0 F σ H Q R q =>
  h.go R q fun l F1 vs H1 e1 r1 R1 q => by
    obtain ⟨c, q⟩ := M.P_chk.mp q
    refine ⟨by rw [r1.len]; exact c, fun p np => ?_⟩
    exact q (upd F1 p (.tup vs)) _ _ (e1.trans (.newF R1.sF np)) (same_both R1.sF) ⟨p, vs, rfl, upd_same, reps_mono (same_upd (R1.sF.free np)) r1⟩
theorem ev_pair {m : M α} {n : M β} (h : Ev G B E .F ρ ta m) (k : Ev G B E .F ρ tb n) : Ev G B E .F ρ (tTup (tCons ta (tCons tb tNil))) (m.b fun a => n.b fun b => .ok (a, b)) := fun F0 F σ H Q R q =>
  h.go R q fun a F1 v H1 e1 r1 R1 q => k.go R1 q fun b F2 w H2 e2 r2 R2 q => ⟨show 2 ≤ sizeLine by decide, fun p np => by
    have s := same_upd (o := .tup [v, w]) (R2.sF.free np)
    exact q (upd F2 p (.tup [v, w])) _ _ ((e1.trans e2).trans (.newF R2.sF np)) (same_both R2.sF) ⟨p, v, w, rfl, upd_same, Rp.mono (e2.f.trans s) r1, Rp.mono s r2⟩⟩
theorem en_dK {κ : Type} [Rp κ] [DecidableEq κ] [Ky κ] : EvN G B E ρ tDNewK (.ok (⟨[]⟩ : Dk κ α)) := fun F0 F σ H Q R q => fun p np => q F p _ _ (.new np) (R.sF.trans (same_upd np)) np (R.sF.free np) upd_same ⟨[], rfl, .nil⟩
theorem ev_catStr {m n : M Str} (h : Ev G B E md ρ ta m) (k : Ev G B E md' ρ tb n) : Ev G B E mr ρ (tOp qCatS ta tb) (m.b fun a => n.b fun b => .chk (a.length + b.length ≤ sizeLine) (.ok (a ++ b))) := fun F0 F σ H Q R q =>
  h.go R q fun a F1 v H1 e1 r1 R1 q => k.go R1 q fun b F2 w H2 e2 r2 R2 q => by
    obtain ⟨c, q⟩ := M.P_chk.mp q
    exact ⟨a, b, r1, r2, c, q F2 _ H2 (e1.trans e2) R2.sF rfl⟩
theorem ev_repStr {m : M Str} {n : M Int} (h : Ev G B E md ρ ta m) (k : Ev G B E md' ρ tb n) : Ev G B E mr ρ (tOp qRepS ta tb) (m.b fun a => n.b fun b => .chk (MulOk a b) (.ok (Txt.mul a b))) := fun F0 F σ H Q R q =>
  h.go R q fun a F1 v H1 e1 r1 R1 q => k.go R1 q fun b F2 w H2 e2 r2 R2 q => by
    obtain ⟨c, q⟩ := M.P_chk.mp q
    exact ⟨a, b, r1, r2, c, q F2 _ H2 (e1.trans e2) R2.sF rfl⟩
theorem en_cat {m n : M (List α)} (h : EvS G B E ρ ta m) (k : EvS G B E ρ tb n) : EvN G B E ρ (tOp rCat ta tb) (m.b fun a => n.b fun b => .chk (a.length + b.length ≤ sizeLine) (.ok (a ++ b))) := fun F0 F σ H Q R q =>
  h.go R q fun a F1 x vs H1 e1 h1 r1 R1 q => k.go R1 q fun b F2 y ws H2 e2 h2 r2 R2 q => by
    obtain ⟨c, q⟩ := M.P_chk.mp q
    refine ⟨x, y, vs, ws, rfl, rfl, e2.h _ _ h1, h2, by rw [r1.len, r2.len]; exact c, fun p np => ?_⟩
    have e := e1.trans e2
    exact q F2 p _ _ (e.trans (.new np)) (R2.sF.trans (same_upd np)) (e.h.free np) (R2.sF.free np) upd_same ⟨_, rfl, (reps_mono e2.f r1).app r2⟩
theorem en_listOf {m : M (List α)} (h : EvS G B E ρ te m) : EvN G B E ρ (tCB (qListOf G.K) (tCons te tNil)) (m.b fun a => .ok a) := fun F0 F σ H Q R q =>
  h.go R q fun a F1 x vs H1 e1 h1 r1 R1 q => ⟨x, vs, rfl, .inl (.of h1), fun p np =>
    q F1 p _ _ (e1.trans (.new np)) (R1.sF.trans (same_upd np)) (e1.h.free np) (R1.sF.free np) upd_same ⟨_, rfl, r1⟩⟩
theorem strs_of {H : Hp} {vs : List V} {ss : List Str} (h : reps G H vs ss) : vs = ss.map V.str := h.to_map fun _ _ q => q
theorem ev_strI {m : M Int} (h : Ev G B E md ρ te m) : Ev G B E mr ρ (tCB qStrI (tCons te tNil)) (m.b fun i => .chk (i.natAbs.log2 < 1920) (.ok (toString i : Str))) := fun F0 F σ H Q R q =>
  h.go R q fun i F1 v H1 e1 r1 R1 q => by
    obtain ⟨c, q⟩ := M.P_chk.mp q
    exact ⟨i, by rw [show v = .int i from r1], c, q F1 _ H1 e1 R1.sF rfl⟩
theorem ev_min2 {m n : M Int} (h : Ev G B E md ρ ta m) (k : Ev G B E md' ρ tb n) : Ev G B E mr ρ (tCB qMin2 (tCons ta (tCons tb tNil))) (m.b fun i => n.b fun j => .ok (if j < i then j else i)) := fun F0 F σ H Q R q =>
  h.go R q fun i F1 v H1 e1 r1 R1 q => k.go R1 q fun j F2 w H2 e2 r2 R2 q => ⟨i, j, by rw [show v = .int i from r1, show w = .int j from r2], q F2 _ H2 (e1.trans e2) R2.sF rfl⟩
end
end Tw
set_option Elab.async false
set_option linter.all false
set_option maxRecDepth 100000
set_option maxHeartbeats 4000000
namespace Tw
open PySem PySem.Spec L2 TL
open PyProof.Rows hiding St
theorem wipe_get (σ : L2.St) (j : Nat) : ∀ vs : List Nat, (wipe σ vs)[j]? = if j ∈ vs then (σ[j]?).map fun _ => none else σ[j]?
  | [] => by simp [wipe]
  | v :: vs => by
    show ((wipe σ vs).set v none)[j]? = _
    by_cases e : v = j
    · subst e
      rw [List.getElem?_set_self', wipe_get σ v vs, if_pos List.mem_cons_self]
      by_cases h : v ∈ vs
      · rw [if_pos h]
        cases σ[v]? <;> rfl
      · rw [if_neg h]
        cases σ[v]? <;> rfl
    · rw [List.getElem?_set_ne e, wipe_get σ j vs]
      by_cases h : j ∈ vs
      · rw [if_pos h, if_pos (List.mem_cons_of_mem _ h)]
      · rw [if_neg h, if_neg fun w => by
          rcases List.mem_cons.mp w with w | w
          · exact e w.symm
          · exact h w]
theorem wipe_set {σ : L2.St} {i : Nat} {x : Option V} {vs : List Nat} (h : i ∈ vs) : wipe (σ.set i x) vs = wipe σ vs := by
  refine List.ext_getElem? fun j => ?_
  rw [wipe_get, wipe_get]
  by_cases e : i = j
  · subst e
    rw [if_pos h, if_pos h, List.getElem?_set_self']
    cases σ[i]? <;> rfl
  · rw [List.getElem?_set_ne e]
theorem wipe_idem (σ : L2.St) (vs : List Nat) : wipe (wipe σ vs) vs = wipe σ vs := by
  refine List.ext_getElem? fun j => ?_
  rw [wipe_get, wipe_get]
  by_cases h : j ∈ vs
  · rw [if_pos h, if_pos h]
    cases σ[j]? <;> rfl
  · rw [if_neg h]
theorem wipe_app {σ τ υ : L2.St} {a b : List Nat} (h : wipe τ a = wipe σ a) (k : wipe υ b = wipe τ b) : wipe υ (a ++ b) = wipe σ (a ++ b) := by
  refine List.ext_getElem? fun j => ?_
  have h1 := congrArg (fun l : L2.St => l[j]?) h
  have h2 := congrArg (fun l : L2.St => l[j]?) k
  simp only [wipe_get] at h1 h2 ⊢
  have m : ∀ {x y : Option (Option V)}, x = y → (x.map fun _ => (none : Option V)) = y.map fun _ => none := fun e => by rw [e]
  by_cases ha : j ∈ a
  · rw [if_pos ha, if_pos ha] at h1
    rw [if_pos (List.mem_append_left _ ha), if_pos (List.mem_append_left _ ha)]
    by_cases hb : j ∈ b
    · rw [if_pos hb, if_pos hb] at h2
      exact h2.trans h1
    · rw [if_neg hb, if_neg hb] at h2
      exact (m h2).trans h1
  · rw [if_neg ha, if_neg ha] at h1
    by_cases hb : j ∈ b
    · rw [if_pos (List.mem_append_right _ hb), if_pos (List.mem_append_right _ hb)]
      rw [if_pos hb, if_pos hb] at h2
      exact h2.trans (m h1)
    · have hn : ¬ j ∈ a ++ b := fun w => (List.mem_append.mp w).elim ha hb
      rw [if_neg hn, if_neg hn]
      rw [if_neg hb, if_neg hb] at h2
      exact h2.trans h1
/-- the comprehension's own names are forgotten -/
def wipeE (ρ : Evr) : List Nat → Evr
  | [] => ρ
  | v :: vs => (wipeE ρ vs).set v none
theorem Rel.unset {G : Gb} {B F0 F H : Hp} {ρ : Evr} {σ : L2.St} (R : Rel G B F0 F ρ σ H) (i : Nat) (x : Option V) : Rel G B F0 F (ρ.set i none) (σ.set i x) H := R.setv trivial fun b f => nomatch f
theorem Rel.wipe {G : Gb} {B F0 F H : Hp} {ρ : Evr} {σ : L2.St} (R : Rel G B F0 F ρ σ H) : ∀ vs : List Nat, Rel G B F0 F (wipeE ρ vs) (L2.wipe σ vs) H
  | [] => R
  | v :: vs => (R.wipe vs).unset v none
/-- a thing beside is changed -/
theorem Rel.side {G : Gb} {B F0 F H : Hp} {ρ : Evr} {σ : L2.St} {p : Addr} {o : HO} (R : Rel G B F0 F ρ σ H) (hB : B p = none) (hF : F p = none) (hn : ∀ (j : Nat) (s : Option Slot) (x : Option V), ρ[j]? = some s → σ[j]? = some x → ¬ Fp H s x p) : Rel G B F0 F ρ σ (upd H p o) where
  sB := same_updR R.sB hB
  sF := same_updR R.sF hF
  s0 := R.s0
  nw := R.nw
  len := R.len
  sl := fun j t x ht hx => (R.sl j t x ht hx).frame (.refl _) (fun b u f e => by rw [upd_ne (fun z => hn j t x ht hx (by rw [← z]; exact f))]; exact e) fun b f => (Fp.at (R.sl j t x ht hx) f).2.2
  ds := fun i j s t x y b hi hx hj hy f g => R.ds i j s t x y b hi hx hj hy (Fp.lift (R.sl i s x hi hx) (fun b u f e => by rw [upd_ne (fun z => hn i s x hi hx (by rw [← z]; exact f))]; exact e) f) (Fp.lift (R.sl j t y hj hy) (fun b u f e => by rw [upd_ne (fun z => hn j t y hj hy (by rw [← z]; exact f))]; exact e) g)
section
variable (G : Gb) (B : Hp) (E : XK) {α : Type} [Rp α]
/-- a target binds a thing -/
def Tgt (md : Md) (g : TG) (ts : List Nat) (bind : α → Evr → Evr) : Prop := ∀ (F0 F : Hp) (ρ : Evr) (σ : L2.St) (H : Hp) (v : V) (x : α) (Qt : L2.St → Hp → Prop), Rel G B F0 F ρ σ H → rep G (hpM md F B H) v x →
  (∀ σ', wipe σ' ts = wipe σ ts → Rel G B F0 F (bind x ρ) σ' H → Qt σ' H) → g v σ H Qt
/-- a walk, turn by turn -/
def Walk {α : Type} (W : Hp → Hp → Prop) (J : It) (g : TG) (ts : List Nat) (bind : α → Evr → Evr) (xs : List α) : Prop := ∀ (i : Nat) (F0 F : Hp) (ρ : Evr) (σ : L2.St) (H : Hp), W F H → Rel G B F0 F ρ σ H →
  (xs.length ≤ i → J.stop i H) ∧ ∀ x, xs[i]? = some x → J.go i H ∧ ∀ v H', J.yld i H v H' → ∀ Qt : L2.St → Hp → Prop,
    (∀ F' σ' H2, Ext F H F' H2 → wipe σ' ts = wipe σ ts → Rel G B F0 F' (bind x ρ) σ' H2 → Qt σ' H2) → g v σ H' Qt
def EvW {α : Type} (per : Bool) (ρ : Evr) (wi : TI) (g : TG) (ts : List Nat) (bind : α → Evr → Evr) (m : M (List α)) : Prop := ∀ (F0 F : Hp) (σ : L2.St) (H : Hp) (R : It → Hp → Prop), Rel G B F0 F ρ σ H →
  m.P (fun xs => ∀ (F' H' : Hp) (J : It), Ext F H F' H' → Same F' H' → Walk G B (fun F2 H2 => Same F' F2 ∧ (per = false → Same H' H2)) J g ts bind xs → R J H') (Xc G B E) → wi σ H R
end
section
variable {G : Gb} {B : Hp} {E : XK} {ρ : Evr} {α β γ δ : Type} [Rp α] [Rp β] [Rp γ] [Rp δ] {md md' mr : Md} {ta tb tc te : TE} {g g1 g2 g3 g4 : TG} {ts t1 t2 t3 t4 : List Nat} {bind : α → Evr → Evr}
theorem tg_F {i : Nat} : Tgt (α := α) G B .F (gName i) [i] (fun x ρ => ρ.set i (some (.fz x))) := fun F0 F ρ σ H v x Qt R r k => k _ (wipe_set List.mem_cons_self) (R.put ⟨v, rfl, r⟩ rfl)
theorem tg_B {i : Nat} : Tgt (α := α) G B .B (gName i) [i] (fun x ρ => ρ.set i (some (.bw x))) := fun F0 F ρ σ H v x Qt R r k => k _ (wipe_set List.mem_cons_self) (R.put ⟨v, rfl, r⟩ rfl)
theorem tg_S [Sc α] {i : Nat} : Tgt (α := α) G B md (gName i) [i] (fun x ρ => ρ.set i (some (.fz x))) := fun F0 F ρ σ H v x Qt R r k => k _ (wipe_set List.mem_cons_self) (R.put ⟨v, rfl, (Sc.iff _ _ _ _).mpr ((Sc.iff _ _ _ _).mp r)⟩ rfl)
theorem tg_pair {b1 : α → Evr → Evr} {b2 : β → Evr → Evr} (h1 : Tgt G B md g1 t1 b1) (h2 : Tgt G B md g2 t2 b2) : Tgt G B md (gTup G.K 2 (gCons g1 (gCons g2 gNil))) (t1 ++ t2) (fun (x : α × β) ρ => b2 x.2 (b1 x.1 ρ)) := fun F0 F ρ σ H v x Qt R r k => by
  obtain ⟨p, y, z, rfl, hp, r1, r2⟩ := r
  exact ⟨p, _, rfl, .of (hpM_H R.sB R.sF _ _ hp), rfl, y, _, rfl, h1 F0 F ρ σ H y x.1 _ R r1 fun σ1 w1 R1 => ⟨z, _, rfl, h2 F0 F _ σ1 H z x.2 _ R1 r2 fun σ2 w2 R2 => ⟨rfl, k σ2 (wipe_app w1 w2) R2⟩⟩⟩
theorem walk_list {W : Hp → Hp → Prop} {p : Addr} {vs : List V} {xs : List α} (ht : Tgt G B md g ts bind) (h1 : ∀ F0 F ρ σ H, W F H → Rel G B F0 F ρ σ H → H p = some (.lst vs) ∧ reps G (hpM md F B H) vs xs) : Walk G B W (Itl G.K p) g ts bind xs := fun i F0 F ρ σ H w R => by
  obtain ⟨hp, hr⟩ := h1 F0 F ρ σ H w R
  refine ⟨fun hl => ⟨vs, .of hp, by rw [hr.len]; exact hl⟩, fun x hx => ?_⟩
  obtain ⟨v, ev, rv⟩ := hr.get' hx
  refine ⟨⟨vs, v, .of hp, ev⟩, fun u H' y Qt k => ?_⟩
  obtain ⟨rfl, y⟩ := y
  have e : u = v := Option.some.inj ((y vs (.of hp)).symm.trans ev)
  subst e
  exact ht F0 F ρ σ _ u x Qt R rv fun σ' ws R' => k F σ' _ (.refl _ _) ws R'
theorem ew_F {m : M (List α)} (h : Ev G B E .F ρ te m) (ht : Tgt G B .F g ts bind) : EvW G B E true ρ (iList G.K te) g ts bind m := fun F0 F σ H R RR q => h F0 F σ H _ RR (q.imp (fun xs k F' v H' e s r => by
  obtain ⟨p, vs, rfl, h1, h2⟩ := r
  exact ⟨p, rfl, ⟨vs, .of (s _ _ h1)⟩, k F' H' _ e s (walk_list ht fun F0 F ρ σ H w R => ⟨R.sF _ _ (w.1 _ _ h1), reps_mono w.1 h2⟩)⟩) fun _ x => x)
theorem ew_B {m : M (List α)} (h : Ev G B E .B ρ te m) (ht : Tgt G B .B g ts bind) : EvW G B E true ρ (iList G.K te) g ts bind m := fun F0 F σ H R RR q => h F0 F σ H _ RR (q.imp (fun xs k F' v H' e s r => by
  obtain ⟨p, vs, rfl, h1, h2⟩ := r
  exact ⟨p, rfl, ⟨vs, .of ((RR.sB.trans e.h) _ _ h1)⟩, k F' H' _ e s (walk_list ht fun F0 F ρ σ H w R => ⟨R.sB _ _ h1, h2⟩)⟩) fun _ x => x)
theorem ew_S {m : M (List α)} (h : EvS G B E ρ te m) (ht : Tgt G B .F g ts bind) : EvW G B E false ρ (iList G.K te) g ts bind m := fun F0 F σ H R RR q => h F0 F σ H _ RR (q.imp (fun xs k F' p vs H' e s h1 h2 =>
  ⟨p, rfl, ⟨vs, .of h1⟩, k F' H' _ e s (walk_list ht fun F0 F ρ σ H w R => ⟨w.2 rfl _ _ h1, reps_mono w.1 h2⟩)⟩) fun _ x => x)
theorem ew_Tp {m : M (Tp α)} (h : Ev G B E .F ρ te m) (ht : Tgt G B .F g ts bind) : EvW G B E true ρ (iTup G.K te) g ts bind (m.b fun t => .ok t.l) := fun F0 F σ H R RR q => h.go RR q fun t F' v H' e r R' q => by
  obtain ⟨p, vs, rfl, h1, h2⟩ := r
  refine ⟨p, rfl, ⟨vs, .of (R'.sF _ _ h1)⟩, q F' H' _ e R'.sF fun i F0 F ρ σ H w R => ?_⟩
  have hp := R.sF _ _ (w.1 _ _ h1)
  have hr := reps_mono w.1 h2
  refine ⟨fun hl => ⟨vs, .of hp, by rw [hr.len]; exact hl⟩, fun x hx => ?_⟩
  obtain ⟨v, ev, rv⟩ := hr.get' hx
  refine ⟨⟨vs, v, .of hp, ev⟩, fun u H' y Qt k => ?_⟩
  obtain ⟨rfl, y⟩ := y
  have e : u = v := Option.some.inj ((y vs (.of hp)).symm.trans ev)
  subst e
  exact ht F0 F ρ σ _ u x Qt R rv fun σ' ws R' => k F σ' _ (.refl _ _) ws R'
def rng (lo hi : Int) : List Int := (List.range (hi - lo).toNat).map fun (k : Nat) => lo + k
theorem rng_len (lo hi : Int) : (rng lo hi).length = (hi - lo).toNat := by unfold rng; rw [List.length_map, List.length_range]
theorem rng_at {lo hi : Int} {i : Nat} {x : Int} (h : (rng lo hi)[i]? = some x) : i < (hi - lo).toNat ∧ x = lo + i := by
  have hi' : i < (rng lo hi).length := (List.getElem?_eq_some_iff.mp h).1
  rw [rng_len] at hi'
  refine ⟨hi', ?_⟩
  unfold rng at h
  rw [List.getElem?_map, List.getElem?_range hi'] at h
  exact (Option.some.inj h).symm
theorem walk_rng {W : Hp → Hp → Prop} {lo hi : Int} {bind : Int → Evr → Evr} (ht : Tgt G B .F g ts bind) : Walk G B W (Itr lo (hi - lo).toNat) g ts bind (rng lo hi) := fun i F0 F ρ σ H w R => by
  refine ⟨fun hl => by rw [rng_len] at hl; exact hl, fun x hx => ?_⟩
  obtain ⟨hl, rfl⟩ := rng_at hx
  refine ⟨hl, fun u H' y Qt k => ?_⟩
  obtain ⟨rfl, rfl⟩ := y
  exact ht F0 F ρ σ _ _ _ Qt R rfl fun σ' ws R' => k F σ' _ (.refl _ _) ws R'
theorem ew_rng1 {m : M Int} {bind : Int → Evr → Evr} (h : Ev G B E md ρ te m) (ht : Tgt G B .F g ts bind) : EvW G B E true ρ (iRng1 (tCons te tNil)) g ts bind (m.b fun n => .chk (-(2 ^ 62) ≤ n ∧ n < 2 ^ 62) (.ok (rng 0 n))) := fun F0 F σ H R RR q => h.go RR q fun n F' v H' e r R' q => by
  obtain ⟨c, q⟩ := M.P_chk.mp q
  have w := walk_rng (G := G) (B := B) (W := fun F2 H2 => Same F' F2 ∧ (true = false → Same H' H2)) (lo := 0) (hi := n) ht
  rw [Int.sub_zero] at w
  exact ⟨n, by rw [show v = .int n from r], c.1, c.2, q F' H' _ e R'.sF w⟩
theorem ew_rng2 {m n : M Int} {bind : Int → Evr → Evr} (h : Ev G B E md ρ ta m) (h2 : Ev G B E md' ρ tb n) (ht : Tgt G B .F g ts bind) : EvW G B E true ρ (iRng2 (tCons ta (tCons tb tNil))) g ts bind (m.b fun i => n.b fun j => .chk (-(2 ^ 62) ≤ i ∧ i < 2 ^ 62 ∧ -(2 ^ 62) ≤ j ∧ j < 2 ^ 62) (.ok (rng i j))) := fun F0 F σ H R RR q => h.go RR q fun i F1 v H1 e1 r1 R1 q => h2.go R1 q fun j F2 w H2 e2 r2 R2 q => by
  obtain ⟨c, q⟩ := M.P_chk.mp q
  exact ⟨i, j, by rw [show v = .int i from r1, show w = .int j from r2], c, q F2 H2 _ (e1.trans e2) R2.sF (walk_rng ht)⟩
def enu {α : Type} (xs : List α) : List (Int × α) := xs.zipIdx.map fun p => ((p.2 : Nat), p.1)
theorem enu_len {α : Type} (xs : List α) : (enu xs).length = xs.length := by unfold enu; rw [List.length_map, List.length_zipIdx]
theorem enu_at {α : Type} {xs : List α} {i : Nat} {x : Int × α} (h : (enu xs)[i]? = some x) : xs[i]? = some x.2 ∧ x.1 = i := by
  unfold enu at h
  rw [List.getElem?_map, List.getElem?_zipIdx] at h
  cases e : xs[i]? with
  | none => rw [e] at h; cases h
  | some a => rw [e] at h; cases h; exact ⟨rfl, by simp⟩
theorem walk_enu {W : Hp → Hp → Prop} {p : Addr} {vs : List V} {xs : List α} {b1 : Int → Evr → Evr} {b2 : α → Evr → Evr} (ht1 : Tgt G B .F g1 t1 b1) (ht2 : Tgt G B md g2 t2 b2) (h1 : ∀ F0 F ρ σ H, W F H → Rel G B F0 F ρ σ H → H p = some (.lst vs) ∧ reps G (hpM md F B H) vs xs) :
    Walk G B W (Ite G.K p) (gTup G.K 2 (gCons g1 (gCons g2 gNil))) (t1 ++ t2) (fun (x : Int × α) ρ => b2 x.2 (b1 x.1 ρ)) (enu xs) := fun i F0 F ρ σ H w R => by
  obtain ⟨hp, hr⟩ := h1 F0 F ρ σ H w R
  refine ⟨fun hl => ⟨vs, .of hp, by rw [hr.len, ← enu_len xs]; exact hl⟩, fun x hx => ?_⟩
  obtain ⟨hx, e1⟩ := enu_at hx
  obtain ⟨v, ev, rv⟩ := hr.get' hx
  refine ⟨⟨vs, v, .of hp, ev⟩, fun u H' y Qt k => ?_⟩
  obtain ⟨T, z, rfl, nT, rfl, y⟩ := y
  have e : z = v := Option.some.inj ((y vs (.of hp)).symm.trans ev)
  subst e
  have eT : Ext F H F (upd H T (.tup [.int (i : Nat), z])) := .new nT
  have R1 := R.ext eT (R.sF.trans (same_upd nT))
  refine ⟨T, _, rfl, .of upd_same, rfl, _, _, rfl, ht1 F0 F ρ σ _ _ x.1 _ R1 (by rw [e1]; rfl) fun σ1 w1 R2 => ⟨_, _, rfl, ht2 F0 F _ σ1 _ z x.2 _ R2 (Rp.mono (hpM_ext eT) rv) fun σ2 w2 R3 => ⟨rfl, k F σ2 _ eT (wipe_app w1 w2) R3⟩⟩⟩
section
variable {b1 : Int → Evr → Evr} {b2 : α → Evr → Evr}
theorem ew_enuF {m : M (List α)} (h : Ev G B E .F ρ te m) (ht1 : Tgt G B .F g1 t1 b1) (ht2 : Tgt G B .F g2 t2 b2) : EvW G B E true ρ (iEnum G.K (tCons te tNil)) (gTup G.K 2 (gCons g1 (gCons g2 gNil))) (t1 ++ t2) (fun (x : Int × α) ρ => b2 x.2 (b1 x.1 ρ)) (m.b fun xs => .ok (enu xs)) := fun F0 F σ H R RR q => h.go RR q fun xs F' v H' e r R' q => by
  obtain ⟨p, vs, rfl, h1, h2⟩ := r
  exact ⟨p, vs, rfl, .of (R'.sF _ _ h1), q F' H' _ e R'.sF (walk_enu ht1 ht2 fun F0 F ρ σ H w R => ⟨R.sF _ _ (w.1 _ _ h1), reps_mono w.1 h2⟩)⟩
theorem ew_enuB {m : M (List α)} (h : Ev G B E .B ρ te m) (ht1 : Tgt G B .F g1 t1 b1) (ht2 : Tgt G B .B g2 t2 b2) : EvW G B E true ρ (iEnum G.K (tCons te tNil)) (gTup G.K 2 (gCons g1 (gCons g2 gNil))) (t1 ++ t2) (fun (x : Int × α) ρ => b2 x.2 (b1 x.1 ρ)) (m.b fun xs => .ok (enu xs)) := fun F0 F σ H R RR q => h.go RR q fun xs F' v H' e r R' q => by
  obtain ⟨p, vs, rfl, h1, h2⟩ := r
  exact ⟨p, vs, rfl, .of (R'.sB _ _ h1), q F' H' _ e R'.sF (walk_enu ht1 ht2 fun F0 F ρ σ H w R => ⟨R.sB _ _ h1, h2⟩)⟩
end
theorem ew_rev {m : M (List α)} (h : Ev G B E .F ρ te m) (ht : Tgt G B .F g ts bind) : EvW G B E true ρ (iRev G.K (tCons te tNil)) g ts bind (m.b fun xs => .ok xs.reverse) := fun F0 F σ H R RR q => h.go RR q fun xs F' v H' e r R' q => by
  obtain ⟨p, vs, rfl, h1, h2⟩ := r
  refine ⟨p, vs, rfl, .of (R'.sF _ _ h1), q F' H' _ e R'.sF fun i F0 F ρ σ H w R => ?_⟩
  have hp := R.sF _ _ (w.1 _ _ h1)
  have hr := reps_mono w.1 h2
  refine ⟨fun hl => by rw [List.length_reverse] at hl; show vs.length ≤ i; rw [hr.len]; exact hl, fun x hx => ?_⟩
  have hi : i < xs.length := by
    have := (List.getElem?_eq_some_iff.mp hx).1
    rw [List.length_reverse] at this
    exact this
  rw [List.getElem?_reverse hi] at hx
  obtain ⟨v, ev, rv⟩ := hr.get' hx
  rw [← hr.len] at ev hi
  refine ⟨⟨hi, vs, v, .of hp, ev⟩, fun u H' y Qt k => ?_⟩
  obtain ⟨rfl, y⟩ := y
  have e : u = v := Option.some.inj ((y vs (.of hp)).symm.trans ev)
  subst e
  exact ht F0 F ρ σ _ u x Qt R rv fun σ' ws R' => k F σ' _ (.refl _ _) ws R'
theorem en_lc {α : Type} {per : Bool} {wi : TI} {bind : α → Evr → Evr} {m : M (List α)} {tt : TT} {t : α → M Bool} {e : α → M β} (hw : EvW G B E per ρ wi g ts bind m) (ht : ∀ x, EvT G B E (bind x (wipeE ρ ts)) tt (t x)) (he : ∀ x, Ev G B E .F (bind x (wipeE ρ ts)) te (e x)) :
    EvN G B E ρ (tLc wi g tt te ts) (m.b fun xs => .chk (xs.length ≤ sizeLine) (M.lc t e xs)) := fun F0 F σ H Q R q => hw F0 F σ H _ R ((M.P_b.mp q).imp (fun xs q F1 H1 J e1 s1 wk D nD => by
  obtain ⟨cl, q⟩ := M.P_chk.mp q
  have R1 := R.ext e1 s1
  have hBD : B D = none := R1.sB.free nD
  refine ⟨fun i k H2 => k = xs.length - i ∧ i ≤ xs.length ∧ ∃ (F2 : Hp) (acc : List V) (ys : List β), Rel G B F0 F2 (wipeE ρ ts) (wipe σ ts) H2 ∧ Ext F1 H1 F2 H2 ∧ H2 D = some (.lst acc) ∧ F2 D = none ∧ reps G F2 acc ys ∧ ys.length ≤ i ∧
    (M.lc t e (xs.drop i)).P (fun r => ∀ (F' : Hp) (p : Addr) (o : HO) (H' : Hp), Ext F H F' H' → Same F' H' → H p = none → F' p = none → H' p = some o → con G F' o (ys ++ r) → Q (.ref p) H') (Xc G B E), ⟨xs.length, by simp, Nat.zero_le _, F1, [], [], ?_, ?_, upd_same, s1.free nD, .nil, Nat.zero_le _, ?_⟩, ?_⟩
  · exact (R1.wipe ts).side hBD (s1.free nD) ((R1.wipe ts).fresh nD)
  · exact .new nD
  · rw [List.drop_zero]
    exact q
  rintro i k H2 ⟨rfl, hi, F2, acc, ys, R2, e2, hD, fD, ra, hy, q2⟩
  obtain ⟨w1, w2⟩ := wk i F0 F2 _ _ H2 ⟨e2.f, fun _ => e2.h⟩ R2
  by_cases hlt : i < xs.length
  · have hx : xs[i]? = some xs[i] := List.getElem?_eq_getElem hlt
    obtain ⟨g1, g2⟩ := w2 xs[i] hx
    rw [List.drop_eq_getElem_cons hlt] at q2
    refine .inr ⟨g1, fun H3 => ∃ m', m' < xs.length - i ∧ (m' = xs.length - (i + 1) ∧ i + 1 ≤ xs.length ∧ ∃ (F2 : Hp) (acc : List V) (ys : List β), Rel G B F0 F2 (wipeE ρ ts) (wipe σ ts) H3 ∧ Ext F1 H1 F2 H3 ∧ H3 D = some (.lst acc) ∧ F2 D = none ∧ reps G F2 acc ys ∧ ys.length ≤ i + 1 ∧
      (M.lc t e (xs.drop (i + 1))).P (fun r => ∀ (F' : Hp) (p : Addr) (o : HO) (H' : Hp), Ext F H F' H' → Same F' H' → H p = none → F' p = none → H' p = some o → con G F' o (ys ++ r) → Q (.ref p) H') (Xc G B E)), fun H3 z => z, fun v H3 hyld => g2 v H3 hyld _ fun F3 σ3 H4 e3 ws R3 => ⟨ws.trans (wipe_idem σ ts), ?_⟩⟩
    have hm : xs.length - (i + 1) < xs.length - i := by omega
    have dn : ∀ {Fx Hx : Hp}, Ext F2 H2 Fx Hx → Hx D = some (.lst acc) ∧ Fx D = none := fun ex => ⟨ex.h _ _ hD, ex.non hD fD⟩
    refine (ht xs[i]).go R3 q2 fun c F4 H5 e4 R4 q3 => ?_
    have e24 := e3.trans e4
    have Rw : ∀ {Fx Hx : Hp}, Ext F2 H2 Fx Hx → Same Fx Hx → Rel G B F0 Fx (wipeE ρ ts) (wipe σ ts) Hx := fun ex sx => R2.ext ex sx
    cases c with
    | true =>
      refine iteT ((he xs[i]).go R4 q3 fun y F5 v2 H6 e5 r5 R5 q4 => ?_)
      have e25 := e24.trans e5
      obtain ⟨hD5, fD5⟩ := dn e25
      refine ⟨acc, hD5, by rw [ra.len]; omega, _, hm, rfl, hlt, F5, acc ++ [v2], ys ++ [y], ?_, ?_, upd_same, fD5, (reps_mono e25.f ra).snoc r5, by rw [List.length_append]; exact Nat.succ_le_succ hy, ?_⟩
      · have R6 := Rw e25 R5.sF
        exact R6.side hBD fD5 (fun j s x hs hx f => (R1.wipe ts).fresh nD j s x hs hx (Fp.lift ((R1.wipe ts).sl j s x hs hx) (fun b o _ z => (e2.trans e25).h _ _ z) f))
      · have e26 := e2.trans e25
        exact ⟨e26.f, fun b o hb => by rw [upd_ne (ne_of_none hb nD)]; exact e26.h _ _ hb, e26.n⟩
      · refine (M.P_b.mp q4).imp (fun r f F' p o H' a1 a2 a3 a4 a5 a6 => f F' p o H' a1 a2 a3 a4 a5 ?_) fun _ x => x
        rw [List.append_assoc] at a6
        exact a6
    | false =>
      refine iteF ?_
      obtain ⟨hD4, fD4⟩ := dn e24
      exact ⟨_, hm, rfl, hlt, F4, acc, ys, Rw e24 R4.sF, e2.trans e24, hD4, fD4, reps_mono e24.f ra, Nat.le_succ_of_le hy, q3⟩
  · have e : i = xs.length := by omega
    subst e
    rw [List.drop_length] at q2
    have e12 := e1.trans e2
    refine .inl ⟨w1 (Nat.le_refl _), q2 F2 D _ H2 e12 R2.sF (e1.h.free nD) fD hD ⟨acc, rfl, by rw [List.append_nil]; exact ra⟩⟩) fun _ x => x)
end
end Tw
set_option Elab.async false
set_option linter.all false
set_option maxRecDepth 100000
set_option maxHeartbeats 4000000
namespace Tw
open PySem PySem.Spec L2 TL
open PyProof.Rows hiding St
structure Fin (G : Gb) (B F0 F H : Hp) : Prop where
  sB : Same B H
  sF : Same F H
  s0 : Same F0 F
  nw : ∀ a, F0 a = none → F a ≠ none → B a = none
section
variable (G : Gb) (B : Hp) (E : XK)
def Run {Ω : Type} (post : Hp → Ω → Ends → Prop) (ρ : Evr) (t : TS) (m : M Ω) : Prop := ∀ (F0 F : Hp) (σ : L2.St) (H : Hp) (D : Ends), Rel G B F0 F ρ σ H → m.P (fun ω => post F0 ω D) (Xc G B E) → t D σ H
/-- it goes on -/
def oN {S : Type} (EX : S → Evr) : Hp → S → Ends → Prop := fun F0 s D => ∀ (F' : Hp) (σ' : L2.St) (H' : Hp), Rel G B F0 F' (EX s) σ' H' → D.nx σ' H'
/-- it tells; how a thing is told: frozen, new, None -/
abbrev RP (R : Type) := Hp → Hp → Hp → V → R → Prop
def oR {R : Type} (rp : RP R) : Hp → R → Ends → Prop := fun F0 r D => ∀ (F' : Hp) (v : V) (H' : Hp), Fin G B F0 F' H' → rp B F' H' v r → D.rt v H'
def oC {S R : Type} (EX : S → Evr) (rp : RP R) : Hp → S ⊕ R → Ends → Prop := fun F0 c D => match c with
  | .inl s => oN G B EX F0 s D
  | .inr r => oR G B rp F0 r D
end
def rpF (G : Gb) {R : Type} [Rp R] : RP R := fun _ F' _ v r => rep G F' v r
def rpN (G : Gb) {R : Type} [Rp R] [Rc R] : RP R := fun B F' H' v r => ∃ p o, v = .ref p ∧ B p = none ∧ F' p = none ∧ H' p = some o ∧ con G F' o r
section
variable {G : Gb} {B : Hp} {E : XK} {ρ ρ' : Evr} {α β γ δ : Type} [Rp α] [Rp β] [Rp γ] [Rp δ] {md md' mr : Md} {ta tb tc te : TE} {g : TG} {ts : List Nat} {bind : α → Evr → Evr}
  {Ω S S' R : Type} {post : Hp → Ω → Ends → Prop} {EX : S → Evr} {EX' : S' → Evr} {rp : RP R} {t t1 t2 rest : TS}
theorem Rel.fin {F0 F H : Hp} {σ : L2.St} (R : Rel G B F0 F ρ σ H) : Fin G B F0 F H := ⟨R.sB, R.sF, R.s0, R.nw⟩
theorem Fin.under {F0 F F1 H H' : Hp} {σ : L2.St} (R : Rel G B F0 F ρ σ H) (f : Fin G B F F1 H') : Fin G B F0 F1 H' := ⟨f.sB, f.sF, R.s0.trans f.s0, fun a h q => by
  cases z : F a with
  | none => exact f.nw a z q
  | some o => exact R.nw a h (by rw [z]; exact fun z => nomatch z)⟩
theorem Fin.ext {F0 F F' H H' : Hp} (f : Fin G B F0 F H) (e : Ext F H F' H') (s : Same F' H') : Fin G B F0 F' H' := ⟨f.sB.trans e.h, s, f.s0.trans e.f, fun a h q => by
  cases z : F a with
  | none => exact f.sB.free (e.n a z q)
  | some o => exact f.nw a h (by rw [z]; exact fun z => nomatch z)⟩
theorem run_seq {m1 : M S} {k : S → M Ω} (h1 : Run G B E (oN G B EX) ρ t1 m1) (h2 : ∀ s, Run G B E post (EX s) t2 (k s)) : Run G B E post ρ (tSeq t1 t2) (m1.b k) := fun F0 F σ H D R q =>
  h1 F0 F σ H _ R ((M.P_b.mp q).imp (fun s q F' σ' H' R' => h2 s F0 F' σ' H' D R' q) fun _ x => x)
theorem run_seqR {m1 : M (S ⊕ R)} {k : S → M R} (h1 : Run G B E (oC G B EX rp) ρ t1 m1) (h2 : ∀ s, Run G B E (oR G B rp) (EX s) t2 (k s)) : Run G B E (oR G B rp) ρ (tSeq t1 t2) (m1.b (M.orR k)) := fun F0 F σ H D RR q =>
  h1 F0 F σ H _ RR ((M.P_b.mp q).imp (fun c q => by
    cases c with
    | inl s => exact fun F' σ' H' R' => h2 s F0 F' σ' H' D R' q
    | inr r => exact fun F' v H' f h => q F' v H' f h) fun _ x => x)
theorem run_last {m : M Ω} (h : Run G B E post ρ (tSeq t tNext) m) : Run G B E post ρ t m := h
theorem run_skip {m : M Ω} (h : Run G B E post ρ rest m) : Run G B E post ρ (tSeq tNext rest) m := h
theorem run_next {s : S} (w : Wk ρ (EX s)) : Run G B E (oN G B EX) ρ tNext (.ok s) := fun F0 F σ H D R q => q F σ H (R.weak w)
theorem run_nextC {s : S} (w : Wk ρ (EX s)) : Run G B E (oC G B EX rp) ρ tNext (.ok (.inl s)) := fun F0 F σ H D R q => q F σ H (R.weak w)
theorem run_freeze [Rc α] {i : Nat} {a : α} {m : M Ω} (h : ρ[i]? = some (some (.ow a))) (k : Run G B E post (ρ.set i (some (.fz a))) t m) : Run G B E post ρ t m := fun F0 F σ H D R q => by
  obtain ⟨F', R'⟩ := R.freeze h
  exact k F0 F' σ H D R' q
theorem run_weak {m : M Ω} (w : Wk ρ ρ') (k : Run G B E post ρ' t m) : Run G B E post ρ t m := fun F0 F σ H D R q => k F0 F σ H D (R.weak w) q
theorem run_asg {m : M α} {k : α → M Ω} (he : Ev G B E md ρ te m) (ht : Tgt G B md g ts bind) (hk : ∀ a, Run G B E post (bind a ρ) rest (k a)) : Run G B E post ρ (tSeq (tAsg te g) rest) (m.b k) := fun F0 F σ H D R q =>
  he.go R q fun a F' v H' e r R' q => ht F0 F' ρ σ H' v a _ R' r fun σ' _ R2 => hk a F0 F' σ' H' D R2 q
theorem run_asgN [Rc α] {i : Nat} {m : M α} {k : α → M Ω} (he : EvN G B E ρ te m) (hk : ∀ a, Run G B E post (ρ.set i (some (.ow a))) rest (k a)) : Run G B E post ρ (tSeq (tAsg te (gName i)) rest) (m.b k) := fun F0 F σ H D R q =>
  he.go R q fun a F' p o H' e h1 h2 h3 h4 R' q => hk a F0 F' _ H' D (R'.own (R.sB.free h1) h2 h3 h4 fun j s x hs hx f => R.fresh h1 j s x hs hx (Fp.lift (R.sl j s x hs hx) (fun b o _ z => e.h _ _ z) f)) q
theorem run_expr {m : M α} {k : M Ω} (he : Ev G B E md ρ te m) (hk : Run G B E post ρ rest k) : Run G B E post ρ (tSeq (tDrop te) rest) (m.b fun _ => k) := fun F0 F σ H D R q =>
  he.go R q fun a F' v H' e r R' q => hk F0 F' σ H' D R' q
theorem Rel.ow [Rc α] {F0 F H : Hp} {σ : L2.St} {i : Nat} {a : α} (R : Rel G B F0 F ρ σ H) (h : ρ[i]? = some (some (.ow a))) : ∃ p o, σ[i]? = some (some (.ref p)) ∧ B p = none ∧ F p = none ∧ H p = some o ∧ con G F o a := by
  obtain ⟨x, e, p, o, rfl, h1, h2, h3, h4⟩ := R.at h
  exact ⟨p, o, e, h1, h2, h3, h4⟩
theorem run_append {i : Nat} {l : List α} {m : M α} {k : α → M Ω} (h : ρ[i]? = some (some (.ow l))) (he : Ev G B E .F ρ te m) (hk : ∀ a, Run G B E post (ρ.set i (some (.ow (l ++ [a])))) rest (k a)) :
    Run G B E post ρ (tSeq (tDrop (tBM G.K "list" rAppend (tVar i) (tCons te tNil))) rest) (m.b fun a => .chk (l.length < sizeLine) (k a)) := fun F0 F σ H D R q => by
  obtain ⟨p, o, e, h1, h2, h3, vs, rfl, h4⟩ := R.ow h
  refine ⟨_, e, .inl ⟨rfl, vs, .of h3⟩, he.go R q fun a F' v H' e' r R' q => ?_⟩
  obtain ⟨c, q⟩ := M.P_chk.mp q
  have f2 := e'.non h3 h2
  refine ⟨p, vs, v, rfl, rfl, e'.h _ _ h3, by rw [h4.len]; exact c, hk a F0 F' σ _ D ?_ q⟩
  exact R'.change h (show _ = _ from rfl) e h1 f2 ⟨_, rfl, (reps_mono e'.f h4).snoc r⟩
theorem run_setL {i : Nat} {l : List α} {mi : M Int} {m : M α} {k : α → Int → Nat → M Ω} {ti : TE} (h : ρ[i]? = some (some (.ow l))) (he : Ev G B E .F ρ te m) (hi : Ev G B E md ρ ti mi) (hk : ∀ a j n, Run G B E post (ρ.set i (some (.ow (l.set n a)))) rest (k a j n)) :
    Run G B E post ρ (tSeq (tAsg te (gSub (tVar i) ti rSetL)) rest) (m.b fun a => mi.b fun j => (M.get (ixN l.length j)).b fun n => k a j n) := fun F0 F σ H D R q => by
  obtain ⟨p, o, e, h1, h2, h3, vs, rfl, h4⟩ := R.ow h
  refine he.go R q fun a F1 v H1 e1 r1 R1 q => ⟨_, e, hi.go R1 q fun j F2 u H2 e2 r2 R2 q => ?_⟩
  obtain ⟨n, en, q⟩ := M.P_get.mp (M.P_b.mp q)
  have e' := e1.trans e2
  refine ⟨p, vs, j, n, rfl, r2, e'.h _ _ h3, by rw [h4.len]; exact en, hk a j n F0 F2 σ _ D ?_ q⟩
  exact R2.change h (show _ = _ from rfl) e h1 (e'.non h3 h2) ⟨_, rfl, (reps_mono e'.f h4).set (Rp.mono e2.f r1) n⟩
section
variable {κ : Type} [Rp κ] [DecidableEq κ]
theorem any_keys {K L : Type} [DecidableEq K] [DecidableEq L] {f : L → K} (inj : ∀ {a b}, f a = f b → a = b) {R : K × V → L × α → Prop} (hR : ∀ p q, R p q → p.1 = f q.1) (k : L) : ∀ {kvs : List (K × V)} {l : List (L × α)}, All2 R kvs l → (kvs.any fun kv => decide (kv.1 = f k)) = l.any fun p => decide (p.1 = k)
  | _, _, .nil => rfl
  | _, _, .cons (a := p) (b := q) h t => by
    rw [List.any_cons, List.any_cons, any_keys inj hR k t]
    congr 1
    rw [hR _ _ h]
    exact Bool.eq_iff_iff.mpr (by rw [decide_eq_true_iff, decide_eq_true_iff]; exact ⟨fun e => inj e, fun e => by rw [e]⟩)
theorem map_keys {K L : Type} [DecidableEq K] [DecidableEq L] {f : L → K} (inj : ∀ {a b}, f a = f b → a = b) {H : Hp} (k : L) {v : V} {a : α} (r : rep G H v a) : ∀ {kvs : List (K × V)} {l : List (L × α)}, All2 (fun p q => p.1 = f q.1 ∧ rep G H p.2 q.2) kvs l →
    All2 (fun p q => p.1 = f q.1 ∧ rep G H p.2 q.2) (kvs.map fun kv => if kv.1 = f k then (kv.1, v) else kv) (l.map fun p => if p.1 = k then (p.1, a) else p)
  | _, _, .nil => .nil
  | _, _, .cons (a := p) (b := q) h t => by
    rw [List.map_cons, List.map_cons]
    refine .cons ?_ (map_keys inj k r t)
    by_cases e : q.1 = k
    · rw [if_pos (by rw [h.1, e]), if_pos e]
      exact ⟨h.1, r⟩
    · rw [if_neg (by rw [h.1]; exact fun w => e (inj w)), if_neg e]
      exact h
theorem put_keys {K L : Type} [DecidableEq K] [DecidableEq L] {f : L → K} (inj : ∀ {a b}, f a = f b → a = b) {H : Hp} (k : L) {v : V} {a : α} (r : rep G H v a) {kvs : List (K × V)} {l : List (L × α)} (h : All2 (fun p q => p.1 = f q.1 ∧ rep G H p.2 q.2) kvs l) :
    All2 (fun p q => p.1 = f q.1 ∧ rep G H p.2 q.2) (putK kvs (f k) v) (dput l k a) := by
  unfold putK dput
  rw [any_keys inj (fun p q z => z.1) k h]
  split
  · exact map_keys inj k r h
  · exact h.snoc ⟨rfl, r⟩
theorem run_dputK [Ky κ] {i : Nat} {d : Dk κ α} {mk : M κ} {m : M α} {k : α → κ → M Ω} {tk : TE} (h : ρ[i]? = some (some (.ow d))) (he : Ev G B E .F ρ te m) (hk : Ev G B E md ρ tk mk) (hn : ∀ a x, Run G B E post (ρ.set i (some (.ow (⟨dput d.l x a⟩ : Dk κ α)))) rest (k a x)) :
    Run G B E post ρ (tSeq (sDPut (tVar i) tk te) rest) (m.b fun a => mk.b fun x => .chk (d.l.length < sizeLine) (k a x)) := fun F0 F σ H D R q => by
  obtain ⟨p, o, e, h1, h2, h3, kvs, rfl, h4⟩ := R.ow h
  refine he.go R q fun a F1 v H1 e1 r1 R1 q => ⟨_, e, hk.go R1 q fun x F2 u H2 e2 r2 R2 q => ?_⟩
  obtain ⟨c, q⟩ := M.P_chk.mp q
  have e' := e1.trans e2
  refine ⟨p, _, rfl, .inl ⟨kvs, Ky.key x, e'.h _ _ h3, (Ky.iff _ _ _ _).mp r2, by rw [h4.len]; exact c, rfl⟩, hn a x F0 F2 σ _ D ?_ q⟩
  exact R2.change h (show _ = _ from rfl) e h1 (e'.non h3 h2) ⟨_, rfl, put_keys (fun z => Ky.inj z) x (Rp.mono e2.f r1) (repk_mono e'.f h4)⟩
end
theorem run_if {c : TT} {mc : M Bool} {m n : M Ω} (hc : EvT G B E ρ c mc) (h1 : Run G B E post ρ t1 m) (h2 : Run G B E post ρ t2 n) : Run G B E post ρ (tIfS c t1 t2) (mc.b fun x => if x = true then m else n) := fun F0 F σ H D R q =>
  hc.go R q fun x F' H' e R' q => by
    cases x with
    | true => exact iteT (h1 F0 F' σ H' D R' q)
    | false => exact iteF (h2 F0 F' σ H' D R' q)
theorem run_ifS {c : TT} {mc : M Bool} {m n : M Ω} (hc : EvT G B E ρ c mc) (h1 : Run G B E post ρ (tSeq t1 rest) m) (h2 : Run G B E post ρ (tSeq t2 rest) n) : Run G B E post ρ (tSeq (tIfS c t1 t2) rest) (mc.b fun x => if x = true then m else n) := fun F0 F σ H D R q =>
  hc.go R q fun x F' H' e R' q => by
    cases x with
    | true => exact iteT (h1 F0 F' σ H' D R' q)
    | false => exact iteF (h2 F0 F' σ H' D R' q)
theorem run_ret {m : M α} (h : Ev G B E .F ρ te m) : Run G B E (oR G B (rpF G)) ρ (tRet te) m := fun F0 F σ H D R q => h F0 F σ H _ R (q.imp (fun a k F' v H' e s r => k F' v H' (R.ext e s).fin r) fun _ x => x)
theorem run_retC {m : M α} (h : Ev G B E .F ρ te m) : Run G B E (oC G B EX (rpF G)) ρ (tRet te) (m.b fun a => .ok (.inr a)) := fun F0 F σ H D R q => h.go R q fun a F' v H' e r R' q => q F' v H' R'.fin r
theorem run_retN [Rc α] {m : M α} (h : EvN G B E ρ te m) : Run G B E (oR G B (rpN G)) ρ (tRet te) m := fun F0 F σ H D R q => h F0 F σ H _ R (q.imp (fun a k F' p o H' e s h1 h2 h3 h4 => k F' _ H' (R.ext e s).fin ⟨p, o, rfl, R.sB.free h1, h2, h3, h4⟩) fun _ x => x)
theorem run_retO [Rc α] {i : Nat} {a : α} (h : ρ[i]? = some (some (.ow a))) : Run G B E (oR G B (rpN G)) ρ (tRet (tVar i)) (.ok a) := fun F0 F σ H D R q => by
  obtain ⟨p, o, e, h1, h2, h3, h4⟩ := R.ow h
  exact ⟨_, e, q F _ H R.fin ⟨p, o, rfl, h1, h2, h3, h4⟩⟩
theorem run_for {α : Type} {wi : TI} {bind : α → Evr → Evr} {mx : M (List α)} {f : S → α → M S} {s0 : S} (hw : EvW G B E true ρ wi g ts bind mx) (h0 : Wk ρ (EX s0)) (hb : ∀ s x, Run G B E (oN G B EX) (bind x (EX s)) t (f s x)) :
    Run G B E (oN G B EX) ρ (tFor wi g t) (mx.b fun xs => M.for_ f xs s0) := fun F0 F σ H D R q => hw F0 F σ H _ R ((M.P_b.mp q).imp (fun xs q F1 H1 J e1 s1 wk => by
  have R1 := R.ext e1 s1
  refine ⟨fun i k σ2 H2 => k = xs.length - i ∧ i ≤ xs.length ∧ ∃ (F2 : Hp) (s : S), Rel G B F1 F2 (EX s) σ2 H2 ∧ (M.for_ f (xs.drop i) s).P (fun s => oN G B EX F0 s D) (Xc G B E), ⟨xs.length, by simp, Nat.zero_le _, F1, s0, (R1.weak h0).base, by rw [List.drop_zero]; exact q⟩, ?_⟩
  rintro i k σ2 H2 ⟨rfl, hi, F2, s, R2, q2⟩
  obtain ⟨w1, w2⟩ := wk i F1 F2 _ _ H2 ⟨R2.s0, fun z => nomatch z⟩ R2
  by_cases hlt : i < xs.length
  · have hx : xs[i]? = some xs[i] := List.getElem?_eq_getElem hlt
    obtain ⟨g1, g2⟩ := w2 xs[i] hx
    rw [List.drop_eq_getElem_cons hlt] at q2
    refine .inr ⟨g1, fun σ3 H3 => ∃ m', m' < xs.length - i ∧ (m' = xs.length - (i + 1) ∧ i + 1 ≤ xs.length ∧ ∃ (F2 : Hp) (s : S), Rel G B F1 F2 (EX s) σ3 H3 ∧ (M.for_ f (xs.drop (i + 1)) s).P (fun s => oN G B EX F0 s D) (Xc G B E)), fun _ _ z => z, fun v H3 hy => g2 v H3 hy _ fun F3 σ3 H4 e3 _ R3 => ?_⟩
    refine hb s xs[i] F1 F3 σ3 H4 _ R3 ((M.P_b.mp q2).imp (fun s' q3 F' σ' H' R' => ⟨_, by omega, rfl, hlt, F', s', R', q3⟩) fun _ x => x)
  · have e : i = xs.length := by omega
    subst e
    rw [List.drop_length] at q2
    exact .inl ⟨w1 (Nat.le_refl _), q2 F2 σ2 H2 (R1.under R2)⟩) fun _ x => x)
end
end Tw
set_option Elab.async false
set_option linter.all false
set_option maxRecDepth 100000
set_option maxHeartbeats 4000000
namespace Tw
open PySem PySem.Spec L2 TL
open PyProof.Rows hiding St
def leS (a b : Str) : Bool := !decide (tl b < tl a)
theorem leS_iff {a b : Str} : leS a b = true ↔ tl a ≤ tl b := by
  unfold leS
  rw [Bool.not_eq_true', decide_eq_false_iff_not]
  exact List.not_lt
theorem leS_trans (a b c : Str) (h1 : leS a b = true) (h2 : leS b c = true) : leS a c = true := leS_iff.mpr (List.le_trans (leS_iff.mp h1) (leS_iff.mp h2))
theorem leS_total (a b : Str) : (leS a b || leS b a) = true := by
  rw [Bool.or_eq_true]
  rcases List.le_total (tl a) (tl b) with h | h
  · exact .inl (leS_iff.mpr h)
  · exact .inr (leS_iff.mpr h)
theorem leS_anti {a b : Str} (h1 : leS a b = true) (h2 : leS b a = true) : a = b := ext_tl (List.le_antisymm (leS_iff.mp h1) (leS_iff.mp h2))
abbrev Sorted (l : List Str) : Prop := l.Pairwise fun a b => leS a b = true
def srt (l : List Str) : List Str := l.mergeSort leS
theorem srt_perm (l : List Str) : (srt l).Perm l := List.mergeSort_perm l leS
theorem srt_sorted (l : List Str) : Sorted (srt l) := List.pairwise_mergeSort leS_trans leS_total l
theorem srt_len (l : List Str) : (srt l).length = l.length := (srt_perm l).length_eq
theorem srt_mem {l : List Str} {x : Str} : x ∈ srt l ↔ x ∈ l := (srt_perm l).mem_iff
theorem sorted_eq {l m : List Str} (h1 : Sorted l) (h2 : Sorted m) (p : l.Perm m) : l = m := p.eq_of_pairwise (fun _ _ _ _ a b => leS_anti a b) h1 h2
theorem srt_of {l : List Str} (h : Sorted l) : srt l = l := sorted_eq (srt_sorted l) h (srt_perm l)
theorem srt_congr {l m : List Str} (p : l.Perm m) : srt l = srt m := sorted_eq (srt_sorted l) (srt_sorted m) ((srt_perm l).trans (p.trans (srt_perm m).symm))
theorem rising_pair : ∀ (l : List Str) (x : Str), risingS x l = true → Sorted (x :: l)
  | [], x, _ => by simp
  | y :: r, x, h => by
    unfold risingS at h
    rw [Bool.and_eq_true] at h
    have h1 : leS x y = true := by
      unfold leS
      have := h.1
      rw [ltCps_eq] at this
      exact this
    have h2 := rising_pair r y h.2
    refine List.pairwise_cons.mpr ⟨fun z hz => ?_, h2⟩
    rcases List.mem_cons.mp hz with e | e
    · rw [e]
      exact h1
    · exact leS_trans x y z h1 ((List.pairwise_cons.mp h2).1 z e)
theorem sortedS_pair {l : List Str} (h : sortedS l = true) : Sorted l := by
  cases l with
  | nil => exact .nil
  | cons x r => exact rising_pair r x h
theorem srt_unique {l m : List Str} (p : m.Perm l) (h : sortedS m = true) : m = srt l := sorted_eq (sortedS_pair h) (srt_sorted l) (p.trans (srt_perm l).symm)
theorem srt_nodup {l : List Str} (h : l.Nodup) : (srt l).Nodup := (srt_perm l).nodup_iff.mpr h
theorem Sorted.filter {l : List Str} (p : Str → Bool) (h : Sorted l) : Sorted (l.filter p) := List.Pairwise.filter p h
end Tw
set_option Elab.async false
set_option linter.all false
set_option maxRecDepth 100000
set_option maxHeartbeats 4000000
namespace Tw
open PySem PySem.Spec L2 TL
open PyProof.Rows hiding St
/-- nothing is refused -/
def M.cl {α : Type} : M α → M α
  | .exc _ => .bad
  | m => m
@[simp] theorem M.cl_ok {α : Type} (a : α) : M.cl (.ok a) = .ok a := rfl
theorem M.P_cl {α : Type} {m : M α} {p : α → Prop} {x : Str → Prop} (h : m.cl.P p x) : m.P p fun _ => False := by
  cases m with
  | ok a => exact h
  | exc c => exact h
  | bad => exact h
def ArgOk (G : Gb) (F H : Hp) : List Slot → List V → Prop
  | [], [] => True
  | @Slot.fz _ i a :: ss, v :: vs => @Rp.rep _ i G F v a ∧ ArgOk G F H ss vs
  | @Slot.bw _ i a :: ss, v :: vs => @Rp.rep _ i G H v a ∧ ArgOk G F H ss vs
  | _, _ => False
/-- what a def promises: f over plain data -/
def spA (G : Gb) {P R : Type} (sl : P → List Slot) (rp : RP R) (f : P → M R) : Sp := fun vs H Q E => ∃ (p : P) (F0 : Hp), Same F0 H ∧ ArgOk G F0 H (sl p) vs ∧
  (f p).P (fun r => ∀ (F' : Hp) (v : V) (H' : Hp), Fin G H F0 F' H' → rp H F' H' v r → Q v H') (Xc G H E)
/-- how an argument is handed on -/
def Ps {α : Type} [Rp α] (md : Md) (k : α → Slot) : Prop := ∀ {G : Gb} {B F H : Hp} {v : V} {a : α}, Same B H → Same F H → rep G (hpM md F B H) v a → ∀ {ss : List Slot} {vs : List V}, ArgOk G F H ss vs → ArgOk G F H (k a :: ss) (v :: vs)
theorem ps_F {α : Type} [Rp α] : Ps (α := α) .F Slot.fz := fun _ _ r => fun q => ⟨r, q⟩
theorem ps_B {α : Type} [Rp α] {md : Md} : Ps (α := α) md Slot.bw := fun s1 s2 r => fun q => ⟨Rp.mono (hpM_H s1 s2) r, q⟩
theorem Fin.ext0 {G : Gb} {H F F' H' : Hp} (f : Fin G H F F' H') : Ext F H F' H' := ⟨f.s0, f.sB, f.nw⟩
theorem Xc.mono {G : Gb} {B H : Hp} {E : XK} {c : Str} (h : Xc G B E c) (s : Same B H) : Xc G H E c := fun H' s' => h H' (s.trans s')
section
variable {G : Gb} {B : Hp} {E : XK} {ρ : Evr} {mr : Md}
theorem ev_call1 {R : Type} [Rp R] {α1 : Type} [Rp α1] {k1 : α1 → Slot} {d1 : Md} {m1 : M α1} {t1 : TE} {f : α1 → M R} (h1 : Ev G B E d1 ρ t1 m1) (p1 : Ps d1 k1) : Ev G B E .F ρ (tCall (spA G (fun (p : α1) => [k1 p]) (rpF G) (fun (p : α1) => f (p))) [] E0 (tCons t1 tNil)) (m1.b fun a1 => M.cl (f a1)) := fun F0 F σ H Q R0 q => by
  refine h1.go R0 q fun a1 F1 v1 H1 e1 r1 R1 q => ?_
  refine ⟨a1, F1, R1.sF, (p1 R1.sB R1.sF r1 trivial), ?_⟩
  refine (M.P_cl q).imp (fun a k F' v H' f h => ?_) fun _ z => z.elim
  have e := f.ext0
  exact k F' v H' (e1.trans e) f.sF h
theorem en_call1 {R : Type} [Rp R] [Rc R] {α1 : Type} [Rp α1] {k1 : α1 → Slot} {d1 : Md} {m1 : M α1} {t1 : TE} {f : α1 → M R} (h1 : Ev G B E d1 ρ t1 m1) (p1 : Ps d1 k1) : EvN G B E ρ (tCall (spA G (fun (p : α1) => [k1 p]) (rpN G) (fun (p : α1) => f (p))) [] E0 (tCons t1 tNil)) (m1.b fun a1 => M.cl (f a1)) := fun F0 F σ H Q R0 q => by
  refine h1.go R0 q fun a1 F1 v1 H1 e1 r1 R1 q => ?_
  refine ⟨a1, F1, R1.sF, (p1 R1.sB R1.sF r1 trivial), ?_⟩
  refine (M.P_cl q).imp (fun a k F' v H' f h => ?_) fun _ z => z.elim
  have e := f.ext0
  obtain ⟨p, o, rfl, h1, h2, h3, h4⟩ := h
  exact k F' p o H' (e1.trans e) f.sF (e1.h.free h1) h2 h3 h4
theorem en_callX1 {R : Type} [Rp R] [Rc R] {α1 : Type} [Rp α1] {k1 : α1 → Slot} {d1 : Md} {m1 : M α1} {t1 : TE} {f : α1 → M R} (h1 : Ev G B E d1 ρ t1 m1) (p1 : Ps d1 k1) : EvN G B E ρ (tCall (spA G (fun (p : α1) => [k1 p]) (rpN G) (fun (p : α1) => f (p))) [] E (tCons t1 tNil)) (m1.b fun a1 => f a1) := fun F0 F σ H Q R0 q => by
  refine h1.go R0 q fun a1 F1 v1 H1 e1 r1 R1 q => ?_
  refine ⟨a1, F1, R1.sF, (p1 R1.sB R1.sF r1 trivial), ?_⟩
  refine M.P.imp q (fun a k F' v H' f h => ?_) fun _ z => z.mono R1.sB
  have e := f.ext0
  obtain ⟨p, o, rfl, h1, h2, h3, h4⟩ := h
  exact k F' p o H' (e1.trans e) f.sF (e1.h.free h1) h2 h3 h4
theorem ev_call2 {R : Type} [Rp R] {α1 : Type} [Rp α1] {α2 : Type} [Rp α2] {k1 : α1 → Slot} {k2 : α2 → Slot} {d1 : Md} {d2 : Md} {m1 : M α1} {t1 : TE} {m2 : M α2} {t2 : TE} {f : α1 → α2 → M R} (h1 : Ev G B E d1 ρ t1 m1) (p1 : Ps d1 k1) (h2 : Ev G B E d2 ρ t2 m2) (p2 : Ps d2 k2) : Ev G B E .F ρ (tCall (spA G (fun (p : α1 × α2) => [k1 p.1, k2 p.2]) (rpF G) (fun (p : α1 × α2) => f (p.1) (p.2))) [] E0 (tCons t1 (tCons t2 tNil))) (m1.b fun a1 => m2.b fun a2 => M.cl (f a1 a2)) := fun F0 F σ H Q R0 q => by
  refine h1.go R0 q fun a1 F1 v1 H1 e1 r1 R1 q => ?_
  refine h2.go R1 q fun a2 F2 v2 H2 e2 r2 R2 q => ?_
  refine ⟨(a1, a2), F2, R2.sF, (p1 R2.sB R2.sF (Rp.mono (hpM_ext e2) r1) (p2 R2.sB R2.sF r2 trivial)), ?_⟩
  refine (M.P_cl q).imp (fun a k F' v H' f h => ?_) fun _ z => z.elim
  have e := f.ext0
  exact k F' v H' ((e1.trans e2).trans e) f.sF h
theorem en_call2 {R : Type} [Rp R] [Rc R] {α1 : Type} [Rp α1] {α2 : Type} [Rp α2] {k1 : α1 → Slot} {k2 : α2 → Slot} {d1 : Md} {d2 : Md} {m1 : M α1} {t1 : TE} {m2 : M α2} {t2 : TE} {f : α1 → α2 → M R} (h1 : Ev G B E d1 ρ t1 m1) (p1 : Ps d1 k1) (h2 : Ev G B E d2 ρ t2 m2) (p2 : Ps d2 k2) : EvN G B E ρ (tCall (spA G (fun (p : α1 × α2) => [k1 p.1, k2 p.2]) (rpN G) (fun (p : α1 × α2) => f (p.1) (p.2))) [] E0 (tCons t1 (tCons t2 tNil))) (m1.b fun a1 => m2.b fun a2 => M.cl (f a1 a2)) := fun F0 F σ H Q R0 q => by
  refine h1.go R0 q fun a1 F1 v1 H1 e1 r1 R1 q => ?_
  refine h2.go R1 q fun a2 F2 v2 H2 e2 r2 R2 q => ?_
  refine ⟨(a1, a2), F2, R2.sF, (p1 R2.sB R2.sF (Rp.mono (hpM_ext e2) r1) (p2 R2.sB R2.sF r2 trivial)), ?_⟩
  refine (M.P_cl q).imp (fun a k F' v H' f h => ?_) fun _ z => z.elim
  have e := f.ext0
  obtain ⟨p, o, rfl, h1, h2, h3, h4⟩ := h
  exact k F' p o H' ((e1.trans e2).trans e) f.sF ((e1.trans e2).h.free h1) h2 h3 h4
theorem en_call3 {R : Type} [Rp R] [Rc R] {α1 : Type} [Rp α1] {α2 : Type} [Rp α2] {α3 : Type} [Rp α3] {k1 : α1 → Slot} {k2 : α2 → Slot} {k3 : α3 → Slot} {d1 : Md} {d2 : Md} {d3 : Md} {m1 : M α1} {t1 : TE} {m2 : M α2} {t2 : TE} {m3 : M α3} {t3 : TE} {f : α1 → α2 → α3 → M R} (h1 : Ev G B E d1 ρ t1 m1) (p1 : Ps d1 k1) (h2 : Ev G B E d2 ρ t2 m2) (p2 : Ps d2 k2) (h3 : Ev G B E d3 ρ t3 m3) (p3 : Ps d3 k3) : EvN G B E ρ (tCall (spA G (fun (p : α1 × α2 × α3) => [k1 p.1, k2 p.2.1, k3 p.2.2]) (rpN G) (fun (p : α1 × α2 × α3) => f (p.1) (p.2.1) (p.2.2))) [] E0 (tCons t1 (tCons t2 (tCons t3 tNil)))) (m1.b fun a1 => m2.b fun a2 => m3.b fun a3 => M.cl (f a1 a2 a3)) := fun F0 F σ H Q R0 q => by
  refine h1.go R0 q fun a1 F1 v1 H1 e1 r1 R1 q => ?_
  refine h2.go R1 q fun a2 F2 v2 H2 e2 r2 R2 q => ?_
  refine h3.go R2 q fun a3 F3 v3 H3 e3 r3 R3 q => ?_
  refine ⟨(a1, a2, a3), F3, R3.sF, (p1 R3.sB R3.sF (Rp.mono (hpM_ext e3) (Rp.mono (hpM_ext e2) r1)) (p2 R3.sB R3.sF (Rp.mono (hpM_ext e3) r2) (p3 R3.sB R3.sF r3 trivial))), ?_⟩
  refine (M.P_cl q).imp (fun a k F' v H' f h => ?_) fun _ z => z.elim
  have e := f.ext0
  obtain ⟨p, o, rfl, h1, h2, h3, h4⟩ := h
  exact k F' p o H' (((e1.trans e2).trans e3).trans e) f.sF (((e1.trans e2).trans e3).h.free h1) h2 h3 h4
end
end Tw
set_option Elab.async false
set_option linter.all false
set_option maxRecDepth 100000
set_option maxHeartbeats 4000000
namespace Tw
open PySem PySem.Spec L2 TL
open PyProof.Rows hiding St
theorem arg_all {G : Gb} {F H : Hp} : ∀ {ss : List Slot} {vs : List V}, ArgOk G F H ss vs → All2 (fun s v => SlOk G H F H (some s) (some v) ∧ isOw (some s) = false) ss vs
  | [], [], _ => .nil
  | @Slot.fz _ i a :: ss, v :: vs, h => .cons ⟨⟨v, rfl, h.1⟩, rfl⟩ (arg_all h.2)
  | @Slot.bw _ i a :: ss, v :: vs, h => .cons ⟨⟨v, rfl, h.1⟩, rfl⟩ (arg_all h.2)
  | @Slot.ow _ _ _ _ :: _, _, h => by cases h
  | @Slot.lk _ _ _ _ _ _ _ :: _, _, h => by cases h
  | Slot.dr _ _ :: _, _, h => by cases h
  | @Slot.dd _ _ _ _ _ _ _ _ :: _, _, h => by cases h
  | Slot.ins _ _ _ _ _ :: _, _, h => by cases h
  | @Slot.rg _ _ _ _ :: _, _, h => by cases h
  | @Slot.al _ _ _ _ :: _, _, h => by cases h
  | @Slot.sh _ _ _ :: _, _, h => by cases h
  | Slot.vl _ :: _, _, h => by cases h
  | [], _ :: _, h => by cases h
  | @Slot.fz _ _ _ :: _, [], h => by cases h
  | @Slot.bw _ _ _ :: _, [], h => by cases h
theorem arg_at {G : Gb} {F H : Hp} {ss : List Slot} {vs : List V} {n i : Nat} {s : Option Slot} (h : All2 (fun s v => SlOk G H F H (some s) (some v) ∧ isOw (some s) = false) ss vs) (hs : (ss.map some ++ List.replicate n none)[i]? = some s) :
    isOw s = false ∧ ∀ x, (vs.map some ++ List.replicate n none)[i]? = some x → SlOk G H F H s x := by
  by_cases hi : i < ss.length
  · rw [List.getElem?_append_left (by rw [List.length_map]; exact hi), List.getElem?_map, List.getElem?_eq_getElem hi] at hs
    obtain ⟨v, ev, h1, h2⟩ := h.get (List.getElem?_eq_getElem hi)
    cases hs
    refine ⟨h2, fun x hx => ?_⟩
    rw [List.getElem?_append_left (by rw [List.length_map, ← h.len]; exact hi), List.getElem?_map, ev] at hx
    cases hx
    exact h1
  · rw [List.getElem?_append_right (by rw [List.length_map]; omega), List.getElem?_replicate] at hs
    split at hs
    · cases hs
      exact ⟨rfl, fun _ _ => trivial⟩
    · cases hs
theorem rel_args {G : Gb} {F H : Hp} {ss : List Slot} {vs : List V} (n : Nat) (s : Same F H) (h : ArgOk G F H ss vs) : Rel G H F F (ss.map some ++ List.replicate n none) (vs.map some ++ List.replicate n none) H where
  sB := .refl _
  sF := s
  s0 := .refl _
  nw := fun a h q => absurd h q
  len := by rw [List.length_append, List.length_append, List.length_map, List.length_map, (arg_all h).len]; simp
  sl := fun i s x hs hx => (arg_at (arg_all h) hs).2 x hx
  ds := fun i j s t x y b hi _ _ _ f _ => by have := (arg_at (arg_all h) hi).1; rw [f.own] at this; cases this
section
variable {G : Gb} {P R : Type} {sl : P → List Slot} {rp : RP R} {f : P → M R} {N : List Str} {n k : Nat} {vs : List V} {H : Hp} {Q : VK} {E : XK} {t : TS}
theorem spA_len (hs : spA G sl rp f vs H Q E) (hk : ∀ p, (sl p).length = k) : vs.length = k := by
  obtain ⟨p, F0, _, a, _⟩ := hs
  rw [← (arg_all a).len, hk]
theorem spA_run (hs : spA G sl rp f vs H Q E) (hn : ∀ p, N.length = (sl p).length + n) (h : ∀ p B, Run G B E (oR G B rp) ((sl p).map some ++ List.replicate n none) t (f p)) : t (dEnd Q) (start N vs) H := by
  obtain ⟨p, F0, s, a, q⟩ := hs
  have e : N.length - vs.length = n := by rw [← (arg_all a).len, hn p]; omega
  rw [start_of, e]
  exact h p H F0 F0 _ H _ (rel_args n s a) (q.imp (fun r k F' v H' f h => k F' v H' f h) fun _ x => x)
/-- the law itself -/
theorem spA_law {f : Scr → M Bool} {a : Addr} {ns : List Int} (hl : SqL G.K H a (ns.map V.int)) (hf : f ⟨ns⟩ = .ok true) (hq : ∀ H', Q (.bl true) H') : spA G (fun p : Scr => [.bw p]) (rpF G) f [.ref a] H Q E :=
  ⟨⟨ns⟩, fun _ => none, (fun _ _ e => nomatch e), ⟨⟨a, rfl, hl⟩, trivial⟩, by rw [hf]; exact fun F' v H' _ h => by rw [show v = .bl true from h]; exact hq H'⟩
end
section
variable {G : Gb} {B : Hp} {E : XK} {ρ : Evr} {α β κ : Type} [Rp α] [Rp β] [Rp κ] [DecidableEq κ] [Ky κ] {md md' mr : Md} {ta tb tc te : TE} {g : TG} {ts : List Nat} {bind : κ → Evr → Evr} {S Ω : Type} {EX : S → Evr}
abbrev keysOf {κ α : Type} (d : Dk κ α) : List κ := d.l.map (·.1)
/-- .. in a statement: the lock stays with its slot -/
theorem ew_keysF {i : Nat} {p : Addr} {ob : Obj} {u : HO} {d : Dk κ α} (h : ρ[i]? = some (some (.lk p ob u d))) (ht : Tgt G B .F g ts bind) :
    ∀ (F0 F : Hp) (σ : L2.St) (H : Hp) (R : It → Hp → Prop), Rel G B F0 F ρ σ H → (∀ J, Walk G B (fun _ H2 => H2 p = some (.frz ob u)) J g ts bind (keysOf d) → R J H) → iKeys (tVar i) σ H R := fun F0 F σ H R RR q => by
  obtain ⟨x, e, rfl, h1, h2, h3, kvs, rfl, h4⟩ := RR.at h
  refine ⟨_, e, p, ob, rfl, .inl ⟨kvs, h3, q _ fun i F0 F2 ρ σ H2 w R => ?_⟩⟩
  refine ⟨fun hz => ⟨w, by rw [List.length_map, ← h4.len] at hz; exact hz⟩, fun k hk => ?_⟩
  rw [List.getElem?_map] at hk
  cases ek : d.l[i]? with
  | none => rw [ek] at hk; cases hk
  | some y =>
    rw [ek] at hk
    cases hk
    obtain ⟨kv, ekv, r1, r2⟩ := h4.get' ek
    refine ⟨⟨w, (List.getElem?_eq_some_iff.mp ekv).1⟩, fun v H' z Qt kk => ?_⟩
    obtain ⟨rfl, k2, v2, e2, rfl⟩ := z
    rw [ekv] at e2
    cases e2
    exact ht F0 F2 ρ σ _ _ y.1 Qt R ((Ky.iff _ _ _ _).mpr (by rw [← r1])) fun σ' ws R' => kk F2 σ' _ (.refl _ _) ws R'
theorem mut_dK {kvs : List (Key × V)} : Mut (some (.dK kvs)) := trivial
/-- for k in d: .., d one's own -/
theorem run_forK {i : Nat} {d : Dk κ α} {t : TS} {f : S → κ → M S} {s0 : S} (h : ρ[i]? = some (some (.ow d))) (ht : Tgt G B .F g ts bind) (h0 : ∀ p ob u, Wk (ρ.set i (some (.lk p ob u d))) ((EX s0).set i (some (.lk p ob u d)))) (hx : ∀ s, (EX s)[i]? = some (some (.ow d)))
    (hb : ∀ p ob u s x, Run G B E (oN G B fun s => (EX s).set i (some (.lk p ob u d))) (bind x ((EX s).set i (some (.lk p ob u d)))) t (f s x)) :
    Run G B E (oN G B EX) ρ (tLock (tFor (iKeys (tVar i)) g t)) (M.for_ f (keysOf d) s0) := fun F0 F σ H D R q => by
  obtain ⟨p, o, ep, h1, h2, h3, kvs, rfl, h4⟩ := R.ow h
  refine ⟨p, _, h3, mut_dK, fun od => ?_⟩
  have R1 : Rel G B F0 F (ρ.set i (some (.lk p od (.dK kvs) d))) σ (upd H p (.frz od (.dK kvs))) := R.shift h ep (show _ = _ from rfl) ⟨rfl, h1, h2, upd_same, ⟨kvs, rfl, h4⟩⟩ fun b f => by cases (show (some (V.ref p) : Option V) = some (.ref b) from f); rfl
  have hi : (ρ.set i (some (Slot.lk p od (.dK kvs) d)))[i]? = some (some (.lk p od (.dK kvs) d)) := by rw [List.getElem?_set_self', h]; rfl
  have hxi : ∀ s, ((EX s).set i (some (Slot.lk p od (.dK kvs) d)))[i]? = some (some (.lk p od (.dK kvs) d)) := fun s => by rw [List.getElem?_set_self', hx]; rfl
  refine ew_keysF hi ht F0 F σ _ _ R1 fun J wk => ?_
  let xs := keysOf d
  refine ⟨fun j k σ2 H2 => k = xs.length - j ∧ j ≤ xs.length ∧ ∃ (F2 : Hp) (s : S), Rel G B F F2 ((EX s).set i (some (.lk p od (.dK kvs) d))) σ2 H2 ∧ (M.for_ f (xs.drop j) s).P (fun s => oN G B EX F0 s D) (Xc G B E), ⟨xs.length, by simp, Nat.zero_le _, F, s0, (R1.weak (h0 p od (.dK kvs))).base, by rw [List.drop_zero]; exact q⟩, ?_⟩
  rintro j k σ2 H2 ⟨rfl, hj, F2, s, R2, q2⟩
  have lkd := R2.at (hxi s)
  obtain ⟨xx, exx, rfl, l1, l2, l3, l4⟩ := lkd
  obtain ⟨w1, w2⟩ := wk j F F2 _ _ H2 l3 R2
  by_cases hlt : j < xs.length
  · have hxj : xs[j]? = some xs[j] := List.getElem?_eq_getElem hlt
    obtain ⟨g1, g2⟩ := w2 xs[j] hxj
    rw [List.drop_eq_getElem_cons hlt] at q2
    refine .inr ⟨g1, fun σ3 H3 => ∃ m', m' < xs.length - j ∧ (m' = xs.length - (j + 1) ∧ j + 1 ≤ xs.length ∧ ∃ (F2 : Hp) (s : S), Rel G B F F2 ((EX s).set i (some (.lk p od (.dK kvs) d))) σ3 H3 ∧ (M.for_ f (xs.drop (j + 1)) s).P (fun s => oN G B EX F0 s D) (Xc G B E)), fun _ _ z => z, fun v H3 hy => g2 v H3 hy _ fun F3 σ3 H4 e3 _ R3 => ?_⟩
    exact hb p od (.dK kvs) s xs[j] F F3 σ3 H4 _ R3 ((M.P_b.mp q2).imp (fun s' q3 F' σ' H' R' => ⟨_, by omega, rfl, hlt, F', s', R', q3⟩) fun _ x => x)
  · have e : j = xs.length := by omega
    subst e
    rw [List.drop_length] at q2
    refine .inl ⟨w1 (Nat.le_refl _), l3, ?_⟩
    refine q2 F2 σ2 _ (R.under ?_)
    have R4 : Rel G B F F2 (((EX s).set i (some (.lk p od (.dK kvs) d))).set i (some (.ow d))) σ2 (upd H2 p (.dK kvs)) := R2.shift (hxi s) exx (show _ = _ from rfl) ⟨p, _, rfl, l1, l2, upd_same, l4⟩ fun b f => by cases (show (some (V.ref p) : Option V) = some (.ref b) from f); rfl
    rw [List.set_set] at R4
    have e2 : (EX s).set i (some (Slot.ow d)) = EX s := by
      refine List.ext_getElem? fun m => ?_
      by_cases z : i = m
      · subst z; rw [List.getElem?_set_self', hx]; rfl
      · rw [List.getElem?_set_ne z]
    rw [e2] at R4
    exact R4
theorem en_sorted {m : M (List Str)} (h : Ev G B E md ρ te m) : EvN G B E ρ (tCB (rSortedS G.K) (tCons te tNil)) (m.b fun l => .chk (l.length < 64) (.ok (srt l))) := fun F0 F σ H Q R q =>
  h.toH.go R q fun l F1 v H1 e1 r1 R1 q => by
    obtain ⟨c, q⟩ := M.P_chk.mp q
    obtain ⟨p, vs, rfl, h1, h2⟩ := r1
    rw [strs_of h2] at h1
    refine ⟨p, l, rfl, .of h1, c, fun ys d hp hs nd => ?_⟩
    rw [srt_unique hp hs]
    exact q F1 d _ _ (e1.trans (.new nd)) (R1.sF.trans (same_upd nd)) (e1.h.free nd) (R1.sF.free nd) upd_same ⟨_, rfl, All2.of_map (R := rep G F1) (f := V.str) (fun _ => rfl) _⟩
abbrev qSortedD : List V → Hp → VK → Prop := fun xs H Q => ∃ (a : Addr) (kvs : List (Key × V)) (ks : List Str), xs = [.ref a] ∧ Rd H a (.dK kvs) ∧ kvs.map (·.1) = ks.map Sum.inr ∧ ks.length < 64 ∧
    ∀ ys p, ys.Perm ks → sortedS ys = true → H p = none → Q (.ref p) (upd H p (.lst (ys.map V.str)))
theorem keys_map {H : Hp} : ∀ {kvs : List (Key × V)} {l : List (κ × α)}, repk G H kvs l → kvs.map (·.1) = (l.map (·.1)).map Ky.key
  | _, _, .nil => rfl
  | _, _, .cons h t => by rw [List.map_cons, List.map_cons, List.map_cons, keys_map t, h.1]
theorem en_sortedD {m : M (Dk Str α)} (h : Ev G B E md ρ te m) : EvN G B E ρ (tCB qSortedD (tCons te tNil)) (m.b fun d => .chk ((keysOf d).length < 64) (.ok (srt (keysOf d)))) := fun F0 F σ H Q R q =>
  h.toH.go R q fun d F1 v H1 e1 r1 R1 q => by
    obtain ⟨c, q⟩ := M.P_chk.mp q
    obtain ⟨p, kvs, rfl, h1, h2⟩ := r1
    refine ⟨p, kvs, keysOf d, rfl, h1, keys_map h2, c, fun ys d hp hs nd => ?_⟩
    rw [srt_unique hp hs]
    exact q F1 d _ _ (e1.trans (.new nd)) (R1.sF.trans (same_upd nd)) (e1.h.free nd) (R1.sF.free nd) upd_same ⟨_, rfl, All2.of_map (R := rep G F1) (f := V.str) (fun _ => rfl) _⟩
end
end Tw
set_option Elab.async false
set_option linter.all false
set_option maxRecDepth 100000
set_option maxHeartbeats 4000000
namespace Tw
open PySem PySem.Spec L2 TL
open PyProof.Rows hiding St
section
variable {G : Gb} {B : Hp} {E : XK} {ρ ρ' : Evr} {α β γ δ : Type} [Rp α] [Rp β] [Rp γ] [Rp δ] {md md' mr : Md} {ta tb tc td te : TE} {Ω S S' R : Type} {post : Hp → Ω → Ends → Prop} {EX : S → Evr} {rp : RP R} {t t1 t2 rest : TS}
theorem run_cutR {m : M R} (h : Run G B E (oR G B rp) ρ t m) : Run G B E (oR G B rp) ρ (tSeq t rest) m := fun F0 F σ H D RR q => h F0 F σ H _ RR q
end
end Tw
set_option Elab.async false
set_option linter.all false
set_option maxRecDepth 100000
set_option maxHeartbeats 4000000
namespace Tw
open PySem PySem.Spec L2 TL
open PyProof.Rows hiding St
/-- a name put in at a place of the k-th row -/
def insAt (ts : List Str) (j : Int) (a : Str) : List Str := ts.take j.toNat ++ [a] ++ ts.drop j.toNat
def rowIns (rows : RowsT) (k : Nat) (j : Int) (a : Str) : RowsT := rows.modify k fun r => (r.1, insAt r.2 j a)
section
variable {G : Gb} {B : Hp} {E : XK} {ρ ρ' : Evr} {α β γ δ : Type} [Rp α] [Rp β] [Rp γ] [Rp δ] {md md' mr : Md} {ta tb tc te : TE} {g : TG} {ts : List Nat} {bind : α → Evr → Evr}
  {Ω S S' R : Type} {post : Hp → Ω → Ends → Prop} {EX : S → Evr} {EX' : S' → Evr} {rp : RP R} {t t1 t2 rest : TS} {i : Nat} {p : Addr} {rows : RowsT}
theorem Rel.dr {F0 F H : Hp} {σ : L2.St} (R : Rel G B F0 F ρ σ H) (h : ρ[i]? = some (some (.dr p rows))) : ∃ cs, σ[i]? = some (some (.ref p)) ∧ Rows H p cs ∧ cs.map RC.r = rows ∧ ∀ b, FpR p cs b → B b = none ∧ F b = none := by
  obtain ⟨x, e, cs, rfl, h1, h2, h3⟩ := R.at h
  exact ⟨cs, e, h1, h2, h3⟩
theorem Rows.ext {F H F' H' : Hp} {cs : List RC} (h : Rows H p cs) (e : Ext F H F' H') : Rows H' p cs := h.keep fun _ _ _ z => e.h _ _ z
theorem modify_field {β : Type} {cs : List RC} {k : Nat} {g : RC → RC} {f : RC → β} (h : ∀ c, f (g c) = f c) : (cs.modify k g).map f = cs.map f := by
  refine List.ext_getElem? fun j => ?_
  rw [List.getElem?_map, List.getElem?_modify, List.getElem?_map]
  cases cs[j]? with
  | none => rfl
  | some c => by_cases e : k = j <;> simp [e, h]
theorem mem_modify {cs : List RC} {k : Nat} {g : RC → RC} {c : RC} (h : c ∈ cs.modify k g) : ∃ j d, cs[j]? = some d ∧ c = if k = j then g d else d := by
  obtain ⟨j, hj⟩ := List.mem_iff_getElem?.mp h
  rw [List.getElem?_modify] at hj
  cases e : cs[j]? with
  | none => rw [e] at hj; cases hj
  | some d =>
    rw [e] at hj
    refine ⟨j, d, e, ?_⟩
    exact (Option.some.inj hj).symm
/-- the k-th row's list is another -/
theorem Rows.setl {H : Hp} {cs : List RC} {k : Nat} {c : RC} {ts' : List Str} (h : Rows H p cs) (hk : cs[k]? = some c) : Rows (upd H c.l (.lst (ts'.map V.str))) p (cs.modify k fun c => { c with ts := ts' }) ∧ ∀ b, FpR p (cs.modify k fun c => { c with ts := ts' }) b → FpR p cs b := by
  have hc := List.mem_of_getElem? hk
  have nlp : ∀ d ∈ cs, d.p ≠ c.l := fun d hd e => by have := h.tp d hd; rw [e, h.ls c hc] at this; cases this
  have pl : p ≠ c.l := (h.ne c hc).symm
  have at' : ∀ d ∈ cs.modify k (fun c => { c with ts := ts' }), ∃ e ∈ cs, d.p = e.p ∧ d.l = e.l ∧ d.n = e.n ∧ (d.ts = e.ts ∧ d.l ≠ c.l ∨ d.ts = ts' ∧ d.l = c.l) := fun d hd => by
    obtain ⟨j, e, hj, rfl⟩ := mem_modify hd
    have he := List.mem_of_getElem? hj
    refine ⟨e, he, ?_⟩
    by_cases z : k = j
    · subst z
      rw [hk] at hj
      cases hj
      rw [if_pos rfl]
      exact ⟨rfl, rfl, rfl, .inr ⟨rfl, rfl⟩⟩
    · rw [if_neg z]
      refine ⟨rfl, rfl, rfl, .inl ⟨rfl, fun q => z ?_⟩⟩
      have e1 : (cs.map RC.l)[k]? = some c.l := by rw [List.getElem?_map, hk]; rfl
      have e2 : (cs.map RC.l)[j]? = some c.l := by rw [List.getElem?_map, hj, ← q]; rfl
      exact (List.getElem?_inj (List.getElem?_eq_some_iff.mp e1).1 h.nl).mp (e1.trans e2.symm)
  refine ⟨⟨?_, fun d hd => ?_, fun d hd => ?_, ?_, fun d hd => ?_⟩, fun b f => ?_⟩
  · rw [upd_ne pl, modify_field (g := fun c : RC => { c with ts := ts' }) (f := fun c => V.ref c.p) (fun _ => rfl)]
    exact h.top
  · obtain ⟨e, he, e1, e2, e3, _⟩ := at' d hd
    rw [e1, e2, e3, upd_ne (nlp e he)]
    exact h.tp e he
  · obtain ⟨e, he, e1, e2, e3, e4⟩ := at' d hd
    rcases e4 with ⟨e4, e5⟩ | ⟨e4, e5⟩
    · rw [upd_ne e5, e4, e2]; exact h.ls e he
    · rw [e5, upd_same, e4]
  · rw [modify_field (g := fun c : RC => { c with ts := ts' }) (f := RC.l) (fun _ => rfl)]
    exact h.nl
  · obtain ⟨e, he, e1, e2, _⟩ := at' d hd
    rw [e2]; exact h.ne e he
  · rcases f with f | ⟨d, hd, f⟩
    · exact .inl f
    · obtain ⟨e, he, e1, e2, _⟩ := at' d hd
      rw [e1, e2] at f
      exact .inr ⟨e, he, f⟩
/-- a row more -/
theorem Rows.snoc {H : Hp} {cs : List RC} {n : Str} {ts : List Str} {t l : Addr} (h : Rows H p cs) (ht : H t = some (.tup [.str n, .ref l])) (hl : H l = some (.lst (ts.map V.str))) (nl : ∀ c ∈ cs, c.l ≠ l) (np : l ≠ p) :
    Rows (upd H p (.lst ((cs.map fun c => V.ref c.p) ++ [.ref t]))) p (cs ++ [⟨t, l, n, ts⟩]) := by
  have tp : t ≠ p := fun e => by rw [e, h.top] at ht; cases ht
  have cp : ∀ c ∈ cs, c.p ≠ p := fun c hc e => by have := h.tp c hc; rw [e, h.top] at this; cases this
  refine ⟨by rw [upd_same, List.map_append]; rfl, fun c hc => ?_, fun c hc => ?_, ?_, fun c hc => ?_⟩
  · rcases List.mem_append.mp hc with w | w
    · rw [upd_ne (cp c w)]; exact h.tp c w
    · rw [List.mem_singleton.mp w, upd_ne tp]; exact ht
  · rcases List.mem_append.mp hc with w | w
    · rw [upd_ne (h.ne c w)]; exact h.ls c w
    · rw [List.mem_singleton.mp w, upd_ne np]; exact hl
  · rw [List.map_append, List.nodup_append]
    refine ⟨h.nl, by simp, fun a ha b hb => ?_⟩
    obtain ⟨c, hc, rfl⟩ := List.mem_map.mp ha
    rw [show b = l by simpa using hb]
    exact nl c hc
  · rcases List.mem_append.mp hc with w | w
    · exact h.ne c w
    · rw [List.mem_singleton.mp w]; exact np
theorem erase_map {α β : Type} (f : α → β) : ∀ (l : List α) (n : Nat), (l.map f).eraseIdx n = (l.eraseIdx n).map f
  | [], _ => rfl
  | _ :: _, 0 => rfl
  | a :: r, n + 1 => congrArg (f a :: ·) (erase_map f r n)
/-- the n-th row goes -/
theorem Rows.erase {H : Hp} {cs : List RC} (n : Nat) (h : Rows H p cs) : Rows (upd H p (.lst ((cs.map fun c => V.ref c.p).eraseIdx n))) p (cs.eraseIdx n) := by
  have sub : ∀ c, c ∈ cs.eraseIdx n → c ∈ cs := fun c hc => (List.eraseIdx_sublist cs n).subset hc
  have cp : ∀ c ∈ cs, c.p ≠ p := fun c hc e => by have := h.tp c hc; rw [e, h.top] at this; cases this
  refine ⟨by rw [upd_same, erase_map], fun c hc => by rw [upd_ne (cp c (sub c hc))]; exact h.tp c (sub c hc), fun c hc => by rw [upd_ne (h.ne c (sub c hc))]; exact h.ls c (sub c hc), ?_, fun c hc => h.ne c (sub c hc)⟩
  exact ((List.eraseIdx_sublist cs n).map RC.l).nodup h.nl
end
end Tw
set_option Elab.async false
set_option linter.all false
set_option maxRecDepth 100000
set_option maxHeartbeats 4000000
namespace Tw
open PySem PySem.Spec L2 TL
open PyProof.Rows hiding St
/-- what stands at p of the rows -/
def DrAt (B F H : Hp) (p : Addr) (rows : RowsT) : Prop := ∃ cs, Rows H p cs ∧ cs.map RC.r = rows ∧ ∀ b, FpR p cs b → B b = none ∧ F b = none
end Tw
set_option Elab.async false
set_option linter.all false
set_option maxRecDepth 100000
set_option maxHeartbeats 4000000
set_option Elab.async false
set_option linter.all false
set_option maxRecDepth 100000
set_option maxHeartbeats 4000000
namespace Tw
open PySem PySem.Spec L2 TL
open PyProof.Rows hiding St
/-- what is put behind what a key holds -/
def dapp {κ α : Type} [DecidableEq κ] (d : List (κ × List α)) (k : κ) (a : α) : List (κ × List α) := match dget d k with
  | some l => dput d k (l ++ [a])
  | none => d ++ [(k, [a])]
section
variable {G : Gb} {B : Hp} {E : XK} {ρ ρ' : Evr} {α β κ : Type} [Rp α] [Rp κ] [DecidableEq κ] [Ky κ] {md md' mr : Md} {ta tb tc te : TE}
  {Ω S R : Type} {post : Hp → Ω → Ends → Prop} {EX : S → Evr} {rp : RP R} {t rest : TS} {i : Nat} {p : Addr} {d : List (κ × List α)}
theorem Rel.dd {F0 F H : Hp} {σ : L2.St} (R : Rel G B F0 F ρ σ H) (h : ρ[i]? = some (some (.dd p d))) : ∃ es, σ[i]? = some (some (.ref p)) ∧ DlOk G F H p es d ∧ ∀ b, FpD p es b → B b = none ∧ F b = none := by
  obtain ⟨x, e, es, rfl, h1, h3⟩ := R.at h
  exact ⟨es, e, h1, h3⟩
theorem run_ddNew {m : M Ω} (hk : ∀ p, Run G B E post (ρ.set i (some (.dd p ([] : List (κ × List α))))) rest m) : Run G B E post ρ (tSeq (tAsg tDNewK (gName i)) rest) m := fun F0 F σ H D R q p np => by
  have e : Ext F H F (upd H p (.dK [])) := .new np
  have R1 := R.ext e (R.sF.trans e.h)
  refine hk p F0 F _ _ D (R1.setv ⟨[], rfl, ⟨upd_same, .nil, .nil, by simp⟩, fun b f => ?_⟩ fun b f j t y _ hj hy g => ?_) q
  · rcases f with rfl | ⟨e, he, _⟩
    · exact ⟨R.sB.free np, R.sF.free np⟩
    · cases he
  · obtain ⟨es, _, k1, k2⟩ := f
    have := (show DictL _ p [] from upd_same).inj k1
    subst this
    rcases k2 with rfl | ⟨e, he, _⟩
    · exact R.freshE np e.h j t y hj hy g
    · cases he
theorem dl_get {F H : Hp} {es : List (Key × Addr)} (k : κ) (h : DlOk G F H p es d) : (∀ l, dget d k = some l → ∃ (n : Nat) (q : Addr) (vs : List V), es[n]? = some (Ky.key k, q) ∧ d[n]? = some (k, l) ∧ valV (es.map fun e => (e.1, V.ref e.2)) (Ky.key k) = some (.ref q) ∧ H q = some (.lst vs) ∧ reps G F vs l ∧ (∀ m x, d[m]? = some x → x.1 = k → n ≤ m)) ∧ (dget d k = none → valV (es.map fun e => (e.1, V.ref e.2)) (Ky.key k) = none) := by
  have go : ∀ {es : List (Key × Addr)} {d : List (κ × List α)}, All2 (fun (e : Key × Addr) (q : κ × List α) => e.1 = Ky.key q.1 ∧ ∃ vs, H e.2 = some (.lst vs) ∧ reps G F vs q.2) es d →
      (∀ l, dget d k = some l → ∃ (n : Nat) (q : Addr) (vs : List V), es[n]? = some (Ky.key k, q) ∧ d[n]? = some (k, l) ∧ valV (es.map fun e => (e.1, V.ref e.2)) (Ky.key k) = some (.ref q) ∧ H q = some (.lst vs) ∧ reps G F vs l ∧ (∀ m x, d[m]? = some x → x.1 = k → n ≤ m)) ∧ (dget d k = none → valV (es.map fun e => (e.1, V.ref e.2)) (Ky.key k) = none) := by
    intro es d h
    induction h with
    | nil => exact ⟨fun l e => (nomatch e), fun _ => rfl⟩
    | @cons a b l m r t ih =>
      obtain ⟨r1, vs, r2, r3⟩ := r
      by_cases e : b.1 = k
      · have e3 : dget (b :: m) k = some b.2 := by simp [dget, List.find?_cons, e]
        have e4 : valV ((a :: l).map fun e => (e.1, V.ref e.2)) (Ky.key k) = some (.ref a.2) := valV_pos (by show a.1 = _; rw [r1, e])
        rw [e3, e4]
        refine ⟨fun l' z => ?_, fun z => nomatch z⟩
        cases z
        refine ⟨0, a.2, vs, by rw [← e, ← r1]; rfl, by rw [← e]; rfl, rfl, r2, r3, fun _ _ _ _ => Nat.zero_le _⟩
      · have e3 : dget (b :: m) k = dget m k := by simp [dget, List.find?_cons, e]
        have e4 : valV ((a :: l).map fun e => (e.1, V.ref e.2)) (Ky.key k) = valV (l.map fun e => (e.1, V.ref e.2)) (Ky.key k) := valV_neg (by show ¬ a.1 = _; rw [r1]; exact fun w => e (Ky.inj w))
        rw [e3, e4]
        refine ⟨fun l' z => ?_, ih.2⟩
        obtain ⟨n, q, ws, q1, q2, q3, q4, q5, q6⟩ := ih.1 l' z
        refine ⟨n + 1, q, ws, q1, q2, q3, q4, q5, fun m' x hx ex => ?_⟩
        cases m' with
        | zero => cases hx; exact absurd ex e
        | succ m' => exact Nat.succ_le_succ (q6 m' x hx ex)
  exact go h.all
theorem dput_val {d : List (κ × List α)} {k : κ} {l l' : List α} (nd : (d.map (·.1)).Nodup) {n : Nat} (h : d[n]? = some (k, l)) : dput d k l' = d.set n (k, l') := by
  unfold dput
  rw [if_pos (List.any_eq_true.mpr ⟨_, List.mem_of_getElem? h, decide_eq_true rfl⟩)]
  refine List.ext_getElem? fun m => ?_
  rw [List.getElem?_map]
  by_cases e : n = m
  · subst e
    rw [List.getElem?_set_self', h]
    simp
  · rw [List.getElem?_set_ne e]
    cases q : d[m]? with
    | none => rfl
    | some x =>
      have : ¬ x.1 = k := fun w => e ((List.getElem?_inj (l := d.map (·.1)) (by rw [List.length_map]; exact (List.getElem?_eq_some_iff.mp h).1) nd).mp (by rw [List.getElem?_map, List.getElem?_map, h, q]; simp [w]))
      simp [this]
theorem Rel.drop {F0 F H : Hp} {σ : L2.St} (R : Rel G B F0 F ρ σ H) (i : Nat) : Rel G B F0 F (ρ.set i none) σ H := by
  refine ⟨R.sB, R.sF, R.s0, R.nw, by rw [List.length_set]; exact R.len, fun j t y hj hy => ?_, fun j k t u y z b hj hy hk hz f g => ?_⟩
  · rcases set_at hj with ⟨rfl, rfl, _⟩ | ⟨_, hj⟩
    · exact trivial
    · exact R.sl j t y hj hy
  · rcases set_at hj with ⟨rfl, rfl, _⟩ | ⟨_, hj⟩
    · cases f
    · rcases set_at hk with ⟨rfl, rfl, _⟩ | ⟨_, hk⟩
      · cases g
      · exact R.ds j k t u y z b hj hy hk hz f g
theorem es_ne {es : List (Key × Addr)} {n : Nat} {e : Key × Addr} (nl : (es.map (·.2)).Nodup) (h : es[n]? = some e) {m : Nat} {f : Key × Addr} (hm : es[m]? = some f) (z : f.2 = e.2) : n = m :=
  (List.getElem?_inj (l := es.map (·.2)) (by rw [List.length_map]; exact (List.getElem?_eq_some_iff.mp h).1) nl).mp (by rw [List.getElem?_map, List.getElem?_map, h, hm]; simp [z])
/-- one list of the dict is another -/
theorem DlOk.setl {F H : Hp} {es : List (Key × Addr)} {n : Nat} {x : κ} {q : Addr} {l l' : List α} {ws : List V} (r : DlOk G F H p es d) (h1 : es[n]? = some (Ky.key x, q)) (h2 : d[n]? = some (x, l)) (hw : reps G F ws l') : DlOk G F (upd H q (.lst ws)) p es (d.set n (x, l')) := by
  have qp : p ≠ q := (r.ne _ (List.mem_of_getElem? h1)).symm
  refine ⟨by show upd H q _ p = _; rw [upd_ne qp]; exact r.top, ?_, r.nl, r.ne⟩
  have go : ∀ {fs : List (Key × Addr)} {c : List (κ × List α)}, All2 (fun (e : Key × Addr) (q : κ × List α) => e.1 = Ky.key q.1 ∧ ∃ vs, H e.2 = some (.lst vs) ∧ reps G F vs q.2) fs c → ∀ m : Nat, fs[m]? = some (Ky.key x, q) → (∀ (j : Nat) f, fs[j]? = some f → f.2 = q → m = j) →
      All2 (fun (e : Key × Addr) (c : κ × List α) => e.1 = Ky.key c.1 ∧ ∃ vs, (upd H q (.lst ws)) e.2 = some (.lst vs) ∧ reps G F vs c.2) fs (c.set m (x, l')) := by
    intro fs c hh
    induction hh with
    | nil => exact fun m w => by simp at w
    | @cons e b fs c rr t ih =>
      intro m w u
      obtain ⟨s1, vs, s2, s3⟩ := rr
      cases m with
      | zero =>
        simp at w
        subst w
        refine .cons ⟨rfl, ws, upd_same, hw⟩ (t.impm fun f c' hf ⟨z1, vs2, z2, z3⟩ => ⟨z1, vs2, ?_, z3⟩)
        obtain ⟨j, hj⟩ := List.mem_iff_getElem?.mp hf
        rw [upd_ne (fun y => absurd (u (j + 1) f (by simpa using hj) y) (by omega))]
        exact z2
      | succ m =>
        refine .cons ⟨s1, vs, ?_, s3⟩ (ih m (by simpa using w) fun j f hj y => by have := u (j + 1) f (by simpa using hj) y; omega)
        rw [upd_ne (fun y => absurd (u 0 e rfl y) (by omega))]
        exact s2
  exact go r.all n h1 fun j f hj z => es_ne r.nl h1 hj z
/-- d.setdefault(k, []).append(a) -/
theorem run_setApp {mk : M κ} {m : M α} {k : κ → α → M Ω} {tk : TE} (h : ρ[i]? = some (some (.dd p d))) (hk : Ev G B E md ρ tk mk) (he : Ev G B E .F (ρ.set i none) te m) (hn : ∀ x a, Run G B E post (ρ.set i (some (.dd p (dapp d x a)))) rest (k x a)) :
    Run G B E post ρ (tSeq (tDrop (tBM G.K "list" rAppend (tDSetd (tVar i) tk (tLst tNil)) (tCons te tNil))) rest)
      (mk.b fun x => .chk ((d.map (·.1)).Nodup ∧ d.length < sizeLine ∧ ∀ l, dget d x = some l → l.length < sizeLine) (m.b fun a => k x a)) := fun F0 F σ H D R q => by
  obtain ⟨es, e, r1, r3⟩ := R.dd h
  refine ⟨_, e, p, rfl, .inl ⟨_, .inl r1.top⟩, hk.go R q fun x F1 u H1 e1 q1 R1 q => ⟨Nat.zero_le _, fun z nz => ?_⟩⟩
  obtain ⟨⟨c1, c2, c3⟩, q⟩ := M.P_chk.mp q
  have e2 : Ext F1 H1 F1 (upd H1 z (.lst [])) := .new nz
  have R2 := R1.ext e2 (R1.sF.trans e2.h)
  have e12 := e1.trans e2
  have rb := (r1.keep e12.f fun b o _ w => e12.h _ _ w)
  have fp2 : ∀ b, FpD p es b → B b = none ∧ F1 b = none := fun b f => by
    obtain ⟨o, ho⟩ := r1.there f
    exact ⟨(r3 b f).1, e12.non ho (r3 b f).2⟩
  have hzn : H z = none := e1.h.free nz
  have hlen : es.length = d.length := r1.all.len
  obtain ⟨g1, g2⟩ := dl_get x rb
  refine ⟨_, Ky.key x, rb.top, (Ky.iff _ _ _ _).mp q1, by rw [List.length_map, hlen]; exact c2, fun v hv => ?_, fun hv => ?_⟩
  · cases ed : dget d x with
    | none => rw [g2 ed] at hv; cases hv
    | some l =>
      obtain ⟨n, b, vs, a1, a2, a3, a4, a5, _⟩ := g1 l ed
      rw [a3] at hv
      cases hv
      have hb : FpD p es b := .inr ⟨_, List.mem_of_getElem? a1, rfl⟩
      refine ⟨.inl ⟨rfl, vs, .of a4⟩, he.go (R2.drop i) q fun a F3 w H3 e3 q3 R3 q => ?_⟩
      have rc := rb.keep e3.f fun b o _ w => e3.h _ _ w
      have fp3 : ∀ b, FpD p es b → B b = none ∧ F3 b = none := fun b f => by
        obtain ⟨o, ho⟩ := rb.there f
        exact ⟨(fp2 b f).1, e3.non ho (fp2 b f).2⟩
      have R3' := R2.ext e3 R3.sF
      refine ⟨b, vs, w, rfl, rfl, e3.h _ _ a4, by rw [a5.len]; exact c3 l ed, hn x a F0 F3 σ _ D ?_ q⟩
      have rd := rc.setl a1 a2 ((reps_mono e3.f a5).snoc q3)
      have ee : dapp d x a = d.set n (x, l ++ [a]) := by unfold dapp; rw [ed]; exact dput_val c1 a2
      rw [ee]
      refine R3'.mod h e (fun b' o nf y => ?_) ⟨es, rfl, rd, fp3⟩ fun b' f => .inl ?_
      · rw [upd_ne (fun w => nf ⟨es, rfl, rc.top, by rw [w]; exact hb⟩)]; exact y
      · obtain ⟨fs, _, k1, k2⟩ := f
        have := rd.top.inj k1
        subst this
        exact ⟨es, rfl, rc.top, k2⟩
  · cases ed : dget d x with
    | some l => obtain ⟨n, b, vs, a1, a2, a3, _⟩ := g1 l ed; rw [a3] at hv; cases hv
    | none =>
      have ek : putK (es.map fun e => (e.1, V.ref e.2)) (Ky.key x) (.ref z) = (es ++ [(Ky.key x, z)]).map fun e => (e.1, V.ref e.2) := by
        unfold putK
        rw [if_neg, List.map_append]
        · rfl
        · intro w
          obtain ⟨y, hy, ey⟩ := List.any_eq_true.mp w
          have : valV (es.map fun e => (e.1, V.ref e.2)) (Ky.key x) ≠ none := by
            unfold valV
            intro w2
            rw [Option.map_eq_none_iff, List.find?_eq_none] at w2
            exact w2 y hy ey
          exact this hv
      rw [ek]
      have zp : z ≠ p := fun w => by have := r1.top; rw [← w] at this; rw [show H z = _ from this] at hzn; cases hzn
      have zes : ∀ f ∈ es, f.2 ≠ z := fun f hf w => by
        obtain ⟨o, ho⟩ := r1.there (.inr ⟨f, hf, rfl⟩)
        rw [w, hzn] at ho
        cases ho
      have rc : DlOk G F1 (upd (upd H1 z (.lst [])) p (.dK ((es ++ [(Ky.key x, z)]).map fun e => (e.1, V.ref e.2)))) p (es ++ [(Ky.key x, z)]) (d ++ [(x, ([] : List α))]) := by
        refine ⟨upd_same, ?_, ?_, fun f hf => ?_⟩
        · refine All2.app (rb.all.impm fun f q hf ⟨s1, vs, s2, s3⟩ => ⟨s1, vs, by rw [upd_ne (rb.ne f hf)]; exact s2, s3⟩) (.cons ⟨rfl, [], by rw [upd_ne zp]; exact upd_same, .nil⟩ .nil)
        · rw [List.map_append, List.nodup_append]
          refine ⟨rb.nl, by simp, fun a ha b hb => ?_⟩
          obtain ⟨f, hf, rfl⟩ := List.mem_map.mp ha
          rw [show b = z by simpa using hb]
          exact zes f hf
        · rcases List.mem_append.mp hf with w | w
          · exact rb.ne f w
          · rw [List.mem_singleton.mp w]; exact zp
      have sub : ∀ b, FpD p (es ++ [(Ky.key x, z)]) b → FpD p es b ∨ b = z := fun b f => by
        rcases f with f | ⟨c, hc, f⟩
        · exact .inl (.inl f)
        · rcases List.mem_append.mp hc with w | w
          · exact .inl (.inr ⟨c, w, f⟩)
          · rw [List.mem_singleton.mp w] at f; exact .inr f
      have fpz : ∀ b, FpD p (es ++ [(Ky.key x, z)]) b → B b = none ∧ F1 b = none := fun b f => by
        rcases sub b f with f | f
        · exact fp2 b f
        · rw [f]; exact ⟨R.sB.free hzn, R1.sF.free nz⟩
      have R3 : Rel G B F0 F1 (ρ.set i (some (.dd p (d ++ [(x, ([] : List α))])))) σ (upd (upd H1 z (.lst [])) p (.dK ((es ++ [(Ky.key x, z)]).map fun e => (e.1, V.ref e.2)))) := by
        refine R2.mod h e (fun b' o nf y => ?_) ⟨_, rfl, rc, fpz⟩ fun b' f => ?_
        · rw [upd_ne (fun w => nf ⟨es, rfl, rb.top, .inl w⟩)]; exact y
        · obtain ⟨fs, _, k1, k2⟩ := f
          have := rc.top.inj k1
          subst this
          rcases sub b' k2 with f | f
          · exact .inl ⟨es, rfl, rb.top, f⟩
          · rw [f]; exact .inr (R.freshE hzn e12.h)
      have hz3 : (upd (upd H1 z (.lst [])) p (.dK ((es ++ [(Ky.key x, z)]).map fun e => (e.1, V.ref e.2)))) z = some (.lst []) := by rw [upd_ne zp]; exact upd_same
      have Rd := R3.drop i
      rw [List.set_set] at Rd
      refine ⟨.inl ⟨rfl, [], .of hz3⟩, he.go Rd q fun a F4 w H4 e4 q4 R4 q => ?_⟩
      have rd := rc.keep e4.f fun b o _ w => e4.h _ _ w
      have R4' := R3.ext e4 R4.sF
      have hi4 : (ρ.set i (some (.dd p (d ++ [(x, ([] : List α))]))))[i]? = some (some (.dd p (d ++ [(x, ([] : List α))]))) := by rw [List.getElem?_set_self', h]; rfl
      refine ⟨z, [], w, rfl, rfl, e4.h _ _ hz3, Nat.lt_of_le_of_lt (Nat.zero_le _) (show 0 < sizeLine by decide), hn x a F0 F4 σ _ D ?_ q⟩
      have n1 : (es ++ [(Ky.key x, z)])[es.length]? = some (Ky.key x, z) := by simp
      have n2 : (d ++ [(x, ([] : List α))])[es.length]? = some (x, []) := by rw [hlen]; simp
      have re := rd.setl (l' := [a]) (ws := [w]) n1 n2 (.cons q4 .nil)
      have ee : dapp d x a = (d ++ [(x, ([] : List α))]).set es.length (x, [a]) := by
        unfold dapp
        rw [ed, hlen]
        simp
      rw [ee]
      have fp4 : ∀ b, FpD p (es ++ [(Ky.key x, z)]) b → B b = none ∧ F4 b = none := fun b f => by
        obtain ⟨o, ho⟩ := rc.there f
        exact ⟨(fpz b f).1, e4.non ho (fpz b f).2⟩
      have Rf := R4'.mod hi4 e (H' := upd H4 z (.lst [w])) (s' := some (.dd p ((d ++ [(x, ([] : List α))]).set es.length (x, [a])))) (fun b' o nf y => ?_) ⟨_, rfl, re, fp4⟩ fun b' f => .inl ?_
      · rw [List.set_set] at Rf
        exact Rf
      · rw [upd_ne (fun w => nf ⟨_, rfl, rd.top, .inr ⟨(Ky.key x, z), by simp, w⟩⟩)]; exact y
      · obtain ⟨fs, _, k1, k2⟩ := f
        have := re.top.inj k1
        subst this
        exact ⟨_, rfl, rd.top, k2⟩
end
end Tw
set_option Elab.async false
set_option linter.all false
set_option maxRecDepth 100000
set_option maxHeartbeats 4000000
namespace Tw
open PySem PySem.Spec L2 TL
open PyProof.Rows hiding St
section
variable {G : Gb} {B : Hp} {E : XK} {ρ ρ' : Evr} {α β γ δ : Type} [Rp α] [Rp β] [Rp γ] [Rp δ] {md md' mr : Md} {ta tb tc te : TE} {g : TG} {ts : List Nat} {bind : α → Evr → Evr}
  {Ω S S' R : Type} {post : Hp → Ω → Ends → Prop} {EX : S → Evr} {EX' : S' → Evr} {rp : RP R} {t t1 t2 rest : TS}
open Classical in
theorem Rel.tellD {κ : Type} [Rp κ] [DecidableEq κ] [Ky κ] {F0 F H : Hp} {σ : L2.St} {i : Nat} {p : Addr} {d : List (κ × List α)} (R : Rel G B F0 F ρ σ H) (hi : ρ[i]? = some (some (.dd p d))) : ∃ F' kvs, Fin G B F0 F' H ∧ σ[i]? = some (some (.ref p)) ∧ B p = none ∧ F' p = none ∧ H p = some (.dK kvs) ∧ repk G F' kvs d := by
  have hil : i < σ.length := by rw [← R.len]; exact (List.getElem?_eq_some_iff.mp hi).1
  obtain ⟨x, hx⟩ : ∃ x, σ[i]? = some x := ⟨σ[i], List.getElem?_eq_getElem hil⟩
  obtain ⟨es, e1, h1, h3⟩ := R.sl i _ x hi hx
  subst e1
  let F' : Hp := fun b => if FpD p es b ∧ b ≠ p then H b else F b
  have in' : ∀ {b}, FpD p es b → b ≠ p → F' b = H b := fun f n => if_pos ⟨f, n⟩
  have out' : ∀ {b}, ¬ (FpD p es b ∧ b ≠ p) → F' b = F b := fun f => if_neg f
  have sf : Same F F' := fun b o e => by
    by_cases f : FpD p es b ∧ b ≠ p
    · rw [(h3 b f.1).2] at e; cases e
    · rw [out' f]; exact e
  have hp := h3 p (.inl rfl)
  refine ⟨F', _, ⟨R.sB, fun b o e => ?_, R.s0.trans sf, fun a h q => ?_⟩, hx, hp.1, ?_, h1.top, ?_⟩
  · by_cases f : FpD p es b ∧ b ≠ p
    · rw [in' f.1 f.2] at e; exact e
    · rw [out' f] at e; exact R.sF _ _ e
  · by_cases f : FpD p es a ∧ a ≠ p
    · exact (h3 a f.1).1
    · rw [out' f] at q; exact R.nw a h q
  · rw [out' (fun z => z.2 rfl)]; exact hp.2
  · have go : ∀ {fs : List (Key × Addr)} {d : List (κ × List α)}, (∀ e ∈ fs, e ∈ es) → All2 (fun (e : Key × Addr) (q : κ × List α) => e.1 = Ky.key q.1 ∧ ∃ vs, H e.2 = some (.lst vs) ∧ reps G F vs q.2) fs d → repk G F' (fs.map fun e => (e.1, V.ref e.2)) d := by
      intro fs d hm h
      induction h with
      | nil => exact .nil
      | @cons a b l m r t ih =>
        obtain ⟨r1, vs, r2, r3⟩ := r
        have hma := hm a List.mem_cons_self
        refine .cons ⟨r1, _, vs, rfl, ?_, reps_mono sf r3⟩ (ih fun e he => hm e (List.mem_cons_of_mem _ he))
        rw [in' (.inr ⟨a, hma, rfl⟩) (h1.ne a hma)]
        exact r2
    exact go (fun _ h => h) h1.all
theorem run_retQ {κ : Type} [Rp κ] [DecidableEq κ] [Ky κ] {i : Nat} {p : Addr} {d : List (κ × List α)} (h : ρ[i]? = some (some (.dd p d))) : Run G B E (oR G B (rpN G)) ρ (tRet (tVar i)) (.ok (⟨d⟩ : Dk κ (List α))) := fun F0 F σ H D R q => by
  obtain ⟨F', kvs, f, e, h1, h2, h3, h4⟩ := R.tellD h
  exact ⟨_, e, q F' _ H f ⟨p, _, rfl, h1, h2, h3, kvs, rfl, h4⟩⟩
def Anti (rp : RP R) : Prop := ∀ {B B' F' H' : Hp} {v : V} {r : R}, Same B B' → rp B' F' H' v r → rp B F' H' v r
theorem antiF {G : Gb} {R : Type} [Rp R] : Anti (rpF G : RP R) := fun _ h => h
end
end Tw
set_option Elab.async false
set_option linter.all false
set_option maxRecDepth 100000
set_option maxHeartbeats 4000000
namespace Tw
open PySem PySem.Spec L2 TL
open PyProof.Rows hiding St
/-- a thing without lists and dicts -/
class Im (α : Type) [Rp α] : Prop where
  im : ∀ {G : Gb} {H H' : Hp} {v : V} {a : α}, (∀ b xs, H b = some (.tup xs) → H' b = some (.tup xs)) → rep G H v a → rep G H' v a
instance : Im Int := ⟨fun _ h => h⟩
instance : Im Bool := ⟨fun _ h => h⟩
instance : Im Str := ⟨fun _ h => h⟩
instance : Im Unit := ⟨fun _ h => h⟩
section
variable {α β γ δ : Type} [Rp α] [Rp β] [Rp γ] [Rp δ]
instance [Im α] [Im β] : Im (α × β) := ⟨fun s ⟨p, v, w, e, h, h1, h2⟩ => ⟨p, v, w, e, s _ _ h, Im.im s h1, Im.im s h2⟩⟩
instance [Im α] [Im β] [Im γ] : Im (T3 α β γ) := ⟨fun s ⟨p, v, w, u, e, h, h1, h2, h3⟩ => ⟨p, v, w, u, e, s _ _ h, Im.im s h1, Im.im s h2, Im.im s h3⟩⟩
instance [Im α] [Im β] [Im γ] [Im δ] : Im (T4 α β γ δ) := ⟨fun s ⟨p, v, w, u, z, e, h, h1, h2, h3, h4⟩ => ⟨p, v, w, u, z, e, s _ _ h, Im.im s h1, Im.im s h2, Im.im s h3, Im.im s h4⟩⟩
theorem Im.reps [Im α] {G : Gb} {H H' : Hp} {vs : List V} {as : List α} (s : ∀ b xs, H b = some (.tup xs) → H' b = some (.tup xs)) (h : Tw.reps G H vs as) : Tw.reps G H' vs as := h.imp fun _ _ q => Im.im s q
end
section
variable (G : Gb) (B : Hp) (E : XK) {α : Type} [Rp α]
/-- what is told stands in a region that is new -/
def EvR (ρ : Evr) (te : TE) (m : M α) : Prop := ∀ (F0 F : Hp) (σ : L2.St) (H : Hp) (Q : VK), Rel G B F0 F ρ σ H →
  m.P (fun a => ∀ (F1 Fr : Hp) (v : V) (H' : Hp), Ext F H F1 H' → Same F1 H' → Same Fr H' → (∀ b, Fr b ≠ none → H b = none ∧ F1 b = none) → rep G Fr v a → Q v H') (Xc G B E) → te σ H Q
end
section
variable {G : Gb} {B : Hp} {E : XK} {ρ : Evr} {α β : Type} [Rp α] [Rp β] {md md' mr : Md} {te : TE} {Ω : Type} {post : Hp → Ω → Ends → Prop} {rest : TS}
theorem reg_ext {F H F1 H' Fr : Hp} (e : Ext F H F1 H') (s : Same F1 H') (sr : Same Fr H') (n : ∀ b, Fr b ≠ none → H b = none ∧ F1 b = none) : Ext F H (un F1 (tups Fr)) H' ∧ Same (un F1 (tups Fr)) H' := by
  refine ⟨⟨fun b o z => un_l (e.f _ _ z), e.h, fun b z w => ?_⟩, fun b o z => ?_⟩
  · cases q : F1 b with
    | some o => exact e.n b z (by rw [q]; exact fun z => nomatch z)
    | none =>
      rw [un_r q] at w
      cases t : tups Fr b with
      | none => exact absurd t w
      | some o => exact (n b (by rw [(tups_some t).1]; exact fun z => nomatch z)).1
  · cases q : F1 b with
    | some u => rw [un_l q] at z; cases z; exact s _ _ q
    | none => rw [un_r q] at z; exact sr _ _ (tups_some z).1
theorem reg_tup {F1 Fr : Hp} {b : Addr} {xs : List V} (n : ∀ b, Fr b ≠ none → F1 b = none) (h : Fr b = some (.tup xs)) : un F1 (tups Fr) b = some (.tup xs) := by
  rw [un_r (n b (by rw [h]; exact fun z => nomatch z))]
  exact tups_of h
/-- a list told anew is one's own -/
theorem EvR.N [Im α] {m : M (List α)} (h : EvR G B E ρ te m) : EvN G B E ρ te m := fun F0 F σ H Q R q => h F0 F σ H Q R (q.imp (fun a k F1 Fr v H' e s sr n r => by
  obtain ⟨p, vs, rfl, h1, h2⟩ := r
  obtain ⟨e2, s2⟩ := reg_ext e s sr n
  have np := n p (by rw [h1]; exact fun z => nomatch z)
  refine k _ p _ H' e2 s2 np.1 ?_ (sr _ _ h1) ⟨vs, rfl, Im.reps (fun b xs z => reg_tup (fun b w => (n b w).2) z) h2⟩
  rw [un_r np.2]
  cases t : tups Fr p with
  | none => rfl
  | some o => obtain ⟨t1, xs, t2⟩ := tups_some t; rw [h1] at t1; cases t1; cases t2) fun _ x => x)
theorem Rel.rg {F0 F H : Hp} {σ : L2.St} {i : Nat} {Fr : Hp} {a : α} (R : Rel G B F0 F ρ σ H) (h : ρ[i]? = some (some (.rg Fr a))) : ∃ v, σ[i]? = some (some v) ∧ rep G (un (tups F) Fr) v a ∧ Same Fr H ∧ (∀ b, Fr b ≠ none → B b = none ∧ F b = none) ∧ (∀ b xs, Fr b ≠ some (.tup xs)) ∧ Same (un (tups F) Fr) H := by
  obtain ⟨x, e, v, rfl, h1, h2, h3, h4⟩ := R.at h
  refine ⟨v, e, h1, h2, h3, h4, fun b o z => ?_⟩
  cases q : tups F b with
  | some u => rw [un_l q] at z; cases z; exact R.sF _ _ (tups_some q).1
  | none => rw [un_r q] at z; exact h2 _ _ z
end
end Tw
set_option Elab.async false
set_option linter.all false
set_option maxRecDepth 100000
set_option maxHeartbeats 4000000
namespace Tw
open PySem PySem.Spec L2 TL
open PyProof.Rows hiding St
structure Anyt where
instance : Rp Anyt := ⟨fun _ _ _ _ => True, fun _ h => h⟩
/-- a list, whatever it holds -/
structure Shp where
instance : Rp Shp := ⟨fun _ H v _ => ∃ p vs, v = .ref p ∧ H p = some (.lst vs) ∧ vs.length ≤ 1000, fun s ⟨p, vs, e, h, l⟩ => ⟨p, vs, e, s _ _ h, l⟩⟩
class NotLs (α : Type) [Rp α] : Prop where
  no : ∀ {G : Gb} {H : Hp} {q : Addr} {a : α} {ws : List V}, rep G H (.ref q) a → H q ≠ some (.lst ws)
instance : NotLs Str := ⟨fun h => by cases (show V.ref _ = V.str _ from h)⟩
instance : NotLs Int := ⟨fun h => by cases (show V.ref _ = V.int _ from h)⟩
instance {α β : Type} [Rp α] [Rp β] : NotLs (α × β) := ⟨fun ⟨p, v, w, e, h, _⟩ z => by cases e; rw [h] at z; cases z⟩
end Tw
set_option Elab.async false
set_option linter.all false
set_option maxRecDepth 100000
set_option maxHeartbeats 4000000
namespace L2
open PySem PySem.Spec PyProof.Rows
end L2
set_option Elab.async false
set_option linter.all false
set_option maxRecDepth 100000
set_option maxHeartbeats 4000000
namespace Tw
open PySem PySem.Spec L2 TL
open PyProof.Rows hiding St
structure Dl (κ α : Type) where
  l : List (κ × α)
section
variable {κ α : Type} [Rp κ] [DecidableEq κ] [Ky κ] [Rp α]
instance : Rp (Dl κ α) where
  rep G H x a := ∃ p ob kvs, x = .ref p ∧ H p = some (.frz ob (.dK kvs)) ∧ repk G H kvs a.l
  mono := fun s ⟨p, ob, vs, e, h, h1⟩ => ⟨p, ob, vs, e, s _ _ h, repk_mono s h1⟩
end
end Tw
set_option Elab.async false
set_option linter.all false
set_option maxRecDepth 100000
set_option maxHeartbeats 4000000
set_option Elab.async false
set_option linter.all false
set_option maxRecDepth 100000
set_option maxHeartbeats 4000000
set_option Elab.async false
set_option linter.all false
set_option maxRecDepth 100000
set_option maxHeartbeats 4000000
namespace Tw
open PySem PySem.Spec L2 TL
open PyProof.Rows hiding St
theorem passN {X : Cx} : Passes (L2N.CX X.prog X.w) X E0 := fun _ _ _ _ _ _ _ h => by
  obtain ⟨_, _, _, _, _, _, _, _, _, _, _, _, z⟩ := h
  exact z.elim
theorem takesN {X : Cx} : L2N.Takes X (fun _ _ _ _ => False) := fun _ _ x => by
  obtain ⟨_, _, _, _, _, _, _, _, _, _, _, _, _, _, _, _, z⟩ := x
  exact z.elim
section
variable {P : Program} {w : World} {K : PySem.W.Frag} {mg : Str → Option Value} {base : Heap}
theorem okN {x qual : Str} {st : Stmt} {f : Addr} {fd : FuncData} {N ps : List Str} {k : Nat} {sp : Sp} (F : Fun K x qual st f fd) (S : FnScope N ps (defScope st)) (len : ∀ vs H Q E, sp vs H Q E → vs.length = ps.length)
    (hb : ∀ (cdv : Value) (A : Around) (outer : List Env) (s : Shared) (H : Hp) (vs : List V) (Q : VK) (E : XK), Room k (A.deeper (envOfC qual (defScope st) s.heap.objs.size f cdv)) → sp vs H Q E → ∃ t, PSs (cxOf (L2N.CX P w) P w K mg base N qual (defScope st) f cdv A outer s H E) (defBody st) t ∧ t (dEnd Q) (start N vs) H) :
    FnOk P w K mg base (L2N.CX P w) (k + 1) f fd ps sp := by
  obtain ⟨oc, od, kV, doc, pm, an, cdv, ct, osl, rfl, lk, hcd⟩ := F.ex
  exact fn_of lk hcd S len fun A outer s H vs Q E hr h => hb cdv A outer s H vs Q E hr h
end
abbrev tRaise (G : Gb) (E : XK) (c : Str) : TS := fun _ _ H => E (.ref (G.cl c)) none H
/-- an exception in hand: where it stands, its class -/
structure Exn where
  a : Addr
  c : Str
instance : Rp Exn := ⟨fun _ _ v e => v = .ref e.a, fun _ h => h⟩
instance : Sc Exn := ⟨fun e => .ref e.a, fun _ _ _ _ => Iff.rfl⟩
def excIs (c T : Str) : Bool := decide (c = T) || decide (T = Str.ofString "NetError")
class ExF (G : Gb) (cs ts : List Str) : Prop where
  exc : ∀ c ∈ cs, ExcC G.K (G.cl c)
  one : ∀ c ∈ cs, ∀ T ∈ ts, PySem.W.kitOne G.K (.ref (G.cl c)) (.ref (G.cl T)) = some (excIs c T)
  vE : ∀ c ∈ cs, PySem.W.kitOne G.K (.ref (G.cl c)) (.type "ValueError") = some true
  exm : ∀ c ∈ cs, ∀ T ∈ ts, PySem.W.exmOne G.K (.ref (G.cl c)) (.ref (G.cl T)) = some (excIs c T)
theorem kit_ref {K : PySem.W.Frag} {D C : Addr} {b : Bool} (hs : PySem.W.subIn K (.ref D) (.ref D) = some true) (hd : PySem.W.hasDictIn K C = true) (ht : PySem.W.typeIn K (.ref C) = some (.type "type")) (h : PySem.W.subIn K (.ref D) (.ref C) = some b) : PySem.W.kitOne K (.ref D) (.ref C) = some b := by
  unfold PySem.W.kitOne
  by_cases e : (Value.ref D == Value.ref C) = true
  · rw [if_pos e]
    have e2 : D = C := Value.ref.inj (beq_iff_eq.mp e)
    rw [← e2, hs] at h
    exact h
  · rw [if_neg e]
    obtain ⟨cd, hc, _⟩ := PySem.W.any_some hd
    have e2 : ((PySem.W.clsIn K C).isSome && PySem.W.typeIn K (.ref C) == some (.type "type")) = true := by rw [hc, ht] <;> rfl
    show (if ((PySem.W.clsIn K C).isSome && PySem.W.typeIn K (.ref C) == some (.type "type")) = true then PySem.W.subIn K (.ref D) (.ref C) else none) = some b
    rw [if_pos e2]
    exact h
theorem kit_vE {K : PySem.W.Frag} {D : Addr} (h : PySem.W.subIn K (.ref D) (.type "ValueError") = some true) : PySem.W.kitOne K (.ref D) (.type "ValueError") = some true := by
  unfold PySem.W.kitOne
  rw [if_neg (by simp)]
  show (if PySem.W.kitMeta "ValueError" = true then PySem.W.subIn K (.ref D) (.type "ValueError") else none) = some true
  rw [if_pos (by decide +kernel)]
  exact h
/-- isinstance of what is caught -/
def rIsX (K : PySem.W.Frag) (cls : Value) (d : Option Addr) (a : Addr) : List V → Hp → VK → Prop := fun xs H Q => ∃ (D : Addr) (c : V) (cv : Value) (b : Bool), cls = .ref D ∧ d = none ∧ ExcC K D ∧ xs = [.ref a, c] ∧ ClsV c cv ∧ PySem.W.kitOne K (.ref D) cv = some b ∧ Q (.bl b) H
theorem call_isX {X : Cx} {a : Addr} {cls : Value} {d : Option Addr} {oe : Obj} {pn : List (Addr × Obj)} (hz : L2N.Zn cls d oe) (hf : ∃ vs, oe.data = .fields vs) : CallR (X.suite a ((a, oe) :: pn)) (.builtin "isinstance") (rIsX X.K cls d a) := by
  intro pins s σ H xs us Q I r h
  obtain ⟨D, c, cv, b, rfl, rfl, C, rfl, k, e, q⟩ := h
  exact call_isE C hz.zc hf pins s σ H _ us Q I r ⟨c, cv, b, rfl, fun u hu => k.eq hu, e, q⟩
def rIsXT (K : PySem.W.Frag) (cls : Value) (d : Option Addr) (a : Addr) : List V → Hp → VK → Prop := fun xs H Q => ∃ (D tp : Addr) (cs : List V) (us : List Value) (b : Bool), cls = .ref D ∧ d = none ∧ ExcC K D ∧ xs = [.ref a, .ref tp] ∧ H tp = some (.tup cs) ∧ Paired ClsV cs us ∧ PySem.W.kitAny K (.ref D) us = some b ∧ Q (.bl b) H
theorem call_isXT {X : Cx} {a : Addr} {cls : Value} {d : Option Addr} {oe : Obj} {pn : List (Addr × Obj)} (hz : L2N.Zn cls d oe) (hf : ∃ vs, oe.data = .fields vs) : CallR (X.suite a ((a, oe) :: pn)) (.builtin "isinstance") (rIsXT X.K cls d a) := by
  intro pins s σ H xs us Q I r h
  obtain ⟨D, tp, cs, ws, b, rfl, rfl, C, rfl, hT, k, e, q⟩ := h
  cases r with
  | cons rx rr =>
    cases rr with
    | cons rt rr =>
      cases rr
      cases rx
      cases rt
      obtain ⟨hget, _⟩ := I.pin (a, oe) (List.mem_append.mpr (.inl List.mem_cons_self))
      obtain ⟨vs, hv⟩ := hf
      have J : PySem.W.InstAt s.heap a oe D none := by
        obtain ⟨oc, od, oda, osl⟩ := oe
        obtain ⟨h1, h2, _⟩ := hz
        dsimp only at h1 h2 hv
        subst h1 h2 hv
        exact ⟨hget, rfl, rfl, trivial⟩
      obtain ⟨_, its, rv, o, h1, h2, n, h3⟩ := (show ObjOk X.prog X.w H s.heap tp (.tup cs) from I.hok tp _ hT)
      have e3 := ClsV.all k rv
      subst e3
      obtain ⟨oc, od, dt, sl⟩ := o
      simp only at h2 h3
      subst h2 h3
      exact PySem.W.kia_tup (PySem.W.handS_kitx_exc C.hg C.hk C.hs C.hd C.ha C.hn C.ht C.hm) I.kIn J h1 e (fun z => nomatch z) fun tk => ⟨.bl b, H, I.kept (t' := tk) fun _ _ z => z, rfl, q⟩
theorem PSs_as {X : Cx} {b : List Stmt} {t t' : TS} (h : PSs X b t) (e : t = t') : PSs X b t' := e ▸ h
namespace M
/-- what is refused is taken -/
def tr {α : Type} (m : M α) (h : Str → M α) : M α := match m with
  | .ok a => .ok a
  | .exc c => h c
  | .bad => .bad
@[simp] theorem tr_ok {α : Type} (a : α) (h : Str → M α) : tr (.ok a) h = .ok a := rfl
@[simp] theorem tr_exc {α : Type} (c : Str) (h : Str → M α) : tr (.exc c : M α) h = h c := rfl
theorem P_tr {α : Type} {m : M α} {h : Str → M α} {p : α → Prop} {x : Str → Prop} : (tr m h).P p x ↔ m.P p fun c => (h c).P p x := by cases m <;> exact Iff.rfl
end M
def isFz : Option Slot → Bool
  | none => true
  | some (@Slot.fz _ _ _) => true
  | _ => false
theorem isFz_at {ρ : Evr} (h : ρ.all isFz = true) {i : Nat} {s : Option Slot} (hs : ρ[i]? = some s) : isFz s = true := List.all_eq_true.mp h s (List.mem_of_getElem? hs)
theorem isFz_own {s : Option Slot} (h : isFz s = true) : isOw s = false := by
  cases s with
  | none => rfl
  | some s => cases s <;> first | rfl | cases h
section
variable {G : Gb} {B : Hp} {E : XK} {ρ : Evr} {Ω S R : Type}
theorem Rel.rebase {F0 F H B2 F2 : Hp} {σ : L2.St} (R : Rel G B F0 F ρ σ H) (hz : ρ.all isFz = true) (sB : Same B2 H) (s0 : Same F2 F) (nw : ∀ a, F2 a = none → F a ≠ none → B2 a = none) : Rel G B2 F2 F ρ σ H where
  sB := sB
  sF := R.sF
  s0 := s0
  nw := nw
  len := R.len
  sl := fun i s x hs hx => by
    have ok := R.sl i s x hs hx
    have z := isFz_at hz hs
    cases s with
    | none => exact trivial
    | some s => cases s <;> first | exact ok | cases z
  ds := fun i j s t x y b hi hx hj hy f g => by
    have z := isFz_own (isFz_at hz hi)
    rw [f.own] at z
    cases z
theorem Rel.calmH {F0 F H : Hp} {σ : L2.St} (R : Rel G B F0 F ρ σ H) (hz : ρ.all isFz = true) : Rel G H F F ρ σ H := R.rebase hz (.refl _) (.refl _) fun a h q => absurd h q
/-- what a block's end wants, by another ground -/
structure Gnd (G : Gb) (post : Hp → Hp → Ω → Ends → Prop) (i : Nat) : Prop where
  up : ∀ {B F0 F H : Hp} {ρ : Evr} {σ : L2.St} {ω : Ω} {D : Ends}, Rel G B F0 F ρ σ H → post B F0 ω D → post H F ω D
  at_ : ∀ {B F0 : Hp} {ω : Ω} {D : Ends}, post B F0 ω D → post B F0 ω { nx := fun σ' H' => D.nx (σ'.set i none) H', rt := D.rt, bk := fun σ' H' => D.bk (σ'.set i none) H', ct := fun σ' H' => D.ct (σ'.set i none) H' }
theorem Fin.down {F0 F F' H H' : Hp} {σ : L2.St} (R : Rel G B F0 F ρ σ H) (f : Fin G H F F' H') : Fin G B F0 F' H' := ⟨R.sB.trans f.sB, f.sF, R.s0.trans f.s0, fun a h q => by
  cases z : F a with
  | none => exact R.sB.free (f.nw a z q)
  | some o => exact R.nw a h (by rw [z]; exact fun z => nomatch z)⟩
theorem Rel.forget {F0 F H : Hp} {σ : L2.St} {i : Nat} (R : Rel G B F0 F ρ σ H) (hi : ρ[i]? = some none) : Rel G B F0 F ρ (σ.set i none) H where
  sB := R.sB
  sF := R.sF
  s0 := R.s0
  nw := R.nw
  len := by rw [List.length_set]; exact R.len
  sl := fun j s x hs hx => by
    rcases set_at hx with ⟨rfl, rfl, _⟩ | ⟨_, hx⟩
    · rw [hi] at hs; cases hs; exact trivial
    · exact R.sl j s x hs hx
  ds := fun j k s t x y b hj hx hk hy f g => by
    rcases set_at hx with ⟨rfl, rfl, _⟩ | ⟨_, hx⟩
    · rw [hi] at hj; cases hj; cases f
    · rcases set_at hy with ⟨rfl, rfl, _⟩ | ⟨_, hy⟩
      · rw [hi] at hk; cases hk; cases g
      · exact R.ds j k s t x y b hj hx hk hy f g
theorem gnd_R {rp : RP R} {i : Nat} (ha : Anti rp) : Gnd G (fun B => oR G B rp) i := ⟨fun RR h F' v H' f q => h F' v H' (f.down RR) (ha RR.sB q), fun h => h⟩
theorem Rel.down {F0 F F' H H' : Hp} {ρ' : Evr} {σ σ' : L2.St} (R : Rel G B F0 F ρ σ H) (R' : Rel G H F F' ρ' σ' H') (hz : ρ'.all isFz = true) : Rel G B F0 F' ρ' σ' H' :=
  R'.rebase hz (R.sB.trans R'.sB) (R.s0.trans R'.s0) (R'.fin.down R).nw
theorem gnd_N {EX : S → Evr} {i : Nat} (hz : ∀ s, (EX s).all isFz = true) (hi : ∀ s, (EX s)[i]? = some none) : Gnd G (fun B => oN G B EX) i :=
  ⟨fun RR h F' σ' H' R' => h F' σ' H' (RR.down R' (hz _)), fun h F' σ' H' R' => h F' _ H' (R'.forget (hi _))⟩
theorem gnd_C {EX : S → Evr} {rp : RP R} {i : Nat} (ha : Anti rp) (hz : ∀ s, (EX s).all isFz = true) (hi : ∀ s, (EX s)[i]? = some none) : Gnd G (fun B => oC G B EX rp) i := by
  refine ⟨fun {B F0 F H ρ σ ω D} RR h => ?_, fun {B F0 ω D} h => ?_⟩
  · cases ω with
    | inl s => exact (gnd_N hz hi).up RR h
    | inr r => exact (gnd_R (rp := rp) (i := i) ha).up RR h
  · cases ω with
    | inl s => exact (gnd_N hz hi).at_ h
    | inr r => exact h
def GndU (G : Gb) (post : Hp → Hp → Ω → Ends → Prop) : Prop := ∀ {B F0 F H : Hp} {ρ : Evr} {σ : L2.St} {ω : Ω} {D : Ends}, Rel G B F0 F ρ σ H → post B F0 ω D → post H F ω D
theorem gndU_N {EX : S → Evr} (hz : ∀ s, (EX s).all isFz = true) : GndU G (fun B => oN G B EX) := fun RR h F' σ' H' R' => h F' σ' H' (RR.down R' (hz _))
def tTryK (K : PySem.W.Frag) (c : Value) (i : Nat) (tb : XK → TS) (ts : Addr → Value → Option Addr → TS) : TS := fun D σ H => tb (L2.WE (wAs K c i ts (fun _ _ _ _ => False) D) σ) D σ H
abbrev tTryAs (G : Gb) (T : Str) (i : Nat) (tb : XK → TS) (ts : Addr → Value → Option Addr → TS) : TS := tTryK G.K (.ref (G.cl T)) i tb ts
theorem ps_tryAs {X : Cx} {x n : Str} {c : Value} {i : Nat} {body suite : List Stmt} {b₀ : Stmt} {np pos pos' : Pos} {tb : XK → TS} {ts : Addr → Value → Option Addr → TS} (hs : X.stack = X.env :: X.outer) (hf : X.env.frame = some X.env.locals) (hN : X.N.Nodup) (hi : X.N[i]? = some n) (hln : X.env.kindOf n = some .local) (hc : Names X x c)
    (hb : ∀ (W : WX) (pn : List (Addr × Obj)) (xe : Value → Shared → Prop), L2N.Takes (X.tr pn xe) W → PassesOwn (model X.prog X.w) X.A X.env xe → PSs (X.tr pn xe) body (fun D σ H => tb (L2.WE W σ) D σ H))
    (hsu : ∀ (a : Addr) (oe : Obj) (cls : Value) (d : Option Addr) (pn : List (Addr × Obj)), L2N.Zn cls d oe → (∃ vs, oe.data = .fields vs) → PSs (X.suite a ((a, oe) :: pn)) (b₀ :: suite) (ts a cls d)) :
    PS X (.Try body [.ExceptHandler (some (.Name x np)) (some n) (b₀ :: suite) pos'] [] [] pos) (tTryK X.K c i tb ts) := L2N.ps_try_as (tb := fun W D σ H => tb (L2.WE W σ) D σ H) hs hf hN hi hln hc takesN hb hsu
theorem run_tryAs {post : Hp → Hp → Ω → Ends → Prop} {cs ts' : List Str} [X : ExF G cs ts'] {T : Str} {i : Nat} {tb : XK → TS} {ts : Addr → Value → Option Addr → TS} {mb : M Ω} {ms : Str → M Ω} (hT : T ∈ ts') (hg : Gnd G post i) (hz : ρ.all isFz = true)
    (hb : ∀ B E, Run G B E (post B) ρ (tb E) mb) (hs : ∀ a c, Run G B E (post B) (ρ.set i (some (.fz (⟨a, c⟩ : Exn)))) (ts a (.ref (G.cl c)) none) (ms c)) :
    Run G B E (post B) ρ (tTryAs G T i tb ts) (mb.tr fun c => M.chk (c ∈ cs ∧ excIs c T = true) (ms c)) := fun F0 F σ H D R q => by
  refine hb H _ F F σ H D (R.calmH hz) ((M.P_tr.mp q).imp (fun ω k => hg.up R k) fun c k H' sH => ?_)
  obtain ⟨⟨c1, c2⟩, k⟩ := M.P_chk.mp k
  refine ⟨true, ?_, fun _ a ha => ?_, fun z => nomatch z⟩
  · rw [X.exm c c1 T hT, c2]
  · have R1 := R.ext ⟨.refl _, sH, fun a h q => absurd h q⟩ (R.sF.trans sH)
    exact hs a c F0 F _ H' _ (R1.put (i := i) (s := .fz (⟨a, c⟩ : Exn)) (v := .ref a) ⟨_, rfl, rfl⟩ rfl) (k.imp (fun ω k => hg.at_ k) fun _ x => x)
/-- except T: without a name -/
def tTryM (K : PySem.W.Frag) (c : Value) (tb : XK → TS) (ts : Addr → Value → Option Addr → TS) : TS := fun D σ H => tb (L2.WE (wMany K (fun _ _ _ _ => False) D [(c, ts)]) σ) D σ H
abbrev tTryOn (G : Gb) (T : Str) (tb : XK → TS) (ts : Addr → Value → Option Addr → TS) : TS := tTryM G.K (.ref (G.cl T)) tb ts
theorem ps_tryOn {X : Cx} {x : Str} {c : Value} {body suite : List Stmt} {b₀ : Stmt} {np pos pos' : Pos} {tb : XK → TS} {ts : Addr → Value → Option Addr → TS} (hs : X.stack = X.env :: X.outer) (hf : X.env.frame = some X.env.locals) (hc : Names X x c)
    (hb : ∀ (W : WX) (pn : List (Addr × Obj)) (xe : Value → Shared → Prop), L2N.Takes (X.tr pn xe) W → PassesOwn (model X.prog X.w) X.A X.env xe → PSs (X.tr pn xe) body (fun D σ H => tb (L2.WE W σ) D σ H))
    (hsu : ∀ (a : Addr) (oe : Obj) (cls : Value) (d : Option Addr) (pn : List (Addr × Obj)), L2N.Zn cls d oe → (∃ vs, oe.data = .fields vs) → PSs (X.suite a ((a, oe) :: pn)) (b₀ :: suite) (ts a cls d)) :
    PS X (.Try body [.ExceptHandler (some (.Name x np)) none (b₀ :: suite) pos'] [] [] pos) (tTryM X.K c tb ts) := L2N.ps_try_many (tb := fun W D σ H => tb (L2.WE W σ) D σ H) hs hf takesN hb (.cons hc hsu .nil)
theorem run_tryOn {post : Hp → Hp → Ω → Ends → Prop} {cs ts' : List Str} [X : ExF G cs ts'] {T : Str} {tb : XK → TS} {ts : Addr → Value → Option Addr → TS} {mb : M Ω} {ms : Str → M Ω} (hT : T ∈ ts') (hg : GndU G post) (hz : ρ.all isFz = true)
    (hb : ∀ B E, Run G B E (post B) ρ (tb E) mb) (hs : ∀ a c, Run G B E (post B) ρ (ts a (.ref (G.cl c)) none) (ms c)) :
    Run G B E (post B) ρ (tTryOn G T tb ts) (mb.tr fun c => M.chk (c ∈ cs ∧ excIs c T = true) (ms c)) := fun F0 F σ H D R q => by
  refine hb H _ F F σ H D (R.calmH hz) ((M.P_tr.mp q).imp (fun ω k => hg R k) fun c k H' sH => ?_)
  obtain ⟨⟨c1, c2⟩, k⟩ := M.P_chk.mp k
  refine ⟨true, ?_, fun _ a ha => ?_, fun z => nomatch z⟩
  · rw [X.exm c c1 T hT, c2]
  · have R1 := R.ext ⟨.refl _, sH, fun a h q => absurd h q⟩ (R.sF.trans sH)
    exact hs a c F0 F _ H' _ R1 k
end
section
variable {G : Gb} {B : Hp} {E : XK} {ρ : Evr} {Ω S R : Type} {post : Hp → Ω → Ends → Prop} {mr : Md} {rest : TS}
theorem run_raiseS {c : Str} : Run G B E post ρ (tSeq (tRaise G E c) rest) (.exc c) := fun F0 F σ H D R q => q H R.sB
theorem ev_isXv {cs ts : List Str} [X : ExF G cs ts] {i : Nat} {xa : Addr} {xc : Str} (h : ρ[i]? = some (some (.fz (⟨xa, xc⟩ : Exn)))) : Ev G B E mr ρ (tCB (rIsX G.K (.ref (G.cl xc)) none xa) (tCons (tVar i) (tCons (tC (.ty "ValueError")) tNil))) (M.chk (xc ∈ cs) (.ok true)) := fun F0 F σ H Q R q => by
  obtain ⟨x, ex, v, rfl, r⟩ := R.at h
  obtain ⟨c, k⟩ := M.P_chk.mp q
  have r' : v = .ref xa := r
  subst r'
  exact ⟨_, ex, G.cl xc, _, _, _, rfl, rfl, X.exc _ c, rfl, .ty _, X.vE _ c, k F _ H (.refl _ _) R.sF rfl⟩
def tCls (G : Gb) : List Str → TA
  | [] => tNil
  | T :: r => tCons (tC (.ref (G.cl T))) (tCls G r)
theorem kitAny_cls {cs ts : List Str} [X : ExF G cs ts] {c : Str} (hc : c ∈ cs) : ∀ {l : List Str}, (∀ T ∈ l, T ∈ ts) → PySem.W.kitAny G.K (.ref (G.cl c)) (l.map fun T => .ref (G.cl T)) = some (l.any fun T => excIs c T)
  | [], _ => rfl
  | T :: r, h => by
    rw [List.map_cons, List.any_cons]
    exact kitAny_cons (X.one c hc T (h T List.mem_cons_self)) (fun z => by rw [z, Bool.false_or]; exact kitAny_cls hc fun U hU => h U (List.mem_cons_of_mem _ hU)) fun z => by rw [z, Bool.true_or]
theorem clsV_all : ∀ (l : List Str), Paired ClsV (l.map fun T => V.ref (G.cl T)) (l.map fun T => Value.ref (G.cl T))
  | [] => .nil
  | T :: r => .cons (.own _) (clsV_all r)
theorem tCls_run : ∀ {l : List Str} {σ : L2.St} {H : Hp} {Q : List V → Hp → Prop}, Q (l.map fun T => V.ref (G.cl T)) H → tCls G l σ H Q
  | [], _, _, _, h => h
  | T :: r, σ, H, Q, h => show tCls G r σ H _ from tCls_run (l := r) h
theorem ev_isXT {cs ts : List Str} [X : ExF G cs ts] {i : Nat} {xa : Addr} {xc : Str} {l : List Str} (h : ρ[i]? = some (some (.fz (⟨xa, xc⟩ : Exn)))) (hl : ∀ T ∈ l, T ∈ ts) (hn : l.length ≤ sizeLine) : Ev G B E mr ρ (tCB (rIsXT G.K (.ref (G.cl xc)) none xa) (tCons (tVar i) (tCons (tTup (tCls G l)) tNil))) (M.chk (xc ∈ cs) (.ok (l.any fun T => excIs xc T))) := fun F0 F σ H Q R q => by
  obtain ⟨x, ex, v, rfl, r⟩ := R.at h
  obtain ⟨c, k⟩ := M.P_chk.mp q
  have r' : v = .ref xa := r
  subst r'
  refine ⟨_, ex, tCls_run ⟨by rw [List.length_map]; exact hn, fun p hp => ⟨G.cl xc, p, _, _, _, rfl, rfl, X.exc _ c, rfl, upd_same, clsV_all l, kitAny_cls c hl, k F _ _ (.new hp) (R.sF.trans (same_upd hp)) rfl⟩⟩⟩
end
end Tw
set_option Elab.async false
set_option linter.all false
set_option maxRecDepth 100000
set_option maxHeartbeats 4000000
namespace Tw
open PySem PySem.Spec L2 TL
open PyProof.Rows hiding St
section
variable {G : Gb} {B : Hp} {E : XK} {ρ : Evr} {Ω : Type} {post : Hp → Ω → Ends → Prop} {te ta tb : TE} {md : Md} {rest : TS} {i : Nat} {g : TG} {ts : List Nat}
def EvDr (G : Gb) (B : Hp) (E : XK) (ρ : Evr) (te : TE) (m : M RowsT) : Prop := ∀ (F0 F : Hp) (σ : L2.St) (H : Hp) (Q : VK), Rel G B F0 F ρ σ H →
  m.P (fun a => ∀ (F' : Hp) (p : Addr) (H' : Hp), Ext F H F' H' → Same F' H' → DrAt H F' H' p a → Q (.ref p) H') (Xc G B E) → te σ H Q
theorem DrAt.freeze {A F H : Hp} {p : Addr} {a : RowsT} (d : DrAt A F H p a) (s : Same F H) : ∃ F', Same F F' ∧ Same F' H ∧ (∀ b, F b = none → F' b ≠ none → A b = none) ∧ rep G F' (.ref p) a := by
  classical
  obtain ⟨cs, h1, h2, h3⟩ := d
  let F' : Hp := fun b => if FpR p cs b then H b else F b
  have in' : ∀ {b}, FpR p cs b → F' b = H b := fun f => if_pos f
  have out' : ∀ {b}, ¬ FpR p cs b → F' b = F b := fun f => if_neg f
  refine ⟨F', fun b o e => ?_, fun b o e => ?_, fun b h q => ?_, ?_⟩
  · by_cases f : FpR p cs b
    · rw [(h3 b f).2] at e; cases e
    · rw [out' f]; exact e
  · by_cases f : FpR p cs b
    · rw [in' f] at e; exact e
    · rw [out' f] at e; exact s _ _ e
  · by_cases f : FpR p cs b
    · exact (h3 b f).1
    · rw [out' f] at q; exact absurd h q
  · have r' : Rows F' p cs := h1.keep fun b o f e => by rw [in' f]; exact e
    rw [← h2]
    exact r'.rep
theorem EvDr.F {m : M RowsT} (h : EvDr G B E ρ te m) : Ev G B E .F ρ te m := fun F0 F σ H Q R q => h F0 F σ H Q R (q.imp (fun a k F' p H' e s d => by
  obtain ⟨F2, s1, s2, s3, s4⟩ := d.freeze (G := G) s
  exact k F2 _ H' ⟨e.f.trans s1, e.h, fun b h q => by
    cases z : F' b with
    | none => exact s3 b z q
    | some o => exact e.n b h (by rw [z]; exact fun z => nomatch z)⟩ s2 s4) fun _ x => x)
end
end Tw
set_option Elab.async false
set_option linter.all false
set_option maxRecDepth 100000
set_option maxHeartbeats 4000000
namespace Tw
open PySem PySem.Spec L2 TL
open PyProof.Rows hiding St
/-- the place of a field's name -/
def fIx (ns : List Str) (f : Str) (j : Nat) : Bool := decide (ns[j]? = some f) && (ns.take j).all fun g => !decide (g = f)
theorem fIx_at {ns : List Str} {f : Str} {j : Nat} (h : fIx ns f j = true) : ns[j]? = some f ∧ ∀ g ∈ ns.take j, g ≠ f := by
  unfold fIx at h
  obtain ⟨h1, h2⟩ := Bool.and_eq_true_iff.mp h
  refine ⟨of_decide_eq_true h1, fun g hg e => ?_⟩
  have := List.all_eq_true.mp h2 g hg
  simp [e] at this
end Tw
set_option Elab.async false
set_option linter.all false
set_option maxRecDepth 100000
set_option maxHeartbeats 4000000
namespace Tw
open PySem PySem.Spec L2 TL
open PyProof.Rows hiding St
/-- a class whose instances hold things of their own -/
class Ins (D : Type) where
  nm : Str
  ns : List Str
  fs : D → List Fx
def repI {D : Type} [Ins D] (G : Gb) (H : Hp) (v : V) (t : D) : Prop := ∃ (p dx : Addr) (qs : List Addr), v = .ref p ∧ H p = some (.ins (G.cl (Ins.nm D)) dx ((Ins.ns D).zip (qs.map V.ref))) ∧ All2 (fun q (x : Fx) => @Rp.rep _ x.i G H (.ref q) x.a) qs (Ins.fs t)
instance (priority := low) insRp (D : Type) [Ins D] : Rp D := ⟨repI, fun s h => by
  obtain ⟨p, dx, qs, e, h1, h2⟩ := h
  exact ⟨p, dx, qs, e, s _ _ h1, h2.imp fun q x r => @Rp.mono _ x.i _ _ _ _ _ s r⟩⟩
/-- what the class itself is -/
class ClsF (G : Gb) (D : Type) [Ins D] : Prop where
  c : Cls G.K (G.cl (Ins.nm D))
  na : ∀ f ∈ Ins.ns D, NoAttr G.K (G.cl (Ins.nm D)) f
theorem ClsF.no {G : Gb} {D : Type} [Ins D] [F : ClsF G D] {f : Str} {j : Nat} (h : fIx (Ins.ns D) f j = true) : NoAttr G.K (G.cl (Ins.nm D)) f := F.na f (List.mem_of_getElem? (fIx_at h).1)
end Tw
set_option Elab.async false
set_option linter.all false
set_option maxRecDepth 100000
set_option maxHeartbeats 4000000
set_option Elab.async false
set_option linter.all false
set_option maxRecDepth 100000
set_option maxHeartbeats 4000000
namespace Tw
open PySem PySem.Spec L2 TL
open PyProof.Rows hiding St
structure TurnsD where
  order : List (Str × Int)
  sizes : Dk Str Int
  signs : Dt (Str × Int) Str
  mates : Dt (Str × Int) (Str × Int)
instance : Ins TurnsD := ⟨"Turns", ["order", "sizes", "signs", "mates"], fun t => [⟨t.order⟩, ⟨t.sizes⟩, ⟨t.signs⟩, ⟨t.mates⟩]⟩
end Tw
set_option Elab.async false
set_option linter.all false
set_option maxRecDepth 100000
set_option maxHeartbeats 4000000
namespace Tw
open PySem PySem.Spec L2 TL
open PyProof.Rows hiding St
def SG : List Nat := (Str.ofString "abcdefghijklmnopqrstuvwxyz0123456789").cps.toList
def isNm (z : Str) : Bool := decide (z.length ≠ 0 ∧ z.length ≤ 8) && z.cps.toList.all (fun c => decide (c ∈ SG))
theorem small_line {n : Nat} (h : n ≤ 100000) : n ≤ sizeLine := Nat.le_trans h (by decide)
theorem mul_ok (z : Str) (n : Int) (hz : z.length ≤ 30) (hn : 1 ≤ n ∧ n ≤ 100) : MulOk z n := by
  refine ⟨?_, fun _ _ => ?_, fun _ _ => ?_⟩
  · rw [decide_eq_false (by omega), decide_eq_false (by omega)]
    rfl
  · have : (30 : Int) ≤ (2 ^ 63 - 1) / n := by
      rw [Int.le_ediv_iff_mul_le (by omega)]
      omega
    omega
  · have h1 : n.toNat ≤ 100 := by omega
    have h2 : z.length * n.toNat ≤ 30 * 100 := Nat.mul_le_mul hz h1
    show decide (_ > _) = false
    refine decide_eq_false ?_
    have : (3000 : Nat) ≤ sizeLine := by decide
    omega
theorem sg_len : SG.length = 36 := by decide +kernel
theorem nm_of {z : Str} (h0 : z.length ≠ 0) (h8 : z.length ≤ 8) (h : ∀ c ∈ tl z, c ∈ SG) : isNm z = true := by
  unfold isNm
  rw [Bool.and_eq_true]
  exact ⟨decide_eq_true ⟨h0, h8⟩, List.all_eq_true.mpr fun c hc => decide_eq_true (h c hc)⟩
theorem tl_none : tl (Str.ofString "") = [] := by decide +kernel
def sgn (j : Int) : Nat := SG.getD (j % 36).toNat 0
def nameS (stem : Int) (v k : Nat) : Nat := sgn (stem / 64 + (k : Int) * (stem / 7 % 5) + (if (k : Int) = stem / 8 % (1 + stem % 8) then (v : Int) else 0))
def nameL (stem : Int) (v : Nat) : List Nat :=
  if stem % 3 = 2 then List.replicate (1 + v % 8) (sgn (stem / 64 + ((v / 8 : Nat) : Int)))
  else (List.range (1 + stem % 8).toNat).map (nameS stem v)
def nameOf (stem : Int) (v : Nat) : Str := ⟨(nameL stem v).toArray⟩
def namesOf (stem : Int) (n : Nat) : List Str := (List.range n).map (nameOf stem)
theorem tl_nameOf (stem : Int) (v : Nat) : tl (nameOf stem v) = nameL stem v := rfl
theorem mod36 (j : Int) : 0 ≤ j % 36 ∧ j % 36 < 36 := ⟨Int.emod_nonneg _ (by decide), Int.emod_lt_of_pos _ (by decide)⟩
theorem sgn_at (j : Int) : atI SG (j % 36) = some (sgn j) := by
  have h := mod36 j
  have hk : (j % 36).toNat < SG.length := by
    rw [sg_len]
    omega
  have := atI_nat (List.getElem?_eq_getElem hk)
  rw [show (((j % 36).toNat : Nat) : Int) = j % 36 by omega] at this
  rw [this]
  unfold sgn
  rw [List.getD_eq_getElem?_getD, List.getElem?_eq_getElem hk]
  rfl
theorem sgn_in (j : Int) : sgn j ∈ SG := by
  have h := mod36 j
  have hk : (j % 36).toNat < SG.length := by
    rw [sg_len]
    omega
  unfold sgn
  rw [List.getD_eq_getElem?_getD, List.getElem?_eq_getElem hk]
  exact List.getElem_mem hk
theorem sg_nodup : SG.Nodup := by decide +kernel
theorem sgn_inj {i j : Int} (h : sgn i = sgn j) : i % 36 = j % 36 := by
  have hi := mod36 i
  have hj := mod36 j
  have ki : (i % 36).toNat < SG.length := by
    rw [sg_len]
    omega
  have kj : (j % 36).toNat < SG.length := by
    rw [sg_len]
    omega
  unfold sgn at h
  rw [List.getD_eq_getElem?_getD, List.getD_eq_getElem?_getD, List.getElem?_eq_getElem ki, List.getElem?_eq_getElem kj] at h
  have := (List.getElem_inj sg_nodup).mp (show SG[(i % 36).toNat] = SG[(j % 36).toNat] from h)
  omega
theorem size_of (stem : Int) : 1 ≤ 1 + stem % 8 ∧ 1 + stem % 8 ≤ 8 := by
  have := Int.emod_nonneg stem (show (8 : Int) ≠ 0 by decide)
  have := Int.emod_lt_of_pos stem (show (0 : Int) < 8 by decide)
  omega
theorem name_ok (stem : Int) (v : Nat) : isNm (nameOf stem v) = true := by
  have hs := size_of stem
  refine nm_of ?_ ?_ ?_
  · rw [len_tl, tl_nameOf]
    unfold nameL
    split
    · rw [List.length_replicate]
      omega
    · rw [List.length_map, List.length_range]
      omega
  · rw [len_tl, tl_nameOf]
    unfold nameL
    split
    · rw [List.length_replicate]
      omega
    · rw [List.length_map, List.length_range]
      omega
  · intro c hc
    rw [tl_nameOf] at hc
    unfold nameL at hc
    split at hc
    · rw [(List.mem_replicate.mp hc).2]
      exact sgn_in _
    · obtain ⟨k, _, e⟩ := List.mem_map.mp hc
      rw [← e]
      exact sgn_in _
theorem name_inj {stem : Int} {u v : Nat} (hu : u < 36) (hv : v < 36) (h : nameOf stem u = nameOf stem v) : u = v := by
  have h : nameL stem u = nameL stem v := congrArg tl h
  have hs := size_of stem
  unfold nameL at h
  split at h
  · have h1 := congrArg List.length h
    rw [List.length_replicate, List.length_replicate] at h1
    have h2 : (List.replicate (1 + u % 8) (sgn (stem / 64 + ((u / 8 : Nat) : Int))))[0]? = (List.replicate (1 + v % 8) (sgn (stem / 64 + ((v / 8 : Nat) : Int))))[0]? := by rw [h]
    rw [List.getElem?_replicate, List.getElem?_replicate, if_pos (by omega), if_pos (by omega)] at h2
    have h3 := sgn_inj (Option.some.inj h2)
    omega
  · have p0 := Int.emod_nonneg (stem / 8) (show (1 + stem % 8 : Int) ≠ 0 by omega)
    have p1 := Int.emod_lt_of_pos (stem / 8) (show (0 : Int) < 1 + stem % 8 by omega)
    have h2 : ((List.range (1 + stem % 8).toNat).map (nameS stem u))[(stem / 8 % (1 + stem % 8)).toNat]? = ((List.range (1 + stem % 8).toNat).map (nameS stem v))[(stem / 8 % (1 + stem % 8)).toNat]? := by rw [h]
    have hk : (stem / 8 % (1 + stem % 8)).toNat < (1 + stem % 8).toNat := by omega
    rw [List.getElem?_map, List.getElem?_map, List.getElem?_range hk] at h2
    have h3 := sgn_inj (Option.some.inj h2)
    have ek : (((stem / 8 % (1 + stem % 8)).toNat : Nat) : Int) = stem / 8 % (1 + stem % 8) := by omega
    rw [if_pos ek, if_pos ek] at h3
    omega
theorem names_nodup (stem : Int) {n : Nat} (h : n ≤ 36) : (namesOf stem n).Nodup := by
  unfold namesOf
  rw [List.nodup_iff_pairwise_ne, List.pairwise_map]
  refine List.Pairwise.imp_of_mem (fun {a b} ha hb hab e => ?_) (List.nodup_iff_pairwise_ne.mp List.nodup_range)
  exact hab (name_inj (by have := List.mem_range.mp ha; omega) (by have := List.mem_range.mp hb; omega) e)
theorem names_nm (stem : Int) (n : Nat) : ∀ z ∈ namesOf stem n, isNm z = true := by
  intro z hz
  obtain ⟨v, _, e⟩ := List.mem_map.mp hz
  rw [← e]
  exact name_ok stem v
theorem names_len (stem : Int) (n : Nat) : (namesOf stem n).length = n := by
  unfold namesOf
  rw [List.length_map, List.length_range]
theorem foldl_one (c : Nat) : ∀ (n : Nat) (s : Array Nat), ((List.replicate n #[c]).foldl (· ++ ·) s).toList = s.toList ++ List.replicate n c
  | 0, s => by simp
  | n + 1, s => by
    rw [List.replicate_succ, List.foldl_cons, foldl_one c n, List.replicate_succ]
    simp
theorem tl_mul_one (c : Nat) (n : Int) (h : 1 ≤ n) : tl (Txt.mul ⟨#[c]⟩ n) = List.replicate n.toNat c := by
  unfold Txt.mul
  rw [if_neg (by omega)]
  split
  · rename_i h2
    have e : n = 1 := by
      have : ((n == 1) || ((⟨#[c]⟩ : Str).length == 0)) = true := h2
      rw [show ((⟨#[c]⟩ : Str).length == 0) = false from rfl, Bool.or_false] at this
      exact beq_iff_eq.mp this
    rw [e]
    rfl
  · show (List.foldl (· ++ ·) #[] (List.replicate n.toNat #[c])).toList = _
    rw [foldl_one]
    rfl
end Tw
set_option Elab.async false
set_option linter.all false
set_option maxRecDepth 100000
set_option maxHeartbeats 4000000
namespace Tw
open PySem PySem.Spec L2 TL
open PyProof.Rows hiding St
theorem rng_nat (n : Nat) : rng 0 n = (List.range n).map fun (k : Nat) => (k : Int) := by
  unfold rng
  rw [show ((n : Int) - 0).toNat = n by omega]
  congr 1
  funext k
  omega
theorem rng_succ (n : Nat) : rng 0 ((n + 1 : Nat) : Int) = rng 0 (n : Nat) ++ [(n : Int)] := by
  rw [rng_nat, rng_nat, List.range_succ, List.map_append]
  rfl
theorem M.for_rngI {S : Type} {f : S → Int → M S} (I : Nat → S → Prop) : ∀ (n : Nat) (s0 : S), I 0 s0 → (∀ i s, i < n → I i s → ∃ s', f s (i : Int) = .ok s' ∧ I (i + 1) s') → ∃ s', M.for_ f (rng 0 (n : Int)) s0 = .ok s' ∧ I n s'
  | 0, s0, h0, _ => ⟨s0, rfl, h0⟩
  | n + 1, s0, h0, h => by
    obtain ⟨s1, e1, i1⟩ := M.for_rngI I n s0 h0 fun i s hi => h i s (by omega)
    obtain ⟨s2, e2, i2⟩ := h n s1 (by omega) i1
    refine ⟨s2, ?_, i2⟩
    rw [rng_succ, M.for_app, e1, M.b_ok, M.for_cons, e2]
    rfl
theorem line_of {n : Nat} (h : n ≤ 100000) : n ≤ sizeLine := small_line h
theorem line_lt {n : Nat} (h : n ≤ 100000) : n < sizeLine := Nat.lt_of_le_of_lt h (by decide)
theorem chk_line {n : Nat} {α : Type} {m : M α} (h : n ≤ 100000) : M.chk (n ≤ sizeLine) m = m := M.chk_of (line_of h)
def M.T {α : Type} (m : M α) (p : α → Prop) : Prop := m.P p fun _ => False
theorem M.T_ok {α : Type} {a : α} {p : α → Prop} (h : p a) : (M.ok a).T p := h
theorem M.T_b {α β : Type} {m : M α} {k : α → M β} {p : β → Prop} (h : m.T fun a => (k a).T p) : (M.b m k).T p := M.P_b.mpr h
theorem M.T_chk {α : Type} {c : Prop} {m : M α} {p : α → Prop} (hc : c) (h : m.T p) : (M.chk c m).T p := M.P_chk.mpr ⟨hc, h⟩
theorem M.T_get {α : Type} {o : Option α} {a : α} {p : α → Prop} (e : o = some a) (h : p a) : (M.get o).T p := M.P_get.mpr ⟨a, e, h⟩
theorem M.T_ite {α : Type} {c : Prop} [Decidable c] {m n : M α} {p : α → Prop} (h1 : c → m.T p) (h2 : ¬ c → n.T p) : (if c then m else n).T p := by
  split
  · exact h1 ‹_›
  · exact h2 ‹_›
theorem M.T_eq {α : Type} {m : M α} {p : α → Prop} (h : m.T p) : ∃ a, m = .ok a ∧ p a := by
  cases m with
  | ok a => exact ⟨a, rfl, h⟩
  | exc c => exact h.elim
  | bad => exact h.elim
theorem M.T_of {α : Type} {m : M α} {a : α} {p : α → Prop} (e : m = .ok a) (h : p a) : m.T p := by rw [e]; exact h
theorem M.T_is {α : Type} {m : M α} {a : α} (h : m.T fun b => b = a) : m = .ok a := by
  obtain ⟨b, e, rfl⟩ := M.T_eq h
  exact e
theorem M.T_cl {α : Type} {m : M α} {p : α → Prop} (h : m.T p) : m.cl.T p := by
  obtain ⟨b, rfl, h⟩ := M.T_eq h
  exact h
theorem M.T.imp {α : Type} {m : M α} {p q : α → Prop} (h : m.T p) (f : ∀ a, p a → q a) : m.T q := M.P.imp h f fun _ z => z
theorem M.T_for {α S : Type} {f : S → α → M S} {p : S → Prop} (I : List α → S → Prop) {xs : List α} {s0 : S} (h0 : I [] s0) (hs : ∀ ys x zs s, xs = ys ++ x :: zs → I ys s → (f s x).T (I (ys ++ [x]))) (hp : ∀ s, I xs s → p s) : (M.for_ f xs s0).T p := by
  obtain ⟨s, e, i⟩ := M.for_inv I xs s0 h0 fun ys x zs s e i => M.T_eq (hs ys x zs s e i)
  exact M.T_of e (hp s i)
theorem M.T_rng {S : Type} {f : S → Int → M S} {p : S → Prop} (I : Nat → S → Prop) {n : Int} {s0 : S} (h0 : I 0 s0) (hs : ∀ (i : Nat) s, (i : Int) < n → I i s → (f s (i : Int)).T (I (i + 1))) (hp : ∀ s, I n.toNat s → p s) : (M.for_ f (rng 0 n) s0).T p := by
  have e : rng 0 n = rng 0 ((n.toNat : Nat) : Int) := by
    unfold rng
    rw [show (n - 0).toNat = (((n.toNat : Nat) : Int) - 0).toNat by omega]
  rw [e]
  obtain ⟨s, e, i⟩ := M.for_rngI I n.toNat s0 h0 fun i s hi h => M.T_eq (hs i s (by omega) h)
  exact M.T_of e (hp s i)
theorem M.T_orRl {S R : Type} {k : S → M R} {s : S} {p : R → Prop} (h : (k s).T p) : (M.orR k (.inl s)).T p := h
theorem M.T_orRr {S R : Type} {k : S → M R} {r : R} {p : R → Prop} (h : p r) : (M.orR k (.inr r)).T p := h
theorem M.lc_mapp {α β : Type} (f : α → β) (xs : List α) : M.lc (fun _ => .ok true) (fun y => .ok (f y)) xs = .ok (xs.map f) := M.lc_map xs fun _ _ => rfl
theorem cdiv {i j : Int} (h : 0 < j) (h2 : j < 2 ^ 30) : CDivW i j := wide_div (b := 31) h (by omega) (by decide) (by decide)
theorem rng_side {n : Int} (h : -1000000000 ≤ n ∧ n ≤ 1000000000) : -(2 ^ 62) ≤ n ∧ n < 2 ^ 62 := ⟨by omega, by omega⟩
abbrev n__law_cell_at : List Str := ["_law_script", "_law_k"]
noncomputable def F__law_cell_at (p0 : Scr) (p1 : Int) : M Int :=
  (if (decide (p1 < ((p0.l.length : Nat) : Int))) = true then (M.get (atI p0.l p1)) else (M.ok (0 : Int)))
def sp__law_cell_at (G : Gb) : Sp := spA G (fun (p : Scr × Int) => [.bw (p.1), .fz (p.2)]) (rpF G) (fun (p : Scr × Int) => F__law_cell_at (p.1) (p.2))
def t__law_cell_at (G : Gb) : TS :=
  (tSeq (tIfS (tTest (tOp qLt (tVar 1) (tCB (qLenQ G.K) (tCons (tVar 0) tNil))))
  (tRet (tOp (rIxL G.K) (tVar 0) (tVar 1)))
  tNext)
  (tRet (tC (.int 0))))
theorem len__law_cell_at {G : Gb} (vs : List V) (H : Hp) (Q : VK) (E : XK) (h : sp__law_cell_at G vs H Q E) : vs.length = 2 := spA_len h fun _ => rfl
theorem rn__law_cell_at {G : Gb} {B : Hp} {E : XK} (p0 : Scr) (p1 : Int) : Run G B E (oR G B (rpF G)) [some (.bw p0), some (.fz p1)] (t__law_cell_at G) (F__law_cell_at p0 p1) := by
  have h : Run G B E (oR G B (rpF G)) [some (.bw p0), some (.fz p1)] (t__law_cell_at G) _ := (run_ifS (evT_T (ev_lt (mr := .F) (ev_fz rfl) (ev_lenScr (mr := .F) (ev_bw rfl)))) (run_cutR (run_ret (ev_ixScr (mr := .F) (ev_bw rfl) (ev_fz rfl)))) (run_skip (run_ret (ev_int (md := .F)))))
  exact h
theorem run__law_cell_at {G : Gb} {vs : List V} {H : Hp} {Q : VK} {E : XK} (h : sp__law_cell_at G vs H Q E) : t__law_cell_at G (dEnd Q) (start n__law_cell_at vs) H := spA_run (n := 0) h (fun _ => rfl) fun p B => rn__law_cell_at (p.1) (p.2)
abbrev n__law_big : List Str := ["_law_script", "_law_at", "_law_by", "_law_prime", "_law_cell", "_law_big_here", "_law_k", "_law_one"]
noncomputable def F__law_big (p0 : Scr) (p1 : Int) : M Int :=
  (M.b (M.chk (((48271 : Int) :: ((69621 : Int) :: ((16807 : Int) :: ((39373 : Int) :: ((21401 : Int) :: ((60493 : Int) :: ((87721 : Int) :: ((31337 : Int) :: [])))))))).length ≤ sizeLine) (M.ok (⟨((48271 : Int) :: ((69621 : Int) :: ((16807 : Int) :: ((39373 : Int) :: ((21401 : Int) :: ((60493 : Int) :: ((87721 : Int) :: ((31337 : Int) :: []))))))))⟩ : Tp Int))) fun v1 => (M.b (M.chk (((99991 : Int) :: ((99989 : Int) :: ((99971 : Int) :: ((99961 : Int) :: ((99929 : Int) :: ((99923 : Int) :: ((99907 : Int) :: ((99901 : Int) :: [])))))))).length ≤ sizeLine) (M.ok (⟨((99991 : Int) :: ((99989 : Int) :: ((99971 : Int) :: ((99961 : Int) :: ((99929 : Int) :: ((99923 : Int) :: ((99907 : Int) :: ((99901 : Int) :: []))))))))⟩ : Tp Int))) fun v2 => (M.b (M.cl (F__law_cell_at p0 p1)) fun v3 => (M.b (M.b (M.b (M.chk (CPos v3 (2 : Int)) (M.ok (v3 % (2 : Int)))) fun x4 => (M.ok (decide (x4 = (0 : Int))))) fun x6 => (if x6 = true then (M.b (M.chk (CPow (10 : Int) (20 : Int)) (M.ok ((10 : Int) ^ ((20 : Int) : Int).toNat))) fun x5 => (M.ok (decide (x5 < v3)))) else M.ok false)) fun x29 => (if x29 = true then (M.chk (CDivW v3 (2 : Int)) (M.ok (v3 / (2 : Int)))) else (M.b (M.ok (0 : Int)) fun v7 => (M.b (M.b (M.chk (-(2 ^ 62) ≤ (60 : Int) ∧ (60 : Int) < 2 ^ 62) (M.ok (rng 0 (60 : Int)))) fun x27 => (M.for_ (fun (s8 : Int) (x9 : Int) => (M.b (M.b (M.b (M.b (M.b (M.b (M.chk (CPos x9 (9 : Int)) (M.ok (x9 % (9 : Int)))) fun x10 => (M.ok (p1 + x10))) fun x11 => (M.cl (F__law_cell_at p0 x11))) fun x12 => (M.b (M.chk (CPow (10 : Int) (18 : Int)) (M.ok ((10 : Int) ^ ((18 : Int) : Int).toNat))) fun x13 => (M.chk (CPos x12 x13) (M.ok (x12 % x13))))) fun x14 => (M.ok (x14 + (1 : Int)))) fun x15 => (M.b (M.chk (CMulW x9 x9) (M.ok (x9 * x9))) fun x16 => (M.ok (x15 + x16)))) fun v17 => (M.b (M.b (M.chk (CMulW s8 (7919 : Int)) (M.ok (s8 * (7919 : Int)))) fun x24 => (M.b (M.b (M.b (M.b (M.b (M.chk (CPos x9 (8 : Int)) (M.ok (x9 % (8 : Int)))) fun x18 => (M.get (atI v1.l x18))) fun x19 => (M.chk (CMulW v17 x19) (M.ok (v17 * x19)))) fun x21 => (M.b (M.b (M.chk (CPos x9 (8 : Int)) (M.ok (x9 % (8 : Int)))) fun x20 => (M.get (atI v2.l x20))) fun x22 => (M.chk (CPos x21 x22) (M.ok (x21 % x22))))) fun x23 => (M.chk (CPos x23 (7919 : Int)) (M.ok (x23 % (7919 : Int))))) fun x25 => (M.ok (x24 + x25)))) fun v26 => (M.ok v26)))) x27 v7)) fun s28 => (M.ok s28))))))))
def sp__law_big (G : Gb) : Sp := spA G (fun (p : Scr × Int) => [.bw (p.1), .fz (p.2)]) (rpF G) (fun (p : Scr × Int) => F__law_big (p.1) (p.2))
def t__law_big (G : Gb) : TS :=
  (tSeq (tAsg (tTup (tCons (tC (.int 48271)) (tCons (tC (.int 69621)) (tCons (tC (.int 16807)) (tCons (tC (.int 39373)) (tCons (tC (.int 21401)) (tCons (tC (.int 60493)) (tCons (tC (.int 87721)) (tCons (tC (.int 31337)) tNil))))))))) (gName 2)) (tSeq (tAsg (tTup (tCons (tC (.int 99991)) (tCons (tC (.int 99989)) (tCons (tC (.int 99971)) (tCons (tC (.int 99961)) (tCons (tC (.int 99929)) (tCons (tC (.int 99923)) (tCons (tC (.int 99907)) (tCons (tC (.int 99901)) tNil))))))))) (gName 3)) (tSeq (tAsg (tCall (sp__law_cell_at G) [] E0 (tCons (tVar 0) (tCons (tVar 1) tNil))) (gName 4)) (tSeq (tIfS (tAnd (tTest (tOp rEq (tOp qMod (tVar 4) (tC (.int 2))) (tC (.int 0)))) (tTest (tOp qGt (tVar 4) (tOp qPow (tC (.int 10)) (tC (.int 20))))))
  (tRet (tOp qDiv (tVar 4) (tC (.int 2))))
  tNext)
  (tSeq (tAsg (tC (.int 0)) (gName 5)) (tSeq (tFor (iRng1 (tCons (tC (.int 60)) tNil)) (gName 6)
  (tSeq (tAsg (tOp qAdd (tOp qAdd (tOp qMod (tCall (sp__law_cell_at G) [] E0 (tCons (tVar 0) (tCons (tOp qAdd (tVar 1) (tOp qMod (tVar 6) (tC (.int 9)))) tNil))) (tOp qPow (tC (.int 10)) (tC (.int 18)))) (tC (.int 1))) (tOp qMul (tVar 6) (tVar 6))) (gName 7)) (tAsg (tOp qAdd (tOp qMul (tVar 5) (tC (.int 7919))) (tOp qMod (tOp qMod (tOp qMul (tVar 7) (tOp (rIxT G.K) (tVar 2) (tOp qMod (tVar 6) (tC (.int 8))))) (tOp (rIxT G.K) (tVar 3) (tOp qMod (tVar 6) (tC (.int 8))))) (tC (.int 7919)))) (gName 5))))
  (tRet (tVar 5))))))))
theorem len__law_big {G : Gb} (vs : List V) (H : Hp) (Q : VK) (E : XK) (h : sp__law_big G vs H Q E) : vs.length = 2 := spA_len h fun _ => rfl
theorem rn__law_big {G : Gb} {B : Hp} {E : XK} (p0 : Scr) (p1 : Int) : Run G B E (oR G B (rpF G)) [some (.bw p0), some (.fz p1), none, none, none, none, none, none] (t__law_big G) (F__law_big p0 p1) := by
  have h : Run G B E (oR G B (rpF G)) [some (.bw p0), some (.fz p1), none, none, none, none, none, none] (t__law_big G) _ := (run_asg (bind := fun (x : (Tp Int)) (r : Evr) => (r.set 2 (some (.fz x)))) (ev_tp (el_cons (ev_int (md := .F)) (el_cons (ev_int (md := .F)) (el_cons (ev_int (md := .F)) (el_cons (ev_int (md := .F)) (el_cons (ev_int (md := .F)) (el_cons (ev_int (md := .F)) (el_cons (ev_int (md := .F)) (el_cons (ev_int (md := .F)) (el_nil (α := Int))))))))))) tg_F (fun v1 => (run_asg (bind := fun (x : (Tp Int)) (r : Evr) => (r.set 3 (some (.fz x)))) (ev_tp (el_cons (ev_int (md := .F)) (el_cons (ev_int (md := .F)) (el_cons (ev_int (md := .F)) (el_cons (ev_int (md := .F)) (el_cons (ev_int (md := .F)) (el_cons (ev_int (md := .F)) (el_cons (ev_int (md := .F)) (el_cons (ev_int (md := .F)) (el_nil (α := Int))))))))))) tg_F (fun v2 => (run_asg (bind := fun (x : Int) (r : Evr) => (r.set 4 (some (.fz x)))) (ev_call2 (f := F__law_cell_at) (ev_bw rfl) ps_B (ev_fz rfl) ps_F) tg_S (fun v3 => (run_ifS (evT_and (evT_T (ev_eq (mr := .F) (ev_mod (mr := .F) (ev_fz rfl) (ev_int (md := .F))) (ev_int (md := .F)))) (evT_T (ev_gt (mr := .F) (ev_fz rfl) (ev_pow (mr := .F) (ev_int (md := .F)) (ev_int (md := .F)))))) (run_cutR (run_ret (ev_div (mr := .F) (ev_fz rfl) (ev_int (md := .F))))) (run_skip (run_asg (bind := fun (x : Int) (r : Evr) => (r.set 5 (some (.fz x)))) (ev_int (md := .F)) tg_S (fun v7 => (run_seq (EX := fun (s : Int) => [some (.bw p0), some (.fz p1), some (.fz v1), some (.fz v2), some (.fz v3), some (.fz s), none, none]) (run_for (bind := fun (x : Int) (r : Evr) => (r.set 6 (some (.fz x)))) (s0 := v7) (ew_rng1 (ev_int (md := .F)) tg_S) (.keep (.keep (.keep (.keep (.keep (.keep (.drop (.drop Wk.nil)))))))) (fun s8 x9 => (run_asg (bind := fun (x : Int) (r : Evr) => (r.set 7 (some (.fz x)))) (ev_add (mr := .F) (ev_add (mr := .F) (ev_mod (mr := .F) (ev_call2 (f := F__law_cell_at) (ev_bw rfl) ps_B (ev_add (mr := .F) (ev_fz rfl) (ev_mod (mr := .F) (ev_fz rfl) (ev_int (md := .F)))) ps_F) (ev_pow (mr := .F) (ev_int (md := .F)) (ev_int (md := .F)))) (ev_int (md := .F))) (ev_mul (mr := .F) (ev_fz rfl) (ev_fz rfl))) tg_S (fun v17 => (run_last (run_asg (bind := fun (x : Int) (r : Evr) => (r.set 5 (some (.fz x)))) (ev_add (mr := .F) (ev_mul (mr := .F) (ev_fz rfl) (ev_int (md := .F))) (ev_mod (mr := .F) (ev_mod (mr := .F) (ev_mul (mr := .F) (ev_fz rfl) (ev_ixTp (ev_fz rfl) (ev_mod (mr := .F) (ev_fz rfl) (ev_int (md := .F))))) (ev_ixTp (ev_fz rfl) (ev_mod (mr := .F) (ev_fz rfl) (ev_int (md := .F))))) (ev_int (md := .F)))) tg_S (fun v26 => (run_next (s := v26) (.keep (.keep (.keep (.keep (.keep (.keep (.drop (.drop Wk.nil)))))))))))))))) (fun s28 => (run_ret (ev_fz rfl))))))))))))))
  exact h
theorem run__law_big {G : Gb} {vs : List V} {H : Hp} {Q : VK} {E : XK} (h : sp__law_big G vs H Q E) : t__law_big G (dEnd Q) (start n__law_big vs) H := spA_run (n := 6) h (fun _ => rfl) fun p B => rn__law_big (p.1) (p.2)
abbrev n__law_names : List Str := ["_law_stem", "_law_many", "_law_signs", "_law_size", "_law_spot", "_law_names_here", "_law_v", "_law_name", "_law_k", "_law_turn"]
noncomputable def F__law_names (p0 : Int) (p1 : Int) : M (List Str) :=
  (M.b (M.ok (Str.ofString "abcdefghijklmnopqrstuvwxyz0123456789")) fun v1 => (M.b (M.b (M.chk (CPos p0 (8 : Int)) (M.ok (p0 % (8 : Int)))) fun x2 => (M.ok ((1 : Int) + x2))) fun v3 => (M.b (M.b (M.chk (CDivW p0 (8 : Int)) (M.ok (p0 / (8 : Int)))) fun x4 => (M.chk (CPos x4 v3) (M.ok (x4 % v3)))) fun v5 => (M.b (M.ok ([] : (List Str))) fun v6 => (M.b (M.b (M.chk (-(2 ^ 62) ≤ p1 ∧ p1 < 2 ^ 62) (M.ok (rng 0 p1))) fun x45 => (M.for_ (fun (s7 : (List Str)) (x8 : Int) => (M.b (M.ok (Str.ofString "")) fun v9 => (M.b (M.b (M.chk (-(2 ^ 62) ≤ v3 ∧ v3 < 2 ^ 62) (M.ok (rng 0 v3))) fun x23 => (M.for_ (fun (s10 : Str) (x11 : Int) => (M.b (M.b (M.chk (CDivW p0 (64 : Int)) (M.ok (p0 / (64 : Int)))) fun x14 => (M.b (M.b (M.b (M.chk (CDivW p0 (7 : Int)) (M.ok (p0 / (7 : Int)))) fun x12 => (M.chk (CPos x12 (5 : Int)) (M.ok (x12 % (5 : Int))))) fun x13 => (M.chk (CMulW x11 x13) (M.ok (x11 * x13)))) fun x15 => (M.ok (x14 + x15)))) fun v16 => (M.b (if (decide (x11 = v5)) = true then (M.b (M.ok (v16 + x8)) fun v18 => (M.ok v18)) else (M.ok v16)) fun s19 => (M.b (M.b (M.b (M.chk (CPos s19 (36 : Int)) (M.ok (s19 % (36 : Int)))) fun x20 => (M.chk (v1.length ≤ sizeLine) (M.b (M.get (atI v1.cps.toList x20)) fun c => M.ok (⟨#[c]⟩ : Str)))) fun x21 => (M.chk (s10.length + x21.length ≤ sizeLine) (M.ok (s10 ++ x21)))) fun v22 => (M.ok v22))))) x23 v9)) fun s24 => (M.b (M.b (M.b (M.chk (CPos p0 (3 : Int)) (M.ok (p0 % (3 : Int)))) fun x25 => (M.ok (decide (x25 = (2 : Int))))) fun x44 => (if x44 = true then (M.b (M.b (M.b (M.b (M.b (M.chk (CDivW p0 (64 : Int)) (M.ok (p0 / (64 : Int)))) fun x34 => (M.b (M.chk (CDivW x8 (8 : Int)) (M.ok (x8 / (8 : Int)))) fun x35 => (M.ok (x34 + x35)))) fun x36 => (M.chk (CPos x36 (36 : Int)) (M.ok (x36 % (36 : Int))))) fun x37 => (M.chk (v1.length ≤ sizeLine) (M.b (M.get (atI v1.cps.toList x37)) fun c => M.ok (⟨#[c]⟩ : Str)))) fun x39 => (M.b (M.b (M.chk (CPos x8 (8 : Int)) (M.ok (x8 % (8 : Int)))) fun x38 => (M.ok ((1 : Int) + x38))) fun x40 => (M.chk (MulOk x39 x40) (M.ok (Txt.mul x39 x40))))) fun v41 => (M.ok v41)) else (M.ok s24))) fun s42 => (M.b (M.ok s42) fun a43 => M.chk (s7.length < sizeLine) (M.ok (s7 ++ [a43]))))))) x45 v6)) fun s46 => (M.ok s46))))))
def sp__law_names (G : Gb) : Sp := spA G (fun (p : Int × Int) => [.fz (p.1), .fz (p.2)]) (rpN G) (fun (p : Int × Int) => F__law_names (p.1) (p.2))
def t__law_names (G : Gb) : TS :=
  (tSeq (tAsg (tC (.str "abcdefghijklmnopqrstuvwxyz0123456789")) (gName 2)) (tSeq (tAsg (tOp qAdd (tC (.int 1)) (tOp qMod (tVar 0) (tC (.int 8)))) (gName 3)) (tSeq (tAsg (tOp qMod (tOp qDiv (tVar 0) (tC (.int 8))) (tVar 3)) (gName 4)) (tSeq (tAsg (tLst tNil) (gName 5)) (tSeq (tFor (iRng1 (tCons (tVar 1) tNil)) (gName 6)
  (tSeq (tAsg (tC (.str "")) (gName 7)) (tSeq (tFor (iRng1 (tCons (tVar 3) tNil)) (gName 8)
  (tSeq (tAsg (tOp qAdd (tOp qDiv (tVar 0) (tC (.int 64))) (tOp qMul (tVar 8) (tOp qMod (tOp qDiv (tVar 0) (tC (.int 7))) (tC (.int 5))))) (gName 9)) (tSeq (tIfS (tTest (tOp rEq (tVar 8) (tVar 4)))
  (tAsg (tOp qAdd (tVar 9) (tVar 6)) (gName 9))
  tNext)
  (tAsg (tOp qCatS (tVar 7) (tOp rIxS (tVar 2) (tOp qMod (tVar 9) (tC (.int 36))))) (gName 7)))))
  (tSeq (tIfS (tTest (tOp rEq (tOp qMod (tVar 0) (tC (.int 3))) (tC (.int 2))))
  (tAsg (tOp qRepS (tOp rIxS (tVar 2) (tOp qMod (tOp qAdd (tOp qDiv (tVar 0) (tC (.int 64))) (tOp qDiv (tVar 6) (tC (.int 8)))) (tC (.int 36)))) (tOp qAdd (tC (.int 1)) (tOp qMod (tVar 6) (tC (.int 8))))) (gName 7))
  tNext)
  (tDrop (tBM G.K "list" rAppend (tVar 5) (tCons (tVar 7) tNil)))))))
  (tRet (tVar 5)))))))
theorem len__law_names {G : Gb} (vs : List V) (H : Hp) (Q : VK) (E : XK) (h : sp__law_names G vs H Q E) : vs.length = 2 := spA_len h fun _ => rfl
theorem rn__law_names {G : Gb} {B : Hp} {E : XK} (p0 : Int) (p1 : Int) : Run G B E (oR G B (rpN G)) [some (.fz p0), some (.fz p1), none, none, none, none, none, none, none, none] (t__law_names G) (F__law_names p0 p1) := by
  have h : Run G B E (oR G B (rpN G)) [some (.fz p0), some (.fz p1), none, none, none, none, none, none, none, none] (t__law_names G) _ := (run_asg (bind := fun (x : Str) (r : Evr) => (r.set 2 (some (.fz x)))) (ev_str (md := .F)) tg_S (fun v1 => (run_asg (bind := fun (x : Int) (r : Evr) => (r.set 3 (some (.fz x)))) (ev_add (mr := .F) (ev_int (md := .F)) (ev_mod (mr := .F) (ev_fz rfl) (ev_int (md := .F)))) tg_S (fun v3 => (run_asg (bind := fun (x : Int) (r : Evr) => (r.set 4 (some (.fz x)))) (ev_mod (mr := .F) (ev_div (mr := .F) (ev_fz rfl) (ev_int (md := .F))) (ev_fz rfl)) tg_S (fun v5 => (run_asgN (en_nil (α := Str)) (fun v6 => (run_seq (EX := fun (s : (List Str)) => [some (.fz p0), some (.fz p1), some (.fz v1), some (.fz v3), some (.fz v5), some (.ow s), none, none, none, none]) (run_for (bind := fun (x : Int) (r : Evr) => (r.set 6 (some (.fz x)))) (s0 := v6) (ew_rng1 (ev_fz rfl) tg_S) (.keep (.keep (.keep (.keep (.keep (.keep (.drop (.drop (.drop (.drop Wk.nil)))))))))) (fun s7 x8 => (run_asg (bind := fun (x : Str) (r : Evr) => (r.set 7 (some (.fz x)))) (ev_str (md := .F)) tg_S (fun v9 => (run_seq (EX := fun (s : Str) => [some (.fz p0), some (.fz p1), some (.fz v1), some (.fz v3), some (.fz v5), some (.ow s7), some (.fz x8), some (.fz s), none, none]) (run_for (bind := fun (x : Int) (r : Evr) => (r.set 8 (some (.fz x)))) (s0 := v9) (ew_rng1 (ev_fz rfl) tg_S) (.keep (.keep (.keep (.keep (.keep (.keep (.keep (.keep (.drop (.drop Wk.nil)))))))))) (fun s10 x11 => (run_asg (bind := fun (x : Int) (r : Evr) => (r.set 9 (some (.fz x)))) (ev_add (mr := .F) (ev_div (mr := .F) (ev_fz rfl) (ev_int (md := .F))) (ev_mul (mr := .F) (ev_fz rfl) (ev_mod (mr := .F) (ev_div (mr := .F) (ev_fz rfl) (ev_int (md := .F))) (ev_int (md := .F))))) tg_S (fun v16 => (run_seq (EX := fun (s : Int) => [some (.fz p0), some (.fz p1), some (.fz v1), some (.fz v3), some (.fz v5), some (.ow s7), some (.fz x8), some (.fz s10), some (.fz x11), some (.fz s)]) (run_if (evT_T (ev_eq (mr := .F) (ev_fz rfl) (ev_fz rfl))) (run_last (run_asg (bind := fun (x : Int) (r : Evr) => (r.set 9 (some (.fz x)))) (ev_add (mr := .F) (ev_fz rfl) (ev_fz rfl)) tg_S (fun v18 => (run_next (s := v18) (.keep (.keep (.keep (.keep (.keep (.keep (.keep (.keep (.keep (.keep Wk.nil)))))))))))))) (run_next (s := v16) (.keep (.keep (.keep (.keep (.keep (.keep (.keep (.keep (.keep (.keep Wk.nil)))))))))))) (fun s19 => (run_last (run_asg (bind := fun (x : Str) (r : Evr) => (r.set 7 (some (.fz x)))) (ev_catStr (mr := .F) (ev_fz rfl) (ev_ixStr (mr := .F) (ev_fz rfl) (ev_mod (mr := .F) (ev_fz rfl) (ev_int (md := .F))))) tg_S (fun v22 => (run_next (s := v22) (.keep (.keep (.keep (.keep (.keep (.keep (.keep (.keep (.drop (.drop Wk.nil)))))))))))))))))))) (fun s24 => (run_seq (EX := fun (s : Str) => [some (.fz p0), some (.fz p1), some (.fz v1), some (.fz v3), some (.fz v5), some (.ow s7), some (.fz x8), some (.fz s), none, none]) (run_if (evT_T (ev_eq (mr := .F) (ev_mod (mr := .F) (ev_fz rfl) (ev_int (md := .F))) (ev_int (md := .F)))) (run_last (run_asg (bind := fun (x : Str) (r : Evr) => (r.set 7 (some (.fz x)))) (ev_repStr (mr := .F) (ev_ixStr (mr := .F) (ev_fz rfl) (ev_mod (mr := .F) (ev_add (mr := .F) (ev_div (mr := .F) (ev_fz rfl) (ev_int (md := .F))) (ev_div (mr := .F) (ev_fz rfl) (ev_int (md := .F)))) (ev_int (md := .F)))) (ev_add (mr := .F) (ev_int (md := .F)) (ev_mod (mr := .F) (ev_fz rfl) (ev_int (md := .F))))) tg_S (fun v41 => (run_next (s := v41) (.keep (.keep (.keep (.keep (.keep (.keep (.keep (.keep (.drop (.drop Wk.nil)))))))))))))) (run_next (s := s24) (.keep (.keep (.keep (.keep (.keep (.keep (.keep (.keep (.drop (.drop Wk.nil)))))))))))) (fun s42 => (run_last (run_append rfl (ev_fz rfl) (fun a43 => (run_next (s := (s7 ++ [a43])) (.keep (.keep (.keep (.keep (.keep (.keep (.drop (.drop (.drop (.drop Wk.nil)))))))))))))))))))))) (fun s46 => (run_retO rfl)))))))))))
  exact h
theorem run__law_names {G : Gb} {vs : List V} {H : Hp} {Q : VK} {E : XK} (h : sp__law_names G vs H Q E) : t__law_names G (dEnd Q) (start n__law_names vs) H := spA_run (n := 8) h (fun _ => rfl) fun p B => rn__law_names (p.1) (p.2)
def cell (ns : List Int) (j : Nat) : Int := ns.getD j 0
theorem cell_at (ns : List Int) (j : Nat) : F__law_cell_at ⟨ns⟩ (j : Int) = .ok (cell ns j) := by
  unfold F__law_cell_at cell
  by_cases h : j < ns.length
  · rw [if_pos (decide_eq_true (by show (j : Int) < (ns.length : Int); omega)), atI_nat (List.getElem?_eq_getElem h), M.get_some, List.getD_eq_getElem?_getD, List.getElem?_eq_getElem h]
    rfl
  · rw [if_neg (by rw [decide_eq_false (by show ¬ (j : Int) < (ns.length : Int); omega)]; exact Bool.false_ne_true), List.getD_eq_getElem?_getD, List.getElem?_eq_none (by omega)]
    exact rfl
def byL : List Int := [48271, 69621, 16807, 39373, 21401, 60493, 87721, 31337]
def primeL : List Int := [99991, 99989, 99971, 99961, 99929, 99923, 99907, 99901]
theorem at8 (xs : List Int) (h : xs.length = 8) (hp : ∀ x ∈ xs, 0 < x ∧ x < 100000) (k : Nat) : ∃ x : Int, atI xs (((k : Int)) % 8) = some x ∧ 0 < x ∧ x < 100000 := by
  have e : ((k : Int) % 8) = ((k % 8 : Nat) : Int) := by omega
  have hk : k % 8 < xs.length := by omega
  refine ⟨xs[k % 8], ?_, hp _ (List.getElem_mem hk)⟩
  rw [e]
  exact atI_nat (List.getElem?_eq_getElem hk)
theorem big_ok (ns : List Int) (j : Nat) : (F__law_big ⟨ns⟩ (j : Int)).T fun b => 0 ≤ b := by
  unfold F__law_big
  refine M.T_b (M.T_chk (line_of (show 8 ≤ 100000 by decide)) (M.T_ok (M.T_b (M.T_chk (line_of (show 8 ≤ 100000 by decide)) (M.T_ok ?_)))))
  rw [cell_at]
  refine M.T_b (M.T_cl (M.T_ok ?_))
  have e10 : (10 : Int) ^ ((20 : Int).toNat) = 100000000000000000000 := by decide
  refine M.T_b (M.T.imp (p := fun x => x = true → 0 < cell ns j) ?_ fun x29 hx => ?_)
  · (repeat' (first | with_reducible refine M.T_b ?_ | with_reducible refine M.T_ok ?_ | (with_reducible refine M.T_chk ?hc ?_; (case hc => (first | assumption | exact cpos (by omega) | exact cdiv (by omega) (by omega) | exact rng_side (by omega) | (unfold CPow; decide) | decide | omega))) | with_reducible refine M.T_cl ?_ | with_reducible refine M.T_orRl ?_ | with_reducible refine M.T_orRr ?_))
    refine M.T_ite (fun h => ?_) fun h => ?_
    · (repeat' (first | with_reducible refine M.T_b ?_ | with_reducible refine M.T_ok ?_ | (with_reducible refine M.T_chk ?hc ?_; (case hc => (first | assumption | exact cpos (by omega) | exact cdiv (by omega) (by omega) | exact rng_side (by omega) | (unfold CPow; decide) | decide | omega))) | with_reducible refine M.T_cl ?_ | with_reducible refine M.T_orRl ?_ | with_reducible refine M.T_orRr ?_))
      intro h2
      have := of_decide_eq_true h2
      rw [e10] at this
      omega
    · (repeat' (first | with_reducible refine M.T_b ?_ | with_reducible refine M.T_ok ?_ | (with_reducible refine M.T_chk ?hc ?_; (case hc => (first | assumption | exact cpos (by omega) | exact cdiv (by omega) (by omega) | exact rng_side (by omega) | (unfold CPow; decide) | decide | omega))) | with_reducible refine M.T_cl ?_ | with_reducible refine M.T_orRl ?_ | with_reducible refine M.T_orRr ?_))
      exact fun z => nomatch z
  refine M.T_ite (fun h => ?_) fun h => ?_
  · have := hx h
    (repeat' (first | with_reducible refine M.T_b ?_ | with_reducible refine M.T_ok ?_ | (with_reducible refine M.T_chk ?hc ?_; (case hc => (first | assumption | exact cpos (by omega) | exact cdiv (by omega) (by omega) | exact rng_side (by omega) | (unfold CPow; decide) | decide | omega))) | with_reducible refine M.T_cl ?_ | with_reducible refine M.T_orRl ?_ | with_reducible refine M.T_orRr ?_))
    omega
  (repeat' (first | with_reducible refine M.T_b ?_ | with_reducible refine M.T_ok ?_ | (with_reducible refine M.T_chk ?hc ?_; (case hc => (first | assumption | exact cpos (by omega) | exact cdiv (by omega) (by omega) | exact rng_side (by omega) | (unfold CPow; decide) | decide | omega))) | with_reducible refine M.T_cl ?_ | with_reducible refine M.T_orRl ?_ | with_reducible refine M.T_orRr ?_))
  refine M.T_rng (fun i (s : Int) => 0 ≤ s ∧ s.natAbs < 2 ^ (13 * i + 1)) ⟨by decide, by decide⟩ (fun i b hi ⟨hb0, hb⟩ => ?_) fun s h => h.1
  obtain ⟨x1, a1, l1, u1⟩ := at8 byL rfl (by decide) i
  obtain ⟨x2, a2, l2, u2⟩ := at8 primeL rfl (by decide) i
  have ej : (j : Int) + (i : Int) % 9 = ((j + i % 9 : Nat) : Int) := by omega
  have m0 := Int.emod_nonneg (cell ns (j + i % 9)) (show (10 : Int) ^ ((18 : Int).toNat) ≠ 0 by decide)
  have m1 := Int.emod_lt_of_pos (cell ns (j + i % 9)) (show (0 : Int) < 10 ^ ((18 : Int).toNat) by decide)
  have e10 : (10 : Int) ^ ((18 : Int).toNat) = 1000000000000000000 := by decide
  have h3 : (i : Int) * (i : Int) ≤ 60 * 60 := Int.mul_le_mul (by omega) (by omega) (by omega) (by omega)
  have h4 : 0 ≤ (i : Int) * (i : Int) := Int.mul_nonneg (by omega) (by omega)
  have cb : 0 ≤ cell ns (j + i % 9) % 10 ^ ((18 : Int).toNat) + 1 + (i : Int) * (i : Int) ∧ cell ns (j + i % 9) % 10 ^ ((18 : Int).toNat) + 1 + (i : Int) * (i : Int) < 2 ^ 61 := by
    rw [e10] at m0 m1 ⊢
    omega
  have w1 : CMulW (i : Int) (i : Int) := wide_mul (a := 6) (b := 6) (by omega) (by omega) (by decide) (by decide) (by decide)
  have w2 : CMulW b 7919 := wide_mul (a := 13 * i + 1) (b := 13) hb (by decide) (by omega) (by decide) (by omega)
  have w3 : CMulW (cell ns (j + i % 9) % 10 ^ ((18 : Int).toNat) + 1 + (i : Int) * (i : Int)) x1 := wide_mul (a := 61) (b := 17) (by omega) (by omega) (by decide) (by decide) (by decide)
  have w4 : (0 : Int) < 10 ^ ((18 : Int).toNat) := by decide
  (repeat' (first | with_reducible refine M.T_b ?_ | with_reducible refine M.T_ok ?_ | (with_reducible refine M.T_chk ?hc ?_; (case hc => (first | assumption | exact cpos (by omega) | exact cdiv (by omega) (by omega) | exact rng_side (by omega) | (unfold CPow; decide) | decide | omega))) | with_reducible refine M.T_cl ?_ | with_reducible refine M.T_orRl ?_ | with_reducible refine M.T_orRr ?_))
  rw [ej, cell_at]
  (repeat' (first | with_reducible refine M.T_b ?_ | with_reducible refine M.T_ok ?_ | (with_reducible refine M.T_chk ?hc ?_; (case hc => (first | assumption | exact cpos (by omega) | exact cdiv (by omega) (by omega) | exact rng_side (by omega) | (unfold CPow; decide) | decide | omega))) | with_reducible refine M.T_cl ?_ | with_reducible refine M.T_orRl ?_ | with_reducible refine M.T_orRr ?_))
  refine M.T_get a1 ?_
  (repeat' (first | with_reducible refine M.T_b ?_ | with_reducible refine M.T_ok ?_ | (with_reducible refine M.T_chk ?hc ?_; (case hc => (first | assumption | exact cpos (by omega) | exact cdiv (by omega) (by omega) | exact rng_side (by omega) | (unfold CPow; decide) | decide | omega))) | with_reducible refine M.T_cl ?_ | with_reducible refine M.T_orRl ?_ | with_reducible refine M.T_orRr ?_))
  refine M.T_get a2 ?_
  (repeat' (first | with_reducible refine M.T_b ?_ | with_reducible refine M.T_ok ?_ | (with_reducible refine M.T_chk ?hc ?_; (case hc => (first | assumption | exact cpos (by omega) | exact cdiv (by omega) (by omega) | exact rng_side (by omega) | (unfold CPow; decide) | decide | omega))) | with_reducible refine M.T_cl ?_ | with_reducible refine M.T_orRl ?_ | with_reducible refine M.T_orRr ?_))
  have q0 := Int.emod_nonneg ((cell ns (j + i % 9) % 10 ^ ((18 : Int).toNat) + 1 + (i : Int) * (i : Int)) * x1 % x2) (show (7919 : Int) ≠ 0 by decide)
  have q1 := Int.emod_lt_of_pos ((cell ns (j + i % 9) % 10 ^ ((18 : Int).toNat) + 1 + (i : Int) * (i : Int)) * x1 % x2) (show (0 : Int) < 7919 by decide)
  have e : 2 ^ (13 * (i + 1) + 1) = 2 ^ (13 * i + 1) * 8192 := by
    rw [show 13 * (i + 1) + 1 = (13 * i + 1) + 13 by omega, Nat.pow_add]
  refine ⟨by omega, ?_⟩
  rw [e]
  omega
theorem cell_T {ns : List Int} {n : Int} {p : Int → Prop} (h : 0 ≤ n) (k : p (cell ns n.toNat)) : (F__law_cell_at ⟨ns⟩ n).T p := by
  rw [show n = ((n.toNat : Nat) : Int) by omega, cell_at]
  exact k
theorem big_T {ns : List Int} {n : Int} {p : Int → Prop} (h : 0 ≤ n) (k : ∀ b, 0 ≤ b → p b) : (F__law_big ⟨ns⟩ n).T p := by
  rw [show n = ((n.toNat : Nat) : Int) by omega]
  exact (big_ok ns n.toNat).imp k
theorem names_ok (stem : Int) (n : Nat) (hn : n ≤ 1000) : F__law_names stem (n : Int) = .ok (namesOf stem n) := by
  refine M.T_is ?_
  unfold F__law_names
  have hs := size_of stem
  have m5 := Int.emod_nonneg (stem / 7) (show (5 : Int) ≠ 0 by decide)
  have m5' := Int.emod_lt_of_pos (stem / 7) (show (0 : Int) < 5 by decide)
  (repeat' (first | with_reducible refine M.T_b ?_ | with_reducible refine M.T_ok ?_ | (with_reducible refine M.T_chk ?hc ?_; (case hc => (first | assumption | exact cpos (by omega) | exact cdiv (by omega) (by omega) | exact rng_side (by omega) | (unfold CPow; decide) | decide | omega))) | with_reducible refine M.T_cl ?_ | with_reducible refine M.T_orRl ?_ | with_reducible refine M.T_orRr ?_))
  refine M.T_rng (fun i (s : List Str) => s = namesOf stem i) rfl (fun v zs hv e => ?_) fun s h => by (repeat' (first | with_reducible refine M.T_b ?_ | with_reducible refine M.T_ok ?_ | (with_reducible refine M.T_chk ?hc ?_; (case hc => (first | assumption | exact cpos (by omega) | exact cdiv (by omega) (by omega) | exact rng_side (by omega) | (unfold CPow; decide) | decide | omega))) | with_reducible refine M.T_cl ?_ | with_reducible refine M.T_orRl ?_ | with_reducible refine M.T_orRr ?_)); rw [h]; congr 1
  subst e
  (repeat' (first | with_reducible refine M.T_b ?_ | with_reducible refine M.T_ok ?_ | (with_reducible refine M.T_chk ?hc ?_; (case hc => (first | assumption | exact cpos (by omega) | exact cdiv (by omega) (by omega) | exact rng_side (by omega) | (unfold CPow; decide) | decide | omega))) | with_reducible refine M.T_cl ?_ | with_reducible refine M.T_orRl ?_ | with_reducible refine M.T_orRr ?_))
  refine M.T_rng (fun i (z : Str) => tl z = (List.range i).map (nameS stem v)) (by rw [tl_none]; rfl) (fun i z hi ez => ?_) fun z ez => ?_
  · have hzl : z.length = i := by
      rw [len_tl, ez, List.length_map, List.length_range]
    have w1 : CMulW (i : Int) (stem / 7 % 5) := wide_mul (a := 4) (b := 3) (by omega) (by omega) (by decide) (by decide) (by decide)
    refine M.T_b ?_
    (repeat' (first | with_reducible refine M.T_b ?_ | with_reducible refine M.T_ok ?_ | (with_reducible refine M.T_chk ?hc ?_; (case hc => (first | assumption | exact cpos (by omega) | exact cdiv (by omega) (by omega) | exact rng_side (by omega) | (unfold CPow; decide) | decide | omega))) | with_reducible refine M.T_cl ?_ | with_reducible refine M.T_orRl ?_ | with_reducible refine M.T_orRr ?_))
    refine M.T.imp (p := fun t => t = stem / 64 + (i : Int) * (stem / 7 % 5) + (if (i : Int) = stem / 8 % (1 + stem % 8) then (v : Int) else 0)) ?_ fun t et => ?_
    · refine M.T_ite (fun h => ?_) fun h => ?_
      · (repeat' (first | with_reducible refine M.T_b ?_ | with_reducible refine M.T_ok ?_ | (with_reducible refine M.T_chk ?hc ?_; (case hc => (first | assumption | exact cpos (by omega) | exact cdiv (by omega) (by omega) | exact rng_side (by omega) | (unfold CPow; decide) | decide | omega))) | with_reducible refine M.T_cl ?_ | with_reducible refine M.T_orRl ?_ | with_reducible refine M.T_orRr ?_))
        rw [if_pos (of_decide_eq_true h)]
      · (repeat' (first | with_reducible refine M.T_b ?_ | with_reducible refine M.T_ok ?_ | (with_reducible refine M.T_chk ?hc ?_; (case hc => (first | assumption | exact cpos (by omega) | exact cdiv (by omega) (by omega) | exact rng_side (by omega) | (unfold CPow; decide) | decide | omega))) | with_reducible refine M.T_cl ?_ | with_reducible refine M.T_orRl ?_ | with_reducible refine M.T_orRr ?_))
        rw [if_neg (fun w => h (decide_eq_true w)), Int.add_zero]
    · (repeat' (first | with_reducible refine M.T_b ?_ | with_reducible refine M.T_ok ?_ | (with_reducible refine M.T_chk ?hc ?_; (case hc => (first | assumption | exact cpos (by omega) | exact cdiv (by omega) (by omega) | exact rng_side (by omega) | (unfold CPow; decide) | decide | omega))) | with_reducible refine M.T_cl ?_ | with_reducible refine M.T_orRl ?_ | with_reducible refine M.T_orRr ?_))
      refine M.T_get (sgn_at t) ?_
      (repeat' (first | with_reducible refine M.T_b ?_ | with_reducible refine M.T_ok ?_ | (with_reducible refine M.T_chk ?hc ?_; (case hc => (first | assumption | exact cpos (by omega) | exact cdiv (by omega) (by omega) | exact rng_side (by omega) | (unfold CPow; decide) | decide | omega))) | with_reducible refine M.T_cl ?_ | with_reducible refine M.T_orRl ?_ | with_reducible refine M.T_orRr ?_))
      refine M.T_chk (line_of (by show z.length + 1 ≤ 100000; omega)) ?_
      (repeat' (first | with_reducible refine M.T_b ?_ | with_reducible refine M.T_ok ?_ | (with_reducible refine M.T_chk ?hc ?_; (case hc => (first | assumption | exact cpos (by omega) | exact cdiv (by omega) (by omega) | exact rng_side (by omega) | (unfold CPow; decide) | decide | omega))) | with_reducible refine M.T_cl ?_ | with_reducible refine M.T_orRl ?_ | with_reducible refine M.T_orRr ?_))
      rw [tl_append, ez, List.range_succ, List.map_append, et]
      rfl
  · (repeat' (first | with_reducible refine M.T_b ?_ | with_reducible refine M.T_ok ?_ | (with_reducible refine M.T_chk ?hc ?_; (case hc => (first | assumption | exact cpos (by omega) | exact cdiv (by omega) (by omega) | exact rng_side (by omega) | (unfold CPow; decide) | decide | omega))) | with_reducible refine M.T_cl ?_ | with_reducible refine M.T_orRl ?_ | with_reducible refine M.T_orRr ?_))
    refine M.T_ite (fun h => ?_) fun h => ?_
    · have e2 := of_decide_eq_true h
      (repeat' (first | with_reducible refine M.T_b ?_ | with_reducible refine M.T_ok ?_ | (with_reducible refine M.T_chk ?hc ?_; (case hc => (first | assumption | exact cpos (by omega) | exact cdiv (by omega) (by omega) | exact rng_side (by omega) | (unfold CPow; decide) | decide | omega))) | with_reducible refine M.T_cl ?_ | with_reducible refine M.T_orRl ?_ | with_reducible refine M.T_orRr ?_))
      refine M.T_get (sgn_at _) ?_
      (repeat' (first | with_reducible refine M.T_b ?_ | with_reducible refine M.T_ok ?_ | (with_reducible refine M.T_chk ?hc ?_; (case hc => (first | assumption | exact cpos (by omega) | exact cdiv (by omega) (by omega) | exact rng_side (by omega) | (unfold CPow; decide) | decide | omega))) | with_reducible refine M.T_cl ?_ | with_reducible refine M.T_orRl ?_ | with_reducible refine M.T_orRr ?_))
      refine M.T_chk (mul_ok _ _ (show 1 ≤ 30 by decide) (by omega)) ?_
      (repeat' (first | with_reducible refine M.T_b ?_ | with_reducible refine M.T_ok ?_ | (with_reducible refine M.T_chk ?hc ?_; (case hc => (first | assumption | exact cpos (by omega) | exact cdiv (by omega) (by omega) | exact rng_side (by omega) | (unfold CPow; decide) | decide | omega))) | with_reducible refine M.T_cl ?_ | with_reducible refine M.T_orRl ?_ | with_reducible refine M.T_orRr ?_))
      refine M.T_chk (line_lt (by rw [names_len]; omega)) ?_
      (repeat' (first | with_reducible refine M.T_b ?_ | with_reducible refine M.T_ok ?_ | (with_reducible refine M.T_chk ?hc ?_; (case hc => (first | assumption | exact cpos (by omega) | exact cdiv (by omega) (by omega) | exact rng_side (by omega) | (unfold CPow; decide) | decide | omega))) | with_reducible refine M.T_cl ?_ | with_reducible refine M.T_orRl ?_ | with_reducible refine M.T_orRr ?_))
      have en : Txt.mul ⟨#[sgn (stem / 64 + (v : Int) / 8)]⟩ (1 + (v : Int) % 8) = nameOf stem v := by
        refine ext_tl ?_
        rw [tl_mul_one _ _ (by omega), tl_nameOf]
        unfold nameL
        rw [if_pos e2, show ((1 + (v : Int) % 8).toNat) = 1 + v % 8 by omega, show ((v / 8 : Nat) : Int) = (v : Int) / 8 by omega]
      rw [en]
      unfold namesOf
      rw [List.range_succ, List.map_append]
      rfl
    · (repeat' (first | with_reducible refine M.T_b ?_ | with_reducible refine M.T_ok ?_ | (with_reducible refine M.T_chk ?hc ?_; (case hc => (first | assumption | exact cpos (by omega) | exact cdiv (by omega) (by omega) | exact rng_side (by omega) | (unfold CPow; decide) | decide | omega))) | with_reducible refine M.T_cl ?_ | with_reducible refine M.T_orRl ?_ | with_reducible refine M.T_orRr ?_))
      refine M.T_chk (line_lt (by rw [names_len]; omega)) ?_
      (repeat' (first | with_reducible refine M.T_b ?_ | with_reducible refine M.T_ok ?_ | (with_reducible refine M.T_chk ?hc ?_; (case hc => (first | assumption | exact cpos (by omega) | exact cdiv (by omega) (by omega) | exact rng_side (by omega) | (unfold CPow; decide) | decide | omega))) | with_reducible refine M.T_cl ?_ | with_reducible refine M.T_orRl ?_ | with_reducible refine M.T_orRr ?_))
      have en : z = nameOf stem v := by
        refine ext_tl ?_
        rw [ez, tl_nameOf]
        unfold nameL
        rw [if_neg fun w => h (decide_eq_true w)]
      rw [en]
      unfold namesOf
      rw [List.range_succ, List.map_append]
      rfl
theorem names_T {stem n : Int} {p : List Str → Prop} (h : 0 ≤ n ∧ n ≤ 1000) (k : p (namesOf stem n.toNat)) : (F__law_names stem n).T p := by
  rw [show n = ((n.toNat : Nat) : Int) by omega, names_ok _ _ (by omega)]
  exact k
end Tw
set_option Elab.async false
set_option linter.all false
set_option maxRecDepth 100000
set_option maxHeartbeats 4000000
namespace Tw
open PySem PySem.Spec L2 TL
open PyProof.Rows hiding St
def idxS : List Str → Str → Option Nat
  | [], _ => none
  | a :: r, t => if a = t then some 0 else (idxS r t).map (· + 1)
theorem idxS_spec : ∀ {l : List Str} {t : Str} {j : Nat}, idxS l t = some j → l[j]? = some t ∧ ∀ (m : Nat) (z : Str), m < j → l[m]? = some z → z ≠ t
  | [], _, _, h => by cases h
  | a :: r, t, j, h => by
    unfold idxS at h
    by_cases q : a = t
    · rw [if_pos q] at h
      cases h
      exact ⟨by rw [q]; rfl, fun m z hm => absurd hm (Nat.not_lt_zero _)⟩
    · rw [if_neg q] at h
      cases e : idxS r t with
      | none => rw [e] at h; cases h
      | some k =>
        rw [e] at h
        cases h
        obtain ⟨h1, h2⟩ := idxS_spec e
        refine ⟨h1, fun m z hm hz => ?_⟩
        cases m with
        | zero => injection hz with hz; rw [← hz]; exact q
        | succ m => exact h2 m z (Nat.lt_of_succ_lt_succ hm) hz
theorem idxS_mem : ∀ {l : List Str} {t : Str}, t ∈ l → ∃ j, idxS l t = some j
  | a :: r, t, h => by
    unfold idxS
    by_cases q : a = t
    · exact ⟨0, if_pos q⟩
    · rw [if_neg q]
      obtain ⟨j, hj⟩ := idxS_mem (l := r) ((List.mem_cons.mp h).resolve_left fun w => q w.symm)
      exact ⟨j + 1, by rw [hj]; rfl⟩
/-- (word, set) or (word, set, set) -/
structure Pt where
  w : Str
  a : List Str
  b : Option (List Str)
instance : Rp Pt where
  rep G H x t := match t.b with
    | none => rep G H x ((t.w, t.a) : Str × List Str)
    | some b => rep G H x (⟨t.w, t.a, b⟩ : T3 Str (List Str) (List Str))
  mono := fun {G H H' v t} s h => by
    obtain ⟨w, a, b⟩ := t
    cases b with
    | none => exact Rp.mono (α := Str × List Str) s h
    | some b => exact Rp.mono (α := T3 Str (List Str) (List Str)) s h
section
variable {G : Gb} {B : Hp} {E : XK} {ρ : Evr} {md md' mr : Md} {ta tb te : TE} {i : Nat} {p dx : Addr} {fl : List Fd}
theorem ev_index {m : M (List Str)} {n : M Str} (h : Ev G B E md ρ ta m) (k : Ev G B E md' ρ tb n) : Ev G B E mr ρ (tBM G.K "list" (rIndex G.K) ta (tCons tb tNil)) (m.b fun l => n.b fun x => (M.get (idxS l x)).b fun j => .ok ((j : Nat) : Int)) := fun F0 F σ H Q R q =>
  h.toH.go R q fun l F1 v H1 e1 r1 R1 q => by
    obtain ⟨p, vs, rfl, h1, h2⟩ := r1
    rw [strs_of h2] at h1
    refine ⟨.inl ⟨rfl, _, .of h1⟩, k.go R1 q fun x F2 w H2 e2 r2 R2 q => ?_⟩
    obtain ⟨j, hj, q⟩ := M.P_get.mp (M.P_b.mp q)
    obtain ⟨s1, s2⟩ := idxS_spec hj
    refine ⟨p, _, .str x, j, .str x, rfl, by rw [show w = .str x from r2], .of (e2.h _ _ h1), rfl, List.all_eq_true.mpr fun v hv => ?_, ?_, beq_self_eq_true x, fun m z' hm hz => ?_, q F2 _ H2 (e1.trans e2) R2.sF rfl⟩
    · obtain ⟨s, _, rfl⟩ := List.mem_map.mp hv
      rfl
    · rw [List.getElem?_map, s1]
      rfl
    · rw [List.getElem?_map] at hz
      cases ez : l[m]? with
      | none => rw [ez] at hz; cases hz
      | some s =>
        rw [ez] at hz
        cases hz
        exact beq_eq_false_iff_ne.mpr (s2 m s hm ez)
end
end Tw
set_option Elab.async false
set_option linter.all false
set_option maxRecDepth 100000
set_option maxHeartbeats 4000000
set_option Elab.async false
set_option linter.all false
set_option maxRecDepth 100000
set_option maxHeartbeats 4000000
namespace L2
open PySem PySem.Spec PyProof.Rows
end L2
set_option Elab.async false
set_option linter.all false
set_option maxRecDepth 100000
set_option maxHeartbeats 4000000
namespace Tw
open PySem PySem.Spec L2 TL
open PyProof.Rows hiding St
section
variable {X : Cx}
theorem pget_list : PGet X (rIxL X.K) := by
  intro pins s σ H x y v u Q I rx ry h
  obtain ⟨p, xs, i, z, rfl, rfl, hq, he, q⟩ := h
  cases rx
  obtain ⟨t, rfl⟩ := ry
  obtain ⟨its, r, pl, hz⟩ := I.list hq
  obtain ⟨j, h1, h2, h3, h4, h5⟩ := atI_get he
  obtain ⟨w, ew, rw'⟩ := r.get h2
  have hl := r.length
  have hn := line63
  have fin : EP X pins σ Q w s := ⟨z, H, I, rw', q⟩
  by_cases h0 : 0 ≤ i
  · have hj : i.toNat = j := by
      rw [seqIndex_of h0 h5] at h1
      exact Option.some.inj h1
    exact wpAny_getItem_list pl.isList h0 (by omega) (by rw [hj]; simpa using ew) fin
  · have hj : (i + (its.toArray.size : Int)).toNat = j := by
      rw [seqIndex_neg (by omega) h4] at h1
      rw [List.size_toArray, ← hl]
      exact Option.some.inj h1
    exact wpAny_getItem_list_neg pl.isList (by omega) (by rw [List.size_toArray] <;> omega) (by omega) (by rw [hj]; simpa using ew) fin
end
structure Mxo (α : Type) where
  p : Addr
  ps : List Addr
  a : List (List α)
def rfs : List V → List Addr
  | [] => []
  | .ref q :: r => q :: rfs r
  | _ :: r => rfs r
theorem rfs_map : ∀ ps : List Addr, rfs (ps.map V.ref) = ps
  | [] => rfl
  | q :: r => by rw [List.map_cons]; show q :: rfs _ = _; rw [rfs_map r]
def fpMx (H : Hp) : V → List Addr
  | .ref p => match H p with
    | some (.lst vs) => p :: rfs vs
    | _ => [p]
  | _ => []
section
variable {α : Type} [Rp α]
structure MxOk (G : Gb) (F H : Hp) (v : V) (m : Mxo α) : Prop where
  v : v = .ref m.p
  top : H m.p = some (.lst (m.ps.map V.ref))
  all : All2 (fun q (r : List α) => ∃ vs, H q = some (.lst vs) ∧ reps G F vs r) m.ps m.a
  nd : m.ps.Nodup
  ne : m.p ∉ m.ps
theorem MxOk.fp {G : Gb} {F H : Hp} {v : V} {m : Mxo α} (h : MxOk G F H v m) : fpMx H v = m.p :: m.ps := by
  rw [h.v]
  unfold fpMx
  simp only [h.top, rfs_map]
instance : Sh (Mxo α) where
  fp := fpMx
  ok := MxOk
  there := fun {G F H v a b} h hb => by
    rw [h.fp] at hb
    rcases List.mem_cons.mp hb with rfl | hb
    · exact ⟨_, h.top⟩
    · obtain ⟨r, _, vs, e, _⟩ := h.all.mem hb
      exact ⟨_, e⟩
  keep := fun {G F F' H H' v a} h sf k => by
    rw [h.fp] at k
    have h' : MxOk G F' H' v a := ⟨h.v, k _ _ List.mem_cons_self h.top, h.all.impm fun q r hq ⟨vs, e, f⟩ => ⟨vs, k _ _ (List.mem_cons_of_mem _ hq) e, reps_mono sf f⟩, h.nd, h.ne⟩
    exact ⟨h', by rw [h'.fp, h.fp]⟩
end
section
variable {G : Gb} {B : Hp} {E : XK} {ρ : Evr} {Ω : Type} {post : Hp → Ω → Ends → Prop} {α : Type} [Rp α] {te ta tb tl : TE} {md md' mr : Md} {rest : TS} {i j : Nat} {g : TG} {ts : List Nat}
theorem Rel.mx {F0 F H : Hp} {σ : L2.St} {m : Mxo α} (R : Rel G B F0 F ρ σ H) (h : ρ[i]? = some (some (.sh m))) : σ[i]? = some (some (.ref m.p)) ∧ MxOk G F H (.ref m.p) m ∧ ∀ b, b ∈ m.p :: m.ps → B b = none ∧ F b = none := by
  obtain ⟨x, e, v, rfl, h1, h2⟩ := R.at h
  have hv := h1.v
  subst hv
  exact ⟨e, h1, fun b hb => h2 b (by rw [show Sh.fp (α := Mxo α) H _ = _ from h1.fp]; exact hb)⟩
theorem ev_mx {mp : Addr} {mps : List Addr} {ma_ : List (List α)} (h : ρ[i]? = some (some (.sh (⟨mp, mps, ma_⟩ : Mxo α)))) : Ev G B E .H ρ (tVar i) (.ok ma_) := fun F0 F σ H Q R q => by
  obtain ⟨e, h1, _⟩ := R.mx h
  refine ⟨_, e, q F _ H (.refl _ _) R.sF ⟨mp, _, rfl, h1.top, ?_⟩⟩
  have go : ∀ {ps : List Addr} {a : List (List α)}, All2 (fun q (r : List α) => ∃ vs, H q = some (.lst vs) ∧ reps G F vs r) ps a → reps G H (ps.map V.ref) a := by
    intro ps a h
    induction h with
    | nil => exact .nil
    | cons r t ih => obtain ⟨vs, r1, r2⟩ := r; exact .cons ⟨_, vs, rfl, r1, reps_mono R.sF r2⟩ ih
  exact go h1.all
/-- one line is changed -/
theorem Rel.mxSet {F0 F H : Hp} {σ : L2.St} {m : Mxo α} {n : Nat} {q : Addr} {vs : List V} {row : List α} (R : Rel G B F0 F ρ σ H) (h : ρ[i]? = some (some (.sh m))) (hq : m.ps[n]? = some q) (hr : reps G F vs row) :
    Rel G B F0 F (ρ.set i (some (.sh (⟨m.p, m.ps, m.a.set n row⟩ : Mxo α)))) σ (upd H q (.lst vs)) := by
  obtain ⟨e, h1, h2⟩ := R.mx h
  have qm := List.mem_of_getElem? hq
  have qp : q ≠ m.p := fun z => h1.ne (by rw [← z]; exact qm)
  have ok : MxOk G F (upd H q (.lst vs)) (.ref m.p) (⟨m.p, m.ps, m.a.set n row⟩ : Mxo α) := by
    refine ⟨rfl, by show upd H q (.lst vs) m.p = _; rw [upd_ne (Ne.symm qp)]; exact h1.top, ?_, h1.nd, h1.ne⟩
    have go : ∀ {ps : List Addr} {a : List (List α)} {n : Nat}, All2 (fun q (r : List α) => ∃ vs, H q = some (.lst vs) ∧ reps G F vs r) ps a → ps.Nodup → ps[n]? = some q →
        All2 (fun q' (r : List α) => ∃ us, (upd H q (.lst vs)) q' = some (.lst us) ∧ reps G F us r) ps (a.set n row) := by
      intro ps a n h
      induction h generalizing n with
      | nil => intro _ e; simp at e
      | cons r t ih =>
        rename_i c d l m'
        intro nd e
        have nd2 := List.nodup_cons.mp nd
        cases n with
        | zero =>
          have : c = q := by simpa using e
          subst this
          refine .cons ⟨vs, upd_same, hr⟩ (t.impm fun a b ha ⟨us, r1, r2⟩ => ⟨us, ?_, r2⟩)
          rw [upd_ne (fun z => nd2.1 (by rw [← z]; exact ha))]
          exact r1
        | succ n =>
          have e' : l[n]? = some q := by simpa using e
          obtain ⟨us, r1, r2⟩ := r
          refine .cons ⟨us, ?_, r2⟩ (ih nd2.2 e')
          rw [upd_ne (fun z => nd2.1 (by rw [z]; exact List.mem_of_getElem? e'))]
          exact r1
    exact go h1.all h1.nd hq
  have fpo : ∀ b, Fp H (some (.sh m)) (some (.ref m.p)) b ↔ b ∈ m.p :: m.ps := fun b => ⟨fun ⟨v, ev, f⟩ => by cases ev; rw [show Sh.fp (α := Mxo α) H _ = _ from h1.fp] at f; exact f, fun f => ⟨_, rfl, by rw [show Sh.fp (α := Mxo α) H _ = _ from h1.fp]; exact f⟩⟩
  refine R.mod h e (fun b o nf z => ?_) ⟨_, rfl, ok, fun b hb => ?_⟩ fun b f => .inl ?_
  · rw [upd_ne (fun w => nf ((fpo b).mpr (by rw [w]; exact List.mem_cons_of_mem _ qm)))]
    exact z
  · rw [show Sh.fp (α := Mxo α) _ _ = _ from ok.fp] at hb
    exact h2 b hb
  · obtain ⟨v, ev, f⟩ := f
    cases ev
    rw [show Sh.fp (α := Mxo α) _ _ = _ from ok.fp] at f
    exact (fpo b).mpr f
def EvMx (G : Gb) (B : Hp) (E : XK) (ρ : Evr) (te : TE) (m : M (List (List α))) : Prop := ∀ (F0 F : Hp) (σ : L2.St) (H : Hp) (Q : VK), Rel G B F0 F ρ σ H →
  m.P (fun a => ∀ (F' : Hp) (p : Addr) (ps : List Addr) (H' : Hp), Ext F H F' H' → Same F' H' → MxOk G F' H' (.ref p) ⟨p, ps, a⟩ → (∀ b, b ∈ p :: ps → H b = none ∧ F' b = none) → Q (.ref p) H') (Xc G B E) → te σ H Q
theorem run_asgMx {m : M (List (List α))} {k : List (List α) → M Ω} (he : EvMx G B E ρ te m) (hk : ∀ p ps a, Run G B E post (ρ.set i (some (.sh (⟨p, ps, a⟩ : Mxo α)))) rest (k a)) : Run G B E post ρ (tSeq (tAsg te (gName i)) rest) (m.b k) := fun F0 F σ H D R q =>
  he F0 F σ H _ R ((M.P_b.mp q).imp (fun a q F' p ps H' e s ok fr => by
    have R1 := R.ext e s
    refine hk p ps a F0 F' _ H' D (R1.setv ⟨_, rfl, ok, fun b hb => ?_⟩ fun b f j t y _ hj hy g => ?_) q
    · rw [show Sh.fp (α := Mxo α) _ _ = _ from ok.fp] at hb
      exact ⟨R.sB.free (fr b hb).1, (fr b hb).2⟩
    · obtain ⟨v, ev, f⟩ := f
      cases ev
      rw [show Sh.fp (α := Mxo α) _ _ = _ from ok.fp] at f
      exact R.freshE (fr b f).1 e.h j t y hj hy g) fun _ x => x)
theorem em_lc {γ : Type} {per : Bool} {wi : L2.TI} {bind : γ → Evr → Evr} {m : M (List γ)} {tt : TT} {t : γ → M Bool} {e2 : γ → M (List α)} (hw : EvW G B E per ρ wi g ts bind m) (ht : ∀ x, EvT G B E (bind x (wipeE ρ ts)) tt (t x)) (h2 : ∀ x, EvN G B E (bind x (wipeE ρ ts)) tb (e2 x)) :
    EvMx G B E ρ (tLc wi g tt tb ts) (m.b fun xs => .chk (xs.length ≤ sizeLine) (M.lc t e2 xs)) := fun F0 F σ H Q R q => hw F0 F σ H _ R ((M.P_b.mp q).imp (fun xs q F1 H1 J x1 s1 wk D nD => by
  obtain ⟨cl, q⟩ := M.P_chk.mp q
  have R1 := R.ext x1 s1
  have hBD : B D = none := R1.sB.free nD
  refine ⟨fun i k H2 => k = xs.length - i ∧ i ≤ xs.length ∧ ∃ (F2 : Hp) (ps : List Addr) (a : List (List α)), Rel G B F0 F2 (wipeE ρ ts) (wipe σ ts) H2 ∧ Ext F1 H1 F2 H2 ∧ MxOk G F2 H2 (.ref D) ⟨D, ps, a⟩ ∧ (∀ b, b ∈ D :: ps → H1 b = none ∧ F2 b = none) ∧ ps.length ≤ i ∧
    (M.lc t e2 (xs.drop i)).P (fun r => ∀ (F' : Hp) (p : Addr) (ps' : List Addr) (H' : Hp), Ext F H F' H' → Same F' H' → MxOk G F' H' (.ref p) ⟨p, ps', a ++ r⟩ → (∀ b, b ∈ p :: ps' → H b = none ∧ F' b = none) → Q (.ref p) H') (Xc G B E), ⟨xs.length, by simp, Nat.zero_le _, F1, [], [], ?_, .new nD, ⟨rfl, upd_same, .nil, List.nodup_nil, (fun z => nomatch z)⟩, (fun b f => ?_), Nat.zero_le _, ?_⟩, ?_⟩
  · exact (R1.wipe ts).side hBD (s1.free nD) ((R1.wipe ts).fresh nD)
  · rcases List.mem_cons.mp f with rfl | f
    · exact ⟨nD, s1.free nD⟩
    · cases f
  · rw [List.drop_zero]
    exact q
  rintro i k H2 ⟨rfl, hi, F2, ps, a, R2, x2, ok, fr, hy, q2⟩
  obtain ⟨w1, w2⟩ := wk i F0 F2 _ _ H2 ⟨x2.f, fun _ => x2.h⟩ R2
  by_cases hlt : i < xs.length
  · have hx : xs[i]? = some xs[i] := List.getElem?_eq_getElem hlt
    obtain ⟨g1, g2⟩ := w2 xs[i] hx
    rw [List.drop_eq_getElem_cons hlt] at q2
    refine .inr ⟨g1, fun H3 => ∃ m', m' < xs.length - i ∧ (m' = xs.length - (i + 1) ∧ i + 1 ≤ xs.length ∧ ∃ (F2 : Hp) (ps : List Addr) (a : List (List α)), Rel G B F0 F2 (wipeE ρ ts) (wipe σ ts) H3 ∧ Ext F1 H1 F2 H3 ∧ MxOk G F2 H3 (.ref D) ⟨D, ps, a⟩ ∧ (∀ b, b ∈ D :: ps → H1 b = none ∧ F2 b = none) ∧ ps.length ≤ i + 1 ∧
      (M.lc t e2 (xs.drop (i + 1))).P (fun r => ∀ (F' : Hp) (p : Addr) (ps' : List Addr) (H' : Hp), Ext F H F' H' → Same F' H' → MxOk G F' H' (.ref p) ⟨p, ps', a ++ r⟩ → (∀ b, b ∈ p :: ps' → H b = none ∧ F' b = none) → Q (.ref p) H') (Xc G B E)), fun H3 z => z, fun v H3 hyld => g2 v H3 hyld _ fun F3 σ3 H4 x3 ws R3 => ⟨ws.trans (wipe_idem σ ts), ?_⟩⟩
    have hm : xs.length - (i + 1) < xs.length - i := by omega
    refine (ht xs[i]).go R3 q2 fun c F4 H5 x4 R4 q3 => ?_
    have x24 := x3.trans x4
    have Rw : ∀ {Fx Hx : Hp}, Ext F2 H2 Fx Hx → Same Fx Hx → Rel G B F0 Fx (wipeE ρ ts) (wipe σ ts) Hx := fun ex sx => R2.ext ex sx
    have okx : ∀ {Fx Hx : Hp}, Ext F2 H2 Fx Hx → MxOk G Fx Hx (.ref D) (⟨D, ps, a⟩ : Mxo α) := fun ex => (Sh.keep (α := Mxo α) ok ex.f fun b o _ z => ex.h _ _ z).1
    have frx : ∀ {Fx Hx : Hp}, Ext F2 H2 Fx Hx → ∀ b, b ∈ D :: ps → H1 b = none ∧ Fx b = none := fun ex b f => by
      obtain ⟨o, ho⟩ := Sh.there (α := Mxo α) ok (show b ∈ fpMx H2 (.ref D) by rw [ok.fp]; exact f)
      exact ⟨(fr b f).1, ex.non ho (fr b f).2⟩
    cases c with
    | true =>
      rw [if_pos rfl] at q3
      refine iteT ((h2 xs[i]).go R4 q3 fun l F6 d o H7 x6 n1 n2 n3 n4 R6 q5 => ?_)
      obtain ⟨vs, rfl, n4⟩ := n4
      have x26 := x24.trans x6
      have rb := okx x26
      have n1' : H1 d = none := (x2.trans x24).h.free n1
      have n2' : H2 d = none := x24.h.free n1
      have nd : d ∉ D :: ps := fun z => by
        obtain ⟨o, ho⟩ := Sh.there (α := Mxo α) ok (show d ∈ fpMx H2 (.ref D) by rw [ok.fp]; exact z)
        rw [n2'] at ho
        cases ho
      refine ⟨ps.map V.ref, rb.top, by rw [List.length_map]; omega, _, hm, rfl, hlt, F6, ps ++ [d], a ++ [l], ?_, ?_, ⟨rfl, ?_, ?_, ?_, ?_⟩, fun b f => ?_, by rw [List.length_append]; exact Nat.succ_le_succ hy, ?_⟩
      · have R7 := Rw x26 R6.sF
        have fD := (frx x26 D List.mem_cons_self).2
        exact R7.side hBD fD (fun j s x hs hx f => (R1.wipe ts).fresh nD j s x hs hx (Fp.lift ((R1.wipe ts).sl j s x hs hx) (fun b o _ z => (x2.trans x26).h _ _ z) f))
      · have x17 := x2.trans x26
        exact ⟨x17.f, fun b o hb => by rw [upd_ne (ne_of_none hb nD)]; exact x17.h _ _ hb, x17.n⟩
      · show upd _ _ _ D = _
        rw [upd_same, List.map_append]
        rfl
      · refine All2.snoc (rb.all.impm fun q r hq ⟨us, r1, r2⟩ => ⟨us, ?_, r2⟩) ⟨vs, ?_, n4⟩
        · rw [upd_ne (fun z => ok.ne (by show D ∈ ps; rw [← z]; exact hq))]
          exact r1
        · rw [upd_ne (fun z => nd (by rw [z]; exact List.mem_cons_self))]
          exact n3
      · exact List.nodup_append.mpr ⟨ok.nd, (by simp), fun x hx y hy2 => by rw [List.mem_singleton.mp hy2]; exact fun z => nd (List.mem_cons_of_mem _ (by rw [← z]; exact hx))⟩
      · intro z
        rcases List.mem_append.mp z with z | z
        · exact ok.ne z
        · exact nd (by rw [← List.mem_singleton.mp z]; exact List.mem_cons_self)
      · rcases List.mem_cons.mp f with f | f
        · rw [f]; exact frx x26 D List.mem_cons_self
        · rcases List.mem_append.mp f with f | f
          · exact frx x26 b (List.mem_cons_of_mem _ f)
          · rw [List.mem_singleton.mp f]; exact ⟨n1', n2⟩
      · refine (M.P_b.mp (show ((M.lc t e2 (xs.drop (i + 1))).b fun ys => .ok (l :: ys)).P _ _ from q5)).imp (fun r f F' p ps' H' a1 a2 a3 a4 => f F' p ps' H' a1 a2 ?_ a4) fun _ x => x
        rw [List.append_assoc] at a3
        exact a3
    | false =>
      refine iteF ?_
      exact ⟨_, hm, rfl, hlt, F4, ps, a, Rw x24 R4.sF, x2.trans x24, okx x24, frx x24, Nat.le_succ_of_le hy, q3⟩
  · have e : i = xs.length := by omega
    subst e
    rw [List.drop_length] at q2
    have x12 := x1.trans x2
    exact .inl ⟨w1 (Nat.le_refl _), q2 F2 D ps H2 x12 R2.sF (by rw [List.append_nil]; exact ok) fun b f => ⟨x1.h.free (fr b f).1, (fr b f).2⟩⟩) fun _ x => x)
open Classical in
theorem Rel.freezeM {F0 F H : Hp} {σ : L2.St} {m : Mxo α} (R : Rel G B F0 F ρ σ H) (hi : ρ[i]? = some (some (.sh m))) : ∃ F', Rel G B F0 F' (ρ.set i (some (.fz m.a))) σ H := by
  obtain ⟨e, h1, h3⟩ := R.mx hi
  let F' : Hp := fun b => if b ∈ m.p :: m.ps then H b else F b
  have in' : ∀ {b}, b ∈ m.p :: m.ps → F' b = H b := fun f => if_pos f
  have out' : ∀ {b}, b ∉ m.p :: m.ps → F' b = F b := fun f => if_neg f
  have sf : Same F F' := fun b o e => by
    by_cases f : b ∈ m.p :: m.ps
    · rw [(h3 b f).2] at e; cases e
    · rw [out' f]; exact e
  refine ⟨F', R.freezeG hi e sf (fun b o e => ?_) (fun b h q => ?_) ⟨_, rfl, m.p, _, rfl, by rw [in' List.mem_cons_self]; exact h1.top, ?_⟩ rfl⟩
  · by_cases f : b ∈ m.p :: m.ps
    · rw [in' f] at e; exact e
    · rw [out' f] at e; exact R.sF _ _ e
  · by_cases f : b ∈ m.p :: m.ps
    · exact ⟨_, rfl, by rw [show Sh.fp (α := Mxo α) H _ = _ from h1.fp]; exact f⟩
    · rw [out' f] at q; exact absurd h q
  · have go : ∀ {ps : List Addr} {a : List (List α)}, All2 (fun q (r : List α) => ∃ vs, H q = some (.lst vs) ∧ reps G F vs r) ps a → (∀ q ∈ ps, q ∈ m.ps) → reps G F' (ps.map V.ref) a := by
      intro ps a h
      induction h with
      | nil => exact fun _ => .nil
      | cons r t ih =>
        intro k
        obtain ⟨vs, r1, r2⟩ := r
        exact .cons ⟨_, vs, rfl, by rw [in' (List.mem_cons_of_mem _ (k _ List.mem_cons_self))]; exact r1, reps_mono sf r2⟩ (ih fun q hq => k q (List.mem_cons_of_mem _ hq))
    exact go h1.all fun q hq => hq
theorem run_freezeM {t : TS} {mp : Addr} {mps : List Addr} {ma_ : List (List α)} {mm : M Ω} (h : ρ[i]? = some (some (.sh (⟨mp, mps, ma_⟩ : Mxo α)))) (k : Run G B E post (ρ.set i (some (.fz ma_))) t mm) : Run G B E post ρ t mm := fun F0 F σ H D R q => by
  obtain ⟨F', R'⟩ := R.freezeM h
  exact k F0 F' σ H D R' q
theorem run_mxAug {mp : Addr} {mps : List Addr} {ma_ : List (List Int)} {f : Int → Int → Int} {m1 m2 m3 : M Int} {k : Int → Nat → List Int → Int → Nat → Int → Int → M Ω} {t1 t2 t3 : TE} {d1 d2 d3 : Md} (h : ρ[i]? = some (some (.sh (⟨mp, mps, ma_⟩ : Mxo Int)))) (h1 : Ev G B E d1 ρ t1 m1) (h2 : Ev G B E d2 ρ t2 m2) (h3 : Ev G B E d3 ρ t3 m3)
    (hk : ∀ r n row c j x y, Run G B E post (ρ.set i (some (.sh (⟨mp, mps, ma_.set n (row.set j (f x y))⟩ : Mxo Int)))) rest (k r n row c j x y)) :
    Run G B E post ρ (tSeq (tAugS (tOp (rIxL G.K) (tVar i) t1) t2 t3 (rIxL G.K) (ipI f) rSetL) rest)
      (m1.b fun r => (M.get (ixN ma_.length r)).b fun n => (M.get ma_[n]?).b fun row => m2.b fun c => (M.get (ixN row.length c)).b fun j => (M.get row[j]?).b fun x => m3.b fun y => k r n row c j x y) := fun F0 F σ H D R q => by
  obtain ⟨e, ok, hf⟩ := R.mx h
  refine ⟨_, e, h1.go R q fun r F1 u1 H1 e1 r1 R1 q => ?_⟩
  obtain ⟨n, en, q⟩ := M.P_get.mp (M.P_b.mp q)
  obtain ⟨row, er, q⟩ := M.P_get.mp (M.P_b.mp q)
  have ok1 := (Sh.keep (α := Mxo Int) ok e1.f fun b o _ z => e1.h _ _ z).1
  obtain ⟨pq, eq_, vs, hv, hr⟩ := ok1.all.get' er
  have hl := ok1.all.len
  have at1 : atI (mps.map V.ref) r = some (.ref pq) := by
    unfold atI
    rw [List.length_map, hl, en]
    show (mps.map V.ref)[n]? = _
    rw [List.getElem?_map, eq_]
    rfl
  refine ⟨mp, _, r, _, rfl, r1, .of ok1.top, at1, h2.go R1 q fun c F2 u2 H2 e2 r2 R2 q => ?_⟩
  obtain ⟨j, ej, q⟩ := M.P_get.mp (M.P_b.mp q)
  obtain ⟨x, ex, q⟩ := M.P_get.mp (M.P_b.mp q)
  have ok2 := (Sh.keep (α := Mxo Int) ok1 e2.f fun b o _ z => e2.h _ _ z).1
  obtain ⟨w, ew, rw_⟩ := hr.get' ex
  have hl2 := hr.len
  have at2 : atI vs c = some w := by
    unfold atI
    rw [hl2, ej]
    exact ew
  refine ⟨pq, vs, c, w, rfl, r2, .of (e2.h _ _ hv), at2, h3.go R2 q fun y F3 u3 H3 e3 r3 R3 q => ?_⟩
  refine ⟨x, y, rw_, r3, pq, vs, c, j, rfl, r2, e3.h _ _ (e2.h _ _ hv), by rw [hl2]; exact ej, hk r n row c j x y F0 F3 σ _ D ?_ q⟩
  exact R3.mxSet h eq_ (All2.set (R := rep G F3) (a := V.int (f x y)) (b := f x y) (show rep G F3 (V.int (f x y)) (f x y) from rfl) j (reps_mono (e2.f.trans e3.f) hr))
/-- a value as it is -/
structure Ad where
  v : V
instance : Rp Ad := ⟨fun _ _ v a => v = a.v, fun _ h => h⟩
instance : Sc Ad := ⟨Ad.v, fun _ _ _ _ => Iff.rfl⟩
theorem EvW.map {γ δ : Type} {per : Bool} {wi : L2.TI} {bind : γ → Evr → Evr} {bind' : δ → Evr → Evr} {f : δ → γ} {m : M (List δ)} (hw : EvW G B E per ρ wi g ts bind (m.b fun xs => .ok (xs.map f))) (hb : ∀ n r, bind (f n) r = bind' n r) : EvW G B E per ρ wi g ts bind' m := fun F0 F σ H R RR q =>
  hw F0 F σ H R RR (M.P_b.mpr (q.imp (fun xs k F' H' J e s wk => k F' H' J e s fun i F0 F ρ σ H w R => by
    obtain ⟨w1, w2⟩ := wk i F0 F ρ σ H w R
    refine ⟨fun h => w1 (by rw [List.length_map]; exact h), fun x hx => ?_⟩
    obtain ⟨g1, g2⟩ := w2 (f x) (by rw [List.getElem?_map, hx]; rfl)
    exact ⟨g1, fun v H' y Qt k => g2 v H' y Qt (by rw [hb]; exact k)⟩) fun _ x => x))
abbrev lnAt (ps : List Addr) (n : Nat) : Ad := ⟨.ref (ps.getD n 0)⟩
theorem lines_all (ps : List Addr) : ps.map V.ref = (List.range ps.length).map fun n => (lnAt ps n).v := by
  refine List.ext_getElem? fun k => ?_
  rw [List.getElem?_map, List.getElem?_map]
  by_cases h : k < ps.length
  · rw [List.getElem?_eq_getElem h, List.getElem?_range h]
    simp [lnAt, List.getD_eq_getElem?_getD, List.getElem?_eq_getElem h]
  · rw [List.getElem?_eq_none (by omega), List.getElem?_eq_none (by rw [List.length_range]; omega)]
    rfl
theorem en_sliceMx {mp : Addr} {mps : List Addr} {ma_ : List (List α)} {ml : M Int} (h : ρ[i]? = some (some (.sh (⟨mp, mps, ma_⟩ : Mxo α)))) (hl : Ev G B E md ρ tl ml) : EvN G B E ρ (tSl (rSlL G.K) (tVar i) (tPart tl) tNoPart) ((ml.b fun l => .ok (cutL (List.range ma_.length) (some l) none)).b fun xs => .ok (xs.map (lnAt mps))) := fun F0 F σ H Q R q => by
  obtain ⟨e, ok, hf⟩ := R.mx h
  rw [M.b_assoc] at q
  refine ⟨_, e, hl.go R q fun l F2 u H2 e2 r2 R2 q => ⟨l, r2, mp, _, rfl, .of ((Sh.keep (α := Mxo α) ok e2.f fun b o _ z => e2.h _ _ z).1.top), fun d nd => ?_⟩⟩
  refine q F2 d _ _ (e2.trans (.new nd)) (R2.sF.trans (same_upd nd)) (e2.h.free nd) (R2.sF.free nd) upd_same ⟨_, rfl, ?_⟩
  rw [lines_all, ok.all.len]
  have : ∀ ns : List Nat, All2 (fun v (n : Nat) => v = (lnAt mps n).v) (ns.map fun n => (lnAt mps n).v) ns := fun ns => All2.of_map (R := fun v (n : Nat) => v = (lnAt mps n).v) (f := fun n => (lnAt mps n).v) (fun _ => rfl) ns
  have h3 := cut_all2 (lo := some l) (hi := none) (this (List.range ma_.length))
  have go : ∀ {vs : List V} {ns : List Nat}, All2 (fun v (n : Nat) => v = (lnAt mps n).v) vs ns → reps G F2 vs (ns.map (lnAt mps)) := by
    intro vs ns h
    induction h with
    | nil => exact .nil
    | cons r t ih => exact .cons r ih
  exact go h3
theorem ew_mxFrom {mp : Addr} {mps : List Addr} {ma_ : List (List α)} {ml : M Int} (h : ρ[i]? = some (some (.sh (⟨mp, mps, ma_⟩ : Mxo α)))) (hl : Ev G B E md ρ tl ml) : EvW G B E true ρ (iList G.K (tSl (rSlL G.K) (tVar i) (tPart tl) tNoPart)) (gName j) [j] (fun (n : Nat) r => r.set j (some (.fz (lnAt mps n)))) (ml.b fun l => .ok (cutL (List.range ma_.length) (some l) none)) :=
  EvW.map (f := lnAt mps) (ew_F (EvN.F (en_sliceMx h hl)) tg_F) fun _ _ => rfl
theorem ev_rowIx {mp : Addr} {mps : List Addr} {ma_ : List (List Int)} {n : Nat} {m1 : M Int} {t1 : TE} (h : ρ[i]? = some (some (.sh (⟨mp, mps, ma_⟩ : Mxo Int)))) (hj : ρ[j]? = some (some (.fz (lnAt mps n)))) (h1 : Ev G B E md ρ t1 m1) : Ev G B E mr ρ (tOp (rIxL G.K) (tVar j) t1) (m1.b fun c => (M.get ma_[n]?).b fun row => M.get (atI row c)) := fun F0 F σ H Q R q => by
  obtain ⟨e, ok, hf⟩ := R.mx h
  obtain ⟨x, ex, v, rfl, rv⟩ := R.at hj
  refine ⟨v, ex, h1.go R q fun c F1 u H1 e1 r1 R1 q => ?_⟩
  obtain ⟨row, er, q⟩ := M.P_get.mp (M.P_b.mp q)
  obtain ⟨y, ey, q⟩ := M.P_get.mp q
  have ok1 := (Sh.keep (α := Mxo Int) ok e1.f fun b o _ z => e1.h _ _ z).1
  obtain ⟨pq, eq_, vs, hv, hr⟩ := ok1.all.get' er
  have ev : v = .ref pq := by rw [show v = _ from rv]; simp [lnAt, List.getD_eq_getElem?_getD, eq_]
  unfold atI at ey
  cases ej : ixN row.length c with
  | none => rw [ej] at ey; cases ey
  | some k =>
    rw [ej] at ey
    obtain ⟨w, ew, rw_⟩ := hr.get' (show row[k]? = some y from ey)
    exact ⟨pq, vs, c, w, ev, r1, .of hv, by unfold atI; rw [hr.len, ej]; exact ew, q F1 _ H1 e1 R1.sF rw_⟩
theorem run_rowSet {mp : Addr} {mps : List Addr} {ma_ : List (List Int)} {n : Nat} {ma mi : M Int} {ti : TE} {k : Int → Int → List Int → Nat → M Ω} (h : ρ[i]? = some (some (.sh (⟨mp, mps, ma_⟩ : Mxo Int)))) (hj : ρ[j]? = some (some (.fz (lnAt mps n)))) (he : Ev G B E md ρ te ma) (hi : Ev G B E md' ρ ti mi)
    (hk : ∀ a c row l, Run G B E post (ρ.set i (some (.sh (⟨mp, mps, ma_.set n (row.set l a)⟩ : Mxo Int)))) rest (k a c row l)) :
    Run G B E post ρ (tSeq (tAsg te (gSub (tVar j) ti rSetL)) rest) (ma.b fun a => mi.b fun c => (M.get ma_[n]?).b fun row => (M.get (ixN row.length c)).b fun l => k a c row l) := fun F0 F σ H D R q => by
  obtain ⟨e, ok, hf⟩ := R.mx h
  obtain ⟨x, ex, v, rfl, rv⟩ := R.at hj
  refine he.go R q fun a F1 u H1 e1 r1 R1 q => ⟨v, ex, hi.go R1 q fun c F2 u2 H2 e2 r2 R2 q => ?_⟩
  obtain ⟨row, er, q⟩ := M.P_get.mp (M.P_b.mp q)
  obtain ⟨l, el, q⟩ := M.P_get.mp (M.P_b.mp q)
  have e12 := e1.trans e2
  have ok1 := (Sh.keep (α := Mxo Int) ok e12.f fun b o _ z => e12.h _ _ z).1
  obtain ⟨pq, eq_, vs, hv, hr⟩ := ok1.all.get' er
  have ev : v = .ref pq := by rw [show v = _ from rv]; simp [lnAt, List.getD_eq_getElem?_getD, eq_]
  refine ⟨pq, vs, c, l, ev, r2, hv, by rw [hr.len]; exact el, hk a c row l F0 F2 σ _ D ?_ q⟩
  exact R2.mxSet h eq_ (All2.set (R := rep G F2) (a := u) (b := a) (show rep G F2 u a from r1) l hr)
end
end Tw
set_option Elab.async false
set_option linter.all false
set_option maxRecDepth 100000
set_option maxHeartbeats 4000000
namespace Tw
theorem nodup_le {α : Type} [DecidableEq α] : ∀ {s l : List α}, s.Nodup → (∀ x ∈ s, x ∈ l) → s.length ≤ l.length
  | [], _, _, _ => Nat.zero_le _
  | a :: r, l, h, k => by
    have h1 := List.nodup_cons.mp h
    have h2 := nodup_le (l := l.erase a) h1.2 fun x hx => (List.mem_erase_of_ne (fun e => h1.1 (by rw [← e]; exact hx))).mpr (k x (List.mem_cons_of_mem _ hx))
    have ha := k a List.mem_cons_self
    rw [List.length_erase_of_mem ha] at h2
    have := List.length_pos_of_mem ha
    rw [List.length_cons]
    omega
def itr {α : Type} (f : α → α) : Nat → α → α
  | 0, x => x
  | n + 1, x => f (itr f n x)
theorem itr_add {α : Type} (f : α → α) (x : α) (m : Nat) : ∀ n, itr f (n + m) x = itr f n (itr f m x)
  | 0 => by rw [Nat.zero_add]; rfl
  | n + 1 => by rw [show n + 1 + m = (n + m) + 1 by omega]; show f (itr f (n + m) x) = _; rw [itr_add f x m n]; rfl
section
variable {α : Type} [DecidableEq α] {f : α → α} {L : List α}
/-- f maps L into itself, no two to one -/
structure Inj (f : α → α) (L : List α) : Prop where
  to : ∀ x ∈ L, f x ∈ L
  inj : ∀ x ∈ L, ∀ y ∈ L, f x = f y → x = y
theorem Inj.itr (h : Inj f L) {x : α} (hx : x ∈ L) : ∀ n, itr f n x ∈ L
  | 0 => hx
  | n + 1 => h.to _ (h.itr hx n)
theorem Inj.back (h : Inj f L) {x : α} (hx : x ∈ L) : ∀ (i n : Nat), Tw.itr f (i + n) x = Tw.itr f i x → Tw.itr f n x = x
  | 0, n, e => by rw [Nat.zero_add] at e; exact e
  | i + 1, n, e => by
    refine h.back hx i n ?_
    refine h.inj _ (h.itr hx _) _ (h.itr hx _) ?_
    rw [show i + 1 + n = (i + n) + 1 by omega] at e
    exact e
theorem nodup_of_inj {β : Type} (g : Nat → β) (n : Nat) (h : ∀ i j, i < j → j < n → g i ≠ g j) : ((List.range n).map g).Nodup := by
  rw [List.nodup_iff_pairwise_ne, List.pairwise_map]
  refine List.Pairwise.imp_of_mem (fun {a b} ha hb hab => ?_) (List.pairwise_lt_range (n := n))
  exact h a b hab (List.mem_range.mp hb)
theorem Inj.period (h : Inj f L) {x : α} (hx : x ∈ L) : ∃ k, 1 ≤ k ∧ k ≤ L.length ∧ Tw.itr f k x = x ∧ ∀ j, 1 ≤ j → j < k → Tw.itr f j x ≠ x := by
  classical
  have ex : ∃ k, 1 ≤ k ∧ k ≤ L.length ∧ Tw.itr f k x = x := by
    refine Classical.byContradiction fun no => ?_
    have nd := nodup_of_inj (fun i => Tw.itr f i x) (L.length + 1) fun i j hij hj e => by
      refine no ⟨j - i, by omega, by omega, h.back hx i (j - i) ?_⟩
      rw [show i + (j - i) = j by omega]
      exact e.symm
    have := nodup_le nd fun y hy => by
      obtain ⟨i, _, rfl⟩ := List.mem_map.mp hy
      exact h.itr hx i
    rw [List.length_map, List.length_range] at this
    omega
  have key : ∀ n, (∃ k, k ≤ n ∧ 1 ≤ k ∧ k ≤ L.length ∧ Tw.itr f k x = x) → ∃ k, 1 ≤ k ∧ k ≤ L.length ∧ Tw.itr f k x = x ∧ ∀ j, 1 ≤ j → j < k → Tw.itr f j x ≠ x := by
    intro n
    induction n with
    | zero => rintro ⟨k, h1, h2, _⟩; omega
    | succ n ih =>
      rintro ⟨k, h1, h2, h3, h4⟩
      by_cases q : ∃ j, j < k ∧ 1 ≤ j ∧ Tw.itr f j x = x
      · obtain ⟨j, q1, q2, q3⟩ := q
        exact ih ⟨j, by omega, q2, by omega, q3⟩
      · exact ⟨k, h2, h3, h4, fun j j1 j2 e => q ⟨j, j2, j1, e⟩⟩
  obtain ⟨k, h1, h2, h3⟩ := ex
  exact key k ⟨k, Nat.le_refl _, h1, h2, h3⟩
/-- the orbit, once round -/
def orb (f : α → α) (x : α) (k : Nat) : List α := (List.range k).map fun i => itr f i x
open Classical in
noncomputable def per (f : α → α) (L : List α) (x : α) : Nat := if h : ∃ k, 1 ≤ k ∧ k ≤ L.length ∧ itr f k x = x ∧ ∀ j, 1 ≤ j → j < k → itr f j x ≠ x then h.choose else 0
theorem Inj.perd (h : Inj f L) {x : α} (hx : x ∈ L) : 1 ≤ per f L x ∧ per f L x ≤ L.length ∧ Tw.itr f (per f L x) x = x ∧ ∀ j, 1 ≤ j → j < per f L x → Tw.itr f j x ≠ x := by
  unfold Tw.per
  rw [dif_pos (h.period hx)]
  exact (h.period hx).choose_spec
noncomputable def face (f : α → α) (L : List α) (x : α) : List α := orb f x (per f L x)
theorem Inj.face_sub (h : Inj f L) {x : α} (hx : x ∈ L) : ∀ y ∈ face f L x, y ∈ L := fun y hy => by
  obtain ⟨i, _, rfl⟩ := List.mem_map.mp hy
  exact h.itr hx i
theorem itr_mod {x : α} {k : Nat} (e : itr f k x = x) : ∀ n, itr f (n * k) x = x
  | 0 => by rw [Nat.zero_mul]; rfl
  | n + 1 => by rw [Nat.add_mul, Nat.one_mul, itr_add, e, itr_mod e n]
theorem Inj.mem_face (h : Inj f L) {x : α} (hx : x ∈ L) (n : Nat) : Tw.itr f n x ∈ face f L x := by
  obtain ⟨h1, h2, h3, h4⟩ := h.perd hx
  refine List.mem_map.mpr ⟨n % per f L x, List.mem_range.mpr (Nat.mod_lt _ (by omega)), ?_⟩
  have e : n = n % per f L x + n / per f L x * per f L x := by rw [Nat.mul_comm]; exact (Nat.mod_add_div n _).symm
  show Tw.itr f (n % per f L x) x = Tw.itr f n x
  conv => rhs; rw [e, itr_add, itr_mod h3]
theorem Inj.face_iff (h : Inj f L) {x : α} (hx : x ∈ L) {y : α} : y ∈ face f L x ↔ ∃ n, y = Tw.itr f n x := by
  constructor
  · intro hy
    obtain ⟨i, _, rfl⟩ := List.mem_map.mp hy
    exact ⟨i, rfl⟩
  · rintro ⟨n, rfl⟩
    exact h.mem_face hx n
/-- one comes back -/
theorem Inj.symm (h : Inj f L) {x y : α} (hx : x ∈ L) (hy : y ∈ face f L x) : x ∈ face f L y := by
  obtain ⟨n, rfl⟩ := (h.face_iff hx).mp hy
  obtain ⟨h1, h2, h3, h4⟩ := h.perd hx
  have hm : n ≤ n * per f L x := Nat.le_mul_of_pos_right _ (by omega)
  refine (h.face_iff (h.itr hx n)).mpr ⟨n * per f L x - n, ?_⟩
  rw [← itr_add, show n * per f L x - n + n = n * per f L x by omega, itr_mod h3]
theorem Inj.trans (h : Inj f L) {x y z : α} (hx : x ∈ L) (hy : y ∈ face f L x) (hz : z ∈ face f L y) : z ∈ face f L x := by
  obtain ⟨n, rfl⟩ := (h.face_iff hx).mp hy
  obtain ⟨m, rfl⟩ := (h.face_iff (h.itr hx n)).mp hz
  rw [← itr_add]
  exact h.mem_face hx _
theorem Inj.same (h : Inj f L) {x y z : α} (hx : x ∈ L) (hy : y ∈ face f L x) : z ∈ face f L y ↔ z ∈ face f L x :=
  ⟨fun hz => h.trans hx hy hz, fun hz => h.trans (h.face_sub hx y hy) (h.symm hx hy) hz⟩
end
end Tw
set_option Elab.async false
set_option linter.all false
set_option maxRecDepth 100000
set_option maxHeartbeats 4000000
namespace Tw
open PySem PySem.Spec L2 TL
open PyProof.Rows hiding St
abbrev NE := Nat × Nat
def rowT (rows : RowsT) (r : Nat) : List Str := ((rows[r]?).map (·.2)).getD []
def tie? (rows : RowsT) (e : NE) : Option Str := (rowT rows e.1)[e.2]?
def allE (rows : RowsT) : List NE := (List.range rows.length).flatMap fun r => (List.range (rowT rows r).length).map fun p => (r, p)
def ties (rows : RowsT) : List Str := rows.flatMap (·.2)
def cI (e : NE) : Int × Int := ((e.1 : Int), (e.2 : Int))
theorem cI_inj {a b : NE} (h : cI a = cI b) : a = b := by
  have h1 := congrArg Prod.fst h
  have h2 := congrArg Prod.snd h
  simp only [cI] at h1 h2
  exact Prod.ext (by omega) (by omega)
theorem row_none {rows : RowsT} {r : Nat} (h : rows.length ≤ r) : rowT rows r = [] := by
  unfold rowT
  rw [List.getElem?_eq_none h]
  rfl
theorem row_some {rows : RowsT} {r : Nat} {x : Str × List Str} (h : rows[r]? = some x) : rowT rows r = x.2 := by
  unfold rowT
  rw [h]
  rfl
theorem mem_allE {rows : RowsT} {e : NE} : e ∈ allE rows ↔ e.2 < (rowT rows e.1).length := by
  unfold allE
  rw [List.mem_flatMap]
  constructor
  · rintro ⟨r, hr, h⟩
    obtain ⟨p, hp, rfl⟩ := List.mem_map.mp h
    exact List.mem_range.mp hp
  · intro h
    have hl : e.1 < rows.length := by
      refine Classical.byContradiction fun w => ?_
      rw [row_none (by omega)] at h
      simp at h
    exact ⟨e.1, List.mem_range.mpr hl, List.mem_map.mpr ⟨e.2, List.mem_range.mpr h, rfl⟩⟩
theorem allE_row {rows : RowsT} {e : NE} (h : e ∈ allE rows) : e.1 < rows.length := by
  refine Classical.byContradiction fun w => ?_
  rw [mem_allE, row_none (by omega)] at h
  simp at h
theorem allE_nodup (rows : RowsT) : (allE rows).Nodup := by
  unfold allE
  rw [List.nodup_iff_pairwise_ne, List.flatMap_def, List.pairwise_flatten]
  refine ⟨fun l hl => ?_, ?_⟩
  · obtain ⟨r, _, rfl⟩ := List.mem_map.mp hl
    rw [List.pairwise_map]
    exact (List.nodup_iff_pairwise_ne.mp List.nodup_range).imp fun h e => h (congrArg Prod.snd e)
  · rw [List.pairwise_map]
    refine (List.nodup_iff_pairwise_ne.mp List.nodup_range).imp fun h x hx y hy e => h ?_
    obtain ⟨p, _, rfl⟩ := List.mem_map.mp hx
    obtain ⟨q, _, rfl⟩ := List.mem_map.mp hy
    exact congrArg Prod.fst e
theorem tie_some {rows : RowsT} {e : NE} (h : e ∈ allE rows) : ∃ t, tie? rows e = some t := ⟨_, List.getElem?_eq_getElem (mem_allE.mp h)⟩
theorem tie_mem {rows : RowsT} {e : NE} {t : Str} (h : tie? rows e = some t) : e ∈ allE rows := mem_allE.mpr (List.getElem?_eq_some_iff.mp h).1
theorem map_get {α : Type} (l : List α) : (List.range l.length).map (fun i => l[i]?) = l.map some := by
  refine List.ext_getElem? fun i => ?_
  rw [List.getElem?_map, List.getElem?_map]
  by_cases h : i < l.length
  · rw [List.getElem?_range h, List.getElem?_eq_getElem h]
    show some (l[i]?) = some (some l[i])
    rw [List.getElem?_eq_getElem h]
  · rw [List.getElem?_eq_none (by rw [List.length_range]; omega), List.getElem?_eq_none (by omega)]
    rfl
/-- the ends' ties are the rows' ties -/
theorem allE_ties (rows : RowsT) : (allE rows).map (tie? rows) = (ties rows).map some := by
  unfold allE ties
  rw [List.map_flatMap, List.map_flatMap]
  have h1 : ∀ r, ((List.range (rowT rows r).length).map fun p => (r, p)).map (tie? rows) = (rowT rows r).map some := fun r => by
    rw [List.map_map]
    exact map_get (rowT rows r)
  simp only [h1]
  have h2 : rows = (List.range rows.length).map fun r => ((rows[r]? : Option (Str × List Str))).getD ((Str.ofString "", []) : Str × List Str) := by
    refine List.ext_getElem? fun i => ?_
    rw [List.getElem?_map]
    by_cases h : i < rows.length
    · rw [List.getElem?_range h]
      simp [h]
    · rw [List.getElem?_eq_none (by omega), List.getElem?_eq_none (by rw [List.length_range]; omega)]
      rfl
  conv => rhs; rw [h2, List.flatMap_map]
  rw [List.flatMap_def, List.flatMap_def]
  congr 1
  refine List.map_congr_left fun r hr => ?_
  have := List.mem_range.mp hr
  unfold rowT
  rw [List.getElem?_eq_getElem this]
  rfl
/-- the ends of a tie -/
def seatL (rows : RowsT) (t : Str) : List NE := (allE rows).filter fun e => decide (tie? rows e = some t)
theorem seat_len (rows : RowsT) (t : Str) : (seatL rows t).length = (ties rows).count t := by
  unfold seatL
  rw [← List.countP_eq_length_filter]
  have h1 : List.countP (fun e => decide (tie? rows e = some t)) (allE rows) = ((allE rows).map (tie? rows)).countP fun o => decide (o = some t) := by
    rw [List.countP_map]
    rfl
  rw [h1, allE_ties, List.countP_map, List.count]
  congr 1
  funext u
  show decide (some u = some t) = (u == t)
  by_cases e : u = t <;> simp [e]
theorem mem_seat {rows : RowsT} {t : Str} {e : NE} : e ∈ seatL rows t ↔ tie? rows e = some t := by
  unfold seatL
  rw [List.mem_filter, decide_eq_true_iff]
  exact ⟨fun h => h.2, fun h => ⟨tie_mem h, h⟩⟩
theorem seat_nodup (rows : RowsT) (t : Str) : (seatL rows t).Nodup := (allE_nodup rows).filter _
/-- each tie has two ends -/
def Twice (rows : RowsT) : Prop := ∀ t ∈ ties rows, (ties rows).count t = 2
theorem tie_in {rows : RowsT} {e : NE} {t : Str} (h : tie? rows e = some t) : t ∈ ties rows := by
  have : some t ∈ (allE rows).map (tie? rows) := List.mem_map.mpr ⟨e, tie_mem h, h⟩
  rw [allE_ties] at this
  obtain ⟨u, hu, e⟩ := List.mem_map.mp this
  cases e
  exact hu
theorem seat_two {rows : RowsT} (h : Twice rows) {t : Str} (ht : t ∈ ties rows) : ∃ a b, seatL rows t = [a, b] ∧ a ≠ b := by
  have h1 := seat_len rows t
  rw [h t ht] at h1
  have h2 := seat_nodup rows t
  match hs : seatL rows t with
  | [] => rw [hs] at h1; cases h1
  | [_] => rw [hs] at h1; cases h1
  | [a, b] =>
    rw [hs] at h2
    exact ⟨a, b, rfl, fun e => by rw [e] at h2; simp at h2⟩
  | _ :: _ :: _ :: _ => rw [hs] at h1; simp at h1
/-- the other end of the tie -/
def mate (rows : RowsT) (e : NE) : NE := match tie? rows e with
  | none => e
  | some t => match seatL rows t with
    | [a, b] => if a = e then b else a
    | _ => e
theorem mate_of {rows : RowsT} (h : Twice rows) {e : NE} {t : Str} (ht : tie? rows e = some t) : tie? rows (mate rows e) = some t ∧ mate rows e ≠ e ∧ ∀ d, tie? rows d = some t → d = e ∨ d = mate rows e := by
  obtain ⟨a, b, hs, ne⟩ := seat_two h (tie_in ht)
  have he : e ∈ seatL rows t := mem_seat.mpr ht
  have ha : tie? rows a = some t := mem_seat.mp (by rw [hs]; simp)
  have hb : tie? rows b = some t := mem_seat.mp (by rw [hs]; simp)
  have hd : ∀ d, tie? rows d = some t → d = a ∨ d = b := fun d hd => by
    have := mem_seat.mpr hd
    rw [hs] at this
    simpa using this
  have em : mate rows e = if a = e then b else a := by
    unfold mate
    rw [ht]
    simp only [hs]
  rw [em]
  by_cases ea : a = e
  · rw [if_pos ea]
    exact ⟨hb, fun z => ne (ea.trans z.symm), fun d w => by rcases hd d w with w | w; exact .inl (w.trans ea); exact .inr w⟩
  · rw [if_neg ea]
    have eb : e = b := by rcases hd e ht with w | w; exact absurd w.symm ea; exact w
    exact ⟨ha, ea, fun d w => by rcases hd d w with w | w; exact .inr w; exact .inl (w.trans eb.symm)⟩
theorem mate_mem {rows : RowsT} (h : Twice rows) {e : NE} (he : e ∈ allE rows) : mate rows e ∈ allE rows := by
  obtain ⟨t, ht⟩ := tie_some he
  exact tie_mem (mate_of h ht).1
theorem mate_mate {rows : RowsT} (h : Twice rows) {e : NE} (he : e ∈ allE rows) : mate rows (mate rows e) = e := by
  obtain ⟨t, ht⟩ := tie_some he
  obtain ⟨h1, h2, h3⟩ := mate_of h ht
  obtain ⟨k1, k2, k3⟩ := mate_of h h1
  rcases k3 e ht with w | w
  · exact absurd w.symm h2
  · exact w.symm
/-- round the point -/
def rot (rows : RowsT) (k : Nat) (e : NE) : NE := (e.1, (e.2 + k) % (rowT rows e.1).length)
theorem rot_mem {rows : RowsT} (k : Nat) {e : NE} (h : e ∈ allE rows) : rot rows k e ∈ allE rows := by
  have := mem_allE.mp h
  exact mem_allE.mpr (Nat.mod_lt _ (by omega))
def stp (rows : RowsT) (e : NE) : NE := rot rows 1 (mate rows e)
theorem rot_inj {rows : RowsT} {a b : NE} (ha : a ∈ allE rows) (hb : b ∈ allE rows) (h : rot rows 1 a = rot rows 1 b) : a = b := by
  have h1 : a.1 = b.1 := show (rot rows 1 a).1 = (rot rows 1 b).1 by rw [h]
  have h2 : (a.2 + 1) % (rowT rows a.1).length = (b.2 + 1) % (rowT rows b.1).length := show (rot rows 1 a).2 = (rot rows 1 b).2 by rw [h]
  have h3 := mem_allE.mp ha
  have h4 := mem_allE.mp hb
  rw [← h1] at h2 h4
  refine Prod.ext h1 ?_
  by_cases q1 : a.2 + 1 = (rowT rows a.1).length
  · by_cases q2 : b.2 + 1 = (rowT rows a.1).length
    · omega
    · rw [q1, Nat.mod_self, Nat.mod_eq_of_lt (by omega)] at h2; omega
  · by_cases q2 : b.2 + 1 = (rowT rows a.1).length
    · rw [q2, Nat.mod_self, Nat.mod_eq_of_lt (by omega)] at h2; omega
    · rw [Nat.mod_eq_of_lt (by omega), Nat.mod_eq_of_lt (by omega)] at h2; omega
theorem stp_inj {rows : RowsT} (h : Twice rows) : Inj (stp rows) (allE rows) where
  to := fun e he => rot_mem 1 (mate_mem h he)
  inj := fun a ha b hb e => by
    have := rot_inj (mate_mem h ha) (mate_mem h hb) e
    rw [← mate_mate h ha, this, mate_mate h hb]
end Tw
set_option Elab.async false
set_option linter.all false
set_option maxRecDepth 100000
set_option maxHeartbeats 4000000
namespace Tw
open PySem PySem.Spec L2 TL
open PyProof.Rows hiding St
section
variable {κ α : Type} [DecidableEq κ]
theorem dget_cons {p : κ × α} {l : List (κ × α)} {k : κ} : dget (p :: l) k = if p.1 = k then some p.2 else dget l k := by
  unfold dget
  rw [List.find?_cons]
  by_cases e : p.1 = k <;> simp [e]
theorem dget_append {l m : List (κ × α)} {k : κ} : dget (l ++ m) k = (dget l k).or (dget m k) := by
  induction l with
  | nil => rfl
  | cons p r ih =>
    rw [List.cons_append, dget_cons, dget_cons, ih]
    by_cases e : p.1 = k <;> simp [e]
theorem dget_none {l : List (κ × α)} {k : κ} : dget l k = none ↔ k ∉ l.map (·.1) := by
  unfold dget
  rw [Option.map_eq_none_iff, List.find?_eq_none]
  constructor
  · intro h w
    obtain ⟨p, hp, e⟩ := List.mem_map.mp w
    exact h p hp (decide_eq_true e)
  · intro h p hp w
    exact h (List.mem_map.mpr ⟨p, hp, of_decide_eq_true w⟩)
theorem any_key {l : List (κ × α)} {k : κ} : (l.any fun p => decide (p.1 = k)) = true ↔ k ∈ l.map (·.1) := by
  rw [List.any_eq_true, List.mem_map]
  exact ⟨fun ⟨p, h1, h2⟩ => ⟨p, h1, of_decide_eq_true h2⟩, fun ⟨p, h1, h2⟩ => ⟨p, h1, decide_eq_true h2⟩⟩
theorem dget_dput (l : List (κ × α)) (k k' : κ) (a : α) : dget (dput l k a) k' = if k = k' then some a else dget l k' := by
  unfold dput
  by_cases h : (l.any fun p => decide (p.1 = k)) = true
  · rw [if_pos h]
    have h2 := any_key.mp h
    clear h
    induction l with
    | nil => cases h2
    | cons p r ih =>
      rw [List.map_cons, dget_cons]
      by_cases e : p.1 = k
      · rw [if_pos e]
        by_cases e2 : k = k'
        · rw [if_pos e2, if_pos (e.trans e2)]
        · rw [if_neg e2, if_neg (fun w => e2 (e.symm.trans w)), dget_cons, if_neg (fun w => e2 (e.symm.trans w))]
          by_cases hr : k ∈ r.map (·.1)
          · rw [ih hr, if_neg e2]
          · have : r.map (fun p => if p.1 = k then (p.1, a) else p) = r := by
              conv => rhs; rw [← List.map_id r]
              refine List.map_congr_left fun q hq => ?_
              rw [if_neg (fun w => hr (List.mem_map.mpr ⟨q, hq, w⟩))]
              rfl
            rw [this]
      · rw [if_neg e, dget_cons]
        have hr : k ∈ r.map (·.1) := by
          rcases List.mem_cons.mp h2 with w | w
          · exact absurd w.symm e
          · exact w
        rw [ih hr]
        by_cases e2 : p.1 = k'
        · rw [if_pos e2, if_pos e2, if_neg (fun w => e (e2.trans w.symm))]
        · rw [if_neg e2, if_neg e2]
  · rw [if_neg h, dget_append]
    have hn : k ∉ l.map (·.1) := fun w => h (any_key.mpr w)
    by_cases e : k = k'
    · subst e
      rw [dget_none.mpr hn, if_pos rfl, dget_cons, if_pos rfl]
      rfl
    · rw [if_neg e, dget_cons, if_neg e]
      cases dget l k' <;> rfl
theorem dput_keys (l : List (κ × α)) (k : κ) (a : α) : (dput l k a).map (·.1) = if k ∈ l.map (·.1) then l.map (·.1) else l.map (·.1) ++ [k] := by
  unfold dput
  by_cases h : (l.any fun p => decide (p.1 = k)) = true
  · rw [if_pos h, if_pos (any_key.mp h), List.map_map]
    refine List.map_congr_left fun p hp => ?_
    show (if p.1 = k then (p.1, a) else p).1 = p.1
    split <;> rfl
  · rw [if_neg h, if_neg (fun w => h (any_key.mpr w)), List.map_append]
    rfl
theorem dput_nodup {l : List (κ × α)} {k : κ} {a : α} (h : (l.map (·.1)).Nodup) : ((dput l k a).map (·.1)).Nodup := by
  rw [dput_keys]
  split
  · exact h
  · rename_i hk
    rw [List.nodup_append]
    exact ⟨h, by simp, fun x hx y hy e => hk (by rw [show y = k by simpa using hy] at e; rw [← e]; exact hx)⟩
theorem dput_len (l : List (κ × α)) (k : κ) (a : α) : (dput l k a).length ≤ l.length + 1 := by
  have := congrArg List.length (dput_keys l k a)
  rw [List.length_map] at this
  rw [this]
  split
  · rw [List.length_map]; omega
  · rw [List.length_append, List.length_map]; simp
theorem dput_mem {l : List (κ × α)} {k : κ} {a : α} : ∀ x, x ∈ (dput l k a).map (·.1) ↔ x ∈ l.map (·.1) ∨ x = k := fun x => by
  rw [dput_keys]
  split
  · exact ⟨.inl, fun h => h.elim id fun e => by rw [e]; assumption⟩
  · rw [List.mem_append]; simp
end
theorem snoc_ind {α : Type} {p : List α → Prop} (h0 : p []) (hs : ∀ l a, p l → p (l ++ [a])) (l : List α) : p l := by
  have : ∀ l : List α, p l.reverse := fun l => by
    induction l with
    | nil => exact h0
    | cons a r ih => rw [List.reverse_cons]; exact hs _ a ih
  have h := this l.reverse
  rw [List.reverse_reverse] at h
  exact h
section
variable {κ α : Type} [DecidableEq κ]
def grp (L : List (κ × α)) : List (κ × List α) := L.foldl (fun d p => dapp d p.1 p.2) []
theorem grp_snoc (L : List (κ × α)) (k : κ) (a : α) : grp (L ++ [(k, a)]) = dapp (grp L) k a := by
  unfold grp
  rw [List.foldl_append]
  rfl
def valsOf (L : List (κ × α)) (k : κ) : List α := (L.filter fun p => decide (p.1 = k)).map (·.2)
theorem vals_snoc (L : List (κ × α)) (k k' : κ) (a : α) : valsOf (L ++ [(k, a)]) k' = valsOf L k' ++ (if k = k' then [a] else []) := by
  unfold valsOf
  rw [List.filter_append, List.map_append]
  congr 1
  by_cases e : k = k' <;> simp [e]
theorem dapp_get (d : List (κ × List α)) (k k' : κ) (a : α) : dget (dapp d k a) k' = if k = k' then some ((dget d k).getD [] ++ [a]) else dget d k' := by
  unfold dapp
  cases e : dget d k with
  | some l => rw [dget_dput]; rfl
  | none =>
    rw [dget_append, dget_cons]
    by_cases z : k = k'
    · subst z
      simp [e]
    · simp [z]
      cases dget d k' <;> rfl
theorem grp_get (L : List (κ × α)) (k : κ) : dget (grp L) k = if valsOf L k = [] then none else some (valsOf L k) := by
  refine snoc_ind (p := fun L => dget (grp L) k = if valsOf L k = [] then none else some (valsOf L k)) rfl (fun L p ih => ?_) L
  · obtain ⟨k', a⟩ := p
    rw [grp_snoc, dapp_get, vals_snoc]
    by_cases e : k' = k
    · subst e
      have e2 : ¬ valsOf L k' ++ [a] = [] := fun w => by simp at w
      rw [if_pos rfl, if_pos rfl, if_neg e2, ih]
      by_cases z : valsOf L k' = []
      · rw [if_pos z, z]; rfl
      · rw [if_neg z]; rfl
    · rw [if_neg e, if_neg e, List.append_nil]
      exact ih
theorem dapp_keys (d : List (κ × List α)) (k : κ) (a : α) (h : (d.map (·.1)).Nodup) : ((dapp d k a).map (·.1)).Nodup ∧ (dapp d k a).length ≤ d.length + 1 ∧ ∀ x, x ∈ (dapp d k a).map (·.1) ↔ x ∈ d.map (·.1) ∨ x = k := by
  unfold dapp
  cases e : dget d k with
  | some l => exact ⟨dput_nodup h, dput_len _ _ _, dput_mem⟩
  | none =>
    have hn := dget_none.mp e
    refine ⟨?_, by simp, fun x => by rw [List.map_append, List.mem_append]; simp⟩
    rw [List.map_append, List.nodup_append]
    exact ⟨h, by simp, fun x hx y hy e => hn (by rw [show y = k by simpa using hy] at e; rw [← e]; exact hx)⟩
theorem grp_keys (L : List (κ × α)) : ((grp L).map (·.1)).Nodup ∧ (grp L).length ≤ L.length ∧ ∀ x, x ∈ (grp L).map (·.1) ↔ x ∈ L.map (·.1) := by
  refine snoc_ind (p := fun L => ((grp L).map (·.1)).Nodup ∧ (grp L).length ≤ L.length ∧ ∀ x, x ∈ (grp L).map (·.1) ↔ x ∈ L.map (·.1)) ⟨.nil, Nat.le_refl _, fun _ => Iff.rfl⟩ (fun L p ih => ?_) L
  · obtain ⟨k', a⟩ := p
    rw [grp_snoc]
    obtain ⟨h1, h2, h3⟩ := dapp_keys (grp L) k' a ih.1
    refine ⟨h1, by rw [List.length_append]; have := ih.2.1; simp; omega, fun x => ?_⟩
    rw [h3, ih.2.2, List.map_append, List.mem_append]
    simp
theorem vals_len (L : List (κ × α)) (k : κ) : (valsOf L k).length ≤ L.length := by
  unfold valsOf
  rw [List.length_map]
  exact List.length_filter_le _ _
/-- what the step of a group asks -/
theorem grp_side (L : List (κ × α)) (k : κ) (h : L.length ≤ 1000) : ((grp L).map (·.1)).Nodup ∧ (grp L).length < sizeLine ∧ ∀ l, dget (grp L) k = some l → l.length < sizeLine := by
  refine ⟨(grp_keys L).1, line_lt (Nat.le_trans (grp_keys L).2.1 (by omega)), fun l hl => ?_⟩
  rw [grp_get] at hl
  split at hl
  · cases hl
  · cases hl
    exact line_lt (Nat.le_trans (vals_len L k) (by omega))
end
def tieD (rows : RowsT) (e : NE) : Str := (tie? rows e).getD (Str.ofString "")
def endL (rows : RowsT) : List (Str × (Int × Int)) := (allE rows).map fun e => (tieD rows e, cI e)
/-- a net that is small -/
def Sm (rows : RowsT) : Prop := rows.length ≤ 200 ∧ (allE rows).length ≤ 800
noncomputable def faceE (rows : RowsT) (e : NE) : List NE := face (stp rows) (allE rows) e
end Tw
set_option Elab.async false
set_option linter.all false
set_option maxRecDepth 100000
set_option maxHeartbeats 4000000
namespace Tw
open PySem PySem.Spec L2 TL
open PyProof.Rows hiding St
theorem rowIns_len (rows : RowsT) (k : Nat) (j : Int) (a : Str) : (rowIns rows k j a).length = rows.length := List.length_modify ..
theorem insAt_perm (ts : List Str) (j : Int) (a : Str) : (insAt ts j a).Perm (a :: ts) := by
  unfold insAt
  have h1 : (ts.take j.toNat ++ [a] ++ ts.drop j.toNat).Perm ([a] ++ ts.take j.toNat ++ ts.drop j.toNat) := List.Perm.append_right _ List.perm_append_comm
  refine h1.trans ?_
  rw [List.append_assoc, List.take_append_drop]
  exact List.Perm.refl _
theorem ties_app (a b : RowsT) : ties (a ++ b) = ties a ++ ties b := List.flatMap_append
theorem ends_len (rows : RowsT) : (allE rows).length = (ties rows).length := by
  have := congrArg List.length (allE_ties rows)
  rw [List.length_map, List.length_map] at this
  exact this
def allC (rows : RowsT) : List NE := (List.range rows.length).flatMap fun r => (List.range (max 1 (rowT rows r).length)).map fun p => (r, p)
theorem mem_allC {rows : RowsT} {e : NE} : e ∈ allC rows ↔ e.1 < rows.length ∧ e.2 < max 1 (rowT rows e.1).length := by
  unfold allC
  rw [List.mem_flatMap]
  constructor
  · rintro ⟨r, hr, h⟩
    obtain ⟨p, hp, rfl⟩ := List.mem_map.mp h
    exact ⟨List.mem_range.mp hr, List.mem_range.mp hp⟩
  · rintro ⟨h1, h2⟩
    exact ⟨e.1, List.mem_range.mpr h1, List.mem_map.mpr ⟨e.2, List.mem_range.mpr h2, rfl⟩⟩
noncomputable def faceC (rows : RowsT) (a : NE) : List NE := if rowT rows 0 = [] then [a] else faceE rows a
/-- a before b -/
def leE (a b : NE) : Bool := decide (a.1 < b.1 ∨ (a.1 = b.1 ∧ a.2 ≤ b.2))
def ins2 (rows : RowsT) (a b : NE) (t : Str) : RowsT := if leE a b = true then rowIns (rowIns rows b.1 (b.2 : Int) t) a.1 (a.2 : Int) t else rowIns (rowIns rows a.1 (a.2 : Int) t) b.1 (b.2 : Int) t
inductive Made : RowsT → Prop
  | bare (n : Str) : Made [(n, [])]
  | spike {rows : RowsT} {e : NE} {t n : Str} : Made rows → e ∈ allC rows → t ∉ ties rows → n ∉ rows.map (·.1) → Made (rowIns rows e.1 (e.2 : Int) t ++ [(n, [t])])
  | link {rows : RowsT} {a b : NE} {t : Str} : Made rows → a ∈ allC rows → b ∈ faceC rows a → t ∉ ties rows → Made (ins2 rows a b t)
end Tw
set_option Elab.async false
set_option linter.all false
set_option maxRecDepth 100000
set_option maxHeartbeats 4000000
namespace Tw
open PySem PySem.Spec L2 TL
open PyProof.Rows hiding St
theorem ixN_nat {n k : Nat} (h : k < n) : ixN n (k : Int) = some k := by
  unfold ixN
  rw [if_pos (by omega), if_pos (by omega)]
  simp
end Tw
set_option Elab.async false
set_option linter.all false
set_option maxRecDepth 100000
set_option maxHeartbeats 4000000
namespace Tw
open PySem PySem.Spec L2 TL
open PyProof.Rows hiding St
def RotR (x y : Str × List Str) : Prop := x.1 = y.1 ∧ ∃ k, k ≤ x.2.length ∧ y.2 = x.2.drop k ++ x.2.take k
/-- the rows of a net made deed by deed, in any order, each list begun anywhere -/
structure GNet (rows : RowsT) (m : Nat) : Prop where
  src : ∃ rows0 done, Made rows0 ∧ rows0.Perm done ∧ All2 RotR done rows
  pn : ∀ n ∈ rows.map (·.1), isNm n = true
  tn : ∀ t ∈ ties rows, isNm t = true
  tl : (ties rows).length ≤ 2 * m
  rl : rows.length ≤ m + 1
structure NetP (rows : RowsT) : Prop where
  two : Twice rows
  nd : (rows.map (·.1)).Nodup
  ne : rows ≠ []
theorem GNet.sm {rows : RowsT} {m : Nat} (h : GNet rows m) (hm : m ≤ 100) : Sm rows := ⟨by have := h.rl; omega, by rw [ends_len]; have := h.tl; omega⟩
end Tw
set_option Elab.async false
set_option linter.all false
set_option maxRecDepth 100000
set_option maxHeartbeats 4000000
namespace Tw
open PySem PySem.Spec L2 TL
open PyProof.Rows hiding St
def sumS (a b : List Str) : List Str := srt (a.filter (fun x => !decide (x ∈ b)) ++ b.filter (fun x => !decide (x ∈ a)))
theorem mem_sum {a b : List Str} {x : Str} : x ∈ sumS a b ↔ (x ∈ a ∧ x ∉ b) ∨ (x ∈ b ∧ x ∉ a) := by
  unfold sumS
  rw [srt_mem, List.mem_append, List.mem_filter, List.mem_filter]
  simp
theorem sum_sorted (a b : List Str) : Sorted (sumS a b) := srt_sorted _
theorem sum_nodup {a b : List Str} (ha : a.Nodup) (hb : b.Nodup) : (sumS a b).Nodup := by
  refine srt_nodup (List.nodup_append.mpr ⟨ha.filter _, hb.filter _, fun x hx y hy e => ?_⟩)
  rw [← e] at hy
  have h1 := (List.mem_filter.mp hx).1
  have h2 := (List.mem_filter.mp hy).2
  simp [h1] at h2
end Tw
set_option Elab.async false
set_option linter.all false
set_option maxRecDepth 100000
set_option maxHeartbeats 4000000
namespace Tw
open PySem PySem.Spec L2 TL
open PyProof.Rows hiding St
/-- the keys of the seats -/
theorem seat_keys {rows : RowsT} {x : Str} : x ∈ (grp (endL rows)).map (·.1) ↔ x ∈ ties rows := by
  rw [(grp_keys (endL rows)).2.2]
  unfold endL
  rw [List.map_map, List.mem_map]
  constructor
  · rintro ⟨e, he, rfl⟩
    obtain ⟨t, ht⟩ := tie_some he
    show tieD rows e ∈ _
    unfold tieD
    rw [ht]
    exact tie_in ht
  · intro h
    have : some x ∈ (ties rows).map some := List.mem_map.mpr ⟨x, h, rfl⟩
    rw [← allE_ties] at this
    obtain ⟨e, he, e2⟩ := List.mem_map.mp this
    refine ⟨e, he, ?_⟩
    show tieD rows e = x
    unfold tieD
    rw [e2]
    rfl
/-- the ties, in the order of the texts, once each -/
def tiesS (rows : RowsT) : List Str := srt ((grp (endL rows)).map (·.1))
theorem mem_tiesS {rows : RowsT} {x : Str} : x ∈ tiesS rows ↔ x ∈ ties rows := by
  unfold tiesS
  rw [srt_mem, seat_keys]
theorem dbl_len : ∀ (l : List Str), l.Nodup → ∀ m : List Str, (∀ x ∈ l, 2 ≤ m.count x) → 2 * l.length ≤ m.length
  | [], _, m, _ => Nat.zero_le _
  | a :: r, h, m, k => by
    have h1 := List.nodup_cons.mp h
    have h2 : ((m.erase a).erase a).length + 2 = m.length := by
      have c := k a (by simp)
      have m1 : a ∈ m := List.count_pos_iff.mp (by omega)
      have m2 : a ∈ m.erase a := List.count_pos_iff.mp (by rw [List.count_erase_self]; omega)
      have l1 := List.length_erase_of_mem m1
      have l2 := List.length_erase_of_mem m2
      have := List.length_pos_of_mem m1
      have := List.length_pos_of_mem m2
      omega
    have h3 := dbl_len r h1.2 ((m.erase a).erase a) fun x hx => by
      have ne : x ≠ a := fun e => h1.1 (e ▸ hx)
      rw [List.count_erase_of_ne ne, List.count_erase_of_ne ne]
      exact k x (by simp [hx])
    rw [List.length_cons]
    omega
end Tw
set_option Elab.async false
set_option linter.all false
set_option maxRecDepth 100000
set_option maxHeartbeats 4000000
namespace Tw
open PySem PySem.Spec L2 TL
open PyProof.Rows hiding St
abbrev n_points_by_tie : List Str := ["rows", "held", "point", "ties", "tie"]
noncomputable def F_points_by_tie (p0 : (List (Str × (List Str)))) : M (Dk Str (List Str)) :=
  (M.b (M.for_ (fun (s2 : (List (Str × (List Str)))) (x3 : (Str × (List Str))) => (M.b (M.for_ (fun (s4 : (List (Str × (List Str)))) (x5 : Str) => (M.b (M.ok x5) fun k6 => M.chk ((s4.map (·.1)).Nodup ∧ s4.length < sizeLine ∧ ∀ l, dget s4 k6 = some l → l.length < sizeLine) (M.b (M.ok x3.1) fun a7 => (M.ok (dapp s4 k6 a7))))) x3.2 s2) fun s8 => (M.ok s8))) p0 ([] : List (Str × (List Str)))) fun s9 => (M.ok (⟨s9⟩ : (Dk Str (List Str)))))
def sp_points_by_tie (G : Gb) : Sp := spA G (fun (p : (List (Str × (List Str)))) => [.bw p]) (rpN G) (fun (p : (List (Str × (List Str)))) => F_points_by_tie p)
def t_points_by_tie (G : Gb) : TS :=
  (tSeq (tAsg tDNewK (gName 1)) (tSeq (tFor (iList G.K (tVar 0)) (gTup G.K 2 (gCons (gName 2) (gCons (gName 3) gNil)))
  (tFor (iList G.K (tVar 3)) (gName 4)
  (tDrop (tBM G.K "list" rAppend (tDSetd (tVar 1) (tVar 4) (tLst tNil)) (tCons (tVar 2) tNil)))))
  (tRet (tVar 1))))
theorem len_points_by_tie {G : Gb} (vs : List V) (H : Hp) (Q : VK) (E : XK) (h : sp_points_by_tie G vs H Q E) : vs.length = 1 := spA_len h fun _ => rfl
theorem rn_points_by_tie {G : Gb} {B : Hp} {E : XK} (p0 : (List (Str × (List Str)))) : Run G B E (oR G B (rpN G)) [some (.bw p0), none, none, none, none] (t_points_by_tie G) (F_points_by_tie p0) := by
  have h : Run G B E (oR G B (rpN G)) [some (.bw p0), none, none, none, none] (t_points_by_tie G) _ := (run_ddNew (κ := Str) (α := Str) (fun q1 => (run_seq (EX := fun (s : (List (Str × (List Str)))) => [some (.bw p0), some (.dd q1 s), none, none, none]) (run_for (bind := fun (x : (Str × (List Str))) (r : Evr) => ((r.set 2 (some (.fz x.1))).set 3 (some (.bw x.2)))) (s0 := ([] : List (Str × (List Str)))) (ew_B (ev_bw rfl) (tg_pair tg_S tg_B)) (.keep (.keep (.drop (.drop (.drop Wk.nil))))) (fun s2 x3 => (run_last (run_seq (EX := fun (s : (List (Str × (List Str)))) => [some (.bw p0), some (.dd q1 s), some (.fz x3.1), some (.bw x3.2), none]) (run_for (bind := fun (x : Str) (r : Evr) => (r.set 4 (some (.fz x)))) (s0 := s2) (ew_B (ev_bw rfl) tg_S) (.keep (.keep (.keep (.keep (.drop Wk.nil))))) (fun s4 x5 => (run_last (run_setApp rfl (ev_fz rfl) (ev_fz rfl) (fun k6 a7 => (run_next (s := (dapp s4 k6 a7)) (.keep (.keep (.keep (.keep (.drop Wk.nil))))))))))) (fun s8 => (run_next (s := s8) (.keep (.keep (.drop (.drop (.drop Wk.nil))))))))))) (fun s9 => (run_retQ rfl)))))
  exact h
theorem run_points_by_tie {G : Gb} {vs : List V} {H : Hp} {Q : VK} {E : XK} (h : sp_points_by_tie G vs H Q E) : t_points_by_tie G (dEnd Q) (start n_points_by_tie vs) H := spA_run (n := 4) h (fun _ => rfl) fun p B => rn_points_by_tie p
end Tw
set_option Elab.async false
set_option linter.all false
set_option maxRecDepth 100000
set_option maxHeartbeats 4000000
set_option Elab.async false
set_option linter.all false
set_option maxRecDepth 100000
set_option maxHeartbeats 4000000
namespace Tw
open PySem PySem.Spec L2 TL
open PyProof.Rows hiding St
def pnm (rows : RowsT) (r : Nat) : Str := ((rows[r]?).map (·.1)).getD (Str.ofString "")
def nE (rows : RowsT) (e : NE) : Str × Int := (pnm rows e.1, (e.2 : Int))
theorem pnm_at {rows : RowsT} {r : Nat} {x : Str × List Str} (h : rows[r]? = some x) : pnm rows r = x.1 := by
  unfold pnm
  rw [h]
  rfl
theorem pnm_inj {rows : RowsT} (nd : (rows.map (·.1)).Nodup) {a b : Nat} (ha : a < rows.length) (hb : b < rows.length) (h : pnm rows a = pnm rows b) : a = b := by
  rw [pnm_at (List.getElem?_eq_getElem ha), pnm_at (List.getElem?_eq_getElem hb)] at h
  refine (List.getElem?_inj (l := rows.map (·.1)) (by rw [List.length_map]; exact ha) nd).mp ?_
  rw [List.getElem?_map, List.getElem?_map, List.getElem?_eq_getElem ha, List.getElem?_eq_getElem hb]
  exact congrArg some h
theorem nE_inj {rows : RowsT} (nd : (rows.map (·.1)).Nodup) {a b : NE} (ha : a ∈ allE rows) (hb : b ∈ allE rows) (h : nE rows a = nE rows b) : a = b := by
  have h1 := pnm_inj nd (allE_row ha) (allE_row hb) (congrArg Prod.fst h)
  have h2 : (a.2 : Int) = (b.2 : Int) := congrArg Prod.snd h
  exact Prod.ext h1 (by omega)
structure TI (rows : RowsT) (P : List NE) (n : Nat) (s : TurnsD × Dk Str (Str × Int)) : Prop where
  order : s.1.order = P.map (nE rows)
  sizes : ∀ r, r < n → dget s.1.sizes.l (pnm rows r) = some ((rowT rows r).length : Int)
  sizesL : s.1.sizes.l.length ≤ n
  signs : ∀ e ∈ P, dget s.1.signs.l (nE rows e) = some (tieD rows e)
  signsL : s.1.signs.l.length ≤ P.length
  first : ∀ t, dget s.2.l t = ((P.filter fun e => decide (tie? rows e = some t)).head?).map (nE rows)
  firstL : s.2.l.length ≤ P.length
  mates : ∀ e ∈ P, mate rows e ∈ P → dget s.1.mates.l (nE rows e) = some (nE rows (mate rows e))
  matesL : s.1.mates.l.length ≤ 2 * P.length
def preE (rows : RowsT) (n : Nat) : List NE := (List.range n).flatMap fun r => (List.range (rowT rows r).length).map fun p => (r, p)
def seqE (rows : RowsT) (n p : Nat) : List NE := preE rows n ++ (List.range p).map fun p => (n, p)
theorem preE_all (rows : RowsT) : preE rows rows.length = allE rows := rfl
theorem seqE_full (rows : RowsT) (n : Nat) : seqE rows n (rowT rows n).length = preE rows (n + 1) := by
  unfold seqE preE
  rw [List.range_succ, List.flatMap_append]
  simp
theorem head_filter_mem {α : Type} {l : List α} {p : α → Bool} {a : α} (h : (l.filter p).head? = some a) : a ∈ l ∧ p a = true := List.mem_filter.mp (List.mem_of_mem_head? h)
end Tw
set_option Elab.async false
set_option linter.all false
set_option maxRecDepth 100000
set_option maxHeartbeats 4000000
namespace Tw
open PySem PySem.Spec L2 TL
open PyProof.Rows hiding St
/-- one end more -/
theorem TI.step {rows : RowsT} (h : NetP rows) {P : List NE} {n : Nat} {s : TurnsD × Dk Str (Str × Int)} (I : TI rows P n s) (hP : ∀ d ∈ P, d ∈ allE rows) {e : NE} (he : e ∈ allE rows) (hn : e ∉ P) {t : Str} (ht : tie? rows e = some t) :
    (∀ d, dget s.2.l t = some d → TI rows (P ++ [e]) n (⟨s.1.order ++ [nE rows e], s.1.sizes, ⟨dput s.1.signs.l (nE rows e) t⟩, ⟨dput (dput s.1.mates.l (nE rows e) d) d (nE rows e)⟩⟩, s.2)) ∧
    (dget s.2.l t = none → TI rows (P ++ [e]) n (⟨s.1.order ++ [nE rows e], s.1.sizes, ⟨dput s.1.signs.l (nE rows e) t⟩, s.1.mates⟩, ⟨dput s.2.l t (nE rows e)⟩)) := by
  have et : tieD rows e = t := by unfold tieD; rw [ht]; rfl
  obtain ⟨m1, m2, m3⟩ := mate_of h.two ht
  have hm := mate_mem h.two he
  have ord : s.1.order ++ [nE rows e] = (P ++ [e]).map (nE rows) := by rw [I.order, List.map_append]; rfl
  have sg : ∀ d ∈ P ++ [e], dget (dput s.1.signs.l (nE rows e) t) (nE rows d) = some (tieD rows d) := fun d hd => by
    rw [dget_dput]
    rcases List.mem_append.mp hd with w | w
    · rw [if_neg (fun z => hn (by rw [nE_inj h.nd he (hP d w) z]; exact w))]
      exact I.signs d w
    · rw [List.mem_singleton.mp w, if_pos rfl, et]
  have sgl : (dput s.1.signs.l (nE rows e) t).length ≤ (P ++ [e]).length := by
    have := dput_len s.1.signs.l (nE rows e) t
    have := I.signsL
    rw [List.length_append, List.length_singleton]
    omega
  have hl : (P ++ [e]).length = P.length + 1 := by simp
  constructor
  · intro d hd
    have hf := I.first t
    rw [hd] at hf
    obtain ⟨c, hc, rfl⟩ := Option.map_eq_some_iff.mp hf.symm
    obtain ⟨c1, c2⟩ := head_filter_mem hc
    have cm : c = mate rows e := by
      rcases m3 c (of_decide_eq_true c2) with w | w
      · exact absurd (w ▸ c1) hn
      · exact w
    subst cm
    refine ⟨ord, I.sizes, I.sizesL, sg, sgl, fun u => ?_, by rw [hl]; have := I.firstL; show s.2.l.length ≤ _; omega, fun a ha hb => ?_, ?_⟩
    · show dget s.2.l u = _
      rw [I.first u, List.filter_append]
      by_cases z : u = t
      · subst z
        rw [List.head?_append, hc]
        rfl
      · have : ([e].filter fun e => decide (tie? rows e = some u)) = [] := by
          rw [List.filter_eq_nil_iff]
          intro x hx w
          rw [List.mem_singleton.mp hx, ht] at w
          simp at w
          exact z w.symm
        rw [this, List.append_nil]
    · show dget (dput (dput s.1.mates.l (nE rows e) (nE rows (mate rows e))) (nE rows (mate rows e)) (nE rows e)) (nE rows a) = _
      rw [dget_dput, dget_dput]
      rcases List.mem_append.mp ha with w | w
      · by_cases z : a = mate rows e
        · rw [if_pos (by rw [z]), z, mate_mate h.two he]
        · rw [if_neg (fun q => z (nE_inj h.nd hm (hP a w) q).symm), if_neg (fun q => hn (by rw [nE_inj h.nd he (hP a w) q]; exact w))]
          refine I.mates a w ?_
          rcases List.mem_append.mp hb with v | v
          · exact v
          · exact absurd (by rw [← List.mem_singleton.mp v, mate_mate h.two (hP a w)]) z
      · rw [List.mem_singleton.mp w, if_neg (fun q => m2 (nE_inj h.nd hm he q)), if_pos rfl]
    · have q1 := dput_len s.1.mates.l (nE rows e) (nE rows (mate rows e))
      have q2 := dput_len (dput s.1.mates.l (nE rows e) (nE rows (mate rows e))) (nE rows (mate rows e)) (nE rows e)
      have := I.matesL
      rw [hl]
      show (dput (dput s.1.mates.l (nE rows e) (nE rows (mate rows e))) (nE rows (mate rows e)) (nE rows e)).length ≤ _
      omega
  · intro hd
    have hf := I.first t
    rw [hd] at hf
    have hnil : (P.filter fun e => decide (tie? rows e = some t)) = [] := by
      cases z : P.filter fun e => decide (tie? rows e = some t) with
      | nil => rfl
      | cons a r => rw [z] at hf; cases hf
    have no : ∀ c ∈ P, tie? rows c ≠ some t := fun c hc w => by
      have := List.filter_eq_nil_iff.mp hnil c hc
      exact this (decide_eq_true w)
    refine ⟨ord, I.sizes, I.sizesL, sg, sgl, fun u => ?_, ?_, fun a ha hb => ?_, by rw [hl]; have := I.matesL; show s.1.mates.l.length ≤ _; omega⟩
    · show dget (dput s.2.l t (nE rows e)) u = _
      rw [dget_dput, List.filter_append]
      by_cases z : t = u
      · subst z
        rw [if_pos rfl, hnil]
        simp [ht]
      · rw [if_neg z, I.first u]
        have : ([e].filter fun e => decide (tie? rows e = some u)) = [] := by
          rw [List.filter_eq_nil_iff]
          intro x hx w
          rw [List.mem_singleton.mp hx, ht] at w
          simp at w
          exact z w
        rw [this, List.append_nil]
    · have q1 := dput_len s.2.l t (nE rows e)
      have := I.firstL
      rw [hl]
      show (dput s.2.l t (nE rows e)).length ≤ _
      omega
    · show dget s.1.mates.l (nE rows a) = _
      rcases List.mem_append.mp ha with w | w
      · refine I.mates a w ?_
        rcases List.mem_append.mp hb with v | v
        · exact v
        · exfalso
          obtain ⟨u, hu⟩ := tie_some (hP a w)
          have := (mate_of h.two hu).1
          rw [List.mem_singleton.mp v, ht] at this
          cases this
          exact no a w hu
      · exfalso
        rw [List.mem_singleton.mp w] at hb
        rcases List.mem_append.mp hb with v | v
        · exact no _ v m1
        · exact m2 (List.mem_singleton.mp v)
end Tw
set_option Elab.async false
set_option linter.all false
set_option maxRecDepth 100000
set_option maxHeartbeats 4000000
set_option Elab.async false
set_option linter.all false
set_option maxRecDepth 100000
set_option maxHeartbeats 4000000
namespace Tw
open PySem PySem.Spec L2 TL
open PyProof.Rows hiding St
abbrev n_ties_of : List Str := ["rows", "seen", "point", "ties", "tie"]
noncomputable def F_ties_of (p0 : (List (Str × (List Str)))) : M (List Str) :=
  (M.b (M.ok (⟨[]⟩ : (Dk Str Bool))) fun v1 => (M.b (M.for_ (fun (s2 : (Dk Str Bool)) (x3 : (Str × (List Str))) => (M.b (M.for_ (fun (s4 : (Dk Str Bool)) (x5 : Str) => (M.b (M.ok true) fun a6 => M.b (M.ok x5) fun k7 => M.chk (s4.l.length < sizeLine) (M.ok (⟨dput s4.l k7 a6⟩ : (Dk Str Bool))))) x3.2 s2) fun s8 => (M.ok s8))) p0 v1) fun s9 => (M.chk ((keysOf s9).length < 64) (M.ok (srt (keysOf s9))))))
def sp_ties_of (G : Gb) : Sp := spA G (fun (p : (List (Str × (List Str)))) => [.bw p]) (rpN G) (fun (p : (List (Str × (List Str)))) => F_ties_of p)
def t_ties_of (G : Gb) : TS :=
  (tSeq (tAsg tDNewK (gName 1)) (tSeq (tFor (iList G.K (tVar 0)) (gTup G.K 2 (gCons (gName 2) (gCons (gName 3) gNil)))
  (tFor (iList G.K (tVar 3)) (gName 4)
  (sDPut (tVar 1) (tVar 4) (tC (.bl true)))))
  (tRet (tCB qSortedD (tCons (tVar 1) tNil)))))
theorem len_ties_of {G : Gb} (vs : List V) (H : Hp) (Q : VK) (E : XK) (h : sp_ties_of G vs H Q E) : vs.length = 1 := spA_len h fun _ => rfl
theorem rn_ties_of {G : Gb} {B : Hp} {E : XK} (p0 : (List (Str × (List Str)))) : Run G B E (oR G B (rpN G)) [some (.bw p0), none, none, none, none] (t_ties_of G) (F_ties_of p0) := by
  have h : Run G B E (oR G B (rpN G)) [some (.bw p0), none, none, none, none] (t_ties_of G) _ := (run_asgN (en_dK (κ := Str) (α := Bool)) (fun v1 => (run_seq (EX := fun (s : (Dk Str Bool)) => [some (.bw p0), some (.ow s), none, none, none]) (run_for (bind := fun (x : (Str × (List Str))) (r : Evr) => ((r.set 2 (some (.fz x.1))).set 3 (some (.bw x.2)))) (s0 := v1) (ew_B (ev_bw rfl) (tg_pair tg_S tg_B)) (.keep (.keep (.drop (.drop (.drop Wk.nil))))) (fun s2 x3 => (run_last (run_seq (EX := fun (s : (Dk Str Bool)) => [some (.bw p0), some (.ow s), some (.fz x3.1), some (.bw x3.2), none]) (run_for (bind := fun (x : Str) (r : Evr) => (r.set 4 (some (.fz x)))) (s0 := s2) (ew_B (ev_bw rfl) tg_S) (.keep (.keep (.keep (.keep (.drop Wk.nil))))) (fun s4 x5 => (run_last (run_dputK rfl (ev_bl (md := .F)) (ev_fz rfl) (fun a6 k7 => (run_next (s := (⟨dput s4.l k7 a6⟩ : (Dk Str Bool))) (.keep (.keep (.keep (.keep (.drop Wk.nil))))))))))) (fun s8 => (run_next (s := s8) (.keep (.keep (.drop (.drop (.drop Wk.nil))))))))))) (fun s9 => (run_retN (en_sortedD (ev_ow rfl)))))))
  exact h
theorem run_ties_of {G : Gb} {vs : List V} {H : Hp} {Q : VK} {E : XK} (h : sp_ties_of G vs H Q E) : t_ties_of G (dEnd Q) (start n_ties_of vs) H := spA_run (n := 4) h (fun _ => rfl) fun p B => rn_ties_of p
abbrev n_points_of : List Str := ["rows", "row"]
noncomputable def F_points_of (p0 : (List (Str × (List Str)))) : M (List Str) :=
  (M.chk (p0.length ≤ sizeLine) (M.lc (fun (y1 : (Str × (List Str))) => (M.ok true)) (fun (y1 : (Str × (List Str))) => (M.ok y1.1)) p0))
def sp_points_of (G : Gb) : Sp := spA G (fun (p : (List (Str × (List Str)))) => [.bw p]) (rpN G) (fun (p : (List (Str × (List Str)))) => F_points_of p)
def t_points_of (G : Gb) : TS :=
  (tRet (tLc (iList G.K (tVar 0)) (gName 1) tYes (tOp (rIxT G.K) (tVar 1) (tC (.int 0))) [1]))
theorem len_points_of {G : Gb} (vs : List V) (H : Hp) (Q : VK) (E : XK) (h : sp_points_of G vs H Q E) : vs.length = 1 := spA_len h fun _ => rfl
theorem rn_points_of {G : Gb} {B : Hp} {E : XK} (p0 : (List (Str × (List Str)))) : Run G B E (oR G B (rpN G)) [some (.bw p0), none] (t_points_of G) (F_points_of p0) := by
  have h : Run G B E (oR G B (rpN G)) [some (.bw p0), none] (t_points_of G) _ := (run_retN (en_lc (te := (tOp (rIxT G.K) (tVar 1) (tC (.int 0)))) (bind := fun (x : (Str × (List Str))) (r : Evr) => (r.set 1 (some (.bw x)))) (ew_B (ev_bw rfl) tg_B) (fun y1 => evT_yes) (fun y1 => (Ev.sc (md' := .F) (ev_p1 (ev_bw rfl))))))
  exact h
theorem run_points_of {G : Gb} {vs : List V} {H : Hp} {Q : VK} {E : XK} (h : sp_points_of G vs H Q E) : t_points_of G (dEnd Q) (start n_points_of vs) H := spA_run (n := 1) h (fun _ => rfl) fun p B => rn_points_of p
theorem tieD_mem {rows : RowsT} {e : NE} (h : e ∈ allE rows) : tieD rows e ∈ ties rows := by
  obtain ⟨t, ht⟩ := tie_some h
  unfold tieD
  rw [ht]
  exact tie_in ht
theorem tieD_of {rows : RowsT} {e : NE} {t : Str} (h : tie? rows e = some t) : tieD rows e = t := by
  unfold tieD
  rw [h]
  rfl
section
variable {κ α : Type} [DecidableEq κ]
def uniq (l : List κ) : List κ := l.foldl (fun d x => if x ∈ d then d else d ++ [x]) []
theorem uniq_snoc (l : List κ) (x : κ) : uniq (l ++ [x]) = if x ∈ uniq l then uniq l else uniq l ++ [x] := by
  unfold uniq
  rw [List.foldl_append]
  rfl
theorem uniq_props (l : List κ) : (uniq l).Nodup ∧ (∀ x, x ∈ uniq l ↔ x ∈ l) ∧ (uniq l).length ≤ l.length := by
  refine snoc_ind (p := fun l => (uniq l).Nodup ∧ (∀ x, x ∈ uniq l ↔ x ∈ l) ∧ (uniq l).length ≤ l.length) ⟨.nil, fun _ => Iff.rfl, Nat.le_refl _⟩ (fun l x ⟨h1, h2, h3⟩ => ?_) l
  rw [uniq_snoc]
  split
  · rename_i h
    refine ⟨h1, fun y => ?_, by rw [List.length_append]; omega⟩
    rw [List.mem_append, h2, List.mem_singleton]
    exact ⟨.inl, fun q => q.elim id fun e => by rw [e]; exact (h2 x).mp h⟩
  · rename_i h
    refine ⟨?_, fun y => ?_, by rw [List.length_append, List.length_append]; simpa using h3⟩
    · rw [List.nodup_append]
      exact ⟨h1, by simp, fun a ha b hb e => h (by rw [← show b = x by simpa using hb, ← e]; exact ha)⟩
    · rw [List.mem_append, List.mem_append, h2]
theorem dput_uniq {d : List (κ × α)} {l : List κ} {k : κ} {a : α} (h : d.map (·.1) = uniq l) : (dput d k a).map (·.1) = uniq (l ++ [k]) := by
  rw [dput_keys, uniq_snoc, h]
end
theorem uniq_half {l : List Str} (h : ∀ t ∈ l, l.count t = 2) : 2 * (uniq l).length ≤ l.length := dbl_len _ (uniq_props l).1 _ fun x hx => by rw [h x ((uniq_props l).2.1 x |>.mp hx)]; exact Nat.le_refl 2
theorem ties_of_ok {rows : RowsT} (hs : Sm rows) (hu : (uniq (ties rows)).length < 64) : F_ties_of rows = .ok (srt (uniq (ties rows))) := by
  refine M.T_is ?_
  unfold F_ties_of
  have hl := hs.2
  rw [ends_len] at hl
  (repeat' (first | with_reducible refine M.T_b ?_ | with_reducible refine M.T_ok ?_ | (with_reducible refine M.T_chk ?hc ?_; (case hc => (first | assumption | exact cpos (by omega) | exact cdiv (by omega) (by omega) | exact rng_side (by omega) | (unfold CPow; decide) | decide | omega))) | with_reducible refine M.T_cl ?_ | with_reducible refine M.T_orRl ?_ | with_reducible refine M.T_orRr ?_))
  refine M.T_for (fun ys (s : Dk Str Bool) => s.l.map (·.1) = uniq (ties ys)) rfl (fun ys x zs s e i => ?_) fun s i => ?_
  · (repeat' (first | with_reducible refine M.T_b ?_ | with_reducible refine M.T_ok ?_ | (with_reducible refine M.T_chk ?hc ?_; (case hc => (first | assumption | exact cpos (by omega) | exact cdiv (by omega) (by omega) | exact rng_side (by omega) | (unfold CPow; decide) | decide | omega))) | with_reducible refine M.T_cl ?_ | with_reducible refine M.T_orRl ?_ | with_reducible refine M.T_orRr ?_))
    have hb : (ties ys).length + x.2.length ≤ (ties rows).length := by
      rw [e, ties_app, List.length_append]
      show _ ≤ _ + (x.2 ++ ties zs).length
      rw [List.length_append]
      omega
    refine M.T_for (fun us (s : Dk Str Bool) => s.l.map (·.1) = uniq (ties ys ++ us)) (by rw [List.append_nil]; exact i) (fun us y vs s2 e2 j => ?_) fun s2 j => ?_
    · have l1 : s2.l.length ≤ 800 := by
        have h1 := congrArg List.length j
        rw [List.length_map] at h1
        have h2 := (uniq_props (ties ys ++ us)).2.2
        rw [List.length_append] at h2
        have h3 : us.length ≤ x.2.length := by rw [e2]; simp
        omega
      refine M.T_b (M.T_ok (M.T_b (M.T_ok (M.T_chk (line_lt (by omega)) (M.T_ok ?_)))))
      rw [← List.append_assoc]
      exact dput_uniq j
    · refine M.T_ok ?_
      rw [ties_app]
      show _ = uniq (ties ys ++ (x.2 ++ []))
      rw [List.append_nil]
      exact j
  · refine M.T_chk (by show (s.l.map (·.1)).length < 64; rw [i]; exact hu) (M.T_ok ?_)
    show srt (s.l.map (·.1)) = _
    rw [i]
theorem points_of_ok {rows : RowsT} (hs : Sm rows) : F_points_of rows = .ok (rows.map (·.1)) := by
  unfold F_points_of
  have := hs.1
  rw [chk_line (by omega), M.lc_mapp]
end Tw
set_option Elab.async false
set_option linter.all false
set_option maxRecDepth 100000
set_option maxHeartbeats 4000000
namespace Tw
open PySem PySem.Spec L2 TL
open PyProof.Rows hiding St
abbrev n_table_without_first : List Str := ["rows", "names", "places", "place", "name", "table", "held", "tie", "one", "other", "line"]
noncomputable def F_table_without_first (p0 : (List (Str × (List Str)))) : M (List (List Int)) :=
  (M.b (M.cl (F_points_of p0)) fun v1 => (M.b (M.ok (⟨[]⟩ : (Dk Str Int))) fun v2 => (M.b (M.for_ (fun (s3 : (Dk Str Int)) (x4 : (Int × Str)) => (M.b (M.ok x4.1) fun a5 => M.b (M.ok x4.2) fun k6 => M.chk (s3.l.length < sizeLine) (M.ok (⟨dput s3.l k6 a5⟩ : (Dk Str Int))))) (enu v1) v2) fun s7 => (M.b (M.chk (v1.length ≤ sizeLine) (M.lc (fun (y8 : Str) => (M.ok true)) (fun (y8 : Str) => (M.chk (v1.length ≤ sizeLine) (M.lc (fun (y9 : Str) => (M.ok true)) (fun (y9 : Str) => (M.ok (0 : Int))) v1))) v1)) fun v12 => (M.b (M.cl (F_points_by_tie p0)) fun v13 => (M.b (M.for_ (fun (s14 : (List (List Int))) (x15 : Str) => (M.b (M.b (M.b (M.get (dget v13.l x15)) fun x19 => (M.get (atI x19 (0 : Int)))) fun x20 => (M.get (dget s7.l x20))) fun v21 => (M.b (M.b (M.b (M.get (dget v13.l x15)) fun x22 => (M.get (atI x22 (1 : Int)))) fun x23 => (M.get (dget s7.l x23))) fun v24 => (if (!decide (v21 = v24)) = true then (M.b (M.ok v21) fun r25 => M.b (M.get (ixN s14.length r25)) fun n26 => M.b (M.get (s14[n26]?)) fun w27 => M.b (M.ok v21) fun c28 => M.b (M.get (ixN w27.length c28)) fun j29 => M.b (M.get (w27[j29]?)) fun x30 => M.b (M.ok (1 : Int)) fun y31 => (M.b (M.ok v24) fun r32 => M.b (M.get (ixN (s14.set n26 (w27.set j29 (x30 + y31))).length r32)) fun n33 => M.b (M.get ((s14.set n26 (w27.set j29 (x30 + y31)))[n33]?)) fun w34 => M.b (M.ok v24) fun c35 => M.b (M.get (ixN w34.length c35)) fun j36 => M.b (M.get (w34[j36]?)) fun x37 => M.b (M.ok (1 : Int)) fun y38 => (M.b (M.ok v21) fun r39 => M.b (M.get (ixN ((s14.set n26 (w27.set j29 (x30 + y31))).set n33 (w34.set j36 (x37 + y38))).length r39)) fun n40 => M.b (M.get (((s14.set n26 (w27.set j29 (x30 + y31))).set n33 (w34.set j36 (x37 + y38)))[n40]?)) fun w41 => M.b (M.ok v24) fun c42 => M.b (M.get (ixN w41.length c42)) fun j43 => M.b (M.get (w41[j43]?)) fun x44 => M.b (M.ok (1 : Int)) fun y45 => (M.b (M.ok v24) fun r46 => M.b (M.get (ixN (((s14.set n26 (w27.set j29 (x30 + y31))).set n33 (w34.set j36 (x37 + y38))).set n40 (w41.set j43 (x44 - y45))).length r46)) fun n47 => M.b (M.get ((((s14.set n26 (w27.set j29 (x30 + y31))).set n33 (w34.set j36 (x37 + y38))).set n40 (w41.set j43 (x44 - y45)))[n47]?)) fun w48 => M.b (M.ok v21) fun c49 => M.b (M.get (ixN w48.length c49)) fun j50 => M.b (M.get (w48[j50]?)) fun x51 => M.b (M.ok (1 : Int)) fun y52 => (M.ok ((((s14.set n26 (w27.set j29 (x30 + y31))).set n33 (w34.set j36 (x37 + y38))).set n40 (w41.set j43 (x44 - y45))).set n47 (w48.set j50 (x51 - y52)))))))) else (M.ok s14))))) (keysOf v13) v12) fun s53 => (M.chk ((cutL s53 (some ((1 : Int))) none).length ≤ sizeLine) (M.lc (fun (y54 : (List Int)) => (M.ok true)) (fun (y54 : (List Int)) => (M.ok (cutL y54 (some ((1 : Int))) none))) (cutL s53 (some ((1 : Int))) none)))))))))
def sp_table_without_first (G : Gb) : Sp := spA G (fun (p : (List (Str × (List Str)))) => [.bw p]) (rpN G) (fun (p : (List (Str × (List Str)))) => F_table_without_first p)
def t_table_without_first (G : Gb) : TS :=
  (tSeq (tAsg (tCall (sp_points_of G) [] E0 (tCons (tVar 0) tNil)) (gName 1)) (tSeq (tAsg tDNewK (gName 2)) (tSeq (tFor (iEnum G.K (tCons (tVar 1) tNil)) (gTup G.K 2 (gCons (gName 3) (gCons (gName 4) gNil)))
  (sDPut (tVar 2) (tVar 4) (tVar 3)))
  (tSeq (tAsg (tLc (iList G.K (tVar 1)) (gName 4) tYes (tLc (iList G.K (tVar 1)) (gName 9) tYes (tC (.int 0)) [9]) [4]) (gName 5)) (tSeq (tAsg (tCall (sp_points_by_tie G) [] E0 (tCons (tVar 0) tNil)) (gName 6)) (tSeq (tLock (tFor (iKeys (tVar 6)) (gName 7)
  (tSeq (tAsg (tDGet (tVar 2) (tOp (rIxL G.K) (tDGet (tVar 6) (tVar 7)) (tC (.int 0)))) (gName 8)) (tSeq (tAsg (tDGet (tVar 2) (tOp (rIxL G.K) (tDGet (tVar 6) (tVar 7)) (tC (.int 1)))) (gName 9)) (tIfS (tTest (tOp rNe (tVar 8) (tVar 9)))
  (tSeq (tAugS (tOp (rIxL G.K) (tVar 5) (tVar 8)) (tVar 8) (tC (.int 1)) (rIxL G.K) (ipI fun i j => i + j) rSetL) (tSeq (tAugS (tOp (rIxL G.K) (tVar 5) (tVar 9)) (tVar 9) (tC (.int 1)) (rIxL G.K) (ipI fun i j => i + j) rSetL) (tSeq (tAugS (tOp (rIxL G.K) (tVar 5) (tVar 8)) (tVar 9) (tC (.int 1)) (rIxL G.K) (ipI fun i j => i - j) rSetL) (tAugS (tOp (rIxL G.K) (tVar 5) (tVar 9)) (tVar 8) (tC (.int 1)) (rIxL G.K) (ipI fun i j => i - j) rSetL))))
  tNext)))))
  (tRet (tLc (iList G.K (tSl (rSlL G.K) (tVar 5) (tPart (tC (.int 1))) tNoPart)) (gName 10) tYes (tSl (rSlL G.K) (tVar 10) (tPart (tC (.int 1))) tNoPart) [10]))))))))
theorem len_table_without_first {G : Gb} (vs : List V) (H : Hp) (Q : VK) (E : XK) (h : sp_table_without_first G vs H Q E) : vs.length = 1 := spA_len h fun _ => rfl
theorem rn_table_without_first {G : Gb} {B : Hp} {E : XK} (p0 : (List (Str × (List Str)))) : Run G B E (oR G B (rpN G)) [some (.bw p0), none, none, none, none, none, none, none, none, none, none] (t_table_without_first G) (F_table_without_first p0) := by
  have h : Run G B E (oR G B (rpN G)) [some (.bw p0), none, none, none, none, none, none, none, none, none, none] (t_table_without_first G) _ := (run_asgN (en_call1 (f := F_points_of) (ev_bw rfl) ps_B) (fun v1 => (run_asgN (en_dK (κ := Str) (α := Int)) (fun v2 => (run_freeze (i := 1) rfl (run_seq (EX := fun (s : (Dk Str Int)) => [some (.bw p0), some (.fz v1), some (.ow s), none, none, none, none, none, none, none, none]) (run_for (bind := fun (x : (Int × Str)) (r : Evr) => ((r.set 3 (some (.fz x.1))).set 4 (some (.fz x.2)))) (s0 := v2) (ew_enuF (ev_fz rfl) tg_S tg_S) (.keep (.keep (.keep (.drop (.drop (.drop (.drop (.drop (.drop (.drop (.drop Wk.nil))))))))))) (fun s3 x4 => (run_last (run_dputK rfl (ev_fz rfl) (ev_fz rfl) (fun a5 k6 => (run_next (s := (⟨dput s3.l k6 a5⟩ : (Dk Str Int))) (.keep (.keep (.keep (.drop (.drop (.drop (.drop (.drop (.drop (.drop (.drop Wk.nil))))))))))))))))) (fun s7 => (run_asgMx (em_lc (tb := (tLc (iList G.K (tVar 1)) (gName 9) tYes (tC (.int 0)) [9])) (bind := fun (x : Str) (r : Evr) => (r.set 4 (some (.fz x)))) (ew_F (ev_fz rfl) tg_S) (fun y8 => evT_yes) (fun y8 => (en_lc (te := (tC (.int 0))) (bind := fun (x : Str) (r : Evr) => (r.set 9 (some (.fz x)))) (ew_F (ev_fz rfl) tg_S) (fun y9 => evT_yes) (fun y9 => (ev_int (md := .F)))))) (fun q10 q11 v12 => (run_asgN (en_call1 (f := F_points_by_tie) (ev_bw rfl) ps_B) (fun v13 => (run_seq (EX := fun (s : (List (List Int))) => [some (.bw p0), some (.fz v1), some (.ow s7), none, none, some (.sh (⟨q10, q11, s⟩ : Mxo Int)), some (.ow v13), none, none, none, none]) (run_forK (bind := fun (x : Str) (r : Evr) => (r.set 7 (some (.fz x)))) (s0 := v12) rfl tg_S (fun _ _ _ => (.keep (.keep (.keep (.drop (.drop (.keep (.keep (.drop (.drop (.drop (.drop Wk.nil)))))))))))) (fun _ => rfl) (fun q16 q17 q18 s14 x15 => (run_asg (bind := fun (x : Int) (r : Evr) => (r.set 8 (some (.fz x)))) (ev_dgetKo rfl (ev_ix (ev_dgetKl rfl (ev_fz rfl)) (ev_int (md := .F)))) tg_S (fun v21 => (run_asg (bind := fun (x : Int) (r : Evr) => (r.set 9 (some (.fz x)))) (ev_dgetKo rfl (ev_ix (ev_dgetKl rfl (ev_fz rfl)) (ev_int (md := .F)))) tg_S (fun v24 => (run_if (evT_T (ev_ne (mr := .F) (ev_fz rfl) (ev_fz rfl))) (run_mxAug (f := fun i j => i + j) rfl (ev_fz rfl) (ev_fz rfl) (ev_int (md := .F)) (fun r25 n26 w27 c28 j29 x30 y31 => (run_mxAug (f := fun i j => i + j) rfl (ev_fz rfl) (ev_fz rfl) (ev_int (md := .F)) (fun r32 n33 w34 c35 j36 x37 y38 => (run_mxAug (f := fun i j => i - j) rfl (ev_fz rfl) (ev_fz rfl) (ev_int (md := .F)) (fun r39 n40 w41 c42 j43 x44 y45 => (run_last (run_mxAug (f := fun i j => i - j) rfl (ev_fz rfl) (ev_fz rfl) (ev_int (md := .F)) (fun r46 n47 w48 c49 j50 x51 y52 => (run_next (s := ((((s14.set n26 (w27.set j29 (x30 + y31))).set n33 (w34.set j36 (x37 + y38))).set n40 (w41.set j43 (x44 - y45))).set n47 (w48.set j50 (x51 - y52)))) (.keep (.keep (.keep (.drop (.drop (.keep (.keep (.drop (.drop (.drop (.drop Wk.nil))))))))))))))))))))) (run_next (s := s14) (.keep (.keep (.keep (.drop (.drop (.keep (.keep (.drop (.drop (.drop (.drop Wk.nil))))))))))))))))))) (fun s53 => (run_freezeM (i := 5) rfl (run_retN (en_lc (te := (tSl (rSlL G.K) (tVar 10) (tPart (tC (.int 1))) tNoPart)) (bind := fun (x : (List Int)) (r : Evr) => (r.set 10 (some (.fz x)))) (ew_S (es_N (en_slice (es_F (ev_fz rfl)) (eo_some (ev_int (md := .F))) eo_none)) tg_F) (fun y54 => evT_yes) (fun y54 => (EvN.F (en_slice (es_F (ev_fz rfl)) (eo_some (ev_int (md := .F))) eo_none)))))))))))))))))))
  exact h
theorem run_table_without_first {G : Gb} {vs : List V} {H : Hp} {Q : VK} {E : XK} (h : sp_table_without_first G vs H Q E) : t_table_without_first G (dEnd Q) (start n_table_without_first vs) H := spA_run (n := 10) h (fun _ => rfl) fun p B => rn_table_without_first p
abbrev n_worth_of : List Str := ["table", "last", "k", "lead", "line", "front", "at"]
noncomputable def F_worth_of (p0 : (List (List Int))) : M Int :=
  (M.b (M.chk (p0.length ≤ sizeLine) (M.lc (fun (y1 : (List Int)) => (M.ok true)) (fun (y1 : (List Int)) => (M.ok y1)) p0)) fun v4 => (M.b (M.ok (1 : Int)) fun v5 => (M.b (M.b (M.chk (-(2 ^ 62) ≤ (((v4.length : Nat) : Int) - (1 : Int)) ∧ (((v4.length : Nat) : Int) - (1 : Int)) < 2 ^ 62) (M.ok (rng 0 (((v4.length : Nat) : Int) - (1 : Int))))) fun x32 => (M.for_ (fun (s6 : Int × (List (List Int))) (x7 : Int) => (M.b (M.b (M.get (atI s6.2 x7)) fun x8 => (M.get (atI x8 x7))) fun v9 => (M.b (M.b (M.ok (cutL (List.range s6.2.length) (some ((x7 + (1 : Int)))) none)) fun x29 => (M.for_ (fun (s10 : (List (List Int))) (x11 : Nat) => (M.b (M.b (M.get s10[x11]?) fun w12 => M.get (atI w12 x7)) fun v13 => (M.b (M.b (M.chk (-(2 ^ 62) ≤ (x7 + (1 : Int)) ∧ (x7 + (1 : Int)) < 2 ^ 62 ∧ -(2 ^ 62) ≤ ((s10.length : Nat) : Int) ∧ ((s10.length : Nat) : Int) < 2 ^ 62) (M.ok (rng (x7 + (1 : Int)) ((s10.length : Nat) : Int)))) fun x27 => (M.for_ (fun (s14 : (List (List Int))) (x15 : Int) => (M.b (M.b (M.b (M.b (M.b (M.get s14[x11]?) fun w16 => M.get (atI w16 x15)) fun x17 => (M.chk (CMulW x17 v9) (M.ok (x17 * v9)))) fun x20 => (M.b (M.b (M.b (M.get (atI s14 x7)) fun x18 => (M.get (atI x18 x15))) fun x19 => (M.chk (CMulW v13 x19) (M.ok (v13 * x19)))) fun x21 => (M.ok (x20 - x21)))) fun x22 => (M.chk (CDivW x22 s6.1) (M.ok (x22 / s6.1)))) fun a23 => M.b (M.ok x15) fun c24 => M.b (M.get (s14[x11]?)) fun w25 => M.b (M.get (ixN w25.length c24)) fun l26 => (M.ok (s14.set x11 (w25.set l26 a23))))) x27 s10)) fun s28 => (M.ok s28)))) x29 s6.2)) fun s30 => (M.b (M.ok v9) fun v31 => (M.ok (v31, s30)))))) x32 (v5, v4))) fun s33 => (M.b (M.chk (Dd.Ok s33.2 ∧ Dd.Ok ([] : (List (List Int)))) (M.ok (decide (s33.2 = ([] : (List (List Int))))))) fun x35 => (if x35 = true then (M.ok (1 : Int)) else (M.b (M.get (atI s33.2 (-(1 : Int)))) fun x34 => (M.get (atI x34 (-(1 : Int))))))))))
def sp_worth_of (G : Gb) : Sp := spA G (fun (p : (List (List Int))) => [.bw p]) (rpF G) (fun (p : (List (List Int))) => F_worth_of p)
def t_worth_of (G : Gb) : TS :=
  (tSeq (tAsg (tLc (iList G.K (tVar 0)) (gName 4) tYes (tCB (qListOf G.K) (tCons (tVar 4) tNil)) [4]) (gName 0)) (tSeq (tAsg (tC (.int 1)) (gName 1)) (tSeq (tFor (iRng1 (tCons (tOp qSub (tCB (qLenQ G.K) (tCons (tVar 0) tNil)) (tC (.int 1))) tNil)) (gName 2)
  (tSeq (tAsg (tOp (rIxL G.K) (tOp (rIxL G.K) (tVar 0) (tVar 2)) (tVar 2)) (gName 3)) (tSeq (tFor (iList G.K (tSl (rSlL G.K) (tVar 0) (tPart (tOp qAdd (tVar 2) (tC (.int 1)))) tNoPart)) (gName 4)
  (tSeq (tAsg (tOp (rIxL G.K) (tVar 4) (tVar 2)) (gName 5)) (tFor (iRng2 (tCons (tOp qAdd (tVar 2) (tC (.int 1))) (tCons (tCB (qLenQ G.K) (tCons (tVar 0) tNil)) tNil))) (gName 6)
  (tAsg (tOp qDiv (tOp qSub (tOp qMul (tOp (rIxL G.K) (tVar 4) (tVar 6)) (tVar 3)) (tOp qMul (tVar 5) (tOp (rIxL G.K) (tOp (rIxL G.K) (tVar 0) (tVar 2)) (tVar 6)))) (tVar 1)) (gSub (tVar 4) (tVar 6) rSetL)))))
  (tAsg (tVar 3) (gName 1)))))
  (tSeq (tIfS (tTest (tOp (rEqD G.K) (tVar 0) (tLst tNil)))
  (tRet (tC (.int 1)))
  tNext)
  (tRet (tOp (rIxL G.K) (tOp (rIxL G.K) (tVar 0) (tUn qNeg (tC (.int 1)))) (tUn qNeg (tC (.int 1)))))))))
theorem len_worth_of {G : Gb} (vs : List V) (H : Hp) (Q : VK) (E : XK) (h : sp_worth_of G vs H Q E) : vs.length = 1 := spA_len h fun _ => rfl
theorem rn_worth_of {G : Gb} {B : Hp} {E : XK} (p0 : (List (List Int))) : Run G B E (oR G B (rpF G)) [some (.bw p0), none, none, none, none, none, none] (t_worth_of G) (F_worth_of p0) := by
  have h : Run G B E (oR G B (rpF G)) [some (.bw p0), none, none, none, none, none, none] (t_worth_of G) _ := (run_asgMx (em_lc (tb := (tCB (qListOf G.K) (tCons (tVar 4) tNil))) (bind := fun (x : (List Int)) (r : Evr) => (r.set 4 (some (.bw x)))) (ew_B (ev_bw rfl) tg_B) (fun y1 => evT_yes) (fun y1 => (en_listOf (es_sc (ev_bw rfl))))) (fun q2 q3 v4 => (run_asg (bind := fun (x : Int) (r : Evr) => (r.set 1 (some (.fz x)))) (ev_int (md := .F)) tg_S (fun v5 => (run_seq (EX := fun (s : Int × (List (List Int))) => [some (.sh (⟨q2, q3, s.2⟩ : Mxo Int)), some (.fz s.1), none, none, none, none, none]) (run_for (bind := fun (x : Int) (r : Evr) => (r.set 2 (some (.fz x)))) (s0 := (v5, v4)) (ew_rng1 (ev_sub (mr := .F) (ev_len (mr := .F) (ev_mx rfl)) (ev_int (md := .F))) tg_S) (.keep (.keep (.drop (.drop (.drop (.drop (.drop Wk.nil))))))) (fun s6 x7 => (run_asg (bind := fun (x : Int) (r : Evr) => (r.set 3 (some (.fz x)))) (Ev.sc (md' := .F) (ev_ix (ev_ix (ev_mx rfl) (ev_fz rfl)) (ev_fz rfl))) tg_S (fun v9 => (run_seq (EX := fun (s : (List (List Int))) => [some (.sh (⟨q2, q3, s⟩ : Mxo Int)), some (.fz s6.1), some (.fz x7), some (.fz v9), none, none, none]) (run_for (bind := fun (x : Nat) (r : Evr) => (r.set 4 (some (.fz (lnAt q3 x))))) (s0 := s6.2) (ew_mxFrom rfl (ev_add (mr := .F) (ev_fz rfl) (ev_int (md := .F)))) (.keep (.keep (.keep (.keep (.drop (.drop (.drop Wk.nil))))))) (fun s10 x11 => (run_asg (bind := fun (x : Int) (r : Evr) => (r.set 5 (some (.fz x)))) (ev_rowIx (mr := .F) (i := 0) rfl rfl (ev_fz rfl)) tg_S (fun v13 => (run_last (run_seq (EX := fun (s : (List (List Int))) => [some (.sh (⟨q2, q3, s⟩ : Mxo Int)), some (.fz s6.1), some (.fz x7), some (.fz v9), some (.fz (lnAt q3 x11)), some (.fz v13), none]) (run_for (bind := fun (x : Int) (r : Evr) => (r.set 6 (some (.fz x)))) (s0 := s10) (ew_rng2 (ev_add (mr := .F) (ev_fz rfl) (ev_int (md := .F))) (ev_len (mr := .F) (ev_mx rfl)) tg_S) (.keep (.keep (.keep (.keep (.keep (.keep (.drop Wk.nil))))))) (fun s14 x15 => (run_last (run_rowSet (i := 0) rfl rfl (ev_div (mr := .F) (ev_sub (mr := .F) (ev_mul (mr := .F) (ev_rowIx (mr := .F) (i := 0) rfl rfl (ev_fz rfl)) (ev_fz rfl)) (ev_mul (mr := .F) (ev_fz rfl) (ev_ix (ev_ix (ev_mx rfl) (ev_fz rfl)) (ev_fz rfl)))) (ev_fz rfl)) (ev_fz rfl) (fun a23 c24 w25 l26 => (run_next (s := (s14.set x11 (w25.set l26 a23))) (.keep (.keep (.keep (.keep (.keep (.keep (.drop Wk.nil))))))))))))) (fun s28 => (run_next (s := s28) (.keep (.keep (.keep (.keep (.drop (.drop (.drop Wk.nil))))))))))))))) (fun s30 => (run_last (run_asg (bind := fun (x : Int) (r : Evr) => (r.set 1 (some (.fz x)))) (ev_fz rfl) tg_S (fun v31 => (run_next (s := (v31, s30)) (.keep (.keep (.drop (.drop (.drop (.drop (.drop Wk.nil))))))))))))))))) (fun s33 => (run_ifS (evT_T (ev_eqD (mr := .F) (by decide) (ev_mx rfl) (EvN.H (en_nil (α := (List Int)))))) (run_cutR (run_ret (ev_int (md := .F)))) (run_skip (run_ret (Ev.sc (md' := .F) (ev_ix (ev_ix (ev_mx rfl) (ev_neg (mr := .F) (ev_int (md := .F)))) (ev_neg (mr := .F) (ev_int (md := .F))))))))))))))
  exact h
theorem run_worth_of {G : Gb} {vs : List V} {H : Hp} {Q : VK} {E : XK} (h : sp_worth_of G vs H Q E) : t_worth_of G (dEnd Q) (start n_worth_of vs) H := spA_run (n := 6) h (fun _ => rfl) fun p B => rn_worth_of p
abbrev n_tree_count : List Str := ["rows"]
noncomputable def F_tree_count (p0 : (List (Str × (List Str)))) : M Int :=
  (M.b (M.cl (F_table_without_first p0)) fun x1 => (M.cl (F_worth_of x1)))
def sp_tree_count (G : Gb) : Sp := spA G (fun (p : (List (Str × (List Str)))) => [.bw p]) (rpF G) (fun (p : (List (Str × (List Str)))) => F_tree_count p)
def t_tree_count (G : Gb) : TS :=
  (tRet (tCall (sp_worth_of G) [] E0 (tCons (tCall (sp_table_without_first G) [] E0 (tCons (tVar 0) tNil)) tNil)))
theorem len_tree_count {G : Gb} (vs : List V) (H : Hp) (Q : VK) (E : XK) (h : sp_tree_count G vs H Q E) : vs.length = 1 := spA_len h fun _ => rfl
theorem rn_tree_count {G : Gb} {B : Hp} {E : XK} (p0 : (List (Str × (List Str)))) : Run G B E (oR G B (rpF G)) [some (.bw p0)] (t_tree_count G) (F_tree_count p0) := by
  have h : Run G B E (oR G B (rpF G)) [some (.bw p0)] (t_tree_count G) _ := (run_ret (ev_call1 (f := F_worth_of) (EvN.H (en_call1 (f := F_table_without_first) (ev_bw rfl) ps_B)) ps_B))
  exact h
theorem run_tree_count {G : Gb} {vs : List V} {H : Hp} {Q : VK} {E : XK} (h : sp_tree_count G vs H Q E) : t_tree_count G (dEnd Q) (start n_tree_count vs) H := spA_run (n := 0) h (fun _ => rfl) fun p B => rn_tree_count p
end Tw
set_option Elab.async false
set_option linter.all false
set_option maxRecDepth 100000
set_option maxHeartbeats 4000000
namespace Tw
open PySem PySem.Spec L2
open PyProof.Rows hiding St
section
variable {prog : Program} {w : World} {A : Around} {E : Value → Shared → Prop} {s : Shared} {it l S : Addr} {xs : Array Value}
/-- what one gets who goes from the end -/
abbrev FromEnd (xs : Array Value) : Nat → Value → Prop := fun i v => xs[xs.size - 1 - i]? = some v
theorem ext_rev {R : Result → Shared → Prop} (calm : A.handled = none) (back : Value) (cap : Nat) (hi : s.heap.IsRevIter it l ((xs.size : Int) - 1)) (hl : s.heap.IsList l xs) (ne : l ≠ it) (n1 : S ≠ it) (n2 : S ≠ l)
    (hS : s.heap.get? S = some { cls := .type "list", data := .seq #[] cap }) (hn : xs.size ≤ sizeLine)
    (k : ∀ h' tk a' c', (∀ b o, b ≠ S → b ≠ it → s.heap.get? b = some o → h'.get? b = some o) → h'.get? S = some { cls := .type "list", dict := none, data := .seq a' c', slots := #[] } → ItemsOf (FromEnd xs) a' xs.size → R (.ok (.ret back)) { s with heap := h', toks := tk }) :
    wpAny (model prog w) A.in1 (Builtin.List.listExtendWith (.ref S) (.ref it) back) (fun fin s' => match fin with | .done f => R (.ok f) s' | .again c' => c'.quiet = true ∧ codeAny (model prog w) A c' R s') (fun e s' => R (.error e) s') s := by
  have wk := (Walks.listRev (prog := prog) (w := w) (A := A.in1) calm it l ne xs).toS
  have out : S ∉ [it, l] := by simp [n1, n2]
  have ty : s.TypeIs (.ref it) "list_reverseiterator" := hi.typeIs
  have other : Builtin.List.listSameRef (.ref S) (.ref it) = false := by simp [Builtin.List.listSameRef, n1]
  unfold Builtin.List.listExtendWith
  refine wpAny_bind (wpAny_typeOf ty ?_)
  rw [if_neg (by rw [other]; decide)]
  refine wpAny_bind (wpAny_pyIter_revIter hi (wpAny_bind (wpAny_holding ?_)))
  unfold Builtin.List.listLengthHint
  refine wpAny_bind (wpAny_specialOf ty RT.nolen_lri ?_)
  show wpAny _ A.in1 (specialOf (Value.ref it) (Str.ofString "__length_hint__") >>= _) _ _ _
  refine wpAny_bind (wpAny_specialOf ty RT.hint_lri ?_)
  generalize nm : ("list_reverseiterator.__length_hint__" : String) = nm0
  wp_delta
  rw [show splitId nm0 = some ("list_reverseiterator", "__length_hint__") from by subst nm; decide +kernel]
  subst nm
  refine wpAny_bind (wpAny_isInstance (b := true) ty (by rw [isSubtype_type]; kernel_rfl) (wpAny_pure ?_))
  rw [if_neg (by decide)]
  have z0 : ((xs.size : Nat) : Int) - 1 - ((0 : Nat) : Int) = (xs.size : Int) - 1 := by omega
  refine wpAny_pure ⟨plainId_quiet F.plain_extend_loop _, codeAny_extend_loopS wk hn _ out _ xs.size 0 _ _ _ rfl (Nat.zero_le _) ⟨Nat.zero_le _, by rw [z0]; exact hi, hl⟩ hS (ItemsOf.nil _) fun s' a' c' mv hS' hit => ?_⟩
  rw [Moved.eq_with mv]
  refine k s'.heap s'.toks a' c' (fun b o b1 b2 e => mv.heap b o (fun z => ?_) e) hS' hit
  rcases List.mem_cons.mp z with z | z
  · exact b1 z
  · exact b2 (List.mem_singleton.mp z)
theorem init_rev {R : Result → Shared → Prop} (calm : A.handled = none) (hi : s.heap.IsRevIter it l ((xs.size : Int) - 1)) (hl : s.heap.IsList l xs) (ne : l ≠ it) (n1 : S ≠ it) (n2 : S ≠ l)
    (hS : s.heap.get? S = some { cls := .type "list", data := .seq #[] }) (hn : xs.size ≤ sizeLine)
    (k : ∀ h' tk a' c', (∀ b o, b ≠ S → b ≠ it → s.heap.get? b = some o → h'.get? b = some o) → h'.get? S = some { cls := .type "list", dict := none, data := .seq a' c', slots := #[] } → ItemsOf (FromEnd xs) a' xs.size → R (.ok (.ret .none)) { s with heap := h', toks := tk }) :
    wpAny (model prog w) A.in1 (Builtin.«list.__init__» ⟨[.ref S, .ref it], []⟩) (fun fin s' => match fin with | .done f => R (.ok f) s' | .again c' => c'.quiet = true ∧ codeAny (model prog w) A c' R s') (fun e s' => R (.error e) s') s := by
  show wpAny _ A.in1 (do let was ← Builtin.List.listItems (.ref S); Builtin.List.listUpdate (.ref S) (fun _ => #[]); letGo was.toList.reverse; Builtin.List.listExtendWith (.ref S) (.ref it) .none) _ _ s
  refine wpAny_bind ?_
  unfold Builtin.List.listItems
  refine wpAny_bind (wpAny_seqItems hS rfl (wpAny_pure ?_))
  show wpAny _ A.in1 (updateSeq S (fun _ => #[]) >>= fun _ => letGo (#[] : Array Value).toList.reverse >>= fun _ => Builtin.List.listExtendWith (.ref S) (.ref it) .none) _ _ s
  refine wpAny_bind (wpAny_updateSeq hS rfl ?_)
  have at2 := Heap.get?_update_self (Obj.mapSeq (fun _ => (#[] : Array Value))) hS rfl
  have keep : ∀ b o, b ≠ S → s.heap.get? b = some o → (s.heap.update S (Obj.mapSeq (fun _ => (#[] : Array Value)))).get? b = some o := fun b o nb e => (Heap.get?_update_other _ _ (Ne.symm nb)).trans e
  have hl2 : (s.heap.update S (Obj.mapSeq (fun _ => (#[] : Array Value)))).IsList l xs := by
    obtain ⟨o, ho, r⟩ := hl
    exact ⟨o, keep l o (Ne.symm n2) ho, r⟩
  refine wpAny_bind (wpAny_letGo ?_)
  exact ext_rev calm .none _ (hi.at fun o e => keep it o (Ne.symm n1) e) hl2 ne n1 n2 at2 hn fun h' tk a' c' kp hS' h => k h' tk a' c' (fun b o b1 b2 e => kp b o b1 b2 (keep b o b1 e)) hS' h
theorem call_listRev {Q : Value → Shared → Prop} (calm : A.handled = none) (hi : s.heap.IsRevIter it l ((xs.size : Int) - 1)) (hl : s.heap.IsList l xs) (ne : l ≠ it) (hn : xs.size ≤ sizeLine)
    (k : ∀ h' tk a' c', (∀ b o, b ≠ it → s.heap.get? b = some o → h'.get? b = some o) → h'.get? s.heap.objs.size = some { cls := .type "list", dict := none, data := .seq a' c', slots := #[] } → ItemsOf (FromEnd xs) a' xs.size → Q (.ref s.heap.objs.size) { s with heap := h', toks := tk }) :
    wpAny (model prog w) A (call (.type "list") [.ref it]) Q E s := by
  obtain ⟨oi, hoi, _⟩ := id hi
  obtain ⟨ol, hol, _⟩ := id hl
  refine callType_codes (Q₁ := fun obj s₁ => obj = .ref s.heap.objs.size ∧ s₁ = { s with heap := s.heap.push { cls := .type "list", data := .seq #[] } }) F.called_list (F.typeCall_list_1 _) F.entry_list_init (code_list_new _ ⟨rfl, rfl⟩) ?_
  rintro obj s₁ ⟨rfl, rfl⟩
  have new : (s.heap.push { cls := .type "list", data := .seq #[] }).get? s.heap.objs.size = some { cls := .type "list", data := .seq #[] } := Heap.get?_push_size _ rfl
  refine ⟨⟨_, new, rfl⟩, F.args_list_init_2 _ _, init_rev (A := A.in1) calm (hi.at fun o e => Heap.get?_push_of_some _ e) (hl.push _) ne (Nat.ne_of_gt (Heap.lt_size hoi)) (Nat.ne_of_gt (Heap.lt_size hol)) new hn fun h' tk a' c' kp hS' h => ?_⟩
  exact ⟨rfl, k h' tk a' c' (fun b o nb e => kp b o (Nat.ne_of_lt (Heap.lt_size e)) nb (Heap.get?_push_of_some _ e)) hS' h⟩
end
/-- list(reversed(x)), x a list: a new list -/
def tLstRev (K : PySem.W.Frag) (te : TE) : TE := fun σ H Q => te σ H fun v H1 => ∃ (a : Addr) (xs : List V), v = .ref a ∧ SqL K H1 a xs ∧ ∀ q, H1 q = none → Q (.ref q) (upd H1 q (.lst xs.reverse))
theorem pe_listRev {X : Cx} {e : Expr} {te : TE} {p p2 pos pos2 : Pos} (hc : X.calm = true) (g1 : Gl X "list") (m1 : X.mg "list" = none) (g2 : Gl X "reversed") (m2 : X.mg "reversed" = none) (he : PE X e te)
    (st : starEach [e] X.env = (false, eval e X.env) :: starEach [] X.env := by rfl) (st2 : starEach [.Call (.Name "reversed" p2) [e] [] pos2] X.env = (false, eval (.Call (.Name "reversed" p2) [e] [] pos2) X.env) :: starEach [] X.env := by rfl) :
    PE X (.Call (.Name "list" p) [.Call (.Name "reversed" p2) [e] [] pos2] [] pos) (tLstRev X.K te) := by
  refine ⟨fun pins s σ H Q I h => ?_⟩
  refine Call_ (ld_blt I g1 m1 boot_list (PyProof.Rows.callWith_type1 (args_cons (Call_ (ld_blt I g2 m2 PyProof.Rows.boot_reversed (PyProof.Rows.callWith_type1 (args_cons (thn (he.run pins s σ H _ I h) fun u s1 ⟨v, H1, I1, r1, q1⟩ => args_nil ?_) st) st rfl))) st2) st2 rfl))
  obtain ⟨a, xs, rfl, hq, q⟩ := q1
  obtain rfl : u = Value.ref a := r1
  obtain ⟨its, rv, pl, hz⟩ := I1.list hq
  refine call_reversed_list pl.isList (args_nil ?_)
  have hl := pl.isList
  obtain ⟨ol, hol, _⟩ := id hl
  have hn : its.toArray.size ≤ sizeLine := by rw [List.size_toArray, ← rv.length]; exact hz
  refine call_listRev (s := { s1 with heap := s1.heap.push (revObj a ((its.toArray.size : Int) - 1)) }) (I1.ok.hd hc) ⟨_, Heap.get?_push_size _ rfl, rfl, rfl⟩ (hl.push _) (Nat.ne_of_lt (Heap.lt_size hol)) hn fun h' tk acc c' hk hS hi => ?_
  have le : s1.heap.objs.size ≤ (s1.heap.push (revObj a ((its.toArray.size : Int) - 1))).objs.size := by
    show s1.heap.objs.size ≤ (s1.heap.objs.push _).size
    rw [Array.size_push]
    exact Nat.le_succ _
  refine ⟨.ref _, upd H1 _ (.lst xs.reverse), I1.laid (t' := tk) (fun b o e => hk b o (Nat.ne_of_lt (Heap.lt_size e)) (Heap.get?_push_of_some _ e)) le (show ObjOk X.prog X.w _ _ _ (.lst xs.reverse) from ⟨?_, acc.toList, c', RT.vals_rev rv hi, ?_⟩), rfl, q _ (I1.hok.fresh le)⟩
  · rw [List.length_reverse]; exact hz
  · rw [Array.toArray_toList]; exact hS
section
variable {G : Gb} {B : Hp} {E : XK} {ρ : Evr} {α : Type} [Rp α] {te : TE} {md : Md}
theorem en_listRev {m : M (List α)} (ha : EvS G B E ρ te m) : EvN G B E ρ (tLstRev G.K te) (m.b fun xs => .ok xs.reverse) := fun F0 F σ H Q R q =>
  ha.go R q fun xs F1 p vs H1 e1 h1 h2 R1 q => ⟨p, vs, rfl, .of h1, fun d nd =>
    q F1 d _ _ (e1.trans (.new nd)) (R1.sF.trans (same_upd nd)) (e1.h.free nd) (R1.sF.free nd) upd_same ⟨_, rfl, All2.rev h2⟩⟩
/-- list(range(n)) -/
theorem en_listRg {m : M Int} (ha : Ev G B E md ρ te m) : EvN G B E ρ (tLstRg (tRg1 te)) (m.b fun n => .chk (0 ≤ n ∧ n ≤ 16777216) (.ok (rng 0 n))) := fun F0 F σ H Q R q =>
  ha.go R q fun n F1 v H1 e1 r1 R1 q => by
    obtain ⟨⟨c1, c2⟩, q⟩ := M.P_chk.mp q
    refine ⟨n, r1, .of_le (by omega) c2 (by omega) c1, fun d nd => ?_⟩
    refine q F1 d _ _ (e1.trans (.new nd)) (R1.sF.trans (same_upd nd)) (e1.h.free nd) (R1.sF.free nd) upd_same ⟨_, rfl, ?_⟩
    have e : rgV 0 n = (rng 0 n).map V.int := by
      unfold rgV rng
      rw [List.map_map]
      rfl
    rw [e]
    exact All2.of_map (f := V.int) (fun _ => rfl) _
end
end Tw
set_option Elab.async false
set_option linter.all false
set_option maxRecDepth 100000
set_option maxHeartbeats 4000000
namespace Tw
open PySem PySem.Spec L2 TL
open PyProof.Rows hiding St
/-- one list of texts ahead of another -/
def ltLS : List Str → List Str → Bool
  | [], [] => false
  | [], _ :: _ => true
  | _ :: _, [] => false
  | x :: xs, y :: ys => if x = y then ltLS xs ys else decide (tl x < tl y)
theorem tl_lt_tri {x y : Str} (h : ¬ tl x < tl y) (e : x ≠ y) : tl y < tl x := by
  rcases List.le_iff_lt_or_eq.mp (List.not_lt.mp h) with z | z
  · exact z
  · exact absurd (ext_tl z).symm e
theorem ltLS_asym : ∀ xs ys : List Str, ltLS xs ys = true → ltLS ys xs = false
  | [], [], h => by cases h
  | [], y :: ys, _ => rfl
  | x :: xs, [], h => by cases h
  | x :: xs, y :: ys, h => by
    unfold ltLS at h ⊢
    by_cases e : x = y
    · rw [if_pos e] at h
      rw [if_pos e.symm]
      exact ltLS_asym xs ys h
    · rw [if_neg e] at h
      rw [if_neg (Ne.symm e)]
      exact decide_eq_false (List.lt_asymm (of_decide_eq_true h))
theorem ltLS_tr : ∀ xs ys zs : List Str, ltLS ys xs = false → ltLS zs ys = false → ltLS zs xs = false
  | [], ys, zs, _, _ => by cases zs <;> rfl
  | x :: xs, [], zs, h, _ => by cases h
  | x :: xs, y :: ys, [], _, h => by cases h
  | x :: xs, y :: ys, z :: zs, h1, h2 => by
    unfold ltLS at h1 h2 ⊢
    by_cases e1 : y = x
    · rw [if_pos e1] at h1
      by_cases e2 : z = y
      · rw [if_pos e2] at h2
        rw [if_pos (e2.trans e1)]
        exact ltLS_tr xs ys zs h1 h2
      · rw [if_neg e2] at h2
        rw [if_neg (fun q => e2 (q.trans e1.symm)), ← e1]
        exact h2
    · rw [if_neg e1] at h1
      have a := of_decide_eq_false h1
      by_cases e2 : z = y
      · rw [if_neg (fun q => e1 (e2.symm.trans q)), e2]
        exact h1
      · rw [if_neg e2] at h2
        have b := of_decide_eq_false h2
        have c : tl x < tl y := tl_lt_tri a e1
        have d : tl y < tl z := tl_lt_tri b e2
        have f := List.lt_trans c d
        have n : ¬ z = x := fun q => by rw [q] at f; exact List.lt_irrefl _ f
        rw [if_neg n]
        exact decide_eq_false (List.lt_asymm f)
theorem ltLS_swo {α : Type} (k : α → List Str) : SrtO.Swo (fun v u : α => ltLS (k v) (k u)) := ⟨fun x y h => ltLS_asym _ _ h, fun x y z h1 h2 => ltLS_tr _ _ _ h1 h2⟩
theorem ltLS_eq : ∀ {xs ys : List Str}, ltLS xs ys = false → ltLS ys xs = false → xs = ys
  | [], [], _, _ => rfl
  | [], y :: ys, h, _ => by cases h
  | x :: xs, [], _, h => by cases h
  | x :: xs, y :: ys, h1, h2 => by
    unfold ltLS at h1 h2
    by_cases e : x = y
    · rw [if_pos e] at h1
      rw [if_pos e.symm] at h2
      rw [e, ltLS_eq h1 h2]
    · rw [if_neg e] at h1
      rw [if_neg (Ne.symm e)] at h2
      exact absurd (tl_lt_tri (of_decide_eq_false h1) e) (of_decide_eq_false h2)
theorem firstLt_map {e r : Nat → Bool} {fin : Bool} : ∀ l : List Nat, SeqAt.firstLt e r fin (l.map Nat.succ) = SeqAt.firstLt (fun j => e (j + 1)) (fun j => r (j + 1)) fin l
  | [] => rfl
  | j :: t => by
    rw [List.map_cons]
    unfold SeqAt.firstLt
    rw [firstLt_map t]
theorem firstLt_ls : ∀ (xs ys : List Str), SeqAt.firstLt (fun j => xs.getD j default == ys.getD j default) (fun j => decide (tl (xs.getD j default) < tl (ys.getD j default))) (decide (xs.length < ys.length)) (List.range (min xs.length ys.length)) = ltLS xs ys
  | [], [] => rfl
  | [], y :: ys => by
    rw [show min ([] : List Str).length (y :: ys).length = 0 by simp]
    show decide _ = true
    exact decide_eq_true (Nat.succ_pos _)
  | x :: xs, [] => by
    rw [show min (x :: xs).length ([] : List Str).length = 0 by simp]
    show decide _ = false
    exact decide_eq_false (by simp)
  | x :: xs, y :: ys => by
    have e1 : min (x :: xs).length (y :: ys).length = min xs.length ys.length + 1 := by simp only [List.length_cons]; omega
    rw [e1, List.range_succ_eq_map]
    unfold ltLS
    have ih := firstLt_ls xs ys
    by_cases e : x = y
    · rw [if_pos e, SeqAt.firstLt_yes (by show (x == y) = true; rw [e]; exact beq_self_eq_true _), firstLt_map, ← ih]
      have e2 : decide ((x :: xs).length < (y :: ys).length) = decide (xs.length < ys.length) := by
        rw [decide_eq_decide, List.length_cons, List.length_cons]
        omega
      rw [e2]
      rfl
    · rw [if_neg e, SeqAt.firstLt_no (by show (x == y) = false; exact beq_eq_false_iff_ne.mpr e)]
      rfl
/-- v is a list that holds these texts -/
def IsLs (h : Heap) (v : Value) (xs : List Str) : Prop := ∃ (a : Addr) (its : List Value) (n : Nat), v = .ref a ∧ h.get? a = some (seqObj "list" its.toArray n) ∧ Vals (xs.map V.str) its
theorem IsLs.keeps {h h' : Heap} {v : Value} {xs : List Str} (x : IsLs h v xs) (k : ∀ b o, v = .ref b → h.get? b = some o → h'.get? b = some o) : IsLs h' v xs := by
  obtain ⟨a, its, n, e, g, i⟩ := x
  exact ⟨a, its, n, e, k _ _ e g, i⟩
theorem vals_str_at : ∀ {xs : List Str} {its : List Value}, Vals (xs.map V.str) its → ∀ {j : Nat} (h : j < its.length), ∃ t, its[j] = Value.str (xs.getD j default) t
  | [], _, r, j, h => by
    cases r
    cases h
  | x :: xs, _, r, j, h => by
    rw [List.map_cons] at r
    cases r with
    | cons h1 q =>
      cases j with
      | zero =>
        obtain ⟨t, rfl⟩ := h1
        exact ⟨t, rfl⟩
      | succ j => exact vals_str_at q (Nat.lt_of_succ_lt_succ h)
section
variable {prog : Program} {w : World} {A : Around} {s : Shared}
theorem lt_ls {v u : Value} {xs ys : List Str} {Q : Bool → Shared → Prop} {E : Value → Shared → Prop} (hu : A.units < cLine) (hv : IsLs s.heap v xs) (hw : IsLs s.heap u ys) (h : Q (ltLS xs ys) s) : wpAny (model prog w) A (keyLt' oneType' v u) Q E s := by
  obtain ⟨a, its, n, rfl, ga, ra⟩ := hv
  obtain ⟨b, its2, n2, rfl, gb, rb⟩ := hw
  have l1 : its.length = xs.length := by have := ra.length; rw [List.length_map] at this; exact this.symm
  have l2 : its2.length = ys.length := by have := rb.length; rw [List.length_map] at this; exact this.symm
  rw [keyLt'_oneType, oneLt'_eq]
  simp only [if_true]
  refine wpAny_bind (wpAny_cRoomFor hu ?_)
  refine wpAny_bind (PySem.wpAny_callSpecialIfBound?_slot (T := "list") ⟨_, ga, rfl⟩ PySem.F.slot_list_lt (PySem.SeqAt.call_list_lt (e := fun j => xs.getD j default == ys.getD j default) (r := fun j => decide (tl (xs.getD j default) < tl (ys.getD j default))) ⟨_, ga, rfl, _, rfl⟩ ⟨_, gb, rfl, _, rfl⟩ (fun j j1 j2 => ?_) (fun j j1 j2 hj => ?_) ?_))
  · obtain ⟨t1, e1⟩ := vals_str_at ra (j := j) (by simpa using j1)
    obtain ⟨t2, e2⟩ := vals_str_at rb (j := j) (by simpa using j2)
    have z1 : its.toArray[j] = its[j]'(by simpa using j1) := by simp
    have z2 : its2.toArray[j] = its2[j]'(by simpa using j2) := by simp
    rw [z1, z2, e1, e2]
    exact PySem.SeqAt.EqAt.str_str _ _ _ _
  · obtain ⟨t1, e1⟩ := vals_str_at ra (j := j) (by simpa using j1)
    obtain ⟨t2, e2⟩ := vals_str_at rb (j := j) (by simpa using j2)
    have z1 : its.toArray[j] = its[j]'(by simpa using j1) := by simp
    have z2 : its2.toArray[j] = its2[j]'(by simpa using j2) := by simp
    rw [z1, z2, e1, e2]
    intro prog' w' E' Q' hq
    exact DT.rcLt_str _ _ _ _ _ _ prog' w' E' Q' hq
  · refine wpAny_truthy_bool ?_
    have := firstLt_ls xs ys
    rw [← l1, ← l2] at this
    rw [show (its.toArray).size = its.length by simp, show (its2.toArray).size = its2.length by simp, this]
    exact h
theorem ls_sortable {a : Addr} {vs : List Value} {k : Value → List Str} (h2 : 2 ≤ vs.length) (hu : A.units < cLine) (hv : ∀ v ∈ vs, IsLs s.heap v (k v)) (ha : ∀ v ∈ vs, v ≠ .ref a) :
    SrtO.SortableO prog w A s a vs fun v u => ltLS (k v) (k u) := by
  intro h' keep
  have hv' : ∀ v ∈ vs, IsLs h' v (k v) := fun v hm => (hv v hm).keeps fun b o e g => keep b o (fun z => ha v hm (by rw [e, z])) g
  refine ⟨oneType', fun Q E hq => ?_, fun p q hp hq => lt_ls (s := { s with heap := h' }) (Q := fun r s' => s' = { s with heap := h' } ∧ r = ltLS (k p.1) (k q.1)) (E := fun _ _ => False) hu (hv' p.1 hp) (hv' q.1 hq) ⟨rfl, rfl⟩⟩
  refine PySem.W.kas_kind (s := { s with heap := h' }) (T := .type "list") h2 (fun v hm => ?_) (by rfl) (by rfl) hq
  obtain ⟨b, its, n, rfl, g, _⟩ := hv' v hm
  exact (PySem.W.Looks.ld g).andThen .now
end
/-- sorted(xs), xs a list of lists of texts (k says which): a new list, sorted -/
def rSortedLs (K : PySem.W.Frag) : List V → Hp → VK → Prop := fun vs H Q => ∃ (a : Addr) (xs : List V) (k : V → List Str), vs = [V.ref a] ∧ SqL K H a xs ∧ (∀ x ∈ xs, ∃ t, x = V.ref t ∧ H t = some (.lst ((k x).map V.str))) ∧
  ∀ ys p, SrtO.Srtd (fun x y => ltLS (k x) (k y)) ys → ys.Perm xs → H p = none → Q (.ref p) (upd H p (.lst ys))
section
variable {X : Cx}
theorem cr_sortedLs (hu : X.A.units + 64 < cLine) : CallR X (.builtin "sorted") (rSortedLs X.K) := by
  intro pins s σ H vs us Q I r h
  obtain ⟨a, xs, k, rfl, hs, hx, q⟩ := h
  obtain rfl := Vals.ref1 r
  obtain ⟨its, rv, hl, hz⟩ := I.list hs
  obtain ⟨e1, e2⟩ := refs_back rv fun x m => by
    obtain ⟨t, e, _⟩ := hx x m
    exact ⟨t, e⟩
  have hp : ∀ v ∈ its, IsLs s.heap v (k (backV v)) := fun v hv => by
    obtain ⟨t, rfl⟩ := e2 v hv
    have hm : V.ref t ∈ xs := by rw [e1]; exact List.mem_map.mpr ⟨_, hv, rfl⟩
    obtain ⟨t', e, ht⟩ := hx _ hm
    cases e
    obtain ⟨_, its2, n, r2, ho⟩ := I.hok _ _ ht
    exact ⟨t, its2, n, rfl, ho, r2⟩
  refine SrtO.sorted_ord (ltLS_swo fun u => k (backV u)) hl.isList (by rw [← rv.length]; exact hz) (fun h2 h₁ a' ha' kk => ls_sortable h2 (by have h : X.A.in1.in1.units = X.A.units + 1 + 1 := rfl; omega) (fun v hv => (hp v hv).keeps fun b o _ e => (kk b o e).2) fun v hv z => ?_) fun out h1 h2 => ?_
  · obtain ⟨b, its2, n, e, g, _⟩ := hp v hv
    rw [e] at z
    exact (kk b _ g).1 (Value.ref.inj z)
  · have h2p : out.Perm its := h2.perm
    have h3 : ∀ u ∈ out, ∃ a, u = Value.ref a := fun u hu => e2 u (h2p.mem_iff.mp hu)
    have hb : (out.map backV).Perm xs := by
      rw [e1]
      exact h2p.map backV
    obtain ⟨ep, he'⟩ := PyProof.Rows.sortedAll_at s.heap its out.toArray
    have hlen : (out.map backV).length ≤ sizeLine := by
      rw [hb.length_eq]
      exact hz
    exact ⟨.ref _, upd H (s.heap.objs.size + 1) (.lst (out.map backV)), I.laid (t' := s.toks) (fun _ _ => PyProof.Rows.sortedAll_old) (Nat.le_succ _) ⟨hlen, out, ep, vals_back h3, by simpa using he'⟩, rfl, q _ _ (SrtO.srtd_map h1) hb (I.hok.fresh (Nat.le_succ _))⟩
end
def leLS (a b : List Str) : Bool := !ltLS b a
def srtLs (l : List (List Str)) : List (List Str) := l.mergeSort leLS
theorem leLS_trans (a b c : List Str) (h1 : leLS a b = true) (h2 : leLS b c = true) : leLS a c = true := by
  unfold leLS at *
  rw [Bool.not_eq_true'] at *
  exact ltLS_tr _ _ _ h1 h2
theorem leLS_total (a b : List Str) : (leLS a b || leLS b a) = true := by
  unfold leLS
  cases h : ltLS b a with
  | false => rfl
  | true => rw [ltLS_asym _ _ h]; rfl
theorem leLS_anti {a b : List Str} (h1 : leLS a b = true) (h2 : leLS b a = true) : a = b := by
  unfold leLS at *
  rw [Bool.not_eq_true'] at *
  exact ltLS_eq h2 h1
theorem srtLs_perm (l : List (List Str)) : (srtLs l).Perm l := List.mergeSort_perm l leLS
theorem srtLs_uniq {l m : List (List Str)} (h : m.Pairwise fun a b => leLS a b = true) (p : m.Perm l) : m = srtLs l :=
  (p.trans (List.mergeSort_perm l leLS).symm).eq_of_pairwise (fun _ _ _ _ a b => leLS_anti a b) h (List.pairwise_mergeSort leLS_trans leLS_total l)
theorem srtLs_congr {l m : List (List Str)} (p : l.Perm m) : srtLs l = srtLs m := srtLs_uniq (List.pairwise_mergeSort leLS_trans leLS_total l) ((srtLs_perm l).trans p)
section
variable {G : Gb} {B : Hp} {E : XK} {ρ : Evr} {te : TE}
theorem ls_key {H : Hp} : ∀ {vs : List V} {l : List (List Str)}, reps G H vs l → ∃ k : V → List Str, (∀ v ∈ vs, ∃ t, v = V.ref t ∧ H t = some (.lst ((k v).map V.str))) ∧ vs.map k = l := by
  intro vs l h
  classical
  let k : V → List Str := fun v => if z : ∃ x : List Str, rep G H v x then z.choose else []
  have str_of : ∀ {us : List V} {x : List Str}, reps G H us x → us = x.map V.str := by
    intro us x hx
    induction hx with
    | nil => rfl
    | cons h1 t ih =>
      rw [List.map_cons, ← ih]
      exact congrArg (· :: _) h1
  have uni : ∀ {v : V} {x y : List Str}, rep G H v x → rep G H v y → x = y := by
    rintro v x y ⟨p, us, rfl, h1, r1⟩ ⟨q, us2, e, h2, r2⟩
    cases e
    rw [h1] at h2
    injection h2 with h2
    injection h2 with h2
    rw [str_of r1, str_of r2] at h2
    exact List.map_inj_right (fun _ _ z => V.str.inj z) |>.mp h2
  have kx : ∀ {v : V} {x : List Str}, rep G H v x → k v = x := fun {v x} hx => by
    have z : ∃ x : List Str, rep G H v x := ⟨x, hx⟩
    show (if z : ∃ x : List Str, rep G H v x then z.choose else []) = x
    rw [dif_pos z]
    exact uni z.choose_spec hx
  refine ⟨k, fun v hv => ?_, ?_⟩
  · obtain ⟨i, hi⟩ := List.mem_iff_getElem?.mp hv
    obtain ⟨x, _, hx⟩ := h.get hi
    rw [kx hx]
    obtain ⟨p, us, rfl, h1, r1⟩ := hx
    rw [str_of r1] at h1
    exact ⟨p, rfl, h1⟩
  · induction h with
    | nil => rfl
    | cons hx t ih => rw [List.map_cons, kx hx, ih]
theorem str_reps {H : Hp} : ∀ (x : List Str), reps G H (x.map V.str) x
  | [] => .nil
  | _ :: r => .cons rfl (str_reps r)
theorem ls_of_key {H : Hp} {k : V → List Str} : ∀ {vs : List V}, (∀ v ∈ vs, ∃ t, v = V.ref t ∧ H t = some (.lst ((k v).map V.str))) → reps G H vs (vs.map k)
  | [], _ => .nil
  | v :: r, h => .cons (by obtain ⟨t, e, ht⟩ := h v List.mem_cons_self; exact ⟨t, _, e, ht, str_reps _⟩) (ls_of_key fun u hu => h u (List.mem_cons_of_mem _ hu))
theorem en_sortLs {m : M (List (List Str))} (h : EvS G B E ρ te m) : EvN G B E ρ (tCB (rSortedLs G.K) (tCons te tNil)) (m.b fun l => .ok (srtLs l)) := fun F0 F σ H Q R q =>
  h.go R q fun l F1 p vs H1 e1 h1 h2 R1 q => by
    obtain ⟨k, k1, k2⟩ := ls_key h2
    refine ⟨p, vs, k, rfl, .of h1, fun v hv => ?_, fun ys d hs hp nd => ?_⟩
    · obtain ⟨t, e, ht⟩ := k1 v hv
      exact ⟨t, e, R1.sF _ _ ht⟩
    · refine q F1 d _ _ (e1.trans (.new nd)) (R1.sF.trans (same_upd nd)) (e1.h.free nd) (R1.sF.free nd) upd_same ⟨_, rfl, ?_⟩
      have hy : reps G F1 ys (ys.map k) := ls_of_key fun v hv => k1 v (hp.mem_iff.mp hv)
      have := srtLs_uniq (l := l) (m := ys.map k) (List.pairwise_map.mpr (hs.imp fun z => by show (!_) = true; rw [show ltLS _ _ = false from z]; rfl)) (by rw [← k2]; exact hp.map k)
      rw [← this]
      exact hy
end
end Tw
set_option Elab.async false
set_option linter.all false
set_option maxRecDepth 100000
set_option maxHeartbeats 4000000
namespace Tw
open PySem PySem.Spec L2 TL
open PyProof.Rows hiding St
abbrev n_made_one : List Str := ["parts", "one", "other", "made", "part"]
noncomputable def F_made_one (p0 : (List Int)) (p1 : Int) (p2 : Int) : M (List Int) :=
  (M.b (M.ok ([] : (List Int))) fun v1 => (M.b (M.for_ (fun (s2 : (List Int)) (x3 : Int) => (M.b (M.b (M.get (atI p0 p2)) fun x4 => (M.ok (decide (x3 = x4)))) fun x7 => (if x7 = true then (M.b (M.get (atI p0 p1)) fun a5 => M.chk (s2.length < sizeLine) (M.ok (s2 ++ [a5]))) else (M.b (M.ok x3) fun a6 => M.chk (s2.length < sizeLine) (M.ok (s2 ++ [a6])))))) p0 v1) fun s8 => (M.ok s8)))
def sp_made_one (G : Gb) : Sp := spA G (fun (p : (List Int) × Int × Int) => [.bw (p.1), .fz (p.2.1), .fz (p.2.2)]) (rpN G) (fun (p : (List Int) × Int × Int) => F_made_one (p.1) (p.2.1) (p.2.2))
def t_made_one (G : Gb) : TS :=
  (tSeq (tAsg (tLst tNil) (gName 3)) (tSeq (tFor (iList G.K (tVar 0)) (gName 4)
  (tIfS (tTest (tOp rEq (tVar 4) (tOp (rIxL G.K) (tVar 0) (tVar 2))))
  (tDrop (tBM G.K "list" rAppend (tVar 3) (tCons (tOp (rIxL G.K) (tVar 0) (tVar 1)) tNil)))
  (tDrop (tBM G.K "list" rAppend (tVar 3) (tCons (tVar 4) tNil)))))
  (tRet (tVar 3))))
theorem len_made_one {G : Gb} (vs : List V) (H : Hp) (Q : VK) (E : XK) (h : sp_made_one G vs H Q E) : vs.length = 3 := spA_len h fun _ => rfl
theorem rn_made_one {G : Gb} {B : Hp} {E : XK} (p0 : (List Int)) (p1 : Int) (p2 : Int) : Run G B E (oR G B (rpN G)) [some (.bw p0), some (.fz p1), some (.fz p2), none, none] (t_made_one G) (F_made_one p0 p1 p2) := by
  have h : Run G B E (oR G B (rpN G)) [some (.bw p0), some (.fz p1), some (.fz p2), none, none] (t_made_one G) _ := (run_asgN (en_nil (α := Int)) (fun v1 => (run_seq (EX := fun (s : (List Int)) => [some (.bw p0), some (.fz p1), some (.fz p2), some (.ow s), none]) (run_for (bind := fun (x : Int) (r : Evr) => (r.set 4 (some (.fz x)))) (s0 := v1) (ew_B (ev_bw rfl) tg_S) (.keep (.keep (.keep (.keep (.drop Wk.nil))))) (fun s2 x3 => (run_if (evT_T (ev_eq (mr := .F) (ev_fz rfl) (ev_ix (ev_bw rfl) (ev_fz rfl)))) (run_last (run_append rfl (Ev.sc (md' := .F) (ev_ix (ev_bw rfl) (ev_fz rfl))) (fun a5 => (run_next (s := (s2 ++ [a5])) (.keep (.keep (.keep (.keep (.drop Wk.nil))))))))) (run_last (run_append rfl (ev_fz rfl) (fun a6 => (run_next (s := (s2 ++ [a6])) (.keep (.keep (.keep (.keep (.drop Wk.nil)))))))))))) (fun s8 => (run_retO rfl)))))
  exact h
theorem run_made_one {G : Gb} {vs : List V} {H : Hp} {Q : VK} {E : XK} (h : sp_made_one G vs H Q E) : t_made_one G (dEnd Q) (start n_made_one vs) H := spA_run (n := 2) h (fun _ => rfl) fun p B => rn_made_one (p.1) (p.2.1) (p.2.2)
abbrev n_hang_together : List Str := ["parts", "later", "first", "place", "part"]
noncomputable def F_hang_together (p0 : (List Int)) (p1 : (List Int)) : M Bool :=
  (M.b (M.ok (⟨[]⟩ : (Dk Int Int))) fun v1 => (M.b (M.for_ (fun (s2 : (Dk Int Int) × (List Int)) (x3 : (Int × Int)) => (if ((dget s2.1.l x3.2).isSome) = true then (M.b (M.b (M.get (dget s2.1.l x3.2)) fun x4 => (M.cl (F_made_one s2.2 x4 x3.1))) fun v5 => (M.ok (s2.1, v5))) else (M.b (M.ok x3.1) fun a6 => M.b (M.ok x3.2) fun k7 => M.chk (s2.1.l.length < sizeLine) (M.ok ((⟨dput s2.1.l k7 a6⟩ : (Dk Int Int)), s2.2))))) (enu p1) (v1, p0)) fun s8 => (M.b (M.chk (s8.2.length ≤ sizeLine) (M.lc (fun (y9 : Int) => (M.ok true)) (fun (y9 : Int) => (M.get (atI s8.2 (0 : Int)))) s8.2)) fun x10 => (M.chk (Dd.Ok s8.2 ∧ Dd.Ok x10) (M.ok (decide (s8.2 = x10)))))))
def sp_hang_together (G : Gb) : Sp := spA G (fun (p : (List Int) × (List Int)) => [.fz (p.1), .bw (p.2)]) (rpF G) (fun (p : (List Int) × (List Int)) => F_hang_together (p.1) (p.2))
def t_hang_together (G : Gb) : TS :=
  (tSeq (tAsg tDNewK (gName 2)) (tSeq (tFor (iEnum G.K (tCons (tVar 1) tNil)) (gTup G.K 2 (gCons (gName 3) (gCons (gName 4) gNil)))
  (tIfS (tB (tDIn (tVar 4) (tVar 2)))
  (tAsg (tCall (sp_made_one G) [] E0 (tCons (tVar 0) (tCons (tDGet (tVar 2) (tVar 4)) (tCons (tVar 3) tNil)))) (gName 0))
  (sDPut (tVar 2) (tVar 4) (tVar 3))))
  (tRet (tOp (rEqD G.K) (tVar 0) (tLc (iList G.K (tVar 0)) (gName 4) tYes (tOp (rIxL G.K) (tVar 0) (tC (.int 0))) [4])))))
theorem len_hang_together {G : Gb} (vs : List V) (H : Hp) (Q : VK) (E : XK) (h : sp_hang_together G vs H Q E) : vs.length = 2 := spA_len h fun _ => rfl
theorem rn_hang_together {G : Gb} {B : Hp} {E : XK} (p0 : (List Int)) (p1 : (List Int)) : Run G B E (oR G B (rpF G)) [some (.fz p0), some (.bw p1), none, none, none] (t_hang_together G) (F_hang_together p0 p1) := by
  have h : Run G B E (oR G B (rpF G)) [some (.fz p0), some (.bw p1), none, none, none] (t_hang_together G) _ := (run_asgN (en_dK (κ := Int) (α := Int)) (fun v1 => (run_seq (EX := fun (s : (Dk Int Int) × (List Int)) => [some (.fz s.2), some (.bw p1), some (.ow s.1), none, none]) (run_for (bind := fun (x : (Int × Int)) (r : Evr) => ((r.set 3 (some (.fz x.1))).set 4 (some (.fz x.2)))) (s0 := (v1, p0)) (ew_enuB (ev_bw rfl) tg_S tg_S) (.keep (.keep (.keep (.drop (.drop Wk.nil))))) (fun s2 x3 => (run_if (evT_B (ev_dinK (mr := .F) (ev_fz rfl) (ev_ow rfl))) (run_last (run_asgN (en_call3 (f := F_made_one) (ev_fz rfl) ps_B (ev_dgetKo rfl (ev_fz rfl)) ps_F (ev_fz rfl) ps_F) (fun v5 => (run_freeze (i := 0) rfl (run_next (s := (s2.1, v5)) (.keep (.keep (.keep (.drop (.drop Wk.nil)))))))))) (run_last (run_dputK rfl (ev_fz rfl) (ev_fz rfl) (fun a6 k7 => (run_next (s := ((⟨dput s2.1.l k7 a6⟩ : (Dk Int Int)), s2.2)) (.keep (.keep (.keep (.drop (.drop Wk.nil)))))))))))) (fun s8 => (run_ret (ev_eqD (mr := .F) (by decide) (ev_fz rfl) (EvN.H (en_lc (te := (tOp (rIxL G.K) (tVar 0) (tC (.int 0)))) (bind := fun (x : Int) (r : Evr) => (r.set 4 (some (.fz x)))) (ew_F (ev_fz rfl) tg_S) (fun y9 => evT_yes) (fun y9 => (ev_ix (ev_fz rfl) (ev_int (md := .F))))))))))))
  exact h
theorem run_hang_together {G : Gb} {vs : List V} {H : Hp} {Q : VK} {E : XK} (h : sp_hang_together G vs H Q E) : t_hang_together G (dEnd Q) (start n_hang_together vs) H := spA_run (n := 3) h (fun _ => rfl) fun p B => rn_hang_together (p.1) (p.2)
abbrev n_parts_from : List Str := ["many", "pairs", "found", "one", "other"]
noncomputable def F_parts_from (p0 : Int) (p1 : (List (Int × Int))) : M (List (List Int)) :=
  (M.b (M.b (M.b (M.chk (0 ≤ p0 ∧ p0 ≤ 16777216) (M.ok (rng 0 p0))) fun x1 => (M.ok (x1 :: []))) fun x2 => (M.chk (x2.length ≤ sizeLine) (M.ok x2))) fun v3 => (M.b (M.for_ (fun (s4 : (List (List Int))) (x5 : (Int × Int)) => (M.b (M.b (M.get (atI s4 (-(1 : Int)))) fun x6 => (M.cl (F_made_one x6 x5.1 x5.2))) fun a7 => M.chk (s4.length < sizeLine) (M.ok (s4 ++ [a7])))) p1.reverse v3) fun s8 => (M.ok s8.reverse)))
def sp_parts_from (G : Gb) : Sp := spA G (fun (p : Int × (List (Int × Int))) => [.fz (p.1), .fz (p.2)]) (rpN G) (fun (p : Int × (List (Int × Int))) => F_parts_from (p.1) (p.2))
def t_parts_from (G : Gb) : TS :=
  (tSeq (tAsg (tLst (tCons (tLstRg (tRg1 (tVar 0))) tNil)) (gName 2)) (tSeq (tFor (iRev G.K (tCons (tVar 1) tNil)) (gTup G.K 2 (gCons (gName 3) (gCons (gName 4) gNil)))
  (tDrop (tBM G.K "list" rAppend (tVar 2) (tCons (tCall (sp_made_one G) [] E0 (tCons (tOp (rIxL G.K) (tVar 2) (tUn qNeg (tC (.int 1)))) (tCons (tVar 3) (tCons (tVar 4) tNil)))) tNil))))
  (tRet (tLstRev G.K (tVar 2)))))
theorem len_parts_from {G : Gb} (vs : List V) (H : Hp) (Q : VK) (E : XK) (h : sp_parts_from G vs H Q E) : vs.length = 2 := spA_len h fun _ => rfl
theorem rn_parts_from {G : Gb} {B : Hp} {E : XK} (p0 : Int) (p1 : (List (Int × Int))) : Run G B E (oR G B (rpN G)) [some (.fz p0), some (.fz p1), none, none, none] (t_parts_from G) (F_parts_from p0 p1) := by
  have h : Run G B E (oR G B (rpN G)) [some (.fz p0), some (.fz p1), none, none, none] (t_parts_from G) _ := (run_asgN (en_lst (el_cons (EvN.F (en_listRg (ev_fz rfl))) (el_nil (α := (List Int))))) (fun v3 => (run_seq (EX := fun (s : (List (List Int))) => [some (.fz p0), some (.fz p1), some (.ow s), none, none]) (run_for (bind := fun (x : (Int × Int)) (r : Evr) => ((r.set 3 (some (.fz x.1))).set 4 (some (.fz x.2)))) (s0 := v3) (ew_rev (ev_fz rfl) (tg_pair tg_S tg_S)) (.keep (.keep (.keep (.drop (.drop Wk.nil))))) (fun s4 x5 => (run_last (run_append rfl (EvN.F (en_call3 (f := F_made_one) (ev_ixS (es_ow rfl) (ev_neg (mr := .F) (ev_int (md := .F)))) ps_B (ev_fz rfl) ps_F (ev_fz rfl) ps_F)) (fun a7 => (run_next (s := (s4 ++ [a7])) (.keep (.keep (.keep (.drop (.drop Wk.nil))))))))))) (fun s8 => (run_retN (en_listRev (es_ow rfl)))))))
  exact h
theorem run_parts_from {G : Gb} {vs : List V} {H : Hp} {Q : VK} {E : XK} (h : sp_parts_from G vs H Q E) : t_parts_from G (dEnd Q) (start n_parts_from vs) H := spA_run (n := 3) h (fun _ => rfl) fun p B => rn_parts_from (p.1) (p.2)
abbrev n_pairs_of : List Str := ["rows", "names", "held", "pairs", "tie"]
noncomputable def F_pairs_of (p0 : (List (Str × (List Str)))) : M (List (Int × Int)) :=
  (M.b (M.cl (F_points_of p0)) fun v1 => (M.b (M.cl (F_points_by_tie p0)) fun v2 => (M.b (M.ok ([] : (List (Int × Int)))) fun v3 => (M.b (M.b (M.cl (F_ties_of p0)) fun x13 => (M.for_ (fun (s4 : (List (Int × Int))) (x5 : Str) => (M.b (M.b (M.b (M.b (M.get (dget v2.l x5)) fun x6 => (M.get (atI x6 (0 : Int)))) fun x7 => (M.b (M.get (idxS v1 x7)) fun j => M.ok ((j : Nat) : Int))) fun x10 => (M.b (M.b (M.b (M.get (dget v2.l x5)) fun x8 => (M.get (atI x8 (1 : Int)))) fun x9 => (M.b (M.get (idxS v1 x9)) fun j => M.ok ((j : Nat) : Int))) fun x11 => (M.ok (x10, x11)))) fun a12 => M.chk (s4.length < sizeLine) (M.ok (s4 ++ [a12])))) x13 v3)) fun s14 => (M.ok s14)))))
def sp_pairs_of (G : Gb) : Sp := spA G (fun (p : (List (Str × (List Str)))) => [.bw p]) (rpN G) (fun (p : (List (Str × (List Str)))) => F_pairs_of p)
def t_pairs_of (G : Gb) : TS :=
  (tSeq (tAsg (tCall (sp_points_of G) [] E0 (tCons (tVar 0) tNil)) (gName 1)) (tSeq (tAsg (tCall (sp_points_by_tie G) [] E0 (tCons (tVar 0) tNil)) (gName 2)) (tSeq (tAsg (tLst tNil) (gName 3)) (tSeq (tFor (iList G.K (tCall (sp_ties_of G) [] E0 (tCons (tVar 0) tNil))) (gName 4)
  (tDrop (tBM G.K "list" rAppend (tVar 3) (tCons (tTup (tCons (tBM G.K "list" (rIndex G.K) (tVar 1) (tCons (tOp (rIxL G.K) (tDGet (tVar 2) (tVar 4)) (tC (.int 0))) tNil)) (tCons (tBM G.K "list" (rIndex G.K) (tVar 1) (tCons (tOp (rIxL G.K) (tDGet (tVar 2) (tVar 4)) (tC (.int 1))) tNil)) tNil))) tNil))))
  (tRet (tVar 3))))))
theorem len_pairs_of {G : Gb} (vs : List V) (H : Hp) (Q : VK) (E : XK) (h : sp_pairs_of G vs H Q E) : vs.length = 1 := spA_len h fun _ => rfl
theorem rn_pairs_of {G : Gb} {B : Hp} {E : XK} (p0 : (List (Str × (List Str)))) : Run G B E (oR G B (rpN G)) [some (.bw p0), none, none, none, none] (t_pairs_of G) (F_pairs_of p0) := by
  have h : Run G B E (oR G B (rpN G)) [some (.bw p0), none, none, none, none] (t_pairs_of G) _ := (run_asgN (en_call1 (f := F_points_of) (ev_bw rfl) ps_B) (fun v1 => (run_asgN (en_call1 (f := F_points_by_tie) (ev_bw rfl) ps_B) (fun v2 => (run_asgN (en_nil (α := (Int × Int))) (fun v3 => (run_seq (EX := fun (s : (List (Int × Int))) => [some (.bw p0), some (.ow v1), some (.ow v2), some (.ow s), none]) (run_for (bind := fun (x : Str) (r : Evr) => (r.set 4 (some (.fz x)))) (s0 := v3) (ew_F (EvN.F (en_call1 (f := F_ties_of) (ev_bw rfl) ps_B)) tg_S) (.keep (.keep (.keep (.keep (.drop Wk.nil))))) (fun s4 x5 => (run_last (run_append rfl (ev_pair (ev_index (mr := .F) (ev_ow rfl) (ev_ix (ev_dgetKo rfl (ev_fz rfl)) (ev_int (md := .F)))) (ev_index (mr := .F) (ev_ow rfl) (ev_ix (ev_dgetKo rfl (ev_fz rfl)) (ev_int (md := .F))))) (fun a12 => (run_next (s := (s4 ++ [a12])) (.keep (.keep (.keep (.keep (.drop Wk.nil))))))))))) (fun s14 => (run_retO rfl)))))))))
  exact h
theorem run_pairs_of {G : Gb} {vs : List V} {H : Hp} {Q : VK} {E : XK} (h : sp_pairs_of G vs H Q E) : t_pairs_of G (dEnd Q) (start n_pairs_of vs) H := spA_run (n := 4) h (fun _ => rfl) fun p B => rn_pairs_of p
abbrev n_trees_of : List Str := ["rows", "pairs", "later", "grown", "place", "tie", "one", "other", "longer", "some", "parts"]
noncomputable def F_trees_of (p0 : (List (Str × (List Str)))) : M (List (List Str)) :=
  (M.b (M.b (M.cl (F_tree_count p0)) fun x1 => (M.ok (decide ((300 : Int) < x1)))) fun x60 => (if x60 = true then (M.exc "TooMany") else (M.b (M.cl (F_pairs_of p0)) fun v2 => (M.b (M.cl (F_parts_from ((p0.length : Nat) : Int) v2)) fun v3 => (M.b (M.b (M.b (M.b (M.get (atI v3 (-(1 : Int)))) fun x4 => (M.ok (([] : (List Str)), x4))) fun x5 => (M.ok (x5 :: []))) fun x6 => (M.chk (x6.length ≤ sizeLine) (M.ok x6))) fun v7 => (M.b (M.b (M.b (M.cl (F_ties_of p0)) fun x32 => (M.ok (enu x32))) fun x56 => (M.for_ (fun (s33 : (List ((List Str) × (List Int)))) (x34 : (Int × Str)) => (M.b (M.get (atI v2 x34.1)) fun v35 => (M.b (M.ok ([] : (List ((List Str) × (List Int))))) fun v36 => (M.b (M.for_ (fun (s37 : (List ((List Str) × (List Int)))) (x38 : ((List Str) × (List Int))) => (M.b (M.b (M.b (M.get (atI x38.2 v35.1)) fun x39 => (M.b (M.get (atI x38.2 v35.2)) fun x40 => (M.ok (!decide (x39 = x40))))) fun x53 => (if x53 = true then (M.b (M.b (M.b (M.chk ((x34.2 :: []).length ≤ sizeLine) (M.ok (x34.2 :: []))) fun x45 => (M.chk (x38.1.length + x45.length ≤ sizeLine) (M.ok (x38.1 ++ x45)))) fun x46 => (M.b (M.cl (F_made_one x38.2 v35.1 v35.2)) fun x47 => (M.ok (x46, x47)))) fun a48 => M.chk (s37.length < sizeLine) (M.ok (s37 ++ [a48]))) else (M.ok s37))) fun s49 => (M.b (M.b (M.get (atI v3 (x34.1 + (1 : Int)))) fun x50 => (M.cl (F_hang_together x38.2 x50))) fun x52 => (if x52 = true then (M.b (M.ok (x38.1, x38.2)) fun a51 => M.chk (s49.length < sizeLine) (M.ok (s49 ++ [a51]))) else (M.ok s49))))) s33 v36) fun s54 => (M.b (M.ok s54) fun v55 => (M.ok v55)))))) x56 v7)) fun s57 => (M.b (M.chk (s57.length ≤ sizeLine) (M.lc (fun (y58 : ((List Str) × (List Int))) => (M.ok true)) (fun (y58 : ((List Str) × (List Int))) => (M.ok y58.1)) s57)) fun x59 => (M.ok (srtLs x59)))))))))
def sp_trees_of (G : Gb) : Sp := spA G (fun (p : (List (Str × (List Str)))) => [.bw p]) (rpN G) (fun (p : (List (Str × (List Str)))) => F_trees_of p)
def t_trees_of (G : Gb) (E : XK) : TS :=
  (tSeq (tIfS (tTest (tOp qGt (tCall (sp_tree_count G) [] E0 (tCons (tVar 0) tNil)) (tC (.int 300))))
  (tRaise G E "TooMany")
  tNext)
  (tSeq (tAsg (tCall (sp_pairs_of G) [] E0 (tCons (tVar 0) tNil)) (gName 1)) (tSeq (tAsg (tCall (sp_parts_from G) [] E0 (tCons (tCB (qLenQ G.K) (tCons (tVar 0) tNil)) (tCons (tVar 1) tNil))) (gName 2)) (tSeq (tAsg (tLst (tCons (tTup (tCons (tLst tNil) (tCons (tOp (rIxL G.K) (tVar 2) (tUn qNeg (tC (.int 1)))) tNil))) tNil)) (gName 3)) (tSeq (tFor (iEnum G.K (tCons (tCall (sp_ties_of G) [] E0 (tCons (tVar 0) tNil)) tNil)) (gTup G.K 2 (gCons (gName 4) (gCons (gName 5) gNil)))
  (tSeq (tAsg (tOp (rIxL G.K) (tVar 1) (tVar 4)) (gTup G.K 2 (gCons (gName 6) (gCons (gName 7) gNil)))) (tSeq (tAsg (tLst tNil) (gName 8)) (tSeq (tFor (iList G.K (tVar 3)) (gTup G.K 2 (gCons (gName 9) (gCons (gName 10) gNil)))
  (tSeq (tIfS (tTest (tOp rNe (tOp (rIxL G.K) (tVar 10) (tVar 6)) (tOp (rIxL G.K) (tVar 10) (tVar 7))))
  (tDrop (tBM G.K "list" rAppend (tVar 8) (tCons (tTup (tCons (tOp rCat (tVar 9) (tLst (tCons (tVar 5) tNil))) (tCons (tCall (sp_made_one G) [] E0 (tCons (tVar 10) (tCons (tVar 6) (tCons (tVar 7) tNil)))) tNil))) tNil)))
  tNext)
  (tIfS (tB (tCall (sp_hang_together G) [] E0 (tCons (tVar 10) (tCons (tOp (rIxL G.K) (tVar 2) (tOp qAdd (tVar 4) (tC (.int 1)))) tNil))))
  (tDrop (tBM G.K "list" rAppend (tVar 8) (tCons (tTup (tCons (tVar 9) (tCons (tVar 10) tNil))) tNil)))
  tNext)))
  (tAsg (tVar 8) (gName 3))))))
  (tRet (tCB (rSortedLs G.K) (tCons (tLc (iList G.K (tVar 3)) (gTup G.K 2 (gCons (gName 9) (gCons (gName 10) gNil))) tYes (tVar 9) [9, 10]) tNil))))))))
theorem len_trees_of {G : Gb} (vs : List V) (H : Hp) (Q : VK) (E : XK) (h : sp_trees_of G vs H Q E) : vs.length = 1 := spA_len h fun _ => rfl
theorem rn_trees_of {G : Gb} {B : Hp} {E : XK} (p0 : (List (Str × (List Str)))) : Run G B E (oR G B (rpN G)) [some (.bw p0), none, none, none, none, none, none, none, none, none, none] (t_trees_of G E) (F_trees_of p0) := by
  have h : Run G B E (oR G B (rpN G)) [some (.bw p0), none, none, none, none, none, none, none, none, none, none] (t_trees_of G E) _ := (run_ifS (evT_T (ev_gt (mr := .F) (ev_call1 (f := F_tree_count) (ev_bw rfl) ps_B) (ev_int (md := .F)))) run_raiseS (run_skip (run_asgN (en_call1 (f := F_pairs_of) (ev_bw rfl) ps_B) (fun v2 => (run_freeze (i := 1) rfl (run_asgN (en_call2 (f := F_parts_from) (ev_len (mr := .F) (ev_bw rfl)) ps_F (ev_fz rfl) ps_F) (fun v3 => (run_asgN (en_lst (el_cons (ev_pair (EvN.F (en_nil (α := Str))) (ev_ixS (es_ow rfl) (ev_neg (mr := .F) (ev_int (md := .F))))) (el_nil (α := ((List Str) × (List Int)))))) (fun v7 => (run_freeze (i := 3) rfl (run_seq (EX := fun (s : (List ((List Str) × (List Int)))) => [some (.bw p0), some (.fz v2), some (.ow v3), some (.fz s), none, none, none, none, none, none, none]) (run_for (bind := fun (x : (Int × Str)) (r : Evr) => ((r.set 4 (some (.fz x.1))).set 5 (some (.fz x.2)))) (s0 := v7) (ew_enuF (EvN.F (en_call1 (f := F_ties_of) (ev_bw rfl) ps_B)) tg_S tg_S) (.keep (.keep (.keep (.keep (.drop (.drop (.drop (.drop (.drop (.drop (.drop Wk.nil))))))))))) (fun s33 x34 => (run_asg (bind := fun (x : (Int × Int)) (r : Evr) => ((r.set 6 (some (.fz x.1))).set 7 (some (.fz x.2)))) (ev_ix (ev_fz rfl) (ev_fz rfl)) (tg_pair tg_S tg_S) (fun v35 => (run_asgN (en_nil (α := ((List Str) × (List Int)))) (fun v36 => (run_seq (EX := fun (s : (List ((List Str) × (List Int)))) => [some (.bw p0), some (.fz v2), some (.ow v3), some (.fz s33), some (.fz x34.1), some (.fz x34.2), some (.fz v35.1), some (.fz v35.2), some (.ow s), none, none]) (run_for (bind := fun (x : ((List Str) × (List Int))) (r : Evr) => ((r.set 9 (some (.fz x.1))).set 10 (some (.fz x.2)))) (s0 := v36) (ew_F (ev_fz rfl) (tg_pair tg_F tg_F)) (.keep (.keep (.keep (.keep (.keep (.keep (.keep (.keep (.keep (.drop (.drop Wk.nil))))))))))) (fun s37 x38 => (run_seq (EX := fun (s : (List ((List Str) × (List Int)))) => [some (.bw p0), some (.fz v2), some (.ow v3), some (.fz s33), some (.fz x34.1), some (.fz x34.2), some (.fz v35.1), some (.fz v35.2), some (.ow s), some (.fz x38.1), some (.fz x38.2)]) (run_if (evT_T (ev_ne (mr := .F) (ev_ix (ev_fz rfl) (ev_fz rfl)) (ev_ix (ev_fz rfl) (ev_fz rfl)))) (run_last (run_append rfl (ev_pair (EvN.F (en_cat (es_F (ev_fz rfl)) (es_N (en_lst (el_cons (ev_fz rfl) (el_nil (α := Str))))))) (EvN.F (en_call3 (f := F_made_one) (ev_fz rfl) ps_B (ev_fz rfl) ps_F (ev_fz rfl) ps_F))) (fun a48 => (run_next (s := (s37 ++ [a48])) (.keep (.keep (.keep (.keep (.keep (.keep (.keep (.keep (.keep (.keep (.keep Wk.nil))))))))))))))) (run_next (s := s37) (.keep (.keep (.keep (.keep (.keep (.keep (.keep (.keep (.keep (.keep (.keep Wk.nil))))))))))))) (fun s49 => (run_if (evT_B (ev_call2 (f := F_hang_together) (ev_fz rfl) ps_F (ev_ixS (es_ow rfl) (ev_add (mr := .F) (ev_fz rfl) (ev_int (md := .F)))) ps_B)) (run_last (run_append rfl (ev_pair (ev_fz rfl) (ev_fz rfl)) (fun a51 => (run_next (s := (s49 ++ [a51])) (.keep (.keep (.keep (.keep (.keep (.keep (.keep (.keep (.keep (.drop (.drop Wk.nil))))))))))))))) (run_next (s := s49) (.keep (.keep (.keep (.keep (.keep (.keep (.keep (.keep (.keep (.drop (.drop Wk.nil))))))))))))))))) (fun s54 => (run_freeze (i := 8) rfl (run_last (run_asg (bind := fun (x : (List ((List Str) × (List Int)))) (r : Evr) => (r.set 3 (some (.fz x)))) (ev_fz rfl) tg_F (fun v55 => (run_next (s := v55) (.keep (.keep (.keep (.keep (.drop (.drop (.drop (.drop (.drop (.drop (.drop Wk.nil)))))))))))))))))))))))) (fun s57 => (run_retN (en_sortLs (es_N (en_lc (te := (tVar 9)) (bind := fun (x : ((List Str) × (List Int))) (r : Evr) => ((r.set 9 (some (.fz x.1))).set 10 (some (.fz x.2)))) (ew_F (ev_fz rfl) (tg_pair tg_F tg_F)) (fun y58 => evT_yes) (fun y58 => (ev_fz rfl))))))))))))))))))
  exact h
theorem run_trees_of {G : Gb} {vs : List V} {H : Hp} {Q : VK} {E : XK} (h : sp_trees_of G vs H Q E) : t_trees_of G E (dEnd Q) (start n_trees_of vs) H := spA_run (n := 10) h (fun _ => rfl) fun p B => rn_trees_of p
end Tw
set_option Elab.async false
set_option linter.all false
set_option maxRecDepth 100000
set_option maxHeartbeats 4000000
namespace Tw
open PySem PySem.Spec L2 TL
open PyProof.Rows hiding St
inductive Tol where
  | tp (l : List Int)
  | ls (l : List Int)
def Tol.v : Tol → List Int
  | .tp l => l
  | .ls l => l
def tolM {Ω : Type} (a : Tol) (f : Tp Int → M Ω) (g : List Int → M Ω) : M Ω := match a with
  | .tp l => f ⟨l⟩
  | .ls l => g l
instance : Rp Tol where
  rep G H x a := match a with
    | .tp l => rep G H x (⟨l⟩ : Tp Int)
    | .ls l => rep G H x l
  mono := fun {G H H' v a} s h => by
    cases a with
    | tp l => exact Rp.mono (α := Tp Int) s h
    | ls l => exact Rp.mono (α := List Int) s h
def tOrS (t u : TS) : TS := fun D σ H => t D σ H ∨ u D σ H
theorem pss_or {X : Cx} {st : List Stmt} {t u : TS} (h1 : PSs X st t) (h2 : PSs X st u) : PSs X st (tOrS t u) := ⟨fun pins s σ H D I h => h.elim (h1.run pins s σ H D I) (h2.run pins s σ H D I)⟩
section
variable {G : Gb} {B : Hp} {E : XK} {ρ : Evr} {α : Type} [Rp α] {md mr : Md} {te : TE} {Ω : Type} {post : Hp → Ω → Ends → Prop} {t u : TS}
theorem ev_tolT {m : M (Tp Int)} (h : Ev G B E md ρ te m) : Ev G B E md ρ te (m.b fun a => .ok (Tol.tp a.l)) := fun F0 F σ H Q R q =>
  h.go R q fun a F1 v H1 e1 r1 R1 q => q F1 v H1 e1 R1.sF r1
theorem ev_tolL {m : M (List Int)} (h : Ev G B E md ρ te m) : Ev G B E md ρ te (m.b fun a => .ok (Tol.ls a)) := fun F0 F σ H Q R q =>
  h.go R q fun a F1 v H1 e1 r1 R1 q => q F1 v H1 e1 R1.sF r1
theorem ev_lenTp {m : M (Tp α)} (ha : Ev G B E md ρ te m) : Ev G B E mr ρ (tCB (qLenQ G.K) (tCons te tNil)) (m.b fun xs => .ok ((xs.l.length : Nat) : Int)) := fun F0 F σ H Q R q =>
  ha.toH.go R q fun xs F1 v H1 e1 r1 R1 q => by
    obtain ⟨p, vs, rfl, h1, h2⟩ := r1
    exact ⟨p, vs, rfl, .inr (.of h1), q F1 _ H1 e1 R1.sF (by rw [h2.len]; rfl)⟩
theorem Rel.tol {F0 F H : Hp} {σ : L2.St} {i : Nat} {a : Tol} (R : Rel G B F0 F ρ σ H) (h : ρ[i]? = some (some (.fz a))) : Rel G B F0 F (ρ.set i (some (match a with | .tp l => .fz (⟨l⟩ : Tp Int) | .ls l => .fz l))) σ H := by
  obtain ⟨x, e, v, rfl, r⟩ := R.at h
  have hi : i < σ.length := (List.getElem?_eq_some_iff.mp e).1
  have hs : σ.set i (some v) = σ := by
    rw [show some v = σ[i] from ((List.getElem?_eq_some_iff.mp e).2).symm]
    exact List.set_getElem_self hi
  rw [← hs]
  refine R.setv ?_ ?_
  · cases a with
    | tp l => exact ⟨v, rfl, r⟩
    | ls l => exact ⟨v, rfl, r⟩
  · cases a with
    | tp l => exact fun b f => absurd f id
    | ls l => exact fun b f => absurd f id
theorem run_tol {i : Nat} {a : Tol} {f : Tp Int → M Ω} {g : List Int → M Ω} (h : ρ[i]? = some (some (.fz a))) (h1 : ∀ l, Run G B E post (ρ.set i (some (.fz l))) t (f l)) (h2 : ∀ l, Run G B E post (ρ.set i (some (.fz l))) u (g l)) :
    Run G B E post ρ (tOrS t u) (tolM a f g) := fun F0 F σ H D R q => by
  have R' := R.tol h
  cases a with
  | tp l => exact .inl (h1 ⟨l⟩ F0 F σ H D R' q)
  | ls l => exact .inr (h2 l F0 F σ H D R' q)
end
end Tw
set_option Elab.async false
set_option linter.all false
set_option maxRecDepth 100000
set_option maxHeartbeats 4000000
namespace Tw
open PySem PySem.Spec L2 TL
open PyProof.Rows hiding St
abbrev XC : List Str := ["TooMany"]
abbrev XT : List Str := ["TooMany", "NetError", "NoNet", "NoTie"]
abbrev n__law_sizes_by : List Str := ["_law_big_here", "_law_menu", "_law_rest", "_law_many", "_law_left", "_law_sizes", "_law_k", "_law_most"]
noncomputable def F__law_sizes_by (p0 : Int) : M Tol :=
  (M.b (M.b (M.b (M.chk (((3 : Int) :: ((4 : Int) :: ((5 : Int) :: ((5 : Int) :: [])))).length ≤ sizeLine) (M.ok (⟨((3 : Int) :: ((4 : Int) :: ((5 : Int) :: ((5 : Int) :: []))))⟩ : Tp Int))) fun x1 => (M.b (M.b (M.chk (((4 : Int) :: ((7 : Int) :: ((11 : Int) :: []))).length ≤ sizeLine) (M.ok (⟨((4 : Int) :: ((7 : Int) :: ((11 : Int) :: [])))⟩ : Tp Int))) fun x2 => (M.b (M.b (M.chk (((13 : Int) :: ((23 : Int) :: [])).length ≤ sizeLine) (M.ok (⟨((13 : Int) :: ((23 : Int) :: []))⟩ : Tp Int))) fun x3 => (M.b (M.b (M.chk (((2 : Int) :: ((3 : Int) :: ((5 : Int) :: ((10 : Int) :: [])))).length ≤ sizeLine) (M.ok (⟨((2 : Int) :: ((3 : Int) :: ((5 : Int) :: ((10 : Int) :: []))))⟩ : Tp Int))) fun x4 => (M.b (M.b (M.chk (((17 : Int) :: ((18 : Int) :: [])).length ≤ sizeLine) (M.ok (⟨((17 : Int) :: ((18 : Int) :: []))⟩ : Tp Int))) fun x5 => (M.b (M.b (M.chk (((7 : Int) :: ((6 : Int) :: ((7 : Int) :: []))).length ≤ sizeLine) (M.ok (⟨((7 : Int) :: ((6 : Int) :: ((7 : Int) :: [])))⟩ : Tp Int))) fun x6 => (M.b (M.b (M.chk (((2 : Int) :: ((2 : Int) :: ((3 : Int) :: ((5 : Int) :: ((5 : Int) :: []))))).length ≤ sizeLine) (M.ok (⟨((2 : Int) :: ((2 : Int) :: ((3 : Int) :: ((5 : Int) :: ((5 : Int) :: [])))))⟩ : Tp Int))) fun x7 => (M.b (M.b (M.chk (((4 : Int) :: ((4 : Int) :: ((19 : Int) :: []))).length ≤ sizeLine) (M.ok (⟨((4 : Int) :: ((4 : Int) :: ((19 : Int) :: [])))⟩ : Tp Int))) fun x8 => (M.ok (x8 :: []))) fun x9 => (M.ok (x7 :: x9)))) fun x10 => (M.ok (x6 :: x10)))) fun x11 => (M.ok (x5 :: x11)))) fun x12 => (M.ok (x4 :: x12)))) fun x13 => (M.ok (x3 :: x13)))) fun x14 => (M.ok (x2 :: x14)))) fun x15 => (M.ok (x1 :: x15)))) fun x16 => (M.chk (x16.length ≤ sizeLine) (M.ok (⟨x16⟩ : Tp (Tp Int))))) fun v17 => (M.b (M.chk (CDivW p0 (3 : Int)) (M.ok (p0 / (3 : Int)))) fun v18 => (M.b (M.b (M.chk (CPos p0 (3 : Int)) (M.ok (p0 % (3 : Int)))) fun x19 => (M.ok (decide (x19 = (1 : Int))))) fun x43 => (if x43 = true then (M.b (M.b (M.chk (CPos v18 (8 : Int)) (M.ok (v18 % (8 : Int)))) fun x20 => (M.get (atI v17.l x20))) fun x21 => (M.ok (Tol.tp x21.l))) else (M.b (M.chk (CPos v18 (5 : Int)) (M.ok (v18 % (5 : Int)))) fun v22 => (M.b (M.b (M.b (M.chk (CPos p0 (3 : Int)) (M.ok (p0 % (3 : Int)))) fun x23 => (M.ok (decide (x23 = (2 : Int))))) fun x42 => (if x42 = true then (M.b (M.b (M.chk (CPos v18 (15 : Int)) (M.ok (v18 % (15 : Int)))) fun x26 => (M.ok ((6 : Int) + x26))) fun v27 => (M.ok v27)) else (M.ok v22))) fun s28 => (M.b (M.chk (CDivW v18 (15 : Int)) (M.ok (v18 / (15 : Int)))) fun v29 => (M.b (M.ok (40 : Int)) fun v30 => (M.b (M.ok ([] : (List Int))) fun v31 => (M.b (M.b (M.chk (-(2 ^ 62) ≤ s28 ∧ s28 < 2 ^ 62) (M.ok (rng 0 s28))) fun x40 => (M.for_ (fun (s32 : (List Int) × Int × Int) (x33 : Int) => (M.b (M.ok (if (s32.2.1 - ((s28 - (1 : Int)) - x33)) < (8 : Int) then (s32.2.1 - ((s28 - (1 : Int)) - x33)) else (8 : Int))) fun v34 => (M.b (M.b (M.chk (CPos s32.2.2 v34) (M.ok (s32.2.2 % v34))) fun x35 => (M.ok ((1 : Int) + x35))) fun a36 => M.chk (s32.1.length < sizeLine) (M.b (M.b (M.get (atI (s32.1 ++ [a36]) (-(1 : Int)))) fun x37 => (M.ok (s32.2.1 - x37))) fun v38 => (M.b (M.chk (CDivW s32.2.2 v34) (M.ok (s32.2.2 / v34))) fun v39 => (M.ok ((s32.1 ++ [a36]), v38, v39))))))) x40 (v31, v30, v29))) fun s41 => (M.ok (Tol.ls s41.1))))))))))))
def sp__law_sizes_by (G : Gb) : Sp := spA G (fun (p : Int) => [.fz p]) (rpF G) (fun (p : Int) => F__law_sizes_by p)
def t__law_sizes_by (G : Gb) : TS :=
  (tSeq (tAsg (tTup (tCons (tTup (tCons (tC (.int 3)) (tCons (tC (.int 4)) (tCons (tC (.int 5)) (tCons (tC (.int 5)) tNil))))) (tCons (tTup (tCons (tC (.int 4)) (tCons (tC (.int 7)) (tCons (tC (.int 11)) tNil)))) (tCons (tTup (tCons (tC (.int 13)) (tCons (tC (.int 23)) tNil))) (tCons (tTup (tCons (tC (.int 2)) (tCons (tC (.int 3)) (tCons (tC (.int 5)) (tCons (tC (.int 10)) tNil))))) (tCons (tTup (tCons (tC (.int 17)) (tCons (tC (.int 18)) tNil))) (tCons (tTup (tCons (tC (.int 7)) (tCons (tC (.int 6)) (tCons (tC (.int 7)) tNil)))) (tCons (tTup (tCons (tC (.int 2)) (tCons (tC (.int 2)) (tCons (tC (.int 3)) (tCons (tC (.int 5)) (tCons (tC (.int 5)) tNil)))))) (tCons (tTup (tCons (tC (.int 4)) (tCons (tC (.int 4)) (tCons (tC (.int 19)) tNil)))) tNil))))))))) (gName 1)) (tSeq (tAsg (tOp qDiv (tVar 0) (tC (.int 3))) (gName 2)) (tSeq (tIfS (tTest (tOp rEq (tOp qMod (tVar 0) (tC (.int 3))) (tC (.int 1))))
  (tRet (tOp (rIxT G.K) (tVar 1) (tOp qMod (tVar 2) (tC (.int 8)))))
  tNext)
  (tSeq (tAsg (tOp qMod (tVar 2) (tC (.int 5))) (gName 3)) (tSeq (tIfS (tTest (tOp rEq (tOp qMod (tVar 0) (tC (.int 3))) (tC (.int 2))))
  (tAsg (tOp qAdd (tC (.int 6)) (tOp qMod (tVar 2) (tC (.int 15)))) (gName 3))
  tNext)
  (tSeq (tAsg (tOp qDiv (tVar 2) (tC (.int 15))) (gName 2)) (tSeq (tAsg (tC (.int 40)) (gName 4)) (tSeq (tAsg (tLst tNil) (gName 5)) (tSeq (tFor (iRng1 (tCons (tVar 3) tNil)) (gName 6)
  (tSeq (tAsg (tCB qMin2 (tCons (tC (.int 8)) (tCons (tOp qSub (tVar 4) (tOp qSub (tOp qSub (tVar 3) (tC (.int 1))) (tVar 6))) tNil))) (gName 7)) (tSeq (tDrop (tBM G.K "list" rAppend (tVar 5) (tCons (tOp qAdd (tC (.int 1)) (tOp qMod (tVar 2) (tVar 7))) tNil))) (tSeq (tAsg (tOp qSub (tVar 4) (tOp (rIxL G.K) (tVar 5) (tUn qNeg (tC (.int 1))))) (gName 4)) (tAsg (tOp qDiv (tVar 2) (tVar 7)) (gName 2))))))
  (tRet (tVar 5)))))))))))
theorem len__law_sizes_by {G : Gb} (vs : List V) (H : Hp) (Q : VK) (E : XK) (h : sp__law_sizes_by G vs H Q E) : vs.length = 1 := spA_len h fun _ => rfl
theorem rn__law_sizes_by {G : Gb} {B : Hp} {E : XK} (p0 : Int) : Run G B E (oR G B (rpF G)) [some (.fz p0), none, none, none, none, none, none, none] (t__law_sizes_by G) (F__law_sizes_by p0) := by
  have h : Run G B E (oR G B (rpF G)) [some (.fz p0), none, none, none, none, none, none, none] (t__law_sizes_by G) _ := (run_asg (bind := fun (x : (Tp (Tp Int))) (r : Evr) => (r.set 1 (some (.fz x)))) (ev_tp (el_cons (ev_tp (el_cons (ev_int (md := .F)) (el_cons (ev_int (md := .F)) (el_cons (ev_int (md := .F)) (el_cons (ev_int (md := .F)) (el_nil (α := Int))))))) (el_cons (ev_tp (el_cons (ev_int (md := .F)) (el_cons (ev_int (md := .F)) (el_cons (ev_int (md := .F)) (el_nil (α := Int)))))) (el_cons (ev_tp (el_cons (ev_int (md := .F)) (el_cons (ev_int (md := .F)) (el_nil (α := Int))))) (el_cons (ev_tp (el_cons (ev_int (md := .F)) (el_cons (ev_int (md := .F)) (el_cons (ev_int (md := .F)) (el_cons (ev_int (md := .F)) (el_nil (α := Int))))))) (el_cons (ev_tp (el_cons (ev_int (md := .F)) (el_cons (ev_int (md := .F)) (el_nil (α := Int))))) (el_cons (ev_tp (el_cons (ev_int (md := .F)) (el_cons (ev_int (md := .F)) (el_cons (ev_int (md := .F)) (el_nil (α := Int)))))) (el_cons (ev_tp (el_cons (ev_int (md := .F)) (el_cons (ev_int (md := .F)) (el_cons (ev_int (md := .F)) (el_cons (ev_int (md := .F)) (el_cons (ev_int (md := .F)) (el_nil (α := Int)))))))) (el_cons (ev_tp (el_cons (ev_int (md := .F)) (el_cons (ev_int (md := .F)) (el_cons (ev_int (md := .F)) (el_nil (α := Int)))))) (el_nil (α := (Tp Int)))))))))))) tg_F (fun v17 => (run_asg (bind := fun (x : Int) (r : Evr) => (r.set 2 (some (.fz x)))) (ev_div (mr := .F) (ev_fz rfl) (ev_int (md := .F))) tg_S (fun v18 => (run_ifS (evT_T (ev_eq (mr := .F) (ev_mod (mr := .F) (ev_fz rfl) (ev_int (md := .F))) (ev_int (md := .F)))) (run_cutR (run_ret (ev_tolT (ev_ixTp (ev_fz rfl) (ev_mod (mr := .F) (ev_fz rfl) (ev_int (md := .F))))))) (run_skip (run_asg (bind := fun (x : Int) (r : Evr) => (r.set 3 (some (.fz x)))) (ev_mod (mr := .F) (ev_fz rfl) (ev_int (md := .F))) tg_S (fun v22 => (run_seq (EX := fun (s : Int) => [some (.fz p0), some (.fz v17), some (.fz v18), some (.fz s), none, none, none, none]) (run_if (evT_T (ev_eq (mr := .F) (ev_mod (mr := .F) (ev_fz rfl) (ev_int (md := .F))) (ev_int (md := .F)))) (run_last (run_asg (bind := fun (x : Int) (r : Evr) => (r.set 3 (some (.fz x)))) (ev_add (mr := .F) (ev_int (md := .F)) (ev_mod (mr := .F) (ev_fz rfl) (ev_int (md := .F)))) tg_S (fun v27 => (run_next (s := v27) (.keep (.keep (.keep (.keep (.drop (.drop (.drop (.drop Wk.nil)))))))))))) (run_next (s := v22) (.keep (.keep (.keep (.keep (.drop (.drop (.drop (.drop Wk.nil)))))))))) (fun s28 => (run_asg (bind := fun (x : Int) (r : Evr) => (r.set 2 (some (.fz x)))) (ev_div (mr := .F) (ev_fz rfl) (ev_int (md := .F))) tg_S (fun v29 => (run_asg (bind := fun (x : Int) (r : Evr) => (r.set 4 (some (.fz x)))) (ev_int (md := .F)) tg_S (fun v30 => (run_asgN (en_nil (α := Int)) (fun v31 => (run_seq (EX := fun (s : (List Int) × Int × Int) => [some (.fz p0), some (.fz v17), some (.fz s.2.2), some (.fz s28), some (.fz s.2.1), some (.ow s.1), none, none]) (run_for (bind := fun (x : Int) (r : Evr) => (r.set 6 (some (.fz x)))) (s0 := (v31, v30, v29)) (ew_rng1 (ev_fz rfl) tg_S) (.keep (.keep (.keep (.keep (.keep (.keep (.drop (.drop Wk.nil)))))))) (fun s32 x33 => (run_asg (bind := fun (x : Int) (r : Evr) => (r.set 7 (some (.fz x)))) (ev_min2 (mr := .F) (ev_int (md := .F)) (ev_sub (mr := .F) (ev_fz rfl) (ev_sub (mr := .F) (ev_sub (mr := .F) (ev_fz rfl) (ev_int (md := .F))) (ev_fz rfl)))) tg_S (fun v34 => (run_append rfl (ev_add (mr := .F) (ev_int (md := .F)) (ev_mod (mr := .F) (ev_fz rfl) (ev_fz rfl))) (fun a36 => (run_asg (bind := fun (x : Int) (r : Evr) => (r.set 4 (some (.fz x)))) (ev_sub (mr := .F) (ev_fz rfl) (ev_ixS (es_ow rfl) (ev_neg (mr := .F) (ev_int (md := .F))))) tg_S (fun v38 => (run_last (run_asg (bind := fun (x : Int) (r : Evr) => (r.set 2 (some (.fz x)))) (ev_div (mr := .F) (ev_fz rfl) (ev_fz rfl)) tg_S (fun v39 => (run_next (s := ((s32.1 ++ [a36]), v38, v39)) (.keep (.keep (.keep (.keep (.keep (.keep (.drop (.drop Wk.nil)))))))))))))))))))) (fun s41 => (run_freeze (i := 5) rfl (run_ret (ev_tolL (ev_fz rfl))))))))))))))))))))))
  exact h
theorem run__law_sizes_by {G : Gb} {vs : List V} {H : Hp} {Q : VK} {E : XK} (h : sp__law_sizes_by G vs H Q E) : t__law_sizes_by G (dEnd Q) (start n__law_sizes_by vs) H := spA_run (n := 7) h (fun _ => rfl) fun p B => rn__law_sizes_by p
abbrev n__law_rows : List Str := ["_law_sizes", "_law_names_here", "_law_points", "_law_lists", "_law_at", "_law_k", "_law_bundle", "_law_name"]
noncomputable def F__law_rows (p0 : (List Int)) (p1 : (List Str)) (p2 : (List Str)) : M (List (Str × (List Str))) :=
  (M.b (M.b (M.chk (-(2 ^ 62) ≤ (((p0.length : Nat) : Int) + (1 : Int)) ∧ (((p0.length : Nat) : Int) + (1 : Int)) < 2 ^ 62) (M.ok (rng 0 (((p0.length : Nat) : Int) + (1 : Int))))) fun x2 => (M.chk (x2.length ≤ sizeLine) (M.lc (fun (y1 : Int) => (M.ok true)) (fun (y1 : Int) => (M.ok [])) x2))) fun v3 => (M.b (M.ok (0 : Int)) fun v4 => (M.b (M.b (M.chk (-(2 ^ 62) ≤ ((p0.length : Nat) : Int) ∧ ((p0.length : Nat) : Int) < 2 ^ 62) (M.ok (rng 0 ((p0.length : Nat) : Int)))) fun x23 => (M.for_ (fun (s5 : (List (List Str)) × Int) (x6 : Int) => (M.b (M.b (M.b (M.b (M.get (atI p0 x6)) fun x7 => (M.ok (s5.2 + x7))) fun x8 => (M.ok (some (x8)))) fun x9 => (M.ok (cutL p1 (some (s5.2)) x9))) fun v10 => (M.b (M.b (M.get (atI p0 x6)) fun x11 => (M.ok (s5.2 + x11))) fun v12 => (M.b (M.b (M.get (atI s5.1 x6)) fun x13 => (M.chk (x13.length + v10.length ≤ sizeLine) (M.ok (x13 ++ v10)))) fun a14 => M.b (M.ok x6) fun j15 => M.b (M.get (ixN s5.1.length j15)) fun n16 => (M.b (M.b (M.get (atI (s5.1.set n16 a14) (x6 + (1 : Int)))) fun x18 => (M.b (M.chk (v10.reverse.length ≤ sizeLine) (M.lc (fun (y17 : Str) => (M.ok true)) (fun (y17 : Str) => (M.ok y17)) v10.reverse)) fun x19 => (M.chk (x18.length + x19.length ≤ sizeLine) (M.ok (x18 ++ x19))))) fun a20 => M.b (M.ok (x6 + (1 : Int))) fun j21 => M.b (M.get (ixN (s5.1.set n16 a14).length j21)) fun n22 => (M.ok (((s5.1.set n16 a14).set n22 a20), v12))))))) x23 (v3, v4))) fun s24 => (M.b (if (decide (s24.2 < (40 : Int))) = true then (M.b (M.b (M.get (atI s24.1 (-(1 : Int)))) fun x38 => (M.b (M.b (M.b (M.get (atI p1 s24.2)) fun x34 => (M.b (M.b (M.get (atI p1 s24.2)) fun x35 => (M.ok (x35 :: []))) fun x36 => (M.ok (x34 :: x36)))) fun x37 => (M.chk (x37.length ≤ sizeLine) (M.ok x37))) fun x39 => (M.chk (x38.length + x39.length ≤ sizeLine) (M.ok (x38 ++ x39))))) fun a40 => M.b (M.ok (-(1 : Int))) fun j41 => M.b (M.get (ixN s24.1.length j41)) fun n42 => (M.ok (s24.1.set n42 a40))) else (M.ok s24.1)) fun s43 => (M.b (M.chk (-(2 ^ 62) ≤ ((s43.length : Nat) : Int) ∧ ((s43.length : Nat) : Int) < 2 ^ 62) (M.ok (rng 0 ((s43.length : Nat) : Int)))) fun x47 => (M.chk (x47.length ≤ sizeLine) (M.lc (fun (y44 : Int) => (M.ok true)) (fun (y44 : Int) => (M.b (M.get (atI p2 y44)) fun x45 => (M.b (M.get (atI s43 y44)) fun x46 => (M.ok (x45, x46))))) x47)))))))
def sp__law_rows (G : Gb) : Sp := spA G (fun (p : (List Int) × (List Str) × (List Str)) => [.bw (p.1), .bw (p.2.1), .bw (p.2.2)]) (rpN G) (fun (p : (List Int) × (List Str) × (List Str)) => F__law_rows (p.1) (p.2.1) (p.2.2))
def t__law_rows (G : Gb) : TS :=
  (tSeq (tAsg (tLc (iRng1 (tCons (tOp qAdd (tCB (qLenQ G.K) (tCons (tVar 0) tNil)) (tC (.int 1))) tNil)) (gName 5) tYes (tLst tNil) [5]) (gName 3)) (tSeq (tAsg (tC (.int 0)) (gName 4)) (tSeq (tFor (iRng1 (tCons (tCB (qLenQ G.K) (tCons (tVar 0) tNil)) tNil)) (gName 5)
  (tSeq (tAsg (tSl (rSlL G.K) (tVar 1) (tPart (tVar 4)) (tPart (tOp qAdd (tVar 4) (tOp (rIxL G.K) (tVar 0) (tVar 5))))) (gName 6)) (tSeq (tAsg (tOp qAdd (tVar 4) (tOp (rIxL G.K) (tVar 0) (tVar 5))) (gName 4)) (tSeq (tAsg (tOp rCat (tOp (rIxL G.K) (tVar 3) (tVar 5)) (tVar 6)) (gSub (tVar 3) (tVar 5) rSetL)) (tAsg (tOp rCat (tOp (rIxL G.K) (tVar 3) (tOp qAdd (tVar 5) (tC (.int 1)))) (tLc (iRev G.K (tCons (tVar 6) tNil)) (gName 7) tYes (tVar 7) [7])) (gSub (tVar 3) (tOp qAdd (tVar 5) (tC (.int 1))) rSetL))))))
  (tSeq (tIfS (tTest (tOp qLt (tVar 4) (tC (.int 40))))
  (tAsg (tOp rCat (tOp (rIxL G.K) (tVar 3) (tUn qNeg (tC (.int 1)))) (tLst (tCons (tOp (rIxL G.K) (tVar 1) (tVar 4)) (tCons (tOp (rIxL G.K) (tVar 1) (tVar 4)) tNil)))) (gSub (tVar 3) (tUn qNeg (tC (.int 1))) rSetL))
  tNext)
  (tRet (tLc (iRng1 (tCons (tCB (qLenQ G.K) (tCons (tVar 3) tNil)) tNil)) (gName 5) tYes (tTup (tCons (tOp (rIxL G.K) (tVar 2) (tVar 5)) (tCons (tOp (rIxL G.K) (tVar 3) (tVar 5)) tNil))) [5]))))))
theorem len__law_rows {G : Gb} (vs : List V) (H : Hp) (Q : VK) (E : XK) (h : sp__law_rows G vs H Q E) : vs.length = 3 := spA_len h fun _ => rfl
theorem rn__law_rows {G : Gb} {B : Hp} {E : XK} (p0 : (List Int)) (p1 : (List Str)) (p2 : (List Str)) : Run G B E (oR G B (rpN G)) [some (.bw p0), some (.bw p1), some (.bw p2), none, none, none, none, none] (t__law_rows G) (F__law_rows p0 p1 p2) := by
  have h : Run G B E (oR G B (rpN G)) [some (.bw p0), some (.bw p1), some (.bw p2), none, none, none, none, none] (t__law_rows G) _ := (run_asgN (en_lc (te := (tLst tNil)) (bind := fun (x : Int) (r : Evr) => (r.set 5 (some (.fz x)))) (ew_rng1 (ev_add (mr := .F) (ev_len (mr := .F) (ev_bw rfl)) (ev_int (md := .F))) tg_S) (fun y1 => evT_yes) (fun y1 => (EvN.F (en_nil)))) (fun v3 => (run_asg (bind := fun (x : Int) (r : Evr) => (r.set 4 (some (.fz x)))) (ev_int (md := .F)) tg_S (fun v4 => (run_seq (EX := fun (s : (List (List Str)) × Int) => [some (.bw p0), some (.bw p1), some (.bw p2), some (.ow s.1), some (.fz s.2), none, none, none]) (run_for (bind := fun (x : Int) (r : Evr) => (r.set 5 (some (.fz x)))) (s0 := (v3, v4)) (ew_rng1 (ev_len (mr := .F) (ev_bw rfl)) tg_S) (.keep (.keep (.keep (.keep (.keep (.drop (.drop (.drop Wk.nil)))))))) (fun s5 x6 => (run_asgN (en_slice (es_sc (ev_bw rfl)) (eo_some (ev_fz rfl)) (eo_some (ev_add (mr := .F) (ev_fz rfl) (ev_ix (ev_bw rfl) (ev_fz rfl))))) (fun v10 => (run_asg (bind := fun (x : Int) (r : Evr) => (r.set 4 (some (.fz x)))) (ev_add (mr := .F) (ev_fz rfl) (ev_ix (ev_bw rfl) (ev_fz rfl))) tg_S (fun v12 => (run_setL rfl (EvN.F (en_cat (es_F (ev_ixS (es_ow rfl) (ev_fz rfl))) (es_ow rfl))) (ev_fz rfl) (fun a14 j15 n16 => (run_freeze (i := 6) rfl (run_last (run_setL rfl (EvN.F (en_cat (es_F (ev_ixS (es_ow rfl) (ev_add (mr := .F) (ev_fz rfl) (ev_int (md := .F))))) (es_N (en_lc (te := (tVar 7)) (bind := fun (x : Str) (r : Evr) => (r.set 7 (some (.fz x)))) (ew_rev (ev_fz rfl) tg_S) (fun y17 => evT_yes) (fun y17 => (ev_fz rfl)))))) (ev_add (mr := .F) (ev_fz rfl) (ev_int (md := .F))) (fun a20 j21 n22 => (run_next (s := (((s5.1.set n16 a14).set n22 a20), v12)) (.keep (.keep (.keep (.keep (.keep (.drop (.drop (.drop Wk.nil))))))))))))))))))))) (fun s24 => (run_seq (EX := fun (s : (List (List Str))) => [some (.bw p0), some (.bw p1), some (.bw p2), some (.ow s), some (.fz s24.2), none, none, none]) (run_if (evT_T (ev_lt (mr := .F) (ev_fz rfl) (ev_int (md := .F)))) (run_last (run_setL rfl (EvN.F (en_cat (es_F (ev_ixS (es_ow rfl) (ev_neg (mr := .F) (ev_int (md := .F))))) (es_N (en_lst (el_cons (Ev.sc (md' := .F) (ev_ix (ev_bw rfl) (ev_fz rfl))) (el_cons (Ev.sc (md' := .F) (ev_ix (ev_bw rfl) (ev_fz rfl))) (el_nil (α := Str)))))))) (ev_neg (mr := .F) (ev_int (md := .F))) (fun a40 j41 n42 => (run_next (s := (s24.1.set n42 a40)) (.keep (.keep (.keep (.keep (.keep (.drop (.drop (.drop Wk.nil)))))))))))) (run_next (s := s24.1) (.keep (.keep (.keep (.keep (.keep (.drop (.drop (.drop Wk.nil)))))))))) (fun s43 => (run_retN (en_lc (te := (tTup (tCons (tOp (rIxL G.K) (tVar 2) (tVar 5)) (tCons (tOp (rIxL G.K) (tVar 3) (tVar 5)) tNil)))) (bind := fun (x : Int) (r : Evr) => (r.set 5 (some (.fz x)))) (ew_rng1 (ev_len (mr := .F) (ev_ow rfl)) tg_S) (fun y44 => evT_yes) (fun y44 => (ev_pair (Ev.sc (md' := .F) (ev_ix (ev_bw rfl) (ev_fz rfl))) (ev_ixS (es_ow rfl) (ev_fz rfl))))))))))))))
  exact h
theorem run__law_rows {G : Gb} {vs : List V} {H : Hp} {Q : VK} {E : XK} (h : sp__law_rows G vs H Q E) : t__law_rows G (dEnd Q) (start n__law_rows vs) H := spA_run (n := 5) h (fun _ => rfl) fun p B => rn__law_rows (p.1) (p.2.1) (p.2.2)
abbrev n__law_rowsT : List Str := ["_law_sizes", "_law_names_here", "_law_points", "_law_lists", "_law_at", "_law_k", "_law_bundle", "_law_name"]
noncomputable def F__law_rowsT (p0 : (Tp Int)) (p1 : (List Str)) (p2 : (List Str)) : M (List (Str × (List Str))) :=
  (M.b (M.b (M.chk (-(2 ^ 62) ≤ (((p0.l.length : Nat) : Int) + (1 : Int)) ∧ (((p0.l.length : Nat) : Int) + (1 : Int)) < 2 ^ 62) (M.ok (rng 0 (((p0.l.length : Nat) : Int) + (1 : Int))))) fun x2 => (M.chk (x2.length ≤ sizeLine) (M.lc (fun (y1 : Int) => (M.ok true)) (fun (y1 : Int) => (M.ok [])) x2))) fun v3 => (M.b (M.ok (0 : Int)) fun v4 => (M.b (M.b (M.chk (-(2 ^ 62) ≤ ((p0.l.length : Nat) : Int) ∧ ((p0.l.length : Nat) : Int) < 2 ^ 62) (M.ok (rng 0 ((p0.l.length : Nat) : Int)))) fun x23 => (M.for_ (fun (s5 : (List (List Str)) × Int) (x6 : Int) => (M.b (M.b (M.b (M.b (M.get (atI p0.l x6)) fun x7 => (M.ok (s5.2 + x7))) fun x8 => (M.ok (some (x8)))) fun x9 => (M.ok (cutL p1 (some (s5.2)) x9))) fun v10 => (M.b (M.b (M.get (atI p0.l x6)) fun x11 => (M.ok (s5.2 + x11))) fun v12 => (M.b (M.b (M.get (atI s5.1 x6)) fun x13 => (M.chk (x13.length + v10.length ≤ sizeLine) (M.ok (x13 ++ v10)))) fun a14 => M.b (M.ok x6) fun j15 => M.b (M.get (ixN s5.1.length j15)) fun n16 => (M.b (M.b (M.get (atI (s5.1.set n16 a14) (x6 + (1 : Int)))) fun x18 => (M.b (M.chk (v10.reverse.length ≤ sizeLine) (M.lc (fun (y17 : Str) => (M.ok true)) (fun (y17 : Str) => (M.ok y17)) v10.reverse)) fun x19 => (M.chk (x18.length + x19.length ≤ sizeLine) (M.ok (x18 ++ x19))))) fun a20 => M.b (M.ok (x6 + (1 : Int))) fun j21 => M.b (M.get (ixN (s5.1.set n16 a14).length j21)) fun n22 => (M.ok (((s5.1.set n16 a14).set n22 a20), v12))))))) x23 (v3, v4))) fun s24 => (M.b (if (decide (s24.2 < (40 : Int))) = true then (M.b (M.b (M.get (atI s24.1 (-(1 : Int)))) fun x38 => (M.b (M.b (M.b (M.get (atI p1 s24.2)) fun x34 => (M.b (M.b (M.get (atI p1 s24.2)) fun x35 => (M.ok (x35 :: []))) fun x36 => (M.ok (x34 :: x36)))) fun x37 => (M.chk (x37.length ≤ sizeLine) (M.ok x37))) fun x39 => (M.chk (x38.length + x39.length ≤ sizeLine) (M.ok (x38 ++ x39))))) fun a40 => M.b (M.ok (-(1 : Int))) fun j41 => M.b (M.get (ixN s24.1.length j41)) fun n42 => (M.ok (s24.1.set n42 a40))) else (M.ok s24.1)) fun s43 => (M.b (M.chk (-(2 ^ 62) ≤ ((s43.length : Nat) : Int) ∧ ((s43.length : Nat) : Int) < 2 ^ 62) (M.ok (rng 0 ((s43.length : Nat) : Int)))) fun x47 => (M.chk (x47.length ≤ sizeLine) (M.lc (fun (y44 : Int) => (M.ok true)) (fun (y44 : Int) => (M.b (M.get (atI p2 y44)) fun x45 => (M.b (M.get (atI s43 y44)) fun x46 => (M.ok (x45, x46))))) x47)))))))
def sp__law_rowsT (G : Gb) : Sp := spA G (fun (p : (Tp Int) × (List Str) × (List Str)) => [.bw (p.1), .bw (p.2.1), .bw (p.2.2)]) (rpN G) (fun (p : (Tp Int) × (List Str) × (List Str)) => F__law_rowsT (p.1) (p.2.1) (p.2.2))
def t__law_rowsT (G : Gb) : TS :=
  (tSeq (tAsg (tLc (iRng1 (tCons (tOp qAdd (tCB (qLenQ G.K) (tCons (tVar 0) tNil)) (tC (.int 1))) tNil)) (gName 5) tYes (tLst tNil) [5]) (gName 3)) (tSeq (tAsg (tC (.int 0)) (gName 4)) (tSeq (tFor (iRng1 (tCons (tCB (qLenQ G.K) (tCons (tVar 0) tNil)) tNil)) (gName 5)
  (tSeq (tAsg (tSl (rSlL G.K) (tVar 1) (tPart (tVar 4)) (tPart (tOp qAdd (tVar 4) (tOp (rIxT G.K) (tVar 0) (tVar 5))))) (gName 6)) (tSeq (tAsg (tOp qAdd (tVar 4) (tOp (rIxT G.K) (tVar 0) (tVar 5))) (gName 4)) (tSeq (tAsg (tOp rCat (tOp (rIxL G.K) (tVar 3) (tVar 5)) (tVar 6)) (gSub (tVar 3) (tVar 5) rSetL)) (tAsg (tOp rCat (tOp (rIxL G.K) (tVar 3) (tOp qAdd (tVar 5) (tC (.int 1)))) (tLc (iRev G.K (tCons (tVar 6) tNil)) (gName 7) tYes (tVar 7) [7])) (gSub (tVar 3) (tOp qAdd (tVar 5) (tC (.int 1))) rSetL))))))
  (tSeq (tIfS (tTest (tOp qLt (tVar 4) (tC (.int 40))))
  (tAsg (tOp rCat (tOp (rIxL G.K) (tVar 3) (tUn qNeg (tC (.int 1)))) (tLst (tCons (tOp (rIxL G.K) (tVar 1) (tVar 4)) (tCons (tOp (rIxL G.K) (tVar 1) (tVar 4)) tNil)))) (gSub (tVar 3) (tUn qNeg (tC (.int 1))) rSetL))
  tNext)
  (tRet (tLc (iRng1 (tCons (tCB (qLenQ G.K) (tCons (tVar 3) tNil)) tNil)) (gName 5) tYes (tTup (tCons (tOp (rIxL G.K) (tVar 2) (tVar 5)) (tCons (tOp (rIxL G.K) (tVar 3) (tVar 5)) tNil))) [5]))))))
theorem len__law_rowsT {G : Gb} (vs : List V) (H : Hp) (Q : VK) (E : XK) (h : sp__law_rowsT G vs H Q E) : vs.length = 3 := spA_len h fun _ => rfl
theorem rn__law_rowsT {G : Gb} {B : Hp} {E : XK} (p0 : (Tp Int)) (p1 : (List Str)) (p2 : (List Str)) : Run G B E (oR G B (rpN G)) [some (.bw p0), some (.bw p1), some (.bw p2), none, none, none, none, none] (t__law_rowsT G) (F__law_rowsT p0 p1 p2) := by
  have h : Run G B E (oR G B (rpN G)) [some (.bw p0), some (.bw p1), some (.bw p2), none, none, none, none, none] (t__law_rowsT G) _ := (run_asgN (en_lc (te := (tLst tNil)) (bind := fun (x : Int) (r : Evr) => (r.set 5 (some (.fz x)))) (ew_rng1 (ev_add (mr := .F) (ev_lenTp (mr := .F) (ev_bw rfl)) (ev_int (md := .F))) tg_S) (fun y1 => evT_yes) (fun y1 => (EvN.F (en_nil)))) (fun v3 => (run_asg (bind := fun (x : Int) (r : Evr) => (r.set 4 (some (.fz x)))) (ev_int (md := .F)) tg_S (fun v4 => (run_seq (EX := fun (s : (List (List Str)) × Int) => [some (.bw p0), some (.bw p1), some (.bw p2), some (.ow s.1), some (.fz s.2), none, none, none]) (run_for (bind := fun (x : Int) (r : Evr) => (r.set 5 (some (.fz x)))) (s0 := (v3, v4)) (ew_rng1 (ev_lenTp (mr := .F) (ev_bw rfl)) tg_S) (.keep (.keep (.keep (.keep (.keep (.drop (.drop (.drop Wk.nil)))))))) (fun s5 x6 => (run_asgN (en_slice (es_sc (ev_bw rfl)) (eo_some (ev_fz rfl)) (eo_some (ev_add (mr := .F) (ev_fz rfl) (ev_ixTp (ev_bw rfl) (ev_fz rfl))))) (fun v10 => (run_asg (bind := fun (x : Int) (r : Evr) => (r.set 4 (some (.fz x)))) (ev_add (mr := .F) (ev_fz rfl) (ev_ixTp (ev_bw rfl) (ev_fz rfl))) tg_S (fun v12 => (run_setL rfl (EvN.F (en_cat (es_F (ev_ixS (es_ow rfl) (ev_fz rfl))) (es_ow rfl))) (ev_fz rfl) (fun a14 j15 n16 => (run_freeze (i := 6) rfl (run_last (run_setL rfl (EvN.F (en_cat (es_F (ev_ixS (es_ow rfl) (ev_add (mr := .F) (ev_fz rfl) (ev_int (md := .F))))) (es_N (en_lc (te := (tVar 7)) (bind := fun (x : Str) (r : Evr) => (r.set 7 (some (.fz x)))) (ew_rev (ev_fz rfl) tg_S) (fun y17 => evT_yes) (fun y17 => (ev_fz rfl)))))) (ev_add (mr := .F) (ev_fz rfl) (ev_int (md := .F))) (fun a20 j21 n22 => (run_next (s := (((s5.1.set n16 a14).set n22 a20), v12)) (.keep (.keep (.keep (.keep (.keep (.drop (.drop (.drop Wk.nil))))))))))))))))))))) (fun s24 => (run_seq (EX := fun (s : (List (List Str))) => [some (.bw p0), some (.bw p1), some (.bw p2), some (.ow s), some (.fz s24.2), none, none, none]) (run_if (evT_T (ev_lt (mr := .F) (ev_fz rfl) (ev_int (md := .F)))) (run_last (run_setL rfl (EvN.F (en_cat (es_F (ev_ixS (es_ow rfl) (ev_neg (mr := .F) (ev_int (md := .F))))) (es_N (en_lst (el_cons (Ev.sc (md' := .F) (ev_ix (ev_bw rfl) (ev_fz rfl))) (el_cons (Ev.sc (md' := .F) (ev_ix (ev_bw rfl) (ev_fz rfl))) (el_nil (α := Str)))))))) (ev_neg (mr := .F) (ev_int (md := .F))) (fun a40 j41 n42 => (run_next (s := (s24.1.set n42 a40)) (.keep (.keep (.keep (.keep (.keep (.drop (.drop (.drop Wk.nil)))))))))))) (run_next (s := s24.1) (.keep (.keep (.keep (.keep (.keep (.drop (.drop (.drop Wk.nil)))))))))) (fun s43 => (run_retN (en_lc (te := (tTup (tCons (tOp (rIxL G.K) (tVar 2) (tVar 5)) (tCons (tOp (rIxL G.K) (tVar 3) (tVar 5)) tNil)))) (bind := fun (x : Int) (r : Evr) => (r.set 5 (some (.fz x)))) (ew_rng1 (ev_len (mr := .F) (ev_ow rfl)) tg_S) (fun y44 => evT_yes) (fun y44 => (ev_pair (Ev.sc (md' := .F) (ev_ix (ev_bw rfl) (ev_fz rfl))) (ev_ixS (es_ow rfl) (ev_fz rfl))))))))))))))
  exact h
theorem run__law_rowsT {G : Gb} {vs : List V} {H : Hp} {Q : VK} {E : XK} (h : sp__law_rowsT G vs H Q E) : t__law_rowsT G (dEnd Q) (start n__law_rowsT vs) H := spA_run (n := 5) h (fun _ => rfl) fun p B => rn__law_rowsT (p.1) (p.2.1) (p.2.2)
abbrev n__law_due : List Str := ["_law_sizes", "_law_names_here", "_law_found", "_law_at", "_law_size", "_law_longer", "_law_some", "_law_name"]
noncomputable def F__law_due (p0 : (List Int)) (p1 : (List Str)) : M (List (List Str)) :=
  (M.b (M.chk ((([] : (List Str)) :: []).length ≤ sizeLine) (M.ok (([] : (List Str)) :: []))) fun v1 => (M.b (M.ok (0 : Int)) fun v2 => (M.b (M.for_ (fun (s16 : (List (List Str)) × Int) (x17 : Int) => (M.b (M.ok ([] : (List (List Str)))) fun v18 => (M.b (M.for_ (fun (s19 : (List (List Str))) (x20 : (List Str)) => (M.b (M.for_ (fun (s21 : (List (List Str))) (x22 : Str) => (M.b (M.b (M.chk ((x22 :: []).length ≤ sizeLine) (M.ok (x22 :: []))) fun x23 => (M.chk (x20.length + x23.length ≤ sizeLine) (M.ok (x20 ++ x23)))) fun a24 => M.chk (s21.length < sizeLine) (M.ok (s21 ++ [a24])))) (cutL p1 (some (s16.2)) (some ((s16.2 + x17)))) s19) fun s25 => (M.ok s25))) s16.1 v18) fun s26 => (M.b (M.ok s26) fun v27 => (M.b (M.ok (s16.2 + x17)) fun v28 => (M.ok (v27, v28))))))) p0 (v1, v2)) fun s29 => (M.b (M.chk (s29.1.length ≤ sizeLine) (M.lc (fun (y30 : (List Str)) => (M.ok true)) (fun (y30 : (List Str)) => (M.chk (y30.length < 64) (M.ok (srt y30)))) s29.1)) fun x31 => (M.ok (srtLs x31))))))
def sp__law_due (G : Gb) : Sp := spA G (fun (p : (List Int) × (List Str)) => [.bw (p.1), .bw (p.2)]) (rpN G) (fun (p : (List Int) × (List Str)) => F__law_due (p.1) (p.2))
def t__law_due (G : Gb) : TS :=
  (tSeq (tAsg (tLst (tCons (tLst tNil) tNil)) (gName 2)) (tSeq (tAsg (tC (.int 0)) (gName 3)) (tSeq (tFor (iList G.K (tVar 0)) (gName 4)
  (tSeq (tAsg (tLst tNil) (gName 5)) (tSeq (tFor (iList G.K (tVar 2)) (gName 6)
  (tFor (iList G.K (tSl (rSlL G.K) (tVar 1) (tPart (tVar 3)) (tPart (tOp qAdd (tVar 3) (tVar 4))))) (gName 7)
  (tDrop (tBM G.K "list" rAppend (tVar 5) (tCons (tOp rCat (tVar 6) (tLst (tCons (tVar 7) tNil))) tNil)))))
  (tSeq (tAsg (tVar 5) (gName 2)) (tAsg (tOp qAdd (tVar 3) (tVar 4)) (gName 3))))))
  (tRet (tCB (rSortedLs G.K) (tCons (tLc (iList G.K (tVar 2)) (gName 6) tYes (tCB (rSortedS G.K) (tCons (tVar 6) tNil)) [6]) tNil))))))
theorem len__law_due {G : Gb} (vs : List V) (H : Hp) (Q : VK) (E : XK) (h : sp__law_due G vs H Q E) : vs.length = 2 := spA_len h fun _ => rfl
theorem rn__law_due {G : Gb} {B : Hp} {E : XK} (p0 : (List Int)) (p1 : (List Str)) : Run G B E (oR G B (rpN G)) [some (.bw p0), some (.bw p1), none, none, none, none, none, none] (t__law_due G) (F__law_due p0 p1) := by
  have h : Run G B E (oR G B (rpN G)) [some (.bw p0), some (.bw p1), none, none, none, none, none, none] (t__law_due G) _ := (run_asgN (en_lst (el_cons (EvN.F (en_nil (α := Str))) (el_nil (α := (List Str))))) (fun v1 => (run_asg (bind := fun (x : Int) (r : Evr) => (r.set 3 (some (.fz x)))) (ev_int (md := .F)) tg_S (fun v2 => (run_freeze (i := 2) rfl (run_seq (EX := fun (s : (List (List Str)) × Int) => [some (.bw p0), some (.bw p1), some (.fz s.1), some (.fz s.2), none, none, none, none]) (run_for (bind := fun (x : Int) (r : Evr) => (r.set 4 (some (.fz x)))) (s0 := (v1, v2)) (ew_B (ev_bw rfl) tg_S) (.keep (.keep (.keep (.keep (.drop (.drop (.drop (.drop Wk.nil)))))))) (fun s16 x17 => (run_asgN (en_nil (α := (List Str))) (fun v18 => (run_seq (EX := fun (s : (List (List Str))) => [some (.bw p0), some (.bw p1), some (.fz s16.1), some (.fz s16.2), some (.fz x17), some (.ow s), none, none]) (run_for (bind := fun (x : (List Str)) (r : Evr) => (r.set 6 (some (.fz x)))) (s0 := v18) (ew_F (ev_fz rfl) tg_F) (.keep (.keep (.keep (.keep (.keep (.keep (.drop (.drop Wk.nil)))))))) (fun s19 x20 => (run_last (run_seq (EX := fun (s : (List (List Str))) => [some (.bw p0), some (.bw p1), some (.fz s16.1), some (.fz s16.2), some (.fz x17), some (.ow s), some (.fz x20), none]) (run_for (bind := fun (x : Str) (r : Evr) => (r.set 7 (some (.fz x)))) (s0 := s19) (ew_F (EvN.F (en_slice (es_sc (ev_bw rfl)) (eo_some (ev_fz rfl)) (eo_some (ev_add (mr := .F) (ev_fz rfl) (ev_fz rfl))))) tg_S) (.keep (.keep (.keep (.keep (.keep (.keep (.keep (.drop Wk.nil)))))))) (fun s21 x22 => (run_last (run_append rfl (EvN.F (en_cat (es_F (ev_fz rfl)) (es_N (en_lst (el_cons (ev_fz rfl) (el_nil (α := Str))))))) (fun a24 => (run_next (s := (s21 ++ [a24])) (.keep (.keep (.keep (.keep (.keep (.keep (.keep (.drop Wk.nil)))))))))))))) (fun s25 => (run_next (s := s25) (.keep (.keep (.keep (.keep (.keep (.keep (.drop (.drop Wk.nil)))))))))))))) (fun s26 => (run_freeze (i := 5) rfl (run_asg (bind := fun (x : (List (List Str))) (r : Evr) => (r.set 2 (some (.fz x)))) (ev_fz rfl) tg_F (fun v27 => (run_last (run_asg (bind := fun (x : Int) (r : Evr) => (r.set 3 (some (.fz x)))) (ev_add (mr := .F) (ev_fz rfl) (ev_fz rfl)) tg_S (fun v28 => (run_next (s := (v27, v28)) (.keep (.keep (.keep (.keep (.drop (.drop (.drop (.drop Wk.nil))))))))))))))))))))) (fun s29 => (run_retN (en_sortLs (es_N (en_lc (te := (tCB (rSortedS G.K) (tCons (tVar 6) tNil))) (bind := fun (x : (List Str)) (r : Evr) => (r.set 6 (some (.fz x)))) (ew_F (ev_fz rfl) tg_F) (fun y30 => evT_yes) (fun y30 => (EvN.F (en_sorted (ev_fz rfl)))))))))))))))
  exact h
theorem run__law_due {G : Gb} {vs : List V} {H : Hp} {Q : VK} {E : XK} (h : sp__law_due G vs H Q E) : t__law_due G (dEnd Q) (start n__law_due vs) H := spA_run (n := 6) h (fun _ => rfl) fun p B => rn__law_due (p.1) (p.2)
abbrev n__law_dueT : List Str := ["_law_sizes", "_law_names_here", "_law_found", "_law_at", "_law_size", "_law_longer", "_law_some", "_law_name"]
noncomputable def F__law_dueT (p0 : (Tp Int)) (p1 : (List Str)) : M (List (List Str)) :=
  (M.b (M.chk ((([] : (List Str)) :: []).length ≤ sizeLine) (M.ok (([] : (List Str)) :: []))) fun v1 => (M.b (M.ok (0 : Int)) fun v2 => (M.b (M.for_ (fun (s16 : (List (List Str)) × Int) (x17 : Int) => (M.b (M.ok ([] : (List (List Str)))) fun v18 => (M.b (M.for_ (fun (s19 : (List (List Str))) (x20 : (List Str)) => (M.b (M.for_ (fun (s21 : (List (List Str))) (x22 : Str) => (M.b (M.b (M.chk ((x22 :: []).length ≤ sizeLine) (M.ok (x22 :: []))) fun x23 => (M.chk (x20.length + x23.length ≤ sizeLine) (M.ok (x20 ++ x23)))) fun a24 => M.chk (s21.length < sizeLine) (M.ok (s21 ++ [a24])))) (cutL p1 (some (s16.2)) (some ((s16.2 + x17)))) s19) fun s25 => (M.ok s25))) s16.1 v18) fun s26 => (M.b (M.ok s26) fun v27 => (M.b (M.ok (s16.2 + x17)) fun v28 => (M.ok (v27, v28))))))) p0.l (v1, v2)) fun s29 => (M.b (M.chk (s29.1.length ≤ sizeLine) (M.lc (fun (y30 : (List Str)) => (M.ok true)) (fun (y30 : (List Str)) => (M.chk (y30.length < 64) (M.ok (srt y30)))) s29.1)) fun x31 => (M.ok (srtLs x31))))))
def sp__law_dueT (G : Gb) : Sp := spA G (fun (p : (Tp Int) × (List Str)) => [.fz (p.1), .bw (p.2)]) (rpN G) (fun (p : (Tp Int) × (List Str)) => F__law_dueT (p.1) (p.2))
def t__law_dueT (G : Gb) : TS :=
  (tSeq (tAsg (tLst (tCons (tLst tNil) tNil)) (gName 2)) (tSeq (tAsg (tC (.int 0)) (gName 3)) (tSeq (tFor (iTup G.K (tVar 0)) (gName 4)
  (tSeq (tAsg (tLst tNil) (gName 5)) (tSeq (tFor (iList G.K (tVar 2)) (gName 6)
  (tFor (iList G.K (tSl (rSlL G.K) (tVar 1) (tPart (tVar 3)) (tPart (tOp qAdd (tVar 3) (tVar 4))))) (gName 7)
  (tDrop (tBM G.K "list" rAppend (tVar 5) (tCons (tOp rCat (tVar 6) (tLst (tCons (tVar 7) tNil))) tNil)))))
  (tSeq (tAsg (tVar 5) (gName 2)) (tAsg (tOp qAdd (tVar 3) (tVar 4)) (gName 3))))))
  (tRet (tCB (rSortedLs G.K) (tCons (tLc (iList G.K (tVar 2)) (gName 6) tYes (tCB (rSortedS G.K) (tCons (tVar 6) tNil)) [6]) tNil))))))
theorem len__law_dueT {G : Gb} (vs : List V) (H : Hp) (Q : VK) (E : XK) (h : sp__law_dueT G vs H Q E) : vs.length = 2 := spA_len h fun _ => rfl
theorem rn__law_dueT {G : Gb} {B : Hp} {E : XK} (p0 : (Tp Int)) (p1 : (List Str)) : Run G B E (oR G B (rpN G)) [some (.fz p0), some (.bw p1), none, none, none, none, none, none] (t__law_dueT G) (F__law_dueT p0 p1) := by
  have h : Run G B E (oR G B (rpN G)) [some (.fz p0), some (.bw p1), none, none, none, none, none, none] (t__law_dueT G) _ := (run_asgN (en_lst (el_cons (EvN.F (en_nil (α := Str))) (el_nil (α := (List Str))))) (fun v1 => (run_asg (bind := fun (x : Int) (r : Evr) => (r.set 3 (some (.fz x)))) (ev_int (md := .F)) tg_S (fun v2 => (run_freeze (i := 2) rfl (run_seq (EX := fun (s : (List (List Str)) × Int) => [some (.fz p0), some (.bw p1), some (.fz s.1), some (.fz s.2), none, none, none, none]) (run_for (bind := fun (x : Int) (r : Evr) => (r.set 4 (some (.fz x)))) (s0 := (v1, v2)) (ew_Tp (ev_fz rfl) tg_S) (.keep (.keep (.keep (.keep (.drop (.drop (.drop (.drop Wk.nil)))))))) (fun s16 x17 => (run_asgN (en_nil (α := (List Str))) (fun v18 => (run_seq (EX := fun (s : (List (List Str))) => [some (.fz p0), some (.bw p1), some (.fz s16.1), some (.fz s16.2), some (.fz x17), some (.ow s), none, none]) (run_for (bind := fun (x : (List Str)) (r : Evr) => (r.set 6 (some (.fz x)))) (s0 := v18) (ew_F (ev_fz rfl) tg_F) (.keep (.keep (.keep (.keep (.keep (.keep (.drop (.drop Wk.nil)))))))) (fun s19 x20 => (run_last (run_seq (EX := fun (s : (List (List Str))) => [some (.fz p0), some (.bw p1), some (.fz s16.1), some (.fz s16.2), some (.fz x17), some (.ow s), some (.fz x20), none]) (run_for (bind := fun (x : Str) (r : Evr) => (r.set 7 (some (.fz x)))) (s0 := s19) (ew_F (EvN.F (en_slice (es_sc (ev_bw rfl)) (eo_some (ev_fz rfl)) (eo_some (ev_add (mr := .F) (ev_fz rfl) (ev_fz rfl))))) tg_S) (.keep (.keep (.keep (.keep (.keep (.keep (.keep (.drop Wk.nil)))))))) (fun s21 x22 => (run_last (run_append rfl (EvN.F (en_cat (es_F (ev_fz rfl)) (es_N (en_lst (el_cons (ev_fz rfl) (el_nil (α := Str))))))) (fun a24 => (run_next (s := (s21 ++ [a24])) (.keep (.keep (.keep (.keep (.keep (.keep (.keep (.drop Wk.nil)))))))))))))) (fun s25 => (run_next (s := s25) (.keep (.keep (.keep (.keep (.keep (.keep (.drop (.drop Wk.nil)))))))))))))) (fun s26 => (run_freeze (i := 5) rfl (run_asg (bind := fun (x : (List (List Str))) (r : Evr) => (r.set 2 (some (.fz x)))) (ev_fz rfl) tg_F (fun v27 => (run_last (run_asg (bind := fun (x : Int) (r : Evr) => (r.set 3 (some (.fz x)))) (ev_add (mr := .F) (ev_fz rfl) (ev_fz rfl)) tg_S (fun v28 => (run_next (s := (v27, v28)) (.keep (.keep (.keep (.keep (.drop (.drop (.drop (.drop Wk.nil))))))))))))))))))))) (fun s29 => (run_retN (en_sortLs (es_N (en_lc (te := (tCB (rSortedS G.K) (tCons (tVar 6) tNil))) (bind := fun (x : (List Str)) (r : Evr) => (r.set 6 (some (.fz x)))) (ew_F (ev_fz rfl) tg_F) (fun y30 => evT_yes) (fun y30 => (EvN.F (en_sorted (ev_fz rfl)))))))))))))))
  exact h
theorem run__law_dueT {G : Gb} {vs : List V} {H : Hp} {Q : VK} {E : XK} (h : sp__law_dueT G vs H Q E) : t__law_dueT G (dEnd Q) (start n__law_dueT vs) H := spA_run (n := 6) h (fun _ => rfl) fun p B => rn__law_dueT (p.1) (p.2)
abbrev n__law_refused : List Str := ["_law_rows_here", "_law_own", "e"]
noncomputable def F__law_refused (p0 : (List (Str × (List Str)))) : M Bool :=
  (M.b (M.ok false) fun v1 => (M.b (M.tr (M.b (F_trees_of p0) fun x8 => (M.ok v1)) fun xc3 => M.chk (xc3 ∈ XC ∧ excIs xc3 "TooMany" = true) (M.b (M.ok true) fun v9 => (M.ok v9))) fun s10 => (M.b (M.tr (M.b (F_trees_of p0) fun x16 => (M.ok (.inl ()))) fun xc12 => M.chk (xc12 ∈ XC ∧ excIs xc12 "NetError" = true) (M.b (if s10 = true then (M.b (M.chk (xc12 ∈ XC) (M.ok true)) fun x18 => (if x18 = true then (M.b (M.chk (xc12 ∈ XC) (M.ok ((["NoNet", "NoTie"] : List Str).any fun T => excIs xc12 T))) fun x17 => (M.ok (!x17))) else M.ok false)) else M.ok false) fun x19 => (M.ok (.inr x19)))) (M.orR fun s20 => (M.ok false)))))
def sp__law_refused (G : Gb) : Sp := spA G (fun (p : (List (Str × (List Str)))) => [.fz p]) (rpF G) (fun (p : (List (Str × (List Str)))) => F__law_refused p)
def t__law_refused (G : Gb) : TS :=
  (tSeq (tAsg (tC (.bl false)) (gName 1)) (tSeq (tTryOn G "TooMany" (fun E => (tDrop (tCall (sp_trees_of G) [] E (tCons (tVar 0) tNil)))) (fun xa2 xl4 xd5 => (tAsg (tC (.bl true)) (gName 1))))
  (tSeq (tTryAs G "NetError" 2 (fun E => (tDrop (tCall (sp_trees_of G) [] E (tCons (tVar 0) tNil)))) (fun xa11 xl13 xd14 => (tRet (tAndV (tVar 1) (tAndV (tCB (rIsX G.K xl13 xd14 xa11) (tCons (tVar 2) (tCons (tC (.ty "ValueError")) tNil))) (tNotV (tCB (rIsXT G.K xl13 xd14 xa11) (tCons (tVar 2) (tCons (tTup (tCons (tC (.ref (G.cl "NoNet"))) (tCons (tC (.ref (G.cl "NoTie"))) tNil))) tNil)))))))))
  (tRet (tC (.bl false))))))
theorem len__law_refused {G : Gb} (vs : List V) (H : Hp) (Q : VK) (E : XK) (h : sp__law_refused G vs H Q E) : vs.length = 1 := spA_len h fun _ => rfl
theorem rn__law_refused {G : Gb} [ExF G XC XT] {B : Hp} {E : XK} (p0 : (List (Str × (List Str)))) : Run G B E (oR G B (rpF G)) [some (.fz p0), none, none] (t__law_refused G) (F__law_refused p0) := by
  have h : Run G B E (oR G B (rpF G)) [some (.fz p0), none, none] (t__law_refused G) _ := (run_asg (bind := fun (x : Bool) (r : Evr) => (r.set 1 (some (.fz x)))) (ev_bl (md := .F)) tg_S (fun v1 => (run_seq (EX := fun (s : Bool) => [some (.fz p0), some (.fz s), none]) (run_weak (ρ' := [some (.fz p0), some (.fz v1), none]) (.keep (.keep (.drop Wk.nil))) (run_tryOn (post := fun B => oN G B (fun (s : Bool) => [some (.fz p0), some (.fz s), none])) (ρ := [some (.fz p0), some (.fz v1), none]) (cs := XC) (ts' := XT) (T := "TooMany") (by decide) (gndU_N (fun _ => rfl)) rfl (fun _ _ => (run_last (run_expr (EvN.H (en_callX1 (f := F_trees_of) (ev_fz rfl) ps_B)) (run_next (s := v1) (.keep (.keep (.drop Wk.nil))))))) (fun xa2 xc3 => (run_last (run_asg (bind := fun (x : Bool) (r : Evr) => (r.set 1 (some (.fz x)))) (ev_bl (md := .F)) tg_S (fun v9 => (run_next (s := v9) (.keep (.keep (.drop Wk.nil)))))))))) (fun s10 => (run_seqR (EX := fun (s : Unit) => [some (.fz p0), some (.fz s10), none]) (run_weak (ρ' := [some (.fz p0), some (.fz s10), none]) (.keep (.keep (.drop Wk.nil))) (run_tryAs (post := fun B => oC G B (fun (s : Unit) => [some (.fz p0), some (.fz s10), none]) (rpF G)) (ρ := [some (.fz p0), some (.fz s10), none]) (cs := XC) (ts' := XT) (T := "NetError") (i := 2) (by decide) (gnd_C antiF (fun _ => rfl) (fun _ => rfl)) rfl (fun _ _ => (run_last (run_expr (EvN.H (en_callX1 (f := F_trees_of) (ev_fz rfl) ps_B)) (run_nextC (s := ()) (.keep (.keep (.drop Wk.nil))))))) (fun xa11 xc12 => (run_retC (ev_andV (mr := .F) (ev_fz rfl) (ev_andV (mr := .F) (ev_isXv (xa := xa11) (xc := xc12) (cs := XC) (ts := XT) (mr := .F) rfl) (ev_notV (mr := .F) (ev_isXT (xa := xa11) (xc := xc12) (cs := XC) (ts := XT) (mr := .F) (l := ["NoNet", "NoTie"]) rfl (by decide) (by decide))))))))) (fun s20 => (run_ret (ev_bl (md := .F)))))))))
  exact h
theorem run__law_refused {G : Gb} [ExF G XC XT] {vs : List V} {H : Hp} {Q : VK} {E : XK} (h : sp__law_refused G vs H Q E) : t__law_refused G (dEnd Q) (start n__law_refused vs) H := spA_run (n := 2) h (fun _ => rfl) fun p B => rn__law_refused p
abbrev n_law : List Str := ["_law_script", "_law_sizes", "_law_drawn", "_law_names_here", "_law_k", "_law_rows_here", "_law_many", "_law_size", "_law_told"]
noncomputable def F_law (p0 : Scr) : M Bool :=
  (M.b (M.b (M.cl (F__law_big p0 (1 : Int))) fun x1 => (M.cl (F__law_sizes_by x1))) fun v2 => (tolM v2 (fun l3 => (M.b (M.b (M.cl (F__law_cell_at p0 (0 : Int))) fun x4 => (M.b (M.chk (CPow (10 : Int) (18 : Int)) (M.ok ((10 : Int) ^ ((18 : Int) : Int).toNat))) fun x5 => (M.chk (CPos x4 x5) (M.ok (x4 % x5))))) fun v6 => (M.b (M.ok ([] : (List Str))) fun v7 => (M.b (M.b (M.chk (-(2 ^ 62) ≤ (41 : Int) ∧ (41 : Int) < 2 ^ 62) (M.ok (rng 0 (41 : Int)))) fun x15 => (M.for_ (fun (s8 : (List Str)) (x9 : Int) => (M.b (M.b (M.b (M.b (M.b (M.chk (CMulW x9 (17 : Int)) (M.ok (x9 * (17 : Int)))) fun x10 => (M.ok (v6 + x10))) fun x11 => (M.chk (CPos x11 (41 : Int)) (M.ok (x11 % (41 : Int))))) fun x12 => (M.chk ((x12).natAbs.log2 < 1920) (M.ok (toString (x12) : Str)))) fun x13 => (M.chk ((Str.ofString "t").length + x13.length ≤ sizeLine) (M.ok ((Str.ofString "t") ++ x13)))) fun a14 => M.chk (s8.length < sizeLine) (M.ok (s8 ++ [a14])))) x15 v7)) fun s16 => (M.b (M.b (M.b (M.chk (CDivW v6 (41 : Int)) (M.ok (v6 / (41 : Int)))) fun x17 => (M.cl (F__law_names x17 (21 : Int)))) fun x18 => (M.cl (F__law_rowsT l3 s16 x18))) fun v19 => (M.b (M.ok (1 : Int)) fun v20 => (M.b (M.for_ (fun (s21 : Int) (x22 : Int) => (M.b (M.chk (CMulW s21 x22) (M.ok (s21 * x22))) fun v23 => (M.ok v23))) l3.l v20) fun s24 => (M.b (M.b (M.cl (F_tree_count v19)) fun x25 => (M.ok (!decide (x25 = s24)))) fun x28 => (if x28 = true then (M.ok false) else (if (decide ((300 : Int) < s24)) = true then (M.cl (F__law_refused v19)) else (M.b (M.cl (F_trees_of v19)) fun v26 => (if true = true then (M.b (M.cl (F__law_dueT l3 s16)) fun x27 => (M.chk (Dd.Ok v26 ∧ Dd.Ok x27) (M.ok (decide (v26 = x27))))) else M.ok false)))))))))))) (fun l29 => (M.b (M.b (M.cl (F__law_cell_at p0 (0 : Int))) fun x30 => (M.b (M.chk (CPow (10 : Int) (18 : Int)) (M.ok ((10 : Int) ^ ((18 : Int) : Int).toNat))) fun x31 => (M.chk (CPos x30 x31) (M.ok (x30 % x31))))) fun v32 => (M.b (M.ok ([] : (List Str))) fun v33 => (M.b (M.b (M.chk (-(2 ^ 62) ≤ (41 : Int) ∧ (41 : Int) < 2 ^ 62) (M.ok (rng 0 (41 : Int)))) fun x41 => (M.for_ (fun (s34 : (List Str)) (x35 : Int) => (M.b (M.b (M.b (M.b (M.b (M.chk (CMulW x35 (17 : Int)) (M.ok (x35 * (17 : Int)))) fun x36 => (M.ok (v32 + x36))) fun x37 => (M.chk (CPos x37 (41 : Int)) (M.ok (x37 % (41 : Int))))) fun x38 => (M.chk ((x38).natAbs.log2 < 1920) (M.ok (toString (x38) : Str)))) fun x39 => (M.chk ((Str.ofString "t").length + x39.length ≤ sizeLine) (M.ok ((Str.ofString "t") ++ x39)))) fun a40 => M.chk (s34.length < sizeLine) (M.ok (s34 ++ [a40])))) x41 v33)) fun s42 => (M.b (M.b (M.b (M.chk (CDivW v32 (41 : Int)) (M.ok (v32 / (41 : Int)))) fun x43 => (M.cl (F__law_names x43 (21 : Int)))) fun x44 => (M.cl (F__law_rows l29 s42 x44))) fun v45 => (M.b (M.ok (1 : Int)) fun v46 => (M.b (M.for_ (fun (s47 : Int) (x48 : Int) => (M.b (M.chk (CMulW s47 x48) (M.ok (s47 * x48))) fun v49 => (M.ok v49))) l29 v46) fun s50 => (M.b (M.b (M.cl (F_tree_count v45)) fun x51 => (M.ok (!decide (x51 = s50)))) fun x54 => (if x54 = true then (M.ok false) else (if (decide ((300 : Int) < s50)) = true then (M.cl (F__law_refused v45)) else (M.b (M.cl (F_trees_of v45)) fun v52 => (if true = true then (M.b (M.cl (F__law_due l29 s42)) fun x53 => (M.chk (Dd.Ok v52 ∧ Dd.Ok x53) (M.ok (decide (v52 = x53))))) else M.ok false))))))))))))))
def sp_law (G : Gb) : Sp := spA G (fun (p : Scr) => [.bw p]) (rpF G) (fun (p : Scr) => F_law p)
def t_law (G : Gb) : TS :=
  (tSeq (tAsg (tCall (sp__law_sizes_by G) [] E0 (tCons (tCall (sp__law_big G) [] E0 (tCons (tVar 0) (tCons (tC (.int 1)) tNil))) tNil)) (gName 1)) (tOrS (tSeq (tAsg (tOp qMod (tCall (sp__law_cell_at G) [] E0 (tCons (tVar 0) (tCons (tC (.int 0)) tNil))) (tOp qPow (tC (.int 10)) (tC (.int 18)))) (gName 2)) (tSeq (tAsg (tLst tNil) (gName 3)) (tSeq (tFor (iRng1 (tCons (tC (.int 41)) tNil)) (gName 4)
  (tDrop (tBM G.K "list" rAppend (tVar 3) (tCons (tOp qCatS (tC (.str "t")) (tCB qStrI (tCons (tOp qMod (tOp qAdd (tVar 2) (tOp qMul (tVar 4) (tC (.int 17)))) (tC (.int 41))) tNil))) tNil))))
  (tSeq (tAsg (tCall (sp__law_rowsT G) [] E0 (tCons (tVar 1) (tCons (tVar 3) (tCons (tCall (sp__law_names G) [] E0 (tCons (tOp qDiv (tVar 2) (tC (.int 41))) (tCons (tC (.int 21)) tNil))) tNil)))) (gName 5)) (tSeq (tAsg (tC (.int 1)) (gName 6)) (tSeq (tFor (iTup G.K (tVar 1)) (gName 7)
  (tAsg (tOp qMul (tVar 6) (tVar 7)) (gName 6)))
  (tSeq (tIfS (tTest (tOp rNe (tCall (sp_tree_count G) [] E0 (tCons (tVar 5) tNil)) (tVar 6)))
  (tRet (tC (.bl false)))
  tNext)
  (tSeq (tIfS (tTest (tOp qGt (tVar 6) (tC (.int 300))))
  (tRet (tCall (sp__law_refused G) [] E0 (tCons (tVar 5) tNil)))
  tNext)
  (tSeq (tAsg (tCall (sp_trees_of G) [] E0 (tCons (tVar 5) tNil)) (gName 8)) (tRet (tAndV (tCB (rIsi G.K) (tCons (tVar 8) (tCons (tC (.ty "list")) tNil))) (tOp (rEqD G.K) (tVar 8) (tCall (sp__law_dueT G) [] E0 (tCons (tVar 1) (tCons (tVar 3) tNil)))))))))))))))
  (tSeq (tAsg (tOp qMod (tCall (sp__law_cell_at G) [] E0 (tCons (tVar 0) (tCons (tC (.int 0)) tNil))) (tOp qPow (tC (.int 10)) (tC (.int 18)))) (gName 2)) (tSeq (tAsg (tLst tNil) (gName 3)) (tSeq (tFor (iRng1 (tCons (tC (.int 41)) tNil)) (gName 4)
  (tDrop (tBM G.K "list" rAppend (tVar 3) (tCons (tOp qCatS (tC (.str "t")) (tCB qStrI (tCons (tOp qMod (tOp qAdd (tVar 2) (tOp qMul (tVar 4) (tC (.int 17)))) (tC (.int 41))) tNil))) tNil))))
  (tSeq (tAsg (tCall (sp__law_rows G) [] E0 (tCons (tVar 1) (tCons (tVar 3) (tCons (tCall (sp__law_names G) [] E0 (tCons (tOp qDiv (tVar 2) (tC (.int 41))) (tCons (tC (.int 21)) tNil))) tNil)))) (gName 5)) (tSeq (tAsg (tC (.int 1)) (gName 6)) (tSeq (tFor (iList G.K (tVar 1)) (gName 7)
  (tAsg (tOp qMul (tVar 6) (tVar 7)) (gName 6)))
  (tSeq (tIfS (tTest (tOp rNe (tCall (sp_tree_count G) [] E0 (tCons (tVar 5) tNil)) (tVar 6)))
  (tRet (tC (.bl false)))
  tNext)
  (tSeq (tIfS (tTest (tOp qGt (tVar 6) (tC (.int 300))))
  (tRet (tCall (sp__law_refused G) [] E0 (tCons (tVar 5) tNil)))
  tNext)
  (tSeq (tAsg (tCall (sp_trees_of G) [] E0 (tCons (tVar 5) tNil)) (gName 8)) (tRet (tAndV (tCB (rIsi G.K) (tCons (tVar 8) (tCons (tC (.ty "list")) tNil))) (tOp (rEqD G.K) (tVar 8) (tCall (sp__law_due G) [] E0 (tCons (tVar 1) (tCons (tVar 3) tNil)))))))))))))))))
theorem len_law {G : Gb} (vs : List V) (H : Hp) (Q : VK) (E : XK) (h : sp_law G vs H Q E) : vs.length = 1 := spA_len h fun _ => rfl
theorem rn_law {G : Gb} {B : Hp} {E : XK} (p0 : Scr) : Run G B E (oR G B (rpF G)) [some (.bw p0), none, none, none, none, none, none, none, none] (t_law G) (F_law p0) := by
  have h : Run G B E (oR G B (rpF G)) [some (.bw p0), none, none, none, none, none, none, none, none] (t_law G) _ := (run_asg (bind := fun (x : Tol) (r : Evr) => (r.set 1 (some (.fz x)))) (ev_call1 (f := F__law_sizes_by) (ev_call2 (f := F__law_big) (ev_bw rfl) ps_B (ev_int (md := .F)) ps_F) ps_F) tg_F (fun v2 => (run_tol (i := 1) rfl (fun l3 => (run_asg (bind := fun (x : Int) (r : Evr) => (r.set 2 (some (.fz x)))) (ev_mod (mr := .F) (ev_call2 (f := F__law_cell_at) (ev_bw rfl) ps_B (ev_int (md := .F)) ps_F) (ev_pow (mr := .F) (ev_int (md := .F)) (ev_int (md := .F)))) tg_S (fun v6 => (run_asgN (en_nil (α := Str)) (fun v7 => (run_seq (EX := fun (s : (List Str)) => [some (.bw p0), some (.fz l3), some (.fz v6), some (.ow s), none, none, none, none, none]) (run_for (bind := fun (x : Int) (r : Evr) => (r.set 4 (some (.fz x)))) (s0 := v7) (ew_rng1 (ev_int (md := .F)) tg_S) (.keep (.keep (.keep (.keep (.drop (.drop (.drop (.drop (.drop Wk.nil))))))))) (fun s8 x9 => (run_last (run_append rfl (ev_catStr (mr := .F) (ev_str (md := .F)) (ev_strI (mr := .F) (ev_mod (mr := .F) (ev_add (mr := .F) (ev_fz rfl) (ev_mul (mr := .F) (ev_fz rfl) (ev_int (md := .F)))) (ev_int (md := .F))))) (fun a14 => (run_next (s := (s8 ++ [a14])) (.keep (.keep (.keep (.keep (.drop (.drop (.drop (.drop (.drop Wk.nil))))))))))))))) (fun s16 => (run_asgN (en_call3 (f := F__law_rowsT) (ev_fz rfl) ps_B (ev_ow rfl) ps_B (EvN.H (en_call2 (f := F__law_names) (ev_div (mr := .F) (ev_fz rfl) (ev_int (md := .F))) ps_F (ev_int (md := .F)) ps_F)) ps_B) (fun v19 => (run_asg (bind := fun (x : Int) (r : Evr) => (r.set 6 (some (.fz x)))) (ev_int (md := .F)) tg_S (fun v20 => (run_seq (EX := fun (s : Int) => [some (.bw p0), some (.fz l3), some (.fz v6), some (.ow s16), none, some (.ow v19), some (.fz s), none, none]) (run_for (bind := fun (x : Int) (r : Evr) => (r.set 7 (some (.fz x)))) (s0 := v20) (ew_Tp (ev_fz rfl) tg_S) (.keep (.keep (.keep (.keep (.drop (.keep (.keep (.drop (.drop Wk.nil))))))))) (fun s21 x22 => (run_last (run_asg (bind := fun (x : Int) (r : Evr) => (r.set 6 (some (.fz x)))) (ev_mul (mr := .F) (ev_fz rfl) (ev_fz rfl)) tg_S (fun v23 => (run_next (s := v23) (.keep (.keep (.keep (.keep (.drop (.keep (.keep (.drop (.drop Wk.nil))))))))))))))) (fun s24 => (run_ifS (evT_T (ev_ne (mr := .F) (ev_call1 (f := F_tree_count) (ev_ow rfl) ps_B) (ev_fz rfl))) (run_cutR (run_ret (ev_bl (md := .F)))) (run_skip (run_ifS (evT_T (ev_gt (mr := .F) (ev_fz rfl) (ev_int (md := .F)))) (run_cutR (run_freeze (i := 5) rfl (run_ret (ev_call1 (f := F__law_refused) (ev_fz rfl) ps_F)))) (run_skip (run_asgN (en_call1 (f := F_trees_of) (ev_ow rfl) ps_B) (fun v26 => (run_ret (ev_andV (mr := .F) (ev_isi (mr := .F) (k := true) (fun _ => kit_ty (by decide +kernel)) (ev_ow rfl)) (ev_eqD (mr := .F) (by decide) (ev_ow rfl) (EvN.H (en_call2 (f := F__law_dueT) (ev_fz rfl) ps_F (ev_ow rfl) ps_B))))))))))))))))))))))))
  (fun l29 => (run_asg (bind := fun (x : Int) (r : Evr) => (r.set 2 (some (.fz x)))) (ev_mod (mr := .F) (ev_call2 (f := F__law_cell_at) (ev_bw rfl) ps_B (ev_int (md := .F)) ps_F) (ev_pow (mr := .F) (ev_int (md := .F)) (ev_int (md := .F)))) tg_S (fun v32 => (run_asgN (en_nil (α := Str)) (fun v33 => (run_seq (EX := fun (s : (List Str)) => [some (.bw p0), some (.fz l29), some (.fz v32), some (.ow s), none, none, none, none, none]) (run_for (bind := fun (x : Int) (r : Evr) => (r.set 4 (some (.fz x)))) (s0 := v33) (ew_rng1 (ev_int (md := .F)) tg_S) (.keep (.keep (.keep (.keep (.drop (.drop (.drop (.drop (.drop Wk.nil))))))))) (fun s34 x35 => (run_last (run_append rfl (ev_catStr (mr := .F) (ev_str (md := .F)) (ev_strI (mr := .F) (ev_mod (mr := .F) (ev_add (mr := .F) (ev_fz rfl) (ev_mul (mr := .F) (ev_fz rfl) (ev_int (md := .F)))) (ev_int (md := .F))))) (fun a40 => (run_next (s := (s34 ++ [a40])) (.keep (.keep (.keep (.keep (.drop (.drop (.drop (.drop (.drop Wk.nil))))))))))))))) (fun s42 => (run_asgN (en_call3 (f := F__law_rows) (ev_fz rfl) ps_B (ev_ow rfl) ps_B (EvN.H (en_call2 (f := F__law_names) (ev_div (mr := .F) (ev_fz rfl) (ev_int (md := .F))) ps_F (ev_int (md := .F)) ps_F)) ps_B) (fun v45 => (run_asg (bind := fun (x : Int) (r : Evr) => (r.set 6 (some (.fz x)))) (ev_int (md := .F)) tg_S (fun v46 => (run_seq (EX := fun (s : Int) => [some (.bw p0), some (.fz l29), some (.fz v32), some (.ow s42), none, some (.ow v45), some (.fz s), none, none]) (run_for (bind := fun (x : Int) (r : Evr) => (r.set 7 (some (.fz x)))) (s0 := v46) (ew_F (ev_fz rfl) tg_S) (.keep (.keep (.keep (.keep (.drop (.keep (.keep (.drop (.drop Wk.nil))))))))) (fun s47 x48 => (run_last (run_asg (bind := fun (x : Int) (r : Evr) => (r.set 6 (some (.fz x)))) (ev_mul (mr := .F) (ev_fz rfl) (ev_fz rfl)) tg_S (fun v49 => (run_next (s := v49) (.keep (.keep (.keep (.keep (.drop (.keep (.keep (.drop (.drop Wk.nil))))))))))))))) (fun s50 => (run_ifS (evT_T (ev_ne (mr := .F) (ev_call1 (f := F_tree_count) (ev_ow rfl) ps_B) (ev_fz rfl))) (run_cutR (run_ret (ev_bl (md := .F)))) (run_skip (run_ifS (evT_T (ev_gt (mr := .F) (ev_fz rfl) (ev_int (md := .F)))) (run_cutR (run_freeze (i := 5) rfl (run_ret (ev_call1 (f := F__law_refused) (ev_fz rfl) ps_F)))) (run_skip (run_asgN (en_call1 (f := F_trees_of) (ev_ow rfl) ps_B) (fun v52 => (run_ret (ev_andV (mr := .F) (ev_isi (mr := .F) (k := true) (fun _ => kit_ty (by decide +kernel)) (ev_ow rfl)) (ev_eqD (mr := .F) (by decide) (ev_ow rfl) (EvN.H (en_call2 (f := F__law_due) (ev_fz rfl) ps_B (ev_ow rfl) ps_B)))))))))))))))))))))))))))
  exact h
theorem run_law {G : Gb} {vs : List V} {H : Hp} {Q : VK} {E : XK} (h : sp_law G vs H Q E) : t_law G (dEnd Q) (start n_law vs) H := spA_run (n := 8) h (fun _ => rfl) fun p B => rn_law p
end Tw
set_option Elab.async false
set_option linter.all false
set_option maxRecDepth 100000
set_option maxHeartbeats 4000000
namespace Tw
def sumZ : Nat → (Nat → Int) → Int
  | 0, _ => 0
  | n + 1, f => sumZ n f + f n
theorem sumZ_congr {n : Nat} {f g : Nat → Int} (h : ∀ i, i < n → f i = g i) : sumZ n f = sumZ n g := by
  induction n with
  | zero => rfl
  | succ n ih =>
    show sumZ n f + f n = sumZ n g + g n
    rw [ih fun i hi => h i (by omega), h n (by omega)]
theorem sumZ_zero {n : Nat} {f : Nat → Int} (h : ∀ i, i < n → f i = 0) : sumZ n f = 0 := by
  induction n with
  | zero => rfl
  | succ n ih =>
    show sumZ n f + f n = 0
    rw [ih fun i hi => h i (by omega), h n (by omega)]
    rfl
theorem sumZ_add (n : Nat) (f g : Nat → Int) : sumZ n (fun i => f i + g i) = sumZ n f + sumZ n g := by
  induction n with
  | zero => rfl
  | succ n ih =>
    show sumZ n (fun i => f i + g i) + (f n + g n) = sumZ n f + f n + (sumZ n g + g n)
    rw [ih]
    omega
theorem sumZ_mul (n : Nat) (c : Int) (f : Nat → Int) : sumZ n (fun i => c * f i) = c * sumZ n f := by
  induction n with
  | zero => exact (Int.mul_zero c).symm
  | succ n ih =>
    show sumZ n (fun i => c * f i) + c * f n = c * (sumZ n f + f n)
    rw [ih, Int.mul_add]
/-- only one term -/
theorem sumZ_one {n k : Nat} (hk : k < n) {f : Nat → Int} (h : ∀ i, i < n → i ≠ k → f i = 0) : sumZ n f = f k := by
  induction n with
  | zero => omega
  | succ n ih =>
    show sumZ n f + f n = f k
    by_cases q : k = n
    · subst q
      rw [sumZ_zero fun i hi => h i (by omega) (by omega), Int.zero_add]
    · rw [ih (by omega) fun i hi ne => h i (by omega) ne, h n (by omega) (Ne.symm q), Int.add_zero]
/-- two terms that cancel -/
theorem sumZ_two {n k : Nat} (hk : k + 1 < n) {f : Nat → Int} (h : ∀ i, i < n → i ≠ k → i ≠ k + 1 → f i = 0) : sumZ n f = f k + f (k + 1) := by
  induction n with
  | zero => omega
  | succ n ih =>
    show sumZ n f + f n = f k + f (k + 1)
    by_cases q : k + 1 = n
    · subst q
      rw [sumZ_one (k := k) (by omega) fun i hi ne => h i (by omega) ne (by omega)]
    · rw [ih (by omega) fun i hi a b => h i (by omega) a b, h n (by omega) (by omega) (by omega), Int.add_zero]
theorem sumZ_pairs (N : Nat) (f : Nat → Nat → Int) : sumZ (N + 1) (fun j => sumZ N (fun k => f j k)) = sumZ (N + 1) (fun j => sumZ j (fun k => f j k + f k (j - 1))) := by
  induction N with
  | zero => rfl
  | succ N ih =>
    show sumZ (N + 1) (fun j => sumZ N (fun k => f j k) + f j N) + sumZ (N + 1) (fun k => f (N + 1) k) = sumZ (N + 1) (fun j => sumZ j (fun k => f j k + f k (j - 1))) + sumZ (N + 1) (fun k => f (N + 1) k + f k (N + 1 - 1))
    rw [sumZ_add, ih, sumZ_add (N + 1) (fun k => f (N + 1) k), Nat.add_sub_cancel]
    omega
def sgN (k : Nat) : Int := if k % 2 = 0 then 1 else -1
theorem sgN_succ (k : Nat) : sgN (k + 1) = -sgN k := by
  unfold sgN
  rcases Nat.mod_two_eq_zero_or_one k with h | h
  · rw [if_neg (by omega), if_pos h]
  · rw [if_pos (by omega), if_neg (by omega)]
    rfl
theorem sgN_even {k : Nat} (h : k % 2 = 0) : sgN k = 1 := if_pos h
theorem sgN_odd {k : Nat} (h : k % 2 = 1) : sgN k = -1 := if_neg (by omega)
/-- past the row that is left out -/
def sk (i a : Nat) : Nat := if a < i then a else a + 1
theorem sk_lt {i a : Nat} (h : a < i) : sk i a = a := if_pos h
theorem sk_ge {i a : Nat} (h : i ≤ a) : sk i a = a + 1 := if_neg (by omega)
theorem sk_ne (i a : Nat) : sk i a ≠ i := by
  unfold sk
  split <;> omega
abbrev Mx := Nat → Nat → Int
/-- by the last column -/
def det : Nat → Mx → Int
  | 0, _ => 1
  | n + 1, M => sumZ (n + 1) fun i => sgN (n + i) * M i n * det n fun a b => M (sk i a) b
theorem det_succ (n : Nat) (M : Mx) : det (n + 1) M = sumZ (n + 1) fun i => sgN (n + i) * M i n * det n fun a b => M (sk i a) b := rfl
theorem det_congr : ∀ {n : Nat} {M N : Mx}, (∀ a b, a < n → b < n → M a b = N a b) → det n M = det n N
  | 0, _, _, _ => rfl
  | n + 1, M, N, h => by
    rw [det_succ, det_succ]
    refine sumZ_congr fun i hi => ?_
    rw [h i n hi (by omega), det_congr fun a b ha hb => h (sk i a) b (by unfold sk; split <;> omega) (by omega)]
/-- a matrix with another row -/
def setR (M : Mx) (r : Nat) (v : Nat → Int) : Mx := fun a b => if a = r then v b else M a b
theorem setR_at (M : Mx) (r : Nat) (v : Nat → Int) (b : Nat) : setR M r v r b = v b := if_pos rfl
theorem setR_ne (M : Mx) {r a : Nat} (h : a ≠ r) (v : Nat → Int) (b : Nat) : setR M r v a b = M a b := if_neg h
theorem setR_self (M : Mx) (r : Nat) : setR M r (M r) = M := by
  funext a b
  unfold setR
  split
  · rename_i h; rw [h]
  · rfl
/-- leaving out row i, row r stands at place -/
theorem setR_sk {M : Mx} {r i : Nat} (v : Nat → Int) (h : r ≠ i) : (fun a b => setR M r v (sk i a) b) = setR (fun a b => M (sk i a) b) (if r < i then r else r - 1) v := by
  funext a b
  unfold setR
  have : (sk i a = r) ↔ (a = if r < i then r else r - 1) := by
    unfold sk
    split <;> split <;> omega
  by_cases q : sk i a = r
  · rw [if_pos q, if_pos (this.mp q)]
  · rw [if_neg q, if_neg (fun w => q (this.mpr w))]
theorem setR_out {M : Mx} {r : Nat} (v : Nat → Int) : (fun a b => setR M r v (sk r a) b) = fun a b => M (sk r a) b := by
  funext a b
  exact setR_ne M (sk_ne r a) v b
/-- linear in each row -/
theorem det_lin : ∀ {n r : Nat}, r < n → ∀ (M : Mx) (c : Int) (u v : Nat → Int), det n (setR M r fun b => u b + c * v b) = det n (setR M r u) + c * det n (setR M r v)
  | n + 1, r, hr, M, c, u, v => by
    rw [det_succ, det_succ, det_succ, ← sumZ_mul, ← sumZ_add]
    refine sumZ_congr fun i hi => ?_
    by_cases q : i = r
    · subst q
      rw [setR_at, setR_at, setR_at, setR_out, setR_out, setR_out]
      simp only [Int.mul_add, Int.add_mul, Int.mul_assoc, Int.mul_left_comm]
    · rw [setR_ne M q, setR_ne M q, setR_ne M q, setR_sk _ (Ne.symm q), setR_sk _ (Ne.symm q), setR_sk _ (Ne.symm q), det_lin (by split <;> omega)]
      simp only [Int.mul_add, Int.mul_assoc, Int.mul_left_comm]
theorem det_zrow {n r : Nat} (hr : r < n) {M : Mx} (h : ∀ b, b < n → M r b = 0) : det n M = 0 := by
  have e : det n M = det n (setR M r fun b => (0 : Int) + 0 * 0) := det_congr fun a b ha hb => by
    unfold setR
    split
    · rename_i q; rw [q, h b hb]; rfl
    · rfl
  rw [e]
  have := det_lin hr M (-1) (fun _ => 0) (fun _ => 0)
  have e2 : (fun b : Nat => (0 : Int) + -1 * 0) = fun _ => 0 := rfl
  rw [e2] at this
  have e3 : (fun b : Nat => (0 : Int) + 0 * 0) = fun _ => 0 := rfl
  rw [e3]
  omega
/-- two neighbour rows alike -/
theorem det_adj : ∀ {n r : Nat}, r + 1 < n → ∀ {M : Mx}, (∀ b, b < n → M r b = M (r + 1) b) → det n M = 0
  | n + 1, r, hr, M, h => by
    rw [det_succ, sumZ_two (k := r) hr fun i hi a b => ?_]
    · have e : det n (fun a b => M (sk r a) b) = det n (fun a b => M (sk (r + 1) a) b) := det_congr fun a b ha hb => by
        by_cases q : a = r
        · subst q
          rw [sk_ge (Nat.le_refl _), sk_lt (by omega)]
          exact (h b (by omega)).symm
        · by_cases q2 : a < r
          · rw [sk_lt q2, sk_lt (by omega)]
          · rw [sk_ge (by omega), sk_ge (by omega)]
      rw [e, ← h n (by omega), show n + (r + 1) = (n + r) + 1 by omega, sgN_succ]
      simp only [Int.neg_mul]
      omega
    · by_cases q : i < r
      · rw [det_adj (r := r - 1) (by omega) fun c hc => ?_, Int.mul_zero]
        rw [sk_ge (by omega), sk_ge (by omega), show r - 1 + 1 = r by omega]
        exact h c (by omega)
      · rw [det_adj (r := r) (by omega) fun c hc => ?_, Int.mul_zero]
        rw [sk_lt (by omega), sk_lt (by omega)]
        exact h c (by omega)
end Tw
set_option Elab.async false
set_option linter.all false
set_option maxRecDepth 100000
set_option maxHeartbeats 4000000
namespace Tw
theorem setR_two (M : Mx) (r : Nat) (u v : Nat → Int) : setR (setR M r u) r v = setR M r v := by
  funext a b
  unfold setR
  split <;> rfl
theorem setR_comm (M : Mx) {r s : Nat} (h : r ≠ s) (u v : Nat → Int) : setR (setR M r u) s v = setR (setR M s v) r u := by
  funext a b
  unfold setR
  by_cases p : a = s
  · rw [if_pos p, if_neg (fun w => h (w.symm.trans p)), if_pos p]
  · rw [if_neg p]
    by_cases q : a = r
    · rw [if_pos q, if_pos q]
    · rw [if_neg q, if_neg q, if_neg p]
theorem det_add {n r : Nat} (hr : r < n) (M : Mx) (u v : Nat → Int) : det n (setR M r fun b => u b + v b) = det n (setR M r u) + det n (setR M r v) := by
  have := det_lin hr M 1 u v
  simp only [Int.one_mul] at this
  exact this
theorem det_mul {n r : Nat} (hr : r < n) (M : Mx) (c : Int) (v : Nat → Int) : det n (setR M r fun b => c * v b) = c * det n (setR M r v) := by
  have := det_lin hr M c (fun _ => 0) v
  simp only [Int.zero_add] at this
  rw [this, det_zrow hr (M := setR M r fun _ => 0) fun b _ => setR_at _ _ _ _, Int.zero_add]
/-- neighbour rows change places -/
theorem det_swap1 {n r : Nat} (hr : r + 1 < n) (M : Mx) (u v : Nat → Int) : det n (setR (setR M r u) (r + 1) v) = -det n (setR (setR M r v) (r + 1) u) := by
  have h1 : r < n := by omega
  have z : ∀ w : Nat → Int, det n (setR (setR M r w) (r + 1) w) = 0 := fun w => det_adj hr fun b _ => by
    rw [setR_ne _ (by omega), setR_at, setR_at]
  have e : det n (setR (setR M r fun b => u b + v b) (r + 1) fun b => u b + v b) = 0 := z fun b => u b + v b
  have l1 : ∀ x : Nat → Int, det n (setR (setR M r fun b => u b + v b) (r + 1) x) = det n (setR (setR M r u) (r + 1) x) + det n (setR (setR M r v) (r + 1) x) := fun x => by
    have ne : r ≠ r + 1 := by omega
    rw [setR_comm M ne (fun b => u b + v b) x, setR_comm M ne u x, setR_comm M ne v x]
    exact det_add h1 (setR M (r + 1) x) u v
  rw [det_add hr, l1, l1, z, z] at e
  omega
/-- two rows alike, anywhere -/
theorem det_same {n : Nat} : ∀ (d : Nat) {r : Nat}, r + d + 1 < n → ∀ {M : Mx}, (∀ b, b < n → M r b = M (r + d + 1) b) → det n M = 0
  | 0, r, hr, M, h => det_adj hr h
  | d + 1, r, hr, M, h => by
    have e0 : det n M = det n (setR (setR M r (M r)) (r + 1) (M (r + 1))) := by rw [setR_self, setR_self]
    rw [e0, det_swap1 (by omega), det_same d (r := r + 1) (by omega) fun b hb => ?_]
    · rfl
    · rw [setR_at, setR_ne _ (by omega), setR_ne _ (by omega), h b hb, show r + (d + 1) + 1 = r + 1 + d + 1 by omega]
theorem det_eqrow {n r s : Nat} (hr : r < n) (hs : s < n) (ne : r ≠ s) {M : Mx} (h : ∀ b, b < n → M r b = M s b) : det n M = 0 := by
  rcases Nat.lt_or_gt_of_ne ne with q | q
  · exact det_same (s - r - 1) (r := r) (by omega) fun b hb => by rw [h b hb, show r + (s - r - 1) + 1 = s by omega]
  · exact det_same (r - s - 1) (r := s) (by omega) fun b hb => by rw [← h b hb, show s + (r - s - 1) + 1 = r by omega]
/-- a row is added to another -/
theorem det_rowop {n r s : Nat} (hr : r < n) (hs : s < n) (ne : r ≠ s) (M : Mx) (c : Int) : det n (setR M r fun b => M r b + c * M s b) = det n M := by
  rw [det_lin hr, setR_self, det_eqrow hr hs ne (M := setR M r (M s)) fun b _ => by rw [setR_at, setR_ne _ (Ne.symm ne)], Int.mul_zero, Int.add_zero]
theorem sk_sk {j k b : Nat} (h : k < j) : sk j (sk k b) = sk k (sk (j - 1) b) := by
  unfold sk
  split <;> split <;> split <;> (try split) <;> omega
/-- the last two columns alike -/
theorem det_col2 (n : Nat) {M : Mx} (h : ∀ a, a < n + 2 → M a n = M a (n + 1)) : det (n + 2) M = 0 := by
  have e1 : det (n + 2) M = sumZ (n + 2) fun j => sumZ (n + 1) fun k => sgN (n + 1 + j) * sgN (n + k) * (M j (n + 1) * M (sk j k) n) * det n fun a b => M (sk j (sk k a)) b := by
    rw [det_succ]
    refine sumZ_congr fun j hj => ?_
    rw [det_succ, ← sumZ_mul]
    refine sumZ_congr fun k hk => ?_
    simp only [Int.mul_assoc, Int.mul_left_comm]
  rw [e1, sumZ_pairs (n + 1)]
  refine sumZ_zero fun j hj => sumZ_zero fun k hk => ?_
  have d : (fun a b => M (sk j (sk k a)) b) = fun a b => M (sk k (sk (j - 1) a)) b := by
    funext a b
    rw [sk_sk hk]
  rw [d, sk_lt hk, sk_ge (show k ≤ j - 1 by omega), show j - 1 + 1 = j by omega, h k (by omega), h j (by omega)]
  have s1 : sgN (n + 1 + j) * sgN (n + k) = -(sgN (n + 1 + k) * sgN (n + (j - 1))) := by
    rw [show n + 1 + j = (n + (j - 1)) + 1 + 1 by omega, show n + 1 + k = (n + k) + 1 by omega, sgN_succ, sgN_succ, sgN_succ]
    simp only [Int.neg_neg, Int.neg_mul, Int.mul_comm]
  rw [s1, Int.mul_comm (M j (n + 1)) (M k (n + 1))]
  simp only [Int.neg_mul]
  omega
def setC (M : Mx) (c : Nat) (v : Nat → Int) : Mx := fun a b => if b = c then v a else M a b
theorem setC_at (M : Mx) (c : Nat) (v : Nat → Int) (a : Nat) : setC M c v a c = v a := if_pos rfl
theorem setC_ne (M : Mx) {c b : Nat} (h : b ≠ c) (v : Nat → Int) (a : Nat) : setC M c v a b = M a b := if_neg h
/-- linear in the last column -/
theorem det_linL (n : Nat) (M : Mx) (u v : Nat → Int) : det (n + 1) (setC M n fun a => u a + v a) = det (n + 1) (setC M n u) + det (n + 1) (setC M n v) := by
  rw [det_succ, det_succ, det_succ, ← sumZ_add]
  refine sumZ_congr fun i hi => ?_
  have d : ∀ w : Nat → Int, det n (fun a b => setC M n w (sk i a) b) = det n fun a b => M (sk i a) b := fun w => det_congr fun a b ha hb => setC_ne M (by omega) _ _
  rw [d, d, d, setC_at, setC_at, setC_at]
  simp only [Int.mul_add, Int.add_mul]
/-- linear in the last column but one -/
theorem det_linK (n : Nat) (M : Mx) (u v : Nat → Int) : det (n + 2) (setC M n fun a => u a + v a) = det (n + 2) (setC M n u) + det (n + 2) (setC M n v) := by
  rw [det_succ (n + 1), det_succ (n + 1), det_succ (n + 1), ← sumZ_add]
  refine sumZ_congr fun i hi => ?_
  have d : ∀ w : Nat → Int, (fun a b => setC M n w (sk i a) b) = setC (fun a b => M (sk i a) b) n fun a => w (sk i a) := fun w => by
    funext a b
    rfl
  rw [d, d, d, det_linL, setC_ne M (by omega), setC_ne M (by omega), setC_ne M (by omega)]
  simp only [Int.mul_add]
theorem setC_comm (M : Mx) {r s : Nat} (h : r ≠ s) (u v : Nat → Int) : setC (setC M r u) s v = setC (setC M s v) r u := by
  funext a b
  unfold setC
  by_cases p : b = s
  · rw [if_pos p, if_neg (fun w => h (w.symm.trans p)), if_pos p]
  · rw [if_neg p]
    by_cases q : b = r
    · rw [if_pos q, if_pos q]
    · rw [if_neg q, if_neg q, if_neg p]
theorem setC_self (M : Mx) (c : Nat) : setC M c (fun a => M a c) = M := by
  funext a b
  unfold setC
  split
  · rename_i h; rw [h]
  · rfl
theorem det_swapC (n : Nat) (M : Mx) (u v : Nat → Int) : det (n + 2) (setC (setC M n u) (n + 1) v) = -det (n + 2) (setC (setC M n v) (n + 1) u) := by
  have z : ∀ w : Nat → Int, det (n + 2) (setC (setC M n w) (n + 1) w) = 0 := fun w => det_col2 n fun a _ => by
    rw [setC_ne _ (by omega), setC_at, setC_at]
  have e := z fun b => u b + v b
  have l1 : ∀ x : Nat → Int, det (n + 2) (setC (setC M n fun b => u b + v b) (n + 1) x) = det (n + 2) (setC (setC M n u) (n + 1) x) + det (n + 2) (setC (setC M n v) (n + 1) x) := fun x => by
    have ne : n ≠ n + 1 := by omega
    rw [setC_comm M ne (fun b => u b + v b) x, setC_comm M ne u x, setC_comm M ne v x]
    exact det_linK n (setC M (n + 1) x) u v
  rw [det_linL (n + 1), l1, l1, z, z] at e
  omega
/-- the last column is an earlier one -/
theorem det_colL : ∀ (n : Nat) {c : Nat}, c < n → ∀ {M : Mx}, (∀ a, a < n + 1 → M a c = M a n) → det (n + 1) M = 0
  | 0, c, hc, M, h => by omega
  | n + 1, c, hc, M, h => by
    by_cases q : c = n
    · subst q
      exact det_col2 c h
    · have e0 : det (n + 2) M = det (n + 2) (setC (setC M n fun a => M a n) (n + 1) fun a => M a (n + 1)) := by rw [setC_self, setC_self]
      rw [e0, det_swapC, det_succ, sumZ_zero fun i hi => ?_]
      · rfl
      · rw [det_colL n (c := c) (by omega) fun a ha => ?_, Int.mul_zero]
        rw [setC_ne _ (by omega), setC_ne _ (by omega), setC_ne _ (by omega), setC_at]
        exact h _ (by unfold sk; split <;> omega)
end Tw
set_option Elab.async false
set_option linter.all false
set_option maxRecDepth 100000
set_option maxHeartbeats 4000000
namespace Tw
/-- the last row has but its last entry -/
theorem det_last (k : Nat) {A : Mx} (h : ∀ b, b < k → A k b = 0) : det (k + 1) A = A k k * det k A := by
  rw [det_succ, sumZ_one (k := k) (by omega) fun i hi ne => ?_]
  · rw [sgN_even (by omega), Int.one_mul, det_congr (M := fun a b => A (sk k a) b) (N := A) fun a b ha hb => by rw [sk_lt ha]]
  · have hi : i < k := by omega
    rw [det_zrow (r := k - 1) (by omega) fun b hb => ?_, Int.mul_zero]
    rw [sk_ge (by omega), show k - 1 + 1 = k by omega]
    exact h b hb
theorem det_comb : ∀ (k : Nat) {n r : Nat}, r < n → k ≤ r → ∀ (M : Mx) (p : Int) (C : Nat → Int), det n (setR M r fun b => p * M r b + sumZ k fun l => C l * M l b) = p * det n M
  | 0, n, r, hr, hk, M, p, C => by
    show det n (setR M r fun b => p * M r b + 0) = _
    simp only [Int.add_zero]
    rw [det_mul hr, setR_self]
  | k + 1, n, r, hr, hk, M, p, C => by
    have e : (fun b => p * M r b + sumZ (k + 1) fun l => C l * M l b) = fun b => (p * M r b + sumZ k fun l => C l * M l b) + C k * M k b := by
      funext b
      show p * M r b + (sumZ k (fun l => C l * M l b) + C k * M k b) = _
      omega
    rw [e, det_lin hr, det_comb k hr (by omega), det_eqrow hr (show k < n by omega) (by omega) (M := setR M r fun b => M k b) fun b _ => by rw [setR_at, setR_ne _ (by omega)], Int.mul_zero, Int.add_zero]
/-- a minor: the first k rows and columns, and one more of each -/
def mnr (M : Mx) (k i j : Nat) : Int := det (k + 1) fun a b => M (if a < k then a else i) (if b < k then b else j)
theorem mnr_zero (M : Mx) (k i : Nat) {b : Nat} (hb : b < k) : mnr M k i b = 0 := det_colL k hb fun a _ => by
  show M (if a < k then a else i) (if b < k then b else b) = M (if a < k then a else i) (if k < k then k else b)
  rw [if_pos hb, if_neg (Nat.lt_irrefl k)]
theorem mnr_exp (M : Mx) (k i : Nat) : ∃ C : Nat → Int, ∀ b, mnr M k i b = det k M * M i b + sumZ k fun l => C l * M l b := by
  refine ⟨fun l => sgN (k + l) * det k fun a c => M (if sk l a < k then sk l a else i) c, fun b => ?_⟩
  unfold mnr
  rw [det_succ]
  show sumZ k (fun l => sgN (k + l) * M (if l < k then l else i) (if k < k then k else b) * det k fun a c => M (if sk l a < k then sk l a else i) (if c < k then c else b)) + sgN (k + k) * M (if k < k then k else i) (if k < k then k else b) * det k (fun a c => M (if sk k a < k then sk k a else i) (if c < k then c else b)) = _
  rw [if_neg (Nat.lt_irrefl k), if_neg (Nat.lt_irrefl k), sgN_even (by omega), Int.one_mul]
  have e1 : det k (fun a c => M (if sk k a < k then sk k a else i) (if c < k then c else b)) = det k M := det_congr fun a c ha hc => by rw [sk_lt ha, if_pos ha, if_pos hc]
  rw [e1, Int.mul_comm (M i b), Int.add_comm]
  congr 1
  refine sumZ_congr fun l hl => ?_
  rw [if_pos hl, det_congr (N := fun a c => M (if sk l a < k then sk l a else i) c) fun a c ha hc => by rw [if_pos hc]]
  rw [Int.mul_assoc, Int.mul_assoc, Int.mul_comm (M l b)]
/-- Sylvester's identity for one step of the elimination -/
theorem sylv (M : Mx) (k x y u v : Nat) (hp : det k M ≠ 0) :
    det k M * det (k + 2) (fun a b => M (if a < k then a else if a = k then x else y) (if b < k then b else if b = k then u else v)) = mnr M k x u * mnr M k y v - mnr M k x v * mnr M k y u := by
  obtain ⟨C, hC⟩ := mnr_exp M k x
  obtain ⟨D, hD⟩ := mnr_exp M k y
  let cb : Nat → Nat := fun b => if b < k then b else if b = k then u else v
  let N : Mx := fun a b => M (if a < k then a else if a = k then x else y) (cb b)
  let N1 : Mx := setR N k fun b => mnr M k x (cb b)
  let N2 : Mx := setR N1 (k + 1) fun b => mnr M k y (cb b)
  have Nl : ∀ l, l < k → ∀ b, N l b = M l (cb b) := fun l hl b => by
    show M (if l < k then l else if l = k then x else y) (cb b) = _
    rw [if_pos hl]
  have Nk : ∀ b, N k b = M x (cb b) := fun b => by
    show M (if k < k then k else if k = k then x else y) (cb b) = _
    rw [if_neg (Nat.lt_irrefl k), if_pos rfl]
  have Nk1 : ∀ b, N (k + 1) b = M y (cb b) := fun b => by
    show M (if k + 1 < k then k + 1 else if k + 1 = k then x else y) (cb b) = _
    rw [if_neg (by omega), if_neg (by omega)]
  have d1 : det (k + 2) N1 = det k M * det (k + 2) N := by
    rw [← det_comb k (show k < k + 2 by omega) (Nat.le_refl k) N (det k M) C]
    show det (k + 2) (setR N k fun b => mnr M k x (cb b)) = _
    congr 2
    funext b
    rw [hC, Nk]
    congr 1
    exact sumZ_congr fun l hl => by rw [Nl l hl]
  have d2 : det (k + 2) N2 = det k M * det (k + 2) N1 := by
    rw [← det_comb k (show k + 1 < k + 2 by omega) (by omega) N1 (det k M) D]
    show det (k + 2) (setR N1 (k + 1) fun b => mnr M k y (cb b)) = _
    congr 2
    funext b
    rw [hD, show N1 (k + 1) b = N (k + 1) b from setR_ne _ (by omega) _ _, Nk1]
    congr 1
    exact sumZ_congr fun l hl => by rw [show N1 l b = N l b from setR_ne _ (by omega) _ _, Nl l hl]
  have r0 : ∀ l b, l < k → N2 l b = M l (cb b) := fun l b hl => by
    rw [show N2 l b = N1 l b from setR_ne _ (by omega) _ _, show N1 l b = N l b from setR_ne _ (by omega) _ _, Nl l hl]
  have r1 : ∀ b, N2 k b = mnr M k x (cb b) := fun b => by
    rw [show N2 k b = N1 k b from setR_ne _ (by omega) _ _]
    exact setR_at _ _ _ _
  have r2 : ∀ b, N2 (k + 1) b = mnr M k y (cb b) := fun b => setR_at _ _ _ _
  have cl : ∀ b, b < k → cb b = b := fun b hb => if_pos hb
  have ck : cb k = u := by show (if k < k then k else if k = k then u else v) = u; rw [if_neg (Nat.lt_irrefl k), if_pos rfl]
  have ck1 : cb (k + 1) = v := by show (if k + 1 < k then k + 1 else if k + 1 = k then u else v) = v; rw [if_neg (by omega), if_neg (by omega)]
  have z1 : ∀ b, b < k → N2 k b = 0 := fun b hb => by rw [r1, cl b hb]; exact mnr_zero M k x hb
  have z2 : ∀ b, b < k → N2 (k + 1) b = 0 := fun b hb => by rw [r2, cl b hb]; exact mnr_zero M k y hb
  have top : det k (fun a b => N2 a b) = det k M := det_congr fun a b ha hb => by rw [r0 a b ha, cl b hb]
  have d3 : det (k + 2) N2 = det k M * (mnr M k x u * mnr M k y v - mnr M k x v * mnr M k y u) := by
    rw [det_succ (k + 1), sumZ_two (k := k) (by omega) fun i hi a b => ?_]
    · have m1 : det (k + 1) (fun a b => N2 (sk k a) b) = mnr M k y u * det k M := by
        rw [det_last k fun b hb => ?_]
        · rw [sk_ge (Nat.le_refl k), r2, ck, det_congr (N := fun a b => N2 a b) fun a b ha hb => by rw [sk_lt ha], top]
        · rw [sk_ge (Nat.le_refl k)]
          exact z2 b hb
      have m2 : det (k + 1) (fun a b => N2 (sk (k + 1) a) b) = mnr M k x u * det k M := by
        rw [det_last k fun b hb => ?_]
        · rw [sk_lt (by omega), r1, ck, det_congr (N := fun a b => N2 a b) fun a b ha hb => by rw [sk_lt (by omega)], top]
        · rw [sk_lt (by omega)]
          exact z1 b hb
      rw [m1, m2, r1, r2, ck1, sgN_odd (show (k + 1 + k) % 2 = 1 by omega), sgN_even (show (k + 1 + (k + 1)) % 2 = 0 by omega)]
      generalize mnr M k x u = p1
      generalize mnr M k y v = p2
      generalize mnr M k x v = p3
      generalize mnr M k y u = p4
      generalize det k M = p
      rw [Int.mul_sub, Int.one_mul]
      have a1 : -1 * p3 * (p4 * p) = -(p * (p3 * p4)) := by rw [Int.neg_mul, Int.one_mul, Int.neg_mul, ← Int.mul_assoc, Int.mul_comm (p3 * p4) p]
      have a2 : p2 * (p1 * p) = p * (p1 * p2) := by rw [← Int.mul_assoc, Int.mul_comm p2 p1, Int.mul_comm (p1 * p2) p]
      rw [a1, a2]
      omega
    · have hi2 : i < k := by omega
      have z : det (k + 1) (fun a b => N2 (sk i a) b) = 0 := by
        rw [det_succ, sumZ_zero fun j hj => ?_]
        by_cases q : j = k
        · subst q
          rw [det_zrow (r := j - 1) (by omega) fun b hb => ?_, Int.mul_zero]
          rw [sk_lt (show j - 1 < j by omega), sk_ge (by omega), show j - 1 + 1 = j by omega]
          exact z1 b hb
        · rw [det_zrow (r := k - 1) (by omega) fun b hb => ?_, Int.mul_zero]
          rw [sk_ge (show j ≤ k - 1 by omega), show k - 1 + 1 = k by omega, sk_ge (by omega)]
          exact z2 b hb
      rw [z, Int.mul_zero]
  rw [d2, d1] at d3
  exact Int.eq_of_mul_eq_mul_left hp d3
end Tw
set_option Elab.async false
set_option linter.all false
set_option maxRecDepth 100000
set_option maxHeartbeats 4000000
namespace Tw
theorem mnr_nil (M : Mx) (i j : Nat) : mnr M 0 i j = M i j := by
  unfold mnr
  rw [det_succ]
  show (0 : Int) + sgN (0 + 0) * M (if 0 < 0 then 0 else i) (if 0 < 0 then 0 else j) * det 0 _ = _
  rw [if_neg (Nat.lt_irrefl 0), if_neg (Nat.lt_irrefl 0), sgN_even rfl]
  show (0 : Int) + 1 * M i j * 1 = _
  omega
theorem mnr_lead (M : Mx) (k : Nat) : mnr M k k k = det (k + 1) M := det_congr fun a b ha hb => by
  have e1 : (if a < k then a else k) = a := by split <;> omega
  have e2 : (if b < k then b else k) = b := by split <;> omega
  rw [e1, e2]
/-- one step of the elimination: the division leaves no rest -/
theorem bare_step (M : Mx) (k i j : Nat) (hp : det k M ≠ 0) : (mnr M k i j * mnr M k k k - mnr M k i k * mnr M k k j) / det k M = mnr M (k + 1) i j := by
  have s := sylv M k k i k j hp
  have e : det (k + 2) (fun a b => M (if a < k then a else if a = k then k else i) (if b < k then b else if b = k then k else j)) = mnr M (k + 1) i j := det_congr fun a b _ _ => by
    have e1 : (if a < k then a else if a = k then k else i) = (if a < k + 1 then a else i) := by
      by_cases q : a < k
      · rw [if_pos q, if_pos (by omega)]
      · rw [if_neg q]
        by_cases w : a = k
        · rw [if_pos w, if_pos (by omega), w]
        · rw [if_neg w, if_neg (by omega)]
    have e2 : (if b < k then b else if b = k then k else j) = (if b < k + 1 then b else j) := by
      by_cases q : b < k
      · rw [if_pos q, if_pos (by omega)]
      · rw [if_neg q]
        by_cases w : b = k
        · rw [if_pos w, if_pos (by omega), w]
        · rw [if_neg w, if_neg (by omega)]
    rw [e1, e2]
  rw [e] at s
  have t : mnr M k i j * mnr M k k k - mnr M k i k * mnr M k k j = det k M * mnr M (k + 1) i j := by
    rw [s, Int.mul_comm (mnr M k i j), Int.mul_comm (mnr M k i k)]
  rw [t, Int.mul_ediv_cancel_left _ hp]
end Tw
set_option Elab.async false
set_option linter.all false
set_option maxRecDepth 100000
set_option maxHeartbeats 4000000
namespace Tw
def dl (a b : Nat) : Int := if a = b then 1 else 0
/-- what a tie gives to the row of part v -/
def lapE (P : Nat → Nat) (v b : Nat) (e : Nat × Nat) : Int := (if P e.1 = v then dl e.1 b - dl e.2 b else 0) + (if P e.2 = v then dl e.2 b - dl e.1 b else 0)
def lapR (P : Nat → Nat) : List (Nat × Nat) → Nat → Nat → Int
  | [], _, _ => 0
  | e :: es, v, b => lapE P v b e + lapR P es v b
def matP (P : Nat → Nat) (es : List (Nat × Nat)) : Mx := fun v b => if v = P 0 then dl v b else if P v = v then lapR P es v b else dl v b - dl (P v) b
/-- part q is put to part p -/
def mrgP (P : Nat → Nat) (p q : Nat) : Nat → Nat := fun v => if P v = q then p else P v
structure Prt (n : Nat) (P : Nat → Nat) : Prop where
  pos : 0 < n
  lt : ∀ v, v < n → P v < n
  idem : ∀ v, v < n → P (P v) = P v
theorem Prt.mrgP {n : Nat} {P : Nat → Nat} (h : Prt n P) {x y : Nat} (hx : x < n) (hy : y < n) (ne : P x ≠ P y) : Prt n (Tw.mrgP P (P x) (P y)) := by
  refine ⟨h.pos, fun v hv => ?_, fun v hv => ?_⟩
  · unfold Tw.mrgP
    split
    · exact h.lt x hx
    · exact h.lt v hv
  · unfold Tw.mrgP
    by_cases q : P v = P y
    · rw [if_pos q, if_neg (by rw [h.idem x hx]; exact ne), h.idem x hx]
    · rw [if_neg q, if_neg (by rw [h.idem v hv]; exact q), h.idem v hv]
/-- a tie within a part gives nothing -/
theorem lapE_in (P : Nat → Nat) {e : Nat × Nat} (h : P e.1 = P e.2) (v b : Nat) : lapE P v b e = 0 := by
  unfold lapE
  rw [h]
  split <;> omega
theorem matP_in (P : Nat → Nat) {e : Nat × Nat} (h : P e.1 = P e.2) (es : List (Nat × Nat)) : matP P (e :: es) = matP P es := by
  funext v b
  unfold matP
  show (if v = P 0 then _ else if P v = v then lapE P v b e + lapR P es v b else _) = _
  rw [lapE_in P h, Int.zero_add]
/-- nothing is tied any more -/
theorem matP_nil {n : Nat} {P : Nat → Nat} (h : Prt n P) (w : ∃ v, v < n ∧ P v ≠ P 0) : det n (matP P []) = 0 := by
  obtain ⟨v, hv, ne⟩ := w
  refine det_zrow (h.lt v hv) fun b _ => ?_
  unfold matP
  rw [if_neg ne, if_pos (h.idem v hv)]
  rfl
end Tw
set_option Elab.async false
set_option linter.all false
set_option maxRecDepth 100000
set_option maxHeartbeats 4000000
namespace Tw
variable {n : Nat} {P : Nat → Nat}
/-- a row that is there, or nought, is added -/
theorem det_addC {M : Mx} {r x : Nat} (hr : r < n) (hx : x < n) {w : Nat → Int} (h : (∀ b, w b = 0) ∨ (x ≠ r ∧ ∀ b, M x b = w b)) (c : Int) (v : Nat → Int) (hv : ∀ b, v b = M r b + c * w b) : det n (setR M r v) = det n M := by
  rcases h with h | ⟨ne, h⟩
  · have : v = M r := by
      funext b
      rw [hv, h, Int.mul_zero, Int.add_zero]
    rw [this, setR_self]
  · have : v = fun b => M r b + c * M x b := by
      funext b
      rw [hv, h]
    rw [this]
    exact det_rowop hr hx (Ne.symm ne) M c
/-- the step from a point to the name of its part -/
def cx (P : Nat → Nat) (x b : Nat) : Int := dl x b - dl (P x) b
theorem cx_row (h : Prt n P) {x : Nat} (hx : x < n) (es : List (Nat × Nat)) : (∀ b, cx P x b = 0) ∨ (P x ≠ x ∧ x ≠ P 0 ∧ ∀ b, matP P es x b = cx P x b) := by
  by_cases q : P x = x
  · left
    intro b
    unfold cx
    rw [q]
    omega
  · right
    have r0 : x ≠ P 0 := fun w => q (by rw [w, h.idem 0 h.pos])
    refine ⟨q, r0, fun b => ?_⟩
    unfold matP
    rw [if_neg r0, if_neg q]
    rfl
/-- one row is added to many others -/
theorem det_multi {M : Mx} {q : Nat} (hq : q < n) (c : Nat → Int) (cq : c q = 0) : ∀ k, k ≤ n → det n (fun v b => if v < k then M v b + c v * M q b else M v b) = det n M
  | 0, _ => det_congr fun a b _ _ => if_neg (by omega)
  | k + 1, hk => by
    have ih := det_multi (M := M) hq c cq k (by omega)
    generalize hN : (fun v b => if v < k then M v b + c v * M q b else M v b : Mx) = N at ih
    have Nq : ∀ b, N q b = M q b := fun b => by
      rw [← hN]
      show (if q < k then M q b + c q * M q b else M q b) = _
      rw [cq]
      split <;> omega
    have e : (fun v b => if v < k + 1 then M v b + c v * M q b else M v b : Mx) = setR N k fun b => N k b + c k * N q b := by
      funext v b
      unfold setR
      by_cases w : v = k
      · rw [if_pos w, w, if_pos (by omega)]
        show _ = N k b + c k * N q b
        rw [Nq, ← hN]
        show _ = (if k < k then M k b + c k * M q b else M k b) + _
        rw [if_neg (Nat.lt_irrefl k)]
      · rw [if_neg w, ← hN]
        show _ = if v < k then M v b + c v * M q b else M v b
        by_cases z : v < k
        · rw [if_pos z, if_pos (by omega)]
        · rw [if_neg z, if_neg (by omega)]
    rw [e, ← ih]
    by_cases w : k = q
    · subst w
      have : (fun b => N k b + c k * N k b) = N k := by
        funext b
        rw [cq, Int.zero_mul, Int.add_zero]
      rw [this, setR_self]
    · exact det_rowop (by omega) hq w N (c k)
theorem lapE_mrg {p q : Nat} (ne : p ≠ q) (e : Nat × Nat) (b : Nat) : lapE (mrgP P p q) p b e = lapE P p b e + lapE P q b e := by
  have key : ∀ z : Nat, (mrgP P p q z = p) ↔ (P z = p ∨ P z = q) := fun z => by
    unfold mrgP
    split <;> simp_all
  have k2 : ∀ z : Nat, ∀ t : Int, (if mrgP P p q z = p then t else 0) = (if P z = p then t else 0) + (if P z = q then t else 0) := fun z t => by
    by_cases h1 : P z = p
    · rw [if_pos ((key z).mpr (.inl h1)), if_pos h1, if_neg (fun w => ne (h1.symm.trans w)), Int.add_zero]
    · by_cases h2 : P z = q
      · rw [if_pos ((key z).mpr (.inr h2)), if_neg h1, if_pos h2, Int.zero_add]
      · rw [if_neg (fun w => ((key z).mp w).elim h1 h2), if_neg h1, if_neg h2]
        rfl
  unfold lapE
  rw [k2, k2]
  omega
theorem lapE_oth {p q v : Nat} (hp : v ≠ p) (hq : v ≠ q) (e : Nat × Nat) (b : Nat) : lapE (mrgP P p q) v b e = lapE P v b e := by
  have key : ∀ z : Nat, (mrgP P p q z = v) ↔ (P z = v) := fun z => by
    unfold mrgP
    split
    · rename_i h
      constructor
      · intro w; exact absurd w.symm hp
      · intro w; exact absurd (w.symm.trans h) hq
    · rfl
  have k2 : ∀ z : Nat, ∀ t : Int, (if mrgP P p q z = v then t else 0) = (if P z = v then t else 0) := fun z t => by
    by_cases h1 : P z = v
    · rw [if_pos ((key z).mpr h1), if_pos h1]
    · rw [if_neg (fun w => h1 ((key z).mp w)), if_neg h1]
  unfold lapE
  rw [k2, k2]
theorem lapR_mrg {p q : Nat} (ne : p ≠ q) (b : Nat) : ∀ es, lapR (mrgP P p q) es p b = lapR P es p b + lapR P es q b
  | [] => rfl
  | e :: es => by
    show lapE _ p b e + lapR _ es p b = lapE P p b e + lapR P es p b + (lapE P q b e + lapR P es q b)
    rw [lapE_mrg ne, lapR_mrg ne b es]
    omega
theorem lapR_oth {p q v : Nat} (hp : v ≠ p) (hq : v ≠ q) (b : Nat) : ∀ es, lapR (mrgP P p q) es v b = lapR P es v b
  | [] => rfl
  | e :: es => by
    show lapE _ v b e + lapR _ es v b = lapE P v b e + lapR P es v b
    rw [lapE_oth hp hq, lapR_oth hp hq b es]
end Tw
set_option Elab.async false
set_option linter.all false
set_option maxRecDepth 100000
set_option maxHeartbeats 4000000
namespace Tw
variable {n : Nat} {P : Nat → Nat}
theorem det_toM {E N : Mx} {q : Nat} (hq : q < n) (c : Nat → Int) (cq : c q = 0) (h : ∀ v b, v < n → b < n → N v b = E v b + c v * E q b) : det n E = det n N := by
  rw [← det_multi (M := E) hq c cq n (Nat.le_refl n)]
  exact det_congr fun v b hv hb => by rw [if_pos hv, h v b hv hb]
/-- the rows of the merged parts, but for those that stood by part q -/
theorem mrg_rows (h : Prt n P) {x y : Nat} (hx : x < n) (hy : y < n) (ne : P x ≠ P y) (es : List (Nat × Nat)) {v : Nat} (hv : v < n) (v0 : v ≠ P 0) (vp : v ≠ P x) (vq : v ≠ P y) (b : Nat) :
    matP (mrgP P (P x) (P y)) es v b = matP P es v b + (if P v = P y then 1 else 0) * (dl (P y) b - dl (P x) b) := by
  have r0 : v ≠ mrgP P (P x) (P y) 0 := by
    unfold mrgP
    split
    · exact vp
    · exact v0
  unfold matP
  rw [if_neg r0, if_neg v0]
  by_cases l : P v = v
  · have l2 : mrgP P (P x) (P y) v = v := by
      unfold mrgP
      rw [if_neg (by rw [l]; exact vq), l]
    rw [if_pos l, if_pos l2, lapR_oth vp vq, if_neg (by rw [l]; exact vq), Int.zero_mul, Int.add_zero]
  · by_cases w : P v = P y
    · have e : mrgP P (P x) (P y) v = P x := if_pos w
      rw [if_neg l, if_neg (by rw [e]; exact Ne.symm vp), e, if_pos w, w]
      omega
    · have e : mrgP P (P x) (P y) v = P v := if_neg w
      rw [if_neg l, if_neg (by rw [e]; exact l), e, if_neg w, Int.zero_mul, Int.add_zero]
/-- the name of a part in place of a point, in row r -/
theorem det_names (h : Prt n P) {x y r : Nat} (hx : x < n) (hy : y < n) (hr : r < n) {M : Mx} {es : List (Nat × Nat)} (lr : P r = r) (hM : ∀ v, v < n → P v ≠ v → ∀ b, M v b = matP P es v b) (s : Int) (u w : Nat → Int)
    (hu : ∀ b, u b = w b + s * (dl x b - dl y b)) : det n (setR M r u) = det n (setR M r fun b => w b + s * (dl (P x) b - dl (P y) b)) := by
  have row : ∀ z, z < n → ∀ v : Nat → Int, (∀ b, cx P z b = 0) ∨ (z ≠ r ∧ ∀ b, setR M r v z b = cx P z b) := fun z hz v => by
    rcases cx_row h hz es with w | ⟨w1, _, w2⟩
    · exact .inl w
    · have zr : z ≠ r := fun e => w1 (by rw [e]; exact lr)
      exact .inr ⟨zr, fun b => by rw [setR_ne _ zr, hM z hz w1, w2]⟩
  have s1 := det_addC (n := n) (M := setR M r fun b => w b + s * (dl (P x) b - dl (P y) b)) hr hx (row x hx _) s (fun b => w b + s * (dl x b - dl (P y) b)) fun b => by
    rw [setR_at]
    unfold cx
    simp only [Int.mul_sub]
    omega
  have s2 := det_addC (n := n) (M := setR M r fun b => w b + s * (dl x b - dl (P y) b)) hr hy (row y hy _) (-s) u fun b => by
    rw [setR_at, hu]
    unfold cx
    simp only [Int.mul_sub, Int.neg_mul]
    omega
  rw [setR_two] at s1 s2
  rw [s2, s1]
end Tw
set_option Elab.async false
set_option linter.all false
set_option maxRecDepth 100000
set_option maxHeartbeats 4000000
namespace Tw
variable {n : Nat} {P : Nat → Nat}
theorem matP_row {P : Nat → Nat} {es : List (Nat × Nat)} {x y v : Nat} (b : Nat) (h : v = P 0 ∨ P v ≠ v ∨ (v ≠ P x ∧ v ≠ P y)) : matP P ((x, y) :: es) v b = matP P es v b := by
  unfold matP
  by_cases q : v = P 0
  · rw [if_pos q, if_pos q]
  · rw [if_neg q, if_neg q]
    by_cases l : P v = v
    · rw [if_pos l, if_pos l]
      rcases h with h | h | ⟨h1, h2⟩
      · exact absurd h q
      · exact absurd l h
      · show lapE P v b (x, y) + lapR P es v b = _
        unfold lapE
        rw [if_neg (fun w => h1 w.symm), if_neg (fun w => h2 w.symm)]
        omega
    · rw [if_neg l, if_neg l]
/-- the first part is the root's -/
theorem rec_p (h : Prt n P) {x y : Nat} (hx : x < n) (hy : y < n) (ne : P x ≠ P y) (h0 : P x = P 0) (es : List (Nat × Nat)) : det n (matP P ((x, y) :: es)) = det n (matP P es) + det n (matP (mrgP P (P x) (P y)) es) := by
  have lq := h.lt y hy
  have iq := h.idem y hy
  have ip := h.idem x hx
  have A : matP P ((x, y) :: es) = setR (matP P es) (P y) fun b => matP P es (P y) b + (-1) * (dl x b - dl y b) := by
    funext v b
    by_cases q : v = P y
    · rw [q, setR_at]
      unfold matP
      have y0 : ¬ P y = P 0 := fun w => ne (h0.trans w.symm)
      rw [if_neg y0, if_pos iq, if_neg y0, if_pos iq]
      show lapE P (P y) b (x, y) + _ = _
      unfold lapE
      rw [if_neg ne, if_pos rfl]
      show (0 : Int) + (dl y b - dl x b) + lapR P es (P y) b = lapR P es (P y) b + -1 * (dl x b - dl y b)
      omega
    · rw [setR_ne _ q]
      refine matP_row b ?_
      by_cases w : v = P 0
      · exact .inl w
      · exact .inr (.inr ⟨fun z => w (z.trans h0), q⟩)
  rw [A, det_names h hx hy lq iq (fun v hv _ b => rfl) (-1) _ (matP P es (P y)) (fun b => rfl)]
  rw [det_add lq, setR_self]
  congr 1
  refine det_toM lq (fun v => if v = P y then 0 else if P v = P y then 1 else 0) (if_pos rfl) fun v b hv hb => ?_
  have p0 : mrgP P (P x) (P y) 0 = P x := by
    unfold mrgP
    rw [if_neg (fun w => ne (h0.trans w)), h0]
  by_cases q : v = P y
  · rw [q, if_pos rfl, Int.zero_mul, Int.add_zero, setR_at]
    unfold matP
    have e : mrgP P (P x) (P y) (P y) = P x := if_pos iq
    rw [p0, if_neg (Ne.symm ne), e, if_neg ne]
    omega
  · rw [if_neg q, setR_ne _ q, setR_at]
    by_cases w : v = P 0
    · have vx : v = P x := w.trans h0.symm
      rw [vx, ip, if_neg ne, Int.zero_mul, Int.add_zero]
      unfold matP
      rw [p0, if_pos rfl, if_pos h0]
    · rw [mrg_rows h hx hy ne es hv w (fun z => w (z.trans h0)) q]
      congr 2
      omega
/-- the second part is the root's -/
theorem rec_q (h : Prt n P) {x y : Nat} (hx : x < n) (hy : y < n) (ne : P x ≠ P y) (h0 : P y = P 0) (es : List (Nat × Nat)) : det n (matP P ((x, y) :: es)) = det n (matP P es) + det n (matP (mrgP P (P x) (P y)) es) := by
  have lq := h.lt y hy
  have lp := h.lt x hx
  have iq := h.idem y hy
  have ip := h.idem x hx
  have x0 : ¬ P x = P 0 := fun w => ne (w.trans h0.symm)
  have A : matP P ((x, y) :: es) = setR (matP P es) (P x) fun b => matP P es (P x) b + 1 * (dl x b - dl y b) := by
    funext v b
    by_cases q : v = P x
    · rw [q, setR_at]
      unfold matP
      rw [if_neg x0, if_pos ip, if_neg x0, if_pos ip]
      show lapE P (P x) b (x, y) + _ = _
      unfold lapE
      rw [if_pos rfl, if_neg (Ne.symm ne)]
      show (dl x b - dl y b) + 0 + lapR P es (P x) b = lapR P es (P x) b + 1 * (dl x b - dl y b)
      omega
    · rw [setR_ne _ q]
      refine matP_row b ?_
      by_cases w : v = P 0
      · exact .inl w
      · exact .inr (.inr ⟨q, fun z => w (z.trans h0)⟩)
  rw [A, det_names h hx hy lp ip (fun v hv _ b => rfl) 1 _ (matP P es (P x)) (fun b => rfl)]
  rw [det_add lp, setR_self]
  congr 1
  generalize hE : (setR (matP P es) (P x) fun b => 1 * (dl (P x) b - dl (P y) b)) = E
  have Eq_ : ∀ b, E (P y) b = dl (P y) b := fun b => by
    rw [← hE, setR_ne _ (Ne.symm ne)]
    unfold matP
    rw [if_pos h0]
  have Ep : ∀ b, E (P x) b = dl (P x) b - dl (P y) b := fun b => by
    rw [← hE, setR_at, Int.one_mul]
  rw [← det_rowop lp lq ne E 1]
  generalize hE1 : (setR E (P x) fun b => E (P x) b + 1 * E (P y) b) = E1
  have E1p : ∀ b, E1 (P x) b = dl (P x) b := fun b => by
    rw [← hE1, setR_at, Ep, Eq_]
    omega
  have E1q : ∀ b, E1 (P y) b = dl (P y) b := fun b => by rw [← hE1, setR_ne _ (Ne.symm ne), Eq_]
  rw [← det_rowop lq lp (Ne.symm ne) E1 (-1)]
  refine det_toM lq (fun v => if v = P y then 0 else if P v = P y then 1 else 0) (if_pos rfl) fun v b hv hb => ?_
  have p0 : mrgP P (P x) (P y) 0 = P x := if_pos h0.symm
  by_cases q : v = P y
  · rw [q, if_pos rfl, Int.zero_mul, Int.add_zero, setR_at, E1q, E1p]
    unfold matP
    have e : mrgP P (P x) (P y) (P y) = P x := if_pos iq
    rw [p0, if_neg (Ne.symm ne), e, if_neg ne]
    omega
  · rw [if_neg q, setR_ne _ q, setR_at, E1q, E1p]
    by_cases w : v = P x
    · rw [w, ip, if_neg ne, Int.zero_mul, Int.add_zero, E1p]
      unfold matP
      rw [p0, if_pos rfl]
    · rw [mrg_rows h hx hy ne es hv (fun z => q (z.trans h0.symm)) w q, ← hE1, setR_ne _ w, ← hE, setR_ne _ w]
      congr 2
      omega
/-- neither part is the root's -/
theorem rec_n (h : Prt n P) {x y : Nat} (hx : x < n) (hy : y < n) (ne : P x ≠ P y) (x0 : ¬ P x = P 0) (y0 : ¬ P y = P 0) (es : List (Nat × Nat)) : det n (matP P ((x, y) :: es)) = det n (matP P es) + det n (matP (mrgP P (P x) (P y)) es) := by
  have lq := h.lt y hy
  have lp := h.lt x hx
  have iq := h.idem y hy
  have ip := h.idem x hx
  have A : matP P ((x, y) :: es) = setR (setR (matP P es) (P x) fun b => matP P es (P x) b + 1 * (dl x b - dl y b)) (P y) fun b => matP P es (P y) b + (-1) * (dl x b - dl y b) := by
    funext v b
    by_cases q : v = P y
    · rw [q, setR_at]
      unfold matP
      rw [if_neg y0, if_pos iq, if_neg y0, if_pos iq]
      show lapE P (P y) b (x, y) + _ = _
      unfold lapE
      rw [if_neg ne, if_pos rfl]
      show (0 : Int) + (dl y b - dl x b) + lapR P es (P y) b = lapR P es (P y) b + -1 * (dl x b - dl y b)
      omega
    · rw [setR_ne _ q]
      by_cases w : v = P x
      · rw [w, setR_at]
        unfold matP
        rw [if_neg x0, if_pos ip, if_neg x0, if_pos ip]
        show lapE P (P x) b (x, y) + _ = _
        unfold lapE
        rw [if_pos rfl, if_neg (Ne.symm ne)]
        show (dl x b - dl y b) + 0 + lapR P es (P x) b = lapR P es (P x) b + 1 * (dl x b - dl y b)
        omega
      · rw [setR_ne _ w]
        exact matP_row b (.inr (.inr ⟨w, q⟩))
  have nl : ∀ {r : Nat} {u : Nat → Int}, P r = r → ∀ v, v < n → P v ≠ v → ∀ b, setR (matP P es) r u v b = matP P es v b := fun {r u} hr v hv l b => setR_ne _ (fun z => l (by rw [z]; exact hr)) _ _
  rw [A, det_names h hx hy lq iq (es := es) (nl ip) (-1) _ (matP P es (P y)) (fun b => rfl)]
  rw [setR_comm _ ne, det_names h hx hy lp ip (es := es) (nl iq) 1 _ (matP P es (P x)) (fun b => rfl)]
  rw [← det_rowop lp lq ne]
  have e1 : (fun b => setR (setR (matP P es) (P y) fun b => matP P es (P y) b + (-1) * (dl (P x) b - dl (P y) b)) (P x) (fun b => matP P es (P x) b + 1 * (dl (P x) b - dl (P y) b)) (P x) b + 1 * setR (setR (matP P es) (P y) fun b => matP P es (P y) b + (-1) * (dl (P x) b - dl (P y) b)) (P x) (fun b => matP P es (P x) b + 1 * (dl (P x) b - dl (P y) b)) (P y) b) = fun b => matP P es (P x) b + 1 * matP P es (P y) b := by
    funext b
    rw [setR_at, setR_ne _ (Ne.symm ne), setR_at]
    omega
  rw [e1, setR_two, setR_comm _ (Ne.symm ne), det_add lq]
  have e2 : setR (setR (matP P es) (P x) fun b => matP P es (P x) b + 1 * matP P es (P y) b) (P y) (matP P es (P y)) = setR (matP P es) (P x) fun b => matP P es (P x) b + 1 * matP P es (P y) b := by
    have := setR_self (setR (matP P es) (P x) fun b => matP P es (P x) b + 1 * matP P es (P y) b) (P y)
    rw [show setR (matP P es) (P x) (fun b => matP P es (P x) b + 1 * matP P es (P y) b) (P y) = matP P es (P y) from funext fun b => setR_ne _ (Ne.symm ne) _ _] at this
    exact this
  rw [show det n (setR (setR (matP P es) (P x) fun b => matP P es (P x) b + 1 * matP P es (P y) b) (P y) fun b => matP P es (P y) b) = det n (matP P es) from by
    show det n (setR (setR (matP P es) (P x) fun b => matP P es (P x) b + 1 * matP P es (P y) b) (P y) (matP P es (P y))) = _
    rw [e2]
    exact det_rowop lp lq ne _ 1]
  congr 1
  refine det_toM lq (fun v => if v = P y then 0 else if P v = P y then 1 else 0) (if_pos rfl) fun v b hv hb => ?_
  have p0 : mrgP P (P x) (P y) 0 = P 0 := if_neg (fun w => y0 w.symm)
  by_cases q : v = P y
  · rw [q, if_pos rfl, Int.zero_mul, Int.add_zero, setR_at]
    unfold matP
    have e : mrgP P (P x) (P y) (P y) = P x := if_pos iq
    rw [p0, if_neg y0, e, if_neg ne]
    omega
  · rw [if_neg q, setR_ne _ q, setR_at]
    by_cases w : v = P x
    · rw [w, ip, if_neg ne, Int.zero_mul, Int.add_zero, setR_at]
      unfold matP
      have e : mrgP P (P x) (P y) (P x) = P x := by unfold mrgP; rw [ip, if_neg ne]
      rw [p0, if_neg x0, e, if_pos rfl, lapR_mrg ne, if_neg x0, if_pos ip, if_neg y0, if_pos iq]
      omega
    · rw [setR_ne _ w]
      by_cases z : v = P 0
      · have c0 : ¬ P v = P y := fun t => y0 (by rw [← t, z, h.idem 0 h.pos])
        rw [if_neg c0, Int.zero_mul, Int.add_zero]
        unfold matP
        rw [p0, if_pos z, if_pos z]
      · rw [mrg_rows h hx hy ne es hv z w q]
        congr 2
        omega
theorem mat_rec (h : Prt n P) {x y : Nat} (hx : x < n) (hy : y < n) (es : List (Nat × Nat)) : det n (matP P ((x, y) :: es)) = det n (matP P es) + if P x = P y then 0 else det n (matP (mrgP P (P x) (P y)) es) := by
  by_cases e : P x = P y
  · rw [if_pos e, matP_in P (e := (x, y)) e, Int.add_zero]
  · rw [if_neg e]
    by_cases a : P x = P 0
    · exact rec_p h hx hy e a es
    · by_cases b : P y = P 0
      · exact rec_q h hx hy e b es
      · exact rec_n h hx hy e a b es
end Tw
set_option Elab.async false
set_option linter.all false
set_option maxRecDepth 100000
set_option maxHeartbeats 4000000
namespace Tw
variable {n : Nat} {P : Nat → Nat}
theorem det_id : ∀ k, det k dl = 1
  | 0 => rfl
  | k + 1 => by
    rw [det_last k fun b hb => if_neg (by omega), det_id k]
    show dl k k * 1 = 1
    unfold dl
    rw [if_pos rfl]
    rfl
/-- one part alone -/
theorem matP_one (h : Prt n P) (w : ∀ v, v < n → P v = P 0) : det n (matP P []) = 1 := by
  have l0 := h.lt 0 h.pos
  rw [← det_id n]
  refine det_toM l0 (fun v => if v = P 0 then 0 else 1) (if_pos rfl) fun v b hv hb => ?_
  have r : matP P [] (P 0) b = dl (P 0) b := by
    unfold matP
    rw [if_pos rfl]
  rw [r]
  by_cases q : v = P 0
  · rw [if_pos q, Int.zero_mul, Int.add_zero, q, r]
  · rw [if_neg q, Int.one_mul]
    unfold matP
    rw [if_neg q, w v hv, if_neg (fun z => q z.symm)]
    omega
/-- the number of ways to choose ties so that each joins two parts and all are one -/
def trees (n : Nat) : (Nat → Nat) → List (Nat × Nat) → Nat
  | P, [] => if (List.range n).all (fun v => decide (P v = P 0)) = true then 1 else 0
  | P, e :: es => trees n P es + if P e.1 = P e.2 then 0 else trees n (mrgP P (P e.1) (P e.2)) es
theorem det_trees : ∀ {es : List (Nat × Nat)} {P : Nat → Nat}, Prt n P → (∀ e ∈ es, e.1 < n ∧ e.2 < n) → det n (matP P es) = (trees n P es : Int)
  | [], P, h, _ => by
    unfold trees
    by_cases q : (List.range n).all (fun v => decide (P v = P 0)) = true
    · rw [if_pos q, matP_one h fun v hv => of_decide_eq_true (List.all_eq_true.mp q v (List.mem_range.mpr hv))]
      rfl
    · rw [if_neg q]
      refine matP_nil h ?_
      by_cases w : ∃ v, v < n ∧ P v ≠ P 0
      · exact w
      · exact absurd (List.all_eq_true.mpr fun v hv => decide_eq_true (by
          by_cases z : P v = P 0
          · exact z
          · exact absurd ⟨v, List.mem_range.mp hv, z⟩ w)) q
  | (x, y) :: es, P, h, he => by
    obtain ⟨hx, hy⟩ := he (x, y) List.mem_cons_self
    have he' : ∀ e ∈ es, e.1 < n ∧ e.2 < n := fun e m => he e (List.mem_cons_of_mem _ m)
    rw [mat_rec h hx hy, det_trees h he']
    show _ = ((trees n P es + if P x = P y then 0 else trees n (mrgP P (P x) (P y)) es : Nat) : Int)
    by_cases q : P x = P y
    · rw [if_pos q, if_pos q]
      rfl
    · rw [if_neg q, if_neg q, det_trees (h.mrgP hx hy q) he', Int.natCast_add]
end Tw
set_option Elab.async false
set_option linter.all false
set_option maxRecDepth 100000
set_option maxHeartbeats 4000000
namespace Tw
/-- all trees, each told by its things -/
def treeL {α : Type} (n : Nat) : (Nat → Nat) → List (α × Nat × Nat) → List (List α)
  | P, [] => if (List.range n).all (fun v => decide (P v = P 0)) = true then [[]] else []
  | P, e :: es => treeL n P es ++ if P e.2.1 = P e.2.2 then [] else (treeL n (mrgP P (P e.2.1) (P e.2.2)) es).map (e.1 :: ·)
theorem treeL_len {α : Type} {n : Nat} : ∀ (es : List (α × Nat × Nat)) (P : Nat → Nat), (treeL n P es).length = trees n P (es.map (·.2))
  | [], P => by
    show (if _ then _ else _ : List (List α)).length = if _ then _ else _
    split <;> rfl
  | e :: es, P => by
    show (treeL n P es ++ if P e.2.1 = P e.2.2 then [] else (treeL n (mrgP P (P e.2.1) (P e.2.2)) es).map (e.1 :: ·)).length = trees n P (es.map (·.2)) + if P e.2.1 = P e.2.2 then 0 else trees n (mrgP P (P e.2.1) (P e.2.2)) (es.map (·.2))
    rw [List.length_append, treeL_len es P]
    split
    · rfl
    · rw [List.length_map, treeL_len es _]
theorem mrg_iff (P : Nat → Nat) (x y v w : Nat) : mrgP P (P x) (P y) v = mrgP P (P x) (P y) w ↔ P v = P w ∨ ((P v = P x ∨ P v = P y) ∧ (P w = P x ∨ P w = P y)) := by
  unfold mrgP
  split <;> split <;> omega
end Tw
set_option Elab.async false
set_option linter.all false
set_option maxRecDepth 100000
set_option maxHeartbeats 4000000
namespace Tw
open PySem PySem.Spec L2 TL
open PyProof.Rows hiding St
section
variable {κ α ε R : Type} [DecidableEq κ]
abbrev FlA (α : Type) := List (Nat × α) × List Nat
/-- how it was come to -/
inductive FlT (out : Nat → List (Nat × ε)) (up : α → ε → α) (a0 : α) (b0 : Nat) : List (Nat × α) → Prop
  | zero : FlT out up a0 b0 [(b0, a0)]
  | step {L : List (Nat × α)} {v : Nat} {x : α} {e : Nat × ε} : FlT out up a0 b0 L → dget L v = some x → e ∈ out v → dget L e.1 = none → FlT out up a0 b0 (L ++ [(e.1, up x e.2)])
structure FlI (n : Nat) (out : Nat → List (Nat × ε)) (up : α → ε → α) (ck : α → ε → α → Bool) (Good : Nat → α → Prop) (a0 : α) (b0 : Nat) (ex : Nat → Prop) (A : FlA α) : Prop where
  nd : (A.1.map (·.1)).Nodup
  lt : ∀ p ∈ A.1, p.1 < n
  st : ∀ v ∈ A.2, v ∈ A.1.map (·.1)
  sn : A.2.Nodup
  good : ∀ v x, dget A.1 v = some x → Good v x
  zero : dget A.1 b0 = some a0
  tr : FlT out up a0 b0 A.1
  cl : ∀ v x, dget A.1 v = some x → v ∉ A.2 → ¬ ex v → ∀ e ∈ out v, ∃ y, dget A.1 e.1 = some y ∧ ck x e.2 y = true
variable {n : Nat} {out : Nat → List (Nat × ε)} {up : α → ε → α} {ck : α → ε → α → Bool} {Good : Nat → α → Prop} {a0 : α} {b0 : Nat}
theorem FlI.len {A : FlA α} {ex : Nat → Prop} (I : FlI n out up ck Good a0 b0 ex A) : A.1.length ≤ n := by
  have h2 : ∀ u ∈ A.1.map (·.1), u ∈ List.range n := fun u hu => by
    obtain ⟨p, hp, rfl⟩ := List.mem_map.mp hu
    exact List.mem_range.mpr (I.lt p hp)
  have := nodup_le I.nd h2
  rw [List.length_map, List.length_range] at this
  exact this
def rpL (key : Nat → κ) (L : List (Nat × α)) : Dk κ α := ⟨L.map fun p => (key p.1, p.2)⟩
/-- what is come to -/
inductive Rch (out : Nat → List (Nat × ε)) (b0 : Nat) : Nat → Prop
  | zero : Rch out b0 b0
  | step {v : Nat} {e : Nat × ε} : Rch out b0 v → e ∈ out v → Rch out b0 e.1
theorem FlI.all {A : FlA α} (I : FlI n out up ck Good a0 b0 (fun _ => False) A) (he : A.2 = []) {v : Nat} (h : Rch out b0 v) : ∃ x, dget A.1 v = some x := by
  induction h with
  | zero => exact ⟨_, I.zero⟩
  | step _ hm ih =>
    obtain ⟨x, hx⟩ := ih
    obtain ⟨y, hy, _⟩ := I.cl _ x hx (by rw [he]; simp) (fun w => w) _ hm
    exact ⟨y, hy⟩
end
end Tw
set_option Elab.async false
set_option linter.all false
set_option maxRecDepth 100000
set_option maxHeartbeats 4000000
namespace Tw
open PySem PySem.Spec L2 TL
open PyProof.Rows hiding St
section
variable {κ α ε R : Type} [DecidableEq κ] {n : Nat} {out : Nat → List (Nat × ε)} {up : α → ε → α} {ck : α → ε → α → Bool} {Good : Nat → α → Prop} {a0 : α} {b0 : Nat}
theorem rpL_get {key : Nat → κ} (hk : ∀ v w, v < n → w < n → key v = key w → v = w) : ∀ {L : List (Nat × α)} {w : Nat}, (∀ p ∈ L, p.1 < n) → w < n → dget (rpL key L).l (key w) = dget L w
  | [], _, _, _ => rfl
  | p :: r, w, h, hw => by
    have hp := h p List.mem_cons_self
    show dget ((key p.1, p.2) :: (rpL key r).l) (key w) = _
    rw [dget_cons, dget_cons, rpL_get hk (fun q hq => h q (List.mem_cons_of_mem _ hq)) hw]
    by_cases z : p.1 = w
    · rw [if_pos z, if_pos (show key p.1 = key w by rw [z])]
    · rw [if_neg z, if_neg (fun q => z (hk _ _ hp hw q))]
theorem rpL_put {key : Nat → κ} (hk : ∀ v w, v < n → w < n → key v = key w → v = w) {L : List (Nat × α)} {w : Nat} {a : α} (h : ∀ p ∈ L, p.1 < n) (hw : w < n) (hn : dget L w = none) : dput (rpL key L).l (key w) a = (rpL key (L ++ [(w, a)])).l := by
  have h1 := rpL_get hk h hw
  rw [hn] at h1
  unfold dput
  rw [if_neg (fun z => dget_none.mp h1 (any_key.mp z))]
  unfold rpL
  rw [List.map_append]
  rfl
theorem rpL_len {key : Nat → κ} {L : List (Nat × α)} : (rpL key L).l.length = L.length := by unfold rpL; rw [List.length_map]
end
/-- rows that share a tie; all or none -/
def Hang (rows : RowsT) : Prop := ∀ S : Str → Prop, (∀ x ∈ rows, ∀ y ∈ rows, ∀ t, t ∈ x.2 → t ∈ y.2 → S x.1 → S y.1) → (∃ x ∈ rows, S x.1) → ∀ y ∈ rows, S y.1
theorem insAt_mem {ts : List Str} {j : Int} {a t : Str} : t ∈ insAt ts j a ↔ t = a ∨ t ∈ ts := by
  rw [(insAt_perm ts j a).mem_iff, List.mem_cons]
/-- the rows behind an insertion -/
theorem rowIns_at {rows : RowsT} {k i : Nat} {j : Int} {a : Str} {x : Str × List Str} (h : rows[i]? = some x) : (rowIns rows k j a)[i]? = some (if k = i then (x.1, insAt x.2 j a) else x) := by
  unfold rowIns
  rw [List.getElem?_modify, h]
  by_cases e : k = i <;> simp [e]
theorem rowIns_inv {rows : RowsT} {k i : Nat} {j : Int} {a : Str} {y : Str × List Str} (h : (rowIns rows k j a)[i]? = some y) : ∃ x, rows[i]? = some x ∧ y = if k = i then (x.1, insAt x.2 j a) else x := by
  have hi : i < rows.length := by have := (List.getElem?_eq_some_iff.mp h).1; rw [rowIns_len] at this; exact this
  refine ⟨rows[i], List.getElem?_eq_getElem hi, ?_⟩
  have := rowIns_at (k := k) (j := j) (a := a) (List.getElem?_eq_getElem hi)
  rw [h] at this
  exact Option.some.inj this
/-- rows with more ties hang together, too -/
theorem Hang.more {a b : RowsT} (h : Hang a) (k : ∀ y ∈ b, ∃ x ∈ a, x.1 = y.1 ∧ ∀ t ∈ x.2, t ∈ y.2) (k' : ∀ x ∈ a, ∃ y ∈ b, x.1 = y.1 ∧ ∀ t ∈ x.2, t ∈ y.2) : Hang b := fun S hS ⟨y, hy, sy⟩ z hz => by
  obtain ⟨x, hx, e, _⟩ := k y hy
  have hc : ∀ x ∈ a, ∀ y ∈ a, ∀ t, t ∈ x.2 → t ∈ y.2 → S x.1 → S y.1 := fun x1 h1 x2 h2 t t1 t2 s1 => by
    obtain ⟨y1, g1, e1, f1⟩ := k' x1 h1
    obtain ⟨y2, g2, e2, f2⟩ := k' x2 h2
    rw [e2]
    exact hS y1 g1 y2 g2 t (f1 t t1) (f2 t t2) (by rw [← e1]; exact s1)
  have := h S hc ⟨x, hx, by rw [e]; exact sy⟩
  obtain ⟨w, hw, e2, _⟩ := k z hz
  rw [← e2]
  exact this w hw
theorem rowIns_more {rows : RowsT} {k : Nat} {j : Int} {a : Str} : (∀ y ∈ rowIns rows k j a, ∃ x ∈ rows, x.1 = y.1 ∧ ∀ t ∈ x.2, t ∈ y.2) ∧ ∀ x ∈ rows, ∃ y ∈ rowIns rows k j a, x.1 = y.1 ∧ ∀ t ∈ x.2, t ∈ y.2 := by
  constructor
  · intro y hy
    obtain ⟨i, hi⟩ := List.mem_iff_getElem?.mp hy
    obtain ⟨x, hx, e⟩ := rowIns_inv hi
    refine ⟨x, List.mem_of_getElem? hx, ?_⟩
    rw [e]
    split
    · exact ⟨rfl, fun t ht => insAt_mem.mpr (.inr ht)⟩
    · exact ⟨rfl, fun t ht => ht⟩
  · intro x hx
    obtain ⟨i, hi⟩ := List.mem_iff_getElem?.mp hx
    refine ⟨_, List.mem_of_getElem? (rowIns_at hi), ?_⟩
    split
    · exact ⟨rfl, fun t ht => insAt_mem.mpr (.inr ht)⟩
    · exact ⟨rfl, fun t ht => ht⟩
theorem Hang.ins {rows : RowsT} (h : Hang rows) (k : Nat) (j : Int) (a : Str) : Hang (rowIns rows k j a) := h.more rowIns_more.1 rowIns_more.2
theorem Made.hang {rows : RowsT} (h : Made rows) : Hang rows := by
  induction h with
  | bare n => exact fun S _ ⟨x, hx, sx⟩ y hy => by rw [List.mem_singleton.mp hx] at sx; rw [List.mem_singleton.mp hy]; exact sx
  | @spike rows e t n hm he ht hn ih =>
    have he1 := (mem_allC.mp he).1
    have h1 := ih.ins e.1 (e.2 : Int) t
    have hat := rowIns_at (k := e.1) (j := (e.2 : Int)) (a := t) (List.getElem?_eq_getElem he1)
    rw [if_pos rfl] at hat
    have hmem := List.mem_of_getElem? hat
    intro S hS ⟨x, hx, sx⟩ y hy
    have share : ∀ z ∈ rowIns rows e.1 (e.2 : Int) t, z ∈ rowIns rows e.1 (e.2 : Int) t ++ [(n, [t])] := fun z hz => List.mem_append_left _ hz
    have hnew : (n, [t]) ∈ rowIns rows e.1 (e.2 : Int) t ++ [(n, [t])] := List.mem_append_right _ (by simp)
    have s1 : ∃ z ∈ rowIns rows e.1 (e.2 : Int) t, S z.1 := by
      rcases List.mem_append.mp hx with q | q
      · exact ⟨x, q, sx⟩
      · rw [List.mem_singleton.mp q] at sx
        exact ⟨_, hmem, hS _ hnew _ (share _ hmem) t (by simp) (insAt_mem.mpr (.inl rfl)) sx⟩
    have all := h1 S (fun a ha b hb u ua ub sa => hS a (share a ha) b (share b hb) u ua ub sa) s1
    rcases List.mem_append.mp hy with q | q
    · exact all y q
    · rw [List.mem_singleton.mp q]
      exact hS _ (share _ hmem) _ hnew t (insAt_mem.mpr (.inl rfl)) (by simp) (all _ hmem)
  | @link rows a b t hm ha hb ht ih =>
    unfold ins2
    split
    · exact (ih.ins _ _ _).ins _ _ _
    · exact (ih.ins _ _ _).ins _ _ _
theorem rot_mem2 : ∀ {a b : RowsT}, All2 RotR a b → (∀ y ∈ b, ∃ x ∈ a, x.1 = y.1 ∧ ∀ t ∈ x.2, t ∈ y.2) ∧ ∀ x ∈ a, ∃ y ∈ b, x.1 = y.1 ∧ ∀ t ∈ x.2, t ∈ y.2
  | _, _, .nil => ⟨(fun y hy => by cases hy), (fun y hy => by cases hy)⟩
  | _, _, .cons (a := x) (b := y) ⟨h1, k, hk, h2⟩ t => by
    obtain ⟨q1, q2⟩ := rot_mem2 t
    have hm : ∀ u ∈ x.2, u ∈ y.2 := fun u hu => by
      rw [h2, List.mem_append]
      rw [← List.take_append_drop k x.2, List.mem_append] at hu
      exact hu.symm
    refine ⟨fun z hz => ?_, fun z hz => ?_⟩
    · rcases List.mem_cons.mp hz with rfl | hz
      · exact ⟨x, List.mem_cons_self, h1, hm⟩
      · obtain ⟨w, hw, r⟩ := q1 z hz; exact ⟨w, List.mem_cons_of_mem _ hw, r⟩
    · rcases List.mem_cons.mp hz with rfl | hz
      · exact ⟨y, List.mem_cons_self, h1, hm⟩
      · obtain ⟨w, hw, r⟩ := q2 z hz; exact ⟨w, List.mem_cons_of_mem _ hw, r⟩
theorem GNet.hang {rows : RowsT} {m : Nat} (h : GNet rows m) : Hang rows := by
  obtain ⟨rows0, done, hm, hp, ha⟩ := h.src
  have h0 := hm.hang
  have h1 : Hang done := h0.more (fun y hy => ⟨y, hp.mem_iff.mpr hy, rfl, fun _ h => h⟩) fun x hx => ⟨x, hp.mem_iff.mp hx, rfl, fun _ h => h⟩
  exact h1.more (rot_mem2 ha).1 (rot_mem2 ha).2
/-- from a point along its ends -/
def outR (rows : RowsT) (v : Nat) : List (Nat × Str) := (List.range (rowT rows v).length).map fun p => ((mate rows (v, p)).1, tieD rows (v, p))
theorem mem_outR {rows : RowsT} {v : Nat} {e : Nat × Str} : e ∈ outR rows v ↔ ∃ p, (v, p) ∈ allE rows ∧ e = ((mate rows (v, p)).1, tieD rows (v, p)) := by
  unfold outR
  rw [List.mem_map]
  constructor
  · rintro ⟨p, hp, rfl⟩
    exact ⟨p, mem_allE.mpr (List.mem_range.mp hp), rfl⟩
  · rintro ⟨p, hp, rfl⟩
    exact ⟨p, List.mem_range.mpr (mem_allE.mp hp), rfl⟩
theorem outR_of {rows : RowsT} {e : NE} (h : e ∈ allE rows) : ((mate rows e).1, tieD rows e) ∈ outR rows e.1 := mem_outR.mpr ⟨e.2, h, rfl⟩
theorem mem_end {rows : RowsT} {i : Nat} {x : Str × List Str} {t : Str} (hx : rows[i]? = some x) (ht : t ∈ x.2) : ∃ p, tie? rows (i, p) = some t := by
  obtain ⟨p, hp⟩ := List.mem_iff_getElem?.mp ht
  exact ⟨p, by unfold tie?; rw [row_some hx]; exact hp⟩
theorem Hang.rch {rows : RowsT} (h : Hang rows) (P : NetP rows) {b : Nat} (hb : b < rows.length) {v : Nat} (hv : v < rows.length) : Rch (outR rows) b v := by
  have := h (fun nm => ∃ w, w < rows.length ∧ pnm rows w = nm ∧ Rch (outR rows) b w) (fun x hx y hy t tx ty ⟨w, hw, ew, rw_⟩ => by
    obtain ⟨i, hi⟩ := List.mem_iff_getElem?.mp hx
    obtain ⟨j, hj⟩ := List.mem_iff_getElem?.mp hy
    have li := (List.getElem?_eq_some_iff.mp hi).1
    have lj := (List.getElem?_eq_some_iff.mp hj).1
    have : w = i := pnm_inj P.nd hw li (by rw [ew, pnm_at hi])
    subst this
    refine ⟨j, lj, pnm_at hj, ?_⟩
    obtain ⟨p, hp⟩ := mem_end hi tx
    obtain ⟨q, hq⟩ := mem_end hj ty
    rcases (mate_of P.two hp).2.2 (j, q) hq with z | z
    · rw [show j = w from congrArg Prod.fst z]; exact rw_
    · have s := Rch.step rw_ (outR_of (tie_mem hp))
      rw [show j = (mate rows (w, p)).1 from congrArg Prod.fst z]
      exact s) ⟨rows[b], List.getElem_mem hb, b, hb, pnm_at (List.getElem?_eq_getElem hb), .zero⟩ rows[v] (List.getElem_mem hv)
  obtain ⟨w, hw, ew, r⟩ := this
  have : w = v := pnm_inj P.nd hw hv (by rw [ew, pnm_at (List.getElem?_eq_getElem hv)])
  rw [← this]
  exact r
theorem allE_map {β : Type} (rows : RowsT) (f : Str → Str → β) : (allE rows).map (fun e => f (pnm rows e.1) (tieD rows e)) = rows.flatMap fun x => x.2.map (f x.1) := by
  have h : ∀ n, n ≤ rows.length → (preE rows n).map (fun e => f (pnm rows e.1) (tieD rows e)) = (rows.take n).flatMap fun x => x.2.map (f x.1) := by
    intro n
    induction n with
    | zero => intro _; simp [preE]
    | succ n ih =>
      intro hn
      have hlt : n < rows.length := by omega
      have hx := List.getElem?_eq_getElem hlt
      rw [← seqE_full]
      unfold seqE
      rw [List.map_append, ih (by omega), List.take_succ, List.flatMap_append, hx]
      congr 1
      simp only [Option.toList_some, List.flatMap_cons, List.flatMap_nil, List.append_nil]
      rw [List.map_map]
      refine List.ext_getElem? fun p => ?_
      rw [List.getElem?_map, List.getElem?_map, row_some hx]
      by_cases hp : p < rows[n].2.length
      · rw [List.getElem?_range hp, List.getElem?_eq_getElem hp]
        simp only [Option.map_some, Function.comp]
        rw [pnm_at hx]
        congr 2
        refine tieD_of ?_
        unfold tie?
        rw [row_some hx]
        exact List.getElem?_eq_getElem hp
      · rw [List.getElem?_eq_none (by rw [List.length_range]; omega), List.getElem?_eq_none (by omega)]
        rfl
  have := h rows.length (Nat.le_refl _)
  rw [preE_all, List.take_length] at this
  exact this
def heldL (rows : RowsT) : List (Str × Str) := (allE rows).map fun e => (tieD rows e, pnm rows e.1)
theorem heldL_eq (rows : RowsT) : heldL rows = rows.flatMap fun x => x.2.map fun t => (t, x.1) := allE_map rows fun n t => (t, n)
theorem held_ok {rows : RowsT} (hs : Sm rows) : F_points_by_tie rows = .ok ⟨grp (heldL rows)⟩ := by
  refine M.T_is ?_
  unfold F_points_by_tie
  have hl : (heldL rows).length ≤ 800 := by unfold heldL; rw [List.length_map]; exact hs.2
  rw [heldL_eq] at hl ⊢
  refine M.T_b ?_
  refine M.T_for (fun ys s => s = grp (ys.flatMap fun x => x.2.map fun t => (t, x.1))) rfl (fun ys x zs s e i => ?_) fun s i => by rw [i]; exact M.T_ok rfl
  subst i
  have hb : (ys.flatMap fun x => x.2.map fun t => (t, x.1)).length + x.2.length ≤ 800 := by
    rw [e, List.flatMap_append, List.length_append, List.flatMap_cons, List.length_append, List.length_map] at hl
    omega
  refine M.T_b ?_
  refine M.T_for (fun us s => s = grp ((ys.flatMap fun x => x.2.map fun t => (t, x.1)) ++ us.map fun t => (t, x.1))) (by simp) (fun us y vs s e2 j => ?_) fun s j => ?_
  · subst j
    have h3 : us.length ≤ x.2.length := by rw [e2]; simp
    refine M.T_b (M.T_ok (M.T_chk (grp_side _ _ (by rw [List.length_append, List.length_map]; omega)) (M.T_b (M.T_ok (M.T_ok ?_)))))
    rw [List.map_append, ← List.append_assoc]
    exact (grp_snoc _ _ _).symm
  · refine M.T_ok ?_
    rw [j, List.flatMap_append]
    simp
theorem held_get {rows : RowsT} (h : Twice rows) {t : Str} (ht : t ∈ ties rows) : ∃ a b, seatL rows t = [a, b] ∧ dget (grp (heldL rows)) t = some [pnm rows a.1, pnm rows b.1] := by
  obtain ⟨a, b, hs, _⟩ := seat_two h ht
  refine ⟨a, b, hs, ?_⟩
  rw [grp_get]
  have e : valsOf (heldL rows) t = (seatL rows t).map fun e => pnm rows e.1 := by
    unfold valsOf heldL seatL
    rw [List.filter_map, List.map_map]
    have : (fun p : Str × Str => decide (p.1 = t)) ∘ (fun e => (tieD rows e, pnm rows e.1)) = fun e => decide (tieD rows e = t) := rfl
    rw [this]
    have h2 : (allE rows).filter (fun e => decide (tieD rows e = t)) = (allE rows).filter fun e => decide (tie? rows e = some t) := by
      refine List.filter_congr fun e he => ?_
      obtain ⟨u, hu⟩ := tie_some he
      rw [tieD_of hu, hu]
      by_cases z : u = t <;> simp [z]
    rw [h2]
    rfl
  rw [e, hs]
  rfl
end Tw
set_option Elab.async false
set_option linter.all false
set_option maxRecDepth 100000
set_option maxHeartbeats 4000000
namespace Tw
open PySem PySem.Spec L2 TL
open PyProof.Rows hiding St
/-- what is wanted of a net in all that follows -/
structure NetQ (rows : RowsT) : Prop extends NetP rows where
  sm : Sm rows
  few : rows.length < 64
  hang : Hang rows
  okn : ∀ n ∈ rows.map (·.1), Dd.Ok n
  okt : ∀ t ∈ ties rows, Dd.Ok t
theorem NetQ.pos {rows : RowsT} (Q : NetQ rows) : 0 < rows.length := List.length_pos_iff.mpr Q.ne
theorem NetQ.inj {rows : RowsT} (Q : NetQ rows) : ∀ v w, v < rows.length → w < rows.length → pnm rows v = pnm rows w → v = w := fun v w hv hw h => pnm_inj Q.nd hv hw h
theorem NetQ.rch {rows : RowsT} (Q : NetQ rows) {v : Nat} (h : v < rows.length) : Rch (outR rows) 0 v := Q.hang.rch Q.toNetP Q.pos h
end Tw
set_option Elab.async false
set_option linter.all false
set_option maxRecDepth 100000
set_option maxHeartbeats 4000000
namespace Tw
open PySem PySem.Spec L2 TL
open PyProof.Rows hiding St
def nI (v : Nat) : Int := (v : Int)
def cnt (rows : RowsT) (S : List Str) (t : Str) : Nat := (rows.flatMap fun x => x.2.filter fun u => decide (u = t) && decide (x.1 ∈ S)).length
structure CtI (rows : RowsT) (S : List Str) (ys : RowsT) (zs : List Str) (n : Str) (d : List (Str × Int)) : Prop where
  keys : d.map (·.1) = uniq (ties ys ++ zs)
  val : ∀ t, (dget d t).getD 0 = ((cnt ys S t + (zs.filter fun u => decide (u = t) && decide (n ∈ S)).length : Nat) : Int)
theorem CtI.step {rows : RowsT} {S : List Str} {ys : RowsT} {zs : List Str} {n u : Str} {d : List (Str × Int)} (I : CtI rows S ys zs n d) : CtI rows S ys (zs ++ [u]) n (dput d u ((dget d u).getD 0 + (if decide (n ∈ S) = true then (1 : Int) else 0))) := by
  refine ⟨by rw [← List.append_assoc]; exact dput_uniq I.keys, fun t => ?_⟩
  rw [dget_dput, List.filter_append, List.length_append]
  by_cases z : u = t
  · subst z
    rw [if_pos rfl]
    show (dget d u).getD 0 + _ = _
    rw [I.val u]
    by_cases w : n ∈ S <;> simp [w] <;> omega
  · rw [if_neg z, I.val t]
    simp [z]
end Tw
set_option Elab.async false
set_option linter.all false
set_option maxRecDepth 100000
set_option maxHeartbeats 4000000
set_option Elab.async false
set_option linter.all false
set_option maxRecDepth 100000
set_option maxHeartbeats 4000000
namespace Tw
open PySem PySem.Spec L2 TL
open PyProof.Rows hiding St
/-- the ends of C that bear t -/
def nC (rows : RowsT) (C : List NE) (t : Str) : Nat := (C.filter fun e => decide (tie? rows e = some t)).length
theorem nC_snoc (rows : RowsT) (C : List NE) (e : NE) (t : Str) : nC rows (C ++ [e]) t = nC rows C t + if tie? rows e = some t then 1 else 0 := by
  unfold nC
  rw [List.filter_append, List.length_append]
  by_cases h : tie? rows e = some t <;> simp [h]
structure Tot (rows : RowsT) (C : List NE) (T : List Str) : Prop where
  srt : Sorted T
  nd : T.Nodup
  mem : ∀ t, t ∈ T ↔ nC rows C t % 2 = 1
theorem Tot.nil {rows : RowsT} : Tot rows [] [] := ⟨.nil, .nil, fun t => by simp [nC]⟩
theorem Tot.snoc {rows : RowsT} {C : List NE} {T : List Str} (h : Tot rows C T) {e : NE} {t : Str} (ht : tie? rows e = some t) : Tot rows (C ++ [e]) (sumS T [t]) where
  srt := sum_sorted _ _
  nd := sum_nodup h.nd (by simp)
  mem := fun u => by
    rw [mem_sum, nC_snoc, ht, h.mem]
    by_cases z : t = u
    · subst z
      simp
      omega
    · have z2 : ¬ u = t := fun w => z w.symm
      simp [z, z2]
theorem Tot.ties {rows : RowsT} {C : List NE} {T : List Str} (h : Tot rows C T) : ∀ t ∈ T, t ∈ ties rows := fun t ht => by
  have := (h.mem t).mp ht
  unfold nC at this
  match e : C.filter fun e => decide (tie? rows e = some t) with
  | [] => rw [e] at this; cases this
  | a :: _ =>
    have ha : a ∈ C.filter fun e => decide (tie? rows e = some t) := by rw [e]; simp
    exact tie_in (of_decide_eq_true (List.mem_filter.mp ha).2)
theorem Tot.len {rows : RowsT} {C : List NE} {T : List Str} (h : Tot rows C T) : T.length ≤ (tiesS rows).length := nodup_le h.nd fun t ht => mem_tiesS.mpr (h.ties t ht)
/-- whole faces only -/
def FC (rows : RowsT) (D : List NE) : Prop := ∀ e ∈ D, e ∈ allE rows ∧ ∀ d ∈ faceE rows e, d ∈ D
theorem FC.app {rows : RowsT} (h : Twice rows) {D : List NE} (k : FC rows D) {e : NE} (he : e ∈ allE rows) : FC rows (D ++ faceE rows e) := fun d hd => by
  have I := stp_inj h
  rcases List.mem_append.mp hd with w | w
  · exact ⟨(k d w).1, fun c hc => List.mem_append_left _ ((k d w).2 c hc)⟩
  · exact ⟨I.face_sub he d w, fun c hc => List.mem_append_right _ (I.trans he w hc)⟩
end Tw
set_option Elab.async false
set_option linter.all false
set_option maxRecDepth 100000
set_option maxHeartbeats 4000000
namespace Tw
open PySem PySem.Spec L2 TL
open PyProof.Rows hiding St
structure Dn (D : List NE) (d : List ((Int × Int) × Bool)) : Prop where
  nd : (d.map (·.1)).Nodup
  mem : ∀ k, k ∈ d.map (·.1) ↔ ∃ e ∈ D, k = cI e
theorem Dn.put {D : List NE} {d} (h : Dn D d) (e : NE) (b : Bool) : Dn (D ++ [e]) (dput d (cI e) b) := ⟨dput_nodup h.nd, fun k => by
  rw [dput_mem, h.mem]
  constructor
  · rintro (⟨c, hc, w⟩ | w)
    · exact ⟨c, List.mem_append_left _ hc, w⟩
    · exact ⟨e, by simp, w⟩
  · rintro ⟨c, hc, w⟩
    rcases List.mem_append.mp hc with q | q
    · exact .inl ⟨c, q, w⟩
    · rw [List.mem_singleton.mp q] at w
      exact .inr w⟩
theorem Dn.len {rows : RowsT} {D : List NE} {d} (h : Dn D d) (k : ∀ e ∈ D, e ∈ allE rows) : d.length ≤ (allE rows).length := by
  have := nodup_le (l := (allE rows).map cI) h.nd fun x hx => by
    obtain ⟨e, he, w⟩ := (h.mem x).mp hx
    exact List.mem_map.mpr ⟨e, k e he, w.symm⟩
  rw [List.length_map, List.length_map] at this
  exact this
theorem Dn.get {D : List NE} {d} (h : Dn D d) (e : NE) : (dget d (cI e)).isSome = true ↔ e ∈ D := by
  cases q : dget d (cI e) with
  | none =>
    refine ⟨fun w => (by cases w), fun w => absurd ((h.mem (cI e)).mpr ⟨e, w, rfl⟩) (dget_none.mp q)⟩
  | some v =>
    refine ⟨fun _ => ?_, fun _ => rfl⟩
    have : cI e ∈ d.map (·.1) := Classical.byContradiction fun w => by rw [dget_none.mpr w] at q; cases q
    obtain ⟨c, hc, w⟩ := (h.mem _).mp this
    rw [cI_inj w]
    exact hc
end Tw
set_option Elab.async false
set_option linter.all false
set_option maxRecDepth 100000
set_option maxHeartbeats 4000000
namespace Tw
open PySem PySem.Spec L2 TL
open PyProof.Rows hiding St
theorem mem_uniqT {rows : RowsT} {t : Str} : t ∈ uniq (ties rows) ↔ t ∈ ties rows := (uniq_props _).2.1 t
end Tw
set_option Elab.async false
set_option linter.all false
set_option maxRecDepth 100000
set_option maxHeartbeats 4000000
namespace Tw
open PySem PySem.Spec L2 TL
open PyProof.Rows hiding St
section
variable {α β : Type}
/-- the sum, of two values -/
def px (f : α → Bool) : List α → Bool
  | [] => false
  | a :: r => xor (f a) (px f r)
theorem px_congr {f g : α → Bool} {l : List α} (h : ∀ a ∈ l, f a = g a) : px f l = px g l := by
  induction l with
  | nil => rfl
  | cons a r ih => simp only [px]; rw [h a List.mem_cons_self, ih fun b hb => h b (List.mem_cons_of_mem _ hb)]
theorem px_false (l : List α) : px (fun _ => false) l = false := by
  induction l with
  | nil => rfl
  | cons a r ih => simp [px, ih]
theorem px_zero {f : α → Bool} {l : List α} (h : ∀ a ∈ l, f a = false) : px f l = false := by rw [px_congr h, px_false]
theorem px_xor (f g : α → Bool) (l : List α) : px (fun a => xor (f a) (g a)) l = xor (px f l) (px g l) := by
  induction l with
  | nil => rfl
  | cons a r ih =>
    simp only [px, ih]
    cases f a <;> cases g a <;> cases px f r <;> cases px g r <;> rfl
theorem px_map (f : β → Bool) (h : α → β) (l : List α) : px f (l.map h) = px (fun a => f (h a)) l := by
  induction l with
  | nil => rfl
  | cons a r ih => simp [px, ih]
end
def seatA (rows : RowsT) (t : Str) : NE := (seatL rows t).headD (0, 0)
theorem seatA_of {rows : RowsT} (h : Twice rows) {t : Str} (ht : t ∈ ties rows) : tie? rows (seatA rows t) = some t ∧ (seatL rows t = [seatA rows t, mate rows (seatA rows t)]) := by
  obtain ⟨a, b, hs, ne⟩ := seat_two h ht
  have ea : seatA rows t = a := by unfold seatA; rw [hs]; rfl
  have ta : tie? rows a = some t := mem_seat.mp (by rw [hs]; simp)
  have tb : tie? rows b = some t := mem_seat.mp (by rw [hs]; simp)
  refine ⟨by rw [ea]; exact ta, ?_⟩
  rw [ea, hs]
  rcases (mate_of h ta).2.2 b tb with z | z
  · exact absurd z.symm ne
  · rw [z]
theorem seatA_mem {rows : RowsT} (h : Twice rows) {t : Str} (ht : t ∈ ties rows) : seatA rows t ∈ allE rows ∧ tieD rows (seatA rows t) = t := ⟨tie_mem (seatA_of h ht).1, tieD_of (seatA_of h ht).1⟩
def inB (C : List Str) (t : Str) : Bool := decide (t ∈ C)
def RoundP (rows : RowsT) (c : Str → Bool) : Prop := ∀ v, v < rows.length → px c (rowT rows v) = false
def CutP (rows : RowsT) (c : Str → Bool) (f : Nat → Bool) : Prop := ∀ e ∈ allE rows, c (tieD rows e) = xor (f e.1) (f (mate rows e).1)
theorem RoundP.xor {rows : RowsT} {c d : Str → Bool} (hc : RoundP rows c) (hd : RoundP rows d) : RoundP rows fun t => xor (c t) (d t) := fun v hv => by
  rw [px_xor, hc v hv, hd v hv]
  rfl
theorem CutP.xor {rows : RowsT} {c d : Str → Bool} {f g : Nat → Bool} (hc : CutP rows c f) (hd : CutP rows d g) : CutP rows (fun t => xor (c t) (d t)) fun v => xor (f v) (g v) := fun e he => by
  show Bool.xor (c (tieD rows e)) (d (tieD rows e)) = Bool.xor (Bool.xor (f e.1) (g e.1)) (Bool.xor (f (mate rows e).1) (g (mate rows e).1))
  rw [hc e he, hd e he]
  cases f e.1 <;> cases g e.1 <;> cases f (mate rows e).1 <;> cases g (mate rows e).1 <;> rfl
/-- a set of ties, as it is told -/
structure SetT (rows : RowsT) (C : List Str) : Prop where
  s : Sorted C
  n : C.Nodup
  t : ∀ t ∈ C, t ∈ ties rows
theorem SetT.len {rows : RowsT} {C : List Str} (h : SetT rows C) : C.length ≤ (tiesS rows).length := nodup_le h.n fun t ht => mem_tiesS.mpr (h.t t ht)
theorem SetT.sum {rows : RowsT} {a b : List Str} (ha : SetT rows a) (hb : SetT rows b) : SetT rows (sumS a b) := ⟨sum_sorted _ _, sum_nodup ha.n hb.n, fun t ht => (mem_sum.mp ht).elim (fun w => ha.t t w.1) fun w => hb.t t w.1⟩
theorem SetT.ok {rows : RowsT} (Q : NetQ rows) {C : List Str} (h : SetT rows C) : Dd.Ok C := fun t ht => Q.okt t (h.t t ht)
end Tw
set_option Elab.async false
set_option linter.all false
set_option maxRecDepth 100000
set_option maxHeartbeats 4000000
namespace Tw
variable {α : Type} [DecidableEq α] {n : Nat}
def okS (n : Nat) : (Nat → Nat) → List (α × Nat × Nat) → (α → Bool) → Bool
  | P, [], _ => (List.range n).all fun v => decide (P v = P 0)
  | P, e :: es, s => if s e.1 = true then (if P e.2.1 = P e.2.2 then false else okS n (mrgP P (P e.2.1) (P e.2.2)) es s) else okS n P es s
theorem treeL_cons (P : Nat → Nat) (e : α × Nat × Nat) (es : List (α × Nat × Nat)) : treeL n P (e :: es) = treeL n P es ++ if P e.2.1 = P e.2.2 then [] else (treeL n (mrgP P (P e.2.1) (P e.2.2)) es).map (e.1 :: ·) := rfl
theorem treeL_sub : ∀ {es : List (α × Nat × Nat)} {P : Nat → Nat} {T : List α}, T ∈ treeL n P es → T.Sublist (es.map (·.1))
  | [], P, T, h => by
    unfold treeL at h
    split at h
    · rw [List.mem_singleton.mp h]; exact .refl _
    · cases h
  | e :: es, P, T, h => by
    rw [treeL_cons, List.mem_append] at h
    rcases h with h | h
    · exact (treeL_sub h).cons _
    · split at h
      · cases h
      · obtain ⟨T', h', rfl⟩ := List.mem_map.mp h
        exact (treeL_sub h').cons₂ _
theorem treeL_mem : ∀ {es : List (α × Nat × Nat)} {P : Nat → Nat} {s : α → Bool}, (es.map (·.1)).Nodup → ((es.map (·.1)).filter s ∈ treeL n P es ↔ okS n P es s = true)
  | [], P, s, _ => by
    unfold treeL okS
    rw [List.map_nil, List.filter_nil]
    split
    · rename_i h; exact ⟨fun _ => h, fun _ => List.mem_singleton.mpr rfl⟩
    · rename_i h; exact ⟨fun z => by (cases z), fun z => absurd z h⟩
  | e :: es, P, s, nd => by
    rw [List.map_cons, List.nodup_cons] at nd
    rw [treeL_cons, List.map_cons, List.filter_cons, List.mem_append]
    show _ ↔ (if s e.1 = true then (if P e.2.1 = P e.2.2 then false else okS n (mrgP P (P e.2.1) (P e.2.2)) es s) else okS n P es s) = true
    have nf : e.1 ∉ (es.map (·.1)).filter s := fun z => nd.1 (List.mem_filter.mp z).1
    by_cases hs : s e.1 = true
    · rw [if_pos hs, if_pos hs]
      have n1 : ¬ (e.1 :: (es.map (·.1)).filter s) ∈ treeL n P es := fun z => nd.1 ((treeL_sub z).subset List.mem_cons_self)
      by_cases q : P e.2.1 = P e.2.2
      · rw [if_pos q, if_pos q]
        exact ⟨fun z => z.elim (fun z => absurd z n1) fun z => (by cases z), fun z => by (cases z)⟩
      · rw [if_neg q, if_neg q, ← treeL_mem nd.2]
        constructor
        · rintro (z | z)
          · exact absurd z n1
          · obtain ⟨T, hT, e⟩ := List.mem_map.mp z
            rw [← (List.cons.inj e).2]
            exact hT
        · exact fun z => .inr (List.mem_map.mpr ⟨_, z, rfl⟩)
    · rw [if_neg hs, if_neg hs, ← treeL_mem nd.2]
      constructor
      · rintro (z | z)
        · exact z
        · split at z
          · cases z
          · obtain ⟨T, hT, e⟩ := List.mem_map.mp z
            exact absurd (by rw [← e]; exact List.mem_cons_self) nf
      · exact .inl
theorem treeL_filter : ∀ {es : List (α × Nat × Nat)} {P : Nat → Nat} {T : List α}, (es.map (·.1)).Nodup → T ∈ treeL n P es → T = (es.map (·.1)).filter fun a => decide (a ∈ T)
  | [], P, T, _, h => by
    have := treeL_sub h
    rw [List.map_nil] at this ⊢
    rw [List.sublist_nil.mp this]
    rfl
  | e :: es, P, T, nd, h => by
    rw [List.map_cons, List.nodup_cons] at nd
    rw [treeL_cons, List.mem_append] at h
    rw [List.map_cons, List.filter_cons]
    rcases h with h | h
    · have ni : e.1 ∉ T := fun z => nd.1 ((treeL_sub h).subset z)
      rw [if_neg (by simpa using ni)]
      exact treeL_filter nd.2 h
    · split at h
      · cases h
      · obtain ⟨T', h', rfl⟩ := List.mem_map.mp h
        rw [if_pos (decide_eq_true List.mem_cons_self)]
        have ih := treeL_filter nd.2 h'
        conv => lhs; rw [ih]
        congr 1
        refine List.filter_congr fun a ha => ?_
        have ne : a ≠ e.1 := fun z => nd.1 (by rw [← z]; exact ha)
        exact decide_eq_decide.mpr ⟨fun z => List.mem_cons_of_mem _ z, fun z => (List.mem_cons.mp z).elim (fun w => absurd w ne) id⟩
theorem treeL_nd : ∀ {es : List (α × Nat × Nat)} {P : Nat → Nat}, (es.map (·.1)).Nodup → (treeL n P es).Nodup
  | [], P, _ => by
    unfold treeL
    split
    · exact List.nodup_cons.mpr ⟨List.not_mem_nil, .nil⟩
    · exact .nil
  | e :: es, P, nd => by
    rw [List.map_cons, List.nodup_cons] at nd
    rw [treeL_cons, List.nodup_append]
    refine ⟨treeL_nd nd.2, ?_, fun a ha b hb z => ?_⟩
    · split
      · exact .nil
      · have h := treeL_nd (P := mrgP P (P e.2.1) (P e.2.2)) nd.2
        unfold List.Nodup at h ⊢
        rw [List.pairwise_map]
        exact h.imp fun h z => h (List.cons.inj z).2
    · subst z
      split at hb
      · cases hb
      · obtain ⟨T, hT, rfl⟩ := List.mem_map.mp hb
        exact nd.1 ((treeL_sub ha).subset List.mem_cons_self)
/-- like on each part -/
def Fac (n : Nat) (P : Nat → Nat) (f : Nat → Bool) : Prop := ∀ v w, v < n → w < n → P v = P w → f v = f w
def Con (n : Nat) (P : Nat → Nat) (es : List (α × Nat × Nat)) (s : α → Bool) : Prop := ∀ f, Fac n P f → (∀ e ∈ es, s e.1 = true → f e.2.1 = f e.2.2) → ∀ v, v < n → f v = f 0
def Acy (n : Nat) (P : Nat → Nat) (es : List (α × Nat × Nat)) (s : α → Bool) : Prop := ∀ r : α → Bool, (∀ e ∈ es, r e.1 = true → s e.1 = true) → (∀ f, Fac n P f → px (fun e => r e.1 && xor (f e.2.1) (f e.2.2)) es = false) → ∀ e ∈ es, r e.1 = false
theorem fac_mrg {P : Nat → Nat} {x y : Nat} (hx : x < n) (hy : y < n) {f : Nat → Bool} : Fac n (mrgP P (P x) (P y)) f ↔ Fac n P f ∧ f x = f y := by
  constructor
  · exact fun h => ⟨fun v w hv hw e => h v w hv hw ((mrg_iff P x y v w).mpr (.inl e)), h x y hx hy ((mrg_iff P x y x y).mpr (.inr ⟨.inl rfl, .inr rfl⟩))⟩
  · rintro ⟨h, e⟩ v w hv hw q
    rcases (mrg_iff P x y v w).mp q with q | ⟨q1, q2⟩
    · exact h v w hv hw q
    · have a : f v = f x := by
        rcases q1 with q1 | q1
        · exact h v x hv hx q1
        · rw [e]; exact h v y hv hy q1
      have b : f w = f x := by
        rcases q2 with q2 | q2
        · exact h w x hw hx q2
        · rw [e]; exact h w y hw hy q2
      rw [a, b]
theorem px_off {es : List (α × Nat × Nat)} {a : α} (h : a ∉ es.map (·.1)) (c : Bool) (r : α → Bool) (g : α × Nat × Nat → Bool) : px (fun e => (if e.1 = a then c else r e.1) && g e) es = px (fun e => r e.1 && g e) es := px_congr fun e he => by rw [if_neg fun z => h (List.mem_map.mpr ⟨e, he, z⟩)]
theorem okS_iff (h0 : 0 < n) : ∀ {es : List (α × Nat × Nat)} {P : Nat → Nat} {s : α → Bool}, (es.map (·.1)).Nodup → (∀ e ∈ es, e.2.1 < n ∧ e.2.2 < n) → (okS n P es s = true ↔ Con n P es s ∧ Acy n P es s)
  | [], P, s, _, _ => by
    show (List.range n).all (fun v => decide (P v = P 0)) = true ↔ _
    rw [List.all_eq_true]
    constructor
    · exact fun h => ⟨fun f hf _ v hv => hf v 0 hv h0 (of_decide_eq_true (h v (List.mem_range.mpr hv))), fun r _ _ e he => by cases he⟩
    · rintro ⟨h, _⟩ v hv
      have := h (fun v => decide (P v = P 0)) (fun v w _ _ e => by simp only [e]) (fun e he => by cases he) v (List.mem_range.mp hv)
      rw [this]
      exact decide_eq_true rfl
  | e :: es, P, s, nd, he => by
    obtain ⟨hx, hy⟩ := he e List.mem_cons_self
    have he' : ∀ d ∈ es, d.2.1 < n ∧ d.2.2 < n := fun d hd => he d (List.mem_cons_of_mem _ hd)
    rw [List.map_cons, List.nodup_cons] at nd
    show (if s e.1 = true then (if P e.2.1 = P e.2.2 then false else okS n (mrgP P (P e.2.1) (P e.2.2)) es s) else okS n P es s) = true ↔ _
    have hne : ∀ d ∈ es, d.1 ≠ e.1 := fun d hd z => nd.1 (List.mem_map.mpr ⟨d, hd, z⟩)
    -- what holds on the rest holds on all, the first left out
    have acy0 : Acy n P (e :: es) s → Acy n P es s := fun h r hr hf d hd => by
      have := h (fun t => if t = e.1 then false else r t) (fun d hd => by
        rcases List.mem_cons.mp hd with z | z
        · subst z; show (if d.1 = d.1 then false else _) = true → _; rw [if_pos rfl]; exact fun z => by cases z
        · show (if d.1 = e.1 then false else _) = true → _; rw [if_neg (hne d z)]; exact hr d z) (fun f hf' => by
        show xor ((if e.1 = e.1 then false else r e.1) && _) (px _ es) = false
        rw [if_pos rfl, px_off nd.1, hf f hf']; rfl) d (List.mem_cons_of_mem _ hd)
      rw [if_neg (hne d hd)] at this
      exact this
    by_cases hs : s e.1 = true
    · rw [if_pos hs]
      by_cases q : P e.2.1 = P e.2.2
      · rw [if_pos q]
        refine ⟨fun z => by (cases z), fun ⟨_, h⟩ => ?_⟩
        have := h (fun t => decide (t = e.1)) (fun d hd z => by rw [of_decide_eq_true z]; exact hs) (fun f hf => by
          show xor (decide (e.1 = e.1) && xor (f e.2.1) (f e.2.2)) (px _ es) = false
          rw [hf _ _ hx hy q, px_zero fun d hd => by rw [decide_eq_false (hne d hd)]; rfl]
          simp) e List.mem_cons_self
        rw [decide_eq_true rfl] at this
        cases this
      · rw [if_neg q, okS_iff h0 nd.2 he']
        have cons : Con n P (e :: es) s ↔ Con n (mrgP P (P e.2.1) (P e.2.2)) es s := by
          constructor
          · intro h f hf hes
            obtain ⟨f1, f2⟩ := (fac_mrg hx hy).mp hf
            refine h f f1 fun d hd sd => ?_
            rcases List.mem_cons.mp hd with z | z
            · subst z; exact f2
            · exact hes d z sd
          · intro h f hf hes
            exact h f ((fac_mrg hx hy).mpr ⟨hf, hes e List.mem_cons_self hs⟩) fun d hd sd => hes d (List.mem_cons_of_mem _ hd) sd
        rw [cons]
        refine and_congr_right fun _ => ⟨fun h r hr hf => ?_, fun h r hr hf d hd => ?_⟩
        · have h1 := h r (fun d hd => hr d (List.mem_cons_of_mem _ hd)) fun f hf' => by
            obtain ⟨f1, f2⟩ := (fac_mrg hx hy).mp hf'
            have := hf f f1
            rw [show px (fun e => r e.1 && xor (f e.2.1) (f e.2.2)) (e :: es) = xor (r e.1 && xor (f e.2.1) (f e.2.2)) (px (fun e => r e.1 && xor (f e.2.1) (f e.2.2)) es) from rfl, f2] at this
            simpa using this
          have h2 := hf (fun v => decide (P v = P e.2.1)) fun v w _ _ z => by simp only [z]
          rw [show px (fun d => r d.1 && xor (decide (P d.2.1 = P e.2.1)) (decide (P d.2.2 = P e.2.1))) (e :: es) = xor (r e.1 && xor (decide (P e.2.1 = P e.2.1)) (decide (P e.2.2 = P e.2.1))) (px (fun d => r d.1 && xor (decide (P d.2.1 = P e.2.1)) (decide (P d.2.2 = P e.2.1))) es) from rfl, px_zero fun d hd => by rw [h1 d hd]; rfl, decide_eq_true rfl, decide_eq_false (fun z => q z.symm)] at h2
          intro d hd
          rcases List.mem_cons.mp hd with z | z
          · subst z; simpa using h2
          · exact h1 d z
        · by_cases all : ∀ f, Fac n P f → px (fun e => r e.1 && xor (f e.2.1) (f e.2.2)) es = false
          · exact acy0 h r hr all d hd
          · obtain ⟨g, hg⟩ := Classical.not_forall.mp all
            obtain ⟨g1, g2⟩ := Classical.not_imp.mp hg
            have g2 : px (fun e => r e.1 && xor (g e.2.1) (g e.2.2)) es = true := by
              cases w : px (fun e => r e.1 && xor (g e.2.1) (g e.2.2)) es
              · exact absurd w g2
              · rfl
            have g3 : g e.2.1 ≠ g e.2.2 := fun z => by
              rw [hf g ((fac_mrg hx hy).mpr ⟨g1, z⟩)] at g2
              cases g2
            have := h (fun t => if t = e.1 then true else r t) (fun d hd => by
              rcases List.mem_cons.mp hd with z | z
              · subst z; exact fun _ => hs
              · show (if d.1 = e.1 then true else r d.1) = true → _
                rw [if_neg (hne d z)]; exact hr d z) (fun f hf' => by
              show xor ((if e.1 = e.1 then true else r e.1) && xor (f e.2.1) (f e.2.2)) (px _ es) = false
              rw [if_pos rfl, px_off nd.1, Bool.true_and]
              by_cases w : f e.2.1 = f e.2.2
              · rw [w, hf f ((fac_mrg hx hy).mpr ⟨hf', w⟩)]; simp
              · have h3 := hf (fun v => xor (f v) (g v)) ((fac_mrg hx hy).mpr ⟨fun v w hv hw z => by show xor (f v) (g v) = xor (f w) (g w); rw [hf' v w hv hw z, g1 v w hv hw z], by
                  revert w g3
                  show _ → _ → xor (f e.2.1) (g e.2.1) = xor (f e.2.2) (g e.2.2)
                  cases f e.2.1 <;> cases f e.2.2 <;> cases g e.2.1 <;> cases g e.2.2 <;> simp⟩)
                have h4 : px (fun d => r d.1 && xor (xor (f d.2.1) (g d.2.1)) (xor (f d.2.2) (g d.2.2))) es = xor (px (fun d => r d.1 && xor (f d.2.1) (f d.2.2)) es) (px (fun d => r d.1 && xor (g d.2.1) (g d.2.2)) es) := by
                  rw [← px_xor]
                  refine px_congr fun d _ => ?_
                  cases r d.1 <;> cases f d.2.1 <;> cases f d.2.2 <;> cases g d.2.1 <;> cases g d.2.2 <;> rfl
                rw [show px (fun d => r d.1 && xor (xor (f d.2.1) (g d.2.1)) (xor (f d.2.2) (g d.2.2))) es = false from h3, g2] at h4
                have h5 : xor (f e.2.1) (f e.2.2) = true := by
                  revert w
                  cases f e.2.1 <;> cases f e.2.2 <;> simp
                rw [h5]
                revert h4
                cases px (fun d => r d.1 && xor (f d.2.1) (f d.2.2)) es <;> simp) e List.mem_cons_self
            rw [if_pos rfl] at this
            cases this
    · rw [if_neg hs, okS_iff h0 nd.2 he']
      refine and_congr ⟨fun h f hf hes => h f hf fun d hd sd => hes d (List.mem_cons_of_mem _ hd) sd, fun h f hf hes => h f hf fun d hd sd => ?_⟩ ⟨fun h r hr hf => ?_, acy0⟩
      · rcases List.mem_cons.mp hd with z | z
        · subst z; exact absurd sd hs
        · exact hes d z sd
      · have re : r e.1 = false := by
          cases w : r e.1
          · rfl
          · exact absurd (hr e List.mem_cons_self w) hs
        have h1 := h r (fun d hd => hr d (List.mem_cons_of_mem _ hd)) fun f hf' => by
          have := hf f hf'
          rw [show px (fun e => r e.1 && xor (f e.2.1) (f e.2.2)) (e :: es) = xor (r e.1 && xor (f e.2.1) (f e.2.2)) (px (fun e => r e.1 && xor (f e.2.1) (f e.2.2)) es) from rfl, re] at this
          simpa using this
        intro d hd
        rcases List.mem_cons.mp hd with z | z
        · subst z; exact re
        · exact h1 d z
end Tw
set_option Elab.async false
set_option linter.all false
set_option maxRecDepth 100000
set_option maxHeartbeats 4000000
set_option Elab.async false
set_option linter.all false
set_option maxRecDepth 100000
set_option maxHeartbeats 4000000
set_option Elab.async false
set_option linter.all false
set_option maxRecDepth 100000
set_option maxHeartbeats 4000000
namespace Tw
theorem sumZ_shift (f : Nat → Int) : ∀ n, sumZ (n + 1) f = f 0 + sumZ n fun i => f (i + 1)
  | 0 => by show (0 : Int) + f 0 = f 0 + 0; omega
  | n + 1 => by
    show sumZ (n + 1) f + f (n + 1) = f 0 + (sumZ n (fun i => f (i + 1)) + f (n + 1))
    rw [sumZ_shift f n]
    omega
/-- the first row is the first unit -/
theorem det_first : ∀ (n : Nat) {M : Mx}, (∀ b, b < n + 1 → M 0 b = dl 0 b) → det (n + 1) M = det n fun a b => M (a + 1) (b + 1)
  | 0, M, h => by
    rw [det_succ]
    show (0 : Int) + sgN (0 + 0) * M 0 0 * 1 = 1
    rw [h 0 (by omega), sgN_even rfl]
    rfl
  | n + 1, M, h => by
    rw [det_succ, sumZ_shift, h (n + 1) (by omega)]
    have z : dl 0 (n + 1) = 0 := if_neg (by omega)
    rw [z, Int.mul_zero, Int.zero_mul, Int.zero_add, det_succ n]
    refine sumZ_congr fun i hi => ?_
    have e := det_first n (M := fun a b => M (sk (i + 1) a) b) fun b hb => by
      rw [sk_lt (by omega)]
      exact h b (by omega)
    rw [e, show n + 1 + (i + 1) = (n + i) + 1 + 1 by omega, sgN_succ, sgN_succ, Int.neg_neg]
    congr 1
    refine det_congr fun a b ha hb => ?_
    have : sk (i + 1) (a + 1) = sk i a + 1 := by unfold sk; split <;> split <;> omega
    rw [this]
/-- what is alike along ties and within parts is alike everywhere -/
def Cn (n : Nat) (P : Nat → Nat) (es : List (Nat × Nat)) : Prop := ∀ f : Nat → Bool, (∀ v, v < n → f v = f (P v)) → (∀ e ∈ es, f e.1 = f e.2) → ∀ v, v < n → f v = f 0
theorem trees_pos {n : Nat} : ∀ {es : List (Nat × Nat)} {P : Nat → Nat}, Prt n P → (∀ e ∈ es, e.1 < n ∧ e.2 < n) → Cn n P es → 0 < trees n P es
  | [], P, h, _, c => by
    unfold trees
    rw [if_pos]
    · exact Nat.one_pos
    · refine List.all_eq_true.mpr fun v hv => ?_
      have hv := List.mem_range.mp hv
      have := c (fun v => decide (P v = P 0)) (fun v hv => by rw [h.idem v hv]) (fun e he => by cases he) v hv
      rw [this]
      exact decide_eq_true rfl
  | (x, y) :: es, P, h, he, c => by
    obtain ⟨hx, hy⟩ := he (x, y) List.mem_cons_self
    have he' : ∀ e ∈ es, e.1 < n ∧ e.2 < n := fun e m => he e (List.mem_cons_of_mem _ m)
    show 0 < trees n P es + if P x = P y then 0 else trees n (mrgP P (P x) (P y)) es
    by_cases q : P x = P y
    · have := trees_pos h he' fun f f1 f2 => c f f1 fun e m => by
        rcases List.mem_cons.mp m with rfl | m
        · show f x = f y
          rw [f1 x hx, f1 y hy, q]
        · exact f2 e m
      omega
    · rw [if_neg q]
      have := trees_pos (h.mrgP hx hy q) he' fun f f1 f2 => by
        have fp : ∀ v, v < n → f v = f (P v) := fun v hv => by
          have a := f1 v hv
          unfold mrgP at a
          by_cases w : P v = P y
          · rw [if_pos w] at a
            have b := f1 (P y) (h.lt y hy)
            unfold mrgP at b
            rw [if_pos (h.idem y hy)] at b
            rw [a, w, b]
          · rw [if_neg w] at a
            exact a
        refine c f fp fun e m => ?_
        rcases List.mem_cons.mp m with rfl | m
        · show f x = f y
          have b := f1 y hy
          unfold mrgP at b
          rw [if_pos rfl] at b
          rw [fp x hx, b]
        · exact f2 e m
      exact Nat.lt_of_lt_of_le this (Nat.le_add_left _ _)
end Tw
set_option Elab.async false
set_option linter.all false
set_option maxRecDepth 100000
set_option maxHeartbeats 4000000
namespace Tw
/-- the points behind k are put to the root -/
def upto (k : Nat) : Nat → Nat := fun v => if k < v then 0 else v
theorem upto_prt {n k : Nat} (hk : k < n) : Prt n (upto k) := by
  refine ⟨by omega, fun v hv => ?_, fun v hv => ?_⟩
  · unfold upto; split <;> omega
  · unfold upto
    split
    · rw [if_neg (by omega)]
    · rfl
theorem det_tail {A : Mx} {k : Nat} : ∀ m, k ≤ m → (∀ v b, k < v → A v b = dl v b) → det (m + 1) A = det (k + 1) A
  | 0, hk, _ => by rw [show k = 0 by omega]
  | m + 1, hk, h => by
    by_cases q : k = m + 1
    · rw [q]
    · rw [det_last (m + 1) fun b hb => by rw [h _ _ (by omega)]; exact if_neg (by omega), h _ _ (by omega), show dl (m + 1) (m + 1) = 1 from if_pos rfl, Int.one_mul]
      exact det_tail m (by omega) h
theorem lead_trees {n k : Nat} (hk : k < n) {es : List (Nat × Nat)} (he : ∀ e ∈ es, e.1 < n ∧ e.2 < n) : det (k + 1) (matP (fun v => v) es) = (trees n (upto k) es : Int) := by
  rw [← det_trees (upto_prt hk) he]
  have u0 : upto k 0 = 0 := if_neg (by omega)
  have e1 : det n (matP (upto k) es) = det n (fun v b => if k < v then dl v b else matP (upto k) es v b) := det_toM (q := 0) (by omega) (fun v => if k < v then 1 else 0) (if_neg (by omega)) fun v b hv hb => by
    have r : matP (upto k) es 0 b = dl 0 b := by
      unfold matP
      rw [u0, if_pos rfl]
    rw [r]
    by_cases q : k < v
    · rw [if_pos q, if_pos q, Int.one_mul]
      unfold matP
      have uv : upto k v = 0 := if_pos q
      rw [u0, if_neg (by omega), uv, if_neg (by omega)]
      omega
    · rw [if_neg q, if_neg q, Int.zero_mul, Int.add_zero]
  rw [e1]
  obtain ⟨m, rfl⟩ : ∃ m, n = m + 1 := ⟨n - 1, by omega⟩
  rw [det_tail m (k := k) (by omega) fun v b q => if_pos q]
  refine det_congr fun v b hv hb => ?_
  rw [if_neg (by omega)]
  unfold matP
  rw [u0]
  by_cases z : v = 0
  · rw [if_pos z, if_pos z]
  · have uv : upto k v = v := if_neg (by omega)
    rw [if_neg z, if_neg z, if_pos rfl, uv, if_pos rfl]
    have key : ∀ w : Nat, (upto k w = v) ↔ (w = v) := fun w => by
      unfold upto
      split <;> omega
    have le : ∀ es : List (Nat × Nat), lapR (fun v => v) es v b = lapR (upto k) es v b := fun es => by
      induction es with
      | nil => rfl
      | cons e es ih =>
        show lapE _ v b e + lapR _ es v b = lapE _ v b e + lapR _ es v b
        rw [ih]
        congr 1
        unfold lapE
        have k2 : ∀ (w : Nat) (t : Int), (if upto k w = v then t else 0) = (if w = v then t else 0) := fun w t => by
          by_cases q : w = v
          · rw [if_pos ((key w).mpr q), if_pos q]
          · rw [if_neg (fun y => q ((key w).mp y)), if_neg q]
        rw [k2, k2]
    exact le es
end Tw
set_option Elab.async false
set_option linter.all false
set_option maxRecDepth 100000
set_option maxHeartbeats 4000000
namespace Tw
open PySem PySem.Spec L2 TL
open PyProof.Rows hiding St
theorem sumZ_bd {f : Nat → Int} {c : Nat} : ∀ {n : Nat}, (∀ i, i < n → (f i).natAbs ≤ c) → (sumZ n f).natAbs ≤ n * c
  | 0, _ => by show (0 : Int).natAbs ≤ _; simp
  | n + 1, h => by
    have ih := sumZ_bd (n := n) fun i hi => h i (by omega)
    have hn := h n (by omega)
    show (sumZ n f + f n).natAbs ≤ _
    rw [Nat.succ_mul]
    exact Nat.le_trans (Int.natAbs_add_le _ _) (Nat.add_le_add ih hn)
theorem det_bd : ∀ {n : Nat} {A : Mx}, n ≤ 64 → (∀ a b, (A a b).natAbs ≤ 2 ^ 20) → (det n A).natAbs ≤ 2 ^ (26 * n)
  | 0, A, _, _ => by show (1 : Int).natAbs ≤ _; simp
  | n + 1, A, hn, h => by
    rw [det_succ]
    have h1 : (sumZ (n + 1) fun i => sgN (n + i) * A i n * det n fun a b => A (sk i a) b).natAbs ≤ (n + 1) * (2 ^ 20 * 2 ^ (26 * n)) := sumZ_bd fun i hi => by
      rw [Int.natAbs_mul, Int.natAbs_mul]
      have s : (sgN (n + i)).natAbs = 1 := by unfold sgN; split <;> rfl
      rw [s, Nat.one_mul]
      exact Nat.mul_le_mul (h _ _) (det_bd (by omega) fun a b => h _ _)
    refine Nat.le_trans h1 ?_
    rw [show 26 * (n + 1) = 6 + (20 + 26 * n) by omega, Nat.pow_add 2 6, Nat.pow_add 2 20]
    exact Nat.mul_le_mul (by omega) (Nat.le_refl _)
theorem log_bd {x : Int} {k : Nat} (h : x.natAbs ≤ 2 ^ k) : x.natAbs.log2 ≤ k := by
  by_cases z : x.natAbs = 0
  · rw [z]; simp
  · have := (Nat.log2_lt z (k := k + 1)).mpr (by rw [Nat.pow_succ]; have := Nat.two_pow_pos k; omega)
    omega
def tabF (n : Nat) (f : Nat → Nat → Int) : List (List Int) := (List.range n).map fun i => (List.range n).map fun j => f i j
def rowF (n : Nat) (f : Nat → Nat → Int) (i : Nat) : List Int := (List.range n).map fun j => f i j
theorem tabF_len (n : Nat) (f : Nat → Nat → Int) : (tabF n f).length = n := by unfold tabF; rw [List.length_map, List.length_range]
theorem rowF_len (n : Nat) (f : Nat → Nat → Int) (i : Nat) : (rowF n f i).length = n := by unfold rowF; rw [List.length_map, List.length_range]
theorem tabF_row {n i : Nat} (f : Nat → Nat → Int) (h : i < n) : (tabF n f)[i]? = some (rowF n f i) := by
  unfold tabF rowF
  rw [List.getElem?_map, List.getElem?_range h]
  rfl
theorem rowF_at {n j : Nat} (f : Nat → Nat → Int) (i : Nat) (h : j < n) : (rowF n f i)[j]? = some (f i j) := by
  unfold rowF
  rw [List.getElem?_map, List.getElem?_range h]
  rfl
theorem ixN_of {n k : Nat} (h : k < n) : ixN n (k : Int) = some k := by
  unfold ixN
  rw [if_pos (by omega), if_pos (by omega)]
  simp
theorem atI_of {α : Type} {l : List α} {k : Nat} {x : α} (h : l[k]? = some x) : atI l (k : Int) = some x := by
  unfold atI
  rw [ixN_of (List.getElem?_eq_some_iff.mp h).1]
  exact h
theorem tabF_congr {n : Nat} {f g : Nat → Nat → Int} (h : ∀ a b, a < n → b < n → f a b = g a b) : tabF n f = tabF n g := by
  unfold tabF
  refine List.map_congr_left fun a ha => List.map_congr_left fun b hb => h a b (List.mem_range.mp ha) (List.mem_range.mp hb)
theorem tabF_set {n i j : Nat} (f : Nat → Nat → Int) (hi : i < n) (hj : j < n) (v : Int) : (tabF n f).set i ((rowF n f i).set j v) = tabF n fun a b => if a = i ∧ b = j then v else f a b := by
  refine List.ext_getElem? fun a => ?_
  by_cases ha : a < n
  · rw [tabF_row _ ha]
    by_cases z : i = a
    · subst z
      rw [List.getElem?_set_self (by rw [tabF_len]; exact ha)]
      congr 1
      refine List.ext_getElem? fun b => ?_
      by_cases hb : b < n
      · rw [rowF_at _ _ hb]
        by_cases w : j = b
        · subst w
          rw [List.getElem?_set_self (by rw [rowF_len]; exact hb), if_pos ⟨rfl, rfl⟩]
        · rw [List.getElem?_set_ne w, rowF_at _ _ hb, if_neg (fun q => w q.2.symm)]
      · rw [List.getElem?_eq_none (by rw [List.length_set, rowF_len]; omega), List.getElem?_eq_none (by rw [rowF_len]; omega)]
    · rw [List.getElem?_set_ne z, tabF_row _ ha]
      congr 1
      unfold rowF
      refine List.map_congr_left fun b _ => ?_
      show _ = if a = i ∧ b = j then v else f a b
      rw [if_neg (fun q => z q.1.symm)]
  · rw [List.getElem?_eq_none (by rw [List.length_set, tabF_len]; omega), List.getElem?_eq_none (by rw [tabF_len]; omega)]
theorem M.T_up {α S : Type} {f : S → α → M S} {p : S → Prop} (I : Nat → S → Prop) {m : Nat} {g : Nat → α} {s0 : S} (h0 : I 0 s0) (hs : ∀ i s, i < m → I i s → (f s (g i)).T (I (i + 1))) (hp : ∀ s, I m s → p s) : (M.for_ f ((List.range m).map g) s0).T p := by
  refine M.T_for (fun ys s => I ys.length s) h0 (fun ys x zs s e h => ?_) fun s h => hp s (by rw [List.length_map, List.length_range] at h; exact h)
  have hl := congrArg List.length e
  rw [List.length_map, List.length_range, List.length_append, List.length_cons] at hl
  have hx : ((List.range m).map g)[ys.length]? = some x := by rw [e]; simp
  rw [List.getElem?_map, List.getElem?_range (by omega)] at hx
  rw [← Option.some.inj hx, List.length_append]
  exact hs _ _ (by omega) h
theorem cut_range {n k : Nat} (h : k < n) : cutL (List.range n) (some ((k : Int) + 1)) none = (List.range (n - (k + 1))).map fun t => t + (k + 1) := by
  have e : HT.sIx n 0 (some ((k : Int) + 1)) = k + 1 := by
    show (if ((k : Int) + 1) < 0 then (((k : Int) + 1) + (n : Int)).toNat else min ((k : Int) + 1).toNat n) = k + 1
    rw [if_neg (by omega)]
    omega
  have e2 : HT.sIx n n none = n := rfl
  unfold cutL
  rw [List.length_range, e, e2]
  refine List.ext_getElem? fun t => ?_
  by_cases ht : t < n - (k + 1)
  · rw [List.getElem?_take_of_lt ht, List.getElem?_drop, List.getElem?_range (by omega), List.getElem?_map, List.getElem?_range ht]
    simp
    omega
  · rw [List.getElem?_eq_none (by simp; omega), List.getElem?_eq_none (by simp; omega)]
/-- the table behind k steps -/
def stepT (A : Mx) (k a b : Nat) : Int := mnr A (min k (min a b)) a b
theorem mnr_bd {A : Mx} {k i j : Nat} (hk : k < 64) (h : ∀ a b, (A a b).natAbs ≤ 2 ^ 20) : (mnr A k i j).natAbs.log2 ≤ 26 * 64 := by
  refine Nat.le_trans (log_bd (det_bd (n := k + 1) (by omega) fun a b => h _ _)) ?_
  exact Nat.mul_le_mul_left 26 (by omega)
theorem mulW {A : Mx} {k i j k' i' j' : Nat} (hk : k < 64) (hk' : k' < 64) (h : ∀ a b, (A a b).natAbs ≤ 2 ^ 20) : CMulW (mnr A k i j) (mnr A k' i' j') := by
  have h1 := mnr_bd (i := i) (j := j) hk h
  have h2 := mnr_bd (i := i') (j := j') hk' h
  unfold CMulW
  omega
theorem tabF_atI {n i j : Nat} (f : Nat → Nat → Int) (hi : i < n) (hj : j < n) : atI (tabF n f) (i : Int) = some (rowF n f i) ∧ atI (rowF n f i) (j : Int) = some (f i j) := ⟨atI_of (tabF_row f hi), atI_of (rowF_at f i hj)⟩
theorem worth_T {n : Nat} {A : Mx} (hn : n ≤ 63) (hb : ∀ a b, (A a b).natAbs ≤ 2 ^ 20) (hp : ∀ k, k < n → 0 < det k A) : (F_worth_of (tabF n A)).T fun r => r = det n A := by
  unfold F_worth_of
  rw [M.lc_map (f := fun y => y) _ (fun _ _ => rfl), List.map_id']
  have h00 : tabF n (stepT A 0) = tabF n A := tabF_congr fun a b _ _ => by
    unfold stepT
    rw [Nat.zero_min, mnr_nil]
  refine M.T_b (M.T_chk (line_of (by rw [tabF_len]; omega)) (M.T_ok (M.T_b (M.T_ok (M.T_b (M.T_b (M.T_chk (by rw [tabF_len]; exact rng_side (by omega)) (M.T_ok ?_))))))))
  refine M.T_rng (fun k s => s = (det k A, tabF n (stepT A k))) (by rw [h00]; rfl) (fun k s hk e => ?_) fun s e => ?_
  · subst e
    rw [tabF_len] at hk
    have hkn : k + 1 < n := by omega
    have hk1 : k < n := by omega
    obtain ⟨a1, a2⟩ := tabF_atI (stepT A k) hk1 hk1
    have elead : stepT A k k k = mnr A k k k := by unfold stepT; rw [show min k (min k k) = k by omega]
    refine M.T_b (M.T_b (M.T_get a1 (M.T_get a2 ?_)))
    refine M.T_b (M.T_b (M.T_ok ?_))
    rw [show (cutL (List.range (tabF n (stepT A k)).length) (some ((k : Int) + 1)) none) = (List.range (n - (k + 1))).map fun t => t + (k + 1) by rw [tabF_len]; exact cut_range hk1]
    refine M.T_up (fun t s => s = tabF n fun a b => if k < a ∧ a < t + (k + 1) then stepT A (k + 1) a b else stepT A k a b) ?_ (fun t s ht e => ?_) fun s e => ?_
    · exact tabF_congr fun a b _ _ => by rw [if_neg (by omega)]
    · subst e
      have hr : t + (k + 1) < n := by omega
      have hrow := tabF_row (fun a b => if k < a ∧ a < t + (k + 1) then stepT A (k + 1) a b else stepT A k a b) hr
      refine M.T_b (M.T_b (M.T_get hrow (M.T_get (atI_of (rowF_at _ _ hk1)) ?_)))
      rw [if_neg (by omega)]
      have efront : stepT A k (t + (k + 1)) k = mnr A k (t + (k + 1)) k := by unfold stepT; rw [show min k (min (t + (k + 1)) k) = k by omega]
      refine M.T_b (M.T_b (M.T_chk ⟨by omega, by omega, by rw [tabF_len]; omega, by rw [tabF_len]; omega⟩ (M.T_ok ?_)))
      have er : rng ((k : Int) + 1) (((tabF n fun a b => if k < a ∧ a < t + (k + 1) then stepT A (k + 1) a b else stepT A k a b).length : Nat) : Int) = (List.range (n - (k + 1))).map fun (u : Nat) => ((u + (k + 1) : Nat) : Int) := by
        rw [tabF_len]
        unfold rng
        rw [show ((n : Int) - ((k : Int) + 1)).toNat = n - (k + 1) by omega]
        exact List.map_congr_left fun u _ => by omega
      rw [er]
      refine M.T_up (fun u s => s = tabF n fun a b => if k < a ∧ (a < t + (k + 1) ∨ (a = t + (k + 1) ∧ b < u + (k + 1))) then stepT A (k + 1) a b else stepT A k a b) ?_ (fun u s hu e => ?_) fun s e => ?_
      · refine tabF_congr fun a b _ _ => ?_
        by_cases q : k < a ∧ a < t + (k + 1)
        · rw [if_pos q, if_pos ⟨q.1, .inl q.2⟩]
        · rw [if_neg q]
          by_cases w : k < a ∧ (a < t + (k + 1) ∨ (a = t + (k + 1) ∧ b < 0 + (k + 1)))
          · rw [if_pos w]
            unfold stepT
            rw [show min (k + 1) (min a b) = min k (min a b) by omega]
          · rw [if_neg w]
      · subst e
        have hc : u + (k + 1) < n := by omega
        have hrow2 := tabF_row (fun a b => if k < a ∧ (a < t + (k + 1) ∨ (a = t + (k + 1) ∧ b < u + (k + 1))) then stepT A (k + 1) a b else stepT A k a b) hr
        have hrowk := tabF_row (fun a b => if k < a ∧ (a < t + (k + 1) ∨ (a = t + (k + 1) ∧ b < u + (k + 1))) then stepT A (k + 1) a b else stepT A k a b) hk1
        have e1 : stepT A k (t + (k + 1)) (u + (k + 1)) = mnr A k (t + (k + 1)) (u + (k + 1)) := by unfold stepT; rw [show min k (min (t + (k + 1)) (u + (k + 1))) = k by omega]
        have e2 : stepT A k k (u + (k + 1)) = mnr A k k (u + (k + 1)) := by unfold stepT; rw [show min k (min k (u + (k + 1))) = k by omega]
        have e3 : stepT A (k + 1) (t + (k + 1)) (u + (k + 1)) = mnr A (k + 1) (t + (k + 1)) (u + (k + 1)) := by unfold stepT; rw [show min (k + 1) (min (t + (k + 1)) (u + (k + 1))) = k + 1 by omega]
        refine M.T_b (M.T_b (M.T_b (M.T_b (M.T_b (M.T_get hrow2 (M.T_get (atI_of (rowF_at _ _ hc)) ?_))))))
        rw [if_neg (by omega), e1, elead]
        refine M.T_chk (mulW (by omega) (by omega) hb) (M.T_ok (M.T_b (M.T_b (M.T_b (M.T_get (atI_of hrowk) (M.T_get (atI_of (rowF_at _ _ hc)) ?_))))))
        rw [if_neg (by omega), e2, efront]
        refine M.T_chk (mulW (by omega) (by omega) hb) (M.T_ok (M.T_ok (M.T_chk ?_ (M.T_ok ?_))))
        · have h1 := hp k hk1
          refine ⟨h1, ?_⟩
          have := log_bd (det_bd (n := k) (by omega) hb)
          have : 26 * k ≤ 26 * 64 := Nat.mul_le_mul_left 26 (by omega)
          show (det k A).natAbs.log2 < 9000
          omega
        · show (M.b _ _).T _
          rw [show (mnr A k (t + (k + 1)) (u + (k + 1)) * mnr A k k k - mnr A k (t + (k + 1)) k * mnr A k k (u + (k + 1))) / ((det k A, tabF n (stepT A k)) : Int × List (List Int)).1 = mnr A (k + 1) (t + (k + 1)) (u + (k + 1)) from bare_step A k _ _ (by have := hp k hk1; omega)]
          refine M.T_b (M.T_ok (M.T_b (M.T_get hrow2 (M.T_b (M.T_get (by rw [rowF_len]; exact ixN_of hc) (M.T_ok ?_))))))
          rw [tabF_set _ hr hc, ← e3]
          refine tabF_congr fun a b _ _ => ?_
          by_cases q : a = t + (k + 1) ∧ b = u + (k + 1)
          · rw [if_pos q, if_pos ⟨by omega, .inr ⟨q.1, by omega⟩⟩, q.1, q.2]
          · rw [if_neg q]
            by_cases w : k < a ∧ (a < t + (k + 1) ∨ (a = t + (k + 1) ∧ b < u + (k + 1)))
            · rw [if_pos w, if_pos ⟨w.1, w.2.imp id fun z => ⟨z.1, by omega⟩⟩]
            · rw [if_neg w, if_neg]
              rintro ⟨z1, z2⟩
              refine w ⟨z1, ?_⟩
              rcases z2 with z2 | ⟨z2, z3⟩
              · exact .inl z2
              · refine .inr ⟨z2, ?_⟩
                have : b ≠ u + (k + 1) := fun z => q ⟨z2, z⟩
                omega
      · rw [e]
        refine M.T_ok ?_
        refine tabF_congr fun a b ha hb' => ?_
        by_cases q : k < a ∧ (a < t + (k + 1) ∨ (a = t + (k + 1) ∧ b < n - (k + 1) + (k + 1)))
        · rw [if_pos q, if_pos ⟨q.1, by omega⟩]
        · rw [if_neg q, if_neg]
          rintro ⟨z1, z2⟩
          exact q ⟨z1, by omega⟩
    · rw [e]
      refine M.T_b (M.T_ok (M.T_ok ?_))
      rw [elead, mnr_lead]
      congr 1
      refine tabF_congr fun a b ha hb' => ?_
      by_cases q : k < a ∧ a < n - (k + 1) + (k + 1)
      · rw [if_pos q]
      · rw [if_neg q]
        unfold stepT
        rw [show min (k + 1) (min a b) = min k (min a b) by omega]
  · rw [tabF_len] at e
    subst e
    refine M.T_b (M.T_chk ⟨fun x _ y _ => trivial, fun x hx => by cases hx⟩ (M.T_ok ?_))
    refine M.T_ite (fun z => ?_) fun z => ?_
    · have z' := congrArg List.length (of_decide_eq_true z)
      rw [tabF_len] at z'
      rw [show n = 0 from z']
      exact M.T_ok rfl
    · have hn0 : n ≠ 0 := fun w => z (decide_eq_true (by rw [w]; rfl))
      have lst : ∀ {α : Type} {l : List α} {x : α}, l.length = n → l[n - 1]? = some x → atI l (-1 : Int) = some x := fun {α l x} hl h => by
        unfold atI ixN
        rw [if_neg (by omega), if_pos (by omega), hl, show ((-1 : Int) + (n : Int)).toNat = n - 1 by omega]
        exact h
      refine M.T_b (M.T_get (lst (tabF_len _ _) (tabF_row _ (by omega))) (M.T_get (lst (rowF_len _ _ _) (rowF_at _ _ (by omega))) ?_))
      unfold stepT
      rw [show min (((n : Int) - 1).toNat) (min (n - 1) (n - 1)) = n - 1 by omega, mnr_lead, show n - 1 + 1 = n by omega]
end Tw
set_option Elab.async false
set_option linter.all false
set_option maxRecDepth 100000
set_option maxHeartbeats 4000000
namespace Tw
open PySem PySem.Spec L2 TL
open PyProof.Rows hiding St
def outC (rows : RowsT) (c : Str → Bool) (v : Nat) : List (Nat × Str) := (outR rows v).filter fun e => c e.2
theorem mem_outC {rows : RowsT} {c : Str → Bool} {v : Nat} {e : Nat × Str} : e ∈ outC rows c v ↔ ∃ p, (v, p) ∈ allE rows ∧ e = ((mate rows (v, p)).1, tieD rows (v, p)) ∧ c (tieD rows (v, p)) = true := by
  unfold outC
  rw [List.mem_filter, mem_outR]
  constructor
  · rintro ⟨⟨p, hp, rfl⟩, h⟩; exact ⟨p, hp, rfl, h⟩
  · rintro ⟨p, hp, rfl, h⟩; exact ⟨⟨p, hp, rfl⟩, h⟩
theorem FlT.len {ε : Type} {out : Nat → List (Nat × ε)} {up : List ε → ε → List ε} (hu : ∀ x e, (up x e).length = x.length + 1) {b0 : Nat} {L : List (Nat × List ε)} (h : FlT out up [] b0 L) : ∀ v x, dget L v = some x → x.length < L.length := by
  induction h with
  | zero =>
    intro v x h
    rw [dget_cons] at h
    by_cases z : b0 = v
    · rw [if_pos z] at h; cases h; simp
    · rw [if_neg z] at h; cases h
  | @step L w y e _ hv he hn ih =>
    intro v x h
    rw [dget_append] at h
    rw [List.length_append, List.length_singleton]
    cases q : dget L v with
    | some z => rw [q] at h; cases h; have := ih v _ q; omega
    | none =>
      rw [q, dget_cons] at h
      by_cases z : e.1 = v
      · rw [if_pos z] at h
        cases h
        rw [hu]
        have := ih w y hv
        omega
      · rw [if_neg z] at h; cases h
def Joins (rows : RowsT) (C : List Str) : Prop := C.length + 1 = rows.length ∧ ∀ v, v < rows.length → Rch (outC rows (inB C)) 0 v
end Tw
set_option Elab.async false
set_option linter.all false
set_option maxRecDepth 100000
set_option maxHeartbeats 4000000
namespace Tw
open PySem PySem.Spec L2 TL
open PyProof.Rows hiding St
structure SumsD where
  leads : Dk Int (Int × Int)
  empty : List Int
instance : Ins SumsD := ⟨"Sums", ["leads", "empty"], fun t => [⟨t.leads⟩, ⟨t.empty⟩]⟩
end Tw
set_option Elab.async false
set_option linter.all false
set_option maxRecDepth 100000
set_option maxHeartbeats 4000000
namespace Tw
open PySem PySem.Spec L2 TL
open PyProof.Rows hiding St
theorem lead_of {a : Nat} (h : a ≠ 0) : a < 2 ^ (a.log2 + 1) ∧ a.testBit a.log2 = true := by
  have h1 := Nat.lt_log2_self (n := a)
  have h2 := Nat.log2_self_le h
  refine ⟨h1, ?_⟩
  rw [Nat.testBit_eq_decide_div_mod_eq]
  have : a / 2 ^ a.log2 = 1 := by
    have hp : 0 < 2 ^ a.log2 := Nat.two_pow_pos _
    have h3 : a / 2 ^ a.log2 < 2 := by
      rw [Nat.div_lt_iff_lt_mul hp, Nat.mul_comm, ← Nat.pow_succ]
      exact h1
    have h4 : 1 ≤ a / 2 ^ a.log2 := by
      rw [Nat.le_div_iff_mul_le hp]
      omega
    omega
  rw [this]
  rfl
theorem log2_of {a k : Nat} (h : a < 2 ^ (k + 1)) (t : a.testBit k = true) : a ≠ 0 ∧ a.log2 = k := by
  have h0 : a ≠ 0 := fun w => by rw [w, Nat.zero_testBit] at t; cases t
  obtain ⟨h1, h2⟩ := lead_of h0
  refine ⟨h0, ?_⟩
  rcases Nat.lt_trichotomy a.log2 k with q | q | q
  · have := Nat.testBit_lt_two_pow (Nat.lt_of_lt_of_le h1 (Nat.pow_le_pow_right (by decide) (show a.log2 + 1 ≤ k by omega)))
    rw [this] at t; cases t
  · exact q
  · have := Nat.testBit_lt_two_pow (Nat.lt_of_lt_of_le h (Nat.pow_le_pow_right (by decide) (show k + 1 ≤ a.log2 by omega)))
    rw [this] at h2; cases h2
/-- the lead of a sum of two with unlike leads -/
theorem log2_xor {a b : Nat} (ha : a ≠ 0) (hb : b ≠ 0) (h : b.log2 < a.log2) : a ^^^ b ≠ 0 ∧ (a ^^^ b).log2 = a.log2 := by
  obtain ⟨a1, a2⟩ := lead_of ha
  obtain ⟨b1, b2⟩ := lead_of hb
  have b3 : b < 2 ^ a.log2 := Nat.lt_of_lt_of_le b1 (Nat.pow_le_pow_right (by decide) h)
  refine log2_of (Nat.xor_lt_two_pow a1 (Nat.lt_of_lt_of_le b3 (Nat.pow_le_pow_right (by decide) (Nat.le_succ _)))) ?_
  rw [Nat.testBit_xor, a2, Nat.testBit_lt_two_pow b3]
  rfl
/-- the sum of f i over the bits i of u below n -/
def xs (f : Nat → Nat) : Nat → Nat → Nat
  | 0, _ => 0
  | n + 1, u => xs f n u ^^^ (if u.testBit n = true then f n else 0)
/-- what sums of a list come to -/
inductive Spn (L : List Nat) : Nat → Prop
  | zero : Spn L 0
  | add {r v : Nat} : r ∈ L → Spn L v → Spn L (v ^^^ r)
theorem Spn.xor {L : List Nat} {a b : Nat} (ha : Spn L a) (hb : Spn L b) : Spn L (a ^^^ b) := by
  induction hb with
  | zero => rw [Nat.xor_zero]; exact ha
  | add hr _ ih => rw [← Nat.xor_assoc]; exact .add hr ih
theorem Spn.mem {L : List Nat} {r : Nat} (h : r ∈ L) : Spn L r := by
  have := Spn.add h .zero
  rw [Nat.zero_xor] at this
  exact this
theorem Spn.mono {L L' : List Nat} (h : ∀ r ∈ L, Spn L' r) {v : Nat} (hv : Spn L v) : Spn L' v := by
  induction hv with
  | zero => exact .zero
  | add hr _ ih => exact ih.xor (h _ hr)
theorem Spn.cons {L : List Nat} {r v : Nat} (h : Spn (r :: L) v) : Spn L v ∨ Spn L (v ^^^ r) := by
  induction h with
  | zero => exact .inl .zero
  | @add s w hs _ ih =>
    rcases List.mem_cons.mp hs with q | q
    · rw [q]
      rcases ih with i | i
      · exact .inr (by rw [Nat.xor_assoc, Nat.xor_self, Nat.xor_zero]; exact i)
      · exact .inl i
    · rcases ih with i | i
      · exact .inl (.add q i)
      · refine .inr ?_
        have := Spn.add q i
        rw [Nat.xor_assoc, Nat.xor_comm r s, ← Nat.xor_assoc] at this
        exact this
/-- a list with unlike leads: what it comes to has the lead of one of it -/
def Led (L : List Nat) : Prop := ∀ v, v ≠ 0 → Spn L v → ∃ r ∈ L, r.log2 = v.log2
theorem Led.cons {L : List Nat} {r : Nat} (h : Led L) (h0 : r ≠ 0) (hn : ∀ s ∈ L, s.log2 ≠ r.log2) : Led (r :: L) := fun v v0 hv => by
  rcases hv.cons with i | i
  · obtain ⟨s, hs, e⟩ := h v v0 i
    exact ⟨s, List.mem_cons_of_mem _ hs, e⟩
  · by_cases q : v ^^^ r = 0
    · have : v = r := by
        have e := congrArg (· ^^^ r) q
        simp only [Nat.xor_assoc, Nat.xor_self, Nat.xor_zero, Nat.zero_xor] at e
        exact e
      exact ⟨r, List.mem_cons_self, by rw [this]⟩
    · obtain ⟨s, hs, e⟩ := h _ q i
      have ev : v = (v ^^^ r) ^^^ r := by rw [Nat.xor_assoc, Nat.xor_self, Nat.xor_zero]
      have ne := hn s hs
      rw [e] at ne
      rcases Nat.lt_or_gt_of_ne ne with q2 | q2
      · have := log2_xor h0 q q2
        rw [Nat.xor_comm, ← ev] at this
        exact ⟨r, List.mem_cons_self, this.2.symm⟩
      · have := log2_xor q h0 q2
        rw [← ev] at this
        exact ⟨s, List.mem_cons_of_mem _ hs, by rw [e]; exact this.2.symm⟩
theorem Led.nil : Led [] := fun v v0 hv => by
  cases hv with
  | zero => exact absurd rfl v0
  | add h _ => cases h
end Tw
set_option Elab.async false
set_option linter.all false
set_option maxRecDepth 100000
set_option maxHeartbeats 4000000
namespace Tw
open PySem PySem.Spec L2 TL
open PyProof.Rows hiding St
structure NetT (rows : RowsT) : Prop extends NetP rows where
  sm : Sm rows
  okn : ∀ n ∈ rows.map (·.1), Dd.Ok n
theorem NetT.inj {rows : RowsT} (T : NetT rows) {a b : NE} (ha : a ∈ allE rows) (hb : b ∈ allE rows) (h : nE rows a = nE rows b) : a = b := nE_inj T.nd ha hb h
theorem for_mapE {α β S : Type} {g : S → β → M S} {h : α → β} : ∀ {l : List α} {s : S}, M.for_ g (l.map h) s = M.for_ (fun s a => g s (h a)) l s
  | [], _ => rfl
  | a :: r, s => by
    rw [List.map_cons, M.for_cons, M.for_cons]
    congr 1
    funext s
    exact for_mapE
/-- the marks: a dict by ends -/
structure SeenI {κ : Type} [DecidableEq κ] (key : NE → κ) (rows : RowsT) (D : List NE) (d : List (κ × Bool)) : Prop where
  get : ∀ e ∈ allE rows, (dget d (key e)).isSome = decide (e ∈ D)
  len : d.length ≤ D.length
theorem SeenI.put {κ : Type} [DecidableEq κ] {key : NE → κ} {rows : RowsT} (inj : ∀ a ∈ allE rows, ∀ b ∈ allE rows, key a = key b → a = b) {D : List NE} {d : List (κ × Bool)} (I : SeenI key rows D d) {x : NE} (hx : x ∈ allE rows) : SeenI key rows (D ++ [x]) (dput d (key x) true) := by
  refine ⟨fun e he => ?_, ?_⟩
  · rw [dget_dput]
    by_cases z : x = e
    · rw [if_pos (by rw [z]), decide_eq_true (by rw [z]; simp)]
      rfl
    · rw [if_neg (fun w => z (inj x hx e he w)), I.get e he]
      exact decide_eq_decide.mpr ⟨fun w => List.mem_append_left _ w, fun w => by
        rcases List.mem_append.mp w with q | q
        · exact q
        · exact absurd (List.mem_singleton.mp q).symm z⟩
  · have := dput_len d (key x) true
    rw [List.length_append, List.length_singleton]
    have := I.len
    omega
end Tw
set_option Elab.async false
set_option linter.all false
set_option maxRecDepth 100000
set_option maxHeartbeats 4000000
namespace Tw
open PySem PySem.Spec L2 TL
open PyProof.Rows hiding St
theorem Led.perm {L L' : List Nat} (h : Led L) (k : ∀ x, x ∈ L' ↔ x ∈ L) : Led L' := fun v v0 hv => by
  obtain ⟨r, hr, e⟩ := h v v0 (hv.mono fun r hr => .mem ((k r).mp hr))
  exact ⟨r, (k r).mpr hr, e⟩
end Tw
set_option Elab.async false
set_option linter.all false
set_option maxRecDepth 100000
set_option maxHeartbeats 4000000
namespace Tw
open PySem PySem.Spec L2 TL
open PyProof.Rows hiding St
/-- the mask of the places that are so -/
def mk (p : Nat → Bool) : Nat → Nat
  | 0 => 0
  | n + 1 => mk p n ^^^ (if p n = true then 2 ^ n else 0)
end Tw
set_option Elab.async false
set_option linter.all false
set_option maxRecDepth 100000
set_option maxHeartbeats 4000000
namespace Tw
open PySem PySem.Spec L2 TL
open PyProof.Rows hiding St
/-- rows as a net has them, perhaps apart -/
structure NetR (rows : RowsT) : Prop extends NetP rows where
  sm : Sm rows
  few : rows.length < 64
theorem NetR.inj {rows : RowsT} (Q : NetR rows) : ∀ v w, v < rows.length → w < rows.length → pnm rows v = pnm rows w → v = w := fun v w hv hw h => pnm_inj Q.nd hv hw h
end Tw
set_option Elab.async false
set_option linter.all false
set_option maxRecDepth 100000
set_option maxHeartbeats 4000000
namespace Tw
open PySem PySem.Spec L2 TL
open PyProof.Rows hiding St
def prT (rows : RowsT) (t : Str) : Nat × Nat := ((seatA rows t).1, (mate rows (seatA rows t)).1)
def tksH (rows : RowsT) : List Str := (grp (heldL rows)).map (·.1)
def esH (rows : RowsT) : List (Nat × Nat) := (tksH rows).map (prT rows)
theorem dget_memZ {κ α : Type} [DecidableEq κ] {k : κ} {a : α} : ∀ {l : List (κ × α)}, (l.map (·.1)).Nodup → (k, a) ∈ l → dget l k = some a
  | [], _, h => by cases h
  | p :: r, nd, h => by
    rw [dget_cons]
    rw [List.map_cons, List.nodup_cons] at nd
    rcases List.mem_cons.mp h with e | h
    · rw [← e, if_pos rfl]
    · rw [if_neg (fun z => nd.1 (by rw [z]; exact List.mem_map.mpr ⟨_, h, rfl⟩))]
      exact dget_memZ nd.2 h
theorem held_pairZ {rows : RowsT} (h : Twice rows) {t : Str} (ht : t ∈ ties rows) : dget (grp (heldL rows)) t = some [pnm rows (seatA rows t).1, pnm rows (mate rows (seatA rows t)).1] := by
  obtain ⟨a, b, hs, hg⟩ := held_get h ht
  rw [(seatA_of h ht).2] at hs
  rw [hg]
  injection hs with h1 h2
  injection h2 with h2 _
  rw [h2, h1]
theorem tksH_mem {rows : RowsT} (two : Twice rows) {t : Str} : t ∈ tksH rows ↔ t ∈ ties rows := by
  unfold tksH
  rw [(grp_keys _).2.2]
  unfold heldL
  rw [List.map_map]
  constructor
  · intro h
    obtain ⟨e, he, rfl⟩ := List.mem_map.mp h
    exact tieD_mem he
  · intro h
    have he := (seatA_of two h).1
    exact List.mem_map.mpr ⟨_, tie_mem he, tieD_of he⟩
theorem lapR_snoc (P : Nat → Nat) (v b : Nat) (e : Nat × Nat) : ∀ es, lapR P (es ++ [e]) v b = lapR P es v b + lapE P v b e
  | [] => by show lapE P v b e + 0 = 0 + lapE P v b e; omega
  | d :: es => by
    show lapE P v b d + lapR P (es ++ [e]) v b = lapE P v b d + lapR P es v b + lapE P v b e
    rw [lapR_snoc P v b e es]
    omega
theorem cut1 {α : Type} (l : List α) : cutL l (some 1) none = l.drop 1 := by
  have e : HT.sIx l.length 0 (some (1 : Int)) = min 1 l.length := rfl
  have e2 : HT.sIx l.length l.length none = l.length := rfl
  unfold cutL
  rw [e, e2]
  cases l with
  | nil => rfl
  | cons x r =>
    rw [List.length_cons, show min 1 (r.length + 1) = 1 by omega]
    simp
theorem range_drop1 (n : Nat) : (List.range n).drop 1 = (List.range (n - 1)).map (· + 1) := by
  cases n with
  | zero => rfl
  | succ n =>
    rw [List.range_succ_eq_map]
    rfl
theorem tab_cut (n : Nat) (f : Nat → Nat → Int) : ((tabF n f).drop 1).map (fun y => cutL y (some 1) none) = tabF (n - 1) fun a b => f (a + 1) (b + 1) := by
  unfold tabF
  rw [← List.map_drop, range_drop1, List.map_map, List.map_map]
  refine List.map_congr_left fun a _ => ?_
  show cutL ((List.range n).map _) (some 1) none = _
  rw [cut1, ← List.map_drop, range_drop1, List.map_map]
  rfl
theorem enu_names (rows : RowsT) : enu (rows.map (·.1)) = (List.range rows.length).map fun (v : Nat) => ((v : Int), pnm rows v) := by
  unfold enu
  refine List.ext_getElem? fun v => ?_
  rw [List.getElem?_map, List.getElem?_map]
  by_cases h : v < rows.length
  · rw [List.getElem?_range h, List.getElem?_zipIdx, List.getElem?_map, List.getElem?_eq_getElem h]
    simp [pnm_at (List.getElem?_eq_getElem h)]
  · rw [List.getElem?_eq_none (by simp; omega), List.getElem?_eq_none (by simp; omega)]
    rfl
theorem four_sets {x y : Nat} (ne : x ≠ y) (f : Nat → Nat → Int) (a b : Nat) :
    (if a = y ∧ b = x then (if y = x ∧ x = y then (if x = y ∧ y = y then (if y = x ∧ y = x then f x x + 1 else f y y) + 1 else if x = x ∧ y = x then f x x + 1 else f x y) - 1 else if y = y ∧ x = y then (if y = x ∧ y = x then f x x + 1 else f y y) + 1 else if y = x ∧ x = x then f x x + 1 else f y x) - 1
      else if a = x ∧ b = y then (if x = y ∧ y = y then (if y = x ∧ y = x then f x x + 1 else f y y) + 1 else if x = x ∧ y = x then f x x + 1 else f x y) - 1
      else if a = y ∧ b = y then (if y = x ∧ y = x then f x x + 1 else f y y) + 1 else if a = x ∧ b = x then f x x + 1 else f a b) = f a b + lapE (fun v => v) a b (x, y) := by
  have ne' : ¬ y = x := fun z => ne z.symm
  unfold lapE dl
  by_cases h1 : a = x
  · subst h1
    by_cases h2 : b = a
    · subst h2; simp [ne, ne']
    · by_cases h3 : b = y
      · subst h3; simp [ne, ne', h2]; omega
      · simp [ne, ne', h2, h3, Ne.symm h2, Ne.symm h3]
  · by_cases h4 : a = y
    · subst h4
      by_cases h2 : b = x
      · subst h2; simp [ne, ne', h1]; omega
      · by_cases h3 : b = a
        · subst h3; simp [ne, ne', h1]
        · simp [ne, ne', h1, h2, h3, Ne.symm h2, Ne.symm h3]
    · simp [h1, h4, Ne.symm h1, Ne.symm h4]
theorem tab_T {rows : RowsT} (R : NetR rows) : (F_table_without_first rows).T fun r => r = tabF (rows.length - 1) fun a b => lapR (fun v => v) (esH rows) (a + 1) (b + 1) := by
  unfold F_table_without_first
  have few := R.few
  rw [points_of_ok R.sm]
  refine M.T_b (M.T_cl (M.T_ok (M.T_b (M.T_ok (M.T_b ?_)))))
  rw [enu_names]
  refine M.T_up (fun k s => s = rpL (pnm rows) ((List.range k).map fun (v : Nat) => (v, (v : Int)))) rfl (fun k s hk e => ?_) fun s e => ?_
  · subst e
    refine M.T_b (M.T_ok (M.T_b (M.T_ok (M.T_chk (line_lt (by rw [rpL_len, List.length_map, List.length_range]; omega)) (M.T_ok ?_)))))
    have hn : dget ((List.range k).map fun (v : Nat) => (v, (v : Int))) k = none := dget_none.mpr fun z => by
      rw [List.map_map] at z
      obtain ⟨w, hw, e⟩ := List.mem_map.mp z
      have := List.mem_range.mp hw
      simp at e
      omega
    have := rpL_put (key := pnm rows) (a := (k : Int)) R.inj (fun p hp => by obtain ⟨w, hw, rfl⟩ := List.mem_map.mp hp; have := List.mem_range.mp hw; show w < _; omega) hk hn
    rw [List.range_succ, List.map_append]
    show (⟨_⟩ : Dk Str Int) = _
    rw [this]
    rfl
  subst e
  have place : ∀ v, v < rows.length → dget (rpL (pnm rows) ((List.range rows.length).map fun (v : Nat) => (v, (v : Int)))).l (pnm rows v) = some (v : Int) := fun v hv => by
    rw [rpL_get (κ := Str) R.inj (fun p hp => by obtain ⟨w, hw, rfl⟩ := List.mem_map.mp hp; exact List.mem_range.mp hw) hv]
    have nd : (((List.range rows.length).map fun (v : Nat) => (v, (v : Int))).map (·.1)).Nodup := by
      rw [List.map_map]
      show (List.map (fun v => v) _).Nodup
      rw [List.map_id']
      exact List.nodup_range
    exact dget_memZ nd (List.mem_map.mpr ⟨v, List.mem_range.mpr hv, rfl⟩)
  have z0 : (rows.map (·.1)).map (fun _ => (rows.map (·.1)).map fun _ => (0 : Int)) = tabF rows.length fun a b => lapR (fun v => v) [] a b := by
    unfold tabF
    rw [List.map_map]
    refine List.ext_getElem? fun a => ?_
    rw [List.getElem?_map, List.getElem?_map]
    by_cases h : a < rows.length
    · rw [List.getElem?_range h, List.getElem?_eq_getElem h]
      simp only [Option.map_some, Function.comp]
      congr 1
      rw [List.map_map]
      refine List.ext_getElem? fun b => ?_
      rw [List.getElem?_map, List.getElem?_map]
      by_cases h : b < rows.length
      · rw [List.getElem?_range h, List.getElem?_eq_getElem h]
        rfl
      · rw [List.getElem?_eq_none (by omega), List.getElem?_eq_none (by simp; omega)]
        rfl
    · rw [List.getElem?_eq_none (by omega), List.getElem?_eq_none (by simp; omega)]
      rfl
  have hln : (rows.map (·.1)).length ≤ sizeLine := line_of (by rw [List.length_map]; omega)
  rw [M.lc_map (f := fun _ => (rows.map (·.1)).map fun _ => (0 : Int)) _ (fun x _ => by rw [M.chk_of hln]; exact M.lc_map (f := fun _ => (0 : Int)) _ fun _ _ => rfl), z0, held_ok R.sm]
  refine M.T_b (M.T_chk hln (M.T_ok (M.T_b (M.T_cl (M.T_ok (M.T_b ?_))))))
  refine M.T_for (fun ys s => s = tabF rows.length fun a b => lapR (fun v => v) (ys.map (prT rows)) a b) rfl (fun ys t zs s e i => ?_) fun s e => ?_
  · subst i
    have ht : t ∈ ties rows := (tksH_mem R.two).mp (show t ∈ tksH rows from by rw [show tksH rows = _ from e]; simp)
    have g := held_pairZ R.two ht
    obtain ⟨hA, eA⟩ := seatA_mem R.two ht
    have rA := allE_row hA
    have rB := allE_row (mate_mem R.two hA)
    refine M.T_b (M.T_b (M.T_b (M.T_get g (M.T_get (a := pnm rows (seatA rows t).1) rfl (M.T_get (place _ rA) ?_)))))
    refine M.T_b (M.T_b (M.T_b (M.T_get g (M.T_get (a := pnm rows (mate rows (seatA rows t)).1) rfl (M.T_get (place _ rB) ?_)))))
    rw [List.map_append]
    have fin : ∀ (h : ∀ a b, lapR (fun v => v) (ys.map (prT rows) ++ [prT rows t]) a b = lapR (fun v => v) (ys.map (prT rows)) a b + lapE (fun v => v) a b (prT rows t)), True := fun _ => trivial
    generalize hx : (seatA rows t).1 = x at *
    generalize hy : (mate rows (seatA rows t)).1 = y at *
    have hp : prT rows t = (x, y) := by unfold prT; rw [hx, hy]
    refine M.T_ite (fun z => ?_) fun z => ?_
    · have ne : x ≠ y := fun w => by rw [w] at z; simp at z
      refine M.T_b (M.T_ok (M.T_b (M.T_get (by rw [tabF_len]; exact ixN_of rA) (M.T_b (M.T_get (tabF_row _ rA) (M.T_b (M.T_ok (M.T_b (M.T_get (by rw [rowF_len]; exact ixN_of rA) (M.T_b (M.T_get (rowF_at _ _ rA) (M.T_b (M.T_ok ?_)))))))))))))
      rw [tabF_set _ rA rA]
      refine M.T_b (M.T_ok (M.T_b (M.T_get (by rw [tabF_len]; exact ixN_of rB) (M.T_b (M.T_get (tabF_row _ rB) (M.T_b (M.T_ok (M.T_b (M.T_get (by rw [rowF_len]; exact ixN_of rB) (M.T_b (M.T_get (rowF_at _ _ rB) (M.T_b (M.T_ok ?_)))))))))))))
      rw [tabF_set _ rB rB]
      refine M.T_b (M.T_ok (M.T_b (M.T_get (by rw [tabF_len]; exact ixN_of rA) (M.T_b (M.T_get (tabF_row _ rA) (M.T_b (M.T_ok (M.T_b (M.T_get (by rw [rowF_len]; exact ixN_of rB) (M.T_b (M.T_get (rowF_at _ _ rB) (M.T_b (M.T_ok ?_)))))))))))))
      rw [tabF_set _ rA rB]
      refine M.T_b (M.T_ok (M.T_b (M.T_get (by rw [tabF_len]; exact ixN_of rB) (M.T_b (M.T_get (tabF_row _ rB) (M.T_b (M.T_ok (M.T_b (M.T_get (by rw [rowF_len]; exact ixN_of rA) (M.T_b (M.T_get (rowF_at _ _ rA) (M.T_b (M.T_ok (M.T_ok ?_))))))))))))))
      rw [tabF_set _ rB rA]
      refine tabF_congr fun a b _ _ => ?_
      show _ = lapR (fun v => v) (ys.map (prT rows) ++ [prT rows t]) a b
      rw [lapR_snoc, hp]
      exact four_sets ne _ a b
    · have ne : x = y := Decidable.byContradiction fun w => z (by simp; exact_mod_cast w)
      refine M.T_ok (tabF_congr fun a b _ _ => ?_)
      show _ = lapR (fun v => v) (ys.map (prT rows) ++ [prT rows t]) a b
      rw [lapR_snoc, hp, lapE_in (fun v => v) (e := (x, y)) ne]
      omega
  · subst e
    have hc : (cutL (tabF rows.length fun a b => lapR (fun v => v) ((tksH rows).map (prT rows)) a b) (some 1) none).length ≤ sizeLine := line_of (by rw [cut1, List.length_drop, tabF_len]; omega)
    refine M.T_chk hc ?_
    show (M.lc _ _ (cutL (tabF rows.length fun a b => lapR (fun v => v) (esH rows) a b) (some 1) none)).T _
    rw [M.lc_map (f := fun y => cutL y (some 1) none) _ (fun _ _ => rfl), cut1, tab_cut]
    exact M.T_ok rfl
end Tw
set_option Elab.async false
set_option linter.all false
set_option maxRecDepth 100000
set_option maxHeartbeats 4000000
namespace Tw
open PySem PySem.Spec L2 TL
open PyProof.Rows hiding St
theorem dl_bd (a b : Nat) : (dl a b).natAbs ≤ 1 := by unfold dl; split <;> simp
theorem lapE_bd (P : Nat → Nat) (v b : Nat) (e : Nat × Nat) : (lapE P v b e).natAbs ≤ 4 := by
  unfold lapE
  have h1 := dl_bd e.1 b
  have h2 := dl_bd e.2 b
  split <;> split <;> omega
theorem lapR_bd (P : Nat → Nat) (v b : Nat) : ∀ es, (lapR P es v b).natAbs ≤ 4 * es.length
  | [] => by show (0 : Int).natAbs ≤ _; simp
  | e :: es => by
    have ih := lapR_bd P v b es
    have h := lapE_bd P v b e
    show (lapE P v b e + lapR P es v b).natAbs ≤ _
    rw [List.length_cons]
    omega
theorem matP_bd (P : Nat → Nat) {es : List (Nat × Nat)} (h : es.length ≤ 1000) (v b : Nat) : (matP P es v b).natAbs ≤ 2 ^ 20 := by
  unfold matP
  have h1 := lapR_bd P v b es
  have h2 := dl_bd v b
  have h3 := dl_bd (P v) b
  split
  · omega
  · split <;> omega
theorem lapR_perm (P : Nat → Nat) (v b : Nat) {es es' : List (Nat × Nat)} (h : es.Perm es') : lapR P es v b = lapR P es' v b := by
  induction h with
  | nil => rfl
  | cons e _ ih => show _ + _ = _ + _; rw [ih]
  | swap e d es => show lapE P v b d + (lapE P v b e + lapR P es v b) = lapE P v b e + (lapE P v b d + lapR P es v b); omega
  | trans _ _ h1 h2 => exact h1.trans h2
theorem trees_perm {n : Nat} {P : Nat → Nat} {es es' : List (Nat × Nat)} (hP : Prt n P) (he : ∀ e ∈ es, e.1 < n ∧ e.2 < n) (h : es.Perm es') : trees n P es = trees n P es' := by
  have e : matP P es = matP P es' := by
    funext v b
    unfold matP
    rw [lapR_perm P v b h]
  have h1 := det_trees hP he
  have h2 := det_trees hP (es := es') fun d hd => he d (h.mem_iff.mpr hd)
  rw [e, h2] at h1
  exact Int.ofNat.inj h1.symm
theorem prt_id {n : Nat} (h : 0 < n) : Prt n fun v => v := ⟨h, fun v hv => hv, fun v _ => rfl⟩
theorem prT_lt {rows : RowsT} (two : Twice rows) {t : Str} (ht : t ∈ ties rows) : (prT rows t).1 < rows.length ∧ (prT rows t).2 < rows.length := by
  obtain ⟨hA, _⟩ := seatA_mem two ht
  exact ⟨show (seatA rows t).1 < _ from allE_row hA, show (mate rows (seatA rows t)).1 < _ from allE_row (mate_mem two hA)⟩
theorem esT_lt {rows : RowsT} (two : Twice rows) {ts : List Str} (h : ∀ t ∈ ts, t ∈ ties rows) : ∀ e ∈ ts.map (prT rows), e.1 < rows.length ∧ e.2 < rows.length := fun e he => by
  obtain ⟨t, ht, rfl⟩ := List.mem_map.mp he
  exact prT_lt two (h t ht)
/-- the rows of a tie -/
theorem tie_rows {rows : RowsT} (two : Twice rows) {i : Nat} {x : Str × List Str} {t : Str} (hx : rows[i]? = some x) (ht : t ∈ x.2) : t ∈ ties rows ∧ (i = (prT rows t).1 ∨ i = (prT rows t).2) := by
  obtain ⟨p, hp⟩ := mem_end hx ht
  have hm := tie_in hp
  refine ⟨hm, ?_⟩
  have h1 := mem_seat.mpr hp
  rw [(seatA_of two hm).2] at h1
  rcases List.mem_cons.mp h1 with z | z
  · exact .inl (congrArg Prod.fst z)
  · exact .inr (congrArg Prod.fst (List.mem_singleton.mp z))
theorem hang_cn {rows : RowsT} (P : NetP rows) (hh : Hang rows) {ts : List Str} (h : ∀ t ∈ ties rows, t ∈ ts) (Q : Nat → Nat) : Cn rows.length Q (ts.map (prT rows)) := fun f _ hf v hv => by
  have pos : 0 < rows.length := List.length_pos_iff.mpr P.ne
  have := hh (fun nm => ∃ w, w < rows.length ∧ pnm rows w = nm ∧ f w = f 0) (fun x hx y hy t tx ty ⟨w, hw, ew, fw⟩ => by
    obtain ⟨i, hi⟩ := List.mem_iff_getElem?.mp hx
    obtain ⟨j, hj⟩ := List.mem_iff_getElem?.mp hy
    have li := (List.getElem?_eq_some_iff.mp hi).1
    have lj := (List.getElem?_eq_some_iff.mp hj).1
    have : w = i := pnm_inj P.nd hw li (by rw [ew, pnm_at hi])
    subst this
    refine ⟨j, lj, pnm_at hj, ?_⟩
    obtain ⟨hm, a1⟩ := tie_rows P.two hi tx
    obtain ⟨_, a2⟩ := tie_rows P.two hj ty
    have fe := hf _ (List.mem_map.mpr ⟨t, h t hm, rfl⟩)
    rcases a1 with a1 | a1 <;> rcases a2 with a2 | a2
    · rw [a2, ← a1]; exact fw
    · rw [a2, ← fe, ← a1]; exact fw
    · rw [a2, fe, ← a1]; exact fw
    · rw [a2, ← a1]; exact fw) ⟨rows[0], List.getElem_mem pos, 0, pos, pnm_at (List.getElem?_eq_getElem pos), rfl⟩ rows[v] (List.getElem_mem hv)
  obtain ⟨w, hw, ew, fw⟩ := this
  have : w = v := pnm_inj P.nd hw hv (by rw [ew, pnm_at (List.getElem?_eq_getElem hv)])
  rw [← this]
  exact fw
/-- the number of trees -/
def nT (rows : RowsT) : Nat := trees rows.length (fun v => v) (esH rows)
theorem det_shift (es : List (Nat × Nat)) (k : Nat) : det (k + 1) (matP (fun v => v) es) = det k fun a b => matP (fun v => v) es (a + 1) (b + 1) := det_first k fun b _ => by
  unfold matP
  rw [if_pos rfl]
theorem tree_T {rows : RowsT} (R : NetR rows) (hh : Hang rows) : F_tree_count rows = .ok (nT rows : Int) ∧ 0 < nT rows := by
  have few := R.few
  have pos : 0 < rows.length := List.length_pos_iff.mpr R.ne
  have elt : ∀ e ∈ esH rows, e.1 < rows.length ∧ e.2 < rows.length := esT_lt R.two fun t ht => (tksH_mem R.two).mp ht
  have cn : ∀ Q, Cn rows.length Q (esH rows) := fun Q => hang_cn R.toNetP hh (fun t ht => (tksH_mem R.two).mpr ht) Q
  have hlen : (esH rows).length ≤ 1000 := by
    unfold esH tksH
    rw [List.length_map, List.length_map]
    have h1 := (grp_keys (heldL rows)).2.1
    have h2 : (heldL rows).length = (allE rows).length := by unfold heldL; rw [List.length_map]
    have := R.sm.2
    omega
  refine ⟨?_, trees_pos (prt_id pos) elt (cn _)⟩
  refine M.T_is ?_
  unfold F_tree_count
  refine M.T_b (M.T_cl ((tab_T R).imp fun r e => M.T_cl ?_))
  subst e
  have e1 : tabF (rows.length - 1) (fun a b => lapR (fun v => v) (esH rows) (a + 1) (b + 1)) = tabF (rows.length - 1) fun a b => matP (fun v => v) (esH rows) (a + 1) (b + 1) := tabF_congr fun a b _ _ => by
    unfold matP
    rw [if_neg (show ¬ a + 1 = 0 by omega), if_pos rfl]
  rw [e1]
  refine (worth_T (A := fun a b => matP (fun v => v) (esH rows) (a + 1) (b + 1)) (by omega) (fun a b => matP_bd _ hlen _ _) fun k hk => ?_).imp fun r e => ?_
  · rw [← det_shift, lead_trees (n := rows.length) (k := k) (by omega) elt]
    have := trees_pos (upto_prt (n := rows.length) (k := k) (by omega)) elt (cn _)
    omega
  · rw [e, ← det_shift, show rows.length - 1 + 1 = rows.length by omega]
    exact det_trees (prt_id pos) elt
end Tw
set_option Elab.async false
set_option linter.all false
set_option maxRecDepth 100000
set_option maxHeartbeats 4000000
namespace Tw
open PySem PySem.Spec L2 TL
open PyProof.Rows hiding St
def lstP (n : Nat) (P : Nat → Nat) : List Int := (List.range n).map fun v => ((P v : Nat) : Int)
theorem lstP_at {n v : Nat} (P : Nat → Nat) (h : v < n) : atI (lstP n P) (v : Int) = some ((P v : Nat) : Int) := atI_of (by unfold lstP; rw [List.getElem?_map, List.getElem?_range h]; rfl)
theorem lstP_len (n : Nat) (P : Nat → Nat) : (lstP n P).length = n := by unfold lstP; rw [List.length_map, List.length_range]
/-- the ties in order -/
def tsS (rows : RowsT) : List Str := srt (uniq (ties rows))
theorem tsS_mem {rows : RowsT} {t : Str} : t ∈ tsS rows ↔ t ∈ ties rows := srt_mem.trans mem_uniqT
theorem tsS_nd (rows : RowsT) : (tsS rows).Nodup := (srt_perm _).nodup_iff.mpr (uniq_props _).1
theorem tsS_len (rows : RowsT) : (tsS rows).length = (uniq (ties rows)).length := srt_len _
theorem tks_perm {rows : RowsT} (two : Twice rows) {ts : List Str} (nd : ts.Nodup) (h : ∀ t, t ∈ ts ↔ t ∈ ties rows) : (tksH rows).Perm ts := (List.perm_ext_iff_of_nodup (grp_keys _).1 nd).mpr fun t => (tksH_mem two).trans (h t).symm
theorem nT_by {rows : RowsT} (two : Twice rows) (ne : rows ≠ []) {ts : List Str} (nd : ts.Nodup) (h : ∀ t, t ∈ ts ↔ t ∈ ties rows) : nT rows = trees rows.length (fun v => v) (ts.map (prT rows)) :=
  trees_perm (prt_id (List.length_pos_iff.mpr ne)) (esT_lt two fun t ht => (tksH_mem two).mp ht) ((tks_perm two nd h).map _)
theorem nT_S {rows : RowsT} (two : Twice rows) (ne : rows ≠ []) : nT rows = trees rows.length (fun v => v) ((tsS rows).map (prT rows)) := nT_by two ne (tsS_nd rows) fun _ => tsS_mem
end Tw
set_option Elab.async false
set_option linter.all false
set_option maxRecDepth 100000
set_option maxHeartbeats 4000000
set_option Elab.async false
set_option linter.all false
set_option maxRecDepth 100000
set_option maxHeartbeats 4000000
set_option Elab.async false
set_option linter.all false
set_option maxRecDepth 100000
set_option maxHeartbeats 4000000
set_option Elab.async false
set_option linter.all false
set_option maxRecDepth 100000
set_option maxHeartbeats 4000000
namespace Tw
open PySem PySem.Spec L2 TL
open PyProof.Rows hiding St
section
variable {G : Gb} {B : Hp} {E : XK} {ρ : Evr} {Ω S R : Type} {post : Hp → Ω → Ends → Prop} {EX : S → Evr} {rest t1 t2 : TS} {α : Type} [Rp α] {te : TE}
def two {α : Type} : List α → Option (α × α)
  | [a, b] => some (a, b)
  | _ => none
end
end Tw
set_option Elab.async false
set_option linter.all false
set_option maxRecDepth 100000
set_option maxHeartbeats 4000000
set_option Elab.async false
set_option linter.all false
set_option maxRecDepth 100000
set_option maxHeartbeats 4000000
set_option Elab.async false
set_option linter.all false
set_option maxRecDepth 100000
set_option maxHeartbeats 4000000
namespace Tw
open PySem PySem.Spec L2 TL
open PyProof.Rows hiding St
/-- v is a tuple of a text and a whole number -/
def IsSI (h : Heap) (v : Value) (x : Str × Int) : Prop := ∃ a o t u n, v = .ref a ∧ h.get? a = some o ∧ o.cls = .type "tuple" ∧ o.data = .seq #[.str x.1 t, .int x.2 u] n
theorem IsSI.keeps {h h' : Heap} {v : Value} {x : Str × Int} (p : IsSI h v x) (k : ∀ b o, h.get? b = some o → o.cls = .type "tuple" → h'.get? b = some o) : IsSI h' v x := by
  obtain ⟨a, o, t, u, n, e, g, c, d⟩ := p
  exact ⟨a, o, t, u, n, e, k _ _ g c, c, d⟩
end Tw
set_option Elab.async false
set_option linter.all false
set_option maxRecDepth 100000
set_option maxHeartbeats 4000000
namespace Tw
open PySem PySem.Spec L2 TL
open PyProof.Rows hiding St
/-- rows that may be a net -/
structure NetV (rows : RowsT) : Prop extends NetT rows where
  few : rows.length < 64
  nmp : ∀ n ∈ rows.map (·.1), isNm n = true
  nmt : ∀ t ∈ ties rows, isNm t = true
theorem NetV.pos {rows : RowsT} (V : NetV rows) : 0 < rows.length := List.length_pos_iff.mpr V.ne
end Tw
set_option Elab.async false
set_option linter.all false
set_option maxRecDepth 100000
set_option maxHeartbeats 4000000
set_option Elab.async false
set_option linter.all false
set_option maxRecDepth 100000
set_option maxHeartbeats 4000000
set_option Elab.async false
set_option linter.all false
set_option maxRecDepth 100000
set_option maxHeartbeats 4000000
set_option Elab.async false
set_option linter.all false
set_option maxRecDepth 100000
set_option maxHeartbeats 4000000
set_option Elab.async false
set_option linter.all false
set_option maxRecDepth 100000
set_option maxHeartbeats 4000000
set_option Elab.async false
set_option linter.all false
set_option maxRecDepth 100000
set_option maxHeartbeats 4000000
namespace Tw
open PySem PySem.Spec L2 TL
open PyProof.Rows hiding St
abbrev WE := NE × Bool
end Tw
set_option Elab.async false
set_option linter.all false
set_option maxRecDepth 100000
set_option maxHeartbeats 4000000
namespace Tw
open PySem PySem.Spec L2 TL
open PyProof.Rows hiding St
structure PlI (rows : RowsT) (P : List NE) (d : List ((Str × Int) × (Int × Int))) : Prop where
  get : ∀ e ∈ P, dget d (nE rows e) = some (cI e)
  len : d.length ≤ P.length
theorem PlI.put {rows : RowsT} (nd : (rows.map (·.1)).Nodup) {P : List NE} {d : List ((Str × Int) × (Int × Int))} (I : PlI rows P d) (hP : ∀ e ∈ P, e ∈ allE rows) {x : NE} (hx : x ∈ allE rows) : PlI rows (P ++ [x]) (dput d (nE rows x) (cI x)) := by
  refine ⟨fun e he => ?_, ?_⟩
  · rw [dget_dput]
    rcases List.mem_append.mp he with w | w
    · by_cases z : x = e
      · rw [if_pos (by rw [z]), z]
      · rw [if_neg (fun q => z (nE_inj nd hx (hP e w) q))]
        exact I.get e w
    · rw [List.mem_singleton.mp w, if_pos rfl]
  · have := dput_len d (nE rows x) (cI x)
    have := I.len
    rw [List.length_append, List.length_singleton]
    omega
end Tw
set_option Elab.async false
set_option linter.all false
set_option maxRecDepth 100000
set_option maxHeartbeats 4000000
set_option Elab.async false
set_option linter.all false
set_option maxRecDepth 100000
set_option maxHeartbeats 4000000
set_option Elab.async false
set_option linter.all false
set_option maxRecDepth 100000
set_option maxHeartbeats 4000000
set_option Elab.async false
set_option linter.all false
set_option maxRecDepth 100000
set_option maxHeartbeats 4000000
namespace Tw
open PySem PySem.Spec L2 TL
open PyProof.Rows hiding St
variable {rows : RowsT}
abbrev RchA (rows : RowsT) (v : Nat) : Prop := Rch (outC rows fun _ => true) 0 v
structure HgI (rows : RowsT) (ex : Nat → Prop) (left : List Int) (d : List (Int × Bool)) : Prop where
  nd : (d.map (·.1)).Nodup
  kr : ∀ k ∈ d.map (·.1), ∃ v, k = nI v ∧ v < rows.length ∧ RchA rows v
  z : nI 0 ∈ d.map (·.1)
  lf : ∀ k ∈ left, k ∈ d.map (·.1)
  ll : left.length ≤ d.length
  cl : ∀ v, nI v ∈ d.map (·.1) → nI v ∉ left → ¬ ex v → ∀ t ∈ rowT rows v, ∀ w, w < rows.length → t ∈ rowT rows w → nI w ∈ d.map (·.1)
theorem HgI.len {ex : Nat → Prop} {left : List Int} {d : List (Int × Bool)} (I : HgI rows ex left d) : d.length ≤ rows.length := by
  have := nodup_le I.nd (l := (List.range rows.length).map nI) fun k hk => by
    obtain ⟨v, rfl, hv, _⟩ := I.kr k hk
    exact List.mem_map.mpr ⟨v, List.mem_range.mpr hv, rfl⟩
  simpa using this
end Tw
set_option Elab.async false
set_option linter.all false
set_option maxRecDepth 100000
set_option maxHeartbeats 4000000
namespace Tw
open PySem PySem.Spec L2 TL
open PyProof.Rows hiding St
variable {rows : RowsT}
theorem pair_map' (ts : List Str) : (ts.map fun t => (t, prT rows t)).map (·.1) = ts ∧ (ts.map fun t => (t, prT rows t)).map (·.2) = ts.map (prT rows) := by
  rw [List.map_map, List.map_map]
  exact ⟨List.map_id' ts, rfl⟩
theorem flat_row {f : Nat → List NE} (hf : ∀ r, ∀ e ∈ f r, e.1 = r) (w : Nat) : ∀ n, ((List.range n).flatMap f).filter (fun e => decide (e.1 = w)) = if w < n then f w else []
  | 0 => by simp
  | n + 1 => by
    rw [List.range_succ, List.flatMap_append, List.filter_append, flat_row hf w n]
    simp only [List.flatMap_cons, List.flatMap_nil, List.append_nil]
    by_cases q : n = w
    · subst q
      rw [if_neg (Nat.lt_irrefl _), if_pos (Nat.lt_succ_self _), List.nil_append]
      exact List.filter_eq_self.mpr fun e he => decide_eq_true (hf _ e he)
    · rw [List.filter_eq_nil_iff.mpr fun e he z => q ((hf _ e he).symm.trans (of_decide_eq_true z)), List.append_nil]
      by_cases z : w < n
      · rw [if_pos z, if_pos (by omega)]
      · rw [if_neg z, if_neg (by omega)]
theorem cnt_row (u : Str) {w : Nat} (hw : w < rows.length) : (rowT rows w).count u = ((seatL rows u).filter fun e => decide (e.1 = w)).length := by
  unfold seatL
  rw [List.filter_filter]
  have e1 : (allE rows).filter (fun e => decide (e.1 = w) && decide (tie? rows e = some u)) = ((allE rows).filter fun e => decide (e.1 = w)).filter fun e => decide (tie? rows e = some u) := by
    rw [List.filter_filter]
    exact List.filter_congr fun e _ => Bool.and_comm _ _
  rw [e1]
  unfold allE
  rw [flat_row (fun r e he => by obtain ⟨p, _, rfl⟩ := List.mem_map.mp he; rfl) w, if_pos hw, ← List.countP_eq_length_filter, List.countP_map]
  have e2 : List.countP ((fun e => decide (tie? rows e = some u)) ∘ fun p => (w, p)) (List.range (rowT rows w).length) = ((List.range (rowT rows w).length).map fun i => (rowT rows w)[i]?).countP fun o => decide (o = some u) := by
    rw [List.countP_map]
    rfl
  rw [e2, map_get, List.countP_map, List.count]
  congr 1
  funext v
  show (v == u) = decide (some v = some u)
  by_cases e : v = u <;> simp [e]
theorem prT_cnt (two : Twice rows) {u : Str} (hu : u ∈ ties rows) {w : Nat} (hw : w < rows.length) : (rowT rows w).count u = (if (prT rows u).1 = w then 1 else 0) + if (prT rows u).2 = w then 1 else 0 := by
  rw [cnt_row u hw, (seatA_of two hu).2]
  show (List.filter _ [seatA rows u, mate rows (seatA rows u)]).length = (if (seatA rows u).1 = w then 1 else 0) + if (mate rows (seatA rows u)).1 = w then 1 else 0
  by_cases h1 : (seatA rows u).1 = w <;> by_cases h2 : (mate rows (seatA rows u)).1 = w <;> simp [h1, h2]
theorem pr_arith {n p q i j : Nat} (hp : p < n) (hq : q < n) (hi : i < n) (hj : j < n) (h : ∀ w, w < n → ((if p = w then 1 else 0) + if q = w then 1 else 0) = (if i = w then 1 else 0) + if j = w then 1 else 0) : (p, q) = (i, j) ∨ (p, q) = (j, i) := by
  have h1 := h p hp
  have h2 := h q hq
  have h3 := h i hi
  have h4 := h j hj
  rw [Prod.mk.injEq, Prod.mk.injEq]
  clear h
  by_cases a : p = i
  · subst a
    by_cases b : q = j
    · exact .inl ⟨rfl, b⟩
    · by_cases c : p = q
      · subst c
        rw [if_pos rfl, if_neg (show ¬ j = p from fun z => b z.symm)] at h1
        omega
      · rw [if_neg c, if_pos rfl, if_neg (show ¬ j = q from fun z => b z.symm)] at h2
        omega
  · by_cases b : p = j
    · subst b
      by_cases c : q = i
      · exact .inr ⟨rfl, c⟩
      · rw [if_neg a, if_neg c, if_pos rfl] at h3
        omega
    · rw [if_pos rfl, if_neg (show ¬ i = p from fun z => a z.symm), if_neg (show ¬ j = p from fun z => b z.symm)] at h1
      omega
theorem prT_by (two : Twice rows) {u : Str} (hu : u ∈ ties rows) {i j : Nat} (hi : i < rows.length) (hj : j < rows.length) (h : ∀ w, w < rows.length → (rowT rows w).count u = (if i = w then 1 else 0) + if j = w then 1 else 0) : prT rows u = (i, j) ∨ prT rows u = (j, i) := by
  obtain ⟨h1, h2⟩ := prT_lt two hu
  exact pr_arith h1 h2 hi hj fun w hw => (prT_cnt two hu hw).symm.trans (h w hw)
def HangN (rows : RowsT) : Prop := ∀ f : Nat → Bool, (∀ t ∈ ties rows, f (prT rows t).1 = f (prT rows t).2) → ∀ v, v < rows.length → f v = f 0
theorem prT_row (two : Twice rows) {t : Str} (ht : t ∈ ties rows) : t ∈ rowT rows (prT rows t).1 ∧ t ∈ rowT rows (prT rows t).2 := by
  obtain ⟨h1, h2⟩ := prT_lt two ht
  have c1 := prT_cnt two ht h1
  have c2 := prT_cnt two ht h2
  rw [if_pos rfl] at c1
  rw [if_pos (c := (prT rows t).2 = (prT rows t).2) rfl] at c2
  exact ⟨List.count_pos_iff.mp (by omega), List.count_pos_iff.mp (by omega)⟩
theorem mem_pnm {x : Str × List Str} (hx : x ∈ rows) : ∃ v, v < rows.length ∧ rows[v]? = some x ∧ x.1 = pnm rows v := by
  obtain ⟨v, hv⟩ := List.mem_iff_getElem?.mp hx
  exact ⟨v, (List.getElem?_eq_some_iff.mp hv).1, hv, (pnm_at hv).symm⟩
theorem hang_N (P : NetP rows) : Hang rows ↔ HangN rows := by
  constructor
  · intro h f hf v hv
    have pos : 0 < rows.length := List.length_pos_iff.mpr P.ne
    have := h (fun n => ∃ w, w < rows.length ∧ pnm rows w = n ∧ f w = f 0) (fun x hx y hy t tx ty ⟨w, hw, ew, fw⟩ => by
      obtain ⟨i, hi, gi, ei⟩ := mem_pnm hx
      obtain ⟨j, hj, gj, ej⟩ := mem_pnm hy
      have : w = i := pnm_inj P.nd hw hi (by rw [ew, ei])
      subst this
      obtain ⟨hm, a1⟩ := tie_rows P.two gi tx
      obtain ⟨_, a2⟩ := tie_rows P.two gj ty
      have fe := hf t hm
      refine ⟨j, hj, ej.symm, ?_⟩
      rcases a1 with a1 | a1 <;> rcases a2 with a2 | a2
      · rw [a2, ← a1]; exact fw
      · rw [a2, ← fe, ← a1]; exact fw
      · rw [a2, fe, ← a1]; exact fw
      · rw [a2, ← a1]; exact fw) ⟨rows[0], List.getElem_mem pos, 0, pos, pnm_at (List.getElem?_eq_getElem pos), rfl⟩ rows[v] (List.getElem_mem hv)
    obtain ⟨w, hw, ew, fw⟩ := this
    have : w = v := pnm_inj P.nd hw hv (by rw [ew, pnm_at (List.getElem?_eq_getElem hv)])
    rw [← this]
    exact fw
  · intro h S hS ⟨x, hx, sx⟩ y hy
    have key := h (fun v => @decide (S (pnm rows v)) (Classical.propDecidable _)) fun t ht => by
      obtain ⟨r1, r2⟩ := prT_row P.two ht
      obtain ⟨h1, h2⟩ := prT_lt P.two ht
      have g1 := List.getElem?_eq_getElem h1
      have g2 := List.getElem?_eq_getElem h2
      rw [row_some g1] at r1
      rw [row_some g2] at r2
      have p1 := pnm_at g1
      have p2 := pnm_at g2
      refine decide_eq_decide.mpr ⟨fun z => ?_, fun z => ?_⟩
      · rw [p2]; exact hS _ (List.getElem_mem h1) _ (List.getElem_mem h2) t r1 r2 (by rw [← p1]; exact z)
      · rw [p1]; exact hS _ (List.getElem_mem h2) _ (List.getElem_mem h1) t r2 r1 (by rw [← p2]; exact z)
    obtain ⟨i, hi, _, ei⟩ := mem_pnm hx
    obtain ⟨j, hj, _, ej⟩ := mem_pnm hy
    have := (key i hi).trans (key j hj).symm
    rw [ej]
    rw [ei] at sx
    exact @of_decide_eq_true _ (Classical.propDecidable _) (this.symm.trans (@decide_eq_true _ (Classical.propDecidable _) sx))
end Tw
set_option Elab.async false
set_option linter.all false
set_option maxRecDepth 100000
set_option maxHeartbeats 4000000
set_option Elab.async false
set_option linter.all false
set_option maxRecDepth 100000
set_option maxHeartbeats 4000000
set_option Elab.async false
set_option linter.all false
set_option maxRecDepth 100000
set_option maxHeartbeats 4000000
namespace Tw
open PySem PySem.Spec L2 TL
open PyProof.Rows hiding St
variable {rows : RowsT}
/-- the rows around a tie's two points -/
structure Hold (rows : RowsT) (t : Str) (A B C : RowsT) (s g : Str × List Str) : Prop where
  eq : rows = A ++ s :: (B ++ g :: C)
  nA : ∀ x ∈ A, t ∉ x.2
  nB : ∀ x ∈ B, t ∉ x.2
  nC : ∀ x ∈ C, t ∉ x.2
  ms : t ∈ s.2
  mg : t ∈ g.2
variable {t : Str} {A B C : RowsT} {s g : Str × List Str}
theorem Hold.len (H : Hold rows t A B C s g) : rows.length = A.length + 1 + B.length + 1 + C.length := by
  rw [H.eq]
  simp
  omega
theorem Hold.lt (H : Hold rows t A B C s g) : A.length + 1 + B.length < rows.length := by have := H.len; omega
end Tw
set_option Elab.async false
set_option linter.all false
set_option maxRecDepth 100000
set_option maxHeartbeats 4000000
namespace Tw
open PySem PySem.Spec L2 TL
open PyProof.Rows hiding St
variable {rows : RowsT}
/-- no tree where the ties do not reach -/
theorem trees_none {α : Type} [DecidableEq α] {n : Nat} {es : List (α × Nat × Nat)} {P : Nat → Nat} (h0 : 0 < n) (nd : (es.map (·.1)).Nodup) (he : ∀ e ∈ es, e.2.1 < n ∧ e.2.2 < n) {f : Nat → Bool} (hf : Fac n P f) (hs : ∀ e ∈ es, f e.2.1 = f e.2.2) {v : Nat} (hv : v < n) (ne : f v ≠ f 0) : trees n P (es.map (·.2)) = 0 := by
  rw [← treeL_len]
  match h : treeL n P es with
  | [] => rfl
  | T :: r =>
    have hT : T ∈ treeL n P es := by rw [h]; exact List.mem_cons_self
    have e := treeL_filter nd hT
    rw [e] at hT
    exact absurd (((okS_iff h0 nd he).mp ((treeL_mem nd).mp hT)).1 f hf (fun d hd _ => hs d hd) v hv) ne
end Tw
set_option Elab.async false
set_option linter.all false
set_option maxRecDepth 100000
set_option maxHeartbeats 4000000
set_option Elab.async false
set_option linter.all false
set_option maxRecDepth 100000
set_option maxHeartbeats 4000000
set_option Elab.async false
set_option linter.all false
set_option maxRecDepth 100000
set_option maxHeartbeats 4000000
set_option Elab.async false
set_option linter.all false
set_option maxRecDepth 100000
set_option maxHeartbeats 4000000
set_option Elab.async false
set_option linter.all false
set_option maxRecDepth 100000
set_option maxHeartbeats 4000000
namespace Tw
open PySem PySem.Spec L2 TL
open PyProof.Rows hiding St
section
variable {rows : RowsT}
theorem enu_get {α : Type} {l : List α} {k : Nat} {x : α} (h : l[k]? = some x) : (enu l)[k]? = some ((k : Int), x) := by
  have hk := (List.getElem?_eq_some_iff.mp h).1
  have h2 : (enu l)[k]? = some ((enu l)[k]'(by rw [enu_len]; exact hk)) := List.getElem?_eq_getElem _
  obtain ⟨a, b⟩ := enu_at h2
  rw [h2]
  congr 1
  refine Prod.ext b ?_
  rw [h] at a
  exact (Option.some.inj a).symm
end
end Tw
set_option Elab.async false
set_option linter.all false
set_option maxRecDepth 100000
set_option maxHeartbeats 4000000
namespace Tw
open PySem PySem.Spec L2 TL
open PyProof.Rows hiding St
theorem lst_made {n : Nat} (P : Nat → Nat) {x y : Nat} (hn : n ≤ 1000) (hx : x < n) (hy : y < n) : F_made_one (lstP n P) (x : Int) (y : Int) = .ok (lstP n (mrgP P (P x) (P y))) := by
  refine M.T_is ?_
  unfold F_made_one
  refine M.T_b (M.T_ok (M.T_b ?_))
  refine M.T_up (α := Int) (g := fun v => ((P v : Nat) : Int)) (fun k s => s = (List.range k).map fun v => ((mrgP P (P x) (P y) v : Nat) : Int)) rfl (fun k s hk e => ?_) fun s e => M.T_ok e
  subst e
  have sl : ((List.range k).map fun v => ((mrgP P (P x) (P y) v : Nat) : Int)).length < sizeLine := line_lt (by simp; omega)
  rw [List.range_succ, List.map_append]
  refine M.T_b (M.T_b (M.T_get (lstP_at P hy) (M.T_ok (M.T_ite (fun z => ?_) fun z => ?_))))
  · refine M.T_b (M.T_get (lstP_at P hx) (M.T_chk sl (M.T_ok ?_)))
    show _ = _ ++ [((mrgP P (P x) (P y) k : Nat) : Int)]
    unfold mrgP
    rw [if_pos (by have := of_decide_eq_true z; omega)]
  · refine M.T_b (M.T_ok (M.T_chk sl (M.T_ok ?_)))
    show _ = _ ++ [((mrgP P (P x) (P y) k : Nat) : Int)]
    unfold mrgP
    rw [if_neg (fun w => z (decide_eq_true (by rw [w])))]
theorem lstP_inj {n : Nat} {P Q : Nat → Nat} : lstP n P = lstP n Q ↔ ∀ v, v < n → P v = Q v := by
  constructor
  · intro h v hv
    have := congrArg (fun l : List Int => l[v]?) h
    simp only [lstP, List.getElem?_map, List.getElem?_range hv, Option.map_some] at this
    have := Option.some.inj this
    omega
  · intro h
    unfold lstP
    exact List.map_congr_left fun v hv => by rw [h v (List.mem_range.mp hv)]
/-- whether two ways to part the points, laid over one another, leave one part -/
def OneP (n : Nat) (P Q : Nat → Nat) : Prop := ∀ f, Fac n P f → Fac n Q f → ∀ v, v < n → f v = f 0
theorem hang_T {n : Nat} (h0 : 0 < n) (hn : n ≤ 1000) (P Q : Nat → Nat) (hQ : ∀ v, v < n → Q v < n) : (F_hang_together (lstP n P) (lstP n Q)).T fun b => b = true ↔ OneP n P Q := by
  unfold F_hang_together
  refine M.T_b (M.T_ok (M.T_b ?_))
  have enuE : enu (lstP n Q) = (List.range n).map fun (v : Nat) => ((v : Int), ((Q v : Nat) : Int)) := by
    refine List.ext_getElem? fun v => ?_
    rw [List.getElem?_map]
    by_cases h : v < n
    · rw [List.getElem?_range h, enu_get (x := ((Q v : Nat) : Int)) (by unfold lstP; rw [List.getElem?_map, List.getElem?_range h]; rfl)]
      rfl
    · rw [List.getElem?_eq_none (by rw [enu_len, lstP_len]; omega), List.getElem?_eq_none (by simp; omega)]
      rfl
  rw [enuE]
  refine M.T_up (fun k (s : Dk Int Int × List Int) => ∃ R : Nat → Nat, s.2 = lstP n R ∧ (∀ f, Fac n R f ↔ Fac n P f ∧ ∀ v w, v < k → w < k → Q v = Q w → f v = f w) ∧ (∀ q : Nat, q < n → dget s.1.l (q : Int) = none → ∀ v, v < k → Q v ≠ q) ∧ (∀ (q : Nat) (j : Int), dget s.1.l (q : Int) = some j → ∃ v, v < k ∧ Q v = q ∧ j = (v : Int)) ∧ s.1.l.length ≤ k) ⟨P, rfl, fun f => ⟨fun h => ⟨h, fun v w hv => absurd hv (Nat.not_lt_zero _)⟩, fun h => h.1⟩, fun q hq _ v hv => absurd hv (Nat.not_lt_zero _), fun q j h => (by cases h), Nat.le_refl _⟩ (fun k s hk ⟨R, e1, e2, e3, e4, e5⟩ => ?_) fun s ⟨R, e1, e2, _⟩ => ?_
  · have hq := hQ k hk
    obtain ⟨d, ps⟩ := s
    simp only at e1 e3 e4 e5
    subst e1
    cases hd : dget d.l ((Q k : Nat) : Int) with
    | none =>
      have nk := e3 (Q k) hq hd
      refine M.T_ite (fun z => absurd z (by decide)) fun _ => M.T_b (M.T_ok (M.T_b (M.T_ok (M.T_chk (line_lt (by omega)) (M.T_ok ⟨R, rfl, fun f => ?_, fun q hq' hn' v hv => ?_, fun q j hj => ?_, ?_⟩)))))
      · rw [e2 f]
        refine and_congr_right fun _ => ⟨fun h v w hv hw e => ?_, fun h v w hv hw e => h v w (by omega) (by omega) e⟩
        by_cases a : v < k <;> by_cases b : w < k
        · exact h v w a b e
        · rw [show w = k by omega] at e ⊢; exact absurd e (nk v a)
        · rw [show v = k by omega] at e ⊢; exact absurd e.symm (nk w b)
        · rw [show v = k by omega, show w = k by omega]
      · rw [dget_dput] at hn'
        by_cases c : ((Q k : Nat) : Int) = (q : Int)
        · rw [if_pos c] at hn'; cases hn'
        · rw [if_neg c] at hn'
          by_cases a : v < k
          · exact e3 q hq' hn' v a
          · rw [show v = k by omega]; exact fun w => c (by rw [w])
      · rw [dget_dput] at hj
        by_cases c : ((Q k : Nat) : Int) = (q : Int)
        · rw [if_pos c] at hj
          exact ⟨k, by omega, by omega, (Option.some.inj hj).symm⟩
        · rw [if_neg c] at hj
          obtain ⟨v, v1, v2, v3⟩ := e4 q j hj
          exact ⟨v, by omega, v2, v3⟩
      · have := dput_len d.l ((Q k : Nat) : Int) ((k : Nat) : Int)
        show (dput d.l ((Q k : Nat) : Int) ((k : Nat) : Int)).length ≤ k + 1
        omega
    | some j =>
      obtain ⟨v0, v1, v2, rfl⟩ := e4 (Q k) j hd
      refine M.T_ite (fun _ => M.T_b (M.T_b (M.T_get rfl ?_))) fun z => absurd rfl z
      show (M.cl (F_made_one (lstP n R) (v0 : Int) (k : Int))).T _
      rw [lst_made R hn (by omega) hk]
      refine M.T_cl (M.T_ok (M.T_ok ⟨mrgP R (R v0) (R k), rfl, fun f => ?_, fun q hq' hn' v hv => ?_, fun q j hj => ?_, Nat.le_succ_of_le e5⟩))
      · rw [fac_mrg (by omega) hk, e2 f]
        constructor
        · rintro ⟨⟨h1, h2⟩, h3⟩
          refine ⟨h1, fun v w hv hw e => ?_⟩
          have r : ∀ v, v < k + 1 → Q v = Q k → f v = f v0 := fun v hv e => by
            by_cases a : v < k
            · exact h2 v v0 a v1 (e.trans v2.symm)
            · rw [show v = k by omega]; exact h3.symm
          by_cases a : v < k <;> by_cases b : w < k
          · exact h2 v w a b e
          · have ew : w = k := by omega
            rw [r v hv (by rw [e, ew]), r w hw (by rw [ew])]
          · have ev : v = k := by omega
            rw [r v hv (by rw [ev]), r w hw (by rw [← e, ev])]
          · rw [show v = k by omega, show w = k by omega]
        · rintro ⟨h1, h2⟩
          exact ⟨⟨h1, fun v w hv hw e => h2 v w (by omega) (by omega) e⟩, h2 v0 k (by omega) (by omega) v2⟩
      · by_cases a : v < k
        · exact e3 q hq' hn' v a
        · rw [show v = k by omega]
          intro w
          rw [← w, hd] at hn'
          cases hn'
      · obtain ⟨v, w1, w2, w3⟩ := e4 q j hj
        exact ⟨v, by omega, w2, w3⟩
  · obtain ⟨d, ps⟩ := s
    simp only at e1
    subst e1
    refine M.T_b (M.T_chk (line_of (by rw [lstP_len]; omega)) ?_)
    have z := lstP_at R h0
    rw [M.lc_map (f := fun _ => ((R 0 : Nat) : Int)) (lstP n R) fun _ _ => by
      show M.get (atI (lstP n R) (0 : Int)) = _
      rw [show atI (lstP n R) (0 : Int) = some ((R 0 : Nat) : Int) from z]
      rfl]
    have e : (lstP n R).map (fun _ => ((R 0 : Nat) : Int)) = lstP n fun _ => R 0 := by
      unfold lstP
      rw [List.map_map]
      rfl
    rw [e]
    refine M.T_ok (M.T_chk ⟨fun _ _ => trivial, fun _ _ => trivial⟩ (M.T_ok ?_))
    rw [decide_eq_true_iff, lstP_inj]
    constructor
    · intro h f h1 h2 v hv
      exact ((e2 f).mpr ⟨h1, fun v w hv hw e => h2 v w hv hw e⟩) v 0 hv h0 (h v hv)
    · intro h v hv
      have f1 := (e2 fun w => decide (R w = R 0)).mp fun v w _ _ e => by simp only [e]
      have := h _ f1.1 (fun v w hv hw e => f1.2 v w hv hw e) v hv
      simpa using this
/-- what the ties from a place on join -/
def latP : List (Nat × Nat) → Nat → Nat
  | [] => fun v => v
  | e :: es => mrgP (latP es) (latP es e.1) (latP es e.2)
theorem latP_fac {n : Nat} {f : Nat → Bool} : ∀ {es : List (Nat × Nat)}, (∀ e ∈ es, e.1 < n ∧ e.2 < n) → (Fac n (latP es) f ↔ ∀ e ∈ es, f e.1 = f e.2)
  | [], _ => ⟨fun _ e he => by (cases he), fun _ v w _ _ e => by rw [show v = w from e]⟩
  | e :: es, h => by
    obtain ⟨h1, h2⟩ := h e List.mem_cons_self
    show Fac n (mrgP (latP es) (latP es e.1) (latP es e.2)) f ↔ _
    rw [fac_mrg h1 h2, latP_fac fun d hd => h d (List.mem_cons_of_mem _ hd)]
    constructor
    · rintro ⟨a, b⟩ d hd
      rcases List.mem_cons.mp hd with z | z
      · subst z; exact b
      · exact a d z
    · exact fun a => ⟨fun d hd => a d (List.mem_cons_of_mem _ hd), a e List.mem_cons_self⟩
theorem latP_lt {n : Nat} : ∀ {es : List (Nat × Nat)}, (∀ e ∈ es, e.1 < n ∧ e.2 < n) → ∀ v, v < n → latP es v < n
  | [], _, v, hv => hv
  | e :: es, h, v, hv => by
    obtain ⟨h1, h2⟩ := h e List.mem_cons_self
    have ih := latP_lt fun d hd => h d (List.mem_cons_of_mem _ hd)
    show (if latP es v = latP es e.2 then latP es e.1 else latP es v) < n
    split
    · exact ih _ h1
    · exact ih _ hv
def pI (e : Nat × Nat) : Int × Int := ((e.1 : Int), (e.2 : Int))
theorem from_ok {n : Nat} (hn : n ≤ 1000) {es : List (Nat × Nat)} (hl : es.length ≤ 1000) (he : ∀ e ∈ es, e.1 < n ∧ e.2 < n) : F_parts_from (n : Int) (es.map pI) = .ok ((List.range (es.length + 1)).map fun k => lstP n (latP (es.drop k))) := by
  refine M.T_is ?_
  unfold F_parts_from
  refine M.T_b (M.T_b (M.T_b (M.T_chk ⟨by omega, by omega⟩ (M.T_ok (M.T_ok (M.T_chk (line_of (show 1 ≤ 100000 by decide)) (M.T_ok (M.T_b ?_))))))))
  have er : (es.map pI).reverse = (List.range es.length).map fun k => pI (es.getD (es.length - 1 - k) (0, 0)) := by
    refine List.ext_getElem? fun k => ?_
    rw [List.getElem?_map]
    by_cases h : k < es.length
    · rw [List.getElem?_reverse (by simpa using h), List.getElem?_map, List.length_map, List.getElem?_range h, List.getElem?_eq_getElem (by omega)]
      simp [show es.length - 1 - k < es.length by omega]
    · rw [List.getElem?_eq_none (by simp; omega), List.getElem?_eq_none (by simp; omega)]
      rfl
  rw [er]
  refine M.T_up (fun k (s : List (List Int)) => s = (List.range (k + 1)).map fun i => lstP n (latP (es.drop (es.length - i)))) ?_ (fun k s hk e => ?_) fun s e => M.T_ok ?_
  · rw [rng_nat]
    show [(List.range n).map _] = [lstP n (latP (es.drop (es.length - 0)))]
    rw [List.drop_of_length_le (by omega)]
    rfl
  · subst e
    have g : atI ((List.range (k + 1)).map fun i => lstP n (latP (es.drop (es.length - i)))) (-1 : Int) = some (lstP n (latP (es.drop (es.length - k)))) := by
      unfold atI ixN
      have ll : ((List.range (k + 1)).map fun i => lstP n (latP (es.drop (es.length - i)))).length = k + 1 := by simp
      rw [if_neg (by omega), ll, if_pos (by omega), show ((-1 : Int) + ((k + 1 : Nat) : Int)).toNat = k by omega]
      show ((List.range (k + 1)).map fun i => lstP n (latP (es.drop (es.length - i))))[k]? = _
      rw [List.getElem?_map, List.getElem?_range (by omega)]
      rfl
    obtain ⟨e, ee⟩ : ∃ e, es[es.length - 1 - k]? = some e := ⟨_, List.getElem?_eq_getElem (by omega)⟩
    have eg : es.getD (es.length - 1 - k) (0, 0) = e := by rw [List.getD_eq_getElem?_getD, ee]; rfl
    obtain ⟨h1, h2⟩ := he e (List.mem_of_getElem? ee)
    refine M.T_b (M.T_b (M.T_get g ?_))
    rw [eg]
    show (M.cl (F_made_one (lstP n (latP (es.drop (es.length - k)))) (e.1 : Int) (e.2 : Int))).T _
    rw [lst_made _ hn h1 h2]
    refine M.T_cl (M.T_ok (M.T_chk (line_lt (by simp; omega)) (M.T_ok ?_)))
    rw [List.range_succ (n := k + 1), List.map_append]
    congr 1
    show [_] = [lstP n (latP (es.drop (es.length - (k + 1))))]
    have ed : es.drop (es.length - (k + 1)) = e :: es.drop (es.length - k) := by
      rw [show es.length - (k + 1) = es.length - 1 - k by omega, List.drop_eq_getElem_cons (by omega), show es.length - 1 - k + 1 = es.length - k by omega]
      congr 1
      rw [List.getElem?_eq_getElem (by omega)] at ee
      exact Option.some.inj ee
    rw [ed]
    rfl
  · rw [e]
    refine List.ext_getElem? fun k => ?_
    by_cases h : k < es.length + 1
    · rw [List.getElem?_reverse (by simpa using h), List.getElem?_map, List.getElem?_map, List.getElem?_range h, List.length_map, List.length_range, List.getElem?_range (by omega)]
      simp only [Option.map_some]
      rw [show es.length - (es.length + 1 - 1 - k) = k by omega]
    · rw [List.getElem?_eq_none (by simp; omega), List.getElem?_eq_none (by simp; omega)]
theorem idx_names {rows : RowsT} (R : NetR rows) {v : Nat} (hv : v < rows.length) : idxS (rows.map (·.1)) (pnm rows v) = some v := by
  have g := List.getElem?_eq_getElem hv
  have hm : pnm rows v ∈ rows.map (·.1) := by rw [pnm_at g]; exact List.mem_map.mpr ⟨_, List.getElem_mem hv, rfl⟩
  obtain ⟨j, hj⟩ := idxS_mem hm
  have h1 := (idxS_spec hj).1
  have hj' : j < rows.length := by have := (List.getElem?_eq_some_iff.mp h1).1; simpa using this
  rw [List.getElem?_map, List.getElem?_eq_getElem hj'] at h1
  have : pnm rows j = pnm rows v := by rw [pnm_at (List.getElem?_eq_getElem hj')]; exact Option.some.inj h1
  rw [hj, R.inj j v hj' hv this]
theorem pairs_ok {rows : RowsT} (R : NetR rows) (hu : (uniq (ties rows)).length < 64) : F_pairs_of rows = .ok ((tsS rows).map fun t => pI (prT rows t)) := by
  refine M.T_is ?_
  unfold F_pairs_of
  rw [points_of_ok R.sm, held_ok R.sm, ties_of_ok R.sm hu]
  refine M.T_b (M.T_cl (M.T_ok (M.T_b (M.T_cl (M.T_ok (M.T_b (M.T_ok (M.T_b (M.T_b (M.T_cl (M.T_ok ?_)))))))))))
  refine M.T_for (fun ys s => s = ys.map fun t => pI (prT rows t)) rfl (fun ys t zs s e i => ?_) fun s e => M.T_ok e
  subst i
  have ht : t ∈ ties rows := tsS_mem.mp (by show t ∈ tsS rows; rw [show tsS rows = _ from e]; simp)
  have g := held_pairZ R.two ht
  obtain ⟨r1, r2⟩ := prT_lt R.two ht
  have ysl : ys.length ≤ 64 := by
    have := congrArg List.length e
    rw [srt_len, List.length_append] at this
    omega
  refine M.T_b (M.T_b (M.T_b (M.T_b (M.T_get g (M.T_get (a := pnm rows (prT rows t).1) rfl ?_)))))
  rw [idx_names R r1]
  refine M.T_b (M.T_get rfl (M.T_ok ?_))
  refine M.T_b (M.T_b (M.T_b (M.T_get g (M.T_get (a := pnm rows (prT rows t).2) rfl ?_))))
  rw [idx_names R r2]
  refine M.T_b (M.T_get rfl (M.T_ok (M.T_ok (M.T_chk (line_lt (by rw [List.length_map]; omega)) (M.T_ok ?_)))))
  rw [List.map_append]
  rfl
/-- what is grown of one -/
noncomputable def growF (n : Nat) (Q : Nat → Nat) (t : Str) (e : Nat × Nat) (g : List Str × (Nat → Nat)) : List (List Str × (Nat → Nat)) :=
  (if g.2 e.1 = g.2 e.2 then [] else [(g.1 ++ [t], mrgP g.2 (g.2 e.1) (g.2 e.2))]) ++ @ite _ (OneP n g.2 Q) (Classical.propDecidable _) [g] []
def Ext1 (n : Nat) (es : List (Nat × Nat)) (P : Nat → Nat) : Prop := Prt n P ∧ ∀ f, Fac n P f → (∀ e ∈ es, f e.1 = f e.2) → ∀ v, v < n → f v = f 0
theorem ext_pos {n : Nat} {es : List (Nat × Nat)} {P : Nat → Nat} (he : ∀ e ∈ es, e.1 < n ∧ e.2 < n) (h : Ext1 n es P) : 0 < trees n P es :=
  trees_pos h.1 he fun f h1 h2 v hv => h.2 f (fun a b ha hb e => by rw [h1 a ha, h1 b hb, e]) h2 v hv
variable {n : Nat} {t : Str} {e : Nat × Nat} {es : List (Str × Nat × Nat)}
theorem grow_ext (he : ∀ d ∈ (t, e) :: es, d.2.1 < n ∧ d.2.2 < n) {g : List Str × (Nat → Nat)} (h : Ext1 n (((t, e) :: es).map (·.2)) g.2) : ∀ k ∈ growF n (latP (es.map (·.2))) t e g, Ext1 n (es.map (·.2)) k.2 := fun k hk => by
  obtain ⟨h1, h2⟩ := he (t, e) List.mem_cons_self
  have he' : ∀ d ∈ es.map (·.2), d.1 < n ∧ d.2 < n := fun d hd => by
    obtain ⟨c, hc, rfl⟩ := List.mem_map.mp hd
    exact he c (List.mem_cons_of_mem _ hc)
  unfold growF at hk
  rcases List.mem_append.mp hk with hk | hk
  · by_cases q : g.2 e.1 = g.2 e.2
    · rw [if_pos q] at hk; cases hk
    · rw [if_neg q] at hk
      rw [List.mem_singleton.mp hk]
      refine ⟨h.1.mrgP h1 h2 q, fun f hf hs v hv => ?_⟩
      obtain ⟨f1, f2⟩ := (fac_mrg h1 h2).mp hf
      refine h.2 f f1 (fun d hd => ?_) v hv
      rcases List.mem_cons.mp hd with z | z
      · rw [z]; exact f2
      · exact hs d z
  · split at hk
    · rename_i w
      rw [List.mem_singleton.mp hk]
      exact ⟨h.1, fun f hf hs v hv => w f hf ((latP_fac he').mpr hs) v hv⟩
    · cases hk
theorem grow_perm (he : ∀ d ∈ (t, e) :: es, d.2.1 < n ∧ d.2.2 < n) (nd : (((t, e) :: es).map (·.1)).Nodup) {g : List Str × (Nat → Nat)} (h : Ext1 n (((t, e) :: es).map (·.2)) g.2) :
    ((growF n (latP (es.map (·.2))) t e g).flatMap fun k => (treeL n k.2 es).map (k.1 ++ ·)).Perm ((treeL n g.2 ((t, e) :: es)).map (g.1 ++ ·)) := by
  have he' : ∀ d ∈ es.map (·.2), d.1 < n ∧ d.2 < n := fun d hd => by
    obtain ⟨c, hc, rfl⟩ := List.mem_map.mp hd
    exact he c (List.mem_cons_of_mem _ hc)
  unfold growF
  rw [List.flatMap_append, treeL_cons, List.map_append]
  refine List.perm_append_comm.trans (List.Perm.append ?_ ?_)
  · split
    · simp
    · rename_i w
      -- no tree without the tie
      have : treeL n g.2 es = [] := by
        obtain ⟨f, hf⟩ := Classical.not_forall.mp w
        obtain ⟨f1, hf⟩ := Classical.not_imp.mp hf
        obtain ⟨f2, hf⟩ := Classical.not_imp.mp hf
        obtain ⟨v, hf⟩ := Classical.not_forall.mp hf
        obtain ⟨hv, ne⟩ := Classical.not_imp.mp hf
        have z := trees_none (es := es) (P := g.2) h.1.pos (List.nodup_cons.mp nd).2 (fun d hd => he d (List.mem_cons_of_mem _ hd)) f1 (fun d hd => (latP_fac he').mp f2 d.2 (List.mem_map.mpr ⟨d, hd, rfl⟩)) hv ne
        rw [← treeL_len] at z
        exact List.length_eq_zero_iff.mp z
      rw [this]
      exact .refl _
  · show (List.flatMap _ (if g.2 e.1 = g.2 e.2 then [] else [(g.1 ++ [t], mrgP g.2 (g.2 e.1) (g.2 e.2))])).Perm _
    by_cases q : g.2 e.1 = g.2 e.2
    · rw [if_pos q, if_pos q]; exact .refl _
    · rw [if_neg q, if_neg q]
      simp only [List.flatMap_cons, List.flatMap_nil, List.append_nil, List.map_map]
      refine List.Perm.of_eq (List.map_congr_left fun U _ => ?_)
      show g.1 ++ [t] ++ U = g.1 ++ (t :: U)
      rw [List.append_assoc]
      rfl
/-- all that is grown behind some ties -/
noncomputable def grown (n : Nat) : List (Str × Nat × Nat) → List (List Str × (Nat → Nat)) → List (List Str × (Nat → Nat))
  | [], G => G
  | d :: es, G => grown n es (G.flatMap (growF n (latP (es.map (·.2))) d.1 d.2))
theorem grown_perm : ∀ {es : List (Str × Nat × Nat)} {G : List (List Str × (Nat → Nat))}, (∀ d ∈ es, d.2.1 < n ∧ d.2.2 < n) → (es.map (·.1)).Nodup → (∀ g ∈ G, Ext1 n (es.map (·.2)) g.2) → ((grown n es G).map (·.1)).Perm (G.flatMap fun g => (treeL n g.2 es).map (g.1 ++ ·))
  | [], G, _, _, hG => by
    show (G.map (·.1)).Perm _
    refine List.Perm.of_eq ?_
    induction G with
    | nil => rfl
    | cons g G ih =>
      rw [List.map_cons, List.flatMap_cons, ih fun k hk => hG k (List.mem_cons_of_mem _ hk)]
      have h := hG g List.mem_cons_self
      have one : (List.range n).all (fun v => decide (g.2 v = g.2 0)) = true := List.all_eq_true.mpr fun v hv => by
        have := h.2 (fun w => decide (g.2 w = g.2 0)) (fun a b _ _ e => by simp only [e]) (fun e he => by cases he) v (List.mem_range.mp hv)
        rw [this]
        exact decide_eq_true rfl
      have : treeL n g.2 ([] : List (Str × Nat × Nat)) = [[]] := if_pos one
      rw [this]
      simp
  | d :: es, G, he, nd, hG => by
    have he' : ∀ c ∈ es, c.2.1 < n ∧ c.2.2 < n := fun c hc => he c (List.mem_cons_of_mem _ hc)
    have ih := grown_perm (es := es) (G := G.flatMap (growF n (latP (es.map (·.2))) d.1 d.2)) he' (List.nodup_cons.mp nd).2 fun k hk => by
      obtain ⟨g, hg, hk⟩ := List.mem_flatMap.mp hk
      exact grow_ext (t := d.1) (e := d.2) he (hG g hg) k hk
    refine ih.trans ?_
    rw [List.flatMap_assoc]
    have : ∀ L : List (List Str × (Nat → Nat)), (∀ g ∈ L, Ext1 n ((d :: es).map (·.2)) g.2) → (L.flatMap fun g => (growF n (latP (es.map (·.2))) d.1 d.2 g).flatMap fun k => (treeL n k.2 es).map (k.1 ++ ·)).Perm (L.flatMap fun g => (treeL n g.2 (d :: es)).map (g.1 ++ ·)) := fun L => by
      induction L with
      | nil => exact fun _ => .refl _
      | cons g L ih =>
        intro h
        rw [List.flatMap_cons, List.flatMap_cons]
        exact (grow_perm (t := d.1) (e := d.2) he nd (h g List.mem_cons_self)).append (ih fun k hk => h k (List.mem_cons_of_mem _ hk))
    exact this G hG
/-- no more than there are trees -/
theorem grow_few : ∀ {es : List (Str × Nat × Nat)} {G : List (List Str × (Nat → Nat))}, (∀ d ∈ es, d.2.1 < n ∧ d.2.2 < n) → (∀ g ∈ G, Ext1 n (es.map (·.2)) g.2) → G.length ≤ (G.flatMap fun g => (treeL n g.2 es).map (g.1 ++ ·)).length := fun {es G} he hG => by
  induction G with
  | nil => exact Nat.le_refl _
  | cons g G ih =>
    rw [List.flatMap_cons, List.length_append, List.length_cons, List.length_map, treeL_len]
    have := ih fun k hk => hG k (List.mem_cons_of_mem _ hk)
    have := ext_pos (n := n) (es := es.map (·.2)) (fun e h => by obtain ⟨d, hd, rfl⟩ := List.mem_map.mp h; exact he d hd) (hG g List.mem_cons_self)
    omega
end Tw
set_option Elab.async false
set_option linter.all false
set_option maxRecDepth 100000
set_option maxHeartbeats 4000000
namespace Tw
open PySem PySem.Spec L2 TL
open PyProof.Rows hiding St
theorem Rch.trans {ε : Type} {out : Nat → List (Nat × ε)} {a b c : Nat} (h : Rch out a b) (k : Rch out b c) : Rch out a c := by
  induction k with
  | zero => exact h
  | step _ he ih => exact .step ih he
theorem outC_back {rows : RowsT} (h : Twice rows) {c : Str → Bool} {v : Nat} {e : Nat × Str} (he : e ∈ outC rows c v) : (v, e.2) ∈ outC rows c e.1 := by
  obtain ⟨p, hp, rfl, hc⟩ := mem_outC.mp he
  have hm := mate_mem h hp
  have em : tieD rows (mate rows (v, p)) = tieD rows (v, p) := by
    obtain ⟨t, ht⟩ := tie_some hp
    rw [tieD_of ht, tieD_of (mate_of h ht).1]
  refine mem_outC.mpr ⟨(mate rows (v, p)).2, hm, ?_, by rw [show ((mate rows (v, p)).1, (mate rows (v, p)).2) = mate rows (v, p) from rfl, em]; exact hc⟩
  rw [show ((mate rows (v, p)).1, (mate rows (v, p)).2) = mate rows (v, p) from rfl, mate_mate h hp, em]
theorem Rch.symm {rows : RowsT} (h : Twice rows) {c : Str → Bool} {a b : Nat} (k : Rch (outC rows c) a b) : Rch (outC rows c) b a := by
  induction k with
  | zero => exact .zero
  | step _ he ih => exact Rch.trans (.step .zero (outC_back h he)) ih
theorem Rch.mono {rows : RowsT} {c c' : Str → Bool} (h : ∀ t, c t = true → c' t = true) {a b : Nat} (k : Rch (outC rows c) a b) : Rch (outC rows c') a b := by
  induction k with
  | zero => exact .zero
  | step _ he ih =>
    obtain ⟨p, hp, rfl, hc⟩ := mem_outC.mp he
    exact .step ih (mem_outC.mpr ⟨p, hp, rfl, h _ hc⟩)
def imgs (n : Nat) (f : Nat → Nat) : List Nat := uniq ((List.range n).map f)
theorem mem_imgs {n : Nat} {f : Nat → Nat} {x : Nat} : x ∈ imgs n f ↔ ∃ r, r < n ∧ f r = x := by
  unfold imgs
  rw [(uniq_props _).2.1, List.mem_map]
  exact ⟨fun ⟨r, h, e⟩ => ⟨r, List.mem_range.mp h, e⟩, fun ⟨r, h, e⟩ => ⟨r, List.mem_range.mpr h, e⟩⟩
structure LmI (rows : RowsT) (left tree : List Str) (f : Nat → Nat) : Prop where
  ln : left.Nodup
  lt : ∀ t ∈ left, t ∈ ties rows
  tn : tree.Nodup
  tt : ∀ t ∈ tree, t ∈ ties rows ∧ t ∉ left
  con : ∀ r s, r < rows.length → s < rows.length → f r = f s → Rch (outC rows (inB tree)) r s
  same : ∀ e ∈ allE rows, tieD rows e ∉ left → f e.1 = f (mate rows e).1
  cnt : (imgs rows.length f).length + tree.length = rows.length
  fl : ∀ r, r < rows.length → f r < rows.length
theorem LmI.done {rows : RowsT} (Q : NetQ rows) {tree : List Str} {f : Nat → Nat} (I : LmI rows [] tree f) : SetT rows (srt tree) ∧ Joins rows (srt tree) := by
  have same : ∀ v, v < rows.length → f v = f 0 := fun v hv => by
    have := Q.rch hv
    induction this with
    | zero => rfl
    | @step u e hr he ih =>
      obtain ⟨p, hp, rfl⟩ := mem_outR.mp he
      rw [← ih (allE_row hp)]
      exact (I.same (u, p) hp (by simp)).symm
  have one : (imgs rows.length f).length = 1 := by
    have h1 : ∀ x ∈ imgs rows.length f, x ∈ [f 0] := fun x hx => by
      obtain ⟨r, hr, e⟩ := mem_imgs.mp hx
      rw [← e, same r hr]
      simp
    have h2 := nodup_le (uniq_props _).1 h1
    have h3 : f 0 ∈ imgs rows.length f := mem_imgs.mpr ⟨0, Q.pos, rfl⟩
    have h4 := List.length_pos_of_mem h3
    have h5 : (imgs rows.length f).length ≤ 1 := h2
    omega
  refine ⟨⟨srt_sorted _, srt_nodup I.tn, fun t ht => (I.tt t (srt_mem.mp ht)).1⟩, ?_, fun v hv => ?_⟩
  · rw [srt_len]
    have := I.cnt
    omega
  · refine (I.con 0 v Q.pos hv (same v hv).symm).mono fun t ht => ?_
    unfold inB at ht ⊢
    exact decide_eq_true (srt_mem.mpr (of_decide_eq_true ht))
end Tw
set_option Elab.async false
set_option linter.all false
set_option maxRecDepth 100000
set_option maxHeartbeats 4000000
namespace Tw
open PySem PySem.Spec L2 TL
open PyProof.Rows hiding St
theorem Joins.rch {rows : RowsT} (h : Twice rows) {T : List Str} (J : Joins rows T) {a b : Nat} (ha : a < rows.length) (hb : b < rows.length) : Rch (outC rows (inB T)) a b := ((J.2 a ha).symm h).trans (J.2 b hb)
end Tw
set_option Elab.async false
set_option linter.all false
set_option maxRecDepth 100000
set_option maxHeartbeats 4000000
set_option Elab.async false
set_option linter.all false
set_option maxRecDepth 100000
set_option maxHeartbeats 4000000
set_option Elab.async false
set_option linter.all false
set_option maxRecDepth 100000
set_option maxHeartbeats 4000000
namespace Tw
open PySem PySem.Spec L2 TL
open PyProof.Rows hiding St
variable {rows : RowsT}
def esS (rows : RowsT) (ts : List Str) : List (Str × Nat × Nat) := ts.map fun t => (t, prT rows t)
end Tw
set_option Elab.async false
set_option linter.all false
set_option maxRecDepth 100000
set_option maxHeartbeats 4000000
namespace Tw
open PySem PySem.Spec L2 TL
open PyProof.Rows hiding St
theorem enu_rng (l : List Str) : enu l = (List.range l.length).map fun (k : Nat) => ((k : Int), l.getD k "") := by
  refine List.ext_getElem? fun k => ?_
  rw [List.getElem?_map]
  by_cases h : k < l.length
  · rw [List.getElem?_range h, enu_get (List.getElem?_eq_getElem h)]
    simp [h]
  · rw [List.getElem?_eq_none (by rw [enu_len]; omega), List.getElem?_eq_none (by simp; omega)]
    rfl
def repG (n : Nat) (g : List Str × (Nat → Nat)) : List Str × List Int := (g.1, lstP n g.2)
/-- all trees of a net -/
def treesL (rows : RowsT) : List (List Str) := treeL rows.length (fun v => v) (esS rows (tsS rows))
theorem trees_of_ok {rows : RowsT} (R : NetR rows) (hh : Hang rows) (hu : (uniq (ties rows)).length < 64) : F_trees_of rows = if 300 < nT rows then .exc "TooMany" else .ok (srtLs (treesL rows)) := by
  have pos : 0 < rows.length := List.length_pos_iff.mpr R.ne
  have few := R.few
  have hN := (hang_N R.toNetP).mp hh
  have tr := tree_T R hh
  unfold F_trees_of
  rw [tr.1, M.cl_ok, M.b_ok, M.b_ok]
  by_cases big : 300 < nT rows
  · rw [if_pos big, decide_eq_true (by omega)]; rfl
  · rw [if_neg big, decide_eq_false (by omega), if_neg Bool.false_ne_true]
    refine M.T_is ?_
    obtain ⟨ts, hts⟩ : ∃ ts, tsS rows = ts := ⟨_, rfl⟩
    have tsl : ts.length < 64 := by rw [← hts, tsS_len]; exact hu
    have tnd : ts.Nodup := by rw [← hts]; exact tsS_nd rows
    have tm : ∀ t ∈ ts, t ∈ ties rows := fun t ht => tsS_mem.mp (by rw [hts]; exact ht)
    obtain ⟨e1, e2⟩ := pair_map' (rows := rows) ts
    have e1 : (esS rows ts).map (·.1) = ts := e1
    have e2 : (esS rows ts).map (·.2) = ts.map (prT rows) := e2
    have he : ∀ d ∈ esS rows ts, d.2.1 < rows.length ∧ d.2.2 < rows.length := fun d hd => by
      obtain ⟨t, ht, rfl⟩ := List.mem_map.mp hd
      exact prT_lt R.two (tm t ht)
    have hp : ∀ d ∈ ts.map (prT rows), d.1 < rows.length ∧ d.2 < rows.length := esT_lt R.two tm
    have trl : (treesL rows).length = nT rows := by
      unfold treesL
      rw [hts, treeL_len, e2, nT_by R.two R.ne tnd fun t => ⟨tm t, fun h => by rw [← hts]; exact tsS_mem.mpr h⟩]
    rw [pairs_ok R hu, hts]
    refine M.T_b (M.T_cl (M.T_ok (M.T_b ?_)))
    have ep : (ts.map fun t => pI (prT rows t)) = (ts.map (prT rows)).map pI := by rw [List.map_map]; rfl
    rw [ep, from_ok (by omega) (by rw [List.length_map]; omega) hp, List.length_map]
    have later : ∀ k, k ≤ ts.length → atI ((List.range (ts.length + 1)).map fun k => lstP rows.length (latP ((ts.map (prT rows)).drop k))) (k : Int) = some (lstP rows.length (latP ((ts.map (prT rows)).drop k))) := fun k hk => atI_of (by rw [List.getElem?_map, List.getElem?_range (by omega)]; rfl)
    have last : atI ((List.range (ts.length + 1)).map fun k => lstP rows.length (latP ((ts.map (prT rows)).drop k))) (-1 : Int) = some (lstP rows.length fun v => v) := by
      have ll : ((List.range (ts.length + 1)).map fun k => lstP rows.length (latP ((ts.map (prT rows)).drop k))).length = ts.length + 1 := by simp
      unfold atI ixN
      rw [if_neg (by omega), ll, if_pos (by omega), show ((-1 : Int) + ((ts.length + 1 : Nat) : Int)).toNat = ts.length by omega]
      show ((List.range (ts.length + 1)).map fun k => lstP rows.length (latP ((ts.map (prT rows)).drop k)))[ts.length]? = _
      rw [List.getElem?_map, List.getElem?_range (by omega)]
      show some (lstP rows.length (latP (List.drop ts.length (ts.map (prT rows))))) = _
      rw [List.drop_of_length_le (by rw [List.length_map]; exact Nat.le_refl _)]
      rfl
    refine M.T_cl (M.T_ok ?_)
    refine M.T_b (M.T_b (M.T_b (M.T_b (M.T_get last (M.T_ok (M.T_ok (M.T_chk (line_of (show 1 ≤ 100000 by decide)) (M.T_ok ?_))))))))
    refine M.T_b (M.T_b (M.T_b ?_))
    rw [ties_of_ok R.sm hu, show srt (uniq (ties rows)) = ts from hts]
    refine M.T_cl (M.T_ok (M.T_ok ?_))
    rw [enu_rng]
    let G0 : List (List Str × (Nat → Nat)) := [([], fun v => v)]
    have x0 : ∀ g ∈ G0, Ext1 rows.length ((esS rows ts).map (·.2)) g.2 := fun g hg => by
      rw [List.mem_singleton.mp hg]
      refine ⟨prt_id pos, fun f _ hf v hv => hN f (fun t ht => ?_) v hv⟩
      refine hf (prT rows t) ?_
      rw [e2]
      exact List.mem_map.mpr ⟨t, by rw [← hts]; exact tsS_mem.mpr ht, rfl⟩
    have p0 := grown_perm (n := rows.length) he (by rw [e1]; exact tnd) x0
    have e0 : (G0.flatMap fun g => (treeL rows.length g.2 (esS rows ts)).map (g.1 ++ ·)) = treesL rows := by
      show [([], fun v => v)].flatMap _ = _
      simp only [List.flatMap_cons, List.flatMap_nil, List.append_nil]
      unfold treesL
      rw [hts]
      exact List.map_id' _
    rw [e0] at p0
    refine M.T_up (fun k (s : List (List Str × List Int)) => ∃ G, s = G.map (repG rows.length) ∧ (∀ g ∈ G, Ext1 rows.length (((esS rows ts).drop k).map (·.2)) g.2) ∧ grown rows.length ((esS rows ts).drop k) G = grown rows.length (esS rows ts) G0) ⟨G0, rfl, x0, rfl⟩ (fun k s hk ⟨G, g1, g2, g3⟩ => ?_) fun s ⟨G, g1, g2, g3⟩ => ?_
    · subst g1
      obtain ⟨t, ht⟩ : ∃ t, ts[k]? = some t := ⟨_, List.getElem?_eq_getElem hk⟩
      have htm := tm t (List.mem_of_getElem? ht)
      have gk : ts.getD k "" = t := by rw [List.getD_eq_getElem?_getD, ht]; rfl
      rw [gk]
      obtain ⟨x1, x2⟩ := prT_lt R.two htm
      have dk : (esS rows ts).drop k = (t, prT rows t) :: (esS rows ts).drop (k + 1) := by
        have l : k < (esS rows ts).length := by unfold esS; rw [List.length_map]; exact hk
        rw [List.drop_eq_getElem_cons l]
        congr 1
        have : (esS rows ts)[k]? = some (t, prT rows t) := by unfold esS; rw [List.getElem?_map, ht]; rfl
        rw [List.getElem?_eq_getElem l] at this
        exact Option.some.inj this
      have dm : ((esS rows ts).drop (k + 1)).map (·.2) = (ts.map (prT rows)).drop (k + 1) := by rw [List.map_drop, e2]
      have hek : ∀ d ∈ (esS rows ts).drop k, d.2.1 < rows.length ∧ d.2.2 < rows.length := fun d hd => he d (List.drop_subset _ _ hd)
      have ndk : (((esS rows ts).drop k).map (·.1)).Nodup := by rw [List.map_drop, e1]; exact tnd.sublist (List.drop_sublist _ _)
      have gp := grown_perm (n := rows.length) hek ndk g2
      rw [g3] at gp
      have gl : G.length ≤ 300 := by
        have h1 := grow_few (n := rows.length) hek g2
        rw [← gp.length_eq, List.length_map] at h1
        have h2 := p0.length_eq
        rw [List.length_map, trl] at h2
        omega
      have gt : ∀ g ∈ G, g.1.length ≤ 64 := fun g hg => by
        have h1 := ext_pos (n := rows.length) (es := ((esS rows ts).drop k).map (·.2)) (fun e h => by obtain ⟨d, hd, rfl⟩ := List.mem_map.mp h; exact hek d hd) (g2 g hg)
        rw [← treeL_len] at h1
        obtain ⟨U, hU⟩ := List.exists_mem_of_length_pos h1
        have h2 : g.1 ++ U ∈ treesL rows := p0.mem_iff.mp (gp.mem_iff.mpr (List.mem_flatMap.mpr ⟨g, hg, List.mem_map.mpr ⟨U, hU, rfl⟩⟩))
        unfold treesL at h2
        have h3 := (treeL_sub h2).length_le
        rw [hts, e1, List.length_append] at h3
        omega
      have hget : atI ((ts.map (prT rows)).map pI) (k : Int) = some (pI (prT rows t)) := atI_of (by rw [List.getElem?_map, List.getElem?_map, ht]; rfl)
      refine M.T_b (M.T_get hget (M.T_b (M.T_ok (M.T_b ?_))))
      rw [for_mapE]
      have hQ := latP_lt (n := rows.length) (es := (ts.map (prT rows)).drop (k + 1)) fun d hd => hp d (List.drop_subset _ _ hd)
      refine M.T_for (fun ys s => s = (ys.flatMap (growF rows.length (latP (((esS rows ts).drop (k + 1)).map (·.2))) t (prT rows t))).map (repG rows.length)) rfl (fun ys g zs s e i => ?_) fun s e => ?_
      · subst i
        have hg : g ∈ G := by rw [e]; simp
        have yl : (ys.flatMap (growF rows.length (latP (((esS rows ts).drop (k + 1)).map (·.2))) t (prT rows t))).length ≤ 600 := by
          have h1 := congrArg List.length e
          rw [List.length_append] at h1
          have : ∀ L : List (List Str × (Nat → Nat)), (L.flatMap (growF rows.length (latP (((esS rows ts).drop (k + 1)).map (·.2))) t (prT rows t))).length ≤ 2 * L.length := fun L => by
            induction L with
            | nil => exact Nat.le_refl _
            | cons c L ih =>
              rw [List.flatMap_cons, List.length_append, List.length_cons]
              have : (growF rows.length (latP (((esS rows ts).drop (k + 1)).map (·.2))) t (prT rows t) c).length ≤ 2 := by
                unfold growF
                rw [List.length_append]
                split <;> split <;> simp
              omega
          have := this ys
          omega
        rw [List.flatMap_append, List.map_append]
        generalize hY : (ys.flatMap (growF rows.length (latP (((esS rows ts).drop (k + 1)).map (·.2))) t (prT rows t))).map (repG rows.length) = Y
        have Yl : Y.length ≤ 600 := by rw [← hY, List.length_map]; exact yl
        have gtl := gt g hg
        have a1 : atI (repG rows.length g).2 (pI (prT rows t)).1 = some ((g.2 (prT rows t).1 : Nat) : Int) := lstP_at g.2 x1
        have a2 : atI (repG rows.length g).2 (pI (prT rows t)).2 = some ((g.2 (prT rows t).2 : Nat) : Int) := lstP_at g.2 x2
        simp only [List.flatMap_cons, List.flatMap_nil, List.append_nil]
        unfold growF
        rw [List.map_append, ← List.append_assoc]
        refine M.T_b (M.T.imp (p := fun s => s = Y ++ (if g.2 (prT rows t).1 = g.2 (prT rows t).2 then [] else [(g.1 ++ [t], mrgP g.2 (g.2 (prT rows t).1) (g.2 (prT rows t).2))]).map (repG rows.length)) ?_ fun s hs => ?_)
        · refine M.T_b (M.T_b (M.T_get a1 (M.T_b (M.T_get a2 (M.T_ok (M.T_ite (fun z => ?_) fun z => ?_))))))
          · have ne : ¬ g.2 (prT rows t).1 = g.2 (prT rows t).2 := fun w => by rw [w] at z; simp at z
            rw [if_neg ne]
            refine M.T_b (M.T_b (M.T_b (M.T_chk (line_of (show 1 ≤ 100000 by decide)) (M.T_ok (M.T_chk (line_of (by show g.1.length + 1 ≤ 100000; omega)) (M.T_ok (M.T_b ?_)))))))
            show (M.cl (F_made_one (lstP rows.length g.2) ((prT rows t).1 : Int) ((prT rows t).2 : Int))).T _
            rw [lst_made g.2 (by omega) x1 x2]
            exact M.T_cl (M.T_ok (M.T_ok (M.T_chk (line_lt (by omega)) (M.T_ok rfl))))
          · have eq : g.2 (prT rows t).1 = g.2 (prT rows t).2 := Decidable.byContradiction fun w => z (by simp; omega)
            rw [if_pos eq]
            exact M.T_ok (List.append_nil _).symm
        · have sl : s.length ≤ 601 := by
            rw [hs, List.length_append, List.length_map]
            split
            · simp; omega
            · simp; omega
          have lk := later (k + 1) (by omega)
          refine M.T_b (M.T_b (M.T_get (show atI _ ((k : Int) + 1) = _ from lk) (M.T_cl ((hang_T pos (by omega) g.2 _ hQ).imp fun b hb => ?_))))
          rw [dm]
          refine M.T_ite (fun z => ?_) fun z => ?_
          · rw [if_pos (hb.mp z)]
            refine M.T_b (M.T_ok (M.T_chk (line_lt (by omega)) (M.T_ok ?_)))
            rw [hs]
            rfl
          · rw [if_neg fun w => z (hb.mpr w)]
            refine M.T_ok ?_
            rw [hs]
            simp
      · refine M.T_b (M.T_ok (M.T_ok ⟨_, e, fun c hc => ?_, ?_⟩))
        · obtain ⟨g, hg, hc⟩ := List.mem_flatMap.mp hc
          refine grow_ext (n := rows.length) (t := t) (e := prT rows t) (es := (esS rows ts).drop (k + 1)) (by rw [← dk]; exact hek) (g := g) (by rw [← dk]; exact g2 g hg) c hc
        · rw [← g3, dk]
          rfl
    · rw [show List.drop ts.length (esS rows ts) = [] from List.drop_of_length_le (by unfold esS; simp)] at g3
      have g3 : G = grown rows.length (esS rows ts) G0 := g3
      subst g1
      have gl : G.length = nT rows := by
        have := p0.length_eq
        rw [List.length_map, ← g3, trl] at this
        exact this
      refine M.T_b (M.T_chk (line_of (by rw [List.length_map]; omega)) ?_)
      rw [M.lc_map (f := fun y : List Str × List Int => y.1) _ fun _ _ => rfl]
      refine M.T_ok (M.T_ok ?_)
      rw [List.map_map]
      refine srtLs_congr ?_
      rw [← g3] at p0
      exact p0
end Tw
set_option Elab.async false
set_option linter.all false
set_option maxRecDepth 100000
set_option maxHeartbeats 4000000
namespace Tw
open PySem PySem.Spec L2 TL
open PyProof.Rows hiding St
structure Chn (rows : RowsT) (n : Nat) (bd : Nat → List Str) (lp : List Str) : Prop where
  len : rows.length = n + 1
  row : ∀ w, w ≤ n → rowT rows w = (if 0 < w then (bd (w - 1)).reverse else []) ++ (if w < n then bd w else []) ++ (if w = n then lp ++ lp else [])
  nd : ∀ i, i < n → (bd i).Nodup
  dj : ∀ i j t, i < n → j < n → t ∈ bd i → t ∈ bd j → i = j
  ldj : ∀ i t, i < n → t ∈ bd i → t ∉ lp
  lnd : lp.Nodup
  ne : ∀ i, i < n → bd i ≠ []
  pn : (rows.map (·.1)).Nodup
theorem ties_in {rows : RowsT} {t : Str} : t ∈ ties rows ↔ ∃ w, w < rows.length ∧ t ∈ rowT rows w := by
  unfold ties
  rw [List.mem_flatMap]
  constructor
  · rintro ⟨x, hx, tx⟩
    obtain ⟨i, hi⟩ := List.mem_iff_getElem?.mp hx
    exact ⟨i, (List.getElem?_eq_some_iff.mp hi).1, by rw [row_some hi]; exact tx⟩
  · rintro ⟨w, hw, ht⟩
    exact ⟨rows[w], List.getElem_mem hw, by rw [row_some (List.getElem?_eq_getElem hw)] at ht; exact ht⟩
theorem ties_range (rows : RowsT) : ties rows = (List.range rows.length).flatMap (rowT rows) := by
  unfold ties
  have : rows.map (·.2) = (List.range rows.length).map (rowT rows) := by
    refine List.ext_getElem? fun v => ?_
    rw [List.getElem?_map, List.getElem?_map]
    by_cases h : v < rows.length
    · rw [List.getElem?_range h, List.getElem?_eq_getElem h, Option.map_some, Option.map_some, row_some (List.getElem?_eq_getElem h)]
    · rw [List.getElem?_eq_none (by omega), List.getElem?_eq_none (by simp; omega)]
      rfl
  rw [List.flatMap_def, List.flatMap_def, this]
theorem sum_at (i : Nat) : ∀ m, ((List.range m).map fun w => if i = w then 1 else 0).sum = if i < m then 1 else 0
  | 0 => rfl
  | m + 1 => by
    rw [List.range_succ, List.map_append, List.sum_append, sum_at i m]
    by_cases h : i < m
    · rw [if_pos h, if_pos (by omega)]
      simp; omega
    · by_cases e : i = m
      · rw [if_neg h, if_pos (by omega)]; simp [e]
      · rw [if_neg h, if_neg (by omega)]; simp [e]
theorem sum_plus (f g : Nat → Nat) : ∀ l : List Nat, (l.map fun w => f w + g w).sum = (l.map f).sum + (l.map g).sum
  | [] => rfl
  | a :: l => by
    rw [List.map_cons, List.map_cons, List.map_cons, List.sum_cons, List.sum_cons, List.sum_cons, sum_plus f g l]
    omega
theorem two_of_rows {rows : RowsT} (h : ∀ t ∈ ties rows, ∃ i j, i < rows.length ∧ j < rows.length ∧ ∀ w, w < rows.length → (rowT rows w).count t = (if i = w then 1 else 0) + if j = w then 1 else 0) : Twice rows := fun t ht => by
  obtain ⟨i, j, hi, hj, hw⟩ := h t ht
  rw [ties_range, List.count_flatMap]
  have : (List.range rows.length).map (List.count t ∘ rowT rows) = (List.range rows.length).map fun w => (if i = w then 1 else 0) + if j = w then 1 else 0 := List.map_congr_left fun w h => hw w (List.mem_range.mp h)
  rw [this, sum_plus, sum_at, sum_at, if_pos hi, if_pos hj]
section
variable {rows : RowsT} {n : Nat} {bd : Nat → List Str} {lp : List Str}
theorem Chn.cb (h : Chn rows n bd lp) {i : Nat} {t : Str} (hi : i < n) (ht : t ∈ bd i) (j : Nat) (hj : j < n) : (bd j).count t = if j = i then 1 else 0 := by
  by_cases e : j = i
  · subst e
    rw [if_pos rfl, (h.nd j hj).count, if_pos ht]
  · rw [if_neg e]
    exact List.count_eq_zero.mpr fun z => e (h.dj j i t hj hi z ht)
theorem Chn.cnt (h : Chn rows n bd lp) {i : Nat} {t : Str} (hi : i < n) (ht : t ∈ bd i) (w : Nat) (hw : w < rows.length) : (rowT rows w).count t = (if i + 1 = w then 1 else 0) + if i = w then 1 else 0 := by
  have hl := h.len
  have l0 : lp.count t = 0 := List.count_eq_zero.mpr (h.ldj i t hi ht)
  rw [h.row w (by omega), List.count_append, List.count_append]
  have a : (if 0 < w then (bd (w - 1)).reverse else []).count t = if i + 1 = w then 1 else 0 := by
    by_cases c : 0 < w
    · rw [if_pos c, List.count_reverse, h.cb hi ht _ (by omega)]
      by_cases d : i + 1 = w
      · rw [if_pos d, if_pos (by omega)]
      · rw [if_neg d, if_neg (by omega)]
    · rw [if_neg c, if_neg (by omega)]; rfl
  have b : (if w < n then bd w else []).count t = if i = w then 1 else 0 := by
    by_cases c : w < n
    · rw [if_pos c, h.cb hi ht _ c]
      by_cases d : i = w
      · rw [if_pos d, if_pos d.symm]
      · rw [if_neg d, if_neg fun z => d z.symm]
    · rw [if_neg c, if_neg (by omega)]; rfl
  have c : (if w = n then lp ++ lp else []).count t = 0 := by
    split
    · rw [List.count_append, l0]
    · rfl
  rw [a, b, c]
  omega
theorem Chn.cntL (h : Chn rows n bd lp) {t : Str} (ht : t ∈ lp) (w : Nat) (hw : w < rows.length) : (rowT rows w).count t = (if n = w then 1 else 0) + if n = w then 1 else 0 := by
  have hl := h.len
  have z : ∀ i, i < n → (bd i).count t = 0 := fun i hi => List.count_eq_zero.mpr fun q => h.ldj i t hi q ht
  rw [h.row w (by omega), List.count_append, List.count_append]
  have a : (if 0 < w then (bd (w - 1)).reverse else []).count t = 0 := by
    split
    · rw [List.count_reverse, z _ (by omega)]
    · rfl
  have b : (if w < n then bd w else []).count t = 0 := by
    split
    · rw [z _ (by omega)]
    · rfl
  rw [a, b]
  by_cases c : w = n
  · rw [if_pos c, if_pos c.symm, List.count_append, h.lnd.count, if_pos ht]
  · rw [if_neg c, if_neg fun q => c q.symm]; rfl
theorem Chn.mem (h : Chn rows n bd lp) {t : Str} : t ∈ ties rows ↔ (∃ i, i < n ∧ t ∈ bd i) ∨ t ∈ lp := by
  have hl := h.len
  rw [ties_in]
  constructor
  · rintro ⟨w, hw, tw⟩
    rw [h.row w (by omega), List.mem_append, List.mem_append] at tw
    rcases tw with (q | q) | q
    · split at q
      · exact .inl ⟨w - 1, by omega, List.mem_reverse.mp q⟩
      · cases q
    · split at q
      · exact .inl ⟨w, by assumption, q⟩
      · cases q
    · split at q
      · exact .inr ((List.mem_append.mp q).elim id id)
      · cases q
  · rintro (⟨i, hi, q⟩ | q)
    · refine ⟨i, by omega, ?_⟩
      rw [h.row i (by omega), if_pos hi]
      simp [q]
    · refine ⟨n, by omega, ?_⟩
      rw [h.row n (Nat.le_refl _), if_pos rfl]
      simp [q]
theorem Chn.two (h : Chn rows n bd lp) : Twice rows := two_of_rows fun t ht => by
  have hl := h.len
  rcases h.mem.mp ht with ⟨i, hi, q⟩ | q
  · exact ⟨i + 1, i, by omega, by omega, h.cnt hi q⟩
  · exact ⟨n, n, by omega, by omega, h.cntL q⟩
theorem Chn.pr (h : Chn rows n bd lp) {i : Nat} {t : Str} (hi : i < n) (ht : t ∈ bd i) : prT rows t = (i + 1, i) ∨ prT rows t = (i, i + 1) := by
  have hl := h.len
  exact prT_by h.two (h.mem.mpr (.inl ⟨i, hi, ht⟩)) (by omega) (by omega) (h.cnt hi ht)
theorem Chn.prL (h : Chn rows n bd lp) {t : Str} (ht : t ∈ lp) : prT rows t = (n, n) := by
  have hl := h.len
  rcases prT_by h.two (h.mem.mpr (.inr ht)) (by omega) (by omega) (h.cntL ht) with q | q <;> exact q
theorem Chn.P (h : Chn rows n bd lp) : NetP rows := ⟨h.two, h.pn, fun z => by have := h.len; rw [z] at this; simp at this⟩
theorem Chn.hang (h : Chn rows n bd lp) : Hang rows := (hang_N h.P).mpr fun f hf v hv => by
  have hl := h.len
  have st : ∀ i, i < n → f (i + 1) = f i := fun i hi => by
    obtain ⟨t, ht⟩ := List.exists_mem_of_ne_nil _ (h.ne i hi)
    have := hf t (h.mem.mpr (.inl ⟨i, hi, ht⟩))
    rcases h.pr hi ht with q | q <;> rw [q] at this
    · exact this
    · exact this.symm
  have all : ∀ v, v ≤ n → f v = f 0 := fun v => by
    induction v with
    | zero => exact fun _ => rfl
    | succ v ih => exact fun hv => (st v hv).trans (ih (by omega))
  exact all v (by omega)
/-- one of each bundle, no loop -/
def One (n : Nat) (bd : Nat → List Str) (lp : List Str) (s : Str → Bool) : Prop := (∀ i, i < n → ∃ t ∈ bd i, s t = true ∧ ∀ u ∈ bd i, s u = true → u = t) ∧ ∀ t ∈ lp, s t = false
def gfc (rows : RowsT) (f : Nat → Bool) (t : Str) : Bool := xor (f (prT rows t).1) (f (prT rows t).2)
theorem Chn.g (h : Chn rows n bd lp) (f : Nat → Bool) {i : Nat} {t : Str} (hi : i < n) (ht : t ∈ bd i) : gfc rows f t = xor (f i) (f (i + 1)) := by
  unfold gfc
  rcases h.pr hi ht with q | q <;> rw [q]
  exact Bool.xor_comm _ _
theorem Chn.gL (h : Chn rows n bd lp) (f : Nat → Bool) {t : Str} (ht : t ∈ lp) : gfc rows f t = false := by
  unfold gfc
  rw [h.prL ht]
  exact Bool.xor_self _
theorem px_ties1 {l : List Str} (nd : l.Nodup) {a : Str} (h : a ∈ l) (r g : Str → Bool) (hz : ∀ t ∈ l, t ≠ a → (r t && g t) = false) : px (fun t => r t && g t) l = (r a && g a) := by
  induction l with
  | nil => cases h
  | cons b l ih =>
    rw [List.nodup_cons] at nd
    show xor (r b && g b) (px (fun t => r t && g t) l) = _
    rcases List.mem_cons.mp h with q | q
    · subst q
      rw [px_zero fun t ht => hz t (List.mem_cons_of_mem _ ht) fun z => nd.1 (z ▸ ht), Bool.xor_false]
    · rw [hz b List.mem_cons_self fun z => nd.1 (z ▸ q), ih nd.2 q fun t ht => hz t (List.mem_cons_of_mem _ ht), Bool.false_xor]
theorem Chn.tree (h : Chn rows n bd lp) (s : Str → Bool) : Tw.okS rows.length (fun v => v) (esS rows (tsS rows)) s = true ↔ One n bd lp s := by
  have hl := h.len
  have two := h.two
  have ndT := tsS_nd rows
  have e1 : (esS rows (tsS rows)).map (·.1) = tsS rows := (pair_map' (rows := rows) (tsS rows)).1
  have em : ∀ e, e ∈ esS rows (tsS rows) ↔ ∃ t ∈ ties rows, e = (t, prT rows t) := fun e => by
    unfold esS
    rw [List.mem_map]
    exact ⟨fun ⟨t, ht, q⟩ => ⟨t, tsS_mem.mp ht, q.symm⟩, fun ⟨t, ht, q⟩ => ⟨t, tsS_mem.mpr ht, q.symm⟩⟩
  have pxe : ∀ (r : Str → Bool) (f : Nat → Bool), px (fun e => r e.1 && xor (f e.2.1) (f e.2.2)) (esS rows (tsS rows)) = px (fun t => r t && gfc rows f t) (tsS rows) := fun r f => by
    unfold esS
    rw [px_map]
    rfl
  have fac : ∀ f, Fac rows.length (fun v => v) f := fun f v w _ _ e => by rw [show v = w from e]
  rw [okS_iff (by omega) (by rw [e1]; exact ndT) fun e he => by
    obtain ⟨t, ht, rfl⟩ := (em e).mp he
    exact prT_lt two ht]
  constructor
  · rintro ⟨C, A⟩
    have loop : ∀ t ∈ lp, s t = false := fun t ht => by
      cases q : s t with
      | false => rfl
      | true =>
        have tm := h.mem.mpr (.inr ht)
        have := A (fun u => decide (u = t)) (fun e _ z => by rw [of_decide_eq_true z]; exact q) (fun f _ => by
          refine (pxe (fun u => decide (u = t)) f).trans (px_zero fun u _ => ?_)
          show (decide (u = t) && gfc rows f u) = false
          by_cases z : u = t
          · rw [z, h.gL f ht, Bool.and_false]
          · rw [decide_eq_false z, Bool.false_and]) (t, prT rows t) ((em _).mpr ⟨t, tm, rfl⟩)
        simp at this
    refine ⟨fun i hi => ?_, loop⟩
    have ex : ∃ t ∈ bd i, s t = true := by
      refine Classical.byContradiction fun no => ?_
      have := C (fun v => decide (v ≤ i)) (fac _) (fun e he hs => by
        obtain ⟨t, ht, rfl⟩ := (em e).mp he
        rcases h.mem.mp ht with ⟨j, hj, q⟩ | q
        · have ne : j ≠ i := fun z => no ⟨t, z ▸ q, hs⟩
          rcases h.pr hj q with p | p <;> simp only [p]
          · by_cases c : j ≤ i
            · rw [decide_eq_true c, decide_eq_true (by omega)]
            · rw [decide_eq_false c, decide_eq_false (by omega)]
          · by_cases c : j ≤ i
            · rw [decide_eq_true c, decide_eq_true (by omega)]
            · rw [decide_eq_false c, decide_eq_false (by omega)]
        · simp only [h.prL q]) (i + 1) (by omega)
      rw [decide_eq_false (by omega), decide_eq_true (by omega)] at this
      cases this
    obtain ⟨t, ht, hs⟩ := ex
    refine ⟨t, ht, hs, fun u hu us => Classical.byContradiction fun ne => ?_⟩
    have tm := h.mem.mpr (.inl ⟨i, hi, ht⟩)
    have um := h.mem.mpr (.inl ⟨i, hi, hu⟩)
    have := A (fun v => xor (decide (v = t)) (decide (v = u))) (fun e _ z => by
      by_cases a : e.1 = t
      · rw [a]; exact hs
      · by_cases b : e.1 = u
        · rw [b]; exact us
        · rw [decide_eq_false a, decide_eq_false b] at z; cases z) (fun f _ => by
      refine (pxe (fun v => xor (decide (v = t)) (decide (v = u))) f).trans ?_
      show px (fun v => xor (decide (v = t)) (decide (v = u)) && gfc rows f v) (tsS rows) = false
      have : px (fun v => xor (decide (v = t)) (decide (v = u)) && gfc rows f v) (tsS rows) = xor (px (fun v => decide (v = t) && gfc rows f v) (tsS rows)) (px (fun v => decide (v = u) && gfc rows f v) (tsS rows)) := by
        rw [← px_xor]
        exact px_congr fun v _ => by rw [Bool.and_xor_distrib_right]
      rw [this, px_ties1 ndT (tsS_mem.mpr tm) _ _ fun v _ q => by rw [decide_eq_false q, Bool.false_and], px_ties1 ndT (tsS_mem.mpr um) _ _ fun v _ q => by rw [decide_eq_false q, Bool.false_and], decide_eq_true rfl, decide_eq_true rfl, Bool.true_and, Bool.true_and, h.g f hi ht, h.g f hi hu, Bool.xor_self]) (t, prT rows t) ((em _).mpr ⟨t, tm, rfl⟩)
    rw [decide_eq_true rfl, decide_eq_false fun z => ne z.symm] at this
    cases this
  · rintro ⟨O, L⟩
    constructor
    · intro f _ hf
      have st : ∀ i, i < n → f (i + 1) = f i := fun i hi => by
        obtain ⟨t, ht, hs, _⟩ := O i hi
        have := hf _ ((em _).mpr ⟨t, h.mem.mpr (.inl ⟨i, hi, ht⟩), rfl⟩) hs
        rcases h.pr hi ht with q | q <;> simp only [q] at this
        · exact this
        · exact this.symm
      have all : ∀ v, v ≤ n → f v = f 0 := fun v => by
        induction v with
        | zero => exact fun _ => rfl
        | succ v ih => exact fun hv => (st v hv).trans (ih (by omega))
      exact fun v hv => all v (by omega)
    · intro r hr hp e he
      obtain ⟨t, ht, rfl⟩ := (em e).mp he
      have rs : ∀ u ∈ ties rows, s u = false → r u = false := fun u hu q => by
        cases z : r u with
        | false => rfl
        | true => have := hr _ ((em _).mpr ⟨u, hu, rfl⟩) z; rw [q] at this; cases this
      show r t = false
      rcases h.mem.mp ht with ⟨i, hi, q⟩ | q
      · obtain ⟨a, ha, sa, ua⟩ := O i hi
        by_cases c : s t = true
        · have := ua t q c
          subst this
          have z := (pxe r fun v => decide (v ≤ i)).symm.trans (hp (fun v => decide (v ≤ i)) (fac _))
          rw [px_ties1 ndT (tsS_mem.mpr ht) _ _ fun u hu ne => ?_, h.g _ hi q, decide_eq_true (Nat.le_refl i), decide_eq_false (by omega)] at z
          · simpa using z
          · have hu := tsS_mem.mp hu
            rcases h.mem.mp hu with ⟨j, hj, p⟩ | p
            · by_cases ji : j = i
              · subst ji
                have : s u = false := by
                  cases y : s u with
                  | false => rfl
                  | true => exact absurd (ua u p y) ne
                rw [rs u hu this, Bool.false_and]
              · rw [h.g _ hj p]
                by_cases d : j ≤ i
                · rw [decide_eq_true d, decide_eq_true (by omega)]; simp
                · rw [decide_eq_false d, decide_eq_false (by omega)]; simp
            · rw [h.gL _ p, Bool.and_false]
        · exact rs t ht (by cases y : s t <;> simp_all)
      · exact rs t ht (L t q)
end
end Tw
set_option Elab.async false
set_option linter.all false
set_option maxRecDepth 100000
set_option maxHeartbeats 4000000
namespace Tw
open PySem PySem.Spec L2 TL
open PyProof.Rows hiding St
def chs (bd : Nat → List Str) : Nat → List (List Str)
  | 0 => [[]]
  | n + 1 => (chs bd n).flatMap fun c => (bd n).map fun t => c ++ [t]
def prodN (f : Nat → Nat) : Nat → Nat
  | 0 => 1
  | n + 1 => prodN f n * f n
theorem chs_len (bd : Nat → List Str) : ∀ n, (chs bd n).length = prodN (fun i => (bd i).length) n
  | 0 => rfl
  | n + 1 => by
    show ((chs bd n).flatMap fun c => (bd n).map fun t => c ++ [t]).length = prodN (fun i => (bd i).length) n * (bd n).length
    rw [List.length_flatMap, ← chs_len bd n]
    have : (chs bd n).map (fun c => ((bd n).map fun t => c ++ [t]).length) = (chs bd n).map fun _ => (bd n).length := List.map_congr_left fun c _ => by rw [List.length_map]
    rw [this, List.map_const', List.sum_replicate_nat]
theorem chs_mem {bd : Nat → List Str} : ∀ {n : Nat} {c : List Str}, c ∈ chs bd n ↔ c.length = n ∧ ∀ i, i < n → ∃ t, c[i]? = some t ∧ t ∈ bd i
  | 0, c => by
    show c ∈ [[]] ↔ _
    rw [List.mem_singleton]
    exact ⟨fun h => by subst h; exact ⟨rfl, fun i hi => absurd hi (Nat.not_lt_zero _)⟩, fun h => List.length_eq_zero_iff.mp h.1⟩
  | n + 1, c => by
    show c ∈ (chs bd n).flatMap (fun c => (bd n).map fun t => c ++ [t]) ↔ _
    rw [List.mem_flatMap]
    constructor
    · rintro ⟨d, hd, hc⟩
      obtain ⟨t, ht, rfl⟩ := List.mem_map.mp hc
      obtain ⟨l, k⟩ := chs_mem.mp hd
      refine ⟨by simp [l], fun i hi => ?_⟩
      by_cases e : i < n
      · obtain ⟨u, hu, ub⟩ := k i e
        exact ⟨u, by rw [List.getElem?_append_left (by omega)]; exact hu, ub⟩
      · have : i = n := by omega
        subst this
        exact ⟨t, by rw [List.getElem?_append_right (by omega), l, Nat.sub_self]; rfl, ht⟩
    · rintro ⟨l, k⟩
      have ne : c ≠ [] := fun z => by rw [z] at l; simp at l
      have e := List.dropLast_concat_getLast ne
      refine ⟨c.dropLast, chs_mem.mpr ⟨by rw [List.length_dropLast]; omega, fun i hi => ?_⟩, ?_⟩
      · obtain ⟨u, hu, ub⟩ := k i (by omega)
        exact ⟨u, by rw [List.getElem?_dropLast, if_pos (by omega)]; exact hu, ub⟩
      · obtain ⟨u, hu, ub⟩ := k n (by omega)
        refine List.mem_map.mpr ⟨u, ub, ?_⟩
        have : c.getLast ne = u := by
          rw [List.getLast_eq_getElem]
          have := (List.getElem?_eq_some_iff.mp hu).2
          simp only [l, Nat.add_sub_cancel]
          exact this
        rw [← this, e]
theorem chs_nd {bd : Nat → List Str} : ∀ {n : Nat}, (∀ i, i < n → (bd i).Nodup) → (chs bd n).Nodup
  | 0, _ => by show ([[]] : List (List Str)).Nodup; simp
  | n + 1, h => by
    show ((chs bd n).flatMap fun c => (bd n).map fun t => c ++ [t]).Nodup
    have ih := chs_nd (n := n) fun i hi => h i (by omega)
    refine List.pairwise_flatMap.mpr ⟨fun c _ => List.Pairwise.map _ (fun a b ne z => ne (by simpa using z)) (h n (by omega)), ?_⟩
    refine List.Pairwise.imp (fun {a b} ne => ?_) ih
    intro x hx y hy z
    obtain ⟨t, _, rfl⟩ := List.mem_map.mp hx
    obtain ⟨u, _, rfl⟩ := List.mem_map.mp hy
    exact ne (List.append_inj_left' z rfl)
section
variable {rows : RowsT} {n : Nat} {bd : Nat → List Str} {lp : List Str}
theorem ch_mem (h : Chn rows n bd lp) {c : List Str} (hc : c ∈ chs bd n) {t : Str} : t ∈ c ↔ ∃ i, i < n ∧ c[i]? = some t ∧ t ∈ bd i := by
  obtain ⟨l, k⟩ := chs_mem.mp hc
  constructor
  · intro ht
    obtain ⟨i, hi⟩ := List.mem_iff_getElem?.mp ht
    have li := (List.getElem?_eq_some_iff.mp hi).1
    obtain ⟨u, hu, ub⟩ := k i (by omega)
    rw [hi] at hu
    exact ⟨i, by omega, hi, by rw [Option.some.inj hu]; exact ub⟩
  · rintro ⟨i, _, hi, _⟩
    exact List.mem_of_getElem? hi
theorem ch_nd (h : Chn rows n bd lp) {c : List Str} (hc : c ∈ chs bd n) : c.Nodup := by
  obtain ⟨l, k⟩ := chs_mem.mp hc
  refine List.pairwise_iff_getElem.mpr fun i j hi hj hij e => ?_
  have e : c[i]? = c[j]? := by rw [List.getElem?_eq_getElem hi, List.getElem?_eq_getElem hj, e]
  obtain ⟨u, hu, ub⟩ := k i (by omega)
  obtain ⟨v, hv, vb⟩ := k j (by omega)
  rw [hu, hv] at e
  have e := Option.some.inj e
  subst e
  have := h.dj i j u (by omega) (by omega) ub vb
  omega
theorem ch_one (h : Chn rows n bd lp) {c : List Str} (hc : c ∈ chs bd n) : One n bd lp fun t => decide (t ∈ c) := by
  obtain ⟨l, k⟩ := chs_mem.mp hc
  refine ⟨fun i hi => ?_, fun t ht => decide_eq_false fun z => ?_⟩
  · obtain ⟨t, ht, tb⟩ := k i hi
    refine ⟨t, tb, decide_eq_true (List.mem_of_getElem? ht), fun u ub us => ?_⟩
    obtain ⟨j, hj, uj, ujb⟩ := (ch_mem h hc).mp (of_decide_eq_true us)
    have := h.dj i j u hi hj ub ujb
    subst this
    rw [ht] at uj
    exact (Option.some.inj uj).symm
  · obtain ⟨i, hi, _, q⟩ := (ch_mem h hc).mp z
    exact h.ldj i t hi q ht
theorem one_ch {s : Str → Bool} (o : ∀ i, i < n → ∃ t ∈ bd i, s t = true ∧ ∀ u ∈ bd i, s u = true → u = t) : ∃ c ∈ chs bd n, ∀ i, i < n → ∃ t, c[i]? = some t ∧ t ∈ bd i ∧ s t = true ∧ ∀ u ∈ bd i, s u = true → u = t := by
  induction n with
  | zero => exact ⟨[], chs_mem.mpr ⟨rfl, fun i hi => absurd hi (Nat.not_lt_zero _)⟩, fun i hi => absurd hi (Nat.not_lt_zero _)⟩
  | succ n ih =>
    obtain ⟨c, hc, hk⟩ := ih fun i hi => o i (by omega)
    obtain ⟨t, tb, ts, tu⟩ := o n (by omega)
    have l := (chs_mem.mp hc).1
    refine ⟨c ++ [t], List.mem_flatMap.mpr ⟨c, hc, List.mem_map.mpr ⟨t, tb, rfl⟩⟩, fun i hi => ?_⟩
    by_cases e : i < n
    · obtain ⟨u, hu, r⟩ := hk i e
      exact ⟨u, by rw [List.getElem?_append_left (by omega)]; exact hu, r⟩
    · have : i = n := by omega
      subst this
      exact ⟨t, by rw [List.getElem?_append_right (by omega), l, Nat.sub_self]; rfl, tb, ts, tu⟩
theorem ch_srt (h : Chn rows n bd lp) {c : List Str} (hc : c ∈ chs bd n) : srt c = (tsS rows).filter fun t => decide (t ∈ c) := by
  have p : c.Perm ((tsS rows).filter fun t => decide (t ∈ c)) := (List.perm_ext_iff_of_nodup (ch_nd h hc) ((tsS_nd rows).filter _)).mpr fun t => by
    rw [List.mem_filter, decide_eq_true_iff]
    refine ⟨fun q => ⟨tsS_mem.mpr (h.mem.mpr ?_), q⟩, fun q => q.2⟩
    obtain ⟨i, hi, _, b⟩ := (ch_mem h hc).mp q
    exact .inl ⟨i, hi, b⟩
  rw [srt_congr p]
  exact srt_of ((srt_sorted _).filter _)
theorem ch_trees (h : Chn rows n bd lp) : (treesL rows).Perm ((chs bd n).map srt) := by
  have ndT := tsS_nd rows
  have e1 : (esS rows (tsS rows)).map (·.1) = tsS rows := (pair_map' (rows := rows) (tsS rows)).1
  refine (List.perm_ext_iff_of_nodup (treeL_nd (by rw [e1]; exact ndT)) ?_).mpr fun T => ?_
  · have key : ∀ c ∈ chs bd n, ∀ d ∈ chs bd n, srt c = srt d → c = d := fun c hc d hd e => by
      have same : ∀ t, t ∈ c ↔ t ∈ d := fun t => by rw [← srt_mem (l := c), e, srt_mem]
      obtain ⟨lc, kc⟩ := chs_mem.mp hc
      obtain ⟨ld, kd⟩ := chs_mem.mp hd
      refine List.ext_getElem? fun i => ?_
      by_cases hi : i < n
      · obtain ⟨t, ht, tb⟩ := kc i hi
        obtain ⟨j, hj, dj, db⟩ := (ch_mem h hd).mp ((same t).mp (List.mem_of_getElem? ht))
        have := h.dj i j t hi hj tb db
        subst this
        rw [ht, dj]
      · rw [List.getElem?_eq_none (by omega), List.getElem?_eq_none (by omega)]
    have nd := chs_nd (bd := bd) (n := n) h.nd
    rw [List.nodup_iff_pairwise_ne, List.pairwise_map] at *
    exact nd.imp_of_mem fun {a b} ha hb ne z => ne (key a ha b hb z)
  · constructor
    · intro hT
      have hf := treeL_filter (by rw [e1]; exact ndT) hT
      rw [e1] at hf
      have ok := (treeL_mem (n := rows.length) (es := esS rows (tsS rows)) (P := fun v => v) (s := fun t => decide (t ∈ T)) (by rw [e1]; exact ndT)).mp (by rw [e1, ← hf]; exact hT)
      obtain ⟨o, ol⟩ := (h.tree _).mp ok
      obtain ⟨c, hc, hk⟩ := one_ch o
      refine List.mem_map.mpr ⟨c, hc, ?_⟩
      rw [ch_srt h hc]
      refine Eq.trans ?_ hf.symm
      refine List.filter_congr fun t ht => ?_
      refine Bool.eq_iff_iff.mpr ?_
      rw [decide_eq_true_iff, decide_eq_true_iff, ch_mem h hc]
      constructor
      · rintro ⟨i, hi, ci, _⟩
        obtain ⟨u, hu, _, us, _⟩ := hk i hi
        rw [ci] at hu
        rw [Option.some.inj hu]
        exact of_decide_eq_true us
      · intro q
        rcases h.mem.mp (tsS_mem.mp ht) with ⟨i, hi, b⟩ | b
        · obtain ⟨u, hu, ub, us, uu⟩ := hk i hi
          have := uu t b (decide_eq_true q)
          subst this
          exact ⟨i, hi, hu, ub⟩
        · have := ol t b
          exact absurd (decide_eq_true q) (by show ¬ decide (t ∈ T) = true; rw [show decide (t ∈ T) = false from this]; exact fun z => nomatch z)
    · intro hT
      obtain ⟨c, hc, rfl⟩ := List.mem_map.mp hT
      rw [ch_srt h hc]
      have := (treeL_mem (n := rows.length) (es := esS rows (tsS rows)) (P := fun v => v) (s := fun t => decide (t ∈ c)) (by rw [e1]; exact ndT)).mpr ((h.tree _).mpr (ch_one h hc))
      rw [e1] at this
      exact this
theorem ch_nT (h : Chn rows n bd lp) : nT rows = prodN (fun i => (bd i).length) n := by
  have e := (ch_trees h).length_eq
  rw [List.length_map, chs_len] at e
  rw [← e]
  unfold treesL
  rw [treeL_len, show (esS rows (tsS rows)).map (·.2) = (tsS rows).map (prT rows) from (pair_map' (rows := rows) (tsS rows)).2, ← nT_S h.two h.P.ne]
end
end Tw
set_option Elab.async false
set_option linter.all false
set_option maxRecDepth 100000
set_option maxHeartbeats 4000000
namespace Tw
open PySem PySem.Spec L2 TL
open PyProof.Rows hiding St
theorem tolM_T {Ω : Type} {f : Tp Int → M Ω} {g : List Int → M Ω} {p : Ω → Prop} (v : Tol) (h : ∀ l, f ⟨l⟩ = g l) (k : (g v.v).T p) : (tolM v f g).T p := by
  cases v with
  | tp l => show (f ⟨l⟩).T p; rw [h]; exact k
  | ls l => exact k
/-- the sizes -/
structure SzP (ss : List Nat) : Prop where
  pos : ∀ x ∈ ss, 1 ≤ x
  sum : ss.sum ≤ 40
  len : ss.length ≤ 20
def iS (ss : List Nat) : List Int := ss.map fun (x : Nat) => (x : Int)
def menu65 : List (List Nat) := [[3, 4, 5, 5], [4, 7, 11], [13, 23], [2, 3, 5, 10], [17, 18], [7, 6, 7], [2, 2, 3, 5, 5], [4, 4, 19]]
theorem menu_ok : ∀ x ∈ menu65, SzP x := by
  have : ∀ x ∈ menu65, (∀ y ∈ x, 1 ≤ y) ∧ x.sum ≤ 40 ∧ x.length ≤ 20 := by decide
  exact fun x hx => ⟨(this x hx).1, (this x hx).2.1, (this x hx).2.2⟩
theorem atl {α : Type} {l : List α} {x : α} {n : Nat} (hl : l.length = n + 1) (h : l[n]? = some x) : atI l (-1 : Int) = some x := by
  unfold atI ixN
  rw [if_neg (by omega), if_pos (by omega), hl, show ((-1 : Int) + ((n + 1 : Nat) : Int)).toNat = n by omega]
  exact h
theorem ixl {n : Nat} : ixN (n + 1) (-1 : Int) = some n := by
  unfold ixN
  rw [if_neg (by omega), if_pos (by omega), show ((-1 : Int) + ((n + 1 : Nat) : Int)).toNat = n by omega]
theorem sizes_T {b : Int} (hb : 0 ≤ b) : (F__law_sizes_by b).T fun v => ∃ ss, v.v = iS ss ∧ SzP ss := by
  have m3 := Int.emod_nonneg b (show (3 : Int) ≠ 0 by decide)
  have d3 : 0 ≤ b / 3 := Int.ediv_nonneg hb (by decide)
  have d15 : 0 ≤ b / 3 / 15 := Int.ediv_nonneg d3 (by decide)
  have l8 := Int.emod_lt_of_pos (b / 3) (show (0 : Int) < 8 by decide)
  have n8 := Int.emod_nonneg (b / 3) (show (8 : Int) ≠ 0 by decide)
  have l5 := Int.emod_lt_of_pos (b / 3) (show (0 : Int) < 5 by decide)
  have n5 := Int.emod_nonneg (b / 3) (show (5 : Int) ≠ 0 by decide)
  have l15 := Int.emod_lt_of_pos (b / 3) (show (0 : Int) < 15 by decide)
  have n15 := Int.emod_nonneg (b / 3) (show (15 : Int) ≠ 0 by decide)
  unfold F__law_sizes_by
  have ln : ∀ {n : Nat}, n ≤ 100 → n ≤ sizeLine := fun h => line_of (by omega)
  refine M.T_b (M.T_b ?_)
  iterate 7 refine M.T_b (M.T_chk (ln (by decide)) (M.T_ok (M.T_b ?_)))
  refine M.T_b (M.T_chk (ln (by decide)) (M.T_ok (M.T_ok ?_)))
  iterate 7 refine M.T_ok ?_
  refine M.T_chk (ln (by decide)) (M.T_ok (M.T_b ?_))
  refine M.T_chk (cdiv (by decide) (by decide)) (M.T_ok (M.T_b (M.T_b (M.T_chk (cpos (by decide)) (M.T_ok (M.T_ok (M.T_ite (fun z => ?_) fun z => ?_)))))))
  · refine M.T_b (M.T_b (M.T_chk (cpos (by decide)) (M.T_ok ?_)))
    obtain ⟨k, hk, e⟩ : ∃ k : Nat, k < 8 ∧ b / 3 % 8 = (k : Int) := ⟨(b / 3 % 8).toNat, by omega, by omega⟩
    rw [e]
    have g : ∀ k : Nat, k < 8 → ∃ x ∈ menu65, (menu65.map fun x => (⟨iS x⟩ : Tp Int))[k]? = some ⟨iS x⟩ := fun k hk => by
      refine ⟨menu65[k]'hk, List.getElem_mem _, ?_⟩
      rw [List.getElem?_map, List.getElem?_eq_getElem hk]
      rfl
    obtain ⟨x, hx, gx⟩ := g k hk
    exact M.T_get (atI_nat (xs := menu65.map fun x => (⟨iS x⟩ : Tp Int)) gx) (M.T_ok ⟨x, rfl, menu_ok x hx⟩)
  · refine M.T_b (M.T_chk (cpos (by decide)) (M.T_ok (M.T_b ?_)))
    have fin : ∀ many : Int, 0 ≤ many → many ≤ 20 → M.T (M.b (M.chk (CDivW (b / 3) (15 : Int)) (M.ok (b / 3 / (15 : Int)))) fun v29 => (M.b (M.ok (40 : Int)) fun v30 => (M.b (M.ok ([] : (List Int))) fun v31 => (M.b (M.b (M.chk (-(2 ^ 62) ≤ many ∧ many < 2 ^ 62) (M.ok (rng 0 many))) fun x40 => (M.for_ (fun (s32 : (List Int) × Int × Int) (x33 : Int) => (M.b (M.ok (if (s32.2.1 - ((many - (1 : Int)) - x33)) < (8 : Int) then (s32.2.1 - ((many - (1 : Int)) - x33)) else (8 : Int))) fun v34 => (M.b (M.b (M.chk (CPos s32.2.2 v34) (M.ok (s32.2.2 % v34))) fun x35 => (M.ok ((1 : Int) + x35))) fun a36 => M.chk (s32.1.length < sizeLine) (M.b (M.b (M.get (atI (s32.1 ++ [a36]) (-(1 : Int)))) fun x37 => (M.ok (s32.2.1 - x37))) fun v38 => (M.b (M.chk (CDivW s32.2.2 v34) (M.ok (s32.2.2 / v34))) fun v39 => (M.ok ((s32.1 ++ [a36]), v38, v39))))))) x40 (v31, v30, v29))) fun s41 => (M.ok (Tol.ls s41.1)))))) fun v => ∃ ss, v.v = iS ss ∧ SzP ss := fun many h0 h20 => by
      refine M.T_b (M.T_chk (cdiv (by decide) (by decide)) (M.T_ok (M.T_b (M.T_ok (M.T_b (M.T_ok (M.T_b (M.T_b (M.T_chk (rng_side (by omega)) (M.T_ok ?_)))))))))) 
      refine M.T_rng (fun k (s : List Int × Int × Int) => ∃ ss : List Nat, s.1 = iS ss ∧ ss.length = k ∧ (∀ x ∈ ss, 1 ≤ x) ∧ s.2.1 = 40 - (ss.sum : Int) ∧ many - (k : Int) ≤ s.2.1 ∧ 0 ≤ s.2.2) ⟨[], rfl, rfl, fun _ h => (by cases h), rfl, (show many - 0 ≤ 40 by omega), d15⟩ (fun k s hk ⟨ss, e1, e2, e3, e4, e5, e6⟩ => ?_) fun s ⟨ss, e1, e2, e3, e4, e5, e6⟩ => M.T_ok ⟨ss, e1, e3, by omega, by omega⟩
      refine M.T_b (M.T_ok ?_)
      have hm : ∃ m : Int, (if (s.2.1 - ((many - (1 : Int)) - (k : Int))) < (8 : Int) then (s.2.1 - ((many - (1 : Int)) - (k : Int))) else (8 : Int)) = m ∧ 1 ≤ m ∧ m ≤ 8 ∧ m ≤ s.2.1 - ((many - 1) - (k : Int)) := by
        by_cases c : (s.2.1 - ((many - (1 : Int)) - (k : Int))) < 8
        · exact ⟨_, if_pos c, by omega, by omega, by omega⟩
        · exact ⟨_, if_neg c, by omega, by omega, by omega⟩
      obtain ⟨m, em, m1, m8, ml⟩ := hm
      rw [em]
      have r0 := Int.emod_nonneg s.2.2 (show m ≠ 0 by omega)
      have r1 := Int.emod_lt_of_pos s.2.2 (show 0 < m by omega)
      have q0 : 0 ≤ s.2.2 / m := Int.ediv_nonneg e6 (by omega)
      have ll : s.1.length = k := by rw [e1]; unfold iS; rw [List.length_map, e2]
      refine M.T_b (M.T_b (M.T_chk (cpos (by omega)) (M.T_ok (M.T_ok (M.T_chk (line_lt (by omega)) (M.T_b (M.T_b (M.T_get (a := 1 + s.2.2 % m) (atl (n := k) (by simp [ll]) ?_) (M.T_ok (M.T_b (M.T_chk (cdiv (by omega) (by omega)) (M.T_ok (M.T_ok ?_)))))))))))))
      · rw [List.getElem?_append_right (by omega), ll, Nat.sub_self]; rfl
      · refine ⟨ss ++ [(1 + s.2.2 % m).toNat], ?_, by simp [e2], fun x hx => ?_, ?_, ?_, q0⟩
        · show s.1 ++ _ = _
          rw [e1]
          unfold iS
          rw [List.map_append, List.map_cons, List.map_nil, show (((1 + s.2.2 % m).toNat : Nat) : Int) = 1 + s.2.2 % m by omega]
        · rcases List.mem_append.mp hx with q | q
          · exact e3 x q
          · rw [List.mem_singleton.mp q]; omega
        · show s.2.1 - (1 + s.2.2 % m) = _
          rw [List.sum_append, List.sum_cons, List.sum_nil]
          omega
        · show many - ((k + 1 : Nat) : Int) ≤ s.2.1 - (1 + s.2.2 % m)
          omega
    refine M.T.imp (p := fun (m : Int) => 0 ≤ m ∧ m ≤ 20) ?_ fun m hm => fin m hm.1 hm.2
    refine M.T_b (M.T_b (M.T_chk (cpos (by decide)) (M.T_ok (M.T_ok (M.T_ite (fun z => M.T_b (M.T_b (M.T_chk (cpos (by decide)) (M.T_ok (M.T_ok (M.T_ok ⟨by omega, by omega⟩)))))) fun z => M.T_ok ⟨by omega, by omega⟩)))))
def offS (ss : List Nat) (k : Nat) : Nat := (ss.take k).sum
theorem off_succ {ss : List Nat} {k : Nat} (h : k < ss.length) : offS ss (k + 1) = offS ss k + ss.getD k 0 := by
  unfold offS
  rw [List.take_add_one, List.sum_append, List.getElem?_eq_getElem h, List.getD_eq_getElem?_getD, List.getElem?_eq_getElem h]
  simp
theorem off_le {ss : List Nat} {k : Nat} : offS ss k ≤ ss.sum := by
  have : ss.sum = (ss.take k).sum + (ss.drop k).sum := by rw [← List.sum_append, List.take_append_drop]
  unfold offS
  omega
theorem off_mono {ss : List Nat} : ∀ {i j : Nat}, i ≤ j → offS ss i ≤ offS ss j := fun {i j} h => by
  have : (ss.take j).take i = ss.take i := by rw [List.take_take, Nat.min_eq_left h]
  unfold offS
  rw [← this]
  exact off_le (ss := ss.take j)
def bdS (ss : List Nat) (nm : List Str) (k : Nat) : List Str := (nm.drop (offS ss k)).take (ss.getD k 0)
theorem cut_S {nm : List Str} {a s : Nat} (h : a + s ≤ nm.length) : cutL nm (some (a : Int)) (some ((a : Int) + (s : Int))) = (nm.drop a).take s := by
  unfold cutL
  rw [show (a : Int) + (s : Int) = ((a + s : Nat) : Int) by omega, HT.sIx_nat, HT.sIx_nat, Nat.min_eq_left h, Nat.min_eq_left (show a ≤ nm.length by omega), show a + s - a = s by omega]
def rowK (bd : Nat → List Str) (k w : Nat) : List Str := (if 0 < w ∧ w ≤ k then (bd (w - 1)).reverse else []) ++ (if w < k then bd w else [])
theorem rowK_step {bd : Nat → List Str} {n k : Nat} (hk : k < n) : (((List.range (n + 1)).map (rowK bd k)).set k (rowK bd k k ++ bd k)).set (k + 1) (rowK bd k (k + 1) ++ (bd k).reverse) = (List.range (n + 1)).map (rowK bd (k + 1)) := by
  refine List.ext_getElem? fun w => ?_
  rw [List.getElem?_set, List.getElem?_set, List.length_set, List.length_map, List.length_range, List.getElem?_map, List.getElem?_map]
  by_cases a : k + 1 = w
  · subst a
    rw [if_pos rfl, if_pos (by omega), List.getElem?_range (by omega)]
    show some _ = some _
    unfold rowK
    rw [if_neg (by omega), if_neg (by omega), if_pos (by omega), if_neg (by omega)]
    simp
  · rw [if_neg a]
    by_cases b : k = w
    · subst b
      rw [if_pos rfl, if_pos (by omega), List.getElem?_range (by omega)]
      show some _ = some _
      unfold rowK
      rw [if_neg (show ¬ k < k by omega), List.append_nil, if_pos (show k < k + 1 by omega)]
      by_cases c : 0 < k
      · rw [if_pos ⟨c, Nat.le_refl _⟩, if_pos ⟨c, by omega⟩]
      · rw [if_neg (fun z => c z.1), if_neg (fun z => c z.1)]
    · rw [if_neg b]
      by_cases c : w < n + 1
      · rw [List.getElem?_range c]
        show some _ = some _
        unfold rowK
        have q1 : (0 < w ∧ w ≤ k) ↔ (0 < w ∧ w ≤ k + 1) := ⟨fun z => ⟨z.1, by omega⟩, fun z => ⟨z.1, by omega⟩⟩
        have q2 : (w < k) ↔ (w < k + 1) := ⟨fun z => by omega, fun z => by omega⟩
        simp only [q1, q2]
      · rw [List.getElem?_eq_none (by simp; omega)]
        rfl
def lpS (ss : List Nat) (nm : List Str) : List Str := if offS ss ss.length < 40 then [nm.getD (offS ss ss.length) ""] else []
def rowS (ss : List Nat) (nm : List Str) (w : Nat) : List Str := rowK (bdS ss nm) ss.length w ++ (if w = ss.length then lpS ss nm ++ lpS ss nm else [])
def rows65 (ss : List Nat) (nm pts : List Str) : RowsT := (List.range (ss.length + 1)).map fun w => (pts.getD w "", rowS ss nm w)
theorem rowK_len (ss : List Nat) (nm : List Str) (h : nm.length = 41) (k w : Nat) : (rowK (bdS ss nm) k w).length ≤ 82 := by
  have b : ∀ i, (bdS ss nm i).length ≤ 41 := fun i => by unfold bdS; rw [List.length_take, List.length_drop]; omega
  unfold rowK
  rw [List.length_append]
  have h1 := b (w - 1)
  have h2 := b w
  split <;> split <;> simp only [List.length_reverse, List.length_nil] <;> omega
theorem rows_ok {ss : List Nat} (S : SzP ss) {nm pts : List Str} (hn : nm.length = 41) (hp : pts.length = 21) : F__law_rows (iS ss) nm pts = .ok (rows65 ss nm pts) := by
  have sl := S.len
  have sm := S.sum
  have il : (iS ss).length = ss.length := by unfold iS; rw [List.length_map]
  refine M.T_is ?_
  unfold F__law_rows
  rw [il, show ((ss.length : Nat) : Int) + 1 = ((ss.length + 1 : Nat) : Int) by omega]
  refine M.T_b (M.T_b (M.T_chk (rng_side (by omega)) (M.T_ok (M.T_chk (line_of (by rw [rng_nat, List.length_map, List.length_range]; omega)) ?_))))
  rw [M.lc_map (f := fun _ => ([] : List Str)) _ fun _ _ => rfl]
  refine M.T_ok (M.T_b (M.T_ok (M.T_b (M.T_b (M.T_chk (rng_side (by omega)) (M.T_ok ?_))))))
  refine M.T_rng (fun k (s : List (List Str) × Int) => s.1 = (List.range (ss.length + 1)).map (rowK (bdS ss nm) k) ∧ s.2 = (offS ss k : Int)) ⟨?_, rfl⟩ (fun k s hk ⟨e1, e2⟩ => ?_) fun s ⟨e1, e2⟩ => ?_
  · show (rng 0 ((ss.length + 1 : Nat) : Int)).map (fun _ => ([] : List Str)) = _
    rw [rng_nat, List.map_map]
    refine List.map_congr_left fun w _ => ?_
    unfold rowK
    rw [if_neg (by omega), if_neg (by omega)]
    rfl
  · have hk : k < ss.length := by omega
    have g : atI (iS ss) (k : Int) = some ((ss.getD k 0 : Nat) : Int) := atI_nat (by unfold iS; rw [List.getElem?_map, List.getElem?_eq_getElem hk, List.getD_eq_getElem?_getD, List.getElem?_eq_getElem hk]; rfl)
    have ol := off_le (ss := ss) (k := k + 1)
    have os := off_succ hk
    have ct : cutL nm (some s.2) (some (s.2 + ((ss.getD k 0 : Nat) : Int))) = bdS ss nm k := by rw [e2]; exact cut_S (by omega)
    have at1 : atI s.1 (k : Int) = some (rowK (bdS ss nm) k k) := atI_nat (by rw [e1, List.getElem?_map, List.getElem?_range (by omega)]; rfl)
    have len : s.1.length = ss.length + 1 := by rw [e1]; simp
    have bl : (bdS ss nm k).length ≤ 41 := by unfold bdS; rw [List.length_take, List.length_drop]; omega
    have l1 := rowK_len ss nm hn k k
    have l2 := rowK_len ss nm hn k (k + 1)
    refine M.T_b (M.T_b (M.T_b (M.T_b (M.T_get g (M.T_ok (M.T_ok (M.T_ok ?_)))))))
    rw [ct]
    refine M.T_b (M.T_b (M.T_get g (M.T_ok (M.T_b (M.T_b (M.T_get at1 (M.T_chk (line_of (by omega)) (M.T_ok (M.T_b (M.T_ok (M.T_b (M.T_get (a := k) (by rw [len]; exact ixN_nat (by omega)) ?_))))))))))))
    have at2 : atI (s.1.set k (rowK (bdS ss nm) k k ++ bdS ss nm k)) ((k : Int) + 1) = some (rowK (bdS ss nm) k (k + 1)) := by
      rw [show (k : Int) + 1 = ((k + 1 : Nat) : Int) by omega]
      refine atI_nat ?_
      rw [List.getElem?_set_ne (by omega), e1, List.getElem?_map, List.getElem?_range (by omega)]
      rfl
    refine M.T_b (M.T_b (M.T_get at2 (M.T_b (M.T_chk (line_of (n := (bdS ss nm k).reverse.length) (by rw [List.length_reverse]; omega)) ?_))))
    rw [M.lc_map (f := fun y => y) _ fun _ _ => rfl, List.map_id']
    refine M.T_ok (M.T_chk (line_of (by rw [List.length_reverse]; omega)) (M.T_ok (M.T_b (M.T_ok (M.T_b (M.T_get (a := k + 1) (by rw [List.length_set, len, show (k : Int) + 1 = ((k + 1 : Nat) : Int) by omega]; exact ixN_nat (by omega)) (M.T_ok ⟨?_, ?_⟩)))))))
    · show (s.1.set k _).set (k + 1) _ = _
      rw [e1]
      exact rowK_step hk
    · show s.2 + _ = _
      rw [e2, os]
      omega
  · rw [Int.toNat_natCast] at e1 e2
    have ol := off_le (ss := ss) (k := ss.length)
    have len : s.1.length = ss.length + 1 := by rw [e1]; simp
    refine M.T_b ?_
    refine M.T.imp (p := fun r => r = (List.range (ss.length + 1)).map (rowS ss nm)) ?_ fun r hr => ?_
    · refine M.T_ite (fun z => ?_) fun z => ?_
      · have z := of_decide_eq_true z
        rw [e2] at z
        have z : offS ss ss.length < 40 := by omega
        have g1 : atI s.1 (-1 : Int) = some (rowK (bdS ss nm) ss.length ss.length) := atl len (by rw [e1, List.getElem?_map, List.getElem?_range (by omega)]; rfl)
        have g2 : atI nm s.2 = some (nm.getD (offS ss ss.length) "") := by
          rw [e2]
          exact atI_nat (by rw [List.getD_eq_getElem?_getD, List.getElem?_eq_getElem (by omega)]; rfl)
        have l1 := rowK_len ss nm hn ss.length ss.length
        refine M.T_b (M.T_b (M.T_get g1 (M.T_b (M.T_b (M.T_b (M.T_get g2 (M.T_b (M.T_b (M.T_get g2 (M.T_ok (M.T_ok (M.T_chk (line_of (by simp)) (M.T_ok (M.T_chk (line_of (by simp; omega)) (M.T_ok (M.T_b (M.T_ok (M.T_b (M.T_get (a := ss.length) (by rw [len]; exact ixl) (M.T_ok ?_))))))))))))))))))))
        refine List.ext_getElem? fun w => ?_
        rw [List.getElem?_set, len, e1, List.getElem?_map, List.getElem?_map]
        by_cases a : ss.length = w
        · subst a
          rw [if_pos rfl, if_pos (by omega), List.getElem?_range (by omega)]
          show some _ = some _
          unfold rowS lpS
          rw [if_pos rfl, if_pos z]
          rfl
        · rw [if_neg a]
          by_cases c : w < ss.length + 1
          · rw [List.getElem?_range c]
            show some _ = some _
            unfold rowS
            rw [if_neg fun q => a q.symm, List.append_nil]
          · rw [List.getElem?_eq_none (by simp; omega)]
            rfl
      · have z : ¬ offS ss ss.length < 40 := fun q => z (decide_eq_true (by rw [e2]; omega))
        refine M.T_ok ?_
        rw [e1]
        refine List.map_congr_left fun w _ => ?_
        unfold rowS lpS
        rw [if_neg z]
        simp
    · subst hr
      refine M.T_b (M.T_chk (rng_side (by rw [List.length_map, List.length_range]; omega)) (M.T_ok (M.T_chk (line_of (by rw [rng_nat, List.length_map, List.length_range, List.length_map, List.length_range]; omega)) ?_)))
      rw [List.length_map, List.length_range, rng_nat, M.lc_map (f := fun y : Int => (pts.getD y.toNat "", rowS ss nm y.toNat)) _ fun y hy => ?_]
      · refine M.T_ok ?_
        rw [List.map_map]
        rfl
      · obtain ⟨w, hw, rfl⟩ := List.mem_map.mp hy
        have hw := List.mem_range.mp hw
        have g1 : atI pts (w : Int) = some (pts.getD w "") := atI_nat (by rw [List.getD_eq_getElem?_getD, List.getElem?_eq_getElem (by omega)]; rfl)
        have g2 : atI ((List.range (ss.length + 1)).map (rowS ss nm)) (w : Int) = some (rowS ss nm w) := atI_nat (by rw [List.getElem?_map, List.getElem?_range hw]; rfl)
        rw [g1, g2]
        rfl
theorem bdS_len {ss : List Nat} (S : SzP ss) {nm : List Str} (hn : nm.length = 41) {i : Nat} (hi : i < ss.length) : (bdS ss nm i).length = ss.getD i 0 := by
  have := off_succ hi
  have := off_le (ss := ss) (k := i + 1)
  have := S.sum
  unfold bdS
  rw [List.length_take, List.length_drop]
  omega
theorem bdS_mem {ss : List Nat} {nm : List Str} {i : Nat} (hi : i < ss.length) {t : Str} (h : t ∈ bdS ss nm i) : ∃ q, nm[q]? = some t ∧ offS ss i ≤ q ∧ q < offS ss (i + 1) := by
  obtain ⟨p, hp⟩ := List.mem_iff_getElem?.mp h
  have os := off_succ hi
  unfold bdS at hp
  rw [List.getElem?_take] at hp
  split at hp
  · rw [List.getElem?_drop] at hp
    exact ⟨_, hp, by omega, by omega⟩
  · cases hp
theorem rowS_at {ss : List Nat} {nm pts : List Str} {w : Nat} (h : w < ss.length + 1) : rowT (rows65 ss nm pts) w = rowS ss nm w := by
  unfold rows65
  exact row_some (x := (pts.getD w "", rowS ss nm w)) (by rw [List.getElem?_map, List.getElem?_range h]; rfl)
theorem rows_len (ss : List Nat) (nm pts : List Str) : (rows65 ss nm pts).length = ss.length + 1 := by unfold rows65; rw [List.length_map, List.length_range]
theorem chn65 {ss : List Nat} (S : SzP ss) {nm pts : List Str} (hn : nm.length = 41) (nd : nm.Nodup) (hp : pts.length = 21) (pd : pts.Nodup) : Chn (rows65 ss nm pts) ss.length (bdS ss nm) (lpS ss nm) where
  len := rows_len ss nm pts
  row := fun w hw => by
    rw [rowS_at (by omega)]
    unfold rowS rowK
    by_cases c : 0 < w
    · rw [if_pos ⟨c, hw⟩, if_pos c]
    · rw [if_neg (fun z => c z.1), if_neg c]
  nd := fun i _ => (((List.take_sublist _ _).trans (List.drop_sublist _ _)).nodup nd : (bdS ss nm i).Nodup)
  dj := fun i j t hi hj a b => by
    obtain ⟨p, hp, p1, p2⟩ := bdS_mem hi a
    obtain ⟨q, hq, q1, q2⟩ := bdS_mem hj b
    have e : p = q := (List.getElem?_inj (List.getElem?_eq_some_iff.mp hp).1 nd).mp (by rw [hp, hq])
    subst e
    rcases Nat.lt_trichotomy i j with z | z | z
    · have := off_mono (ss := ss) (show i + 1 ≤ j by omega); omega
    · exact z
    · have := off_mono (ss := ss) (show j + 1 ≤ i by omega); omega
  ldj := fun i t hi a b => by
    obtain ⟨p, hp, p1, p2⟩ := bdS_mem hi a
    have m := off_mono (ss := ss) (show i + 1 ≤ ss.length by omega)
    unfold lpS at b
    split at b
    · have b := List.mem_singleton.mp b
      rw [List.getD_eq_getElem?_getD, List.getElem?_eq_getElem (by omega), Option.getD_some] at b
      have e : p = offS ss ss.length := (List.getElem?_inj (List.getElem?_eq_some_iff.mp hp).1 nd).mp (by rw [hp, b, List.getElem?_eq_getElem])
      omega
    · cases b
  lnd := by unfold lpS; split <;> simp
  ne := fun i hi z => by
    have l := bdS_len S hn hi
    rw [z] at l
    have : ss.getD i 0 ∈ ss := by rw [List.getD_eq_getElem?_getD, List.getElem?_eq_getElem hi]; exact List.getElem_mem hi
    have := S.pos _ this
    rw [List.length_nil] at l
    omega
  pn := by
    have sl := S.len
    have : (rows65 ss nm pts).map (·.1) = pts.take (ss.length + 1) := by
      refine List.ext_getElem? fun w => ?_
      unfold rows65
      rw [List.map_map, List.getElem?_map]
      by_cases c : w < ss.length + 1
      · rw [List.getElem?_range c, List.getElem?_take_of_lt c]
        show some (pts.getD w "") = _
        rw [List.getD_eq_getElem?_getD, List.getElem?_eq_getElem (by omega)]
        rfl
      · rw [List.getElem?_eq_none (by simp; omega), List.getElem?_eq_none (by simp; omega)]
        rfl
    rw [this]
    exact (List.take_sublist _ _).nodup pd
theorem len_cnt (nm : List Str) : ∀ l : List Str, (∀ t ∈ l, t ∈ nm) → l.length ≤ (nm.map fun x => l.count x).sum
  | [], _ => Nat.zero_le _
  | a :: l, h => by
    have ih := len_cnt nm l fun t ht => h t (List.mem_cons_of_mem _ ht)
    have e : (nm.map fun x => (a :: l).count x).sum = (nm.map fun x => l.count x).sum + (nm.map fun x => if a = x then 1 else 0).sum := by
      generalize nm = m
      induction m with
      | nil => rfl
      | cons b m ihm =>
        rw [List.map_cons, List.map_cons, List.map_cons, List.sum_cons, List.sum_cons, List.sum_cons, ihm, List.count_cons]
        by_cases q : a = b
        · simp [q]; omega
        · simp [q]; omega
    have p : 1 ≤ (nm.map fun x => if a = x then 1 else 0).sum := by
      have ha := h a List.mem_cons_self
      generalize nm = m at ha
      induction m with
      | nil => cases ha
      | cons b m ihm =>
        rw [List.map_cons, List.sum_cons]
        rcases List.mem_cons.mp ha with q | q
        · rw [if_pos q]; omega
        · have := ihm q; omega
    rw [e, List.length_cons]
    omega
theorem net65 {ss : List Nat} (S : SzP ss) {nm pts : List Str} (hn : nm.length = 41) (nd : nm.Nodup) (hp : pts.length = 21) (pd : pts.Nodup) : NetR (rows65 ss nm pts) ∧ (uniq (ties (rows65 ss nm pts))).length < 64 ∧ ∀ t ∈ ties (rows65 ss nm pts), t ∈ nm := by
  have C := chn65 S hn nd hp pd
  have sl := S.len
  have two := C.two
  have sub : ∀ t ∈ ties (rows65 ss nm pts), t ∈ nm := fun t ht => by
    rcases C.mem.mp ht with ⟨i, _, q⟩ | q
    · exact ((List.take_sublist _ _).trans (List.drop_sublist _ _)).subset q
    · unfold lpS at q
      split at q
      · rw [List.mem_singleton.mp q, List.getD_eq_getElem?_getD, List.getElem?_eq_getElem (by omega)]
        exact List.getElem_mem _
      · cases q
  have cnt : (ties (rows65 ss nm pts)).length ≤ 82 := by
    refine Nat.le_trans (len_cnt nm _ sub) ?_
    have : ∀ l : List Str, (l.map fun x => (ties (rows65 ss nm pts)).count x).sum ≤ 2 * l.length := fun l => by
      induction l with
      | nil => exact Nat.le_refl _
      | cons a l ih =>
        rw [List.map_cons, List.sum_cons, List.length_cons]
        have : (ties (rows65 ss nm pts)).count a ≤ 2 := by
          by_cases q : a ∈ ties (rows65 ss nm pts)
          · rw [two a q]; exact Nat.le_refl _
          · rw [List.count_eq_zero.mpr q]; omega
        omega
    have := this nm
    omega
  have rl := rows_len ss nm pts
  have uh := uniq_half two
  exact ⟨⟨C.P, ⟨by omega, by rw [ends_len]; omega⟩, by omega⟩, by omega, sub⟩
def tN (k : Nat) : Str := Str.ofString "t" ++ (toString ((k : Nat) : Int) : Str)
theorem tN_small : ∀ k : Nat, k < 41 → ((k : Int).natAbs.log2 < 1920) ∧ ((Str.ofString "t").length + (toString (k : Int) : Str).length ≤ 1000) ∧ ((tN k).cps.all (· < 0x110000) = true) ∧ ∀ j : Nat, j < 41 → tN k = tN j → k = j := by decide +kernel
def nmT (d : Int) (m : Nat) : List Str := (List.range m).map fun (k : Nat) => tN ((d + (k : Int) * 17) % 41).toNat
theorem nmT_nd {d : Int} : (nmT d 41).Nodup := by
  refine List.pairwise_map.mpr (List.nodup_range.imp_of_mem fun {a b} ha hb ne z => ne ?_)
  have ha := List.mem_range.mp ha
  have hb := List.mem_range.mp hb
  have := (tN_small ((d + (a : Int) * 17) % 41).toNat (by omega)).2.2.2 _ (by omega) z
  omega
theorem nmT_ok {d : Int} : ∀ t ∈ nmT d 41, Dd.Ok t := fun t ht => by
  obtain ⟨k, _, rfl⟩ := List.mem_map.mp ht
  exact (tN_small ((d + (k : Int) * 17) % 41).toNat (by omega)).2.2.1
theorem prodN_congr {f g : Nat → Nat} : ∀ {n : Nat}, (∀ i, i < n → f i = g i) → prodN f n = prodN g n
  | 0, _ => rfl
  | n + 1, h => by
    show prodN f n * f n = prodN g n * g n
    rw [prodN_congr fun i hi => h i (by omega), h n (by omega)]
theorem prodN_mono {f : Nat → Nat} {n : Nat} (h : ∀ i, i < n → 1 ≤ f i) : ∀ m, m ≤ n → prodN f m ≤ prodN f n := by
  induction n with
  | zero => intro m hm; rw [show m = 0 by omega]; exact Nat.le_refl _
  | succ n ih =>
    intro m hm
    by_cases c : m ≤ n
    · refine Nat.le_trans (ih (fun i hi => h i (by omega)) m c) ?_
      exact Nat.le_mul_of_pos_right _ (h n (by omega))
    · rw [show m = n + 1 by omega]; exact Nat.le_refl _
theorem lt_pow2 (x : Nat) : x ≤ 2 ^ x := Nat.le_of_lt Nat.lt_two_pow_self
theorem prodN_pow (ss : List Nat) : ∀ k, k ≤ ss.length → prodN (fun i => ss.getD i 0) k ≤ 2 ^ offS ss k
  | 0, _ => by show 1 ≤ 2 ^ offS ss 0; exact Nat.one_le_two_pow
  | k + 1, h => by
    rw [off_succ (by omega), Nat.pow_add]
    exact Nat.mul_le_mul (prodN_pow ss k (by omega)) (lt_pow2 _)
theorem iS_at {ss : List Nat} {k : Nat} {x : Int} (h : (iS ss)[k]? = some x) : k < ss.length ∧ x = ((ss.getD k 0 : Nat) : Int) := by
  unfold iS at h
  rw [List.getElem?_map] at h
  have hk : k < ss.length := Decidable.byContradiction fun c => by rw [List.getElem?_eq_none (by omega)] at h; cases h
  rw [List.getElem?_eq_getElem hk] at h
  exact ⟨hk, by rw [List.getD_eq_getElem?_getD, List.getElem?_eq_getElem hk]; exact (Option.some.inj h).symm⟩
theorem due65 {ss : List Nat} (S : SzP ss) {nm : List Str} (hn : nm.length = 41) (few : prodN (fun i => ss.getD i 0) ss.length ≤ 300) : F__law_due (iS ss) nm = .ok (srtLs ((chs (bdS ss nm) ss.length).map srt)) := by
  have sl := S.len
  have sm := S.sum
  have il : (iS ss).length = ss.length := by unfold iS; rw [List.length_map]
  have cl : ∀ k, k ≤ ss.length → (chs (bdS ss nm) k).length ≤ 300 := fun k hk => by
    rw [chs_len, prodN_congr (g := fun i => ss.getD i 0) fun i hi => bdS_len S hn (by omega)]
    refine Nat.le_trans (prodN_mono (fun i hi => ?_) k hk) few
    exact S.pos _ (by rw [List.getD_eq_getElem?_getD, List.getElem?_eq_getElem hi]; exact List.getElem_mem hi)
  refine M.T_is ?_
  unfold F__law_due
  refine M.T_b (M.T_chk (line_of (by simp)) (M.T_ok (M.T_b (M.T_ok (M.T_b ?_)))))
  refine M.T_for (fun ys (s : List (List Str) × Int) => s.1 = chs (bdS ss nm) ys.length ∧ s.2 = (offS ss ys.length : Int)) ⟨rfl, rfl⟩ (fun ys x zs s e ⟨e1, e2⟩ => ?_) fun s ⟨e1, e2⟩ => ?_
  · obtain ⟨hk, rfl⟩ := iS_at (ss := ss) (k := ys.length) (x := x) (by rw [e, List.getElem?_append_right (Nat.le_refl _), Nat.sub_self]; rfl)
    have os := off_succ hk
    have ol := off_le (ss := ss) (k := ys.length + 1)
    have ct : cutL nm (some s.2) (some (s.2 + ((ss.getD ys.length 0 : Nat) : Int))) = bdS ss nm ys.length := by rw [e2]; exact cut_S (by omega)
    rw [ct]
    have whole := cl (ys.length + 1) hk
    refine M.T_b (M.T_ok (M.T_b ?_))
    refine M.T_for (fun as (r : List (List Str)) => r = as.flatMap fun c => (bdS ss nm ys.length).map fun t => c ++ [t]) rfl (fun as c bs r e3 e4 => ?_) fun r e4 => ?_
    · have cm : c ∈ chs (bdS ss nm) ys.length := by rw [← e1, e3]; simp
      have cl := (chs_mem.mp cm).1
      have tot : (chs (bdS ss nm) (ys.length + 1)).length = r.length + (bdS ss nm ys.length).length + (bs.flatMap fun c => (bdS ss nm ys.length).map fun t => c ++ [t]).length := by
        show ((chs (bdS ss nm) ys.length).flatMap fun c => (bdS ss nm ys.length).map fun t => c ++ [t]).length = _
        rw [← e1, e3, List.flatMap_append, List.flatMap_cons, List.length_append, List.length_append, List.length_map, ← e4]
        omega
      refine M.T_b ?_
      refine M.T_for (fun us (q : List (List Str)) => q = r ++ us.map fun t => c ++ [t]) (by simp) (fun us t vs q e5 e6 => ?_) fun q e6 => ?_
      · have ul := congrArg List.length e5
        rw [List.length_append, List.length_cons] at ul
        refine M.T_b (M.T_b (M.T_chk (line_of (by simp)) (M.T_ok (M.T_chk (line_of (by simp; omega)) (M.T_ok (M.T_chk (line_lt (by rw [e6, List.length_append, List.length_map]; omega)) (M.T_ok ?_)))))))
        rw [e6, List.map_append, List.append_assoc]
        rfl
      · refine M.T_ok ?_
        rw [e6, e4, List.flatMap_append, List.flatMap_cons, List.flatMap_nil, List.append_nil]
    · refine M.T_ok (M.T_b (M.T_ok (M.T_b (M.T_ok (M.T_ok ⟨?_, ?_⟩)))))
      · show r = _
        rw [e4, e1, List.length_append]
        rfl
      · show s.2 + _ = _
        rw [e2, List.length_append, List.length_cons, List.length_nil, os]
        omega
  · rw [il] at e1 e2
    have := cl ss.length (Nat.le_refl _)
    refine M.T_b (M.T_chk (line_of (by rw [e1]; omega)) ?_)
    rw [M.lc_map (f := srt) _ fun c hc => by
      rw [e1] at hc
      rw [M.chk_of (by rw [(chs_mem.mp hc).1]; omega)]]
    refine M.T_ok ?_
    rw [e1]
    rfl
theorem treesL_ok65 {rows : RowsT} (okt : ∀ t ∈ ties rows, Dd.Ok t) : ∀ x ∈ treesL rows, Dd.Ok x ∧ x.length ≤ (tsS rows).length ∧ ∀ t ∈ x, t ∈ ties rows := fun x hx => by
  have h := treeL_sub hx
  rw [show (esS rows (tsS rows)).map (·.1) = tsS rows from (pair_map' (rows := rows) (tsS rows)).1] at h
  exact ⟨fun t ht => okt t (tsS_mem.mp (h.subset ht)), h.length_le, fun t ht => tsS_mem.mp (h.subset ht)⟩
theorem refused65 {rows : RowsT} (h : F_trees_of rows = .exc "TooMany") : F__law_refused rows = .ok true := by
  unfold F__law_refused
  rw [h]
  simp only [M.b_exc, M.tr_exc, M.b_ok]
  rw [M.chk_of ⟨by simp [XC], by simp [excIs]⟩, M.b_ok]
  rw [M.chk_of ⟨by simp [XC], by decide⟩, M.chk_of (by simp [XC]), M.chk_of (by simp [XC])]
  rfl
theorem law_true (ns : List Int) (h : ns.length ≤ 63) : F_law ⟨ns⟩ = .ok true := by
  refine M.T_is ?_
  unfold F_law
  refine M.T_b (M.T_b (M.T_cl (big_T (by omega) fun b hb => M.T_cl ((sizes_T hb).imp fun v ⟨ss, hv, S⟩ => ?_))))
  refine tolM_T v (fun l => rfl) ?_
  rw [hv]
  refine M.T_b (M.T_b (M.T_cl (cell_T (by omega) (M.T_b (M.T_chk ⟨by decide, by decide, by decide⟩ (M.T_ok (M.T_chk (cpos (by decide)) (M.T_ok ?_))))))))
  have d0 := Int.emod_nonneg (cell ns (0 : Int).toNat) (show (10 : Int) ^ ((18 : Int) : Int).toNat ≠ 0 by decide)
  generalize cell ns (0 : Int).toNat % (10 : Int) ^ ((18 : Int) : Int).toNat = d at d0 ⊢
  refine M.T_b (M.T_ok (M.T_b (M.T_b (M.T_chk (by decide) (M.T_ok ?_)))))
  refine M.T.imp (p := fun r => r = nmT d 41) ?_ fun r hr => ?_
  · refine M.T_rng (fun k (s : List Str) => s = nmT d k) rfl (fun k s hk e => ?_) fun s e => e
    have sm := tN_small ((d + (k : Int) * 17) % 41).toNat (by omega)
    have ec : (((d + (k : Int) * 17) % 41).toNat : Int) = (d + (k : Int) * 17) % 41 := by omega
    rw [ec] at sm
    refine M.T_b (M.T_b (M.T_b (M.T_b (M.T_b (M.T_chk (wide_mul (a := 10) (b := 10) (by omega) (by decide) (by decide) (by decide) (by decide)) (M.T_ok (M.T_ok (M.T_chk (cpos (by decide)) (M.T_ok (M.T_chk sm.1 (M.T_ok (M.T_chk (line_of (Nat.le_trans sm.2.1 (by decide))) (M.T_ok (M.T_chk (line_lt (by rw [e]; unfold nmT; rw [List.length_map, List.length_range]; omega)) (M.T_ok ?_)))))))))))))))
    rw [e]
    unfold nmT
    rw [List.range_succ, List.map_append]
    show _ ++ [_] = _ ++ [tN _]
    unfold tN
    rw [ec]
  · subst hr
    have nl : (nmT d 41).length = 41 := by unfold nmT; rw [List.length_map, List.length_range]
    refine M.T_b (M.T_b (M.T_b (M.T_chk (cdiv (by decide) (by decide)) (M.T_ok (M.T_cl (names_T (by decide) ?_))))))
    have pl : (namesOf (d / 41) (21 : Int).toNat).length = 21 := names_len _ _
    have pd : (namesOf (d / 41) (21 : Int).toNat).Nodup := names_nodup _ (by decide)
    have pm := names_nm (d / 41) (21 : Int).toNat
    generalize namesOf (d / 41) (21 : Int).toNat = pts at pl pd pm ⊢
    rw [rows_ok S nl pl]
    obtain ⟨R, hu, sub⟩ := net65 S nl nmT_nd pl pd
    have C := chn65 S nl nmT_nd pl pd
    have nT := ch_nT C
    rw [prodN_congr (g := fun i => ss.getD i 0) fun i hi => bdS_len S nl hi] at nT
    have tc := (tree_T R C.hang).1
    have tof := trees_of_ok R C.hang hu
    have sl := S.len
    have il : (iS ss).length = ss.length := by unfold iS; rw [List.length_map]
    rw [nT] at tc tof
    refine M.T_cl (M.T_ok (M.T_b (M.T_ok (M.T_b ?_))))
    refine M.T.imp (p := fun (r : Int) => r = ((prodN (fun i => ss.getD i 0) ss.length : Nat) : Int)) ?_ fun r hr => ?_
    · refine M.T_for (fun ys (s : Int) => s = ((prodN (fun i => ss.getD i 0) ys.length : Nat) : Int)) rfl (fun ys x zs s e e1 => ?_) fun s e => by rw [il] at e; exact e
      obtain ⟨hk, rfl⟩ := iS_at (ss := ss) (k := ys.length) (x := x) (by rw [e, List.getElem?_append_right (Nat.le_refl _), Nat.sub_self]; rfl)
      have os := off_succ hk
      have ol := off_le (ss := ss) (k := ys.length + 1)
      have sm := S.sum
      have b1 : prodN (fun i => ss.getD i 0) ys.length < 2 ^ 41 := Nat.lt_of_le_of_lt (Nat.le_trans (prodN_pow ss ys.length (by omega)) (Nat.pow_le_pow_right (by decide) (show offS ss ys.length ≤ 40 by omega))) (by decide)
      have b2 : ss.getD ys.length 0 < 2 ^ 7 := by omega
      have w1 : CMulW s ((ss.getD ys.length 0 : Nat) : Int) := by
        rw [e1]
        exact wide_mul (a := 41) (b := 7) b1 b2 (by decide) (by decide) (by decide)
      refine M.T_b (M.T_chk w1 (M.T_ok (M.T_ok ?_)))
      rw [e1, List.length_append]
      show _ = ((prodN (fun i => ss.getD i 0) ys.length * ss.getD ys.length 0 : Nat) : Int)
      rw [Int.natCast_mul]
    · subst hr
      rw [tc, tof]
      refine M.T_b (M.T_b (M.T_cl (M.T_ok (M.T_ok ?_))))
      rw [decide_eq_true rfl]
      refine M.T_ite (fun z => nomatch z) fun _ => M.T_ite (fun z => ?_) fun z => ?_
      · have z := of_decide_eq_true z
        rw [if_pos (by omega)] at tof
        rw [refused65 tof]
        exact M.T_cl (M.T_ok rfl)
      · have z : prodN (fun i => ss.getD i 0) ss.length ≤ 300 := Decidable.byContradiction fun c => z (decide_eq_true (by omega))
        rw [if_neg (by omega)]
        have okt : ∀ t ∈ ties (rows65 ss (nmT d 41) pts), Dd.Ok t := fun t ht => nmT_ok t (sub t ht)
        have ok1 : Dd.Ok (srtLs (treesL (rows65 ss (nmT d 41) pts))) := fun x hx => (treesL_ok65 okt x ((srtLs_perm _).mem_iff.mp hx)).1
        have eq := srtLs_congr (ch_trees C)
        refine M.T_b (M.T_cl (M.T_ok (M.T_ite (fun _ => ?_) fun w => absurd rfl w)))
        rw [due65 S nl z, ← eq]
        exact M.T_b (M.T_cl (M.T_ok (M.T_chk ⟨ok1, ok1⟩ (M.T_ok (decide_eq_true rfl)))))
end Tw
namespace Tw
open PySem PySem.Spec L2
open PyProof.Rows hiding St
def relabelS (a S0 : Scope) : Scope := { a with names := a.names.map fun (n, k) => if k == NameKind.free && S0.kind == .function && S0.names.lookup n == some .cell then (n, NameKind.cell) else (n, k) }
theorem blkOk_in {X : Cx} {s : Shared} {H : Hp} {scope0 scope : Scope} {env : Env} {cl : List (Str × Addr)} {C : Addr} {fp : List Addr} {N : List Str} {own : List (Str × Nat)} {S0 : Scope} (hN : X.N = N) (hS : env.scope = S0) (h : BlkOk N (relabelS scope0 S0) scope own) : BlkOk (X.blk s H scope0 (compEnvC scope0 cl C env) fp).N (X.blk s H scope0 (compEnvC scope0 cl C env) fp).env.scope scope own := by subst hN hS; exact h
def topS (i : Nat) : Stmt := PySem.Challenge.pw_threewebs_k65_too_many_trees.main.body.getD i (.Pass ⟨0, 0, 0, 0⟩)
def clOf (K : PySem.W.Frag) (n : Str) : Addr := match PySem.W.nsIn K mainGlobals n with | some (some (.ref a)) => a | _ => 0
abbrev gb (K : PySem.W.Frag) : Gb := ⟨K, clOf K⟩
abbrev s__law_sizes_by : Stmt := topS 25
abbrev n2__law_sizes_by : List Str := ["_law_big_here", "_law_menu", "_law_rest", "_law_many", "_law_left", "_law_sizes", "_law_k", "_law_most"]
theorem sc__law_sizes_by : FnScope n2__law_sizes_by ["_law_big_here"] (defScope s__law_sizes_by) := ⟨rfl, rfl, rfl, by decide +kernel, rfl, by decide +kernel, by decide +kernel⟩
abbrev s__law_cell_at : Stmt := topS 22
abbrev n2__law_cell_at : List Str := ["_law_script", "_law_k"]
theorem sc__law_cell_at : FnScope n2__law_cell_at ["_law_script", "_law_k"] (defScope s__law_cell_at) := ⟨rfl, rfl, rfl, by decide +kernel, rfl, by decide +kernel, by decide +kernel⟩
abbrev s__law_big : Stmt := topS 23
abbrev n2__law_big : List Str := ["_law_script", "_law_at", "_law_by", "_law_prime", "_law_cell", "_law_big_here", "_law_k", "_law_one"]
theorem sc__law_big : FnScope n2__law_big ["_law_script", "_law_at"] (defScope s__law_big) := ⟨rfl, rfl, rfl, by decide +kernel, rfl, by decide +kernel, by decide +kernel⟩
abbrev s__law_rowsT : Stmt := topS 26
abbrev n2__law_rowsT : List Str := ["_law_sizes", "_law_names_here", "_law_points", "_law_lists", "_law_at", "_law_k", "_law_bundle", "_law_name"]
theorem sc__law_rowsT : FnScope n2__law_rowsT ["_law_sizes", "_law_names_here", "_law_points"] (defScope s__law_rowsT) := ⟨rfl, rfl, rfl, by decide +kernel, rfl, by decide +kernel, by decide +kernel⟩
abbrev s__law_names : Stmt := topS 24
abbrev n2__law_names : List Str := ["_law_stem", "_law_many", "_law_signs", "_law_size", "_law_spot", "_law_names_here", "_law_v", "_law_name", "_law_k", "_law_turn"]
theorem sc__law_names : FnScope n2__law_names ["_law_stem", "_law_many"] (defScope s__law_names) := ⟨rfl, rfl, rfl, by decide +kernel, rfl, by decide +kernel, by decide +kernel⟩
abbrev s_worth_of : Stmt := topS 12
abbrev n2_worth_of : List Str := ["table", "last", "k", "lead", "line", "front", "at"]
theorem sc_worth_of : FnScope n2_worth_of ["table"] (defScope s_worth_of) := ⟨rfl, rfl, rfl, by decide +kernel, rfl, by decide +kernel, by decide +kernel⟩
abbrev s_points_of : Stmt := topS 6
abbrev n2_points_of : List Str := ["rows", "row"]
theorem sc_points_of : FnScope n2_points_of ["rows"] (defScope s_points_of) := ⟨rfl, rfl, rfl, by decide +kernel, rfl, by decide +kernel, by decide +kernel⟩
abbrev s_points_by_tie : Stmt := topS 9
abbrev n2_points_by_tie : List Str := ["rows", "held", "point", "ties", "tie"]
theorem sc_points_by_tie : FnScope n2_points_by_tie ["rows"] (defScope s_points_by_tie) := ⟨rfl, rfl, rfl, by decide +kernel, rfl, by decide +kernel, by decide +kernel⟩
abbrev s_table_without_first : Stmt := topS 11
abbrev n2_table_without_first : List Str := ["rows", "names", "places", "place", "name", "table", "held", "tie", "one", "other", "line"]
theorem sc_table_without_first : FnScope n2_table_without_first ["rows"] (defScope s_table_without_first) := ⟨rfl, rfl, rfl, by decide +kernel, rfl, by decide +kernel, by decide +kernel⟩
abbrev s_tree_count : Stmt := topS 13
abbrev n2_tree_count : List Str := ["rows"]
theorem sc_tree_count : FnScope n2_tree_count ["rows"] (defScope s_tree_count) := ⟨rfl, rfl, rfl, by decide +kernel, rfl, by decide +kernel, by decide +kernel⟩
abbrev s_ties_of : Stmt := topS 7
abbrev n2_ties_of : List Str := ["rows", "seen", "point", "ties", "tie"]
theorem sc_ties_of : FnScope n2_ties_of ["rows"] (defScope s_ties_of) := ⟨rfl, rfl, rfl, by decide +kernel, rfl, by decide +kernel, by decide +kernel⟩
abbrev s_pairs_of : Stmt := topS 19
abbrev n2_pairs_of : List Str := ["rows", "names", "held", "pairs", "tie"]
theorem sc_pairs_of : FnScope n2_pairs_of ["rows"] (defScope s_pairs_of) := ⟨rfl, rfl, rfl, by decide +kernel, rfl, by decide +kernel, by decide +kernel⟩
abbrev s_made_one : Stmt := topS 16
abbrev n2_made_one : List Str := ["parts", "one", "other", "made", "part"]
theorem sc_made_one : FnScope n2_made_one ["parts", "one", "other"] (defScope s_made_one) := ⟨rfl, rfl, rfl, by decide +kernel, rfl, by decide +kernel, by decide +kernel⟩
abbrev s_parts_from : Stmt := topS 18
abbrev n2_parts_from : List Str := ["many", "pairs", "found", "one", "other"]
theorem sc_parts_from : FnScope n2_parts_from ["many", "pairs"] (defScope s_parts_from) := ⟨rfl, rfl, rfl, by decide +kernel, rfl, by decide +kernel, by decide +kernel⟩
abbrev s_hang_together : Stmt := topS 17
abbrev n2_hang_together : List Str := ["parts", "later", "first", "place", "part"]
theorem sc_hang_together : FnScope n2_hang_together ["parts", "later"] (defScope s_hang_together) := ⟨rfl, rfl, rfl, by decide +kernel, rfl, by decide +kernel, by decide +kernel⟩
abbrev s_trees_of : Stmt := topS 20
abbrev n2_trees_of : List Str := ["rows", "pairs", "later", "grown", "place", "tie", "one", "other", "longer", "some", "parts"]
theorem sc_trees_of : FnScope n2_trees_of ["rows"] (defScope s_trees_of) := ⟨rfl, rfl, rfl, by decide +kernel, rfl, by decide +kernel, by decide +kernel⟩
abbrev s__law_refused : Stmt := topS 28
abbrev n2__law_refused : List Str := ["_law_rows_here", "_law_own", "e"]
theorem sc__law_refused : FnScope n2__law_refused ["_law_rows_here"] (defScope s__law_refused) := ⟨rfl, rfl, rfl, by decide +kernel, rfl, by decide +kernel, by decide +kernel⟩
abbrev s__law_dueT : Stmt := topS 27
abbrev n2__law_dueT : List Str := ["_law_sizes", "_law_names_here", "_law_found", "_law_at", "_law_size", "_law_longer", "_law_some", "_law_name"]
theorem sc__law_dueT : FnScope n2__law_dueT ["_law_sizes", "_law_names_here"] (defScope s__law_dueT) := ⟨rfl, rfl, rfl, by decide +kernel, rfl, by decide +kernel, by decide +kernel⟩
abbrev s__law_rows : Stmt := topS 26
abbrev n2__law_rows : List Str := ["_law_sizes", "_law_names_here", "_law_points", "_law_lists", "_law_at", "_law_k", "_law_bundle", "_law_name"]
theorem sc__law_rows : FnScope n2__law_rows ["_law_sizes", "_law_names_here", "_law_points"] (defScope s__law_rows) := ⟨rfl, rfl, rfl, by decide +kernel, rfl, by decide +kernel, by decide +kernel⟩
abbrev s__law_due : Stmt := topS 27
abbrev n2__law_due : List Str := ["_law_sizes", "_law_names_here", "_law_found", "_law_at", "_law_size", "_law_longer", "_law_some", "_law_name"]
theorem sc__law_due : FnScope n2__law_due ["_law_sizes", "_law_names_here"] (defScope s__law_due) := ⟨rfl, rfl, rfl, by decide +kernel, rfl, by decide +kernel, by decide +kernel⟩
abbrev s_law : Stmt := topS 29
abbrev n2_law : List Str := ["_law_script", "_law_sizes", "_law_drawn", "_law_names_here", "_law_k", "_law_rows_here", "_law_many", "_law_size", "_law_told"]
theorem sc_law : FnScope n2_law ["_law_script"] (defScope s_law) := ⟨rfl, rfl, rfl, by decide +kernel, rfl, by decide +kernel, by decide +kernel⟩
structure Top (K : PySem.W.Frag) (mg : Str → Option Value) (a : Nat → Addr) (d : Nat → FuncData) : Prop where
  f__law_sizes_by : Fun K "_law_sizes_by" "_law_sizes_by" s__law_sizes_by (a 0) (d 0)
  b__law_sizes_by : Binds K (d 0) ["_law_big_here"] []
  g__law_sizes_by : mg "_law_sizes_by" = some (.ref (a 0))
  f__law_cell_at : Fun K "_law_cell_at" "_law_cell_at" s__law_cell_at (a 1) (d 1)
  b__law_cell_at : Binds K (d 1) ["_law_script", "_law_k"] []
  g__law_cell_at : mg "_law_cell_at" = some (.ref (a 1))
  f__law_big : Fun K "_law_big" "_law_big" s__law_big (a 2) (d 2)
  b__law_big : Binds K (d 2) ["_law_script", "_law_at"] []
  g__law_big : mg "_law_big" = some (.ref (a 2))
  f__law_rowsT : Fun K "_law_rows" "_law_rows" s__law_rowsT (a 3) (d 3)
  b__law_rowsT : Binds K (d 3) ["_law_sizes", "_law_names_here", "_law_points"] []
  g__law_rowsT : mg "_law_rows" = some (.ref (a 3))
  f__law_names : Fun K "_law_names" "_law_names" s__law_names (a 4) (d 4)
  b__law_names : Binds K (d 4) ["_law_stem", "_law_many"] []
  g__law_names : mg "_law_names" = some (.ref (a 4))
  f_worth_of : Fun K "worth_of" "worth_of" s_worth_of (a 5) (d 5)
  b_worth_of : Binds K (d 5) ["table"] []
  g_worth_of : mg "worth_of" = some (.ref (a 5))
  f_points_of : Fun K "points_of" "points_of" s_points_of (a 6) (d 6)
  b_points_of : Binds K (d 6) ["rows"] []
  g_points_of : mg "points_of" = some (.ref (a 6))
  f_points_by_tie : Fun K "points_by_tie" "points_by_tie" s_points_by_tie (a 7) (d 7)
  b_points_by_tie : Binds K (d 7) ["rows"] []
  g_points_by_tie : mg "points_by_tie" = some (.ref (a 7))
  f_table_without_first : Fun K "table_without_first" "table_without_first" s_table_without_first (a 8) (d 8)
  b_table_without_first : Binds K (d 8) ["rows"] []
  g_table_without_first : mg "table_without_first" = some (.ref (a 8))
  f_tree_count : Fun K "tree_count" "tree_count" s_tree_count (a 9) (d 9)
  b_tree_count : Binds K (d 9) ["rows"] []
  g_tree_count : mg "tree_count" = some (.ref (a 9))
  f_ties_of : Fun K "ties_of" "ties_of" s_ties_of (a 10) (d 10)
  b_ties_of : Binds K (d 10) ["rows"] []
  g_ties_of : mg "ties_of" = some (.ref (a 10))
  f_pairs_of : Fun K "pairs_of" "pairs_of" s_pairs_of (a 11) (d 11)
  b_pairs_of : Binds K (d 11) ["rows"] []
  g_pairs_of : mg "pairs_of" = some (.ref (a 11))
  f_made_one : Fun K "made_one" "made_one" s_made_one (a 12) (d 12)
  b_made_one : Binds K (d 12) ["parts", "one", "other"] []
  g_made_one : mg "made_one" = some (.ref (a 12))
  f_parts_from : Fun K "parts_from" "parts_from" s_parts_from (a 13) (d 13)
  b_parts_from : Binds K (d 13) ["many", "pairs"] []
  g_parts_from : mg "parts_from" = some (.ref (a 13))
  f_hang_together : Fun K "hang_together" "hang_together" s_hang_together (a 14) (d 14)
  b_hang_together : Binds K (d 14) ["parts", "later"] []
  g_hang_together : mg "hang_together" = some (.ref (a 14))
  f_trees_of : Fun K "trees_of" "trees_of" s_trees_of (a 15) (d 15)
  b_trees_of : Binds K (d 15) ["rows"] []
  g_trees_of : mg "trees_of" = some (.ref (a 15))
  f__law_refused : Fun K "_law_refused" "_law_refused" s__law_refused (a 16) (d 16)
  b__law_refused : Binds K (d 16) ["_law_rows_here"] []
  g__law_refused : mg "_law_refused" = some (.ref (a 16))
  f__law_dueT : Fun K "_law_due" "_law_due" s__law_dueT (a 17) (d 17)
  b__law_dueT : Binds K (d 17) ["_law_sizes", "_law_names_here"] []
  g__law_dueT : mg "_law_due" = some (.ref (a 17))
  f__law_rows : Fun K "_law_rows" "_law_rows" s__law_rows (a 18) (d 18)
  b__law_rows : Binds K (d 18) ["_law_sizes", "_law_names_here", "_law_points"] []
  g__law_rows : mg "_law_rows" = some (.ref (a 18))
  f__law_due : Fun K "_law_due" "_law_due" s__law_due (a 19) (d 19)
  b__law_due : Binds K (d 19) ["_law_sizes", "_law_names_here"] []
  g__law_due : mg "_law_due" = some (.ref (a 19))
  f_law : Fun K "law" "law" s_law (a 20) (d 20)
  b_law : Binds K (d 20) ["_law_script"] []
  g_law : mg "law" = some (.ref (a 20))
  g_TooMany : mg "TooMany" = some (.ref (clOf K "TooMany"))
  g_NetError : mg "NetError" = some (.ref (clOf K "NetError"))
  g_NoNet : mg "NoNet" = some (.ref (clOf K "NoNet"))
  g_NoTie : mg "NoTie" = some (.ref (clOf K "NoTie"))
  xx_TooMany : PySem.W.excIn K (clOf K "TooMany") [.type "ValueError", .type "Exception", .type "BaseException", .type "object"] "ValueError.__new__" = true
  xk_TooMany : PySem.W.keepIn K (.ref (clOf K "TooMany")) = true
  xb_TooMany : PySem.W.subIn K (.ref (clOf K "TooMany")) (.type "BaseException") = some true
  xt_TooMany : PySem.W.typeIn K (.ref (clOf K "TooMany")) = some (.type "type")
  exf : ExF (gb K) XC XT
  m_ValueError : mg "ValueError" = none
  m_enumerate : mg "enumerate" = none
  m_isinstance : mg "isinstance" = none
  m_len : mg "len" = none
  m_list : mg "list" = none
  m_min : mg "min" = none
  m_range : mg "range" = none
  m_reversed : mg "reversed" = none
  m_sorted : mg "sorted" = none
  m_str : mg "str" = none
  c_MOST_TREES : ∃ u, mg "MOST_TREES" = some u ∧ RelV (.int 300) u
section
variable {P : Program} {w : World} {K : PySem.W.Frag} {mg : Str → Option Value} {base : Heap} {a : Nat → Addr} {d : Nat → FuncData}
theorem ok__law_sizes_by (T : Top K mg a d) : FnOk P w K mg base CX0 1 (a 0) (d 0) ["_law_big_here"] (sp__law_sizes_by (gb K)) :=
  T.f__law_sizes_by.ok sc__law_sizes_by (fun vs H Q E h => len__law_sizes_by vs H Q E h) (fun cdv A outer s H vs Q E hr h => ⟨t__law_sizes_by (gb K), (pss_cons (ps_set (i := 1) sc__law_sizes_by.nd rfl (by first | exact .inl rfl | exact .inr rfl) (pe_tup (pa_cons (pe_tup (pa_cons pe_int (pa_cons pe_int (pa_cons pe_int (pa_cons pe_int pa_nil))))) (pa_cons (pe_tup (pa_cons pe_int (pa_cons pe_int (pa_cons pe_int pa_nil)))) (pa_cons (pe_tup (pa_cons pe_int (pa_cons pe_int pa_nil))) (pa_cons (pe_tup (pa_cons pe_int (pa_cons pe_int (pa_cons pe_int (pa_cons pe_int pa_nil))))) (pa_cons (pe_tup (pa_cons pe_int (pa_cons pe_int pa_nil))) (pa_cons (pe_tup (pa_cons pe_int (pa_cons pe_int (pa_cons pe_int pa_nil)))) (pa_cons (pe_tup (pa_cons pe_int (pa_cons pe_int (pa_cons pe_int (pa_cons pe_int (pa_cons pe_int pa_nil)))))) (pa_cons (pe_tup (pa_cons pe_int (pa_cons pe_int (pa_cons pe_int pa_nil)))) pa_nil))))))))))
  (pss_cons (ps_set (i := 2) sc__law_sizes_by.nd rfl (by first | exact .inl rfl | exact .inr rfl) (pe_op op_fdivW (pv 0) pe_int))
  (pss_cons (ps_if (pt_cmpR op_eq (pe_op op_mod (pv 0) pe_int) pe_int (nomark _))
  (pss_one (ps_ret (pe_ix ix_tup (pv 1) (pe_op op_mod (pv 2) pe_int) (fun _ _ => rfl))))
  pss_nil)
  (pss_cons (ps_set (i := 3) sc__law_sizes_by.nd rfl (by first | exact .inl rfl | exact .inr rfl) (pe_op op_mod (pv 2) pe_int))
  (pss_cons (ps_if (pt_cmpR op_eq (pe_op op_mod (pv 0) pe_int) pe_int (nomark _))
  (pss_one (ps_set (i := 3) sc__law_sizes_by.nd rfl (by first | exact .inl rfl | exact .inr rfl) (pe_op op_add pe_int (pe_op op_mod (pv 2) pe_int))))
  pss_nil)
  (pss_cons (ps_set (i := 2) sc__law_sizes_by.nd rfl (by first | exact .inl rfl | exact .inr rfl) (pe_op op_fdivW (pv 2) pe_int))
  (pss_cons (ps_set (i := 4) sc__law_sizes_by.nd rfl (by first | exact .inl rfl | exact .inr rfl) pe_int)
  (pss_cons (ps_set (i := 5) sc__law_sizes_by.nd rfl (by first | exact .inl rfl | exact .inr rfl) (pe_lst pa_nil))
  (pss_cons (ps_for PassesOwn.never rfl (pi_range1 (by rfl) T.m_range (pa_cons (pv 3) pa_nil)) (pg_name (i := 6) sc__law_sizes_by.nd rfl (by first | exact .inl rfl | exact .inr rfl))
  (pss_cons (ps_set (i := 7) sc__law_sizes_by.nd rfl (by first | exact .inl rfl | exact .inr rfl) (pe_callB (call_min2 rfl) (by rfl) T.m_min (by decide +kernel) (pa_cons pe_int (pa_cons (pe_op op_sub (pv 4) (pe_op op_sub (pe_op op_sub (pv 3) pe_int) (pv 6))) pa_nil))))
  (pss_cons (ps_expr (pe_bm PySem.F.plainAttrs_list PySem.F.slot_list_append PySem.F.type_list_append mt_append (pv 5) (pa_cons (pe_op op_add pe_int (pe_op op_mod (pv 2) (pv 7))) pa_nil)))
  (pss_cons (ps_set (i := 4) sc__law_sizes_by.nd rfl (by first | exact .inl rfl | exact .inr rfl) (pe_op op_sub (pv 4) (pe_ix ix_list (pv 5) (pe_un un_neg pe_int) (fun _ _ => rfl))))
  (pss_one (ps_set (i := 2) sc__law_sizes_by.nd rfl (by first | exact .inl rfl | exact .inr rfl) (pe_op op_fdivW (pv 2) (pv 7))))))))
  (pss_one (ps_ret (pv 5)))))))))))), run__law_sizes_by h⟩)
theorem ok__law_cell_at (T : Top K mg a d) : FnOk P w K mg base CX0 1 (a 1) (d 1) ["_law_script", "_law_k"] (sp__law_cell_at (gb K)) :=
  T.f__law_cell_at.ok sc__law_cell_at (fun vs H Q E h => len__law_cell_at vs H Q E h) (fun cdv A outer s H vs Q E hr h => ⟨t__law_cell_at (gb K), (pss_cons (ps_if (pt_cmpR op_lt (pv 1) (pe_callB call_len_seq (by rfl) T.m_len (by decide +kernel) (pa_cons (pv 0) pa_nil)) (nomark _))
  (pss_one (ps_ret (pe_ix ix_list (pv 0) (pv 1) (fun _ _ => rfl))))
  pss_nil)
  (pss_one (ps_ret pe_int))), run__law_cell_at h⟩)
theorem ok__law_big (T : Top K mg a d) : FnOk P w K mg base CX0 2 (a 2) (d 2) ["_law_script", "_law_at"] (sp__law_big (gb K)) :=
  T.f__law_big.ok sc__law_big (fun vs H Q E h => len__law_big vs H Q E h) (fun cdv A outer s H vs Q E hr h => ⟨t__law_big (gb K), (pss_cons (ps_set (i := 2) sc__law_big.nd rfl (by first | exact .inl rfl | exact .inr rfl) (pe_tup (pa_cons pe_int (pa_cons pe_int (pa_cons pe_int (pa_cons pe_int (pa_cons pe_int (pa_cons pe_int (pa_cons pe_int (pa_cons pe_int pa_nil))))))))))
  (pss_cons (ps_set (i := 3) sc__law_big.nd rfl (by first | exact .inl rfl | exact .inr rfl) (pe_tup (pa_cons pe_int (pa_cons pe_int (pa_cons pe_int (pa_cons pe_int (pa_cons pe_int (pa_cons pe_int (pa_cons pe_int (pa_cons pe_int pa_nil))))))))))
  (pss_cons (ps_set (i := 4) sc__law_big.nd rfl (by first | exact .inl rfl | exact .inr rfl) (pe_call (ok__law_cell_at T) (hr.mono (by decide)) (by rfl) T.g__law_cell_at T.f__law_cell_at.kp T.b__law_cell_at .nil pass0 (pa_cons (pv 0) (pa_cons (pv 1) pa_nil))))
  (pss_cons (ps_if (PW.pt (pw_and (pt_cmpR op_eq (pe_op op_mod (pv 4) pe_int) pe_int (nomark _)) (pw_and1 (pt_cmpR op_gt (pv 4) (pe_op op_pow pe_int pe_int) (nomark _)))))
  (pss_one (ps_ret (pe_op op_fdivW (pv 4) pe_int)))
  pss_nil)
  (pss_cons (ps_set (i := 5) sc__law_big.nd rfl (by first | exact .inl rfl | exact .inr rfl) pe_int)
  (pss_cons (ps_for PassesOwn.never rfl (pi_range1 (by rfl) T.m_range (pa_cons pe_int pa_nil)) (pg_name (i := 6) sc__law_big.nd rfl (by first | exact .inl rfl | exact .inr rfl))
  (pss_cons (ps_set (i := 7) sc__law_big.nd rfl (by first | exact .inl rfl | exact .inr rfl) (pe_op op_add (pe_op op_add (pe_op op_mod (pe_call (ok__law_cell_at T) (hr.mono (by decide)) (by rfl) T.g__law_cell_at T.f__law_cell_at.kp T.b__law_cell_at .nil pass0 (pa_cons (pv 0) (pa_cons (pe_op op_add (pv 1) (pe_op op_mod (pv 6) pe_int)) pa_nil))) (pe_op op_pow pe_int pe_int)) pe_int) (pe_op op_mulW (pv 6) (pv 6))))
  (pss_one (ps_set (i := 5) sc__law_big.nd rfl (by first | exact .inl rfl | exact .inr rfl) (pe_op op_add (pe_op op_mulW (pv 5) pe_int) (pe_op op_mod (pe_op op_mod (pe_op op_mulW (pv 7) (pe_ix ix_tup (pv 2) (pe_op op_mod (pv 6) pe_int) (fun _ _ => rfl))) (pe_ix ix_tup (pv 3) (pe_op op_mod (pv 6) pe_int) (fun _ _ => rfl))) pe_int))))))
  (pss_one (ps_ret (pv 5))))))))), run__law_big h⟩)
theorem ok__law_rowsT (T : Top K mg a d) : FnOk P w K mg base CX0 1 (a 3) (d 3) ["_law_sizes", "_law_names_here", "_law_points"] (sp__law_rowsT (gb K)) :=
  T.f__law_rowsT.ok sc__law_rowsT (fun vs H Q E h => len__law_rowsT vs H Q E h) (fun cdv A outer s H vs Q E hr h => ⟨t__law_rowsT (gb K), (pss_cons (ps_set (i := 3) sc__law_rowsT.nd rfl (by first | exact .inl rfl | exact .inr rfl) (pe_lc (own := [("_law_k", 5)]) (g := (gName 5)) (tt := tYes) rfl sc__law_rowsT.nd (pi_range1 (by rfl) T.m_range (pa_cons (pe_op op_add (pe_callB call_len_seq (by rfl) T.m_len (by decide +kernel) (pa_cons (pv 0) pa_nil)) pe_int) pa_nil)) (blkOk_by (own := [("_law_k", 5)]) (N := ["_law_sizes", "_law_names_here", "_law_points", "_law_lists", "_law_at", "_law_k", "_law_bundle", "_law_name"]) (sc := defScope s__law_rowsT) (by decide +kernel)) (fun _ _ _ _ _ => (pg_name (i := 5) sc__law_rowsT.nd rfl (by first | exact .inl rfl | exact .inr rfl))) (fun _ _ _ _ _ => pts_nil) (fun _ _ _ _ _ => (pe_lst pa_nil))))
  (pss_cons (ps_set (i := 4) sc__law_rowsT.nd rfl (by first | exact .inl rfl | exact .inr rfl) pe_int)
  (pss_cons (ps_for PassesOwn.never rfl (pi_range1 (by rfl) T.m_range (pa_cons (pe_callB call_len_seq (by rfl) T.m_len (by decide +kernel) (pa_cons (pv 0) pa_nil)) pa_nil)) (pg_name (i := 5) sc__law_rowsT.nd rfl (by first | exact .inl rfl | exact .inr rfl))
  (pss_cons (ps_set (i := 6) sc__law_rowsT.nd rfl (by first | exact .inl rfl | exact .inr rfl) (pe_slice sl_list (pv 1) (po_some (pv 4)) (po_some (pe_op op_add (pv 4) (pe_ix ix_tup (pv 0) (pv 5) (fun _ _ => rfl))))))
  (pss_cons (ps_set (i := 4) sc__law_rowsT.nd rfl (by first | exact .inl rfl | exact .inr rfl) (pe_op op_add (pv 4) (pe_ix ix_tup (pv 0) (pv 5) (fun _ _ => rfl))))
  (pss_cons (ps_asg (pe_op op_cat (pe_ix ix_list (pv 3) (pv 5) (fun _ _ => rfl)) (pv 6)) (pg_sub (pv 3) (pv 5) set_list))
  (pss_one (ps_asg (pe_op op_cat (pe_ix ix_list (pv 3) (pe_op op_add (pv 5) pe_int) (fun _ _ => rfl)) (pe_lc (own := [("_law_name", 7)]) (g := (gName 7)) (tt := tYes) rfl sc__law_rowsT.nd (pi_reversed (by rfl) T.m_reversed (pa_cons (pv 6) pa_nil)) (blkOk_by (own := [("_law_name", 7)]) (N := ["_law_sizes", "_law_names_here", "_law_points", "_law_lists", "_law_at", "_law_k", "_law_bundle", "_law_name"]) (sc := defScope s__law_rowsT) (by decide +kernel)) (fun _ _ _ _ _ => (pg_name (i := 7) sc__law_rowsT.nd rfl (by first | exact .inl rfl | exact .inr rfl))) (fun _ _ _ _ _ => pts_nil) (fun _ _ _ _ _ => (pv 7)))) (pg_sub (pv 3) (pe_op op_add (pv 5) pe_int) set_list)))))))
  (pss_cons (ps_if (pt_cmpR op_lt (pv 4) pe_int (nomark _))
  (pss_one (ps_asg (pe_op op_cat (pe_ix ix_list (pv 3) (pe_un un_neg pe_int) (fun _ _ => rfl)) (pe_lst (pa_cons (pe_ix ix_list (pv 1) (pv 4) (fun _ _ => rfl)) (pa_cons (pe_ix ix_list (pv 1) (pv 4) (fun _ _ => rfl)) pa_nil)))) (pg_sub (pv 3) (pe_un un_neg pe_int) set_list)))
  pss_nil)
  (pss_one (ps_ret (pe_lc (own := [("_law_k", 5)]) (g := (gName 5)) (tt := tYes) rfl sc__law_rowsT.nd (pi_range1 (by rfl) T.m_range (pa_cons (pe_callB call_len_seq (by rfl) T.m_len (by decide +kernel) (pa_cons (pv 3) pa_nil)) pa_nil)) (blkOk_by (own := [("_law_k", 5)]) (N := ["_law_sizes", "_law_names_here", "_law_points", "_law_lists", "_law_at", "_law_k", "_law_bundle", "_law_name"]) (sc := defScope s__law_rowsT) (by decide +kernel)) (fun _ _ _ _ _ => (pg_name (i := 5) sc__law_rowsT.nd rfl (by first | exact .inl rfl | exact .inr rfl))) (fun _ _ _ _ _ => pts_nil) (fun _ _ _ _ _ => (pe_tup (pa_cons (pe_ix ix_list (pv 2) (pv 5) (fun _ _ => rfl)) (pa_cons (pe_ix ix_list (pv 3) (pv 5) (fun _ _ => rfl)) pa_nil))))))))))), run__law_rowsT h⟩)
theorem ok__law_names (T : Top K mg a d) : FnOk P w K mg base CX0 1 (a 4) (d 4) ["_law_stem", "_law_many"] (sp__law_names (gb K)) :=
  T.f__law_names.ok sc__law_names (fun vs H Q E h => len__law_names vs H Q E h) (fun cdv A outer s H vs Q E hr h => ⟨t__law_names (gb K), (pss_cons (ps_set (i := 2) sc__law_names.nd rfl (by first | exact .inl rfl | exact .inr rfl) pe_str)
  (pss_cons (ps_set (i := 3) sc__law_names.nd rfl (by first | exact .inl rfl | exact .inr rfl) (pe_op op_add pe_int (pe_op op_mod (pv 0) pe_int)))
  (pss_cons (ps_set (i := 4) sc__law_names.nd rfl (by first | exact .inl rfl | exact .inr rfl) (pe_op op_mod (pe_op op_fdivW (pv 0) pe_int) (pv 3)))
  (pss_cons (ps_set (i := 5) sc__law_names.nd rfl (by first | exact .inl rfl | exact .inr rfl) (pe_lst pa_nil))
  (pss_cons (ps_for PassesOwn.never rfl (pi_range1 (by rfl) T.m_range (pa_cons (pv 1) pa_nil)) (pg_name (i := 6) sc__law_names.nd rfl (by first | exact .inl rfl | exact .inr rfl))
  (pss_cons (ps_set (i := 7) sc__law_names.nd rfl (by first | exact .inl rfl | exact .inr rfl) pe_str)
  (pss_cons (ps_for PassesOwn.never rfl (pi_range1 (by rfl) T.m_range (pa_cons (pv 3) pa_nil)) (pg_name (i := 8) sc__law_names.nd rfl (by first | exact .inl rfl | exact .inr rfl))
  (pss_cons (ps_set (i := 9) sc__law_names.nd rfl (by first | exact .inl rfl | exact .inr rfl) (pe_op op_add (pe_op op_fdivW (pv 0) pe_int) (pe_op op_mulW (pv 8) (pe_op op_mod (pe_op op_fdivW (pv 0) pe_int) pe_int))))
  (pss_cons (ps_if (pt_cmpR op_eq (pv 8) (pv 4) (nomark _))
  (pss_one (ps_set (i := 9) sc__law_names.nd rfl (by first | exact .inl rfl | exact .inr rfl) (pe_op op_add (pv 9) (pv 6))))
  pss_nil)
  (pss_one (ps_set (i := 7) sc__law_names.nd rfl (by first | exact .inl rfl | exact .inr rfl) (pe_op op_add_str (pv 7) (pe_ix ix_str (pv 2) (pe_op op_mod (pv 9) pe_int) (fun _ _ => rfl))))))))
  (pss_cons (ps_if (pt_cmpR op_eq (pe_op op_mod (pv 0) pe_int) pe_int (nomark _))
  (pss_one (ps_set (i := 7) sc__law_names.nd rfl (by first | exact .inl rfl | exact .inr rfl) (pe_op op_rep_str (pe_ix ix_str (pv 2) (pe_op op_mod (pe_op op_add (pe_op op_fdivW (pv 0) pe_int) (pe_op op_fdivW (pv 6) pe_int)) pe_int) (fun _ _ => rfl)) (pe_op op_add pe_int (pe_op op_mod (pv 6) pe_int)))))
  pss_nil)
  (pss_one (ps_expr (pe_bm PySem.F.plainAttrs_list PySem.F.slot_list_append PySem.F.type_list_append mt_append (pv 5) (pa_cons (pv 7) pa_nil))))))))
  (pss_one (ps_ret (pv 5)))))))), run__law_names h⟩)
theorem ok_worth_of (T : Top K mg a d) : FnOk P w K mg base CX0 1 (a 5) (d 5) ["table"] (sp_worth_of (gb K)) :=
  T.f_worth_of.ok sc_worth_of (fun vs H Q E h => len_worth_of vs H Q E h) (fun cdv A outer s H vs Q E hr h => ⟨t_worth_of (gb K), (pss_cons (ps_setLc (i := 0) (own := [("line", 4)]) (g := (gName 4)) (tt := tYes) rfl sc_worth_of.nd rfl rfl (sw_true rfl rfl rfl (by decide +kernel)) (pi_list (pv 0)) (blkOk_by (own := [("line", 4)]) (N := ["table", "last", "k", "lead", "line", "front", "at"]) (sc := defScope s_worth_of) (by decide +kernel)) (fun _ _ _ _ _ => (pg_name (i := 4) sc_worth_of.nd rfl (by first | exact .inl rfl | exact .inr rfl))) (fun _ _ _ _ _ => pts_nil) (fun _ _ _ _ _ => (pe_callTy call_list_of (by rfl) T.m_list (by decide +kernel) (pa_cons (pv 4) pa_nil))))
  (pss_cons (ps_set (i := 1) sc_worth_of.nd rfl (by first | exact .inl rfl | exact .inr rfl) pe_int)
  (pss_cons (ps_for PassesOwn.never rfl (pi_range1 (by rfl) T.m_range (pa_cons (pe_op op_sub (pe_callB call_len_seq (by rfl) T.m_len (by decide +kernel) (pa_cons (pv 0) pa_nil)) pe_int) pa_nil)) (pg_name (i := 2) sc_worth_of.nd rfl (by first | exact .inl rfl | exact .inr rfl))
  (pss_cons (ps_set (i := 3) sc_worth_of.nd rfl (by first | exact .inl rfl | exact .inr rfl) (pe_ix ix_list (pe_ix ix_list (pv 0) (pv 2) (fun _ _ => rfl)) (pv 2) (fun _ _ => rfl)))
  (pss_cons (ps_for PassesOwn.never rfl (pi_list (pe_slice sl_list (pv 0) (po_some (pe_op op_add (pv 2) pe_int)) po_none)) (pg_name (i := 4) sc_worth_of.nd rfl (by first | exact .inl rfl | exact .inr rfl))
  (pss_cons (ps_set (i := 5) sc_worth_of.nd rfl (by first | exact .inl rfl | exact .inr rfl) (pe_ix ix_list (pv 4) (pv 2) (fun _ _ => rfl)))
  (pss_one (ps_for PassesOwn.never rfl (pi_range2 (by rfl) T.m_range (pa_cons (pe_op op_add (pv 2) pe_int) (pa_cons (pe_callB call_len_seq (by rfl) T.m_len (by decide +kernel) (pa_cons (pv 0) pa_nil)) pa_nil))) (pg_name (i := 6) sc_worth_of.nd rfl (by first | exact .inl rfl | exact .inr rfl))
  (pss_one (ps_asg (pe_op op_fdivW (pe_op op_sub (pe_op op_mulW (pe_ix ix_list (pv 4) (pv 6) (fun _ _ => rfl)) (pv 3)) (pe_op op_mulW (pv 5) (pe_ix ix_list (pe_ix ix_list (pv 0) (pv 2) (fun _ _ => rfl)) (pv 6) (fun _ _ => rfl)))) (pv 1)) (pg_sub (pv 4) (pv 6) set_list)))))))
  (pss_one (ps_set (i := 1) sc_worth_of.nd rfl (by first | exact .inl rfl | exact .inr rfl) (pv 3))))))
  (pss_cons (ps_if (pt_cmpR (op_eqD hr.units) (pv 0) (pe_lst pa_nil) (nomark _))
  (pss_one (ps_ret pe_int))
  pss_nil)
  (pss_one (ps_ret (pe_ix ix_list (pe_ix ix_list (pv 0) (pe_un un_neg pe_int) (fun _ _ => rfl)) (pe_un un_neg pe_int) (fun _ _ => rfl)))))))), run_worth_of h⟩)
theorem ok_points_of (T : Top K mg a d) : FnOk P w K mg base CX0 1 (a 6) (d 6) ["rows"] (sp_points_of (gb K)) :=
  T.f_points_of.ok sc_points_of (fun vs H Q E h => len_points_of vs H Q E h) (fun cdv A outer s H vs Q E hr h => ⟨t_points_of (gb K), (pss_one (ps_ret (pe_lc (own := [("row", 1)]) (g := (gName 1)) (tt := tYes) rfl sc_points_of.nd (pi_list (pv 0)) (blkOk_by (own := [("row", 1)]) (N := ["rows", "row"]) (sc := defScope s_points_of) (by decide +kernel)) (fun _ _ _ _ _ => (pg_name (i := 1) sc_points_of.nd rfl (by first | exact .inl rfl | exact .inr rfl))) (fun _ _ _ _ _ => pts_nil) (fun _ _ _ _ _ => (pe_ix ix_tup (pv 1) pe_int (fun _ _ => rfl)))))), run_points_of h⟩)
theorem ok_points_by_tie (T : Top K mg a d) : FnOk P w K mg base CX0 1 (a 7) (d 7) ["rows"] (sp_points_by_tie (gb K)) :=
  T.f_points_by_tie.ok sc_points_by_tie (fun vs H Q E h => len_points_by_tie vs H Q E h) (fun cdv A outer s H vs Q E hr h => ⟨t_points_by_tie (gb K), (pss_cons (ps_set (i := 1) sc_points_by_tie.nd rfl (by first | exact .inl rfl | exact .inr rfl) pe_dnewK)
  (pss_cons (ps_for PassesOwn.never rfl (pi_list (pv 0)) (pg_tup rfl (pgs_cons (pg_name (i := 2) sc_points_by_tie.nd rfl (by first | exact .inl rfl | exact .inr rfl)) (pgs_cons (pg_name (i := 3) sc_points_by_tie.nd rfl (by first | exact .inl rfl | exact .inr rfl)) pgs_nil)))
  (pss_one (ps_for PassesOwn.never rfl (pi_list (pv 3)) (pg_name (i := 4) sc_points_by_tie.nd rfl (by first | exact .inl rfl | exact .inr rfl))
  (pss_one (ps_expr (pe_bm PySem.F.plainAttrs_list PySem.F.slot_list_append PySem.F.type_list_append mt_append (pe_dsetd (pv 1) (pv 4) (pe_lst pa_nil) ⟨rfl, rfl, rfl, rfl⟩) (pa_cons (pv 2) pa_nil)))))))
  (pss_one (ps_ret (pv 1))))), run_points_by_tie h⟩)
theorem ok_table_without_first (T : Top K mg a d) : FnOk P w K mg base CX0 2 (a 8) (d 8) ["rows"] (sp_table_without_first (gb K)) :=
  T.f_table_without_first.ok sc_table_without_first (fun vs H Q E h => len_table_without_first vs H Q E h) (fun cdv A outer s H vs Q E hr h => ⟨t_table_without_first (gb K), (pss_cons (ps_set (i := 1) sc_table_without_first.nd rfl (by first | exact .inl rfl | exact .inr rfl) (pe_call (ok_points_of T) (hr.mono (by decide)) (by rfl) T.g_points_of T.f_points_of.kp T.b_points_of .nil pass0 (pa_cons (pv 0) pa_nil)))
  (pss_cons (ps_set (i := 2) sc_table_without_first.nd rfl (by first | exact .inl rfl | exact .inr rfl) pe_dnewK)
  (pss_cons (ps_for PassesOwn.never rfl (pi_enum (by rfl) T.m_enumerate (pa_cons (pv 1) pa_nil)) (pg_tup rfl (pgs_cons (pg_name (i := 3) sc_table_without_first.nd rfl (by first | exact .inl rfl | exact .inr rfl)) (pgs_cons (pg_name (i := 4) sc_table_without_first.nd rfl (by first | exact .inl rfl | exact .inr rfl)) pgs_nil)))
  (pss_one (ps_dput (hu_of hr) (pv 2) (pv 4) (pv 3) rfl)))
  (pss_cons (ps_setLc (i := 5) (own := [("name", 4)]) (g := (gName 4)) (tt := tYes) rfl sc_table_without_first.nd rfl rfl (sw_true rfl rfl rfl (by decide +kernel)) (pi_list (pv 1)) (blkOk_by (own := [("name", 4)]) (N := ["rows", "names", "places", "place", "name", "table", "held", "tie", "one", "other", "line"]) (sc := defScope s_table_without_first) (by decide +kernel)) (fun _ _ _ _ _ => (pg_name (i := 4) sc_table_without_first.nd rfl (by first | exact .inl rfl | exact .inr rfl))) (fun _ _ _ _ _ => pts_nil) (fun _ _ _ _ _ => (pe_lc (own := [("other", 9)]) (g := (gName 9)) (tt := tYes) rfl sc_table_without_first.nd (pi_list (pv 1)) (blkOk_in (N := ["rows", "names", "places", "place", "name", "table", "held", "tie", "one", "other", "line"]) (own := [("other", 9)]) (S0 := defScope s_table_without_first) rfl rfl (blkOk_by (by decide +kernel))) (fun _ _ _ _ _ => (pg_name (i := 9) sc_table_without_first.nd rfl (by first | exact .inl rfl | exact .inr rfl))) (fun _ _ _ _ _ => pts_nil) (fun _ _ _ _ _ => pe_int))))
  (pss_cons (ps_set (i := 6) sc_table_without_first.nd rfl (by first | exact .inl rfl | exact .inr rfl) (pe_call (ok_points_by_tie T) (hr.mono (by decide)) (by rfl) T.g_points_by_tie T.f_points_by_tie.kp T.b_points_by_tie .nil pass0 (pa_cons (pv 0) pa_nil)))
  (pss_cons (ps_lock (ps_for PassesOwn.never rfl (pi_keys (pv 6)) (pg_name (i := 7) sc_table_without_first.nd rfl (by first | exact .inl rfl | exact .inr rfl))
  (pss_cons (ps_set (i := 8) sc_table_without_first.nd rfl (by first | exact .inl rfl | exact .inr rfl) (pe_dget (hu_of hr) (pv 2) (pe_ix ix_list (pe_dget (hu_of hr) (pv 6) (pv 7) (fun _ _ => rfl)) pe_int (fun _ _ => rfl)) (fun _ _ => rfl)))
  (pss_cons (ps_set (i := 9) sc_table_without_first.nd rfl (by first | exact .inl rfl | exact .inr rfl) (pe_dget (hu_of hr) (pv 2) (pe_ix ix_list (pe_dget (hu_of hr) (pv 6) (pv 7) (fun _ _ => rfl)) pe_int (fun _ _ => rfl)) (fun _ _ => rfl)))
  (pss_one (ps_if (pt_cmpR op_ne (pv 8) (pv 9) (nomark _))
  (pss_cons (ps_augS (pe_ix ix_list (pv 5) (pv 8) (fun _ _ => rfl)) (pv 8) pget_list pe_int ip_add set_list)
  (pss_cons (ps_augS (pe_ix ix_list (pv 5) (pv 9) (fun _ _ => rfl)) (pv 9) pget_list pe_int ip_add set_list)
  (pss_cons (ps_augS (pe_ix ix_list (pv 5) (pv 8) (fun _ _ => rfl)) (pv 9) pget_list pe_int ip_sub set_list)
  (pss_one (ps_augS (pe_ix ix_list (pv 5) (pv 9) (fun _ _ => rfl)) (pv 8) pget_list pe_int ip_sub set_list)))))
  pss_nil))))))
  (pss_one (ps_ret (pe_lc (own := [("line", 10)]) (g := (gName 10)) (tt := tYes) rfl sc_table_without_first.nd (pi_list (pe_slice sl_list (pv 5) (po_some pe_int) po_none)) (blkOk_by (own := [("line", 10)]) (N := ["rows", "names", "places", "place", "name", "table", "held", "tie", "one", "other", "line"]) (sc := defScope s_table_without_first) (by decide +kernel)) (fun _ _ _ _ _ => (pg_name (i := 10) sc_table_without_first.nd rfl (by first | exact .inl rfl | exact .inr rfl))) (fun _ _ _ _ _ => pts_nil) (fun _ _ _ _ _ => (pe_slice sl_list (pv 10) (po_some pe_int) po_none))))))))))), run_table_without_first h⟩)
theorem ok_tree_count (T : Top K mg a d) : FnOk P w K mg base CX0 3 (a 9) (d 9) ["rows"] (sp_tree_count (gb K)) :=
  T.f_tree_count.ok sc_tree_count (fun vs H Q E h => len_tree_count vs H Q E h) (fun cdv A outer s H vs Q E hr h => ⟨t_tree_count (gb K), (pss_one (ps_ret (pe_call (ok_worth_of T) (hr.mono (by decide)) (by rfl) T.g_worth_of T.f_worth_of.kp T.b_worth_of .nil pass0 (pa_cons (pe_call (ok_table_without_first T) (hr.mono (by decide)) (by rfl) T.g_table_without_first T.f_table_without_first.kp T.b_table_without_first .nil pass0 (pa_cons (pv 0) pa_nil)) pa_nil)))), run_tree_count h⟩)
theorem ok_ties_of (T : Top K mg a d) : FnOk P w K mg base CX0 1 (a 10) (d 10) ["rows"] (sp_ties_of (gb K)) :=
  T.f_ties_of.ok sc_ties_of (fun vs H Q E h => len_ties_of vs H Q E h) (fun cdv A outer s H vs Q E hr h => ⟨t_ties_of (gb K), (pss_cons (ps_set (i := 1) sc_ties_of.nd rfl (by first | exact .inl rfl | exact .inr rfl) pe_dnewK)
  (pss_cons (ps_for PassesOwn.never rfl (pi_list (pv 0)) (pg_tup rfl (pgs_cons (pg_name (i := 2) sc_ties_of.nd rfl (by first | exact .inl rfl | exact .inr rfl)) (pgs_cons (pg_name (i := 3) sc_ties_of.nd rfl (by first | exact .inl rfl | exact .inr rfl)) pgs_nil)))
  (pss_one (ps_for PassesOwn.never rfl (pi_list (pv 3)) (pg_name (i := 4) sc_ties_of.nd rfl (by first | exact .inl rfl | exact .inr rfl))
  (pss_one (ps_dput (hu_of hr) (pv 1) (pv 4) pe_bl rfl)))))
  (pss_one (ps_ret (pe_callB (call_sortedD rfl) (by rfl) T.m_sorted (by decide +kernel) (pa_cons (pv 1) pa_nil)))))), run_ties_of h⟩)
theorem ok_pairs_of (T : Top K mg a d) : FnOk P w K mg base CX0 2 (a 11) (d 11) ["rows"] (sp_pairs_of (gb K)) :=
  T.f_pairs_of.ok sc_pairs_of (fun vs H Q E h => len_pairs_of vs H Q E h) (fun cdv A outer s H vs Q E hr h => ⟨t_pairs_of (gb K), (pss_cons (ps_set (i := 1) sc_pairs_of.nd rfl (by first | exact .inl rfl | exact .inr rfl) (pe_call (ok_points_of T) (hr.mono (by decide)) (by rfl) T.g_points_of T.f_points_of.kp T.b_points_of .nil pass0 (pa_cons (pv 0) pa_nil)))
  (pss_cons (ps_set (i := 2) sc_pairs_of.nd rfl (by first | exact .inl rfl | exact .inr rfl) (pe_call (ok_points_by_tie T) (hr.mono (by decide)) (by rfl) T.g_points_by_tie T.f_points_by_tie.kp T.b_points_by_tie .nil pass0 (pa_cons (pv 0) pa_nil)))
  (pss_cons (ps_set (i := 3) sc_pairs_of.nd rfl (by first | exact .inl rfl | exact .inr rfl) (pe_lst pa_nil))
  (pss_cons (ps_for PassesOwn.never rfl (pi_list (pe_call (ok_ties_of T) (hr.mono (by decide)) (by rfl) T.g_ties_of T.f_ties_of.kp T.b_ties_of .nil pass0 (pa_cons (pv 0) pa_nil))) (pg_name (i := 4) sc_pairs_of.nd rfl (by first | exact .inl rfl | exact .inr rfl))
  (pss_one (ps_expr (pe_bm PySem.F.plainAttrs_list PySem.F.slot_list_append PySem.F.type_list_append mt_append (pv 3) (pa_cons (pe_tup (pa_cons (pe_bm PySem.F.plainAttrs_list PySem.F.slot_list_index PySem.F.type_list_index mt_index (pv 1) (pa_cons (pe_ix ix_list (pe_dget (hu_of hr) (pv 2) (pv 4) (fun _ _ => rfl)) pe_int (fun _ _ => rfl)) pa_nil)) (pa_cons (pe_bm PySem.F.plainAttrs_list PySem.F.slot_list_index PySem.F.type_list_index mt_index (pv 1) (pa_cons (pe_ix ix_list (pe_dget (hu_of hr) (pv 2) (pv 4) (fun _ _ => rfl)) pe_int (fun _ _ => rfl)) pa_nil)) pa_nil))) pa_nil)))))
  (pss_one (ps_ret (pv 3))))))), run_pairs_of h⟩)
theorem ok_made_one (T : Top K mg a d) : FnOk P w K mg base CX0 1 (a 12) (d 12) ["parts", "one", "other"] (sp_made_one (gb K)) :=
  T.f_made_one.ok sc_made_one (fun vs H Q E h => len_made_one vs H Q E h) (fun cdv A outer s H vs Q E hr h => ⟨t_made_one (gb K), (pss_cons (ps_set (i := 3) sc_made_one.nd rfl (by first | exact .inl rfl | exact .inr rfl) (pe_lst pa_nil))
  (pss_cons (ps_for PassesOwn.never rfl (pi_list (pv 0)) (pg_name (i := 4) sc_made_one.nd rfl (by first | exact .inl rfl | exact .inr rfl))
  (pss_one (ps_if (pt_cmpR op_eq (pv 4) (pe_ix ix_list (pv 0) (pv 2) (fun _ _ => rfl)) (nomark _))
  (pss_one (ps_expr (pe_bm PySem.F.plainAttrs_list PySem.F.slot_list_append PySem.F.type_list_append mt_append (pv 3) (pa_cons (pe_ix ix_list (pv 0) (pv 1) (fun _ _ => rfl)) pa_nil))))
  (pss_one (ps_expr (pe_bm PySem.F.plainAttrs_list PySem.F.slot_list_append PySem.F.type_list_append mt_append (pv 3) (pa_cons (pv 4) pa_nil)))))))
  (pss_one (ps_ret (pv 3))))), run_made_one h⟩)
theorem ok_parts_from (T : Top K mg a d) : FnOk P w K mg base CX0 2 (a 13) (d 13) ["many", "pairs"] (sp_parts_from (gb K)) :=
  T.f_parts_from.ok sc_parts_from (fun vs H Q E h => len_parts_from vs H Q E h) (fun cdv A outer s H vs Q E hr h => ⟨t_parts_from (gb K), (pss_cons (ps_set (i := 2) sc_parts_from.nd rfl (by first | exact .inl rfl | exact .inr rfl) (pe_lst (pa_cons (pe_listRg rfl (by rfl) T.m_list (prg_1 (by rfl) T.m_range (pv 0))) pa_nil)))
  (pss_cons (ps_for PassesOwn.never rfl (pi_reversed (by rfl) T.m_reversed (pa_cons (pv 1) pa_nil)) (pg_tup rfl (pgs_cons (pg_name (i := 3) sc_parts_from.nd rfl (by first | exact .inl rfl | exact .inr rfl)) (pgs_cons (pg_name (i := 4) sc_parts_from.nd rfl (by first | exact .inl rfl | exact .inr rfl)) pgs_nil)))
  (pss_one (ps_expr (pe_bm PySem.F.plainAttrs_list PySem.F.slot_list_append PySem.F.type_list_append mt_append (pv 2) (pa_cons (pe_call (ok_made_one T) (hr.mono (by decide)) (by rfl) T.g_made_one T.f_made_one.kp T.b_made_one .nil pass0 (pa_cons (pe_ix ix_list (pv 2) (pe_un un_neg pe_int) (fun _ _ => rfl)) (pa_cons (pv 3) (pa_cons (pv 4) pa_nil)))) pa_nil)))))
  (pss_one (ps_ret (pe_listRev rfl (by rfl) T.m_list (by rfl) T.m_reversed (pv 2)))))), run_parts_from h⟩)
theorem ok_hang_together (T : Top K mg a d) : FnOk P w K mg base CX0 2 (a 14) (d 14) ["parts", "later"] (sp_hang_together (gb K)) :=
  T.f_hang_together.ok sc_hang_together (fun vs H Q E h => len_hang_together vs H Q E h) (fun cdv A outer s H vs Q E hr h => ⟨t_hang_together (gb K), (pss_cons (ps_set (i := 2) sc_hang_together.nd rfl (by first | exact .inl rfl | exact .inr rfl) pe_dnewK)
  (pss_cons (ps_for PassesOwn.never rfl (pi_enum (by rfl) T.m_enumerate (pa_cons (pv 1) pa_nil)) (pg_tup rfl (pgs_cons (pg_name (i := 3) sc_hang_together.nd rfl (by first | exact .inl rfl | exact .inr rfl)) (pgs_cons (pg_name (i := 4) sc_hang_together.nd rfl (by first | exact .inl rfl | exact .inr rfl)) pgs_nil)))
  (pss_one (ps_if (pt_cmp (pc_din (hu_of hr) (pv 4) (pv 2)))
  (pss_one (ps_set (i := 0) sc_hang_together.nd rfl (by first | exact .inl rfl | exact .inr rfl) (pe_call (ok_made_one T) (hr.mono (by decide)) (by rfl) T.g_made_one T.f_made_one.kp T.b_made_one .nil pass0 (pa_cons (pv 0) (pa_cons (pe_dget (hu_of hr) (pv 2) (pv 4) (fun _ _ => rfl)) (pa_cons (pv 3) pa_nil))))))
  (pss_one (ps_dput (hu_of hr) (pv 2) (pv 4) (pv 3) rfl)))))
  (pss_one (ps_ret (pe_cmpR (op_eqD hr.units) (pv 0) (pe_lc (own := [("part", 4)]) (g := (gName 4)) (tt := tYes) rfl sc_hang_together.nd (pi_list (pv 0)) (blkOk_by (own := [("part", 4)]) (N := ["parts", "later", "first", "place", "part"]) (sc := defScope s_hang_together) (by decide +kernel)) (fun _ _ _ _ _ => (pg_name (i := 4) sc_hang_together.nd rfl (by first | exact .inl rfl | exact .inr rfl))) (fun _ _ _ _ _ => pts_nil) (fun _ _ _ _ _ => (pe_ix ix_list (pv 0) pe_int (fun _ _ => rfl)))) (nomark _)))))), run_hang_together h⟩)
theorem ok_trees_of (T : Top K mg a d) : FnOk P w K mg base (L2N.CX P w) 4 (a 15) (d 15) ["rows"] (sp_trees_of (gb K)) :=
  okN T.f_trees_of sc_trees_of (fun vs H Q E h => len_trees_of vs H Q E h) (fun cdv A outer s H vs Q E hr h => ⟨t_trees_of (gb K) E, (pss_cons (ps_if (pt_cmpR op_gt (pe_call (ok_tree_count T) (hr.mono (by decide)) (by rfl) T.g_tree_count T.f_tree_count.kp T.b_tree_count .nil pass0 (pa_cons (pv 0) pa_nil)) (pe_glob (by rfl) T.c_MOST_TREES.choose_spec.1 T.c_MOST_TREES.choose_spec.2) (nomark _))
  (pss_one (L2N.ps_raise rfl (L2N.takes_of rfl rfl rfl rfl) (L2N.pmk_own PySem.F.excBase_ValueError T.xx_TooMany T.g_TooMany T.xk_TooMany (raises_own T.xb_TooMany T.xt_TooMany) (by rfl))))
  pss_nil)
  (pss_cons (ps_set (i := 1) sc_trees_of.nd rfl (by first | exact .inl rfl | exact .inr rfl) (pe_call (ok_pairs_of T) (hr.mono (by decide)) (by rfl) T.g_pairs_of T.f_pairs_of.kp T.b_pairs_of .nil pass0 (pa_cons (pv 0) pa_nil)))
  (pss_cons (ps_set (i := 2) sc_trees_of.nd rfl (by first | exact .inl rfl | exact .inr rfl) (pe_call (ok_parts_from T) (hr.mono (by decide)) (by rfl) T.g_parts_from T.f_parts_from.kp T.b_parts_from .nil pass0 (pa_cons (pe_callB call_len_seq (by rfl) T.m_len (by decide +kernel) (pa_cons (pv 0) pa_nil)) (pa_cons (pv 1) pa_nil))))
  (pss_cons (ps_set (i := 3) sc_trees_of.nd rfl (by first | exact .inl rfl | exact .inr rfl) (pe_lst (pa_cons (pe_tup (pa_cons (pe_lst pa_nil) (pa_cons (pe_ix ix_list (pv 2) (pe_un un_neg pe_int) (fun _ _ => rfl)) pa_nil))) pa_nil)))
  (pss_cons (ps_for PassesOwn.leaving rfl (pi_enum (by rfl) T.m_enumerate (pa_cons (pe_call (ok_ties_of T) (hr.mono (by decide)) (by rfl) T.g_ties_of T.f_ties_of.kp T.b_ties_of .nil pass0 (pa_cons (pv 0) pa_nil)) pa_nil)) (pg_tup rfl (pgs_cons (pg_name (i := 4) sc_trees_of.nd rfl (by first | exact .inl rfl | exact .inr rfl)) (pgs_cons (pg_name (i := 5) sc_trees_of.nd rfl (by first | exact .inl rfl | exact .inr rfl)) pgs_nil)))
  (pss_cons (ps_asg (pe_ix ix_list (pv 1) (pv 4) (fun _ _ => rfl)) (pg_tup rfl (pgs_cons (pg_name (i := 6) sc_trees_of.nd rfl (by first | exact .inl rfl | exact .inr rfl)) (pgs_cons (pg_name (i := 7) sc_trees_of.nd rfl (by first | exact .inl rfl | exact .inr rfl)) pgs_nil))))
  (pss_cons (ps_set (i := 8) sc_trees_of.nd rfl (by first | exact .inl rfl | exact .inr rfl) (pe_lst pa_nil))
  (pss_cons (ps_for PassesOwn.leaving rfl (pi_list (pv 3)) (pg_tup rfl (pgs_cons (pg_name (i := 9) sc_trees_of.nd rfl (by first | exact .inl rfl | exact .inr rfl)) (pgs_cons (pg_name (i := 10) sc_trees_of.nd rfl (by first | exact .inl rfl | exact .inr rfl)) pgs_nil)))
  (pss_cons (ps_if (pt_cmpR op_ne (pe_ix ix_list (pv 10) (pv 6) (fun _ _ => rfl)) (pe_ix ix_list (pv 10) (pv 7) (fun _ _ => rfl)) (nomark _))
  (pss_one (ps_expr (pe_bm PySem.F.plainAttrs_list PySem.F.slot_list_append PySem.F.type_list_append mt_append (pv 8) (pa_cons (pe_tup (pa_cons (pe_op op_cat (pv 9) (pe_lst (pa_cons (pv 5) pa_nil))) (pa_cons (pe_call (ok_made_one T) (hr.mono (by decide)) (by rfl) T.g_made_one T.f_made_one.kp T.b_made_one .nil pass0 (pa_cons (pv 10) (pa_cons (pv 6) (pa_cons (pv 7) pa_nil)))) pa_nil))) pa_nil))))
  pss_nil)
  (pss_one (ps_if (pt_val (pe_call (ok_hang_together T) (hr.mono (by decide)) (by rfl) T.g_hang_together T.f_hang_together.kp T.b_hang_together .nil pass0 (pa_cons (pv 10) (pa_cons (pe_ix ix_list (pv 2) (pe_op op_add (pv 4) pe_int) (fun _ _ => rfl)) pa_nil))))
  (pss_one (ps_expr (pe_bm PySem.F.plainAttrs_list PySem.F.slot_list_append PySem.F.type_list_append mt_append (pv 8) (pa_cons (pe_tup (pa_cons (pv 9) (pa_cons (pv 10) pa_nil))) pa_nil))))
  pss_nil))))
  (pss_one (ps_set (i := 3) sc_trees_of.nd rfl (by first | exact .inl rfl | exact .inr rfl) (pv 8)))))))
  (pss_one (ps_ret (pe_callB (cr_sortedLs hr.units) (by rfl) T.m_sorted (by decide +kernel) (pa_cons (pe_lc (own := [("some", 9), ("parts", 10)]) (g := (gTup (gb K).K 2 (gCons (gName 9) (gCons (gName 10) gNil)))) (tt := tYes) rfl sc_trees_of.nd (pi_list (pv 3)) (blkOk_by (own := [("some", 9), ("parts", 10)]) (N := ["rows", "pairs", "later", "grown", "place", "tie", "one", "other", "longer", "some", "parts"]) (sc := defScope s_trees_of) (by decide +kernel)) (fun _ _ _ _ _ => (pg_tup rfl (pgs_cons (pg_name (i := 9) sc_trees_of.nd rfl (by first | exact .inl rfl | exact .inr rfl)) (pgs_cons (pg_name (i := 10) sc_trees_of.nd rfl (by first | exact .inl rfl | exact .inr rfl)) pgs_nil)))) (fun _ _ _ _ _ => pts_nil) (fun _ _ _ _ _ => (pv 9))) pa_nil))))))))), run_trees_of h⟩)
theorem ok__law_refused (T : Top K mg a d) : FnOk P w K mg base CX0 5 (a 16) (d 16) ["_law_rows_here"] (sp__law_refused (gb K)) :=
  haveI := T.exf; T.f__law_refused.ok sc__law_refused (fun vs H Q E h => len__law_refused vs H Q E h) (fun cdv A outer s H vs Q E hr h => ⟨t__law_refused (gb K), (pss_cons (ps_set (i := 1) sc__law_refused.nd rfl (by first | exact .inl rfl | exact .inr rfl) pe_bl)
  (pss_cons (ps_tryOn rfl rfl ⟨by rfl, by decide, .inl T.g_TooMany⟩ (fun W pn xe tk _ => (PSs_as (pss_one (ps_expr (pe_callSD (ok_trees_of T) (hr.mono (by decide)) (by rfl) T.g_trees_of T.f_trees_of.kp T.b_trees_of .nil (fun σ => L2N.passAt tk σ) (pa_cons (pv 0) pa_nil)))) rfl)) (fun xa2 oe xl4 xd5 pn hz hf => (pss_one (ps_set (i := 1) sc__law_refused.nd rfl (by first | exact .inl rfl | exact .inr rfl) pe_bl))))
  (pss_cons (ps_tryAs (i := 2) rfl rfl sc__law_refused.nd rfl rfl ⟨by rfl, by decide, .inl T.g_NetError⟩ (fun W pn xe tk _ => (PSs_as (pss_one (ps_expr (pe_callSD (ok_trees_of T) (hr.mono (by decide)) (by rfl) T.g_trees_of T.f_trees_of.kp T.b_trees_of .nil (fun σ => L2N.passAt tk σ) (pa_cons (pv 0) pa_nil)))) rfl)) (fun xa11 oe xl13 xd14 pn hz hf => (pss_one (ps_ret (pe_and (pv 1) (pe_and (pe_callB (call_isX hz hf) (by rfl) T.m_isinstance (by decide +kernel) (pa_cons (pv 2) (pa_cons (pe_bltn (v := .ty "ValueError") (by rfl) T.m_ValueError (by decide +kernel) rfl) pa_nil))) (pe_one (pe_not (pe_callB (call_isXT hz hf) (by rfl) T.m_isinstance (by decide +kernel) (pa_cons (pv 2) (pa_cons (pe_tup (pa_cons (pe_glob (by rfl) T.g_NoNet rfl) (pa_cons (pe_glob (by rfl) T.g_NoTie rfl) pa_nil))) pa_nil)))))))))))
  (pss_one (ps_ret pe_bl))))), run__law_refused h⟩)
theorem ok__law_dueT (T : Top K mg a d) : FnOk P w K mg base CX0 1 (a 17) (d 17) ["_law_sizes", "_law_names_here"] (sp__law_dueT (gb K)) :=
  T.f__law_dueT.ok sc__law_dueT (fun vs H Q E h => len__law_dueT vs H Q E h) (fun cdv A outer s H vs Q E hr h => ⟨t__law_dueT (gb K), (pss_cons (ps_set (i := 2) sc__law_dueT.nd rfl (by first | exact .inl rfl | exact .inr rfl) (pe_lst (pa_cons (pe_lst pa_nil) pa_nil)))
  (pss_cons (ps_set (i := 3) sc__law_dueT.nd rfl (by first | exact .inl rfl | exact .inr rfl) pe_int)
  (pss_cons (ps_for PassesOwn.never rfl (pi_tup (pv 0)) (pg_name (i := 4) sc__law_dueT.nd rfl (by first | exact .inl rfl | exact .inr rfl))
  (pss_cons (ps_set (i := 5) sc__law_dueT.nd rfl (by first | exact .inl rfl | exact .inr rfl) (pe_lst pa_nil))
  (pss_cons (ps_for PassesOwn.never rfl (pi_list (pv 2)) (pg_name (i := 6) sc__law_dueT.nd rfl (by first | exact .inl rfl | exact .inr rfl))
  (pss_one (ps_for PassesOwn.never rfl (pi_list (pe_slice sl_list (pv 1) (po_some (pv 3)) (po_some (pe_op op_add (pv 3) (pv 4))))) (pg_name (i := 7) sc__law_dueT.nd rfl (by first | exact .inl rfl | exact .inr rfl))
  (pss_one (ps_expr (pe_bm PySem.F.plainAttrs_list PySem.F.slot_list_append PySem.F.type_list_append mt_append (pv 5) (pa_cons (pe_op op_cat (pv 6) (pe_lst (pa_cons (pv 7) pa_nil))) pa_nil)))))))
  (pss_cons (ps_set (i := 2) sc__law_dueT.nd rfl (by first | exact .inl rfl | exact .inr rfl) (pv 5))
  (pss_one (ps_set (i := 3) sc__law_dueT.nd rfl (by first | exact .inl rfl | exact .inr rfl) (pe_op op_add (pv 3) (pv 4))))))))
  (pss_one (ps_ret (pe_callB (cr_sortedLs hr.units) (by rfl) T.m_sorted (by decide +kernel) (pa_cons (pe_lc (own := [("_law_some", 6)]) (g := (gName 6)) (tt := tYes) rfl sc__law_dueT.nd (pi_list (pv 2)) (blkOk_by (own := [("_law_some", 6)]) (N := ["_law_sizes", "_law_names_here", "_law_found", "_law_at", "_law_size", "_law_longer", "_law_some", "_law_name"]) (sc := defScope s__law_dueT) (by decide +kernel)) (fun _ _ _ _ _ => (pg_name (i := 6) sc__law_dueT.nd rfl (by first | exact .inl rfl | exact .inr rfl))) (fun _ _ _ _ _ => pts_nil) (fun _ _ _ _ _ => (pe_callB cr_sortedS (by rfl) T.m_sorted (by decide +kernel) (pa_cons (pv 6) pa_nil)))) pa_nil))))))), run__law_dueT h⟩)
theorem ok__law_rows (T : Top K mg a d) : FnOk P w K mg base CX0 1 (a 18) (d 18) ["_law_sizes", "_law_names_here", "_law_points"] (sp__law_rows (gb K)) :=
  T.f__law_rows.ok sc__law_rows (fun vs H Q E h => len__law_rows vs H Q E h) (fun cdv A outer s H vs Q E hr h => ⟨t__law_rows (gb K), (pss_cons (ps_set (i := 3) sc__law_rows.nd rfl (by first | exact .inl rfl | exact .inr rfl) (pe_lc (own := [("_law_k", 5)]) (g := (gName 5)) (tt := tYes) rfl sc__law_rows.nd (pi_range1 (by rfl) T.m_range (pa_cons (pe_op op_add (pe_callB call_len_seq (by rfl) T.m_len (by decide +kernel) (pa_cons (pv 0) pa_nil)) pe_int) pa_nil)) (blkOk_by (own := [("_law_k", 5)]) (N := ["_law_sizes", "_law_names_here", "_law_points", "_law_lists", "_law_at", "_law_k", "_law_bundle", "_law_name"]) (sc := defScope s__law_rows) (by decide +kernel)) (fun _ _ _ _ _ => (pg_name (i := 5) sc__law_rows.nd rfl (by first | exact .inl rfl | exact .inr rfl))) (fun _ _ _ _ _ => pts_nil) (fun _ _ _ _ _ => (pe_lst pa_nil))))
  (pss_cons (ps_set (i := 4) sc__law_rows.nd rfl (by first | exact .inl rfl | exact .inr rfl) pe_int)
  (pss_cons (ps_for PassesOwn.never rfl (pi_range1 (by rfl) T.m_range (pa_cons (pe_callB call_len_seq (by rfl) T.m_len (by decide +kernel) (pa_cons (pv 0) pa_nil)) pa_nil)) (pg_name (i := 5) sc__law_rows.nd rfl (by first | exact .inl rfl | exact .inr rfl))
  (pss_cons (ps_set (i := 6) sc__law_rows.nd rfl (by first | exact .inl rfl | exact .inr rfl) (pe_slice sl_list (pv 1) (po_some (pv 4)) (po_some (pe_op op_add (pv 4) (pe_ix ix_list (pv 0) (pv 5) (fun _ _ => rfl))))))
  (pss_cons (ps_set (i := 4) sc__law_rows.nd rfl (by first | exact .inl rfl | exact .inr rfl) (pe_op op_add (pv 4) (pe_ix ix_list (pv 0) (pv 5) (fun _ _ => rfl))))
  (pss_cons (ps_asg (pe_op op_cat (pe_ix ix_list (pv 3) (pv 5) (fun _ _ => rfl)) (pv 6)) (pg_sub (pv 3) (pv 5) set_list))
  (pss_one (ps_asg (pe_op op_cat (pe_ix ix_list (pv 3) (pe_op op_add (pv 5) pe_int) (fun _ _ => rfl)) (pe_lc (own := [("_law_name", 7)]) (g := (gName 7)) (tt := tYes) rfl sc__law_rows.nd (pi_reversed (by rfl) T.m_reversed (pa_cons (pv 6) pa_nil)) (blkOk_by (own := [("_law_name", 7)]) (N := ["_law_sizes", "_law_names_here", "_law_points", "_law_lists", "_law_at", "_law_k", "_law_bundle", "_law_name"]) (sc := defScope s__law_rows) (by decide +kernel)) (fun _ _ _ _ _ => (pg_name (i := 7) sc__law_rows.nd rfl (by first | exact .inl rfl | exact .inr rfl))) (fun _ _ _ _ _ => pts_nil) (fun _ _ _ _ _ => (pv 7)))) (pg_sub (pv 3) (pe_op op_add (pv 5) pe_int) set_list)))))))
  (pss_cons (ps_if (pt_cmpR op_lt (pv 4) pe_int (nomark _))
  (pss_one (ps_asg (pe_op op_cat (pe_ix ix_list (pv 3) (pe_un un_neg pe_int) (fun _ _ => rfl)) (pe_lst (pa_cons (pe_ix ix_list (pv 1) (pv 4) (fun _ _ => rfl)) (pa_cons (pe_ix ix_list (pv 1) (pv 4) (fun _ _ => rfl)) pa_nil)))) (pg_sub (pv 3) (pe_un un_neg pe_int) set_list)))
  pss_nil)
  (pss_one (ps_ret (pe_lc (own := [("_law_k", 5)]) (g := (gName 5)) (tt := tYes) rfl sc__law_rows.nd (pi_range1 (by rfl) T.m_range (pa_cons (pe_callB call_len_seq (by rfl) T.m_len (by decide +kernel) (pa_cons (pv 3) pa_nil)) pa_nil)) (blkOk_by (own := [("_law_k", 5)]) (N := ["_law_sizes", "_law_names_here", "_law_points", "_law_lists", "_law_at", "_law_k", "_law_bundle", "_law_name"]) (sc := defScope s__law_rows) (by decide +kernel)) (fun _ _ _ _ _ => (pg_name (i := 5) sc__law_rows.nd rfl (by first | exact .inl rfl | exact .inr rfl))) (fun _ _ _ _ _ => pts_nil) (fun _ _ _ _ _ => (pe_tup (pa_cons (pe_ix ix_list (pv 2) (pv 5) (fun _ _ => rfl)) (pa_cons (pe_ix ix_list (pv 3) (pv 5) (fun _ _ => rfl)) pa_nil))))))))))), run__law_rows h⟩)
theorem ok__law_due (T : Top K mg a d) : FnOk P w K mg base CX0 1 (a 19) (d 19) ["_law_sizes", "_law_names_here"] (sp__law_due (gb K)) :=
  T.f__law_due.ok sc__law_due (fun vs H Q E h => len__law_due vs H Q E h) (fun cdv A outer s H vs Q E hr h => ⟨t__law_due (gb K), (pss_cons (ps_set (i := 2) sc__law_due.nd rfl (by first | exact .inl rfl | exact .inr rfl) (pe_lst (pa_cons (pe_lst pa_nil) pa_nil)))
  (pss_cons (ps_set (i := 3) sc__law_due.nd rfl (by first | exact .inl rfl | exact .inr rfl) pe_int)
  (pss_cons (ps_for PassesOwn.never rfl (pi_list (pv 0)) (pg_name (i := 4) sc__law_due.nd rfl (by first | exact .inl rfl | exact .inr rfl))
  (pss_cons (ps_set (i := 5) sc__law_due.nd rfl (by first | exact .inl rfl | exact .inr rfl) (pe_lst pa_nil))
  (pss_cons (ps_for PassesOwn.never rfl (pi_list (pv 2)) (pg_name (i := 6) sc__law_due.nd rfl (by first | exact .inl rfl | exact .inr rfl))
  (pss_one (ps_for PassesOwn.never rfl (pi_list (pe_slice sl_list (pv 1) (po_some (pv 3)) (po_some (pe_op op_add (pv 3) (pv 4))))) (pg_name (i := 7) sc__law_due.nd rfl (by first | exact .inl rfl | exact .inr rfl))
  (pss_one (ps_expr (pe_bm PySem.F.plainAttrs_list PySem.F.slot_list_append PySem.F.type_list_append mt_append (pv 5) (pa_cons (pe_op op_cat (pv 6) (pe_lst (pa_cons (pv 7) pa_nil))) pa_nil)))))))
  (pss_cons (ps_set (i := 2) sc__law_due.nd rfl (by first | exact .inl rfl | exact .inr rfl) (pv 5))
  (pss_one (ps_set (i := 3) sc__law_due.nd rfl (by first | exact .inl rfl | exact .inr rfl) (pe_op op_add (pv 3) (pv 4))))))))
  (pss_one (ps_ret (pe_callB (cr_sortedLs hr.units) (by rfl) T.m_sorted (by decide +kernel) (pa_cons (pe_lc (own := [("_law_some", 6)]) (g := (gName 6)) (tt := tYes) rfl sc__law_due.nd (pi_list (pv 2)) (blkOk_by (own := [("_law_some", 6)]) (N := ["_law_sizes", "_law_names_here", "_law_found", "_law_at", "_law_size", "_law_longer", "_law_some", "_law_name"]) (sc := defScope s__law_due) (by decide +kernel)) (fun _ _ _ _ _ => (pg_name (i := 6) sc__law_due.nd rfl (by first | exact .inl rfl | exact .inr rfl))) (fun _ _ _ _ _ => pts_nil) (fun _ _ _ _ _ => (pe_callB cr_sortedS (by rfl) T.m_sorted (by decide +kernel) (pa_cons (pv 6) pa_nil)))) pa_nil))))))), run__law_due h⟩)
theorem ok_law (T : Top K mg a d) : FnOk P w K mg base CX0 6 (a 20) (d 20) ["_law_script"] (sp_law (gb K)) :=
  T.f_law.ok sc_law (fun vs H Q E h => len_law vs H Q E h) (fun cdv A outer s H vs Q E hr h => ⟨t_law (gb K), (pss_cons (ps_set (i := 1) sc_law.nd rfl (by first | exact .inl rfl | exact .inr rfl) (pe_call (ok__law_sizes_by T) (hr.mono (by decide)) (by rfl) T.g__law_sizes_by T.f__law_sizes_by.kp T.b__law_sizes_by .nil pass0 (pa_cons (pe_call (ok__law_big T) (hr.mono (by decide)) (by rfl) T.g__law_big T.f__law_big.kp T.b__law_big .nil pass0 (pa_cons (pv 0) (pa_cons pe_int pa_nil))) pa_nil)))
  (pss_or (pss_cons (ps_set (i := 2) sc_law.nd rfl (by first | exact .inl rfl | exact .inr rfl) (pe_op op_mod (pe_call (ok__law_cell_at T) (hr.mono (by decide)) (by rfl) T.g__law_cell_at T.f__law_cell_at.kp T.b__law_cell_at .nil pass0 (pa_cons (pv 0) (pa_cons pe_int pa_nil))) (pe_op op_pow pe_int pe_int)))
  (pss_cons (ps_set (i := 3) sc_law.nd rfl (by first | exact .inl rfl | exact .inr rfl) (pe_lst pa_nil))
  (pss_cons (ps_for PassesOwn.never rfl (pi_range1 (by rfl) T.m_range (pa_cons pe_int pa_nil)) (pg_name (i := 4) sc_law.nd rfl (by first | exact .inl rfl | exact .inr rfl))
  (pss_one (ps_expr (pe_bm PySem.F.plainAttrs_list PySem.F.slot_list_append PySem.F.type_list_append mt_append (pv 3) (pa_cons (pe_op op_add_str pe_str (pe_callTy call_str_int (by rfl) T.m_str (by decide +kernel) (pa_cons (pe_op op_mod (pe_op op_add (pv 2) (pe_op op_mulW (pv 4) pe_int)) pe_int) pa_nil))) pa_nil)))))
  (pss_cons (ps_set (i := 5) sc_law.nd rfl (by first | exact .inl rfl | exact .inr rfl) (pe_call (ok__law_rowsT T) (hr.mono (by decide)) (by rfl) T.g__law_rowsT T.f__law_rowsT.kp T.b__law_rowsT .nil pass0 (pa_cons (pv 1) (pa_cons (pv 3) (pa_cons (pe_call (ok__law_names T) (hr.mono (by decide)) (by rfl) T.g__law_names T.f__law_names.kp T.b__law_names .nil pass0 (pa_cons (pe_op op_fdivW (pv 2) pe_int) (pa_cons pe_int pa_nil))) pa_nil)))))
  (pss_cons (ps_set (i := 6) sc_law.nd rfl (by first | exact .inl rfl | exact .inr rfl) pe_int)
  (pss_cons (ps_for PassesOwn.never rfl (pi_tup (pv 1)) (pg_name (i := 7) sc_law.nd rfl (by first | exact .inl rfl | exact .inr rfl))
  (pss_one (ps_set (i := 6) sc_law.nd rfl (by first | exact .inl rfl | exact .inr rfl) (pe_op op_mulW (pv 6) (pv 7)))))
  (pss_cons (ps_if (pt_cmpR op_ne (pe_call (ok_tree_count T) (hr.mono (by decide)) (by rfl) T.g_tree_count T.f_tree_count.kp T.b_tree_count .nil pass0 (pa_cons (pv 5) pa_nil)) (pv 6) (nomark _))
  (pss_one (ps_ret pe_bl))
  pss_nil)
  (pss_cons (ps_if (pt_cmpR op_gt (pv 6) pe_int (nomark _))
  (pss_one (ps_ret (pe_call (ok__law_refused T) (hr.mono (by decide)) (by rfl) T.g__law_refused T.f__law_refused.kp T.b__law_refused .nil pass0 (pa_cons (pv 5) pa_nil))))
  pss_nil)
  (pss_cons (ps_set (i := 8) sc_law.nd rfl (by first | exact .inl rfl | exact .inr rfl) (pe_call (ok_trees_of T) (hr.mono (by decide)) (by rfl) T.g_trees_of T.f_trees_of.kp T.b_trees_of .nil passN (pa_cons (pv 5) pa_nil)))
  (pss_one (ps_ret (pe_and (pe_callB call_isi (by rfl) T.m_isinstance (by decide +kernel) (pa_cons (pv 8) (pa_cons (pe_bltn (v := .ty "list") (by rfl) T.m_list (by decide +kernel) rfl) pa_nil))) (pe_one (pe_cmpR (op_eqD hr.units) (pv 8) (pe_call (ok__law_dueT T) (hr.mono (by decide)) (by rfl) T.g__law_dueT T.f__law_dueT.kp T.b__law_dueT .nil pass0 (pa_cons (pv 1) (pa_cons (pv 3) pa_nil))) (nomark _)))))))))))))))
  (pss_cons (ps_set (i := 2) sc_law.nd rfl (by first | exact .inl rfl | exact .inr rfl) (pe_op op_mod (pe_call (ok__law_cell_at T) (hr.mono (by decide)) (by rfl) T.g__law_cell_at T.f__law_cell_at.kp T.b__law_cell_at .nil pass0 (pa_cons (pv 0) (pa_cons pe_int pa_nil))) (pe_op op_pow pe_int pe_int)))
  (pss_cons (ps_set (i := 3) sc_law.nd rfl (by first | exact .inl rfl | exact .inr rfl) (pe_lst pa_nil))
  (pss_cons (ps_for PassesOwn.never rfl (pi_range1 (by rfl) T.m_range (pa_cons pe_int pa_nil)) (pg_name (i := 4) sc_law.nd rfl (by first | exact .inl rfl | exact .inr rfl))
  (pss_one (ps_expr (pe_bm PySem.F.plainAttrs_list PySem.F.slot_list_append PySem.F.type_list_append mt_append (pv 3) (pa_cons (pe_op op_add_str pe_str (pe_callTy call_str_int (by rfl) T.m_str (by decide +kernel) (pa_cons (pe_op op_mod (pe_op op_add (pv 2) (pe_op op_mulW (pv 4) pe_int)) pe_int) pa_nil))) pa_nil)))))
  (pss_cons (ps_set (i := 5) sc_law.nd rfl (by first | exact .inl rfl | exact .inr rfl) (pe_call (ok__law_rows T) (hr.mono (by decide)) (by rfl) T.g__law_rows T.f__law_rows.kp T.b__law_rows .nil pass0 (pa_cons (pv 1) (pa_cons (pv 3) (pa_cons (pe_call (ok__law_names T) (hr.mono (by decide)) (by rfl) T.g__law_names T.f__law_names.kp T.b__law_names .nil pass0 (pa_cons (pe_op op_fdivW (pv 2) pe_int) (pa_cons pe_int pa_nil))) pa_nil)))))
  (pss_cons (ps_set (i := 6) sc_law.nd rfl (by first | exact .inl rfl | exact .inr rfl) pe_int)
  (pss_cons (ps_for PassesOwn.never rfl (pi_list (pv 1)) (pg_name (i := 7) sc_law.nd rfl (by first | exact .inl rfl | exact .inr rfl))
  (pss_one (ps_set (i := 6) sc_law.nd rfl (by first | exact .inl rfl | exact .inr rfl) (pe_op op_mulW (pv 6) (pv 7)))))
  (pss_cons (ps_if (pt_cmpR op_ne (pe_call (ok_tree_count T) (hr.mono (by decide)) (by rfl) T.g_tree_count T.f_tree_count.kp T.b_tree_count .nil pass0 (pa_cons (pv 5) pa_nil)) (pv 6) (nomark _))
  (pss_one (ps_ret pe_bl))
  pss_nil)
  (pss_cons (ps_if (pt_cmpR op_gt (pv 6) pe_int (nomark _))
  (pss_one (ps_ret (pe_call (ok__law_refused T) (hr.mono (by decide)) (by rfl) T.g__law_refused T.f__law_refused.kp T.b__law_refused .nil pass0 (pa_cons (pv 5) pa_nil))))
  pss_nil)
  (pss_cons (ps_set (i := 8) sc_law.nd rfl (by first | exact .inl rfl | exact .inr rfl) (pe_call (ok_trees_of T) (hr.mono (by decide)) (by rfl) T.g_trees_of T.f_trees_of.kp T.b_trees_of .nil passN (pa_cons (pv 5) pa_nil)))
  (pss_one (ps_ret (pe_and (pe_callB call_isi (by rfl) T.m_isinstance (by decide +kernel) (pa_cons (pv 8) (pa_cons (pe_bltn (v := .ty "list") (by rfl) T.m_list (by decide +kernel) rfl) pa_nil))) (pe_one (pe_cmpR (op_eqD hr.units) (pv 8) (pe_call (ok__law_due T) (hr.mono (by decide)) (by rfl) T.g__law_due T.f__law_due.kp T.b__law_due .nil pass0 (pa_cons (pv 1) (pa_cons (pv 3) pa_nil))) (nomark _))))))))))))))))), run_law h⟩)
end
theorem all_mk {l : PySem.W.OpenLaw} {w : World} {K : PySem.W.Frag} {h : Heap} {mg : Str → Option Value} {fa f0 f1 f2 f3 f4 f5 f6 f7 f8 f9 f10 f11 f12 f13 f14 f15 f16 f17 f18 f19 f20  X_TooMany X_NetError X_NoNet X_NoTie : Addr} (X : K.In h) (G : h.Ns mainGlobals mg) (hfa : mg "law" = some (.ref fa))
    {od0 an0 : Option Addr} {sl0 : Array (Option Value)} {oc0 kV0 dc0 pm0 cd0 ct0 : Value}
    (a0 : PySem.W.nsIn K mainGlobals "_law_sizes_by" = some (some (.ref f0)))
    (l0 : K.lookup f0 = some ⟨oc0, od0, .func (PySem.W.fnOf "_law_sizes_by" "_law_sizes_by" (defArgs s__law_sizes_by) (defBody s__law_sizes_by) (defScope s__law_sizes_by) .none kV0 dc0 pm0 an0 cd0 ct0), sl0⟩)
    (c0 : PySem.W.codeIn K cd0 "_law_sizes_by" = true) (k0 : PySem.W.keepIn K (.ref f0) = true)
    {od1 an1 : Option Addr} {sl1 : Array (Option Value)} {oc1 kV1 dc1 pm1 cd1 ct1 : Value}
    (a1 : PySem.W.nsIn K mainGlobals "_law_cell_at" = some (some (.ref f1)))
    (l1 : K.lookup f1 = some ⟨oc1, od1, .func (PySem.W.fnOf "_law_cell_at" "_law_cell_at" (defArgs s__law_cell_at) (defBody s__law_cell_at) (defScope s__law_cell_at) .none kV1 dc1 pm1 an1 cd1 ct1), sl1⟩)
    (c1 : PySem.W.codeIn K cd1 "_law_cell_at" = true) (k1 : PySem.W.keepIn K (.ref f1) = true)
    {od2 an2 : Option Addr} {sl2 : Array (Option Value)} {oc2 kV2 dc2 pm2 cd2 ct2 : Value}
    (a2 : PySem.W.nsIn K mainGlobals "_law_big" = some (some (.ref f2)))
    (l2 : K.lookup f2 = some ⟨oc2, od2, .func (PySem.W.fnOf "_law_big" "_law_big" (defArgs s__law_big) (defBody s__law_big) (defScope s__law_big) .none kV2 dc2 pm2 an2 cd2 ct2), sl2⟩)
    (c2 : PySem.W.codeIn K cd2 "_law_big" = true) (k2 : PySem.W.keepIn K (.ref f2) = true)
    {od3 an3 : Option Addr} {sl3 : Array (Option Value)} {oc3 kV3 dc3 pm3 cd3 ct3 : Value}
    (a3 : PySem.W.nsIn K mainGlobals "_law_rows" = some (some (.ref f3)))
    (l3 : K.lookup f3 = some ⟨oc3, od3, .func (PySem.W.fnOf "_law_rows" "_law_rows" (defArgs s__law_rowsT) (defBody s__law_rowsT) (defScope s__law_rowsT) .none kV3 dc3 pm3 an3 cd3 ct3), sl3⟩)
    (c3 : PySem.W.codeIn K cd3 "_law_rows" = true) (k3 : PySem.W.keepIn K (.ref f3) = true)
    {od4 an4 : Option Addr} {sl4 : Array (Option Value)} {oc4 kV4 dc4 pm4 cd4 ct4 : Value}
    (a4 : PySem.W.nsIn K mainGlobals "_law_names" = some (some (.ref f4)))
    (l4 : K.lookup f4 = some ⟨oc4, od4, .func (PySem.W.fnOf "_law_names" "_law_names" (defArgs s__law_names) (defBody s__law_names) (defScope s__law_names) .none kV4 dc4 pm4 an4 cd4 ct4), sl4⟩)
    (c4 : PySem.W.codeIn K cd4 "_law_names" = true) (k4 : PySem.W.keepIn K (.ref f4) = true)
    {od5 an5 : Option Addr} {sl5 : Array (Option Value)} {oc5 kV5 dc5 pm5 cd5 ct5 : Value}
    (a5 : PySem.W.nsIn K mainGlobals "worth_of" = some (some (.ref f5)))
    (l5 : K.lookup f5 = some ⟨oc5, od5, .func (PySem.W.fnOf "worth_of" "worth_of" (defArgs s_worth_of) (defBody s_worth_of) (defScope s_worth_of) .none kV5 dc5 pm5 an5 cd5 ct5), sl5⟩)
    (c5 : PySem.W.codeIn K cd5 "worth_of" = true) (k5 : PySem.W.keepIn K (.ref f5) = true)
    {od6 an6 : Option Addr} {sl6 : Array (Option Value)} {oc6 kV6 dc6 pm6 cd6 ct6 : Value}
    (a6 : PySem.W.nsIn K mainGlobals "points_of" = some (some (.ref f6)))
    (l6 : K.lookup f6 = some ⟨oc6, od6, .func (PySem.W.fnOf "points_of" "points_of" (defArgs s_points_of) (defBody s_points_of) (defScope s_points_of) .none kV6 dc6 pm6 an6 cd6 ct6), sl6⟩)
    (c6 : PySem.W.codeIn K cd6 "points_of" = true) (k6 : PySem.W.keepIn K (.ref f6) = true)
    {od7 an7 : Option Addr} {sl7 : Array (Option Value)} {oc7 kV7 dc7 pm7 cd7 ct7 : Value}
    (a7 : PySem.W.nsIn K mainGlobals "points_by_tie" = some (some (.ref f7)))
    (l7 : K.lookup f7 = some ⟨oc7, od7, .func (PySem.W.fnOf "points_by_tie" "points_by_tie" (defArgs s_points_by_tie) (defBody s_points_by_tie) (defScope s_points_by_tie) .none kV7 dc7 pm7 an7 cd7 ct7), sl7⟩)
    (c7 : PySem.W.codeIn K cd7 "points_by_tie" = true) (k7 : PySem.W.keepIn K (.ref f7) = true)
    {od8 an8 : Option Addr} {sl8 : Array (Option Value)} {oc8 kV8 dc8 pm8 cd8 ct8 : Value}
    (a8 : PySem.W.nsIn K mainGlobals "table_without_first" = some (some (.ref f8)))
    (l8 : K.lookup f8 = some ⟨oc8, od8, .func (PySem.W.fnOf "table_without_first" "table_without_first" (defArgs s_table_without_first) (defBody s_table_without_first) (defScope s_table_without_first) .none kV8 dc8 pm8 an8 cd8 ct8), sl8⟩)
    (c8 : PySem.W.codeIn K cd8 "table_without_first" = true) (k8 : PySem.W.keepIn K (.ref f8) = true)
    {od9 an9 : Option Addr} {sl9 : Array (Option Value)} {oc9 kV9 dc9 pm9 cd9 ct9 : Value}
    (a9 : PySem.W.nsIn K mainGlobals "tree_count" = some (some (.ref f9)))
    (l9 : K.lookup f9 = some ⟨oc9, od9, .func (PySem.W.fnOf "tree_count" "tree_count" (defArgs s_tree_count) (defBody s_tree_count) (defScope s_tree_count) .none kV9 dc9 pm9 an9 cd9 ct9), sl9⟩)
    (c9 : PySem.W.codeIn K cd9 "tree_count" = true) (k9 : PySem.W.keepIn K (.ref f9) = true)
    {od10 an10 : Option Addr} {sl10 : Array (Option Value)} {oc10 kV10 dc10 pm10 cd10 ct10 : Value}
    (a10 : PySem.W.nsIn K mainGlobals "ties_of" = some (some (.ref f10)))
    (l10 : K.lookup f10 = some ⟨oc10, od10, .func (PySem.W.fnOf "ties_of" "ties_of" (defArgs s_ties_of) (defBody s_ties_of) (defScope s_ties_of) .none kV10 dc10 pm10 an10 cd10 ct10), sl10⟩)
    (c10 : PySem.W.codeIn K cd10 "ties_of" = true) (k10 : PySem.W.keepIn K (.ref f10) = true)
    {od11 an11 : Option Addr} {sl11 : Array (Option Value)} {oc11 kV11 dc11 pm11 cd11 ct11 : Value}
    (a11 : PySem.W.nsIn K mainGlobals "pairs_of" = some (some (.ref f11)))
    (l11 : K.lookup f11 = some ⟨oc11, od11, .func (PySem.W.fnOf "pairs_of" "pairs_of" (defArgs s_pairs_of) (defBody s_pairs_of) (defScope s_pairs_of) .none kV11 dc11 pm11 an11 cd11 ct11), sl11⟩)
    (c11 : PySem.W.codeIn K cd11 "pairs_of" = true) (k11 : PySem.W.keepIn K (.ref f11) = true)
    {od12 an12 : Option Addr} {sl12 : Array (Option Value)} {oc12 kV12 dc12 pm12 cd12 ct12 : Value}
    (a12 : PySem.W.nsIn K mainGlobals "made_one" = some (some (.ref f12)))
    (l12 : K.lookup f12 = some ⟨oc12, od12, .func (PySem.W.fnOf "made_one" "made_one" (defArgs s_made_one) (defBody s_made_one) (defScope s_made_one) .none kV12 dc12 pm12 an12 cd12 ct12), sl12⟩)
    (c12 : PySem.W.codeIn K cd12 "made_one" = true) (k12 : PySem.W.keepIn K (.ref f12) = true)
    {od13 an13 : Option Addr} {sl13 : Array (Option Value)} {oc13 kV13 dc13 pm13 cd13 ct13 : Value}
    (a13 : PySem.W.nsIn K mainGlobals "parts_from" = some (some (.ref f13)))
    (l13 : K.lookup f13 = some ⟨oc13, od13, .func (PySem.W.fnOf "parts_from" "parts_from" (defArgs s_parts_from) (defBody s_parts_from) (defScope s_parts_from) .none kV13 dc13 pm13 an13 cd13 ct13), sl13⟩)
    (c13 : PySem.W.codeIn K cd13 "parts_from" = true) (k13 : PySem.W.keepIn K (.ref f13) = true)
    {od14 an14 : Option Addr} {sl14 : Array (Option Value)} {oc14 kV14 dc14 pm14 cd14 ct14 : Value}
    (a14 : PySem.W.nsIn K mainGlobals "hang_together" = some (some (.ref f14)))
    (l14 : K.lookup f14 = some ⟨oc14, od14, .func (PySem.W.fnOf "hang_together" "hang_together" (defArgs s_hang_together) (defBody s_hang_together) (defScope s_hang_together) .none kV14 dc14 pm14 an14 cd14 ct14), sl14⟩)
    (c14 : PySem.W.codeIn K cd14 "hang_together" = true) (k14 : PySem.W.keepIn K (.ref f14) = true)
    {od15 an15 : Option Addr} {sl15 : Array (Option Value)} {oc15 kV15 dc15 pm15 cd15 ct15 : Value}
    (a15 : PySem.W.nsIn K mainGlobals "trees_of" = some (some (.ref f15)))
    (l15 : K.lookup f15 = some ⟨oc15, od15, .func (PySem.W.fnOf "trees_of" "trees_of" (defArgs s_trees_of) (defBody s_trees_of) (defScope s_trees_of) .none kV15 dc15 pm15 an15 cd15 ct15), sl15⟩)
    (c15 : PySem.W.codeIn K cd15 "trees_of" = true) (k15 : PySem.W.keepIn K (.ref f15) = true)
    {od16 an16 : Option Addr} {sl16 : Array (Option Value)} {oc16 kV16 dc16 pm16 cd16 ct16 : Value}
    (a16 : PySem.W.nsIn K mainGlobals "_law_refused" = some (some (.ref f16)))
    (l16 : K.lookup f16 = some ⟨oc16, od16, .func (PySem.W.fnOf "_law_refused" "_law_refused" (defArgs s__law_refused) (defBody s__law_refused) (defScope s__law_refused) .none kV16 dc16 pm16 an16 cd16 ct16), sl16⟩)
    (c16 : PySem.W.codeIn K cd16 "_law_refused" = true) (k16 : PySem.W.keepIn K (.ref f16) = true)
    {od17 an17 : Option Addr} {sl17 : Array (Option Value)} {oc17 kV17 dc17 pm17 cd17 ct17 : Value}
    (a17 : PySem.W.nsIn K mainGlobals "_law_due" = some (some (.ref f17)))
    (l17 : K.lookup f17 = some ⟨oc17, od17, .func (PySem.W.fnOf "_law_due" "_law_due" (defArgs s__law_dueT) (defBody s__law_dueT) (defScope s__law_dueT) .none kV17 dc17 pm17 an17 cd17 ct17), sl17⟩)
    (c17 : PySem.W.codeIn K cd17 "_law_due" = true) (k17 : PySem.W.keepIn K (.ref f17) = true)
    {od18 an18 : Option Addr} {sl18 : Array (Option Value)} {oc18 kV18 dc18 pm18 cd18 ct18 : Value}
    (a18 : PySem.W.nsIn K mainGlobals "_law_rows" = some (some (.ref f18)))
    (l18 : K.lookup f18 = some ⟨oc18, od18, .func (PySem.W.fnOf "_law_rows" "_law_rows" (defArgs s__law_rows) (defBody s__law_rows) (defScope s__law_rows) .none kV18 dc18 pm18 an18 cd18 ct18), sl18⟩)
    (c18 : PySem.W.codeIn K cd18 "_law_rows" = true) (k18 : PySem.W.keepIn K (.ref f18) = true)
    {od19 an19 : Option Addr} {sl19 : Array (Option Value)} {oc19 kV19 dc19 pm19 cd19 ct19 : Value}
    (a19 : PySem.W.nsIn K mainGlobals "_law_due" = some (some (.ref f19)))
    (l19 : K.lookup f19 = some ⟨oc19, od19, .func (PySem.W.fnOf "_law_due" "_law_due" (defArgs s__law_due) (defBody s__law_due) (defScope s__law_due) .none kV19 dc19 pm19 an19 cd19 ct19), sl19⟩)
    (c19 : PySem.W.codeIn K cd19 "_law_due" = true) (k19 : PySem.W.keepIn K (.ref f19) = true)
    {od20 an20 : Option Addr} {sl20 : Array (Option Value)} {oc20 kV20 dc20 pm20 cd20 ct20 : Value}
    (a20 : PySem.W.nsIn K mainGlobals "law" = some (some (.ref f20)))
    (l20 : K.lookup f20 = some ⟨oc20, od20, .func (PySem.W.fnOf "law" "law" (defArgs s_law) (defBody s_law) (defScope s_law) .none kV20 dc20 pm20 an20 cd20 ct20), sl20⟩)
    (c20 : PySem.W.codeIn K cd20 "law" = true) (k20 : PySem.W.keepIn K (.ref f20) = true)
    (aX_TooMany : PySem.W.nsIn K mainGlobals "TooMany" = some (some (.ref X_TooMany))) (xb_TooMany : PySem.W.subIn K (.ref X_TooMany) (.type "BaseException") = some true) (xd_TooMany : PySem.W.hasDictIn K X_TooMany = true) (xt_TooMany : PySem.W.typeIn K (.ref X_TooMany) = some (.type "type"))
    (aX_NetError : PySem.W.nsIn K mainGlobals "NetError" = some (some (.ref X_NetError))) (xb_NetError : PySem.W.subIn K (.ref X_NetError) (.type "BaseException") = some true) (xd_NetError : PySem.W.hasDictIn K X_NetError = true) (xt_NetError : PySem.W.typeIn K (.ref X_NetError) = some (.type "type"))
    (aX_NoNet : PySem.W.nsIn K mainGlobals "NoNet" = some (some (.ref X_NoNet))) (xb_NoNet : PySem.W.subIn K (.ref X_NoNet) (.type "BaseException") = some true) (xd_NoNet : PySem.W.hasDictIn K X_NoNet = true) (xt_NoNet : PySem.W.typeIn K (.ref X_NoNet) = some (.type "type"))
    (aX_NoTie : PySem.W.nsIn K mainGlobals "NoTie" = some (some (.ref X_NoTie))) (xb_NoTie : PySem.W.subIn K (.ref X_NoTie) (.type "BaseException") = some true) (xd_NoTie : PySem.W.hasDictIn K X_NoTie = true) (xt_NoTie : PySem.W.typeIn K (.ref X_NoTie) = some (.type "type"))
    (xx_TooMany : PySem.W.excIn K X_TooMany [.type "ValueError", .type "Exception", .type "BaseException", .type "object"] "ValueError.__new__" = true) (xk_TooMany : PySem.W.keepIn K (.ref X_TooMany) = true)
    (e1_TooMany : PySem.W.findIn K (.ref X_TooMany) "__getattribute__" = some (some (.builtin "BaseException.__getattribute__"))) (e2_TooMany : PySem.W.findIn K (.ref X_TooMany) "__getattr__" = some none) (e3_TooMany : PySem.W.findIn K (.ref X_TooMany) "__class__" = some (some (.builtin "object.__class__"))) (e4_TooMany : PySem.W.mroIn K X_TooMany (.type "object") = some true) (e5_TooMany : PySem.W.subIn K (.ref X_TooMany) (.type "ValueError") = some true) (e6_TooMany : PySem.W.subIn K (.ref X_TooMany) (.ref X_TooMany) = some true)
    (u_TooMany_TooMany : PySem.W.subIn K (.ref X_TooMany) (.ref X_TooMany) = some true)
    (u_TooMany_NetError : PySem.W.subIn K (.ref X_TooMany) (.ref X_NetError) = some true)
    (u_TooMany_NoNet : PySem.W.subIn K (.ref X_TooMany) (.ref X_NoNet) = some false)
    (u_TooMany_NoTie : PySem.W.subIn K (.ref X_TooMany) (.ref X_NoTie) = some false)
    (fx1 : PySem.W.specialIn K (.builtin "object.__class__") "__get__" = some (some (.builtin "getset_descriptor.__get__"))) (fx2 : PySem.W.takesIn K (.builtin "object.__class__") = some true)
    (z_ValueError : PySem.W.nsIn K mainGlobals "ValueError" = some none)
    (z_enumerate : PySem.W.nsIn K mainGlobals "enumerate" = some none)
    (z_isinstance : PySem.W.nsIn K mainGlobals "isinstance" = some none)
    (z_len : PySem.W.nsIn K mainGlobals "len" = some none)
    (z_list : PySem.W.nsIn K mainGlobals "list" = some none)
    (z_min : PySem.W.nsIn K mainGlobals "min" = some none)
    (z_range : PySem.W.nsIn K mainGlobals "range" = some none)
    (z_reversed : PySem.W.nsIn K mainGlobals "reversed" = some none)
    (z_sorted : PySem.W.nsIn K mainGlobals "sorted" = some none)
    (z_str : PySem.W.nsIn K mainGlobals "str" = some none)
    {tk_MOST_TREES : Tok} (q_MOST_TREES : PySem.W.nsIn K mainGlobals "MOST_TREES" = some (some (.int 300 tk_MOST_TREES)))
    : ∃ fd : FuncData, (∀ (s : Shared) (v : Value), BindsTo s fd ⟨[v], []⟩ [("_law_script", v)]) ∧ ∀ base : Heap, K.In base → base.Ns mainGlobals mg → FnOk l.prog w K mg base CX0 6 fa fd ["_law_script"] (sp_law (gb K)) := by
  have e := hfa.symm.trans (PySem.W.mg_of X G a20)
  cases e
  have eX_TooMany : clOf K "TooMany" = X_TooMany := by unfold clOf; rw [aX_TooMany]
  subst eX_TooMany
  have eX_NetError : clOf K "NetError" = X_NetError := by unfold clOf; rw [aX_NetError]
  subst eX_NetError
  have eX_NoNet : clOf K "NoNet" = X_NoNet := by unfold clOf; rw [aX_NoNet]
  subst eX_NoNet
  have eX_NoTie : clOf K "NoTie" = X_NoTie := by unfold clOf; rw [aX_NoTie]
  subst eX_NoTie
  have EXF : ExF (gb K) XC XT := by
    refine ⟨fun c hc => ?_, fun c hc T hT => ?_, fun c hc => ?_, fun c hc T hT => ?_⟩
    · simp only [XC, List.mem_cons, List.not_mem_nil, or_false] at hc
      rcases hc with rfl
      · exact ⟨e1_TooMany, e2_TooMany, xb_TooMany, xd_TooMany, e3_TooMany, fx1, fx2, e4_TooMany⟩
    · simp only [XC, List.mem_cons, List.not_mem_nil, or_false] at hc
      simp only [XT, List.mem_cons, List.not_mem_nil, or_false] at hT
      rcases hc with rfl
      · rcases hT with rfl | rfl | rfl | rfl
        · exact (kit_ref e6_TooMany xd_TooMany xt_TooMany u_TooMany_TooMany).trans (congrArg some (by decide +kernel))
        · exact (kit_ref e6_TooMany xd_NetError xt_NetError u_TooMany_NetError).trans (congrArg some (by decide +kernel))
        · exact (kit_ref e6_TooMany xd_NoNet xt_NoNet u_TooMany_NoNet).trans (congrArg some (by decide +kernel))
        · exact (kit_ref e6_TooMany xd_NoTie xt_NoTie u_TooMany_NoTie).trans (congrArg some (by decide +kernel))
    · simp only [XC, List.mem_cons, List.not_mem_nil, or_false] at hc
      rcases hc with rfl
      · exact kit_vE e5_TooMany
    · simp only [XC, List.mem_cons, List.not_mem_nil, or_false] at hc
      simp only [XT, List.mem_cons, List.not_mem_nil, or_false] at hT
      rcases hc with rfl
      · rcases hT with rfl | rfl | rfl | rfl
        · exact (PySem.W.exm_ref xb_TooMany xd_TooMany xt_TooMany u_TooMany_TooMany).trans (congrArg some (by decide +kernel))
        · exact (PySem.W.exm_ref xb_NetError xd_NetError xt_NetError u_TooMany_NetError).trans (congrArg some (by decide +kernel))
        · exact (PySem.W.exm_ref xb_NoNet xd_NoNet xt_NoNet u_TooMany_NoNet).trans (congrArg some (by decide +kernel))
        · exact (PySem.W.exm_ref xb_NoTie xd_NoTie xt_NoTie u_TooMany_NoTie).trans (congrArg some (by decide +kernel))
  have F0 := fun_mk (st := s__law_sizes_by) l0 c0 k0
  have b0 := F0.binds (ps := ["_law_big_here"]) fun _ _ _ _ _ _ us hl => match us, hl with | [_], _ => rfl
  have F1 := fun_mk (st := s__law_cell_at) l1 c1 k1
  have b1 := F1.binds (ps := ["_law_script", "_law_k"]) fun _ _ _ _ _ _ us hl => match us, hl with | [_, _], _ => rfl
  have F2 := fun_mk (st := s__law_big) l2 c2 k2
  have b2 := F2.binds (ps := ["_law_script", "_law_at"]) fun _ _ _ _ _ _ us hl => match us, hl with | [_, _], _ => rfl
  have F3 := fun_mk (st := s__law_rowsT) l3 c3 k3
  have b3 := F3.binds (ps := ["_law_sizes", "_law_names_here", "_law_points"]) fun _ _ _ _ _ _ us hl => match us, hl with | [_, _, _], _ => rfl
  have F4 := fun_mk (st := s__law_names) l4 c4 k4
  have b4 := F4.binds (ps := ["_law_stem", "_law_many"]) fun _ _ _ _ _ _ us hl => match us, hl with | [_, _], _ => rfl
  have F5 := fun_mk (st := s_worth_of) l5 c5 k5
  have b5 := F5.binds (ps := ["table"]) fun _ _ _ _ _ _ us hl => match us, hl with | [_], _ => rfl
  have F6 := fun_mk (st := s_points_of) l6 c6 k6
  have b6 := F6.binds (ps := ["rows"]) fun _ _ _ _ _ _ us hl => match us, hl with | [_], _ => rfl
  have F7 := fun_mk (st := s_points_by_tie) l7 c7 k7
  have b7 := F7.binds (ps := ["rows"]) fun _ _ _ _ _ _ us hl => match us, hl with | [_], _ => rfl
  have F8 := fun_mk (st := s_table_without_first) l8 c8 k8
  have b8 := F8.binds (ps := ["rows"]) fun _ _ _ _ _ _ us hl => match us, hl with | [_], _ => rfl
  have F9 := fun_mk (st := s_tree_count) l9 c9 k9
  have b9 := F9.binds (ps := ["rows"]) fun _ _ _ _ _ _ us hl => match us, hl with | [_], _ => rfl
  have F10 := fun_mk (st := s_ties_of) l10 c10 k10
  have b10 := F10.binds (ps := ["rows"]) fun _ _ _ _ _ _ us hl => match us, hl with | [_], _ => rfl
  have F11 := fun_mk (st := s_pairs_of) l11 c11 k11
  have b11 := F11.binds (ps := ["rows"]) fun _ _ _ _ _ _ us hl => match us, hl with | [_], _ => rfl
  have F12 := fun_mk (st := s_made_one) l12 c12 k12
  have b12 := F12.binds (ps := ["parts", "one", "other"]) fun _ _ _ _ _ _ us hl => match us, hl with | [_, _, _], _ => rfl
  have F13 := fun_mk (st := s_parts_from) l13 c13 k13
  have b13 := F13.binds (ps := ["many", "pairs"]) fun _ _ _ _ _ _ us hl => match us, hl with | [_, _], _ => rfl
  have F14 := fun_mk (st := s_hang_together) l14 c14 k14
  have b14 := F14.binds (ps := ["parts", "later"]) fun _ _ _ _ _ _ us hl => match us, hl with | [_, _], _ => rfl
  have F15 := fun_mk (st := s_trees_of) l15 c15 k15
  have b15 := F15.binds (ps := ["rows"]) fun _ _ _ _ _ _ us hl => match us, hl with | [_], _ => rfl
  have F16 := fun_mk (st := s__law_refused) l16 c16 k16
  have b16 := F16.binds (ps := ["_law_rows_here"]) fun _ _ _ _ _ _ us hl => match us, hl with | [_], _ => rfl
  have F17 := fun_mk (st := s__law_dueT) l17 c17 k17
  have b17 := F17.binds (ps := ["_law_sizes", "_law_names_here"]) fun _ _ _ _ _ _ us hl => match us, hl with | [_, _], _ => rfl
  have F18 := fun_mk (st := s__law_rows) l18 c18 k18
  have b18 := F18.binds (ps := ["_law_sizes", "_law_names_here", "_law_points"]) fun _ _ _ _ _ _ us hl => match us, hl with | [_, _, _], _ => rfl
  have F19 := fun_mk (st := s__law_due) l19 c19 k19
  have b19 := F19.binds (ps := ["_law_sizes", "_law_names_here"]) fun _ _ _ _ _ _ us hl => match us, hl with | [_, _], _ => rfl
  have F20 := fun_mk (st := s_law) l20 c20 k20
  have b20 := F20.binds (ps := ["_law_script"]) fun _ _ _ _ _ _ us hl => match us, hl with | [_], _ => rfl
  let av : Nat → Addr := fun i => [f0, f1, f2, f3, f4, f5, f6, f7, f8, f9, f10, f11, f12, f13, f14, f15, f16, f17, f18, f19, fa].getD i 0
  let dv : Nat → FuncData := fun i => [PySem.W.fnOf "_law_sizes_by" "_law_sizes_by" (defArgs s__law_sizes_by) (defBody s__law_sizes_by) (defScope s__law_sizes_by) .none kV0 dc0 pm0 an0 cd0 ct0, PySem.W.fnOf "_law_cell_at" "_law_cell_at" (defArgs s__law_cell_at) (defBody s__law_cell_at) (defScope s__law_cell_at) .none kV1 dc1 pm1 an1 cd1 ct1, PySem.W.fnOf "_law_big" "_law_big" (defArgs s__law_big) (defBody s__law_big) (defScope s__law_big) .none kV2 dc2 pm2 an2 cd2 ct2, PySem.W.fnOf "_law_rows" "_law_rows" (defArgs s__law_rowsT) (defBody s__law_rowsT) (defScope s__law_rowsT) .none kV3 dc3 pm3 an3 cd3 ct3, PySem.W.fnOf "_law_names" "_law_names" (defArgs s__law_names) (defBody s__law_names) (defScope s__law_names) .none kV4 dc4 pm4 an4 cd4 ct4, PySem.W.fnOf "worth_of" "worth_of" (defArgs s_worth_of) (defBody s_worth_of) (defScope s_worth_of) .none kV5 dc5 pm5 an5 cd5 ct5, PySem.W.fnOf "points_of" "points_of" (defArgs s_points_of) (defBody s_points_of) (defScope s_points_of) .none kV6 dc6 pm6 an6 cd6 ct6, PySem.W.fnOf "points_by_tie" "points_by_tie" (defArgs s_points_by_tie) (defBody s_points_by_tie) (defScope s_points_by_tie) .none kV7 dc7 pm7 an7 cd7 ct7, PySem.W.fnOf "table_without_first" "table_without_first" (defArgs s_table_without_first) (defBody s_table_without_first) (defScope s_table_without_first) .none kV8 dc8 pm8 an8 cd8 ct8, PySem.W.fnOf "tree_count" "tree_count" (defArgs s_tree_count) (defBody s_tree_count) (defScope s_tree_count) .none kV9 dc9 pm9 an9 cd9 ct9, PySem.W.fnOf "ties_of" "ties_of" (defArgs s_ties_of) (defBody s_ties_of) (defScope s_ties_of) .none kV10 dc10 pm10 an10 cd10 ct10, PySem.W.fnOf "pairs_of" "pairs_of" (defArgs s_pairs_of) (defBody s_pairs_of) (defScope s_pairs_of) .none kV11 dc11 pm11 an11 cd11 ct11, PySem.W.fnOf "made_one" "made_one" (defArgs s_made_one) (defBody s_made_one) (defScope s_made_one) .none kV12 dc12 pm12 an12 cd12 ct12, PySem.W.fnOf "parts_from" "parts_from" (defArgs s_parts_from) (defBody s_parts_from) (defScope s_parts_from) .none kV13 dc13 pm13 an13 cd13 ct13, PySem.W.fnOf "hang_together" "hang_together" (defArgs s_hang_together) (defBody s_hang_together) (defScope s_hang_together) .none kV14 dc14 pm14 an14 cd14 ct14, PySem.W.fnOf "trees_of" "trees_of" (defArgs s_trees_of) (defBody s_trees_of) (defScope s_trees_of) .none kV15 dc15 pm15 an15 cd15 ct15, PySem.W.fnOf "_law_refused" "_law_refused" (defArgs s__law_refused) (defBody s__law_refused) (defScope s__law_refused) .none kV16 dc16 pm16 an16 cd16 ct16, PySem.W.fnOf "_law_due" "_law_due" (defArgs s__law_dueT) (defBody s__law_dueT) (defScope s__law_dueT) .none kV17 dc17 pm17 an17 cd17 ct17, PySem.W.fnOf "_law_rows" "_law_rows" (defArgs s__law_rows) (defBody s__law_rows) (defScope s__law_rows) .none kV18 dc18 pm18 an18 cd18 ct18, PySem.W.fnOf "_law_due" "_law_due" (defArgs s__law_due) (defBody s__law_due) (defScope s__law_due) .none kV19 dc19 pm19 an19 cd19 ct19, PySem.W.fnOf "law" "law" (defArgs s_law) (defBody s_law) (defScope s_law) .none kV20 dc20 pm20 an20 cd20 ct20].getD i (PySem.W.fnOf "law" "law" (defArgs s_law) (defBody s_law) (defScope s_law) .none kV20 dc20 pm20 an20 cd20 ct20)
  have T : Top K mg av dv := { f__law_sizes_by := F0, b__law_sizes_by := b0, g__law_sizes_by := PySem.W.mg_of X G a0, f__law_cell_at := F1, b__law_cell_at := b1, g__law_cell_at := PySem.W.mg_of X G a1, f__law_big := F2, b__law_big := b2, g__law_big := PySem.W.mg_of X G a2, f__law_rowsT := F3, b__law_rowsT := b3, g__law_rowsT := PySem.W.mg_of X G a3, f__law_names := F4, b__law_names := b4, g__law_names := PySem.W.mg_of X G a4, f_worth_of := F5, b_worth_of := b5, g_worth_of := PySem.W.mg_of X G a5, f_points_of := F6, b_points_of := b6, g_points_of := PySem.W.mg_of X G a6, f_points_by_tie := F7, b_points_by_tie := b7, g_points_by_tie := PySem.W.mg_of X G a7, f_table_without_first := F8, b_table_without_first := b8, g_table_without_first := PySem.W.mg_of X G a8, f_tree_count := F9, b_tree_count := b9, g_tree_count := PySem.W.mg_of X G a9, f_ties_of := F10, b_ties_of := b10, g_ties_of := PySem.W.mg_of X G a10, f_pairs_of := F11, b_pairs_of := b11, g_pairs_of := PySem.W.mg_of X G a11, f_made_one := F12, b_made_one := b12, g_made_one := PySem.W.mg_of X G a12, f_parts_from := F13, b_parts_from := b13, g_parts_from := PySem.W.mg_of X G a13, f_hang_together := F14, b_hang_together := b14, g_hang_together := PySem.W.mg_of X G a14, f_trees_of := F15, b_trees_of := b15, g_trees_of := PySem.W.mg_of X G a15, f__law_refused := F16, b__law_refused := b16, g__law_refused := PySem.W.mg_of X G a16, f__law_dueT := F17, b__law_dueT := b17, g__law_dueT := PySem.W.mg_of X G a17, f__law_rows := F18, b__law_rows := b18, g__law_rows := PySem.W.mg_of X G a18, f__law_due := F19, b__law_due := b19, g__law_due := PySem.W.mg_of X G a19, f_law := F20, b_law := b20, g_law := PySem.W.mg_of X G a20, g_TooMany := PySem.W.mg_of X G aX_TooMany, g_NetError := PySem.W.mg_of X G aX_NetError, g_NoNet := PySem.W.mg_of X G aX_NoNet, g_NoTie := PySem.W.mg_of X G aX_NoTie, xx_TooMany := xx_TooMany, xk_TooMany := xk_TooMany, xb_TooMany := xb_TooMany, xt_TooMany := xt_TooMany, exf := EXF, m_ValueError := PySem.W.mg_none_of X G z_ValueError, m_enumerate := PySem.W.mg_none_of X G z_enumerate, m_isinstance := PySem.W.mg_none_of X G z_isinstance, m_len := PySem.W.mg_none_of X G z_len, m_list := PySem.W.mg_none_of X G z_list, m_min := PySem.W.mg_none_of X G z_min, m_range := PySem.W.mg_none_of X G z_range, m_reversed := PySem.W.mg_none_of X G z_reversed, m_sorted := PySem.W.mg_none_of X G z_sorted, m_str := PySem.W.mg_none_of X G z_str, c_MOST_TREES := ⟨_, PySem.W.mg_of X G q_MOST_TREES, ⟨_, rfl⟩⟩ }
  exact ⟨dv 20, fun s v => .of_eq rfl, fun base _ _ => ok_law T⟩
end Tw
open PySem PySem.W PyProof.Rows
set_option maxHeartbeats 0 in
theorem PySem.Challenge.cw_threewebs_k65_too_many_trees_holds : PySem.Challenge.rw_threewebs_k65_too_many_trees.Holds := by
  w_on; o_law; k_head; (case hw => w_witness2)
  k_fill
  refine L2.walk_of (l := PySem.Challenge.rw_threewebs_k65_too_many_trees) (n := 63) (k := 6) (x := "_law_script") (CX := fun _ => L2.CX0) (sp := fun w => Tw.sp_law (Tw.gb _)) rfl (by decide) rfl ⟨rfl, by decide, by decide⟩ (fun w h Y => PySem.W.kIn_of Y) ?F (fun _ _ a ns hl _ hS => Tw.spA_law hS (Tw.law_true ns hl) (fun _ => rfl)) (fun _ _ _ _ _ h => h)
  case F =>
    intro w mg fa h KX G hmg
    refine' Tw.all_mk KX G hmg ?a0 ?l0 ?c0 ?k0 ?a1 ?l1 ?c1 ?k1 ?a2 ?l2 ?c2 ?k2 ?a3 ?l3 ?c3 ?k3 ?a4 ?l4 ?c4 ?k4 ?a5 ?l5 ?c5 ?k5 ?a6 ?l6 ?c6 ?k6 ?a7 ?l7 ?c7 ?k7 ?a8 ?l8 ?c8 ?k8 ?a9 ?l9 ?c9 ?k9 ?a10 ?l10 ?c10 ?k10 ?a11 ?l11 ?c11 ?k11 ?a12 ?l12 ?c12 ?k12 ?a13 ?l13 ?c13 ?k13 ?a14 ?l14 ?c14 ?k14 ?a15 ?l15 ?c15 ?k15 ?a16 ?l16 ?c16 ?k16 ?a17 ?l17 ?c17 ?k17 ?a18 ?l18 ?c18 ?k18 ?a19 ?l19 ?c19 ?k19 ?a20 ?l20 ?c20 ?k20 ?aX_TooMany ?xb_TooMany ?xd_TooMany ?xt_TooMany ?aX_NetError ?xb_NetError ?xd_NetError ?xt_NetError ?aX_NoNet ?xb_NoNet ?xd_NoNet ?xt_NoNet ?aX_NoTie ?xb_NoTie ?xd_NoTie ?xt_NoTie ?xx_TooMany ?xk_TooMany ?e1_TooMany ?e2_TooMany ?e3_TooMany ?e4_TooMany ?e5_TooMany ?e6_TooMany ?u_TooMany_TooMany ?u_TooMany_NetError ?u_TooMany_NoNet ?u_TooMany_NoTie ?fx1 ?fx2 ?z_ValueError ?z_enumerate ?z_isinstance ?z_len ?z_list ?z_min ?z_range ?z_reversed ?z_sorted ?z_str ?q_MOST_TREES
    (case aX_TooMany => k_is); (case aX_NetError => k_is); (case aX_NoNet => k_is); (case aX_NoTie => k_is); (case a0 => k_is); (case l0 => k_is); (case c0 => k_is); (case k0 => k_is); (case a1 => k_is); (case l1 => k_is); (case c1 => k_is); (case k1 => k_is); (case a2 => k_is); (case l2 => k_is); (case c2 => k_is); (case k2 => k_is); (case a3 => k_is); (case l3 => k_is); (case c3 => k_is); (case k3 => k_is); (case a4 => k_is); (case l4 => k_is); (case c4 => k_is); (case k4 => k_is); (case a5 => k_is); (case l5 => k_is); (case c5 => k_is); (case k5 => k_is); (case a6 => k_is); (case l6 => k_is); (case c6 => k_is); (case k6 => k_is); (case a7 => k_is); (case l7 => k_is); (case c7 => k_is); (case k7 => k_is); (case a8 => k_is); (case l8 => k_is); (case c8 => k_is); (case k8 => k_is); (case a9 => k_is); (case l9 => k_is); (case c9 => k_is); (case k9 => k_is); (case a10 => k_is); (case l10 => k_is); (case c10 => k_is); (case k10 => k_is); (case a11 => k_is); (case l11 => k_is); (case c11 => k_is); (case k11 => k_is); (case a12 => k_is); (case l12 => k_is); (case c12 => k_is); (case k12 => k_is); (case a13 => k_is); (case l13 => k_is); (case c13 => k_is); (case k13 => k_is); (case a14 => k_is); (case l14 => k_is); (case c14 => k_is); (case k14 => k_is); (case a15 => k_is); (case l15 => k_is); (case c15 => k_is); (case k15 => k_is); (case a16 => k_is); (case l16 => k_is); (case c16 => k_is); (case k16 => k_is); (case a17 => k_is); (case l17 => k_is); (case c17 => k_is); (case k17 => k_is); (case a18 => k_is); (case l18 => k_is); (case c18 => k_is); (case k18 => k_is); (case a19 => k_is); (case l19 => k_is); (case c19 => k_is); (case k19 => k_is); (case a20 => k_is); (case l20 => k_is); (case c20 => k_is); (case k20 => k_is); (case xb_TooMany => k_is); (case xd_TooMany => k_is); (case xt_TooMany => k_is); (case xb_NetError => k_is); (case xd_NetError => k_is); (case xt_NetError => k_is); (case xb_NoNet => k_is); (case xd_NoNet => k_is); (case xt_NoNet => k_is); (case xb_NoTie => k_is); (case xd_NoTie => k_is); (case xt_NoTie => k_is); (case xx_TooMany => k_exc); (case xk_TooMany => k_is); (case e1_TooMany => k_is); (case e2_TooMany => k_is); (case e3_TooMany => k_is); (case e4_TooMany => k_is); (case e5_TooMany => k_is); (case e6_TooMany => k_is); (case u_TooMany_TooMany => k_is); (case u_TooMany_NetError => k_is); (case u_TooMany_NoNet => k_is); (case u_TooMany_NoTie => k_is); (case fx1 => k_is); (case fx2 => k_is); (case z_ValueError => k_is); (case z_enumerate => k_is); (case z_isinstance => k_is); (case z_len => k_is); (case z_list => k_is); (case z_min => k_is); (case z_range => k_is); (case z_reversed => k_is); (case z_sorted => k_is); (case z_str => k_is); (case q_MOST_TREES => k_is)
