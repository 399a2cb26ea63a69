import PyProof.Rows.All
import Wide.All
import OpenK.AllK
import Wide.FinOn
import HandS.ForMost
import HandS.More
import HandS.Wide
import HandS.IsInst
import HandS.Style
import HandS.Deep
import PyProof.StrBlock2
import HandS.SetKeys
import PySem.Challenge.RW_threewebs_k20_sets_summed
set_option Elab.async false
set_option linter.all false
set_option maxRecDepth 100000
set_option maxHeartbeats 4000000
namespace Tw
open PySem PySem.Spec L2
open PyProof.Rows hiding St

/-! ### readings by name -/
abbrev qAdd : R2 := rI0 fun i j => .int (i + j)
abbrev qSub : R2 := rI0 fun i j => .int (i - j)
abbrev qMul : R2 := rI CMulW fun i j => .int (i * j)
abbrev qDiv : R2 := rI CDivW fun i j => .int (i / j)
def CPos (_ j : Int) : Prop := 0 < j
theorem cpos {i j : Int} (h : 0 < j) : CPos i j := h
abbrev qMod : R2 := rI CPos fun i j => .int (i % j)
abbrev qPow : R2 := rI CPow fun i j => .int (i ^ j.toNat)
abbrev qShl : R2 := rI CPow fun i j => .int (i * 2 ^ j.toNat)
def CNN (_ j : Int) : Prop := 0 ≤ j
theorem cnn {i j : Int} (h : 0 ≤ j) : CNN i j := h
abbrev qShr : R2 := rI CNN fun i j => .int (i / 2 ^ j.toNat)
abbrev qAnd : R2 := rI0 fun i j => .int (Builtin.bitAnd i j)
abbrev qOr : R2 := rI0 fun i j => .int (Builtin.bitOr i j)
abbrev qXor : R2 := rI0 fun i j => .int (Builtin.bitXor i j)
abbrev qNeg : V → Hp → VK → Prop := rU fun i => .int (-i)
abbrev qLt : R2 := rI0 fun i j => .bl (decide (i < j))
abbrev qLe : R2 := rI0 fun i j => .bl (decide (i ≤ j))
abbrev qGt : R2 := rI0 fun i j => .bl (decide (j < i))
abbrev qGe : R2 := rI0 fun i j => .bl (decide (j ≤ i))
abbrev qCatS : R2 := fun x y H Q => ∃ i j, x = .str i ∧ y = .str j ∧ i.length + j.length ≤ sizeLine ∧ Q (.str (i ++ j)) H
abbrev qRepS : R2 := fun x y H Q => ∃ z n, x = .str z ∧ y = .int n ∧ MulOk z n ∧ Q (.str (Txt.mul z n)) H
abbrev qInSign : R2 := fun x y H Q => ∃ (c : Nat) (z : Str), x = .str ⟨#[c]⟩ ∧ y = .str z ∧ Q (.bl (decide (c ∈ z.cps.toList))) H
abbrev qNotInSign : R2 := fun x y H Q => ∃ (c : Nat) (z : Str), x = .str ⟨#[c]⟩ ∧ y = .str z ∧ Q (.bl (!decide (c ∈ z.cps.toList))) H
abbrev qIsN : R2 := fun x y H Q => y = .non ∧ Q (.bl (decide (x = .non))) H
abbrev qNotN : R2 := fun x y H Q => y = .non ∧ Q (.bl (!decide (x = .non))) H
abbrev qLenS : List V → Hp → VK → Prop := fun xs H Q => ∃ z, xs = [.str z] ∧ z.length ≤ sizeLine ∧ Q (.int z.length) H
abbrev qLenQ (K : PySem.W.Frag) : List V → Hp → VK → Prop := fun xs H Q => ∃ p ys, xs = [.ref p] ∧ (SqL K H p ys ∨ SqT K H p ys) ∧ Q (.int ys.length) H
abbrev qLenD : List V → Hp → VK → Prop := fun xs H Q => ∃ a kvs, xs = [V.ref a] ∧ H a = some (.dK kvs) ∧ Q (.int kvs.length) H
abbrev qInt1 : List V → Hp → VK → Prop := fun xs H Q => (∃ i, xs = [.int i] ∧ Q (.int i) H) ∨ ∃ k, xs = [.bl k] ∧ Q (.int (if k then 1 else 0)) H
abbrev qIntS : List V → Hp → VK → Prop := fun xs H Q => ∃ a n, xs = [.str a] ∧ PySem.intText? a = some n ∧ a.length ≤ 640 ∧ Q (.int n) H
abbrev qMax2 : List V → Hp → VK → Prop := fun xs H Q => ∃ i j, xs = [.int i, .int j] ∧ Q (.int (if j > i then j else i)) H
abbrev qMin2 : List V → Hp → VK → Prop := fun xs H Q => ∃ i j, xs = [.int i, .int j] ∧ Q (.int (if j < i then j else i)) H
abbrev qStrI : List V → Hp → VK → Prop := fun xs H Q => ∃ i, xs = [.int i] ∧ i.natAbs.log2 < 1920 ∧ Q (.str (toString i)) H
abbrev qListOf (K : PySem.W.Frag) : List V → Hp → VK → Prop := fun xs H Q => ∃ p ys, xs = [.ref p] ∧ (SqL K H p ys ∨ SqT K H p ys) ∧ ∀ l, H l = none → Q (.ref l) (upd H l (.lst ys))
abbrev qJoin (K : PySem.W.Frag) : V → List V → Hp → VK → Prop := fun x xs H Q => ∃ a p, ∃ ys : List Str, x = .str a ∧ xs = [.ref p] ∧ (SqL K H p (ys.map V.str) ∨ SqT K H p (ys.map V.str)) ∧ (ys.map (·.length)).sum + ys.length * a.length ≤ 16777216 ∧ Q (.str (Txt.join a ys)) H
abbrev qSplit : V → List V → Hp → VK → Prop := fun x xs H Q => ∃ a b, x = .str a ∧ xs = [.str b] ∧ (b.length == 0) = false ∧ a.length + 2 ≤ sizeLine ∧ rNewStrs (Txt.split a b) H Q

section
variable {X : Cx}
theorem op_rep_str : OpR X (binaryOp .Mult) qRepS := by
  intro pins s σ H x y v u Q I rx ry h
  obtain ⟨z, n, rfl, rfl, hz, q⟩ := h
  obtain ⟨t, rfl⟩ := rx
  obtain ⟨t', rfl⟩ := ry
  exact SB.mul hz (fun t' k => ⟨.str (Txt.mul z n), H, I.tok _, ⟨_, rfl⟩, q⟩)
theorem hu65 {A : Around} {k : Nat} (hr : Room (k + 1) A) : A.units + 65 < cLine := by
  have := hr.un
  omega
end
end Tw

set_option Elab.async false
set_option linter.all false
set_option maxRecDepth 100000
set_option maxHeartbeats 4000000
/-! Plain outcomes: a value, a refusal by its class, or nothing known. -/
namespace Tw
open PySem
inductive M (α : Type) where
  | ok (a : α) | exc (c : Str) | bad
namespace M
def b {α β : Type} (m : M α) (k : α → M β) : M β := match m with
  | .ok a => k a
  | .exc c => .exc c
  | .bad => .bad
@[simp] theorem b_ok {α β : Type} (a : α) (k : α → M β) : b (.ok a) k = k a := rfl
@[simp] theorem b_exc {α β : Type} (c : Str) (k : α → M β) : b (.exc c) k = .exc c := rfl
@[simp] theorem b_bad {α β : Type} (k : α → M β) : b .bad k = .bad := rfl
theorem b_assoc {α β γ : Type} (m : M α) (k : α → M β) (l : β → M γ) : b (b m k) l = b m fun a => b (k a) l := by cases m <;> rfl
theorem b_ret {α : Type} (m : M α) : b m .ok = m := by cases m <;> rfl
def P {α : Type} (m : M α) (p : α → Prop) (x : Str → Prop) : Prop := match m with
  | .ok a => p a
  | .exc c => x c
  | .bad => False
theorem P_b {α β : Type} {m : M α} {k : α → M β} {p : β → Prop} {x : Str → Prop} : (b m k).P p x ↔ m.P (fun a => (k a).P p x) x := by cases m <;> exact Iff.rfl
theorem P.imp {α : Type} {m : M α} {p q : α → Prop} {x y : Str → Prop} (h : m.P p x) (f : ∀ a, p a → q a) (g : ∀ c, x c → y c) : m.P q y := by
  cases m with
  | ok a => exact f a h
  | exc c => exact g c h
  | bad => exact h
open Classical in
/-- only where c holds -/
noncomputable def chk (c : Prop) {α : Type} (m : M α) : M α := if c then m else .bad
theorem chk_of {c : Prop} {α : Type} {m : M α} (h : c) : chk c m = m := if_pos h
theorem P_chk {c : Prop} {α : Type} {m : M α} {p : α → Prop} {x : Str → Prop} : (chk c m).P p x ↔ c ∧ m.P p x := by
  by_cases h : c
  · rw [chk_of h]; exact ⟨fun q => ⟨h, q⟩, fun q => q.2⟩
  · unfold chk; rw [if_neg h]; exact ⟨fun q => q.elim, fun q => h q.1⟩
/-- what an option holds -/
def get {α : Type} : Option α → M α
  | some a => .ok a
  | none => .bad
@[simp] theorem get_some {α : Type} (a : α) : get (some a) = .ok a := rfl
theorem P_get {α : Type} {o : Option α} {p : α → Prop} {x : Str → Prop} : (get o).P p x ↔ ∃ a, o = some a ∧ p a := by
  cases o with
  | none => exact ⟨fun q => q.elim, fun ⟨_, e, _⟩ => by cases e⟩
  | some a => exact ⟨fun q => ⟨a, rfl, q⟩, fun ⟨_, e, q⟩ => by cases e; exact q⟩
/-- a loop over a list -/
def for_ {α S : Type} (f : S → α → M S) : List α → S → M S
  | [], s => .ok s
  | x :: r, s => b (f s x) (for_ f r)
@[simp] theorem for_nil {α S : Type} (f : S → α → M S) (s : S) : for_ f [] s = .ok s := rfl
@[simp] theorem for_cons {α S : Type} (f : S → α → M S) (x : α) (r : List α) (s : S) : for_ f (x :: r) s = b (f s x) (for_ f r) := rfl
theorem for_app {α S : Type} (f : S → α → M S) : ∀ (xs ys : List α) (s : S), for_ f (xs ++ ys) s = b (for_ f xs s) (for_ f ys)
  | [], ys, s => rfl
  | x :: r, ys, s => by
    show b (f s x) (for_ f (r ++ ys)) = b (b (f s x) (for_ f r)) (for_ f ys)
    rw [b_assoc]
    congr 1
    funext t
    exact for_app f r ys t
/-- where each turn does well it is a fold -/
theorem for_fold {α S : Type} {f : S → α → M S} {g : S → α → S} : ∀ (xs : List α) (s : S), (∀ s, ∀ x ∈ xs, f s x = .ok (g s x)) → for_ f xs s = .ok (xs.foldl g s)
  | [], s, _ => rfl
  | x :: r, s, h => by
    rw [for_cons, h s x List.mem_cons_self, b_ok, for_fold r _ fun t y hy => h t y (List.mem_cons_of_mem _ hy)]
    rfl
/-- by an invariant over what is done -/
theorem for_inv {α S : Type} {f : S → α → M S} (I : List α → S → Prop) (xs : List α) (s0 : S) (h0 : I [] s0)
    (hs : ∀ ys x zs s, xs = ys ++ x :: zs → I ys s → ∃ s', f s x = .ok s' ∧ I (ys ++ [x]) s') : ∃ s', for_ f xs s0 = .ok s' ∧ I xs s' := by
  suffices H : ∀ (zs ys : List α) (s : S), xs = ys ++ zs → I ys s → ∃ s', for_ f zs s = .ok s' ∧ I xs s' from H xs [] s0 rfl h0
  intro zs
  induction zs with
  | nil =>
    intro ys s e h
    rw [List.append_nil] at e
    subst e
    exact ⟨s, rfl, h⟩
  | cons x r ih =>
    intro ys s e h
    obtain ⟨s1, e1, h1⟩ := hs ys x r s e h
    rw [for_cons, e1, b_ok]
    exact ih (ys ++ [x]) s1 (by rw [e]; simp) h1
/-- where a turn may leave with an answer -/
def forR {α S R : Type} (f : S → α → M (S ⊕ R)) : List α → S → M (S ⊕ R)
  | [], s => .ok (.inl s)
  | x :: r, s => b (f s x) fun
    | .inl s => forR f r s
    | .inr a => .ok (.inr a)
@[simp] theorem forR_nil {α S R : Type} (f : S → α → M (S ⊕ R)) (s : S) : forR f [] s = .ok (.inl s) := rfl
theorem forR_cons {α S R : Type} (f : S → α → M (S ⊕ R)) (x : α) (r : List α) (s : S) : forR f (x :: r) s = b (f s x) fun | .inl s => forR f r s | .inr a => .ok (.inr a) := rfl
/-- what follows a loop that may leave -/
def orR {S R : Type} (k : S → M R) : S ⊕ R → M R
  | .inl s => k s
  | .inr r => .ok r
@[simp] theorem orR_inl {S R : Type} (k : S → M R) (s : S) : orR k (.inl s) = k s := rfl
@[simp] theorem orR_inr {S R : Type} (k : S → M R) (r : R) : orR k (.inr r) = .ok r := rfl
/-- [e for x in xs if t] -/
def lc {α β : Type} (t : α → M Bool) (e : α → M β) : List α → M (List β)
  | [] => .ok []
  | x :: r => b (t x) fun c => if c = true then b (e x) fun y => b (lc t e r) fun ys => .ok (y :: ys) else lc t e r
theorem lc_ok {α β : Type} {t : α → M Bool} {e : α → M β} {p : α → Bool} {f : α → β} : ∀ (xs : List α), (∀ x ∈ xs, t x = .ok (p x)) → (∀ x ∈ xs, p x = true → e x = .ok (f x)) → lc t e xs = .ok ((xs.filter p).map f)
  | [], _, _ => rfl
  | x :: r, ht, he => by
    show b (t x) _ = _
    rw [ht x List.mem_cons_self, b_ok, lc_ok r (fun y hy => ht y (List.mem_cons_of_mem _ hy)) fun y hy => he y (List.mem_cons_of_mem _ hy)]
    cases hp : p x with
    | true => rw [if_pos rfl, he x List.mem_cons_self hp, b_ok, b_ok, List.filter_cons, if_pos hp]; rfl
    | false => rw [if_neg Bool.false_ne_true, List.filter_cons, if_neg (by rw [hp]; exact Bool.false_ne_true)]
theorem lc_map {α β : Type} {e : α → M β} {f : α → β} (xs : List α) (he : ∀ x ∈ xs, e x = .ok (f x)) : lc (fun _ => .ok true) e xs = .ok (xs.map f) := by
  rw [lc_ok (p := fun _ => true) (f := f) xs (fun _ _ => rfl) fun x hx _ => he x hx, List.filter_eq_self.mpr fun _ _ => rfl]
theorem lc_filter {α : Type} {t : α → M Bool} {p : α → Bool} (xs : List α) (ht : ∀ x ∈ xs, t x = .ok (p x)) : lc t .ok xs = .ok (xs.filter p) := by
  rw [lc_ok (p := p) (f := fun x => x) xs ht fun x _ _ => rfl, List.map_id']
/-- a while: as many turns as are wanted -/
def whN {S : Type} (c : S → M Bool) (f : S → M S) : Nat → S → Option (M S)
  | 0, _ => none
  | n + 1, s => match c s with
    | .ok true => match f s with
      | .ok s' => whN c f n s'
      | .exc x => some (.exc x)
      | .bad => none
    | .ok false => some (.ok s)
    | .exc x => some (.exc x)
    | .bad => none
theorem whN_mono {S : Type} {c : S → M Bool} {f : S → M S} : ∀ {n : Nat} {s : S} {r : M S}, whN c f n s = some r → whN c f (n + 1) s = some r
  | 0, _, _, h => by cases h
  | n + 1, s, r, h => by
    unfold whN at h ⊢
    revert h
    cases c s with
    | ok t => cases t with
      | true => cases f s with
        | ok s' => exact fun h => whN_mono h
        | exc x => exact fun h => h
        | bad => exact fun h => h
      | false => exact fun h => h
    | exc x => exact fun h => h
    | bad => exact fun h => h
theorem whN_le {S : Type} {c : S → M Bool} {f : S → M S} {n m : Nat} {s : S} {r : M S} (h : whN c f n s = some r) (l : n ≤ m) : whN c f m s = some r := by
  induction l with
  | refl => exact h
  | step _ ih => exact whN_mono ih
open Classical in
noncomputable def wh {S : Type} (c : S → M Bool) (f : S → M S) (s : S) : M S := if h : ∃ n r, whN c f n s = some r then h.choose_spec.choose else .bad
theorem wh_of {S : Type} {c : S → M Bool} {f : S → M S} {n : Nat} {s : S} {r : M S} (h : whN c f n s = some r) : wh c f s = r := by
  have e : ∃ n r, whN c f n s = some r := ⟨n, r, h⟩
  unfold wh
  rw [dif_pos e]
  have h2 := e.choose_spec.choose_spec
  have h3 := whN_le h (Nat.le_max_left n e.choose)
  have h4 := whN_le h2 (Nat.le_max_right n e.choose)
  exact Option.some.inj (h4.symm.trans h3)
theorem wh_false {S : Type} {c : S → M Bool} {f : S → M S} {s : S} (h : c s = .ok false) : wh c f s = .ok s := wh_of (n := 1) (by unfold whN; rw [h])
theorem wh_true {S : Type} {c : S → M Bool} {f : S → M S} {s s' : S} (h : c s = .ok true) (e : f s = .ok s') : wh c f s = wh c f s' := by
  by_cases q : ∃ n r, whN c f n s' = some r
  · obtain ⟨n, r, q⟩ := q
    rw [wh_of q]
    exact wh_of (n := n + 1) (by unfold whN; rw [h, e]; exact q)
  · have q2 : ¬ ∃ n r, whN c f n s = some r := by
      rintro ⟨n, r, z⟩
      cases n with
      | zero => cases z
      | succ n =>
        unfold whN at z
        rw [h, e] at z
        exact q ⟨n, r, z⟩
    unfold wh
    rw [dif_neg q, dif_neg q2]
theorem P_wh {S : Type} {c : S → M Bool} {f : S → M S} {s : S} {p : S → Prop} {x : Str → Prop} (h : (wh c f s).P p x) : ∃ n r, whN c f n s = some r ∧ r.P p x := by
  by_cases q : ∃ n r, whN c f n s = some r
  · obtain ⟨n, r, q⟩ := q
    rw [wh_of q] at h
    exact ⟨n, r, q, h⟩
  · unfold wh at h
    rw [dif_neg q] at h
    exact h.elim
/-- by an invariant and a measure -/
theorem wh_inv {S : Type} {c : S → M Bool} {f : S → M S} (I : S → Prop) (μ : S → Nat) (hs : ∀ s, I s → (c s = .ok false) ∨ (c s = .ok true ∧ ∃ s', f s = .ok s' ∧ I s' ∧ μ s' < μ s)) (s0 : S) (h0 : I s0) :
    ∃ s', wh c f s0 = .ok s' ∧ I s' ∧ c s' = .ok false := by
  suffices H : ∀ n s, μ s ≤ n → I s → ∃ s', wh c f s = .ok s' ∧ I s' ∧ c s' = .ok false from H _ s0 (Nat.le_refl _) h0
  intro n
  induction n with
  | zero =>
    intro s hm hi
    rcases hs s hi with q | ⟨q, s', e, hi', hl⟩
    · exact ⟨s, wh_false q, hi, q⟩
    · omega
  | succ n ih =>
    intro s hm hi
    rcases hs s hi with q | ⟨q, s', e, hi', hl⟩
    · exact ⟨s, wh_false q, hi, q⟩
    · rw [wh_true q e]
      exact ih s' (by omega) hi'
end M
/-! ### pairs kept by keys -/
section
variable {κ α : Type} [DecidableEq κ]
def dget (l : List (κ × α)) (k : κ) : Option α := (l.find? fun p => decide (p.1 = k)).map (·.2)
def dput (l : List (κ × α)) (k : κ) (a : α) : List (κ × α) := if (l.any fun p => decide (p.1 = k)) = true then l.map (fun p => if p.1 = k then (p.1, a) else p) else l ++ [(k, a)]
end
/-- tuples of three, of four; tuples by place; dicts by a plain key, by a tuple; the script -/
structure T3 (α β γ : Type) where
  a : α
  b : β
  c : γ
deriving DecidableEq
structure T4 (α β γ δ : Type) where
  a : α
  b : β
  c : γ
  d : δ
deriving DecidableEq
structure Tp (α : Type) where
  l : List α
structure Dk (κ α : Type) where
  l : List (κ × α)
structure Dt (κ α : Type) where
  l : List (κ × α)
structure Scr where
  l : List Int
end Tw

set_option Elab.async false
set_option linter.all false
set_option maxRecDepth 100000
set_option maxHeartbeats 4000000
/-! What each def's proof wants. -/
namespace Tw
open PySem PySem.Spec L2
open PyProof.Rows hiding St
theorem start_of {N : List Str} {vs : List V} : start N vs = vs.map some ++ List.replicate (N.length - vs.length) none := rfl
/-- where a def ends -/
abbrev dEnd (Q : VK) : Ends := { nx := fun _ H' => Q .non H', rt := Q }
theorem same_upd {H : Hp} {p : Addr} {o : HO} (h : H p = none) : Same H (upd H p o) := fun b x e => by
  rw [upd_ne (ne_of_none e h)]
  exact e
theorem ite_tt {A B : Prop} (h : A) : if true = true then A else B := iteT h
theorem ite_ff {A B : Prop} (h : B) : if false = true then A else B := iteF h
theorem ite_dec {c : Prop} [Decidable c] {A B : Prop} (h1 : c → A) (h2 : ¬ c → B) : if decide c = true then A else B := by
  by_cases h : c
  · rw [if_pos (decide_eq_true h)]
    exact h1 h
  · rw [if_neg (by rw [decide_eq_false h]; exact Bool.false_ne_true)]
    exact h2 h
theorem ite_ndec {c : Prop} [Decidable c] {A B : Prop} (h1 : ¬ c → A) (h2 : c → B) : if (!decide c) = true then A else B := by
  by_cases h : c
  · rw [decide_eq_true h]
    exact iteF (h2 h)
  · rw [decide_eq_false h]
    exact iteT (h1 h)
theorem ite_b {b : Bool} {A B : Prop} (h1 : b = true → A) (h2 : b = false → B) : if b = true then A else B := by
  cases b with
  | true => exact iteT (h1 rfl)
  | false => exact iteF (h2 rfl)

end Tw

set_option Elab.async false
set_option linter.all false
set_option maxRecDepth 100000
set_option maxHeartbeats 4000000
/-! Plain data as they stand in the heap; what a def owns, has frozen, has borrowed. -/
namespace Tw
open PySem PySem.Spec L2
open PyProof.Rows hiding St

structure Gb where
  K : PySem.W.Frag
  cl : Str → Addr
universe u v
inductive All2 {α : Type u} {β : Type v} (R : α → β → Prop) : List α → List β → Prop
  | nil : All2 R [] []
  | cons {a : α} {b : β} {l : List α} {m : List β} : R a b → All2 R l m → All2 R (a :: l) (b :: m)
namespace All2
variable {α : Type u} {β : Type v} {R S : α → β → Prop}
theorem imp (f : ∀ a b, R a b → S a b) : ∀ {l : List α} {m : List β}, All2 R l m → All2 S l m
  | _, _, .nil => .nil
  | _, _, .cons h t => .cons (f _ _ h) (imp f t)
theorem len : ∀ {l : List α} {m : List β}, All2 R l m → l.length = m.length
  | _, _, .nil => rfl
  | _, _, .cons _ t => by rw [List.length_cons, List.length_cons, len t]
theorem get : ∀ {l : List α} {m : List β} {i : Nat} {a : α}, All2 R l m → l[i]? = some a → ∃ b, m[i]? = some b ∧ R a b
  | _, _, _, _, .nil, e => by simp at e
  | _, _, 0, _, .cons h _, e => by simp at e; subst e; exact ⟨_, rfl, h⟩
  | _, _, i + 1, a, .cons _ t, e => by
    obtain ⟨b, h1, h2⟩ := get (i := i) (a := a) t (by simpa using e)
    exact ⟨b, by simpa using h1, h2⟩
theorem get' : ∀ {l : List α} {m : List β} {i : Nat} {b : β}, All2 R l m → m[i]? = some b → ∃ a, l[i]? = some a ∧ R a b
  | _, _, _, _, .nil, e => by simp at e
  | _, _, 0, _, .cons h _, e => by simp at e; subst e; exact ⟨_, rfl, h⟩
  | _, _, i + 1, a, .cons _ t, e => by
    obtain ⟨b, h1, h2⟩ := get' (i := i) (b := a) t (by simpa using e)
    exact ⟨b, by simpa using h1, h2⟩
theorem app : ∀ {l l' : List α} {m m' : List β}, All2 R l m → All2 R l' m' → All2 R (l ++ l') (m ++ m')
  | _, _, _, _, .nil, h => h
  | _, _, _, _, .cons h t, q => .cons h (app t q)
theorem snoc {l : List α} {m : List β} {a : α} {b : β} (h : All2 R l m) (q : R a b) : All2 R (l ++ [a]) (m ++ [b]) := h.app (.cons q .nil)
theorem take : ∀ {l : List α} {m : List β} (n : Nat), All2 R l m → All2 R (l.take n) (m.take n)
  | _, _, 0, _ => .nil
  | _, _, _ + 1, .nil => .nil
  | _, _, n + 1, .cons h t => .cons h (take n t)
theorem drop : ∀ {l : List α} {m : List β} (n : Nat), All2 R l m → All2 R (l.drop n) (m.drop n)
  | _, _, 0, h => h
  | _, _, _ + 1, .nil => .nil
  | _, _, n + 1, .cons _ t => drop n t
theorem set {a : α} {b : β} (q : R a b) : ∀ {l : List α} {m : List β} (i : Nat), All2 R l m → All2 R (l.set i a) (m.set i b)
  | _, _, _, .nil => .nil
  | _, _, 0, .cons _ t => .cons q t
  | _, _, i + 1, .cons h t => .cons h (set q i t)
theorem rev : ∀ {l : List α} {m : List β}, All2 R l m → All2 R l.reverse m.reverse
  | _, _, .nil => .nil
  | _, _, .cons h t => by rw [List.reverse_cons, List.reverse_cons]; exact (rev t).snoc h
theorem erase : ∀ {l : List α} {m : List β} (i : Nat), All2 R l m → All2 R (l.eraseIdx i) (m.eraseIdx i)
  | _, _, _, .nil => .nil
  | _, _, 0, .cons _ t => t
  | _, _, i + 1, .cons h t => .cons h (erase i t)
theorem dl : ∀ {l : List α} {m : List β}, All2 R l m → All2 R l.dropLast m.dropLast := fun {l m} h => by
  rw [List.dropLast_eq_take, List.dropLast_eq_take, h.len]
  exact h.take _
theorem of_map {f : β → α} (h : ∀ b, R (f b) b) : ∀ m : List β, All2 R (m.map f) m
  | [] => .nil
  | b :: r => .cons (h b) (of_map h r)
theorem to_map {f : β → α} (h : ∀ a b, R a b → a = f b) : ∀ {l : List α} {m : List β}, All2 R l m → l = m.map f
  | _, _, .nil => rfl
  | _, _, .cons q t => by rw [List.map_cons, h _ _ q, to_map h t]
end All2

/-! ### data -/
class Rp (α : Type) where
  rep : Gb → Hp → V → α → Prop
  mono : ∀ {G : Gb} {H H' : Hp} {v : V} {a : α}, Same H H' → rep G H v a → rep G H' v a
abbrev rep {α : Type} [Rp α] (G : Gb) (H : Hp) (v : V) (a : α) : Prop := Rp.rep G H v a
/-- a thing that stands in no heap -/
class Sc (α : Type) [Rp α] where
  enc : α → V
  iff : ∀ (G : Gb) (H : Hp) (v : V) (a : α), rep G H v a ↔ v = enc a
/-- the things that may be changed: what stands at the address -/
class Rc (α : Type) [Rp α] where
  con : Gb → Hp → HO → α → Prop
  mono : ∀ {G : Gb} {H H' : Hp} {o : HO} {a : α}, Same H H' → con G H o a → con G H' o a
  fz : ∀ {G : Gb} {H : Hp} {p : Addr} {o : HO} {a : α}, H p = some o → con G H o a → rep G H (.ref p) a
abbrev con {α : Type} [Rp α] [Rc α] (G : Gb) (H : Hp) (o : HO) (a : α) : Prop := Rc.con G H o a
instance : Rp Int := ⟨fun _ _ v a => v = .int a, fun _ h => h⟩
instance : Rp Bool := ⟨fun _ _ v a => v = .bl a, fun _ h => h⟩
instance : Rp Str := ⟨fun _ _ v a => v = .str a, fun _ h => h⟩
instance : Rp Unit := ⟨fun _ _ v _ => v = .non, fun _ h => h⟩
instance : Sc Int := ⟨.int, fun _ _ _ _ => Iff.rfl⟩
instance : Sc Bool := ⟨.bl, fun _ _ _ _ => Iff.rfl⟩
instance : Sc Str := ⟨.str, fun _ _ _ _ => Iff.rfl⟩
instance : Sc Unit := ⟨fun _ => .non, fun _ _ _ _ => Iff.rfl⟩
section
variable {α β γ δ : Type} [Rp α] [Rp β] [Rp γ] [Rp δ]
instance : Rp (α × β) where
  rep G H x a := ∃ p v w, x = .ref p ∧ H p = some (.tup [v, w]) ∧ rep G H v a.1 ∧ rep G H w a.2
  mono := fun s ⟨p, v, w, e, h, h1, h2⟩ => ⟨p, v, w, e, s _ _ h, Rp.mono s h1, Rp.mono s h2⟩
instance : Rp (T3 α β γ) where
  rep G H x a := ∃ p v w u, x = .ref p ∧ H p = some (.tup [v, w, u]) ∧ rep G H v a.a ∧ rep G H w a.b ∧ rep G H u a.c
  mono := fun s ⟨p, v, w, u, e, h, h1, h2, h3⟩ => ⟨p, v, w, u, e, s _ _ h, Rp.mono s h1, Rp.mono s h2, Rp.mono s h3⟩
instance : Rp (T4 α β γ δ) where
  rep G H x a := ∃ p v w u z, x = .ref p ∧ H p = some (.tup [v, w, u, z]) ∧ rep G H v a.a ∧ rep G H w a.b ∧ rep G H u a.c ∧ rep G H z a.d
  mono := fun s ⟨p, v, w, u, z, e, h, h1, h2, h3, h4⟩ => ⟨p, v, w, u, z, e, s _ _ h, Rp.mono s h1, Rp.mono s h2, Rp.mono s h3, Rp.mono s h4⟩
abbrev reps (G : Gb) (H : Hp) (vs : List V) (as : List α) : Prop := All2 (rep G H) vs as
theorem reps_mono {G : Gb} {H H' : Hp} {vs : List V} {as : List α} (s : Same H H') (h : reps G H vs as) : reps G H' vs as := h.imp fun _ _ q => Rp.mono s q
instance : Rp (List α) where
  rep G H x a := ∃ p vs, x = .ref p ∧ H p = some (.lst vs) ∧ reps G H vs a
  mono := fun s ⟨p, vs, e, h, h1⟩ => ⟨p, vs, e, s _ _ h, reps_mono s h1⟩
instance : Rc (List α) where
  con G H o a := ∃ vs, o = .lst vs ∧ reps G H vs a
  mono := fun s ⟨vs, e, h⟩ => ⟨vs, e, reps_mono s h⟩
  fz := fun h ⟨vs, e, q⟩ => ⟨_, vs, rfl, by rw [h, e], q⟩
instance : Rp (Tp α) where
  rep G H x a := ∃ p vs, x = .ref p ∧ H p = some (.tup vs) ∧ reps G H vs a.l
  mono := fun s ⟨p, vs, e, h, h1⟩ => ⟨p, vs, e, s _ _ h, reps_mono s h1⟩
/-- None, or a thing -/
instance : Rp (Option α) where
  rep G H x a := match a with
    | none => x = .non
    | some a => rep G H x a ∧ x ≠ .non
  mono := fun {G H H' v a} s h => by
    cases a with
    | none => exact h
    | some a => exact ⟨Rp.mono s h.1, h.2⟩
end
instance : Rp Scr where
  rep G H x a := ∃ p, x = .ref p ∧ SqL G.K H p (a.l.map V.int)
  mono := fun s ⟨p, e, h⟩ => ⟨p, e, s.seq h⟩
/-- plain keys -/
class Ky (κ : Type) [Rp κ] [DecidableEq κ] where
  key : κ → Key
  inj : ∀ {a b : κ}, key a = key b → a = b
  iff : ∀ (G : Gb) (H : Hp) (v : V) (a : κ), rep G H v a ↔ v = kV (key a)
instance : Ky Int := ⟨.inl, fun h => Sum.inl.inj h, fun _ _ _ _ => Iff.rfl⟩
instance : Ky Str := ⟨.inr, fun h => Sum.inr.inj h, fun _ _ _ _ => Iff.rfl⟩
/-- keys that are tuples -/
class Kt (κ : Type) [Rp κ] [DecidableEq κ] where
  key : κ → List Key
  inj : ∀ {a b : κ}, key a = key b → a = b
  iff : ∀ (G : Gb) (H : Hp) (v : V) (a : κ), rep G H v a ↔ ∃ p, v = .ref p ∧ H p = some (.tup ((key a).map kV))
instance {κ μ : Type} [Rp κ] [Rp μ] [DecidableEq κ] [DecidableEq μ] [Ky κ] [Ky μ] : Kt (κ × μ) where
  key a := [Ky.key a.1, Ky.key a.2]
  inj := fun {a b} h => by
    have h1 := List.cons.inj h
    have h2 := List.cons.inj h1.2
    exact Prod.ext (Ky.inj h1.1) (Ky.inj h2.1)
  iff := fun G H v a => by
    constructor
    · rintro ⟨p, x, y, e, h, h1, h2⟩
      refine ⟨p, e, ?_⟩
      rw [h, (Ky.iff G H x a.1).mp h1, (Ky.iff G H y a.2).mp h2]
      rfl
    · rintro ⟨p, e, h⟩
      exact ⟨p, _, _, e, h, (Ky.iff G H _ a.1).mpr rfl, (Ky.iff G H _ a.2).mpr rfl⟩
section
variable {κ α : Type} [Rp κ] [DecidableEq κ] [Rp α]
abbrev repk [Ky κ] (G : Gb) (H : Hp) (kvs : List (Key × V)) (l : List (κ × α)) : Prop := All2 (fun p q => p.1 = Ky.key q.1 ∧ rep G H p.2 q.2) kvs l
abbrev rept [Kt κ] (G : Gb) (H : Hp) (kvs : List (List Key × V)) (l : List (κ × α)) : Prop := All2 (fun p q => p.1 = Kt.key q.1 ∧ rep G H p.2 q.2) kvs l
theorem repk_mono [Ky κ] {G : Gb} {H H' : Hp} {kvs : List (Key × V)} {l : List (κ × α)} (s : Same H H') (h : repk G H kvs l) : repk G H' kvs l := h.imp fun _ _ q => ⟨q.1, Rp.mono s q.2⟩
theorem rept_mono [Kt κ] {G : Gb} {H H' : Hp} {kvs : List (List Key × V)} {l : List (κ × α)} (s : Same H H') (h : rept G H kvs l) : rept G H' kvs l := h.imp fun _ _ q => ⟨q.1, Rp.mono s q.2⟩
theorem rd_mono {H H' : Hp} {p : Addr} {o : HO} (s : Same H H') (h : Rd H p o) : Rd H' p o := by
  rcases h with h | ⟨u, h⟩
  · exact .inl (s _ _ h)
  · exact .inr ⟨u, s _ _ h⟩
instance [Ky κ] : Rp (Dk κ α) where
  rep G H x a := ∃ p kvs, x = .ref p ∧ Rd H p (.dK kvs) ∧ repk G H kvs a.l
  mono := fun s ⟨p, vs, e, h, h1⟩ => ⟨p, vs, e, rd_mono s h, repk_mono s h1⟩
instance [Kt κ] : Rp (Dt κ α) where
  rep G H x a := ∃ p kvs, x = .ref p ∧ Rd H p (.dT kvs) ∧ rept G H kvs a.l
  mono := fun s ⟨p, vs, e, h, h1⟩ => ⟨p, vs, e, rd_mono s h, rept_mono s h1⟩
instance [Ky κ] : Rc (Dk κ α) where
  con G H o a := ∃ kvs, o = .dK kvs ∧ repk G H kvs a.l
  mono := fun s ⟨vs, e, h⟩ => ⟨vs, e, repk_mono s h⟩
  fz := fun h ⟨vs, e, q⟩ => ⟨_, vs, rfl, .inl (by rw [h, e]), q⟩
instance [Kt κ] : Rc (Dt κ α) where
  con G H o a := ∃ kvs, o = .dT kvs ∧ rept G H kvs a.l
  mono := fun s ⟨vs, e, h⟩ => ⟨vs, e, rept_mono s h⟩
  fz := fun h ⟨vs, e, q⟩ => ⟨_, vs, rfl, .inl (by rw [h, e]), q⟩
end

/-! ### the names of a def -/
inductive Slot : Type 1 where
  /-- frozen; borrowed; owned; owned and locked -/
  | fz {α : Type} [Rp α] (a : α)
  | bw {α : Type} [Rp α] (a : α)
  | ow {α : Type} [Rp α] [Rc α] (a : α)
  | lk {α : Type} [Rp α] [Rc α] (p : Addr) (ob : Obj) (u : HO) (a : α)
abbrev Evr := List (Option Slot)
def SlOk (G : Gb) (B F H : Hp) : Option Slot → Option V → Prop
  | none, _ => True
  | some (@Slot.fz _ i a), x => ∃ v, x = some v ∧ @Rp.rep _ i G F v a
  | some (@Slot.bw _ i a), x => ∃ v, x = some v ∧ @Rp.rep _ i G B v a
  | some (@Slot.ow _ i j a), x => ∃ p o, x = some (.ref p) ∧ B p = none ∧ F p = none ∧ H p = some o ∧ @Rc.con _ i j G F o a
  | some (@Slot.lk _ i j p ob u a), x => x = some (.ref p) ∧ B p = none ∧ F p = none ∧ H p = some (.frz ob u) ∧ @Rc.con _ i j G F u a
def isOw : Option Slot → Bool
  | some (@Slot.ow _ _ _ _) => true
  | some (@Slot.lk _ _ _ _ _ _ _) => true
  | _ => false
structure Rel (G : Gb) (B F0 F : Hp) (ρ : Evr) (σ : L2.St) (H : Hp) : Prop where
  sB : Same B H
  sF : Same F H
  s0 : Same F0 F
  nw : ∀ a, F0 a = none → F a ≠ none → B a = none
  len : ρ.length = σ.length
  sl : ∀ (i : Nat) (s : Option Slot) (x : Option V), ρ[i]? = some s → σ[i]? = some x → SlOk G B F H s x
  ds : ∀ (i j : Nat) (p : Addr) (s t : Option Slot), ρ[i]? = some s → ρ[j]? = some t → isOw s = true → isOw t = true → σ[i]? = some (some (.ref p)) → σ[j]? = some (some (.ref p)) → i = j
/-- heaps grow: what is newly frozen is new -/
structure Ext (F H F' H' : Hp) : Prop where
  f : Same F F'
  h : Same H H'
  n : ∀ a, F a = none → F' a ≠ none → H a = none
theorem Ext.refl (F H : Hp) : Ext F H F H := ⟨.refl _, .refl _, fun a h q => absurd h q⟩
theorem Ext.trans {F H F1 H1 F2 H2 : Hp} (a : Ext F H F1 H1) (b : Ext F1 H1 F2 H2) : Ext F H F2 H2 := ⟨a.f.trans b.f, a.h.trans b.h, fun x h q => by
  cases e : F1 x with
  | none => exact a.h.free (b.n x e q)
  | some o => exact a.n x h (by rw [e]; exact fun z => nomatch z)⟩
theorem Ext.non {F H F' H' : Hp} (e : Ext F H F' H') {p : Addr} {o : HO} (h : H p = some o) (f : F p = none) : F' p = none := by
  cases q : F' p with
  | none => rfl
  | some u => exact absurd (e.n p f (by rw [q]; exact fun z => nomatch z)) (by rw [h]; exact fun z => nomatch z)
/-- a thing that is made anew and stays unfrozen -/
theorem Ext.new {F H : Hp} {p : Addr} {o : HO} (h : H p = none) : Ext F H F (upd H p o) := ⟨.refl _, same_upd h, fun a e q => absurd e q⟩
/-- a thing that is made anew and frozen -/
theorem Ext.newF {F H : Hp} {p : Addr} {o : HO} (s : Same F H) (h : H p = none) : Ext F H (upd F p o) (upd H p o) := ⟨same_upd (s.free h), same_upd h, fun a e q => by
  by_cases z : a = p
  · rw [z]; exact h
  · rw [upd_ne z] at q; exact absurd e q⟩
theorem same_both {F H : Hp} {p : Addr} {o : HO} (s : Same F H) : Same (upd F p o) (upd H p o) := fun a u e => by
  by_cases z : a = p
  · subst z; rw [upd_same] at e ⊢; exact e
  · rw [upd_ne z] at e ⊢; exact s _ _ e
theorem same_updR {F H : Hp} {p : Addr} {o : HO} (s : Same F H) (f : F p = none) : Same F (upd H p o) := fun a u e => by
  rw [upd_ne (fun z => by rw [z, f] at e; cases e)]; exact s _ _ e
section
variable {G : Gb} {B F0 F F' H H' : Hp} {ρ : Evr} {σ : L2.St}
theorem Rel.ext (R : Rel G B F0 F ρ σ H) (e : Ext F H F' H') (s : Same F' H') : Rel G B F0 F' ρ σ H' where
  sB := R.sB.trans e.h
  sF := s
  s0 := R.s0.trans e.f
  nw := fun a h q => by
    cases z : F a with
    | none => exact R.sB.free (e.n a z q)
    | some o => exact R.nw a h (by rw [z]; exact fun z => nomatch z)
  len := R.len
  sl := fun i s x hs hx => by
    have q := R.sl i s x hs hx
    cases s with
    | none => exact trivial
    | some s =>
      cases s with
      | fz a => obtain ⟨v, e1, e2⟩ := q; exact ⟨v, e1, Rp.mono e.f e2⟩
      | bw a => exact q
      | ow a => obtain ⟨p, o, e1, e2, e3, e4, e5⟩ := q; exact ⟨p, o, e1, e2, e.non e4 e3, e.h _ _ e4, Rc.mono e.f e5⟩
      | lk p ob u a => obtain ⟨e1, e2, e3, e4, e5⟩ := q; exact ⟨e1, e2, e.non e4 e3, e.h _ _ e4, Rc.mono e.f e5⟩
  ds := R.ds
theorem Rel.base (R : Rel G B F0 F ρ σ H) : Rel G B F F ρ σ H := ⟨R.sB, R.sF, .refl _, fun a h q => absurd h q, R.len, R.sl, R.ds⟩
theorem Rel.under {F1 : Hp} {ρ' : Evr} {σ' : L2.St} (R : Rel G B F0 F ρ σ H) (R' : Rel G B F F1 ρ' σ' H') : Rel G B F0 F1 ρ' σ' H' := ⟨R'.sB, R'.sF, R.s0.trans R'.s0, fun a h q => by
  cases z : F a with
  | none => exact R'.nw a z q
  | some o => exact R.nw a h (by rw [z]; exact fun z => nomatch z), R'.len, R'.sl, R'.ds⟩
/-- the slot i gets a frozen or borrowed thing -/
theorem Rel.put {i : Nat} {s : Slot} {v : V} (R : Rel G B F0 F ρ σ H) (h : SlOk G B F H (some s) (some v)) (ho : isOw (some s) = false) : Rel G B F0 F (ρ.set i (some s)) (σ.set i (some v)) H where
  sB := R.sB
  sF := R.sF
  s0 := R.s0
  nw := R.nw
  len := by rw [List.length_set, List.length_set]; exact R.len
  sl := fun j t x hs hx => by
    by_cases z : i = j
    · subst z
      rw [List.getElem?_set_self' ] at hs hx
      cases e1 : ρ[i]? with
      | none => rw [e1] at hs; cases hs
      | some a =>
        cases e2 : σ[i]? with
        | none => rw [e2] at hx; cases hx
        | some b =>
          rw [e1] at hs
          rw [e2] at hx
          cases hs
          cases hx
          exact h
    · rw [List.getElem?_set_ne z] at hs hx
      exact R.sl j t x hs hx
  ds := fun j k p t u hj hk oj ok sj sk => by
    by_cases z : i = j
    · subst z
      rw [List.getElem?_set_self'] at hj
      cases e1 : ρ[i]? with
      | none => rw [e1] at hj; cases hj
      | some a => rw [e1] at hj; cases hj; have oj : isOw (some s) = true := oj; rw [ho] at oj; cases oj
    · by_cases z2 : i = k
      · subst z2
        rw [List.getElem?_set_self'] at hk
        cases e1 : ρ[i]? with
        | none => rw [e1] at hk; cases hk
        | some a => rw [e1] at hk; cases hk; have ok : isOw (some s) = true := ok; rw [ho] at ok; cases ok
      · rw [List.getElem?_set_ne z] at hj sj
        rw [List.getElem?_set_ne z2] at hk sk
        exact R.ds j k p t u hj hk oj ok sj sk
/-- a new thing of one's own -/
theorem Rel.own {α : Type} [Rp α] [Rc α] {i : Nat} {a : α} {p : Addr} {o : HO} (R : Rel G B F0 F ρ σ H) (hB : B p = none) (hF : F p = none) (hH : H p = some o) (c : con G F o a) (hn : ∀ (j : Nat) (s : Option Slot), ρ[j]? = some s → isOw s = true → σ[j]? ≠ some (some (.ref p))) :
    Rel G B F0 F (ρ.set i (some (.ow a))) (σ.set i (some (.ref p))) H where
  sB := R.sB
  sF := R.sF
  s0 := R.s0
  nw := R.nw
  len := by rw [List.length_set, List.length_set]; exact R.len
  sl := fun j t x hs hx => by
    by_cases z : i = j
    · subst z
      rw [List.getElem?_set_self' ] at hs hx
      cases e1 : ρ[i]? with
      | none => rw [e1] at hs; cases hs
      | some a =>
        cases e2 : σ[i]? with
        | none => rw [e2] at hx; cases hx
        | some b =>
          rw [e1] at hs
          rw [e2] at hx
          cases hs
          cases hx
          exact ⟨p, o, rfl, hB, hF, hH, c⟩
    · rw [List.getElem?_set_ne z] at hs hx
      exact R.sl j t x hs hx
  ds := fun j k q t u hj hk oj ok sj sk => by
    by_cases z : i = j
    · by_cases z2 : i = k
      · exact z.symm.trans z2
      · subst z
        rw [List.getElem?_set_ne z2] at hk sk
        rw [List.getElem?_set_self'] at sj
        cases e2 : σ[i]? with
        | none => rw [e2] at sj; cases sj
        | some b => rw [e2] at sj; cases sj; exact absurd sk (hn k u hk ok)
    · by_cases z2 : i = k
      · subst z2
        rw [List.getElem?_set_ne z] at hj sj
        rw [List.getElem?_set_self'] at sk
        cases e2 : σ[i]? with
        | none => rw [e2] at sk; cases sk
        | some b => rw [e2] at sk; cases sk; exact absurd sj (hn j t hj oj)
      · rw [List.getElem?_set_ne z] at hj sj
        rw [List.getElem?_set_ne z2] at hk sk
        exact R.ds j k q t u hj hk oj ok sj sk
/-- what is new is owned by no slot -/
theorem Rel.fresh {p : Addr} (R : Rel G B F0 F ρ σ H) (h : H p = none) : ∀ (j : Nat) (s : Option Slot), ρ[j]? = some s → isOw s = true → σ[j]? ≠ some (some (.ref p)) := by
  intro j s hs ho e
  have q := R.sl j s _ hs e
  cases s with
  | none => cases ho
  | some s =>
    cases s with
    | fz a => cases ho
    | bw a => cases ho
    | ow a => obtain ⟨q, o, e1, _, _, e4, _⟩ := q; cases e1; rw [h] at e4; cases e4
    | lk p' ob u a => obtain ⟨e1, _, _, e4, _⟩ := q; cases e1; rw [h] at e4; cases e4
/-- the thing of slot i is changed -/
theorem Rel.change {α : Type} [Rp α] [Rc α] {i : Nat} {a : α} {s : Option Slot} {p : Addr} {o : HO} (R : Rel G B F0 F ρ σ H) (hi : ρ[i]? = some s) (ho : isOw s = true) (hs : σ[i]? = some (some (.ref p))) (hB : B p = none) (hF : F p = none) (c : con G F o a) :
    Rel G B F0 F (ρ.set i (some (.ow a))) σ (upd H p o) where
  sB := same_updR R.sB hB
  sF := same_updR R.sF hF
  s0 := R.s0
  nw := R.nw
  len := by rw [List.length_set]; exact R.len
  sl := fun j t x ht hx => by
    by_cases z : i = j
    · subst z
      rw [List.getElem?_set_self', hi] at ht
      cases ht
      rw [hs] at hx
      cases hx
      exact ⟨p, o, rfl, hB, hF, upd_same, c⟩
    · rw [List.getElem?_set_ne z] at ht
      have q := R.sl j t x ht hx
      cases t with
      | none => exact trivial
      | some t =>
        cases t with
        | fz a => exact q
        | bw a => exact q
        | ow a =>
          obtain ⟨q, u, e1, e2, e3, e4, e5⟩ := q
          subst e1
          have ne : q ≠ p := fun w => z (R.ds i j p s (some (.ow a)) hi ht ho rfl hs (by rw [← w]; exact hx))
          exact ⟨q, u, rfl, e2, e3, by rw [upd_ne ne]; exact e4, e5⟩
        | lk q' ob u a =>
          obtain ⟨e1, e2, e3, e4, e5⟩ := q
          subst e1
          have ne : q' ≠ p := fun w => z (R.ds i j p s _ hi ht ho rfl hs (by rw [← w]; exact hx))
          exact ⟨rfl, e2, e3, by rw [upd_ne ne]; exact e4, e5⟩
  ds := fun j k q t u hj hk oj ok sj sk => by
    have f : ∀ (j : Nat) (t : Option Slot), (ρ.set i (some (Slot.ow a)))[j]? = some t → isOw t = true → ∃ t', ρ[j]? = some t' ∧ isOw t' = true := by
      intro j t hj oj
      by_cases z : i = j
      · subst z; exact ⟨s, hi, ho⟩
      · rw [List.getElem?_set_ne z] at hj; exact ⟨t, hj, oj⟩
    obtain ⟨t', a1, a2⟩ := f j t hj oj
    obtain ⟨u', b1, b2⟩ := f k u hk ok
    exact R.ds j k q t' u' a1 b1 a2 b2 sj sk
/-- the thing of slot i stands otherwise: locked, unlocked -/
theorem Rel.shift {i : Nat} {s : Option Slot} {s' : Slot} {p : Addr} {o : HO} (R : Rel G B F0 F ρ σ H) (hi : ρ[i]? = some s) (ho : isOw s = true) (hs : σ[i]? = some (some (.ref p))) (hB : B p = none) (hF : F p = none) (c : SlOk G B F (upd H p o) (some s') (some (.ref p))) :
    Rel G B F0 F (ρ.set i (some s')) σ (upd H p o) where
  sB := same_updR R.sB hB
  sF := same_updR R.sF hF
  s0 := R.s0
  nw := R.nw
  len := by rw [List.length_set]; exact R.len
  sl := fun j t x ht hx => by
    by_cases z : i = j
    · subst z
      rw [List.getElem?_set_self', hi] at ht
      cases ht
      rw [hs] at hx
      cases hx
      exact c
    · rw [List.getElem?_set_ne z] at ht
      have q := R.sl j t x ht hx
      cases t with
      | none => exact trivial
      | some t =>
        cases t with
        | fz a => exact q
        | bw a => exact q
        | ow a =>
          obtain ⟨q, u, e1, e2, e3, e4, e5⟩ := q
          subst e1
          have ne : q ≠ p := fun w => z (R.ds i j p s _ hi ht ho rfl hs (by rw [← w]; exact hx))
          exact ⟨q, u, rfl, e2, e3, by rw [upd_ne ne]; exact e4, e5⟩
        | lk q' ob u a =>
          obtain ⟨e1, e2, e3, e4, e5⟩ := q
          subst e1
          have ne : q' ≠ p := fun w => z (R.ds i j p s _ hi ht ho rfl hs (by rw [← w]; exact hx))
          exact ⟨rfl, e2, e3, by rw [upd_ne ne]; exact e4, e5⟩
  ds := fun j k q t u hj hk oj ok sj sk => by
    have f : ∀ (j : Nat) (t : Option Slot), (ρ.set i (some s'))[j]? = some t → isOw t = true → ∃ t', ρ[j]? = some t' ∧ isOw t' = true := by
      intro j t hj oj
      by_cases z : i = j
      · subst z; exact ⟨s, hi, ho⟩
      · rw [List.getElem?_set_ne z] at hj; exact ⟨t, hj, oj⟩
    obtain ⟨t', a1, a2⟩ := f j t hj oj
    obtain ⟨u', b1, b2⟩ := f k u hk ok
    exact R.ds j k q t' u' a1 b1 a2 b2 sj sk
/-- what is known is forgotten -/
inductive Wk : Evr → Evr → Prop
  | nil : Wk [] []
  | keep {s : Option Slot} {ρ ρ' : Evr} : Wk ρ ρ' → Wk (s :: ρ) (s :: ρ')
  | drop {s : Option Slot} {ρ ρ' : Evr} : Wk ρ ρ' → Wk (s :: ρ) (none :: ρ')
theorem Wk.len : ∀ {ρ ρ' : Evr}, Wk ρ ρ' → ρ.length = ρ'.length
  | _, _, .nil => rfl
  | _, _, .keep h => by rw [List.length_cons, List.length_cons, h.len]
  | _, _, .drop h => by rw [List.length_cons, List.length_cons, h.len]
theorem Wk.at : ∀ {ρ ρ' : Evr} {i : Nat} {s : Option Slot}, Wk ρ ρ' → ρ'[i]? = some s → s = none ∨ ρ[i]? = some s
  | _, _, _, _, .nil, e => by simp at e
  | _, _, 0, _, .keep _, e => .inr e
  | _, _, 0, _, .drop _, e => by simp at e; exact .inl e.symm
  | _, _, i + 1, s, .keep h, e => h.at (i := i) (s := s) (by simpa using e) |>.imp id fun q => by simpa using q
  | _, _, i + 1, s, .drop h, e => h.at (i := i) (s := s) (by simpa using e) |>.imp id fun q => by simpa using q
theorem Rel.weak {ρ' : Evr} (R : Rel G B F0 F ρ σ H) (w : Wk ρ ρ') : Rel G B F0 F ρ' σ H where
  sB := R.sB
  sF := R.sF
  s0 := R.s0
  nw := R.nw
  len := w.len.symm.trans R.len
  sl := fun i s x hs hx => by
    rcases w.at hs with e | e
    · subst e; exact trivial
    · exact R.sl i s x e hx
  ds := fun i j p s t hi hj oi oj si sj => by
    rcases w.at hi with e | e
    · subst e; cases oi
    · rcases w.at hj with e' | e'
      · subst e'; cases oj
      · exact R.ds i j p s t e e' oi oj si sj
/-- an own thing is frozen -/
theorem Rel.freeze {α : Type} [Rp α] [Rc α] {i : Nat} {a : α} (R : Rel G B F0 F ρ σ H) (hi : ρ[i]? = some (some (.ow a))) : ∃ F', Rel G B F0 F' (ρ.set i (some (.fz a))) σ H := by
  have hil : i < σ.length := by rw [← R.len]; exact (List.getElem?_eq_some_iff.mp hi).1
  obtain ⟨x, hx⟩ : ∃ x, σ[i]? = some x := ⟨σ[i], List.getElem?_eq_getElem hil⟩
  obtain ⟨p, o, e1, e2, e3, e4, e5⟩ := R.sl i _ x hi hx
  subst e1
  have s1 : Same F (upd F p o) := same_upd e3
  refine ⟨upd F p o, R.sB, fun b u e => ?_, R.s0.trans s1, fun b h q => ?_, by rw [List.length_set]; exact R.len, fun j t y ht hy => ?_, fun j k q t u hj hk oj ok sj sk => ?_⟩
  · by_cases z : b = p
    · subst z; rw [upd_same] at e; cases e; exact e4
    · rw [upd_ne z] at e; exact R.sF _ _ e
  · by_cases z : b = p
    · rw [z]; exact e2
    · rw [upd_ne z] at q; exact R.nw b h q
  · by_cases z : i = j
    · subst z
      rw [List.getElem?_set_self', hi] at ht
      cases ht
      rw [hx] at hy
      cases hy
      exact ⟨_, rfl, Rc.fz upd_same (Rc.mono s1 e5)⟩
    · rw [List.getElem?_set_ne z] at ht
      have q := R.sl j t y ht hy
      cases t with
      | none => exact trivial
      | some t =>
        cases t with
        | fz a => obtain ⟨v, f1, f2⟩ := q; exact ⟨v, f1, Rp.mono s1 f2⟩
        | bw a => exact q
        | ow a' =>
          obtain ⟨q, u, f1, f2, f3, f4, f5⟩ := q
          subst f1
          have ne : q ≠ p := fun w => z (R.ds i j p _ _ hi ht rfl rfl hx (by rw [← w]; exact hy))
          exact ⟨q, u, rfl, f2, by rw [upd_ne ne]; exact f3, f4, Rc.mono s1 f5⟩
        | lk q' ob u a' =>
          obtain ⟨f1, f2, f3, f4, f5⟩ := q
          subst f1
          have ne : q' ≠ p := fun w => z (R.ds i j p _ _ hi ht rfl rfl hx (by rw [← w]; exact hy))
          exact ⟨rfl, f2, by rw [upd_ne ne]; exact f3, f4, Rc.mono s1 f5⟩
  · by_cases z : i = j
    · subst z; rw [List.getElem?_set_self', hi] at hj; cases hj; cases oj
    · by_cases z2 : i = k
      · subst z2; rw [List.getElem?_set_self', hi] at hk; cases hk; cases ok
      · rw [List.getElem?_set_ne z] at hj
        rw [List.getElem?_set_ne z2] at hk
        exact R.ds j k q t u hj hk oj ok sj sk
end
end Tw

set_option Elab.async false
set_option linter.all false
set_option maxRecDepth 100000
set_option maxHeartbeats 4000000
/-! What an expression gives, in plain data. -/
namespace Tw
open PySem PySem.Spec L2
open PyProof.Rows hiding St

inductive Md where
  | F | B | H
def hpM : Md → Hp → Hp → Hp → Hp
  | .F, F, _, _ => F
  | .B, _, B, _ => B
  | .H, _, _, H => H
/-- what is wanted where a refusal leaves -/
def Xc (G : Gb) (B : Hp) (E : XK) (c : Str) : Prop := ∀ H', Same B H' → E (.ref (G.cl c)) none H'
section
variable (G : Gb) (B : Hp) (E : XK) {α : Type} [Rp α]
def Ev (md : Md) (ρ : Evr) (te : TE) (m : M α) : Prop := ∀ (F0 F : Hp) (σ : L2.St) (H : Hp) (Q : VK), Rel G B F0 F ρ σ H →
  m.P (fun a => ∀ (F' : Hp) (v : V) (H' : Hp), Ext F H F' H' → Same F' H' → rep G (hpM md F' B H') v a → Q v H') (Xc G B E) → te σ H Q
/-- a new thing -/
def EvN [Rc α] (ρ : Evr) (te : TE) (m : M α) : Prop := ∀ (F0 F : Hp) (σ : L2.St) (H : Hp) (Q : VK), Rel G B F0 F ρ σ H →
  m.P (fun a => ∀ (F' : Hp) (p : Addr) (o : HO) (H' : Hp), Ext F H F' H' → Same F' H' → H p = none → F' p = none → H' p = some o → con G F' o a → Q (.ref p) H') (Xc G B E) → te σ H Q
def EvT (ρ : Evr) (tt : TT) (m : M Bool) : Prop := ∀ (F0 F : Hp) (σ : L2.St) (H : Hp) (Q : Bool → Hp → Prop), Rel G B F0 F ρ σ H →
  m.P (fun a => ∀ (F' H' : Hp), Ext F H F' H' → Same F' H' → Q a H') (Xc G B E) → tt σ H Q
end
section
variable {G : Gb} {B : Hp} {E : XK} {ρ : Evr} {α β γ δ : Type} [Rp α] [Rp β] [Rp γ] [Rp δ] {md md' : Md}
theorem hpM_H {F H : Hp} (R : Same B H) (s : Same F H) : Same (hpM md F B H) H := by
  cases md with
  | F => exact s
  | B => exact R
  | H => exact .refl _
theorem hpM_ext {F H F' H' : Hp} (e : Ext F H F' H') : Same (hpM md F B H) (hpM md F' B H') := by
  cases md with
  | F => exact e.f
  | B => exact .refl _
  | H => exact e.h
theorem Ev.toH {te : TE} {m : M α} (h : Ev G B E md ρ te m) : Ev G B E .H ρ te m := fun F0 F σ H Q R q =>
  h F0 F σ H Q R (q.imp (fun a k F' v H' e s r => k F' v H' e s (Rp.mono (hpM_H (R.sB.trans e.h) s) r)) fun _ x => x)
theorem Ev.sc [Sc α] {te : TE} {m : M α} (h : Ev G B E md ρ te m) : Ev G B E md' ρ te m := fun F0 F σ H Q R q =>
  h F0 F σ H Q R (q.imp (fun a k F' v H' e s r => k F' v H' e s ((Sc.iff _ _ _ _).mpr ((Sc.iff _ _ _ _).mp r))) fun _ x => x)
theorem EvN.F [Rc α] {te : TE} {m : M α} (h : EvN G B E ρ te m) : Ev G B E .F ρ te m := fun F0 F σ H Q R q =>
  h F0 F σ H Q R (q.imp (fun a k F' p o H' e s hp fp hp' c => k (upd F' p o) (.ref p) H' ⟨e.f.trans (same_upd fp), e.h, fun b hb q => by
    by_cases z : b = p
    · rw [z]; exact hp
    · rw [upd_ne z] at q; exact e.n b hb q⟩ (fun b u z => by
    by_cases w : b = p
    · subst w; rw [upd_same] at z; cases z; exact hp'
    · rw [upd_ne w] at z; exact s _ _ z) (Rc.fz upd_same (Rc.mono (same_upd fp) c))) fun _ x => x)
theorem EvN.H [Rc α] {te : TE} {m : M α} (h : EvN G B E ρ te m) : Ev G B E .H ρ te m := fun F0 F σ H Q R q =>
  h F0 F σ H Q R (q.imp (fun a k F' p o H' e s hp fp hp' c => k F' (.ref p) H' e s (Rc.fz hp' (Rc.mono s c))) fun _ x => x)
theorem Ev.go {ω : Type} {te : TE} {m : M α} {k : α → M ω} {p : ω → Prop} {F0 F : Hp} {σ : L2.St} {H : Hp} {Q : VK} (h : Ev G B E md ρ te m) (R : Rel G B F0 F ρ σ H) (q : (m.b k).P p (Xc G B E))
    (f : ∀ (a : α) (F' : Hp) (v : V) (H' : Hp), Ext F H F' H' → rep G (hpM md F' B H') v a → Rel G B F0 F' ρ σ H' → (k a).P p (Xc G B E) → Q v H') : te σ H Q :=
  h F0 F σ H Q R ((M.P_b.mp q).imp (fun a k F' v H' e s r => f a F' v H' e r (R.ext e s) k) fun _ x => x)
theorem EvN.go {ω : Type} [Rc α] {te : TE} {m : M α} {k : α → M ω} {p : ω → Prop} {F0 F : Hp} {σ : L2.St} {H : Hp} {Q : VK} (h : EvN G B E ρ te m) (R : Rel G B F0 F ρ σ H) (q : (m.b k).P p (Xc G B E))
    (f : ∀ (a : α) (F' : Hp) (d : Addr) (o : HO) (H' : Hp), Ext F H F' H' → H d = none → F' d = none → H' d = some o → con G F' o a → Rel G B F0 F' ρ σ H' → (k a).P p (Xc G B E) → Q (.ref d) H') : te σ H Q :=
  h F0 F σ H Q R ((M.P_b.mp q).imp (fun a k F' d o H' e s h1 h2 h3 h4 => f a F' d o H' e h1 h2 h3 h4 (R.ext e s) k) fun _ x => x)
theorem EvT.go {ω : Type} {tt : TT} {m : M Bool} {k : Bool → M ω} {p : ω → Prop} {F0 F : Hp} {σ : L2.St} {H : Hp} {Q : Bool → Hp → Prop} (h : EvT G B E ρ tt m) (R : Rel G B F0 F ρ σ H) (q : (m.b k).P p (Xc G B E))
    (f : ∀ (a : Bool) (F' H' : Hp), Ext F H F' H' → Rel G B F0 F' ρ σ H' → (k a).P p (Xc G B E) → Q a H') : tt σ H Q :=
  h F0 F σ H Q R ((M.P_b.mp q).imp (fun a k F' H' e s => f a F' H' e (R.ext e s) k) fun _ x => x)

/-! ### names, constants -/
theorem Rel.at {F0 F : Hp} {σ : L2.St} {H : Hp} {i : Nat} {s : Slot} (R : Rel G B F0 F ρ σ H) (h : ρ[i]? = some (some s)) : ∃ x, σ[i]? = some x ∧ SlOk G B F H (some s) x := by
  have hi : i < σ.length := by rw [← R.len]; exact (List.getElem?_eq_some_iff.mp h).1
  exact ⟨σ[i], List.getElem?_eq_getElem hi, R.sl i _ _ h (List.getElem?_eq_getElem hi)⟩
theorem ev_fz {i : Nat} {a : α} (h : ρ[i]? = some (some (.fz a))) : Ev G B E .F ρ (tVar i) (.ok a) := fun F0 F σ H Q R q => by
  obtain ⟨x, e, v, rfl, r⟩ := R.at h
  exact ⟨v, e, q F v H (.refl _ _) R.sF r⟩
theorem ev_bw {i : Nat} {a : α} (h : ρ[i]? = some (some (.bw a))) : Ev G B E .B ρ (tVar i) (.ok a) := fun F0 F σ H Q R q => by
  obtain ⟨x, e, v, rfl, r⟩ := R.at h
  exact ⟨v, e, q F v H (.refl _ _) R.sF r⟩
theorem ev_ow [Rc α] {i : Nat} {a : α} (h : ρ[i]? = some (some (.ow a))) : Ev G B E .H ρ (tVar i) (.ok a) := fun F0 F σ H Q R q => by
  obtain ⟨x, e, p, o, rfl, _, _, h4, h5⟩ := R.at h
  exact ⟨_, e, q F _ H (.refl _ _) R.sF (Rc.fz h4 (Rc.mono R.sF h5))⟩
theorem ev_lkK {κ : Type} [Rp κ] [DecidableEq κ] [Ky κ] {i : Nat} {p : Addr} {ob : Obj} {u : HO} {a : Dk κ α} (h : ρ[i]? = some (some (.lk p ob u a))) : Ev G B E .H ρ (tVar i) (.ok a) := fun F0 F σ H Q R q => by
  obtain ⟨x, e, rfl, _, _, h4, kvs, rfl, h5⟩ := R.at h
  exact ⟨_, e, q F _ H (.refl _ _) R.sF ⟨p, kvs, rfl, .inr ⟨ob, h4⟩, repk_mono R.sF h5⟩⟩
theorem ev_lkT {κ : Type} [Rp κ] [DecidableEq κ] [Kt κ] {i : Nat} {p : Addr} {ob : Obj} {u : HO} {a : Dt κ α} (h : ρ[i]? = some (some (.lk p ob u a))) : Ev G B E .H ρ (tVar i) (.ok a) := fun F0 F σ H Q R q => by
  obtain ⟨x, e, rfl, _, _, h4, kvs, rfl, h5⟩ := R.at h
  exact ⟨_, e, q F _ H (.refl _ _) R.sF ⟨p, kvs, rfl, .inr ⟨ob, h4⟩, rept_mono R.sF h5⟩⟩
theorem ev_int {i : Int} : Ev G B E md ρ (tC (.int i)) (.ok i) := fun F0 F σ H Q R q => q F _ H (.refl _ _) R.sF rfl
theorem ev_bl {i : Bool} : Ev G B E md ρ (tC (.bl i)) (.ok i) := fun F0 F σ H Q R q => q F _ H (.refl _ _) R.sF rfl
theorem ev_str {i : Str} : Ev G B E md ρ (tC (.str i)) (.ok i) := fun F0 F σ H Q R q => q F _ H (.refl _ _) R.sF rfl
theorem ev_non : Ev G B E md ρ (tC .non) (.ok ()) := fun F0 F σ H Q R q => q F _ H (.refl _ _) R.sF rfl
theorem ev_nonO : Ev G B E md ρ (tC .non) (.ok (none : Option α)) := fun F0 F σ H Q R q => q F _ H (.refl _ _) R.sF rfl
/-- a thing where None might stand -/
class NoN (α : Type) [Rp α] : Prop where
  no : ∀ {G : Gb} {H : Hp} {v : V} {a : α}, rep G H v a → v ≠ .non
instance : NoN Int := ⟨fun h e => by rw [show _ = _ from h] at e; cases e⟩
instance : NoN Str := ⟨fun h e => by rw [show _ = _ from h] at e; cases e⟩
instance : NoN Bool := ⟨fun h e => by rw [show _ = _ from h] at e; cases e⟩
instance : NoN (List α) := ⟨fun ⟨p, vs, e, _⟩ z => by rw [e] at z; cases z⟩
instance : NoN (α × β) := ⟨fun ⟨p, v, w, e, _⟩ z => by rw [e] at z; cases z⟩
theorem Ev.some [NoN α] {te : TE} {m : M α} (h : Ev G B E md ρ te m) : Ev G B E md ρ te (m.b fun a => .ok (some a)) := fun F0 F σ H Q R q =>
  h F0 F σ H Q R ((M.P_b.mp q).imp (fun a k F' v H' e s r => k F' v H' e s ⟨r, NoN.no r⟩) fun _ x => x)

/-! ### operators -/
theorem ev_rI0 [Sc β] {f : Int → Int → V} {g : Int → Int → β} (hf : ∀ i j, f i j = Sc.enc (g i j)) {ta tb : TE} {ma mb : M Int} (ha : Ev G B E md ρ ta ma) (hb : Ev G B E md' ρ tb mb) {mr : Md} :
    Ev G B E mr ρ (tOp (rI0 f) ta tb) (ma.b fun i => mb.b fun j => .ok (g i j)) := fun F0 F σ H Q R q =>
  ha.go R q fun i F1 v H1 e1 r1 R1 q => hb.go R1 q fun j F2 w H2 e2 r2 R2 q => ⟨i, j, r1, r2, q F2 _ H2 (e1.trans e2) R2.sF ((Sc.iff _ _ _ _).mpr (hf i j))⟩
theorem ev_rI [Sc β] {C : Int → Int → Prop} {f : Int → Int → V} {g : Int → Int → β} (hf : ∀ i j, f i j = Sc.enc (g i j)) {ta tb : TE} {ma mb : M Int} (ha : Ev G B E md ρ ta ma) (hb : Ev G B E md' ρ tb mb) {mr : Md} :
    Ev G B E mr ρ (tOp (rI C f) ta tb) (ma.b fun i => mb.b fun j => .chk (C i j) (.ok (g i j))) := fun F0 F σ H Q R q =>
  ha.go R q fun i F1 v H1 e1 r1 R1 q => hb.go R1 q fun j F2 w H2 e2 r2 R2 q => by
    obtain ⟨c, q⟩ := M.P_chk.mp q
    exact ⟨i, j, r1, r2, c, q F2 _ H2 (e1.trans e2) R2.sF ((Sc.iff _ _ _ _).mpr (hf i j))⟩
section
variable {ta tb : TE} {ma mb : M Int} (ha : Ev G B E md ρ ta ma) (hb : Ev G B E md' ρ tb mb) {mr : Md}
include ha hb
theorem ev_add : Ev G B E mr ρ (tOp qAdd ta tb) (ma.b fun i => mb.b fun j => .ok (i + j)) := ev_rI0 (fun _ _ => rfl) ha hb
theorem ev_sub : Ev G B E mr ρ (tOp qSub ta tb) (ma.b fun i => mb.b fun j => .ok (i - j)) := ev_rI0 (fun _ _ => rfl) ha hb
theorem ev_and : Ev G B E mr ρ (tOp qAnd ta tb) (ma.b fun i => mb.b fun j => .ok (Builtin.bitAnd i j)) := ev_rI0 (fun _ _ => rfl) ha hb
theorem ev_or : Ev G B E mr ρ (tOp qOr ta tb) (ma.b fun i => mb.b fun j => .ok (Builtin.bitOr i j)) := ev_rI0 (fun _ _ => rfl) ha hb
theorem ev_xor : Ev G B E mr ρ (tOp qXor ta tb) (ma.b fun i => mb.b fun j => .ok (Builtin.bitXor i j)) := ev_rI0 (fun _ _ => rfl) ha hb
theorem ev_lt : Ev G B E mr ρ (tOp qLt ta tb) (ma.b fun i => mb.b fun j => .ok (decide (i < j))) := ev_rI0 (fun _ _ => rfl) ha hb
theorem ev_le : Ev G B E mr ρ (tOp qLe ta tb) (ma.b fun i => mb.b fun j => .ok (decide (i ≤ j))) := ev_rI0 (fun _ _ => rfl) ha hb
theorem ev_gt : Ev G B E mr ρ (tOp qGt ta tb) (ma.b fun i => mb.b fun j => .ok (decide (j < i))) := ev_rI0 (fun _ _ => rfl) ha hb
theorem ev_ge : Ev G B E mr ρ (tOp qGe ta tb) (ma.b fun i => mb.b fun j => .ok (decide (j ≤ i))) := ev_rI0 (fun _ _ => rfl) ha hb
theorem ev_mul : Ev G B E mr ρ (tOp qMul ta tb) (ma.b fun i => mb.b fun j => .chk (CMulW i j) (.ok (i * j))) := ev_rI (fun _ _ => rfl) ha hb
theorem ev_div : Ev G B E mr ρ (tOp qDiv ta tb) (ma.b fun i => mb.b fun j => .chk (CDivW i j) (.ok (i / j))) := ev_rI (fun _ _ => rfl) ha hb
theorem ev_mod : Ev G B E mr ρ (tOp qMod ta tb) (ma.b fun i => mb.b fun j => .chk (CPos i j) (.ok (i % j))) := ev_rI (fun _ _ => rfl) ha hb
theorem ev_pow : Ev G B E mr ρ (tOp qPow ta tb) (ma.b fun i => mb.b fun j => .chk (CPow i j) (.ok (i ^ j.toNat))) := ev_rI (fun _ _ => rfl) ha hb
theorem ev_shl : Ev G B E mr ρ (tOp qShl ta tb) (ma.b fun i => mb.b fun j => .chk (CPow i j) (.ok (i * 2 ^ j.toNat))) := ev_rI (fun _ _ => rfl) ha hb
theorem ev_shr : Ev G B E mr ρ (tOp qShr ta tb) (ma.b fun i => mb.b fun j => .chk (CNN i j) (.ok (i / 2 ^ j.toNat))) := ev_rI (fun _ _ => rfl) ha hb
end
end
end Tw

set_option Elab.async false
set_option linter.all false
set_option maxRecDepth 100000
set_option maxHeartbeats 4000000
/-! More of what expressions give: comparisons, places, parts, new lists. -/
namespace Tw
open PySem PySem.Spec L2 TL
open PyProof.Rows hiding St

/-! ### data that == goes into -/
class Dd (α : Type) [Rp α] [DecidableEq α] where
  dat : α → PyData
  dp : ∀ {G : Gb} {H : Hp} {v : V} {a : α}, rep G H v a → Dp G.K H v (dat a)
  eq : ∀ a b : α, PyData.eqv (dat a) (dat b) = decide (a = b)
  Ok : α → Prop
  lay : ∀ {a : α}, Ok a → PyData.canLay0 (dat a) = true
  n : Nat
  dep : ∀ a : α, PyData.depth (dat a) ≤ n
theorem Dd.shaped {α : Type} [Rp α] [DecidableEq α] [Dd α] {a : α} (h : Dd.Ok a) (hn : Dd.n α ≤ 64) : SeqAt.shaped (Dd.dat a) = true := by
  unfold SeqAt.shaped
  rw [Dd.lay h, Bool.true_and]
  exact decide_eq_true (Nat.le_trans (Dd.dep a) hn)
instance : Dd Int := ⟨.int, fun h => by rw [show _ = _ from h]; exact .int _, fun a b => by rw [PyData.eqv]; exact Bool.eq_iff_iff.mpr (by simp), fun _ => True, fun _ => by rw [PyData.canLay0], 0, fun a => by rw [PyData.depth]; exact Nat.le_refl _⟩
instance : Dd Bool := ⟨.bool, fun h => by rw [show _ = _ from h]; exact .bl _, fun a b => by rw [PyData.eqv]; exact Bool.eq_iff_iff.mpr (by simp), fun _ => True, fun _ => by rw [PyData.canLay0], 0, fun a => by rw [PyData.depth]; exact Nat.le_refl _⟩
instance : Dd Str := ⟨.str, fun h => by rw [show _ = _ from h]; exact .str _, fun a b => by rw [PyData.eqv]; exact Bool.eq_iff_iff.mpr (by simp), fun a => PyData.strOk a = true, fun h => by rw [PyData.canLay0]; exact h, 0, fun a => by rw [PyData.depth]; exact Nat.le_refl _⟩
section
variable {α β γ δ : Type} [Rp α] [Rp β] [Rp γ] [Rp δ] [DecidableEq α] [DecidableEq β] [DecidableEq γ] [DecidableEq δ] [Dd α] [Dd β] [Dd γ] [Dd δ]
theorem dd_dpAll {G : Gb} {H : Hp} : ∀ {vs : List V} {as : List α}, reps G H vs as → DpAll G.K H vs (as.map Dd.dat)
  | _, _, .nil => .nil
  | _, _, .cons h t => .cons (Dd.dp h) (dd_dpAll t)
theorem dd_eqAll : ∀ as bs : List α, PyData.eqvAll (as.map Dd.dat) (bs.map Dd.dat) = decide (as = bs)
  | [], [] => by simp [PyData.eqvAll]
  | [], u :: r => by simp [PyData.eqvAll]
  | t :: r, [] => by simp [PyData.eqvAll]
  | t :: r, u :: q => by
    rw [List.map_cons, List.map_cons, PyData.eqvAll, Dd.eq, dd_eqAll r q]
    by_cases e : t = u
    · subst e
      by_cases e2 : r = q
      · subst e2; simp
      · simp [e2]
    · simp [e]
theorem dd_layAll : ∀ {as : List α}, (∀ a ∈ as, Dd.Ok a) → PyData.canLayAll0 (as.map Dd.dat) = true
  | [], _ => by simp [PyData.canLayAll0]
  | t :: r, h => by
    rw [List.map_cons, PyData.canLayAll0, Dd.lay (h t List.mem_cons_self), dd_layAll fun x hx => h x (List.mem_cons_of_mem _ hx)]
    rfl
theorem dd_depAll : ∀ as : List α, PyData.depthAll (as.map Dd.dat) ≤ Dd.n α
  | [] => by simp [PyData.depthAll]
  | t :: r => by
    rw [List.map_cons, PyData.depthAll]
    exact Nat.max_le.mpr ⟨Dd.dep t, dd_depAll r⟩
instance : Dd (List α) where
  dat a := .list (a.map Dd.dat)
  dp := fun ⟨p, vs, e, h, r⟩ => by rw [e]; exact .lst (.of h) (dd_dpAll r)
  eq := fun a b => by rw [PyData.eqv]; exact dd_eqAll a b
  Ok := fun a => ∀ x ∈ a, Dd.Ok x
  lay := fun h => by rw [PyData.canLay0]; exact dd_layAll h
  n := Dd.n α + 1
  dep := fun a => by rw [PyData.depth]; exact Nat.succ_le_succ (dd_depAll a)
instance : Dd (α × β) where
  dat a := .tuple [Dd.dat a.1, Dd.dat a.2]
  dp := fun ⟨p, v, w, e, h, r1, r2⟩ => by rw [e]; exact .tup (.of h) (.cons (Dd.dp r1) (.cons (Dd.dp r2) .nil))
  eq := fun a b => by
    rw [PyData.eqv, PyData.eqvAll, PyData.eqvAll, PyData.eqvAll, Dd.eq, Dd.eq]
    obtain ⟨a1, a2⟩ := a
    obtain ⟨b1, b2⟩ := b
    by_cases h1 : a1 = b1 <;> by_cases h2 : a2 = b2 <;> simp [h1, h2]
  Ok := fun a => Dd.Ok a.1 ∧ Dd.Ok a.2
  lay := fun h => by rw [PyData.canLay0, PyData.canLayAll0, PyData.canLayAll0, PyData.canLayAll0, Dd.lay h.1, Dd.lay h.2]; rfl
  n := max (Dd.n α) (Dd.n β) + 1
  dep := fun a => by
    rw [PyData.depth, PyData.depthAll, PyData.depthAll, PyData.depthAll]
    have := Dd.dep a.1
    have := Dd.dep a.2
    omega
instance : Dd (T3 α β γ) where
  dat a := .tuple [Dd.dat a.a, Dd.dat a.b, Dd.dat a.c]
  dp := fun ⟨p, v, w, u, e, h, r1, r2, r3⟩ => by rw [e]; exact .tup (.of h) (.cons (Dd.dp r1) (.cons (Dd.dp r2) (.cons (Dd.dp r3) .nil)))
  eq := fun a b => by
    rw [PyData.eqv, PyData.eqvAll, PyData.eqvAll, PyData.eqvAll, PyData.eqvAll, Dd.eq, Dd.eq, Dd.eq]
    obtain ⟨a1, a2, a3⟩ := a
    obtain ⟨b1, b2, b3⟩ := b
    by_cases h1 : a1 = b1 <;> by_cases h2 : a2 = b2 <;> by_cases h3 : a3 = b3 <;> simp [h1, h2, h3]
  Ok := fun a => Dd.Ok a.a ∧ Dd.Ok a.b ∧ Dd.Ok a.c
  lay := fun h => by rw [PyData.canLay0, PyData.canLayAll0, PyData.canLayAll0, PyData.canLayAll0, PyData.canLayAll0, Dd.lay h.1, Dd.lay h.2.1, Dd.lay h.2.2]; rfl
  n := max (Dd.n α) (max (Dd.n β) (Dd.n γ)) + 1
  dep := fun a => by
    rw [PyData.depth, PyData.depthAll, PyData.depthAll, PyData.depthAll, PyData.depthAll]
    have := Dd.dep a.a
    have := Dd.dep a.b
    have := Dd.dep a.c
    omega
end
/-- the scalars that == and in tell apart -/
class Sq (α : Type) [Rp α] [DecidableEq α] [Sc α] : Prop where
  sc : ∀ a b : α, scal (Sc.enc a) (Sc.enc b) = true
  inj : ∀ a b : α, (Sc.enc a = Sc.enc b) ↔ a = b
  fl : ∀ a : α, flatV (Sc.enc a) = true
  eqv : ∀ a b : α, eqV (Sc.enc a) (Sc.enc b) = decide (a = b)
instance : Sq Int := ⟨fun _ _ => rfl, fun _ _ => ⟨fun h => V.int.inj h, fun h => by rw [h]⟩, fun _ => rfl, fun a b => by show (a == b) = _; exact Bool.eq_iff_iff.mpr (by simp)⟩
instance : Sq Bool := ⟨fun _ _ => rfl, fun _ _ => ⟨fun h => V.bl.inj h, fun h => by rw [h]⟩, fun _ => rfl, fun a b => by show (a == b) = _; exact Bool.eq_iff_iff.mpr (by simp)⟩
instance : Sq Str := ⟨fun _ _ => rfl, fun _ _ => ⟨fun h => V.str.inj h, fun h => by rw [h]⟩, fun _ => rfl, fun a b => by show (a == b) = _; exact Bool.eq_iff_iff.mpr (by simp)⟩
/-- one sign of a text -/
structure Sgn where
  c : Nat
deriving DecidableEq
def Sgn.s (a : Sgn) : Str := ⟨#[a.c]⟩
instance : Rp Sgn := ⟨fun _ _ v a => v = .str a.s, fun _ h => h⟩
instance : Sc Sgn := ⟨fun a => .str a.s, fun _ _ _ _ => Iff.rfl⟩

section
variable {G : Gb} {B : Hp} {E : XK} {ρ : Evr} {α β γ δ : Type} [Rp α] [Rp β] [Rp γ] [Rp δ] {md md' mr : Md} {ta tb tc te : TE}
theorem ev_neg {m : M Int} (h : Ev G B E md ρ ta m) : Ev G B E mr ρ (tUn qNeg ta) (m.b fun i => .ok (-i)) := fun F0 F σ H Q R q =>
  h.go R q fun i F1 v H1 e1 r1 R1 q => ⟨i, r1, q F1 _ H1 e1 R1.sF rfl⟩
theorem ev_eq [DecidableEq α] [Sc α] [Sq α] {ma mb : M α} (ha : Ev G B E md ρ ta ma) (hb : Ev G B E md' ρ tb mb) : Ev G B E mr ρ (tOp rEq ta tb) (ma.b fun i => mb.b fun j => .ok (decide (i = j))) := fun F0 F σ H Q R q =>
  ha.go R q fun i F1 v H1 e1 r1 R1 q => hb.go R1 q fun j F2 w H2 e2 r2 R2 q => by
    rw [(Sc.iff _ _ _ _).mp r1, (Sc.iff _ _ _ _).mp r2]
    refine ⟨Sq.sc i j, ?_⟩
    rw [show decide ((Sc.enc i : V) = Sc.enc j) = decide (i = j) from Bool.eq_iff_iff.mpr (by rw [decide_eq_true_iff, decide_eq_true_iff]; exact Sq.inj i j)]
    exact q F2 _ H2 (e1.trans e2) R2.sF rfl
theorem ev_ne [DecidableEq α] [Sc α] [Sq α] {ma mb : M α} (ha : Ev G B E md ρ ta ma) (hb : Ev G B E md' ρ tb mb) : Ev G B E mr ρ (tOp rNe ta tb) (ma.b fun i => mb.b fun j => .ok (!decide (i = j))) := fun F0 F σ H Q R q =>
  ha.go R q fun i F1 v H1 e1 r1 R1 q => hb.go R1 q fun j F2 w H2 e2 r2 R2 q => by
    rw [(Sc.iff _ _ _ _).mp r1, (Sc.iff _ _ _ _).mp r2]
    refine ⟨Sq.sc i j, ?_⟩
    rw [show decide ((Sc.enc i : V) = Sc.enc j) = decide (i = j) from Bool.eq_iff_iff.mpr (by rw [decide_eq_true_iff, decide_eq_true_iff]; exact Sq.inj i j)]
    exact q F2 _ H2 (e1.trans e2) R2.sF rfl
theorem ev_eqD [DecidableEq α] [Dd α] {ma mb : M α} (hn : Dd.n α ≤ 64) (ha : Ev G B E md ρ ta ma) (hb : Ev G B E md' ρ tb mb) : Ev G B E mr ρ (tOp (rEqD G.K) ta tb) (ma.b fun i => mb.b fun j => .chk (Dd.Ok i ∧ Dd.Ok j) (.ok (decide (i = j)))) := fun F0 F σ H Q R q =>
  ha.toH.go R q fun i F1 v H1 e1 r1 R1 q => hb.toH.go R1 q fun j F2 w H2 e2 r2 R2 q => by
    obtain ⟨c, q⟩ := M.P_chk.mp q
    refine ⟨_, _, Dd.dp (Rp.mono e2.h r1), Dd.dp r2, Dd.shaped c.1 hn, Dd.shaped c.2 hn, ?_⟩
    rw [Dd.eq]
    exact q F2 _ H2 (e1.trans e2) R2.sF rfl
theorem ev_neD [DecidableEq α] [Dd α] {ma mb : M α} (hn : Dd.n α ≤ 64) (ha : Ev G B E md ρ ta ma) (hb : Ev G B E md' ρ tb mb) : Ev G B E mr ρ (tOp (rNeD G.K) ta tb) (ma.b fun i => mb.b fun j => .chk (Dd.Ok i ∧ Dd.Ok j) (.ok (!decide (i = j)))) := fun F0 F σ H Q R q =>
  ha.toH.go R q fun i F1 v H1 e1 r1 R1 q => hb.toH.go R1 q fun j F2 w H2 e2 r2 R2 q => by
    obtain ⟨c, q⟩ := M.P_chk.mp q
    refine ⟨_, _, Dd.dp (Rp.mono e2.h r1), Dd.dp r2, Dd.shaped c.1 hn, Dd.shaped c.2 hn, ?_⟩
    rw [Dd.eq]
    exact q F2 _ H2 (e1.trans e2) R2.sF rfl
/-! is -/
theorem ev_isB {ma mb : M Bool} (ha : Ev G B E md ρ ta ma) (hb : Ev G B E md' ρ tb mb) : Ev G B E mr ρ (tOp rIsB ta tb) (ma.b fun i => mb.b fun j => .ok (decide (i = j))) := fun F0 F σ H Q R q =>
  ha.go R q fun i F1 v H1 e1 r1 R1 q => hb.go R1 q fun j F2 w H2 e2 r2 R2 q => ⟨i, j, r1, r2, q F2 _ H2 (e1.trans e2) R2.sF rfl⟩
theorem ev_notB {ma mb : M Bool} (ha : Ev G B E md ρ ta ma) (hb : Ev G B E md' ρ tb mb) : Ev G B E mr ρ (tOp rNotB ta tb) (ma.b fun i => mb.b fun j => .ok (!decide (i = j))) := fun F0 F σ H Q R q =>
  ha.go R q fun i F1 v H1 e1 r1 R1 q => hb.go R1 q fun j F2 w H2 e2 r2 R2 q => ⟨i, j, r1, r2, q F2 _ H2 (e1.trans e2) R2.sF rfl⟩
theorem rep_opt {G : Gb} {H : Hp} {v : V} {o : Option α} (h : rep G H v o) : decide (v = .non) = o.isNone := by
  cases o with
  | none => rw [show v = .non from h]; rfl
  | some a => exact decide_eq_false h.2
theorem ev_isN {m : M (Option α)} (ha : Ev G B E md ρ ta m) : Ev G B E mr ρ (tOp qIsN ta (tC .non)) (m.b fun o => .ok o.isNone) := fun F0 F σ H Q R q =>
  ha.go R q fun i F1 v H1 e1 r1 R1 q => ⟨rfl, by rw [rep_opt r1]; exact q F1 _ H1 e1 R1.sF rfl⟩
theorem ev_notN {m : M (Option α)} (ha : Ev G B E md ρ ta m) : Ev G B E mr ρ (tOp qNotN ta (tC .non)) (m.b fun o => .ok (!o.isNone)) := fun F0 F σ H Q R q =>
  ha.go R q fun i F1 v H1 e1 r1 R1 q => ⟨rfl, by rw [rep_opt r1]; exact q F1 _ H1 e1 R1.sF rfl⟩
/-- what is no None -/
theorem Ev.val {m : M (Option α)} (ha : Ev G B E md ρ ta m) : Ev G B E md ρ ta (m.b M.get) := fun F0 F σ H Q R q =>
  ha.go R q fun o F1 v H1 e1 r1 R1 q => by
    obtain ⟨a, rfl, q⟩ := M.P_get.mp q
    exact q F1 v H1 e1 R1.sF r1.1

/-! ### tests -/
theorem evT_B {m : M Bool} (h : Ev G B E md ρ te m) : EvT G B E ρ (tB te) m := fun F0 F σ H Q R q => h F0 F σ H _ R (q.imp (fun a k F' v H' e s r => ⟨a, r, k F' H' e s⟩) fun _ x => x)
theorem evT_T {m : M Bool} (h : Ev G B E md ρ te m) : EvT G B E ρ (tTest te) m := fun F0 F σ H Q R q => h F0 F σ H _ R (q.imp (fun a k F' v H' e s r => ⟨a, r, k F' H' e s⟩) fun _ x => x)
theorem evT_not {t : TT} {m : M Bool} (h : EvT G B E ρ t m) : EvT G B E ρ (tNot t) (m.b fun c => .ok (!c)) := fun F0 F σ H Q R q => h.go R q fun a F' H' e R' q => q F' H' e R'.sF
theorem evT_and {t u : TT} {m n : M Bool} (h : EvT G B E ρ t m) (k : EvT G B E ρ u n) : EvT G B E ρ (tAnd t u) (m.b fun c => if c = true then n else .ok false) := fun F0 F σ H Q R q => h.go R q fun a F' H' e R' q => by
  cases a with
  | true => exact k F0 F' σ H' Q R' (M.P.imp q (fun b f F2 H2 e2 s2 => f F2 H2 (e.trans e2) s2) fun _ x => x)
  | false => exact q F' H' e R'.sF
theorem evT_or {t u : TT} {m n : M Bool} (h : EvT G B E ρ t m) (k : EvT G B E ρ u n) : EvT G B E ρ (tOr t u) (m.b fun c => if c = true then .ok true else n) := fun F0 F σ H Q R q => h.go R q fun a F' H' e R' q => by
  cases a with
  | true => exact q F' H' e R'.sF
  | false => exact k F0 F' σ H' Q R' (M.P.imp q (fun b f F2 H2 e2 s2 => f F2 H2 (e.trans e2) s2) fun _ x => x)
theorem evT_yes : EvT G B E ρ tYes (.ok true) := fun F0 F σ H Q R q => q F H (.refl _ _) R.sF
theorem ev_andV {m n : M Bool} (h : Ev G B E md ρ ta m) (k : Ev G B E md' ρ tb n) : Ev G B E mr ρ (tAndV ta tb) (m.b fun c => if c = true then n else .ok false) := fun F0 F σ H Q R q => h.go R q fun a F' v H' e r R' q => by
  refine ⟨a, r, ?_⟩
  cases a with
  | true => exact k.sc F0 F' σ H' Q R' (M.P.imp q (fun b f F2 v2 H2 e2 s2 => f F2 v2 H2 (e.trans e2) s2) fun _ x => x)
  | false => exact q F' _ H' e R'.sF rfl
theorem ev_orV {m n : M Bool} (h : Ev G B E md ρ ta m) (k : Ev G B E md' ρ tb n) : Ev G B E mr ρ (tOrV ta tb) (m.b fun c => if c = true then .ok true else n) := fun F0 F σ H Q R q => h.go R q fun a F' v H' e r R' q => by
  refine ⟨a, r, ?_⟩
  cases a with
  | true => exact q F' _ H' e R'.sF rfl
  | false => exact k.sc F0 F' σ H' Q R' (M.P.imp q (fun b f F2 v2 H2 e2 s2 => f F2 v2 H2 (e.trans e2) s2) fun _ x => x)
theorem ev_notV {m : M Bool} (h : Ev G B E md ρ ta m) : Ev G B E mr ρ (tNotV ta) (m.b fun c => .ok (!c)) := fun F0 F σ H Q R q => h.go R q fun a F' v H' e r R' q => ⟨a, r, q F' _ H' e R'.sF rfl⟩
theorem ev_if {t : TT} {mc : M Bool} {m n : M α} (hc : EvT G B E ρ t mc) (h : Ev G B E md ρ ta m) (k : Ev G B E md ρ tb n) : Ev G B E md ρ (tIf t ta tb) (mc.b fun c => if c = true then m else n) := fun F0 F σ H Q R q => hc.go R q fun a F' H' e R' q => by
  cases a with
  | true => exact h F0 F' σ H' Q R' (M.P.imp q (fun b f F2 v2 H2 e2 s2 => f F2 v2 H2 (e.trans e2) s2) fun _ x => x)
  | false => exact k F0 F' σ H' Q R' (M.P.imp q (fun b f F2 v2 H2 e2 s2 => f F2 v2 H2 (e.trans e2) s2) fun _ x => x)
theorem ev_chainLeLt {a b c : M Int} (ha : Ev G B E md ρ ta a) (hb : Ev G B E md ρ tb b) (hc : Ev G B E md ρ tc c) : Ev G B E mr ρ (tChain qLe qLt ta tb tc) (a.b fun i => b.b fun j => if decide (i ≤ j) = true then c.b fun k => .ok (decide (j < k)) else .ok false) := fun F0 F σ H Q R q =>
  ha.go R q fun i F1 v H1 e1 r1 R1 q => hb.go R1 q fun j F2 w H2 e2 r2 R2 q => ⟨i, j, r1, r2, _, rfl, by
    by_cases z : i ≤ j
    · rw [decide_eq_true z] at q ⊢
      exact iteT (hc.go R2 q fun k F3 u H3 e3 r3 R3 q => ⟨j, k, r2, r3, q F3 _ H3 ((e1.trans e2).trans e3) R3.sF rfl⟩)
    · rw [decide_eq_false z] at q ⊢
      exact iteF (q F2 _ H2 (e1.trans e2) R2.sF rfl)⟩
theorem ev_chainLtLt {a b c : M Int} (ha : Ev G B E md ρ ta a) (hb : Ev G B E md ρ tb b) (hc : Ev G B E md ρ tc c) : Ev G B E mr ρ (tChain qLt qLt ta tb tc) (a.b fun i => b.b fun j => if decide (i < j) = true then c.b fun k => .ok (decide (j < k)) else .ok false) := fun F0 F σ H Q R q =>
  ha.go R q fun i F1 v H1 e1 r1 R1 q => hb.go R1 q fun j F2 w H2 e2 r2 R2 q => ⟨i, j, r1, r2, _, rfl, by
    by_cases z : i < j
    · rw [decide_eq_true z] at q ⊢
      exact iteT (hc.go R2 q fun k F3 u H3 e3 r3 R3 q => ⟨j, k, r2, r3, q F3 _ H3 ((e1.trans e2).trans e3) R3.sF rfl⟩)
    · rw [decide_eq_false z] at q ⊢
      exact iteF (q F2 _ H2 (e1.trans e2) R2.sF rfl)⟩
end
end Tw

set_option Elab.async false
set_option linter.all false
set_option maxRecDepth 100000
set_option maxHeartbeats 4000000
/-! Lists, tuples, texts, dicts; targets and walks; comprehensions. -/
namespace Tw
open PySem PySem.Spec L2 TL
open PyProof.Rows hiding St

/-! ### places -/
theorem atI_all2 {α β : Type} {R : α → β → Prop} {l : List α} {m : List β} {i : Int} {b : β} (h : All2 R l m) (e : atI m i = some b) : ∃ a, atI l i = some a ∧ R a b := by
  unfold atI at e ⊢
  rw [h.len]
  cases q : ixN m.length i with
  | none => rw [q] at e; cases e
  | some j => rw [q] at e; exact h.get' e
theorem atI_map {α β : Type} (f : α → β) (l : List α) (i : Int) : atI (l.map f) i = (atI l i).map f := by
  unfold atI
  rw [List.length_map]
  cases ixN l.length i with
  | none => rfl
  | some j => exact List.getElem?_map ..
def cutL {α : Type} (xs : List α) (lo hi : Option Int) : List α := (xs.drop (HT.sIx xs.length 0 lo)).take (HT.sIx xs.length xs.length hi - HT.sIx xs.length 0 lo)
theorem cut_all2 {β : Type} {R : V → β → Prop} {l : List V} {m : List β} {lo hi : Option Int} (h : All2 R l m) : All2 R (cutV l lo hi) (cutL m lo hi) := by
  unfold cutV cutL
  rw [h.len]
  exact (h.drop _).take _
section
variable (G : Gb) (B : Hp) (E : XK) {α : Type} [Rp α]
/-- a list whose items are frozen -/
def EvS (ρ : Evr) (te : TE) (m : M (List α)) : Prop := ∀ (F0 F : Hp) (σ : L2.St) (H : Hp) (Q : VK), Rel G B F0 F ρ σ H →
  m.P (fun a => ∀ (F' : Hp) (p : Addr) (vs : List V) (H' : Hp), Ext F H F' H' → Same F' H' → H' p = some (.lst vs) → reps G F' vs a → Q (.ref p) H') (Xc G B E) → te σ H Q
/-- a part of a slice -/
def EvO (ρ : Evr) (to : TO) (m : M (Option Int)) : Prop := ∀ (F0 F : Hp) (σ : L2.St) (H : Hp) (Q : Option Int → Hp → Prop), Rel G B F0 F ρ σ H →
  m.P (fun a => ∀ (F' H' : Hp), Ext F H F' H' → Same F' H' → Q a H') (Xc G B E) → to σ H Q
/-- items, all frozen -/
def EvL (ρ : Evr) (ta : TA) (m : M (List α)) : Prop := ∀ (F0 F : Hp) (σ : L2.St) (H : Hp) (Q : List V → Hp → Prop), Rel G B F0 F ρ σ H →
  m.P (fun a => ∀ (F' : Hp) (vs : List V) (H' : Hp), Ext F H F' H' → Same F' H' → reps G F' vs a → Q vs H') (Xc G B E) → ta σ H Q
end
section
variable {G : Gb} {B : Hp} {E : XK} {ρ : Evr} {α β γ δ : Type} [Rp α] [Rp β] [Rp γ] [Rp δ] {md md' mr : Md} {ta tb tc te : TE}
theorem EvS.go {ω : Type} {m : M (List α)} {k : List α → M ω} {p : ω → Prop} {F0 F : Hp} {σ : L2.St} {H : Hp} {Q : VK} (h : EvS G B E ρ te m) (R : Rel G B F0 F ρ σ H) (q : (m.b k).P p (Xc G B E))
    (f : ∀ (a : List α) (F' : Hp) (d : Addr) (vs : List V) (H' : Hp), Ext F H F' H' → H' d = some (.lst vs) → reps G F' vs a → Rel G B F0 F' ρ σ H' → (k a).P p (Xc G B E) → Q (.ref d) H') : te σ H Q :=
  h F0 F σ H Q R ((M.P_b.mp q).imp (fun a k F' d vs H' e s h1 h2 => f a F' d vs H' e h1 h2 (R.ext e s) k) fun _ x => x)
theorem EvO.go {ω : Type} {t : TO} {m : M (Option Int)} {k : Option Int → M ω} {p : ω → Prop} {F0 F : Hp} {σ : L2.St} {H : Hp} {Q : Option Int → Hp → Prop} (h : EvO G B E ρ t m) (R : Rel G B F0 F ρ σ H) (q : (m.b k).P p (Xc G B E))
    (f : ∀ (a : Option Int) (F' H' : Hp), Ext F H F' H' → Rel G B F0 F' ρ σ H' → (k a).P p (Xc G B E) → Q a H') : t σ H Q :=
  h F0 F σ H Q R ((M.P_b.mp q).imp (fun a k F' H' e s => f a F' H' e (R.ext e s) k) fun _ x => x)
theorem EvL.go {ω : Type} {t : TA} {m : M (List α)} {k : List α → M ω} {p : ω → Prop} {F0 F : Hp} {σ : L2.St} {H : Hp} {Q : List V → Hp → Prop} (h : EvL G B E ρ t m) (R : Rel G B F0 F ρ σ H) (q : (m.b k).P p (Xc G B E))
    (f : ∀ (a : List α) (F' : Hp) (vs : List V) (H' : Hp), Ext F H F' H' → reps G F' vs a → Rel G B F0 F' ρ σ H' → (k a).P p (Xc G B E) → Q vs H') : t σ H Q :=
  h F0 F σ H Q R ((M.P_b.mp q).imp (fun a k F' vs H' e s r => f a F' vs H' e r (R.ext e s) k) fun _ x => x)
theorem es_F {m : M (List α)} (h : Ev G B E .F ρ te m) : EvS G B E ρ te m := fun F0 F σ H Q R q => h F0 F σ H Q R (q.imp (fun a k F' v H' e s r => by
  obtain ⟨p, vs, rfl, h1, h2⟩ := r
  exact k F' p vs H' e s (s _ _ h1) h2) fun _ x => x)
theorem es_N {m : M (List α)} (h : EvN G B E ρ te m) : EvS G B E ρ te m := fun F0 F σ H Q R q => h F0 F σ H Q R (q.imp (fun a k F' p o H' e s h1 h2 h3 h4 => by
  obtain ⟨vs, rfl, h4⟩ := h4
  exact k F' p vs H' e s h3 h4) fun _ x => x)
theorem es_ow {i : Nat} {a : List α} (h : ρ[i]? = some (some (.ow a))) : EvS G B E ρ (tVar i) (.ok a) := fun F0 F σ H Q R q => by
  obtain ⟨x, e, p, o, rfl, _, _, h4, vs, rfl, h5⟩ := R.at h
  exact ⟨_, e, q F p vs H (.refl _ _) R.sF h4 h5⟩
theorem es_sc [Sc α] {m : M (List α)} (h : Ev G B E md ρ te m) : EvS G B E ρ te m := fun F0 F σ H Q R q => h.toH F0 F σ H Q R (q.imp (fun a k F' v H' e s r => by
  obtain ⟨p, vs, rfl, h1, h2⟩ := r
  exact k F' p vs H' e s h1 (h2.imp fun _ _ z => (Sc.iff _ _ _ _).mpr ((Sc.iff _ _ _ _).mp z))) fun _ x => x)

/-! ### in -/
theorem in_all2 [DecidableEq α] [Sc α] [Sq α] {H : Hp} (a : α) : ∀ {vs : List V} {as : List α}, reps G H vs as → vs.all flatV = true ∧ inV (Sc.enc a) vs = decide (a ∈ as)
  | _, _, .nil => ⟨rfl, by rw [decide_eq_false (by simp)]; rfl⟩
  | _, _, .cons (b := b) (m := m) h t => by
    obtain ⟨h1, h2⟩ := in_all2 a t
    rw [(Sc.iff _ _ _ _).mp h]
    refine ⟨?_, ?_⟩
    · rw [List.all_cons, Sq.fl, h1]; rfl
    · unfold inV at h2 ⊢
      rw [List.any_cons, h2, Sq.eqv]
      by_cases e : b = a
      · subst e; simp
      · by_cases e2 : a ∈ m
        · simp [e2]
        · have : ¬ a ∈ b :: m := by
            intro w
            rcases List.mem_cons.mp w with w | w
            · exact e w.symm
            · exact e2 w
          simp [e, e2, this]
theorem ev_in [DecidableEq α] [Sc α] [Sq α] {ma : M α} {mb : M (List α)} (ha : Ev G B E md ρ ta ma) (hb : Ev G B E md' ρ tb mb) : Ev G B E mr ρ (tOp (rIn G.K false) ta tb) (ma.b fun a => mb.b fun l => .ok (decide (a ∈ l))) := fun F0 F σ H Q R q =>
  ha.go R q fun a F1 v H1 e1 r1 R1 q => hb.toH.go R1 q fun l F2 w H2 e2 r2 R2 q => by
    obtain ⟨p, vs, rfl, h1, h2⟩ := r2
    rw [(Sc.iff _ _ _ _).mp r1]
    obtain ⟨f1, f2⟩ := in_all2 a h2
    refine ⟨p, vs, rfl, .inl (.of h1), Sq.fl a, f1, ?_⟩
    show Q (.bl (inV _ vs)) H2
    rw [f2]
    exact q F2 _ H2 (e1.trans e2) R2.sF rfl
theorem ev_notin [DecidableEq α] [Sc α] [Sq α] {ma : M α} {mb : M (List α)} (ha : Ev G B E md ρ ta ma) (hb : Ev G B E md' ρ tb mb) : Ev G B E mr ρ (tOp (rIn G.K true) ta tb) (ma.b fun a => mb.b fun l => .ok (!decide (a ∈ l))) := fun F0 F σ H Q R q =>
  ha.go R q fun a F1 v H1 e1 r1 R1 q => hb.toH.go R1 q fun l F2 w H2 e2 r2 R2 q => by
    obtain ⟨p, vs, rfl, h1, h2⟩ := r2
    rw [(Sc.iff _ _ _ _).mp r1]
    obtain ⟨f1, f2⟩ := in_all2 a h2
    refine ⟨p, vs, rfl, .inl (.of h1), Sq.fl a, f1, ?_⟩
    show Q (.bl (!inV _ vs)) H2
    rw [f2]
    exact q F2 _ H2 (e1.trans e2) R2.sF rfl
theorem any_dat [DecidableEq α] [Dd α] (a : α) (l : List α) : ((l.map Dd.dat).any fun z => PyData.eqv z (Dd.dat a)) = decide (a ∈ l) := by
  rw [List.any_map]
  by_cases h : a ∈ l
  · rw [decide_eq_true h, List.any_eq_true]
    exact ⟨a, h, by show PyData.eqv (Dd.dat a) (Dd.dat a) = true; rw [Dd.eq]; exact decide_eq_true rfl⟩
  · rw [decide_eq_false h, List.any_eq_false]
    intro u hu
    show ¬ PyData.eqv (Dd.dat u) (Dd.dat a) = true
    rw [Dd.eq, decide_eq_true_iff]
    intro e
    rw [e] at hu
    exact h hu
theorem ev_inD [DecidableEq α] [Dd α] {ma : M α} {mb : M (List α)} (hn : Dd.n (List α) ≤ 64) (ha : Ev G B E md ρ ta ma) (hb : Ev G B E md' ρ tb mb) : Ev G B E mr ρ (tOp (rInD G.K) ta tb) (ma.b fun a => mb.b fun l => .chk (Dd.Ok a ∧ Dd.Ok l) (.ok (decide (a ∈ l)))) := fun F0 F σ H Q R q =>
  ha.toH.go R q fun a F1 v H1 e1 r1 R1 q => hb.toH.go R1 q fun l F2 w H2 e2 r2 R2 q => by
    obtain ⟨c, q⟩ := M.P_chk.mp q
    refine ⟨_, l.map Dd.dat, Dd.dp (Rp.mono e2.h r1), Dd.dp r2, Dd.shaped c.1 (Nat.le_trans (Nat.le_succ _) hn), Dd.shaped c.2 hn, ?_⟩
    rw [any_dat]
    exact q F2 _ H2 (e1.trans e2) R2.sF rfl
theorem ev_notinD [DecidableEq α] [Dd α] {ma : M α} {mb : M (List α)} (hn : Dd.n (List α) ≤ 64) (ha : Ev G B E md ρ ta ma) (hb : Ev G B E md' ρ tb mb) : Ev G B E mr ρ (tOp (rNotInD G.K) ta tb) (ma.b fun a => mb.b fun l => .chk (Dd.Ok a ∧ Dd.Ok l) (.ok (!decide (a ∈ l)))) := fun F0 F σ H Q R q =>
  ha.toH.go R q fun a F1 v H1 e1 r1 R1 q => hb.toH.go R1 q fun l F2 w H2 e2 r2 R2 q => by
    obtain ⟨c, q⟩ := M.P_chk.mp q
    refine ⟨_, l.map Dd.dat, Dd.dp (Rp.mono e2.h r1), Dd.dp r2, Dd.shaped c.1 (Nat.le_trans (Nat.le_succ _) hn), Dd.shaped c.2 hn, ?_⟩
    rw [any_dat]
    exact q F2 _ H2 (e1.trans e2) R2.sF rfl
theorem ev_inSg {ma : M Sgn} {mb : M Str} (ha : Ev G B E md ρ ta ma) (hb : Ev G B E md' ρ tb mb) : Ev G B E mr ρ (tOp qInSign ta tb) (ma.b fun a => mb.b fun z => .ok (decide (a.c ∈ z.cps.toList))) := fun F0 F σ H Q R q =>
  ha.go R q fun a F1 v H1 e1 r1 R1 q => hb.go R1 q fun z F2 w H2 e2 r2 R2 q => ⟨a.c, z, r1, r2, q F2 _ H2 (e1.trans e2) R2.sF rfl⟩
theorem ev_notinSg {ma : M Sgn} {mb : M Str} (ha : Ev G B E md ρ ta ma) (hb : Ev G B E md' ρ tb mb) : Ev G B E mr ρ (tOp qNotInSign ta tb) (ma.b fun a => mb.b fun z => .ok (!decide (a.c ∈ z.cps.toList))) := fun F0 F σ H Q R q =>
  ha.go R q fun a F1 v H1 e1 r1 R1 q => hb.go R1 q fun z F2 w H2 e2 r2 R2 q => ⟨a.c, z, r1, r2, q F2 _ H2 (e1.trans e2) R2.sF rfl⟩

/-! ### x[i] -/
theorem ev_ix {ma : M (List α)} {mi : M Int} (ha : Ev G B E md ρ ta ma) (hi : Ev G B E md' ρ tb mi) : Ev G B E md ρ (tOp (rIxL G.K) ta tb) (ma.b fun l => mi.b fun i => M.get (atI l i)) := fun F0 F σ H Q R q =>
  ha.go R q fun l F1 v H1 e1 r1 R1 q => hi.go R1 q fun i F2 w H2 e2 r2 R2 q => by
    obtain ⟨x, ex, q⟩ := M.P_get.mp q
    obtain ⟨p, vs, rfl, h1, h2⟩ := Rp.mono (hpM_ext e2) r1
    obtain ⟨u, eu, ru⟩ := atI_all2 h2 ex
    exact ⟨p, vs, i, u, rfl, r2, .of (hpM_H R2.sB R2.sF _ _ h1), eu, q F2 u H2 (e1.trans e2) R2.sF ru⟩
theorem ev_ixS {ma : M (List α)} {mi : M Int} (ha : EvS G B E ρ ta ma) (hi : Ev G B E md' ρ tb mi) : Ev G B E .F ρ (tOp (rIxL G.K) ta tb) (ma.b fun l => mi.b fun i => M.get (atI l i)) := fun F0 F σ H Q R q =>
  ha.go R q fun l F1 p vs H1 e1 h1 h2 R1 q => hi.go R1 q fun i F2 w H2 e2 r2 R2 q => by
    obtain ⟨x, ex, q⟩ := M.P_get.mp q
    obtain ⟨u, eu, ru⟩ := atI_all2 (reps_mono e2.f h2) ex
    exact ⟨p, vs, i, u, rfl, r2, .of (e2.h _ _ h1), eu, q F2 u H2 (e1.trans e2) R2.sF ru⟩
theorem ev_ixTp {ma : M (Tp α)} {mi : M Int} (ha : Ev G B E md ρ ta ma) (hi : Ev G B E md' ρ tb mi) : Ev G B E md ρ (tOp (rIxT G.K) ta tb) (ma.b fun l => mi.b fun i => M.get (atI l.l i)) := fun F0 F σ H Q R q =>
  ha.go R q fun l F1 v H1 e1 r1 R1 q => hi.go R1 q fun i F2 w H2 e2 r2 R2 q => by
    obtain ⟨x, ex, q⟩ := M.P_get.mp q
    obtain ⟨p, vs, rfl, h1, h2⟩ := Rp.mono (hpM_ext e2) r1
    obtain ⟨u, eu, ru⟩ := atI_all2 h2 ex
    exact ⟨p, vs, i, u, rfl, r2, .of (hpM_H R2.sB R2.sF _ _ h1), eu, q F2 u H2 (e1.trans e2) R2.sF ru⟩
theorem ev_ixScr {ma : M Scr} {mi : M Int} (ha : Ev G B E md ρ ta ma) (hi : Ev G B E md' ρ tb mi) : Ev G B E mr ρ (tOp (rIxL G.K) ta tb) (ma.b fun l => mi.b fun i => M.get (atI l.l i)) := fun F0 F σ H Q R q =>
  ha.toH.go R q fun l F1 v H1 e1 r1 R1 q => hi.go R1 q fun i F2 w H2 e2 r2 R2 q => by
    obtain ⟨x, ex, q⟩ := M.P_get.mp q
    obtain ⟨p, rfl, h1⟩ := Rp.mono e2.h r1
    exact ⟨p, _, i, .int x, rfl, r2, h1, by rw [atI_map, ex]; rfl, q F2 _ H2 (e1.trans e2) R2.sF rfl⟩
theorem ev_ixStr {ma : M Str} {mi : M Int} (ha : Ev G B E md ρ ta ma) (hi : Ev G B E md' ρ tb mi) : Ev G B E mr ρ (tOp rIxS ta tb) (ma.b fun z => mi.b fun i => .chk (z.length ≤ sizeLine) ((M.get (atI z.cps.toList i)).b fun c => .ok (⟨#[c]⟩ : Str))) := fun F0 F σ H Q R q =>
  ha.go R q fun z F1 v H1 e1 r1 R1 q => hi.go R1 q fun i F2 w H2 e2 r2 R2 q => by
    obtain ⟨hz, q⟩ := M.P_chk.mp q
    obtain ⟨c, ec, q⟩ := M.P_get.mp (M.P_b.mp q)
    exact ⟨z, i, c, r1, r2, hz, ec, q F2 _ H2 (e1.trans e2) R2.sF rfl⟩
theorem ev_p1 {m : M (α × β)} (h : Ev G B E md ρ ta m) : Ev G B E md ρ (tOp (rIxT G.K) ta (tC (.int 0))) (m.b fun a => .ok a.1) := fun F0 F σ H Q R q =>
  h.go R q fun a F1 v H1 e1 r1 R1 q => by
    obtain ⟨p, x, y, rfl, h1, h2, h3⟩ := r1
    exact ⟨p, _, 0, x, rfl, rfl, .of (hpM_H R1.sB R1.sF _ _ h1), rfl, q F1 _ H1 e1 R1.sF h2⟩
theorem ev_p2 {m : M (α × β)} (h : Ev G B E md ρ ta m) : Ev G B E md ρ (tOp (rIxT G.K) ta (tC (.int 1))) (m.b fun a => .ok a.2) := fun F0 F σ H Q R q =>
  h.go R q fun a F1 v H1 e1 r1 R1 q => by
    obtain ⟨p, x, y, rfl, h1, h2, h3⟩ := r1
    exact ⟨p, _, 1, y, rfl, rfl, .of (hpM_H R1.sB R1.sF _ _ h1), rfl, q F1 _ H1 e1 R1.sF h3⟩
theorem ev_t1 {m : M (T3 α β γ)} (h : Ev G B E md ρ ta m) : Ev G B E md ρ (tOp (rIxT G.K) ta (tC (.int 0))) (m.b fun a => .ok a.a) := fun F0 F σ H Q R q =>
  h.go R q fun a F1 v H1 e1 r1 R1 q => by
    obtain ⟨p, x, y, z, rfl, h1, h2, h3, h4⟩ := r1
    exact ⟨p, _, 0, x, rfl, rfl, .of (hpM_H R1.sB R1.sF _ _ h1), rfl, q F1 _ H1 e1 R1.sF h2⟩
theorem ev_t2 {m : M (T3 α β γ)} (h : Ev G B E md ρ ta m) : Ev G B E md ρ (tOp (rIxT G.K) ta (tC (.int 1))) (m.b fun a => .ok a.b) := fun F0 F σ H Q R q =>
  h.go R q fun a F1 v H1 e1 r1 R1 q => by
    obtain ⟨p, x, y, z, rfl, h1, h2, h3, h4⟩ := r1
    exact ⟨p, _, 1, y, rfl, rfl, .of (hpM_H R1.sB R1.sF _ _ h1), rfl, q F1 _ H1 e1 R1.sF h3⟩
theorem ev_t3 {m : M (T3 α β γ)} (h : Ev G B E md ρ ta m) : Ev G B E md ρ (tOp (rIxT G.K) ta (tC (.int 2))) (m.b fun a => .ok a.c) := fun F0 F σ H Q R q =>
  h.go R q fun a F1 v H1 e1 r1 R1 q => by
    obtain ⟨p, x, y, z, rfl, h1, h2, h3, h4⟩ := r1
    exact ⟨p, _, 2, z, rfl, rfl, .of (hpM_H R1.sB R1.sF _ _ h1), rfl, q F1 _ H1 e1 R1.sF h4⟩

/-! ### dicts read -/
section
variable {κ : Type} [Rp κ] [DecidableEq κ]
theorem valV_k [Ky κ] {H : Hp} {k : κ} : ∀ {kvs : List (Key × V)} {l : List (κ × α)}, repk G H kvs l → (∀ a, dget l k = some a → ∃ v, valV kvs (Ky.key k) = some v ∧ rep G H v a) ∧ (dget l k = none → valV kvs (Ky.key k) = none)
  | _, _, .nil => ⟨fun a e => (nomatch e), fun _ => rfl⟩
  | _, _, .cons (a := p) (b := x) (m := m) h t => by
    obtain ⟨f1, f2⟩ := valV_k (k := k) t
    by_cases e : x.1 = k
    · have e2 : p.1 = Ky.key k := by rw [h.1, e]
      have e3 : dget (x :: m) k = some x.2 := by simp [dget, List.find?_cons, e]
      rw [valV_pos e2, e3]
      exact ⟨fun a z => ⟨_, rfl, by cases z; exact h.2⟩, fun z => nomatch z⟩
    · have e2 : ¬ p.1 = Ky.key k := fun w => e (Ky.inj (h.1.symm.trans w))
      have e3 : dget (x :: m) k = dget m k := by simp [dget, List.find?_cons, e]
      rw [valV_neg e2, e3]
      exact ⟨f1, f2⟩
theorem valV_t [Kt κ] {H : Hp} {k : κ} : ∀ {kvs : List (List Key × V)} {l : List (κ × α)}, rept G H kvs l → (∀ a, dget l k = some a → ∃ v, valV kvs (Kt.key k) = some v ∧ rep G H v a) ∧ (dget l k = none → valV kvs (Kt.key k) = none)
  | _, _, .nil => ⟨fun a e => (nomatch e), fun _ => rfl⟩
  | _, _, .cons (a := p) (b := x) (m := m) h t => by
    obtain ⟨f1, f2⟩ := valV_t (k := k) t
    by_cases e : x.1 = k
    · have e2 : p.1 = Kt.key k := by rw [h.1, e]
      have e3 : dget (x :: m) k = some x.2 := by simp [dget, List.find?_cons, e]
      rw [valV_pos e2, e3]
      exact ⟨fun a z => ⟨_, rfl, by cases z; exact h.2⟩, fun z => nomatch z⟩
    · have e2 : ¬ p.1 = Kt.key k := fun w => e (Kt.inj (h.1.symm.trans w))
      have e3 : dget (x :: m) k = dget m k := by simp [dget, List.find?_cons, e]
      rw [valV_neg e2, e3]
      exact ⟨f1, f2⟩
theorem isSome_k [Ky κ] {H : Hp} {k : κ} {kvs : List (Key × V)} {l : List (κ × α)} (h : repk G H kvs l) : (valV kvs (Ky.key k)).isSome = (dget l k).isSome := by
  obtain ⟨f1, f2⟩ := valV_k (k := k) h
  cases e : dget l k with
  | none => rw [f2 e]; rfl
  | some a => obtain ⟨v, ev, _⟩ := f1 a e; rw [ev]; rfl
theorem isSome_t [Kt κ] {H : Hp} {k : κ} {kvs : List (List Key × V)} {l : List (κ × α)} (h : rept G H kvs l) : (valV kvs (Kt.key k)).isSome = (dget l k).isSome := by
  obtain ⟨f1, f2⟩ := valV_t (k := k) h
  cases e : dget l k with
  | none => rw [f2 e]; rfl
  | some a => obtain ⟨v, ev, _⟩ := f1 a e; rw [ev]; rfl
section
variable [Ky κ] {mk : M κ} {mx : M (Dk κ α)}
theorem ev_dinK (hk : Ev G B E md ρ ta mk) (hd : Ev G B E md' ρ tb mx) : Ev G B E mr ρ (tDIn ta tb) (mk.b fun k => mx.b fun d => .ok (dget d.l k).isSome) := fun F0 F σ H Q R q =>
  hk.go R q fun k F1 v H1 e1 r1 R1 q => hd.toH.go R1 q fun d F2 w H2 e2 r2 R2 q => by
    obtain ⟨p, kvs, rfl, h1, h2⟩ := r2
    refine ⟨p, _, rfl, .inl ⟨kvs, _, h1, (Ky.iff _ _ _ _).mp r1, rfl⟩, ?_⟩
    rw [isSome_k h2]
    exact q F2 _ H2 (e1.trans e2) R2.sF rfl
theorem ev_dnotinK (hk : Ev G B E md ρ ta mk) (hd : Ev G B E md' ρ tb mx) : Ev G B E mr ρ (tDNotIn ta tb) (mk.b fun k => mx.b fun d => .ok (!(dget d.l k).isSome)) := fun F0 F σ H Q R q =>
  hk.go R q fun k F1 v H1 e1 r1 R1 q => hd.toH.go R1 q fun d F2 w H2 e2 r2 R2 q => by
    obtain ⟨p, kvs, rfl, h1, h2⟩ := r2
    refine ⟨p, _, rfl, .inl ⟨kvs, _, h1, (Ky.iff _ _ _ _).mp r1, rfl⟩, ?_⟩
    rw [isSome_k h2]
    exact q F2 _ H2 (e1.trans e2) R2.sF rfl
theorem ev_dgetK (hd : Ev G B E md ρ ta mx) (hk : Ev G B E md' ρ tb mk) : Ev G B E md ρ (tDGet ta tb) (mx.b fun d => mk.b fun k => M.get (dget d.l k)) := fun F0 F σ H Q R q =>
  hd.go R q fun d F1 v H1 e1 r1 R1 q => hk.go R1 q fun k F2 w H2 e2 r2 R2 q => by
    obtain ⟨a, ea, q⟩ := M.P_get.mp q
    obtain ⟨p, kvs, rfl, h1, h2⟩ := Rp.mono (hpM_ext e2) r1
    obtain ⟨u, eu, ru⟩ := (valV_k (k := k) h2).1 a ea
    exact ⟨p, u, rfl, .inl ⟨kvs, _, rd_mono (hpM_H R2.sB R2.sF) h1, (Ky.iff _ _ _ _).mp r2, eu.symm⟩, q F2 u H2 (e1.trans e2) R2.sF ru⟩
/-- d[k] of an own dict: what it holds is frozen -/
theorem ev_dgetKo {i : Nat} {d : Dk κ α} (h : ρ[i]? = some (some (.ow d))) (hk : Ev G B E md' ρ tb mk) : Ev G B E .F ρ (tDGet (tVar i) tb) (mk.b fun k => M.get (dget d.l k)) := fun F0 F σ H Q R q => by
  obtain ⟨x, e, p, o, rfl, _, _, h4, kvs, rfl, h5⟩ := R.at h
  exact ⟨_, e, hk.go R q fun k F2 w H2 e2 r2 R2 q => by
    obtain ⟨a, ea, q⟩ := M.P_get.mp q
    obtain ⟨u, eu, ru⟩ := (valV_k (k := k) (repk_mono e2.f h5)).1 a ea
    exact ⟨p, u, rfl, .inl ⟨kvs, _, .inl (e2.h _ _ h4), (Ky.iff _ _ _ _).mp r2, eu.symm⟩, q F2 u H2 e2 R2.sF ru⟩⟩
theorem ev_dgetKl {i : Nat} {p : Addr} {ob : Obj} {u : HO} {d : Dk κ α} (h : ρ[i]? = some (some (.lk p ob u d))) (hk : Ev G B E md' ρ tb mk) : Ev G B E .F ρ (tDGet (tVar i) tb) (mk.b fun k => M.get (dget d.l k)) := fun F0 F σ H Q R q => by
  obtain ⟨x, e, rfl, _, _, h4, kvs, rfl, h5⟩ := R.at h
  exact ⟨_, e, hk.go R q fun k F2 w H2 e2 r2 R2 q => by
    obtain ⟨a, ea, q⟩ := M.P_get.mp q
    obtain ⟨u, eu, ru⟩ := (valV_k (k := k) (repk_mono e2.f h5)).1 a ea
    exact ⟨p, u, rfl, .inl ⟨kvs, _, .inr ⟨ob, e2.h _ _ h4⟩, (Ky.iff _ _ _ _).mp r2, eu.symm⟩, q F2 u H2 e2 R2.sF ru⟩⟩
theorem ev_dget2K [Sc α] {mz : M α} (hd : Ev G B E md ρ ta mx) (hk : Ev G B E md' ρ tb mk) (hz : Ev G B E md ρ tc mz) : Ev G B E mr ρ (tDGet2 ta tb tc) (mx.b fun d => mk.b fun k => mz.b fun z => .ok ((dget d.l k).getD z)) := fun F0 F σ H Q R q =>
  hd.toH.go R q fun d F1 v H1 e1 r1 R1 q => by
    obtain ⟨p, kvs, rfl, h1, h2⟩ := r1
    exact ⟨p, rfl, .inl ⟨kvs, h1⟩, hk.go R1 q fun k F2 w H2 e2 r2 R2 q => hz.go R2 q fun z F3 u H3 e3 r3 R3 q => by
      have s := e2.h.trans e3.h
      refine ⟨_, .inl ⟨kvs, _, rd_mono s h1, (Ky.iff _ _ _ _).mp r2, rfl⟩, ?_⟩
      have f := valV_k (k := k) (repk_mono s h2)
      refine q F3 _ H3 ((e1.trans e2).trans e3) R3.sF ?_
      cases e : dget d.l k with
      | none => rw [f.2 e]; exact (Sc.iff _ _ _ _).mpr ((Sc.iff _ _ _ _).mp r3)
      | some a => obtain ⟨x, ex, rx⟩ := f.1 a e; rw [ex]; exact (Sc.iff _ _ _ _).mpr ((Sc.iff _ _ _ _).mp rx)⟩
end
section
variable [Kt κ] {mk : M κ} {mx : M (Dt κ α)}
theorem ev_dinT (hk : Ev G B E md ρ ta mk) (hd : Ev G B E md' ρ tb mx) : Ev G B E mr ρ (tDIn ta tb) (mk.b fun k => mx.b fun d => .ok (dget d.l k).isSome) := fun F0 F σ H Q R q =>
  hk.toH.go R q fun k F1 v H1 e1 r1 R1 q => hd.toH.go R1 q fun d F2 w H2 e2 r2 R2 q => by
    obtain ⟨p, kvs, rfl, h1, h2⟩ := r2
    obtain ⟨b, rfl, hb⟩ := (Kt.iff _ _ _ _).mp r1
    refine ⟨p, _, rfl, .inr ⟨kvs, _, b, h1, rfl, e2.h _ _ hb, rfl⟩, ?_⟩
    rw [isSome_t h2]
    exact q F2 _ H2 (e1.trans e2) R2.sF rfl
theorem ev_dnotinT (hk : Ev G B E md ρ ta mk) (hd : Ev G B E md' ρ tb mx) : Ev G B E mr ρ (tDNotIn ta tb) (mk.b fun k => mx.b fun d => .ok (!(dget d.l k).isSome)) := fun F0 F σ H Q R q =>
  hk.toH.go R q fun k F1 v H1 e1 r1 R1 q => hd.toH.go R1 q fun d F2 w H2 e2 r2 R2 q => by
    obtain ⟨p, kvs, rfl, h1, h2⟩ := r2
    obtain ⟨b, rfl, hb⟩ := (Kt.iff _ _ _ _).mp r1
    refine ⟨p, _, rfl, .inr ⟨kvs, _, b, h1, rfl, e2.h _ _ hb, rfl⟩, ?_⟩
    rw [isSome_t h2]
    exact q F2 _ H2 (e1.trans e2) R2.sF rfl
theorem ev_dgetT (hd : Ev G B E md ρ ta mx) (hk : Ev G B E md' ρ tb mk) : Ev G B E md ρ (tDGet ta tb) (mx.b fun d => mk.b fun k => M.get (dget d.l k)) := fun F0 F σ H Q R q =>
  hd.go R q fun d F1 v H1 e1 r1 R1 q => hk.toH.go R1 q fun k F2 w H2 e2 r2 R2 q => by
    obtain ⟨a, ea, q⟩ := M.P_get.mp q
    obtain ⟨p, kvs, rfl, h1, h2⟩ := Rp.mono (hpM_ext e2) r1
    obtain ⟨b, rfl, hb⟩ := (Kt.iff _ _ _ _).mp r2
    obtain ⟨u, eu, ru⟩ := (valV_t (k := k) h2).1 a ea
    exact ⟨p, u, rfl, .inr ⟨kvs, _, b, rd_mono (hpM_H R2.sB R2.sF) h1, rfl, hb, eu.symm⟩, q F2 u H2 (e1.trans e2) R2.sF ru⟩
end
end

/-! ### parts, lengths -/
theorem eo_none : EvO G B E ρ tNoPart (.ok none) := fun F0 F σ H Q R q => q F H (.refl _ _) R.sF
theorem eo_some {m : M Int} (h : Ev G B E md ρ te m) : EvO G B E ρ (tPart te) (m.b fun i => .ok (some i)) := fun F0 F σ H Q R q => h.go R q fun i F1 v H1 e1 r1 R1 q => ⟨i, r1, q F1 H1 e1 R1.sF⟩
theorem en_slice {m : M (List α)} {l h : M (Option Int)} {tl th : TO} (ha : EvS G B E ρ te m) (hl : EvO G B E ρ tl l) (hh : EvO G B E ρ th h) : EvN G B E ρ (tSl (rSlL G.K) te tl th) (m.b fun xs => l.b fun i => h.b fun j => .ok (cutL xs i j)) := fun F0 F σ H Q R q =>
  ha.go R q fun xs F1 p vs H1 e1 h1 h2 R1 q => hl.go R1 q fun i F2 H2 e2 R2 q => hh.go R2 q fun j F3 H3 e3 R3 q => by
    have s := e2.h.trans e3.h
    refine ⟨p, vs, rfl, .of (s _ _ h1), fun d nd => ?_⟩
    have e := (e1.trans e2).trans e3
    exact q F3 d _ _ (e.trans (.new nd)) (R3.sF.trans (same_upd nd)) (e.h.free nd) (R3.sF.free nd) upd_same ⟨_, rfl, cut_all2 (reps_mono (e2.f.trans e3.f) h2)⟩
theorem ev_sliceStr {m : M Str} {l h : M (Option Int)} {tl th : TO} (ha : Ev G B E md ρ te m) (hl : EvO G B E ρ tl l) (hh : EvO G B E ρ th h) : Ev G B E mr ρ (tSl rSlS te tl th) (m.b fun z => l.b fun i => h.b fun j => .chk (z.length ≤ sizeLine) (.ok (cutS z i j))) := fun F0 F σ H Q R q =>
  ha.go R q fun z F1 v H1 e1 r1 R1 q => hl.go R1 q fun i F2 H2 e2 R2 q => hh.go R2 q fun j F3 H3 e3 R3 q => by
    obtain ⟨c, q⟩ := M.P_chk.mp q
    exact ⟨z, r1, c, q F3 _ H3 ((e1.trans e2).trans e3) R3.sF rfl⟩
theorem ev_len {m : M (List α)} (ha : Ev G B E md ρ te m) : Ev G B E mr ρ (tCB (qLenQ G.K) (tCons te tNil)) (m.b fun xs => .ok ((xs.length : Nat) : Int)) := fun F0 F σ H Q R q =>
  ha.toH.go R q fun xs F1 v H1 e1 r1 R1 q => by
    obtain ⟨p, vs, rfl, h1, h2⟩ := r1
    exact ⟨p, vs, rfl, .inl (.of h1), q F1 _ H1 e1 R1.sF (by rw [h2.len]; rfl)⟩
theorem ev_lenScr {m : M Scr} (ha : Ev G B E md ρ te m) : Ev G B E mr ρ (tCB (qLenQ G.K) (tCons te tNil)) (m.b fun xs => .ok ((xs.l.length : Nat) : Int)) := fun F0 F σ H Q R q =>
  ha.toH.go R q fun xs F1 v H1 e1 r1 R1 q => by
    obtain ⟨p, rfl, h1⟩ := r1
    exact ⟨p, _, rfl, .inl h1, q F1 _ H1 e1 R1.sF (by rw [List.length_map]; rfl)⟩
theorem ev_lenPair {m : M (α × β)} (ha : Ev G B E md ρ te m) : Ev G B E mr ρ (tCB (qLenQ G.K) (tCons te tNil)) (m.b fun _ => .ok (2 : Int)) := fun F0 F σ H Q R q =>
  ha.toH.go R q fun xs F1 v H1 e1 r1 R1 q => by
    obtain ⟨p, x, y, rfl, h1, _⟩ := r1
    exact ⟨p, _, rfl, .inr (.of h1), q F1 _ H1 e1 R1.sF rfl⟩
theorem ev_lenStr {m : M Str} (ha : Ev G B E md ρ te m) : Ev G B E mr ρ (tCB qLenS (tCons te tNil)) (m.b fun z => .chk (z.length ≤ sizeLine) (.ok ((z.length : Nat) : Int))) := fun F0 F σ H Q R q =>
  ha.go R q fun z F1 v H1 e1 r1 R1 q => by
    obtain ⟨c, q⟩ := M.P_chk.mp q
    exact ⟨z, by rw [show v = .str z from r1], c, q F1 _ H1 e1 R1.sF rfl⟩
theorem ev_lenDN {κ : Type} [Rp κ] [DecidableEq κ] [Ky κ] {m : M (Dk κ α)} (ha : EvN G B E ρ te m) : Ev G B E mr ρ (tCB qLenD (tCons te tNil)) (m.b fun d => .ok ((d.l.length : Nat) : Int)) := fun F0 F σ H Q R q =>
  ha.go R q fun d F1 p o H1 e1 h1 h2 h3 h4 R1 q => by
    obtain ⟨kvs, rfl, h4⟩ := h4
    exact ⟨p, kvs, rfl, h3, q F1 _ H1 e1 R1.sF (by rw [h4.len]; rfl)⟩
theorem ev_lenDo {κ : Type} [Rp κ] [DecidableEq κ] [Ky κ] {i : Nat} {d : Dk κ α} (h : ρ[i]? = some (some (.ow d))) : Ev G B E mr ρ (tCB qLenD (tCons (tVar i) tNil)) (.ok ((d.l.length : Nat) : Int)) := fun F0 F σ H Q R q => by
  obtain ⟨x, e, p, o, rfl, _, _, h4, kvs, rfl, h5⟩ := R.at h
  exact ⟨_, e, p, kvs, rfl, h4, q F _ H (.refl _ _) R.sF (by rw [h5.len]; rfl)⟩
/-! the type by the data -/
class Tyn (α : Type) [Rp α] where
  ty : String
  h : ∀ {G : Gb} {H : Hp} {v : V} {a : α}, rep G H v a → TyX G.K H v (.type ty)
instance : Tyn Int := ⟨"int", fun h => by rw [show _ = _ from h]; exact .base (.int _)⟩
instance : Tyn Bool := ⟨"bool", fun h => by rw [show _ = _ from h]; exact .base (.bl _)⟩
instance : Tyn Str := ⟨"str", fun h => by rw [show _ = _ from h]; exact .base (.str _)⟩
instance : Tyn Unit := ⟨"NoneType", fun h => by rw [show _ = _ from h]; exact .base .non⟩
instance : Tyn (List α) := ⟨"list", fun ⟨p, vs, e, h, _⟩ => by rw [e]; exact .base (.lst h)⟩
instance : Tyn (α × β) := ⟨"tuple", fun ⟨p, v, w, e, h, _⟩ => by rw [e]; exact .base (.tup h)⟩
instance : Tyn (T3 α β γ) := ⟨"tuple", fun ⟨p, v, w, u, e, h, _⟩ => by rw [e]; exact .base (.tup h)⟩
theorem ev_isi [Tyn α] {m : M α} {c : String} {k : Bool} (hk : ∀ K, PySem.W.kitOne K (.type (Tyn.ty α)) (.type c) = some k) (ha : Ev G B E md ρ te m) : Ev G B E mr ρ (tCB (rIsi G.K) (tCons te (tCons (tC (.ty c)) tNil))) (m.b fun _ => .ok k) := fun F0 F σ H Q R q =>
  ha.toH.go R q fun a F1 v H1 e1 r1 R1 q => ⟨v, .ty c, _, _, k, rfl, .ty c, Tyn.h r1, hk _, q F1 _ H1 e1 R1.sF rfl⟩

/-! ### displays -/
theorem el_nil : EvL G B E ρ tNil (.ok ([] : List α)) := fun F0 F σ H Q R q => q F [] H (.refl _ _) R.sF .nil
theorem el_cons {m : M α} {n : M (List α)} {tr : TA} (h : Ev G B E .F ρ te m) (k : EvL G B E ρ tr n) : EvL G B E ρ (tCons te tr) (m.b fun a => n.b fun l => .ok (a :: l)) := fun F0 F σ H Q R q =>
  h.go R q fun a F1 v H1 e1 r1 R1 q => k.go R1 q fun l F2 vs H2 e2 r2 R2 q => q F2 _ H2 (e1.trans e2) R2.sF (.cons (Rp.mono e2.f r1) r2)
theorem en_lst {m : M (List α)} {t : TA} (h : EvL G B E ρ t m) : EvN G B E ρ (tLst t) (m.b fun l => .chk (l.length ≤ sizeLine) (.ok l)) := fun F0 F σ H Q R q =>
  h.go R q fun l F1 vs H1 e1 r1 R1 q => by
    obtain ⟨c, q⟩ := M.P_chk.mp q
    refine ⟨by rw [r1.len]; exact c, fun p np => ?_⟩
    exact q F1 p _ _ (e1.trans (.new np)) (R1.sF.trans (same_upd np)) (e1.h.free np) (R1.sF.free np) upd_same ⟨vs, rfl, r1⟩
theorem en_nil : EvN G B E ρ (tLst tNil) (.ok ([] : List α)) := fun F0 F σ H Q R q => ⟨Nat.zero_le _, fun p np => q F p _ _ (.new np) (R.sF.trans (same_upd np)) np (R.sF.free np) upd_same ⟨[], rfl, .nil⟩⟩
theorem ev_tp {m : M (List α)} {t : TA} (h : EvL G B E ρ t m) : Ev G B E .F ρ (tTup t) (m.b fun l => .chk (l.length ≤ sizeLine) (.ok (⟨l⟩ : Tp α))) := fun F0 F σ H Q R q =>
  h.go R q fun l F1 vs H1 e1 r1 R1 q => by
    obtain ⟨c, q⟩ := M.P_chk.mp q
    refine ⟨by rw [r1.len]; exact c, fun p np => ?_⟩
    exact q (upd F1 p (.tup vs)) _ _ (e1.trans (.newF R1.sF np)) (same_both R1.sF) ⟨p, vs, rfl, upd_same, reps_mono (same_upd (R1.sF.free np)) r1⟩
theorem ev_pair {m : M α} {n : M β} (h : Ev G B E .F ρ ta m) (k : Ev G B E .F ρ tb n) : Ev G B E .F ρ (tTup (tCons ta (tCons tb tNil))) (m.b fun a => n.b fun b => .ok (a, b)) := fun F0 F σ H Q R q =>
  h.go R q fun a F1 v H1 e1 r1 R1 q => k.go R1 q fun b F2 w H2 e2 r2 R2 q => ⟨show 2 ≤ sizeLine by decide, fun p np => by
    have s := same_upd (o := .tup [v, w]) (R2.sF.free np)
    exact q (upd F2 p (.tup [v, w])) _ _ ((e1.trans e2).trans (.newF R2.sF np)) (same_both R2.sF) ⟨p, v, w, rfl, upd_same, Rp.mono (e2.f.trans s) r1, Rp.mono s r2⟩⟩
theorem ev_tri {m : M α} {n : M β} {l : M γ} (h : Ev G B E .F ρ ta m) (k : Ev G B E .F ρ tb n) (i : Ev G B E .F ρ tc l) : Ev G B E .F ρ (tTup (tCons ta (tCons tb (tCons tc tNil)))) (m.b fun a => n.b fun b => l.b fun c => .ok (T3.mk a b c)) := fun F0 F σ H Q R q =>
  h.go R q fun a F1 v H1 e1 r1 R1 q => k.go R1 q fun b F2 w H2 e2 r2 R2 q => i.go R2 q fun c F3 u H3 e3 r3 R3 q => ⟨show 3 ≤ sizeLine by decide, fun p np => by
    have s := same_upd (o := .tup [v, w, u]) (R3.sF.free np)
    exact q (upd F3 p (.tup [v, w, u])) _ _ (((e1.trans e2).trans e3).trans (.newF R3.sF np)) (same_both R3.sF) ⟨p, v, w, u, rfl, upd_same, Rp.mono ((e2.f.trans e3.f).trans s) r1, Rp.mono (e3.f.trans s) r2, Rp.mono s r3⟩⟩
theorem en_dK {κ : Type} [Rp κ] [DecidableEq κ] [Ky κ] : EvN G B E ρ tDNewK (.ok (⟨[]⟩ : Dk κ α)) := fun F0 F σ H Q R q => fun p np => q F p _ _ (.new np) (R.sF.trans (same_upd np)) np (R.sF.free np) upd_same ⟨[], rfl, .nil⟩
theorem en_dT {κ : Type} [Rp κ] [DecidableEq κ] [Kt κ] : EvN G B E ρ tDNewT (.ok (⟨[]⟩ : Dt κ α)) := fun F0 F σ H Q R q => fun p np => q F p _ _ (.new np) (R.sF.trans (same_upd np)) np (R.sF.free np) upd_same ⟨[], rfl, .nil⟩
/-! ### texts, sums of lists -/
theorem ev_catStr {m n : M Str} (h : Ev G B E md ρ ta m) (k : Ev G B E md' ρ tb n) : Ev G B E mr ρ (tOp qCatS ta tb) (m.b fun a => n.b fun b => .chk (a.length + b.length ≤ sizeLine) (.ok (a ++ b))) := fun F0 F σ H Q R q =>
  h.go R q fun a F1 v H1 e1 r1 R1 q => k.go R1 q fun b F2 w H2 e2 r2 R2 q => by
    obtain ⟨c, q⟩ := M.P_chk.mp q
    exact ⟨a, b, r1, r2, c, q F2 _ H2 (e1.trans e2) R2.sF rfl⟩
theorem ev_repStr {m : M Str} {n : M Int} (h : Ev G B E md ρ ta m) (k : Ev G B E md' ρ tb n) : Ev G B E mr ρ (tOp qRepS ta tb) (m.b fun a => n.b fun b => .chk (MulOk a b) (.ok (Txt.mul a b))) := fun F0 F σ H Q R q =>
  h.go R q fun a F1 v H1 e1 r1 R1 q => k.go R1 q fun b F2 w H2 e2 r2 R2 q => by
    obtain ⟨c, q⟩ := M.P_chk.mp q
    exact ⟨a, b, r1, r2, c, q F2 _ H2 (e1.trans e2) R2.sF rfl⟩
theorem en_cat {m n : M (List α)} (h : EvS G B E ρ ta m) (k : EvS G B E ρ tb n) : EvN G B E ρ (tOp rCat ta tb) (m.b fun a => n.b fun b => .chk (a.length + b.length ≤ sizeLine) (.ok (a ++ b))) := fun F0 F σ H Q R q =>
  h.go R q fun a F1 x vs H1 e1 h1 r1 R1 q => k.go R1 q fun b F2 y ws H2 e2 h2 r2 R2 q => by
    obtain ⟨c, q⟩ := M.P_chk.mp q
    refine ⟨x, y, vs, ws, rfl, rfl, e2.h _ _ h1, h2, by rw [r1.len, r2.len]; exact c, fun p np => ?_⟩
    have e := e1.trans e2
    exact q F2 p _ _ (e.trans (.new np)) (R2.sF.trans (same_upd np)) (e.h.free np) (R2.sF.free np) upd_same ⟨_, rfl, (reps_mono e2.f r1).app r2⟩
theorem en_listOf {m : M (List α)} (h : EvS G B E ρ te m) : EvN G B E ρ (tCB (qListOf G.K) (tCons te tNil)) (m.b fun a => .ok a) := fun F0 F σ H Q R q =>
  h.go R q fun a F1 x vs H1 e1 h1 r1 R1 q => ⟨x, vs, rfl, .inl (.of h1), fun p np =>
    q F1 p _ _ (e1.trans (.new np)) (R1.sF.trans (same_upd np)) (e1.h.free np) (R1.sF.free np) upd_same ⟨_, rfl, r1⟩⟩
theorem strs_of {H : Hp} {vs : List V} {ss : List Str} (h : reps G H vs ss) : vs = ss.map V.str := h.to_map fun _ _ q => q
theorem ev_join {m : M Str} {n : M (List Str)} (h : Ev G B E md ρ ta m) (k : Ev G B E md' ρ tb n) : Ev G B E mr ρ (tM1 (qJoin G.K) ta tb) (m.b fun a => n.b fun l => .chk ((l.map (·.length)).sum + l.length * a.length ≤ 16777216) (.ok (Txt.join a l))) := fun F0 F σ H Q R q =>
  h.go R q fun a F1 v H1 e1 r1 R1 q => ⟨⟨a, r1⟩, k.toH.go R1 q fun l F2 w H2 e2 r2 R2 q => by
    obtain ⟨c, q⟩ := M.P_chk.mp q
    obtain ⟨p, vs, rfl, h1, h2⟩ := r2
    rw [strs_of h2] at h1
    exact ⟨a, p, l, r1, rfl, .inl (.of h1), c, q F2 _ H2 (e1.trans e2) R2.sF rfl⟩⟩
theorem en_split {m n : M Str} (h : Ev G B E md ρ ta m) (k : Ev G B E md' ρ tb n) : EvN G B E ρ (tM1 qSplit ta tb) (m.b fun a => n.b fun b => .chk ((b.length == 0) = false ∧ a.length + 2 ≤ sizeLine) (.ok (Txt.split a b))) := fun F0 F σ H Q R q =>
  h.go R q fun a F1 v H1 e1 r1 R1 q => ⟨⟨a, r1⟩, k.go R1 q fun b F2 w H2 e2 r2 R2 q => by
    obtain ⟨c, q⟩ := M.P_chk.mp q
    have e := e1.trans e2
    exact ⟨a, b, r1, by rw [show w = .str b from r2], c.1, c.2, fun p np => q F2 p _ _ (e.trans (.new np)) (R2.sF.trans (same_upd np)) (e.h.free np) (R2.sF.free np) upd_same ⟨_, rfl, All2.of_map (R := rep G F2) (f := V.str) (fun _ => rfl) _⟩⟩⟩
theorem ev_strI {m : M Int} (h : Ev G B E md ρ te m) : Ev G B E mr ρ (tCB qStrI (tCons te tNil)) (m.b fun i => .chk (i.natAbs.log2 < 1920) (.ok (toString i : Str))) := fun F0 F σ H Q R q =>
  h.go R q fun i F1 v H1 e1 r1 R1 q => by
    obtain ⟨c, q⟩ := M.P_chk.mp q
    exact ⟨i, by rw [show v = .int i from r1], c, q F1 _ H1 e1 R1.sF rfl⟩
theorem ev_intB {m : M Bool} (h : Ev G B E md ρ te m) : Ev G B E mr ρ (tCB qInt1 (tCons te tNil)) (m.b fun k => .ok (if k = true then (1 : Int) else 0)) := fun F0 F σ H Q R q =>
  h.go R q fun i F1 v H1 e1 r1 R1 q => .inr ⟨i, by rw [show v = .bl i from r1], q F1 _ H1 e1 R1.sF rfl⟩
theorem ev_max2 {m n : M Int} (h : Ev G B E md ρ ta m) (k : Ev G B E md' ρ tb n) : Ev G B E mr ρ (tCB qMax2 (tCons ta (tCons tb tNil))) (m.b fun i => n.b fun j => .ok (if j > i then j else i)) := fun F0 F σ H Q R q =>
  h.go R q fun i F1 v H1 e1 r1 R1 q => k.go R1 q fun j F2 w H2 e2 r2 R2 q => ⟨i, j, by rw [show v = .int i from r1, show w = .int j from r2], q F2 _ H2 (e1.trans e2) R2.sF rfl⟩
theorem ev_min2 {m n : M Int} (h : Ev G B E md ρ ta m) (k : Ev G B E md' ρ tb n) : Ev G B E mr ρ (tCB qMin2 (tCons ta (tCons tb tNil))) (m.b fun i => n.b fun j => .ok (if j < i then j else i)) := fun F0 F σ H Q R q =>
  h.go R q fun i F1 v H1 e1 r1 R1 q => k.go R1 q fun j F2 w H2 e2 r2 R2 q => ⟨i, j, by rw [show v = .int i from r1, show w = .int j from r2], q F2 _ H2 (e1.trans e2) R2.sF rfl⟩
end
end Tw

set_option Elab.async false
set_option linter.all false
set_option maxRecDepth 100000
set_option maxHeartbeats 4000000
/-! Targets, walks, comprehensions. -/
namespace Tw
open PySem PySem.Spec L2 TL
open PyProof.Rows hiding St

theorem wipe_get (σ : L2.St) (j : Nat) : ∀ vs : List Nat, (wipe σ vs)[j]? = if j ∈ vs then (σ[j]?).map fun _ => none else σ[j]?
  | [] => by simp [wipe]
  | v :: vs => by
    show ((wipe σ vs).set v none)[j]? = _
    by_cases e : v = j
    · subst e
      rw [List.getElem?_set_self', wipe_get σ v vs, if_pos List.mem_cons_self]
      by_cases h : v ∈ vs
      · rw [if_pos h]
        cases σ[v]? <;> rfl
      · rw [if_neg h]
        cases σ[v]? <;> rfl
    · rw [List.getElem?_set_ne e, wipe_get σ j vs]
      by_cases h : j ∈ vs
      · rw [if_pos h, if_pos (List.mem_cons_of_mem _ h)]
      · rw [if_neg h, if_neg fun w => by
          rcases List.mem_cons.mp w with w | w
          · exact e w.symm
          · exact h w]
theorem wipe_set {σ : L2.St} {i : Nat} {x : Option V} {vs : List Nat} (h : i ∈ vs) : wipe (σ.set i x) vs = wipe σ vs := by
  refine List.ext_getElem? fun j => ?_
  rw [wipe_get, wipe_get]
  by_cases e : i = j
  · subst e
    rw [if_pos h, if_pos h, List.getElem?_set_self']
    cases σ[i]? <;> rfl
  · rw [List.getElem?_set_ne e]
theorem wipe_idem (σ : L2.St) (vs : List Nat) : wipe (wipe σ vs) vs = wipe σ vs := by
  refine List.ext_getElem? fun j => ?_
  rw [wipe_get, wipe_get]
  by_cases h : j ∈ vs
  · rw [if_pos h, if_pos h]
    cases σ[j]? <;> rfl
  · rw [if_neg h]
theorem wipe_app {σ τ υ : L2.St} {a b : List Nat} (h : wipe τ a = wipe σ a) (k : wipe υ b = wipe τ b) : wipe υ (a ++ b) = wipe σ (a ++ b) := by
  refine List.ext_getElem? fun j => ?_
  have h1 := congrArg (fun l : L2.St => l[j]?) h
  have h2 := congrArg (fun l : L2.St => l[j]?) k
  simp only [wipe_get] at h1 h2 ⊢
  have m : ∀ {x y : Option (Option V)}, x = y → (x.map fun _ => (none : Option V)) = y.map fun _ => none := fun e => by rw [e]
  by_cases ha : j ∈ a
  · rw [if_pos ha, if_pos ha] at h1
    rw [if_pos (List.mem_append_left _ ha), if_pos (List.mem_append_left _ ha)]
    by_cases hb : j ∈ b
    · rw [if_pos hb, if_pos hb] at h2
      exact h2.trans h1
    · rw [if_neg hb, if_neg hb] at h2
      exact (m h2).trans h1
  · rw [if_neg ha, if_neg ha] at h1
    by_cases hb : j ∈ b
    · rw [if_pos (List.mem_append_right _ hb), if_pos (List.mem_append_right _ hb)]
      rw [if_pos hb, if_pos hb] at h2
      exact h2.trans (m h1)
    · have hn : ¬ j ∈ a ++ b := fun w => (List.mem_append.mp w).elim ha hb
      rw [if_neg hn, if_neg hn]
      rw [if_neg hb, if_neg hb] at h2
      exact h2.trans h1
/-- the comprehension's own names are forgotten -/
def wipeE (ρ : Evr) : List Nat → Evr
  | [] => ρ
  | v :: vs => (wipeE ρ vs).set v none
theorem Rel.unset {G : Gb} {B F0 F H : Hp} {ρ : Evr} {σ : L2.St} (R : Rel G B F0 F ρ σ H) (i : Nat) (x : Option V) : Rel G B F0 F (ρ.set i none) (σ.set i x) H where
  sB := R.sB
  sF := R.sF
  s0 := R.s0
  nw := R.nw
  len := by rw [List.length_set, List.length_set]; exact R.len
  sl := fun j t x hs hx => by
    by_cases z : i = j
    · subst z
      rw [List.getElem?_set_self'] at hs
      cases e1 : ρ[i]? with
      | none => rw [e1] at hs; cases hs
      | some a => rw [e1] at hs; cases hs; exact trivial
    · rw [List.getElem?_set_ne z] at hs hx
      exact R.sl j t x hs hx
  ds := fun j k p t u hj hk oj ok sj sk => by
    by_cases z : i = j
    · subst z
      rw [List.getElem?_set_self'] at hj
      cases e1 : ρ[i]? with
      | none => rw [e1] at hj; cases hj
      | some a => rw [e1] at hj; cases hj; cases oj
    · by_cases z2 : i = k
      · subst z2
        rw [List.getElem?_set_self'] at hk
        cases e1 : ρ[i]? with
        | none => rw [e1] at hk; cases hk
        | some a => rw [e1] at hk; cases hk; cases ok
      · rw [List.getElem?_set_ne z] at hj sj
        rw [List.getElem?_set_ne z2] at hk sk
        exact R.ds j k p t u hj hk oj ok sj sk
theorem Rel.wipe {G : Gb} {B F0 F H : Hp} {ρ : Evr} {σ : L2.St} (R : Rel G B F0 F ρ σ H) : ∀ vs : List Nat, Rel G B F0 F (wipeE ρ vs) (L2.wipe σ vs) H
  | [] => R
  | v :: vs => (R.wipe vs).unset v none
/-- a thing beside is changed -/
theorem Rel.side {G : Gb} {B F0 F H : Hp} {ρ : Evr} {σ : L2.St} {p : Addr} {o : HO} (R : Rel G B F0 F ρ σ H) (hB : B p = none) (hF : F p = none) (hn : ∀ (j : Nat) (s : Option Slot), ρ[j]? = some s → isOw s = true → σ[j]? ≠ some (some (.ref p))) : Rel G B F0 F ρ σ (upd H p o) where
  sB := same_updR R.sB hB
  sF := same_updR R.sF hF
  s0 := R.s0
  nw := R.nw
  len := R.len
  sl := fun j t x ht hx => by
    have q := R.sl j t x ht hx
    cases t with
    | none => exact trivial
    | some t =>
      cases t with
      | fz a => exact q
      | bw a => exact q
      | ow a =>
        obtain ⟨q, u, e1, e2, e3, e4, e5⟩ := q
        subst e1
        have ne : q ≠ p := fun w => hn j _ ht rfl (by rw [← w]; exact hx)
        exact ⟨q, u, rfl, e2, e3, by rw [upd_ne ne]; exact e4, e5⟩
      | lk q' ob u a =>
        obtain ⟨e1, e2, e3, e4, e5⟩ := q
        subst e1
        have ne : q' ≠ p := fun w => hn j _ ht rfl (by rw [← w]; exact hx)
        exact ⟨rfl, e2, e3, by rw [upd_ne ne]; exact e4, e5⟩
  ds := R.ds

section
variable (G : Gb) (B : Hp) (E : XK) {α : Type} [Rp α]
/-- a target binds a thing -/
def Tgt (md : Md) (g : TG) (ts : List Nat) (bind : α → Evr → Evr) : Prop := ∀ (F0 F : Hp) (ρ : Evr) (σ : L2.St) (H : Hp) (v : V) (x : α) (Qt : L2.St → Hp → Prop), Rel G B F0 F ρ σ H → rep G (hpM md F B H) v x →
  (∀ σ', wipe σ' ts = wipe σ ts → Rel G B F0 F (bind x ρ) σ' H → Qt σ' H) → g v σ H Qt
/-- a walk, turn by turn -/
def Walk {α : Type} (W : Hp → Hp → Prop) (J : It) (g : TG) (ts : List Nat) (bind : α → Evr → Evr) (xs : List α) : Prop := ∀ (i : Nat) (F0 F : Hp) (ρ : Evr) (σ : L2.St) (H : Hp), W F H → Rel G B F0 F ρ σ H →
  (xs.length ≤ i → J.stop i H) ∧ ∀ x, xs[i]? = some x → J.go i H ∧ ∀ v H', J.yld i H v H' → ∀ Qt : L2.St → Hp → Prop,
    (∀ F' σ' H2, Ext F H F' H2 → wipe σ' ts = wipe σ ts → Rel G B F0 F' (bind x ρ) σ' H2 → Qt σ' H2) → g v σ H' Qt
def EvW {α : Type} (per : Bool) (ρ : Evr) (wi : TI) (g : TG) (ts : List Nat) (bind : α → Evr → Evr) (m : M (List α)) : Prop := ∀ (F0 F : Hp) (σ : L2.St) (H : Hp) (R : It → Hp → Prop), Rel G B F0 F ρ σ H →
  m.P (fun xs => ∀ (F' H' : Hp) (J : It), Ext F H F' H' → Same F' H' → Walk G B (fun F2 H2 => Same F' F2 ∧ (per = false → Same H' H2)) J g ts bind xs → R J H') (Xc G B E) → wi σ H R
end
section
variable {G : Gb} {B : Hp} {E : XK} {ρ : Evr} {α β γ δ : Type} [Rp α] [Rp β] [Rp γ] [Rp δ] {md md' mr : Md} {ta tb tc te : TE} {g g1 g2 g3 g4 : TG} {ts t1 t2 t3 t4 : List Nat} {bind : α → Evr → Evr}
theorem tg_F {i : Nat} : Tgt (α := α) G B .F (gName i) [i] (fun x ρ => ρ.set i (some (.fz x))) := fun F0 F ρ σ H v x Qt R r k => k _ (wipe_set List.mem_cons_self) (R.put ⟨v, rfl, r⟩ rfl)
theorem tg_B {i : Nat} : Tgt (α := α) G B .B (gName i) [i] (fun x ρ => ρ.set i (some (.bw x))) := fun F0 F ρ σ H v x Qt R r k => k _ (wipe_set List.mem_cons_self) (R.put ⟨v, rfl, r⟩ rfl)
theorem tg_S [Sc α] {i : Nat} : Tgt (α := α) G B md (gName i) [i] (fun x ρ => ρ.set i (some (.fz x))) := fun F0 F ρ σ H v x Qt R r k => k _ (wipe_set List.mem_cons_self) (R.put ⟨v, rfl, (Sc.iff _ _ _ _).mpr ((Sc.iff _ _ _ _).mp r)⟩ rfl)
theorem tg_pair {b1 : α → Evr → Evr} {b2 : β → Evr → Evr} (h1 : Tgt G B md g1 t1 b1) (h2 : Tgt G B md g2 t2 b2) : Tgt G B md (gTup G.K 2 (gCons g1 (gCons g2 gNil))) (t1 ++ t2) (fun (x : α × β) ρ => b2 x.2 (b1 x.1 ρ)) := fun F0 F ρ σ H v x Qt R r k => by
  obtain ⟨p, y, z, rfl, hp, r1, r2⟩ := r
  exact ⟨p, _, rfl, .of (hpM_H R.sB R.sF _ _ hp), rfl, y, _, rfl, h1 F0 F ρ σ H y x.1 _ R r1 fun σ1 w1 R1 => ⟨z, _, rfl, h2 F0 F _ σ1 H z x.2 _ R1 r2 fun σ2 w2 R2 => ⟨rfl, k σ2 (wipe_app w1 w2) R2⟩⟩⟩
theorem tg_tri {b1 : α → Evr → Evr} {b2 : β → Evr → Evr} {b3 : γ → Evr → Evr} (h1 : Tgt G B md g1 t1 b1) (h2 : Tgt G B md g2 t2 b2) (h3 : Tgt G B md g3 t3 b3) : Tgt G B md (gTup G.K 3 (gCons g1 (gCons g2 (gCons g3 gNil)))) ((t1 ++ t2) ++ t3) (fun (x : T3 α β γ) ρ => b3 x.c (b2 x.b (b1 x.a ρ))) := fun F0 F ρ σ H v x Qt R r k => by
  obtain ⟨p, y, z, u, rfl, hp, r1, r2, r3⟩ := r
  exact ⟨p, _, rfl, .of (hpM_H R.sB R.sF _ _ hp), rfl, y, _, rfl, h1 F0 F ρ σ H y x.a _ R r1 fun σ1 w1 R1 => ⟨z, _, rfl, h2 F0 F _ σ1 H z x.b _ R1 r2 fun σ2 w2 R2 => ⟨u, _, rfl, h3 F0 F _ σ2 H u x.c _ R2 r3 fun σ3 w3 R3 => ⟨rfl, k σ3 (wipe_app (wipe_app w1 w2) w3) R3⟩⟩⟩⟩
theorem tg_four {b1 : α → Evr → Evr} {b2 : β → Evr → Evr} {b3 : γ → Evr → Evr} {b4 : δ → Evr → Evr} (h1 : Tgt G B md g1 t1 b1) (h2 : Tgt G B md g2 t2 b2) (h3 : Tgt G B md g3 t3 b3) (h4 : Tgt G B md g4 t4 b4) : Tgt G B md (gTup G.K 4 (gCons g1 (gCons g2 (gCons g3 (gCons g4 gNil))))) (((t1 ++ t2) ++ t3) ++ t4) (fun (x : T4 α β γ δ) ρ => b4 x.d (b3 x.c (b2 x.b (b1 x.a ρ)))) := fun F0 F ρ σ H v x Qt R r k => by
  obtain ⟨p, y, z, u, s, rfl, hp, r1, r2, r3, r4⟩ := r
  exact ⟨p, _, rfl, .of (hpM_H R.sB R.sF _ _ hp), rfl, y, _, rfl, h1 F0 F ρ σ H y x.a _ R r1 fun σ1 w1 R1 => ⟨z, _, rfl, h2 F0 F _ σ1 H z x.b _ R1 r2 fun σ2 w2 R2 => ⟨u, _, rfl, h3 F0 F _ σ2 H u x.c _ R2 r3 fun σ3 w3 R3 => ⟨s, _, rfl, h4 F0 F _ σ3 H s x.d _ R3 r4 fun σ4 w4 R4 => ⟨rfl, k σ4 (wipe_app (wipe_app (wipe_app w1 w2) w3) w4) R4⟩⟩⟩⟩⟩
/-! ### walks over lists -/
theorem walk_list {W : Hp → Hp → Prop} {p : Addr} {vs : List V} {xs : List α} (ht : Tgt G B md g ts bind) (h1 : ∀ F0 F ρ σ H, W F H → Rel G B F0 F ρ σ H → H p = some (.lst vs) ∧ reps G (hpM md F B H) vs xs) : Walk G B W (Itl G.K p) g ts bind xs := fun i F0 F ρ σ H w R => by
  obtain ⟨hp, hr⟩ := h1 F0 F ρ σ H w R
  refine ⟨fun hl => ⟨vs, .of hp, by rw [hr.len]; exact hl⟩, fun x hx => ?_⟩
  obtain ⟨v, ev, rv⟩ := hr.get' hx
  refine ⟨⟨vs, v, .of hp, ev⟩, fun u H' y Qt k => ?_⟩
  obtain ⟨rfl, y⟩ := y
  have e : u = v := Option.some.inj ((y vs (.of hp)).symm.trans ev)
  subst e
  exact ht F0 F ρ σ _ u x Qt R rv fun σ' ws R' => k F σ' _ (.refl _ _) ws R'
theorem ew_F {m : M (List α)} (h : Ev G B E .F ρ te m) (ht : Tgt G B .F g ts bind) : EvW G B E true ρ (iList G.K te) g ts bind m := fun F0 F σ H R RR q => h F0 F σ H _ RR (q.imp (fun xs k F' v H' e s r => by
  obtain ⟨p, vs, rfl, h1, h2⟩ := r
  exact ⟨p, rfl, ⟨vs, .of (s _ _ h1)⟩, k F' H' _ e s (walk_list ht fun F0 F ρ σ H w R => ⟨R.sF _ _ (w.1 _ _ h1), reps_mono w.1 h2⟩)⟩) fun _ x => x)
theorem ew_B {m : M (List α)} (h : Ev G B E .B ρ te m) (ht : Tgt G B .B g ts bind) : EvW G B E true ρ (iList G.K te) g ts bind m := fun F0 F σ H R RR q => h F0 F σ H _ RR (q.imp (fun xs k F' v H' e s r => by
  obtain ⟨p, vs, rfl, h1, h2⟩ := r
  exact ⟨p, rfl, ⟨vs, .of ((RR.sB.trans e.h) _ _ h1)⟩, k F' H' _ e s (walk_list ht fun F0 F ρ σ H w R => ⟨R.sB _ _ h1, h2⟩)⟩) fun _ x => x)
theorem ew_S {m : M (List α)} (h : EvS G B E ρ te m) (ht : Tgt G B .F g ts bind) : EvW G B E false ρ (iList G.K te) g ts bind m := fun F0 F σ H R RR q => h F0 F σ H _ RR (q.imp (fun xs k F' p vs H' e s h1 h2 =>
  ⟨p, rfl, ⟨vs, .of h1⟩, k F' H' _ e s (walk_list ht fun F0 F ρ σ H w R => ⟨w.2 rfl _ _ h1, reps_mono w.1 h2⟩)⟩) fun _ x => x)
theorem ew_Tp {m : M (Tp α)} (h : Ev G B E .F ρ te m) (ht : Tgt G B .F g ts bind) : EvW G B E true ρ (iTup G.K te) g ts bind (m.b fun t => .ok t.l) := fun F0 F σ H R RR q => h.go RR q fun t F' v H' e r R' q => by
  obtain ⟨p, vs, rfl, h1, h2⟩ := r
  refine ⟨p, rfl, ⟨vs, .of (R'.sF _ _ h1)⟩, q F' H' _ e R'.sF fun i F0 F ρ σ H w R => ?_⟩
  have hp := R.sF _ _ (w.1 _ _ h1)
  have hr := reps_mono w.1 h2
  refine ⟨fun hl => ⟨vs, .of hp, by rw [hr.len]; exact hl⟩, fun x hx => ?_⟩
  obtain ⟨v, ev, rv⟩ := hr.get' hx
  refine ⟨⟨vs, v, .of hp, ev⟩, fun u H' y Qt k => ?_⟩
  obtain ⟨rfl, y⟩ := y
  have e : u = v := Option.some.inj ((y vs (.of hp)).symm.trans ev)
  subst e
  exact ht F0 F ρ σ _ u x Qt R rv fun σ' ws R' => k F σ' _ (.refl _ _) ws R'
/-! range -/
def rng (lo hi : Int) : List Int := (List.range (hi - lo).toNat).map fun (k : Nat) => lo + k
theorem rng_len (lo hi : Int) : (rng lo hi).length = (hi - lo).toNat := by unfold rng; rw [List.length_map, List.length_range]
theorem rng_at {lo hi : Int} {i : Nat} {x : Int} (h : (rng lo hi)[i]? = some x) : i < (hi - lo).toNat ∧ x = lo + i := by
  have hi' : i < (rng lo hi).length := (List.getElem?_eq_some_iff.mp h).1
  rw [rng_len] at hi'
  refine ⟨hi', ?_⟩
  unfold rng at h
  rw [List.getElem?_map, List.getElem?_range hi'] at h
  exact (Option.some.inj h).symm
theorem walk_rng {W : Hp → Hp → Prop} {lo hi : Int} {bind : Int → Evr → Evr} (ht : Tgt G B .F g ts bind) : Walk G B W (Itr lo (hi - lo).toNat) g ts bind (rng lo hi) := fun i F0 F ρ σ H w R => by
  refine ⟨fun hl => by rw [rng_len] at hl; exact hl, fun x hx => ?_⟩
  obtain ⟨hl, rfl⟩ := rng_at hx
  refine ⟨hl, fun u H' y Qt k => ?_⟩
  obtain ⟨rfl, rfl⟩ := y
  exact ht F0 F ρ σ _ _ _ Qt R rfl fun σ' ws R' => k F σ' _ (.refl _ _) ws R'
theorem ew_rng1 {m : M Int} {bind : Int → Evr → Evr} (h : Ev G B E md ρ te m) (ht : Tgt G B .F g ts bind) : EvW G B E true ρ (iRng1 (tCons te tNil)) g ts bind (m.b fun n => .chk (-(2 ^ 62) ≤ n ∧ n < 2 ^ 62) (.ok (rng 0 n))) := fun F0 F σ H R RR q => h.go RR q fun n F' v H' e r R' q => by
  obtain ⟨c, q⟩ := M.P_chk.mp q
  have w := walk_rng (G := G) (B := B) (W := fun F2 H2 => Same F' F2 ∧ (true = false → Same H' H2)) (lo := 0) (hi := n) ht
  rw [Int.sub_zero] at w
  exact ⟨n, by rw [show v = .int n from r], c.1, c.2, q F' H' _ e R'.sF w⟩
theorem ew_rng2 {m n : M Int} {bind : Int → Evr → Evr} (h : Ev G B E md ρ ta m) (h2 : Ev G B E md' ρ tb n) (ht : Tgt G B .F g ts bind) : EvW G B E true ρ (iRng2 (tCons ta (tCons tb tNil))) g ts bind (m.b fun i => n.b fun j => .chk (-(2 ^ 62) ≤ i ∧ i < 2 ^ 62 ∧ -(2 ^ 62) ≤ j ∧ j < 2 ^ 62) (.ok (rng i j))) := fun F0 F σ H R RR q => h.go RR q fun i F1 v H1 e1 r1 R1 q => h2.go R1 q fun j F2 w H2 e2 r2 R2 q => by
  obtain ⟨c, q⟩ := M.P_chk.mp q
  exact ⟨i, j, by rw [show v = .int i from r1, show w = .int j from r2], c, q F2 H2 _ (e1.trans e2) R2.sF (walk_rng ht)⟩
/-! the signs of a text -/
theorem ew_str {m : M Str} {bind : Sgn → Evr → Evr} (h : Ev G B E md ρ te m) (ht : Tgt G B .F g ts bind) : EvW G B E true ρ (iStr te) g ts bind (m.b fun z => .ok (z.cps.toList.map Sgn.mk)) := fun F0 F σ H R RR q => h.go RR q fun z F' v H' e r R' q => by
  refine ⟨z, r, q F' H' _ e R'.sF fun i F0 F ρ σ H w R => ?_⟩
  refine ⟨fun hl => by rw [List.length_map] at hl; show z.cps.size ≤ i; simpa using hl, fun x hx => ?_⟩
  rw [List.getElem?_map] at hx
  cases ec : z.cps.toList[i]? with
  | none => rw [ec] at hx; cases hx
  | some c =>
    rw [ec] at hx
    cases hx
    have hl : i < z.cps.size := by have := (List.getElem?_eq_some_iff.mp ec).1; simpa using this
    refine ⟨hl, fun u H' y Qt k => ?_⟩
    obtain ⟨rfl, d, ed, rfl⟩ := y
    have e2 : c = d := by
      have : z.cps.toList[i]? = some d := by simpa using ed
      rw [ec] at this
      exact Option.some.inj this
    subst e2
    exact ht F0 F ρ σ _ _ _ Qt R rfl fun σ' ws R' => k F σ' _ (.refl _ _) ws R'
/-! enumerate -/
def enu {α : Type} (xs : List α) : List (Int × α) := xs.zipIdx.map fun p => ((p.2 : Nat), p.1)
theorem enu_len {α : Type} (xs : List α) : (enu xs).length = xs.length := by unfold enu; rw [List.length_map, List.length_zipIdx]
theorem enu_at {α : Type} {xs : List α} {i : Nat} {x : Int × α} (h : (enu xs)[i]? = some x) : xs[i]? = some x.2 ∧ x.1 = i := by
  unfold enu at h
  rw [List.getElem?_map, List.getElem?_zipIdx] at h
  cases e : xs[i]? with
  | none => rw [e] at h; cases h
  | some a => rw [e] at h; cases h; exact ⟨rfl, by simp⟩
theorem walk_enu {W : Hp → Hp → Prop} {p : Addr} {vs : List V} {xs : List α} {b1 : Int → Evr → Evr} {b2 : α → Evr → Evr} (ht1 : Tgt G B .F g1 t1 b1) (ht2 : Tgt G B md g2 t2 b2) (h1 : ∀ F0 F ρ σ H, W F H → Rel G B F0 F ρ σ H → H p = some (.lst vs) ∧ reps G (hpM md F B H) vs xs) :
    Walk G B W (Ite G.K p) (gTup G.K 2 (gCons g1 (gCons g2 gNil))) (t1 ++ t2) (fun (x : Int × α) ρ => b2 x.2 (b1 x.1 ρ)) (enu xs) := fun i F0 F ρ σ H w R => by
  obtain ⟨hp, hr⟩ := h1 F0 F ρ σ H w R
  refine ⟨fun hl => ⟨vs, .of hp, by rw [hr.len, ← enu_len xs]; exact hl⟩, fun x hx => ?_⟩
  obtain ⟨hx, e1⟩ := enu_at hx
  obtain ⟨v, ev, rv⟩ := hr.get' hx
  refine ⟨⟨vs, v, .of hp, ev⟩, fun u H' y Qt k => ?_⟩
  obtain ⟨T, z, rfl, nT, rfl, y⟩ := y
  have e : z = v := Option.some.inj ((y vs (.of hp)).symm.trans ev)
  subst e
  have eT : Ext F H F (upd H T (.tup [.int (i : Nat), z])) := .new nT
  have R1 := R.ext eT (R.sF.trans (same_upd nT))
  refine ⟨T, _, rfl, .of upd_same, rfl, _, _, rfl, ht1 F0 F ρ σ _ _ x.1 _ R1 (by rw [e1]; rfl) fun σ1 w1 R2 => ⟨_, _, rfl, ht2 F0 F _ σ1 _ z x.2 _ R2 (Rp.mono (hpM_ext eT) rv) fun σ2 w2 R3 => ⟨rfl, k F σ2 _ eT (wipe_app w1 w2) R3⟩⟩⟩
section
variable {b1 : Int → Evr → Evr} {b2 : α → Evr → Evr}
theorem ew_enuF {m : M (List α)} (h : Ev G B E .F ρ te m) (ht1 : Tgt G B .F g1 t1 b1) (ht2 : Tgt G B .F g2 t2 b2) : EvW G B E true ρ (iEnum G.K (tCons te tNil)) (gTup G.K 2 (gCons g1 (gCons g2 gNil))) (t1 ++ t2) (fun (x : Int × α) ρ => b2 x.2 (b1 x.1 ρ)) (m.b fun xs => .ok (enu xs)) := fun F0 F σ H R RR q => h.go RR q fun xs F' v H' e r R' q => by
  obtain ⟨p, vs, rfl, h1, h2⟩ := r
  exact ⟨p, vs, rfl, .of (R'.sF _ _ h1), q F' H' _ e R'.sF (walk_enu ht1 ht2 fun F0 F ρ σ H w R => ⟨R.sF _ _ (w.1 _ _ h1), reps_mono w.1 h2⟩)⟩
theorem ew_enuB {m : M (List α)} (h : Ev G B E .B ρ te m) (ht1 : Tgt G B .F g1 t1 b1) (ht2 : Tgt G B .B g2 t2 b2) : EvW G B E true ρ (iEnum G.K (tCons te tNil)) (gTup G.K 2 (gCons g1 (gCons g2 gNil))) (t1 ++ t2) (fun (x : Int × α) ρ => b2 x.2 (b1 x.1 ρ)) (m.b fun xs => .ok (enu xs)) := fun F0 F σ H R RR q => h.go RR q fun xs F' v H' e r R' q => by
  obtain ⟨p, vs, rfl, h1, h2⟩ := r
  exact ⟨p, vs, rfl, .of (R'.sB _ _ h1), q F' H' _ e R'.sF (walk_enu ht1 ht2 fun F0 F ρ σ H w R => ⟨R.sB _ _ h1, h2⟩)⟩
theorem ew_enuS {m : M (List α)} (h : EvS G B E ρ te m) (ht1 : Tgt G B .F g1 t1 b1) (ht2 : Tgt G B .F g2 t2 b2) : EvW G B E false ρ (iEnum G.K (tCons te tNil)) (gTup G.K 2 (gCons g1 (gCons g2 gNil))) (t1 ++ t2) (fun (x : Int × α) ρ => b2 x.2 (b1 x.1 ρ)) (m.b fun xs => .ok (enu xs)) := fun F0 F σ H R RR q => h.go RR q fun xs F' p vs H' e h1 h2 R' q =>
  ⟨p, vs, rfl, .of h1, q F' H' _ e R'.sF (walk_enu ht1 ht2 fun F0 F ρ σ H w R => ⟨w.2 rfl _ _ h1, reps_mono w.1 h2⟩)⟩
end
/-! reversed -/
theorem ew_rev {m : M (List α)} (h : Ev G B E .F ρ te m) (ht : Tgt G B .F g ts bind) : EvW G B E true ρ (iRev G.K (tCons te tNil)) g ts bind (m.b fun xs => .ok xs.reverse) := fun F0 F σ H R RR q => h.go RR q fun xs F' v H' e r R' q => by
  obtain ⟨p, vs, rfl, h1, h2⟩ := r
  refine ⟨p, vs, rfl, .of (R'.sF _ _ h1), q F' H' _ e R'.sF fun i F0 F ρ σ H w R => ?_⟩
  have hp := R.sF _ _ (w.1 _ _ h1)
  have hr := reps_mono w.1 h2
  refine ⟨fun hl => by rw [List.length_reverse] at hl; show vs.length ≤ i; rw [hr.len]; exact hl, fun x hx => ?_⟩
  have hi : i < xs.length := by
    have := (List.getElem?_eq_some_iff.mp hx).1
    rw [List.length_reverse] at this
    exact this
  rw [List.getElem?_reverse hi] at hx
  obtain ⟨v, ev, rv⟩ := hr.get' hx
  rw [← hr.len] at ev hi
  refine ⟨⟨hi, vs, v, .of hp, ev⟩, fun u H' y Qt k => ?_⟩
  obtain ⟨rfl, y⟩ := y
  have e : u = v := Option.some.inj ((y vs (.of hp)).symm.trans ev)
  subst e
  exact ht F0 F ρ σ _ u x Qt R rv fun σ' ws R' => k F σ' _ (.refl _ _) ws R'
/-! ### [e for x in xs if t] -/
theorem en_lc {α : Type} {per : Bool} {wi : TI} {bind : α → Evr → Evr} {m : M (List α)} {tt : TT} {t : α → M Bool} {e : α → M β} (hw : EvW G B E per ρ wi g ts bind m) (ht : ∀ x, EvT G B E (bind x (wipeE ρ ts)) tt (t x)) (he : ∀ x, Ev G B E .F (bind x (wipeE ρ ts)) te (e x)) :
    EvN G B E ρ (tLc wi g tt te ts) (m.b fun xs => .chk (xs.length ≤ sizeLine) (M.lc t e xs)) := fun F0 F σ H Q R q => hw F0 F σ H _ R ((M.P_b.mp q).imp (fun xs q F1 H1 J e1 s1 wk D nD => by
  obtain ⟨cl, q⟩ := M.P_chk.mp q
  have R1 := R.ext e1 s1
  have hBD : B D = none := R1.sB.free nD
  refine ⟨fun i k H2 => k = xs.length - i ∧ i ≤ xs.length ∧ ∃ (F2 : Hp) (acc : List V) (ys : List β), Rel G B F0 F2 (wipeE ρ ts) (wipe σ ts) H2 ∧ Ext F1 H1 F2 H2 ∧ H2 D = some (.lst acc) ∧ F2 D = none ∧ reps G F2 acc ys ∧ ys.length ≤ i ∧
    (M.lc t e (xs.drop i)).P (fun r => ∀ (F' : Hp) (p : Addr) (o : HO) (H' : Hp), Ext F H F' H' → Same F' H' → H p = none → F' p = none → H' p = some o → con G F' o (ys ++ r) → Q (.ref p) H') (Xc G B E), ⟨xs.length, by simp, Nat.zero_le _, F1, [], [], ?_, ?_, upd_same, s1.free nD, .nil, Nat.zero_le _, ?_⟩, ?_⟩
  · exact (R1.wipe ts).side hBD (s1.free nD) ((R1.wipe ts).fresh nD)
  · exact .new nD
  · rw [List.drop_zero]
    exact q
  rintro i k H2 ⟨rfl, hi, F2, acc, ys, R2, e2, hD, fD, ra, hy, q2⟩
  obtain ⟨w1, w2⟩ := wk i F0 F2 _ _ H2 ⟨e2.f, fun _ => e2.h⟩ R2
  by_cases hlt : i < xs.length
  · have hx : xs[i]? = some xs[i] := List.getElem?_eq_getElem hlt
    obtain ⟨g1, g2⟩ := w2 xs[i] hx
    rw [List.drop_eq_getElem_cons hlt] at q2
    refine .inr ⟨g1, fun H3 => ∃ m', m' < xs.length - i ∧ (m' = xs.length - (i + 1) ∧ i + 1 ≤ xs.length ∧ ∃ (F2 : Hp) (acc : List V) (ys : List β), Rel G B F0 F2 (wipeE ρ ts) (wipe σ ts) H3 ∧ Ext F1 H1 F2 H3 ∧ H3 D = some (.lst acc) ∧ F2 D = none ∧ reps G F2 acc ys ∧ ys.length ≤ i + 1 ∧
      (M.lc t e (xs.drop (i + 1))).P (fun r => ∀ (F' : Hp) (p : Addr) (o : HO) (H' : Hp), Ext F H F' H' → Same F' H' → H p = none → F' p = none → H' p = some o → con G F' o (ys ++ r) → Q (.ref p) H') (Xc G B E)), fun H3 z => z, fun v H3 hyld => g2 v H3 hyld _ fun F3 σ3 H4 e3 ws R3 => ⟨ws.trans (wipe_idem σ ts), ?_⟩⟩
    have hm : xs.length - (i + 1) < xs.length - i := by omega
    have dn : ∀ {Fx Hx : Hp}, Ext F2 H2 Fx Hx → Hx D = some (.lst acc) ∧ Fx D = none := fun ex => ⟨ex.h _ _ hD, ex.non hD fD⟩
    refine (ht xs[i]).go R3 q2 fun c F4 H5 e4 R4 q3 => ?_
    have e24 := e3.trans e4
    have Rw : ∀ {Fx Hx : Hp}, Ext F2 H2 Fx Hx → Same Fx Hx → Rel G B F0 Fx (wipeE ρ ts) (wipe σ ts) Hx := fun ex sx => R2.ext ex sx
    cases c with
    | true =>
      refine iteT ((he xs[i]).go R4 q3 fun y F5 v2 H6 e5 r5 R5 q4 => ?_)
      have e25 := e24.trans e5
      obtain ⟨hD5, fD5⟩ := dn e25
      refine ⟨acc, hD5, by rw [ra.len]; omega, _, hm, rfl, hlt, F5, acc ++ [v2], ys ++ [y], ?_, ?_, upd_same, fD5, (reps_mono e25.f ra).snoc r5, by rw [List.length_append]; exact Nat.succ_le_succ hy, ?_⟩
      · have R6 := Rw e25 R5.sF
        exact R6.side hBD fD5 ((R1.wipe ts).fresh nD)
      · have e26 := e2.trans e25
        exact ⟨e26.f, fun b o hb => by rw [upd_ne (ne_of_none hb nD)]; exact e26.h _ _ hb, e26.n⟩
      · refine (M.P_b.mp q4).imp (fun r f F' p o H' a1 a2 a3 a4 a5 a6 => f F' p o H' a1 a2 a3 a4 a5 ?_) fun _ x => x
        rw [List.append_assoc] at a6
        exact a6
    | false =>
      refine iteF ?_
      obtain ⟨hD4, fD4⟩ := dn e24
      exact ⟨_, hm, rfl, hlt, F4, acc, ys, Rw e24 R4.sF, e2.trans e24, hD4, fD4, reps_mono e24.f ra, Nat.le_succ_of_le hy, q3⟩
  · have e : i = xs.length := by omega
    subst e
    rw [List.drop_length] at q2
    have e12 := e1.trans e2
    refine .inl ⟨w1 (Nat.le_refl _), q2 F2 D _ H2 e12 R2.sF (e1.h.free nD) fD hD ⟨acc, rfl, by rw [List.append_nil]; exact ra⟩⟩) fun _ x => x)
end
end Tw

set_option Elab.async false
set_option linter.all false
set_option maxRecDepth 100000
set_option maxHeartbeats 4000000
/-! What statements do, in plain data. -/
namespace Tw
open PySem PySem.Spec L2 TL
open PyProof.Rows hiding St

abbrev qInsert : V → List V → Hp → VK → Prop := fun x vs H Q => ∃ (l : Addr) (xs : List V) (i : Int) (y : V), x = .ref l ∧ vs = [.int i, y] ∧ H l = some (.lst xs) ∧ xs.length < sizeLine ∧ 0 ≤ i ∧ i < 2 ^ 63 ∧ Q .non (upd H l (.lst (xs.take i.toNat ++ [y] ++ xs.drop i.toNat)))
structure Fin (G : Gb) (B F0 F H : Hp) : Prop where
  sB : Same B H
  sF : Same F H
  s0 : Same F0 F
  nw : ∀ a, F0 a = none → F a ≠ none → B a = none
section
variable (G : Gb) (B : Hp) (E : XK)
def Run {Ω : Type} (post : Hp → Ω → Ends → Prop) (ρ : Evr) (t : TS) (m : M Ω) : Prop := ∀ (F0 F : Hp) (σ : L2.St) (H : Hp) (D : Ends), Rel G B F0 F ρ σ H → m.P (fun ω => post F0 ω D) (Xc G B E) → t D σ H
/-- it goes on -/
def oN {S : Type} (EX : S → Evr) : Hp → S → Ends → Prop := fun F0 s D => ∀ (F' : Hp) (σ' : L2.St) (H' : Hp), Rel G B F0 F' (EX s) σ' H' → D.nx σ' H'
/-- it tells; how a thing is told: frozen, new, None -/
abbrev RP (R : Type) := Hp → Hp → Hp → V → R → Prop
def oR {R : Type} (rp : RP R) : Hp → R → Ends → Prop := fun F0 r D => ∀ (F' : Hp) (v : V) (H' : Hp), Fin G B F0 F' H' → rp B F' H' v r → D.rt v H'
def oC {S R : Type} (EX : S → Evr) (rp : RP R) : Hp → S ⊕ R → Ends → Prop := fun F0 c D => match c with
  | .inl s => oN G B EX F0 s D
  | .inr r => oR G B rp F0 r D
/-- it ends without telling -/
def oV : Hp → Unit → Ends → Prop := fun F0 _ D => ∀ (F' : Hp) (σ' : L2.St) (H' : Hp), Fin G B F0 F' H' → D.nx σ' H' ∧ D.rt .non H'
end
def rpF (G : Gb) {R : Type} [Rp R] : RP R := fun _ F' _ v r => rep G F' v r
def rpN (G : Gb) {R : Type} [Rp R] [Rc R] : RP R := fun B F' H' v r => ∃ p o, v = .ref p ∧ B p = none ∧ F' p = none ∧ H' p = some o ∧ con G F' o r
def rpV : RP Unit := fun _ _ _ v _ => v = .non
section
variable {G : Gb} {B : Hp} {E : XK} {ρ ρ' : Evr} {α β γ δ : Type} [Rp α] [Rp β] [Rp γ] [Rp δ] {md md' mr : Md} {ta tb tc te : TE} {g : TG} {ts : List Nat} {bind : α → Evr → Evr}
  {Ω S S' R : Type} {post : Hp → Ω → Ends → Prop} {EX : S → Evr} {EX' : S' → Evr} {rp : RP R} {t t1 t2 rest : TS}
theorem Rel.fin {F0 F H : Hp} {σ : L2.St} (R : Rel G B F0 F ρ σ H) : Fin G B F0 F H := ⟨R.sB, R.sF, R.s0, R.nw⟩
theorem Fin.under {F0 F F1 H H' : Hp} {σ : L2.St} (R : Rel G B F0 F ρ σ H) (f : Fin G B F F1 H') : Fin G B F0 F1 H' := ⟨f.sB, f.sF, R.s0.trans f.s0, fun a h q => by
  cases z : F a with
  | none => exact f.nw a z q
  | some o => exact R.nw a h (by rw [z]; exact fun z => nomatch z)⟩
theorem Fin.ext {F0 F F' H H' : Hp} (f : Fin G B F0 F H) (e : Ext F H F' H') (s : Same F' H') : Fin G B F0 F' H' := ⟨f.sB.trans e.h, s, f.s0.trans e.f, fun a h q => by
  cases z : F a with
  | none => exact f.sB.free (e.n a z q)
  | some o => exact f.nw a h (by rw [z]; exact fun z => nomatch z)⟩

/-! ### one behind the other -/
theorem run_seq {m1 : M S} {k : S → M Ω} (h1 : Run G B E (oN G B EX) ρ t1 m1) (h2 : ∀ s, Run G B E post (EX s) t2 (k s)) : Run G B E post ρ (tSeq t1 t2) (m1.b k) := fun F0 F σ H D R q =>
  h1 F0 F σ H _ R ((M.P_b.mp q).imp (fun s q F' σ' H' R' => h2 s F0 F' σ' H' D R' q) fun _ x => x)
theorem run_seqR {m1 : M (S ⊕ R)} {k : S → M R} (h1 : Run G B E (oC G B EX rp) ρ t1 m1) (h2 : ∀ s, Run G B E (oR G B rp) (EX s) t2 (k s)) : Run G B E (oR G B rp) ρ (tSeq t1 t2) (m1.b (M.orR k)) := fun F0 F σ H D RR q =>
  h1 F0 F σ H _ RR ((M.P_b.mp q).imp (fun c q => by
    cases c with
    | inl s => exact fun F' σ' H' R' => h2 s F0 F' σ' H' D R' q
    | inr r => exact fun F' v H' f h => q F' v H' f h) fun _ x => x)
def M.orC {S S' R : Type} (k : S → M (S' ⊕ R)) : S ⊕ R → M (S' ⊕ R)
  | .inl s => k s
  | .inr r => .ok (.inr r)
theorem run_seqC {m1 : M (S ⊕ R)} {k : S → M (S' ⊕ R)} (h1 : Run G B E (oC G B EX rp) ρ t1 m1) (h2 : ∀ s, Run G B E (oC G B EX' rp) (EX s) t2 (k s)) : Run G B E (oC G B EX' rp) ρ (tSeq t1 t2) (m1.b (M.orC k)) := fun F0 F σ H D RR q =>
  h1 F0 F σ H _ RR ((M.P_b.mp q).imp (fun c q => by
    cases c with
    | inl s => exact fun F' σ' H' R' => h2 s F0 F' σ' H' D R' q
    | inr r => exact fun F' v H' f h => q F' v H' f h) fun _ x => x)
theorem run_last {m : M Ω} (h : Run G B E post ρ (tSeq t tNext) m) : Run G B E post ρ t m := h
theorem run_skip {m : M Ω} (h : Run G B E post ρ rest m) : Run G B E post ρ (tSeq tNext rest) m := h
theorem run_assoc {m : M Ω} (h : Run G B E post ρ (tSeq t1 (tSeq t2 rest)) m) : Run G B E post ρ (tSeq (tSeq t1 t2) rest) m := h
theorem run_next {s : S} (w : Wk ρ (EX s)) : Run G B E (oN G B EX) ρ tNext (.ok s) := fun F0 F σ H D R q => q F σ H (R.weak w)
theorem run_nextC {s : S} (w : Wk ρ (EX s)) : Run G B E (oC G B EX rp) ρ tNext (.ok (.inl s)) := fun F0 F σ H D R q => q F σ H (R.weak w)
theorem run_nextV : Run G B E (oV G B) ρ tNext (.ok ()) := fun F0 F σ H D R q => (q F σ H R.fin).1
theorem run_freeze [Rc α] {i : Nat} {a : α} {m : M Ω} (h : ρ[i]? = some (some (.ow a))) (k : Run G B E post (ρ.set i (some (.fz a))) t m) : Run G B E post ρ t m := fun F0 F σ H D R q => by
  obtain ⟨F', R'⟩ := R.freeze h
  exact k F0 F' σ H D R' q
theorem run_weak {m : M Ω} (w : Wk ρ ρ') (k : Run G B E post ρ' t m) : Run G B E post ρ t m := fun F0 F σ H D R q => k F0 F σ H D (R.weak w) q
/-! ### assignments -/
theorem run_asg {m : M α} {k : α → M Ω} (he : Ev G B E md ρ te m) (ht : Tgt G B md g ts bind) (hk : ∀ a, Run G B E post (bind a ρ) rest (k a)) : Run G B E post ρ (tSeq (tAsg te g) rest) (m.b k) := fun F0 F σ H D R q =>
  he.go R q fun a F' v H' e r R' q => ht F0 F' ρ σ H' v a _ R' r fun σ' _ R2 => hk a F0 F' σ' H' D R2 q
theorem run_asgN [Rc α] {i : Nat} {m : M α} {k : α → M Ω} (he : EvN G B E ρ te m) (hk : ∀ a, Run G B E post (ρ.set i (some (.ow a))) rest (k a)) : Run G B E post ρ (tSeq (tAsg te (gName i)) rest) (m.b k) := fun F0 F σ H D R q =>
  he.go R q fun a F' p o H' e h1 h2 h3 h4 R' q => hk a F0 F' _ H' D (R'.own (R.sB.free h1) h2 h3 h4 (R.fresh h1)) q
theorem run_expr {m : M α} {k : M Ω} (he : Ev G B E md ρ te m) (hk : Run G B E post ρ rest k) : Run G B E post ρ (tSeq (tDrop te) rest) (m.b fun _ => k) := fun F0 F σ H D R q =>
  he.go R q fun a F' v H' e r R' q => hk F0 F' σ H' D R' q
theorem run_aug {i : Nat} {x : Int} {f : Int → Int → Int} {m : M Int} {k : Int → M Ω} (h : ρ[i]? = some (some (.fz x))) (he : Ev G B E md ρ te m) (hk : ∀ a, Run G B E post (ρ.set i (some (.fz a))) rest (k a)) : Run G B E post ρ (tSeq (tAug i te (ipI f)) rest) (m.b fun y => k (f x y)) := fun F0 F σ H D R q => by
  obtain ⟨y, e, v, rfl, r⟩ := R.at h
  exact ⟨v, e, he.go R q fun a F' w H' e' r' R' q => ⟨x, a, r, r', hk _ F0 F' _ H' D (R'.put ⟨_, rfl, rfl⟩ rfl) q⟩⟩
/-! ### own things changed -/
theorem Rel.ow [Rc α] {F0 F H : Hp} {σ : L2.St} {i : Nat} {a : α} (R : Rel G B F0 F ρ σ H) (h : ρ[i]? = some (some (.ow a))) : ∃ p o, σ[i]? = some (some (.ref p)) ∧ B p = none ∧ F p = none ∧ H p = some o ∧ con G F o a := by
  obtain ⟨x, e, p, o, rfl, h1, h2, h3, h4⟩ := R.at h
  exact ⟨p, o, e, h1, h2, h3, h4⟩
theorem run_append {i : Nat} {l : List α} {m : M α} {k : α → M Ω} (h : ρ[i]? = some (some (.ow l))) (he : Ev G B E .F ρ te m) (hk : ∀ a, Run G B E post (ρ.set i (some (.ow (l ++ [a])))) rest (k a)) :
    Run G B E post ρ (tSeq (tDrop (tBM G.K "list" rAppend (tVar i) (tCons te tNil))) rest) (m.b fun a => .chk (l.length < sizeLine) (k a)) := fun F0 F σ H D R q => by
  obtain ⟨p, o, e, h1, h2, h3, vs, rfl, h4⟩ := R.ow h
  refine ⟨_, e, .inl ⟨rfl, vs, .of h3⟩, he.go R q fun a F' v H' e' r R' q => ?_⟩
  obtain ⟨c, q⟩ := M.P_chk.mp q
  have f2 := e'.non h3 h2
  refine ⟨p, vs, v, rfl, rfl, e'.h _ _ h3, by rw [h4.len]; exact c, hk a F0 F' σ _ D ?_ q⟩
  exact R'.change h rfl e h1 f2 ⟨_, rfl, (reps_mono e'.f h4).snoc r⟩
theorem run_insert {i : Nat} {l : List α} {mi : M Int} {m : M α} {k : Int → α → M Ω} {ti : TE} (h : ρ[i]? = some (some (.ow l))) (hi : Ev G B E md ρ ti mi) (he : Ev G B E .F ρ te m) (hk : ∀ j a, Run G B E post (ρ.set i (some (.ow (l.take j.toNat ++ [a] ++ l.drop j.toNat)))) rest (k j a)) :
    Run G B E post ρ (tSeq (tDrop (tBM G.K "list" qInsert (tVar i) (tCons ti (tCons te tNil)))) rest) (mi.b fun j => m.b fun a => .chk (l.length < sizeLine ∧ 0 ≤ j ∧ j < 2 ^ 63) (k j a)) := fun F0 F σ H D R q => by
  obtain ⟨p, o, e, h1, h2, h3, vs, rfl, h4⟩ := R.ow h
  refine ⟨_, e, .inl ⟨rfl, vs, .of h3⟩, hi.go R q fun j F1 u H1 e1 r1 R1 q => he.go R1 q fun a F' v H' e2 r R' q => ?_⟩
  obtain ⟨c, q⟩ := M.P_chk.mp q
  have e' := e1.trans e2
  have f2 := e'.non h3 h2
  have h4' := reps_mono e'.f h4
  refine ⟨p, vs, j, v, rfl, by rw [show u = .int j from r1], e'.h _ _ h3, by rw [h4.len]; exact c.1, c.2.1, c.2.2, hk j a F0 F' σ _ D ?_ q⟩
  exact R'.change h rfl e h1 f2 ⟨_, rfl, ((h4'.take _).snoc r).app (h4'.drop _)⟩
theorem run_reverse {i : Nat} {l : List α} {k : M Ω} (h : ρ[i]? = some (some (.ow l))) (hk : Run G B E post (ρ.set i (some (.ow l.reverse))) rest k) : Run G B E post ρ (tSeq (tDrop (tBM0 G.K "list" rReverse (tVar i))) rest) k := fun F0 F σ H D R q => by
  obtain ⟨p, o, e, h1, h2, h3, vs, rfl, h4⟩ := R.ow h
  exact ⟨_, e, .inl ⟨rfl, vs, .of h3⟩, p, vs, rfl, rfl, h3, hk F0 F σ _ D (R.change h rfl e h1 h2 ⟨_, rfl, h4.rev⟩) q⟩
theorem run_clear {i : Nat} {l : List α} {k : M Ω} (h : ρ[i]? = some (some (.ow l))) (hk : Run G B E post (ρ.set i (some (.ow ([] : List α)))) rest k) : Run G B E post ρ (tSeq (tDrop (tBM0 G.K "list" rClear (tVar i))) rest) k := fun F0 F σ H D R q => by
  obtain ⟨p, o, e, h1, h2, h3, vs, rfl, h4⟩ := R.ow h
  exact ⟨_, e, .inl ⟨rfl, vs, .of h3⟩, p, vs, rfl, rfl, h3, hk F0 F σ _ D (R.change h rfl e h1 h2 ⟨_, rfl, .nil⟩) q⟩
theorem run_setL {i : Nat} {l : List α} {mi : M Int} {m : M α} {k : α → Int → Nat → M Ω} {ti : TE} (h : ρ[i]? = some (some (.ow l))) (he : Ev G B E .F ρ te m) (hi : Ev G B E md ρ ti mi) (hk : ∀ a j n, Run G B E post (ρ.set i (some (.ow (l.set n a)))) rest (k a j n)) :
    Run G B E post ρ (tSeq (tAsg te (gSub (tVar i) ti rSetL)) rest) (m.b fun a => mi.b fun j => (M.get (ixN l.length j)).b fun n => k a j n) := fun F0 F σ H D R q => by
  obtain ⟨p, o, e, h1, h2, h3, vs, rfl, h4⟩ := R.ow h
  refine he.go R q fun a F1 v H1 e1 r1 R1 q => ⟨_, e, hi.go R1 q fun j F2 u H2 e2 r2 R2 q => ?_⟩
  obtain ⟨n, en, q⟩ := M.P_get.mp (M.P_b.mp q)
  have e' := e1.trans e2
  refine ⟨p, vs, j, n, rfl, r2, e'.h _ _ h3, by rw [h4.len]; exact en, hk a j n F0 F2 σ _ D ?_ q⟩
  exact R2.change h rfl e h1 (e'.non h3 h2) ⟨_, rfl, (reps_mono e'.f h4).set (Rp.mono e2.f r1) n⟩
theorem run_pop {i : Nat} {l : List α} {k : α → M Ω} (h : ρ[i]? = some (some (.ow l))) (ht : Tgt G B .F g ts bind) (hk : ∀ a, Run G B E post (bind a (ρ.set i (some (.ow l.dropLast)))) rest (k a)) : Run G B E post ρ (tSeq (tAsg (tBM0 G.K "list" rPop (tVar i)) g) rest) ((M.get l[l.length - 1]?).b k) := fun F0 F σ H D R q => by
  obtain ⟨p, o, e, h1, h2, h3, vs, rfl, h4⟩ := R.ow h
  obtain ⟨a, ea, q⟩ := M.P_get.mp (M.P_b.mp q)
  obtain ⟨v, ev, rv⟩ := h4.get' ea
  rw [← h4.len] at ev
  exact ⟨_, e, .inl ⟨rfl, vs, .of h3⟩, p, vs, v, rfl, rfl, h3, ev, ht F0 F _ σ _ v a _ (R.change (a := l.dropLast) h rfl e h1 h2 ⟨_, rfl, h4.dl⟩) rv fun σ' _ R' => hk a F0 F σ' _ D R' q⟩
theorem run_popAt {i : Nat} {l : List α} {mi : M Int} {k : Int → α → M Ω} {ti : TE} (h : ρ[i]? = some (some (.ow l))) (hi : Ev G B E md ρ ti mi) (ht : Tgt G B .F g ts bind) (hk : ∀ j a, Run G B E post (bind a (ρ.set i (some (.ow (l.eraseIdx ((seqIndex? j l.length).getD 0)))))) rest (k j a)) :
    Run G B E post ρ (tSeq (tAsg (tBM G.K "list" rPopAt (tVar i) (tCons ti tNil)) g) rest) (mi.b fun j => .chk (-(2 ^ 63) ≤ j ∧ j < 2 ^ 63) ((M.get ((seqIndex? j l.length).bind fun n => l[n]?)).b (k j))) := fun F0 F σ H D R q => by
  obtain ⟨p, o, e, h1, h2, h3, vs, rfl, h4⟩ := R.ow h
  refine ⟨_, e, .inl ⟨rfl, vs, .of h3⟩, hi.go R q fun j F1 u H1 e1 r1 R1 q => ?_⟩
  obtain ⟨c, q⟩ := M.P_chk.mp q
  obtain ⟨a, ea, q⟩ := M.P_get.mp (M.P_b.mp q)
  cases en : seqIndex? j l.length with
  | none => rw [en] at ea; cases ea
  | some n =>
    rw [en] at ea
    obtain ⟨v, ev, rv⟩ := (reps_mono e1.f h4).get' ea
    have R2 := R1.change (i := i) (a := l.eraseIdx n) h rfl e h1 (e1.non h3 h2) ⟨_, rfl, (reps_mono e1.f h4).erase n⟩
    have hk' := hk j a
    rw [en] at hk'
    exact ⟨p, vs, j, n, v, rfl, by rw [show u = .int j from r1], e1.h _ _ h3, c.1, c.2, by rw [h4.len]; exact en, ev, ht F0 F1 _ σ _ v a _ R2 rv fun σ' _ R' => hk' F0 F1 σ' _ D R' q⟩
section
variable {κ : Type} [Rp κ] [DecidableEq κ]
theorem any_keys {K L : Type} [DecidableEq K] [DecidableEq L] {f : L → K} (inj : ∀ {a b}, f a = f b → a = b) {R : K × V → L × α → Prop} (hR : ∀ p q, R p q → p.1 = f q.1) (k : L) : ∀ {kvs : List (K × V)} {l : List (L × α)}, All2 R kvs l → (kvs.any fun kv => decide (kv.1 = f k)) = l.any fun p => decide (p.1 = k)
  | _, _, .nil => rfl
  | _, _, .cons (a := p) (b := q) h t => by
    rw [List.any_cons, List.any_cons, any_keys inj hR k t]
    congr 1
    rw [hR _ _ h]
    exact Bool.eq_iff_iff.mpr (by rw [decide_eq_true_iff, decide_eq_true_iff]; exact ⟨fun e => inj e, fun e => by rw [e]⟩)
theorem map_keys {K L : Type} [DecidableEq K] [DecidableEq L] {f : L → K} (inj : ∀ {a b}, f a = f b → a = b) {H : Hp} (k : L) {v : V} {a : α} (r : rep G H v a) : ∀ {kvs : List (K × V)} {l : List (L × α)}, All2 (fun p q => p.1 = f q.1 ∧ rep G H p.2 q.2) kvs l →
    All2 (fun p q => p.1 = f q.1 ∧ rep G H p.2 q.2) (kvs.map fun kv => if kv.1 = f k then (kv.1, v) else kv) (l.map fun p => if p.1 = k then (p.1, a) else p)
  | _, _, .nil => .nil
  | _, _, .cons (a := p) (b := q) h t => by
    rw [List.map_cons, List.map_cons]
    refine .cons ?_ (map_keys inj k r t)
    by_cases e : q.1 = k
    · rw [if_pos (by rw [h.1, e]), if_pos e]
      exact ⟨h.1, r⟩
    · rw [if_neg (by rw [h.1]; exact fun w => e (inj w)), if_neg e]
      exact h
theorem put_keys {K L : Type} [DecidableEq K] [DecidableEq L] {f : L → K} (inj : ∀ {a b}, f a = f b → a = b) {H : Hp} (k : L) {v : V} {a : α} (r : rep G H v a) {kvs : List (K × V)} {l : List (L × α)} (h : All2 (fun p q => p.1 = f q.1 ∧ rep G H p.2 q.2) kvs l) :
    All2 (fun p q => p.1 = f q.1 ∧ rep G H p.2 q.2) (putK kvs (f k) v) (dput l k a) := by
  unfold putK dput
  rw [any_keys inj (fun p q z => z.1) k h]
  split
  · exact map_keys inj k r h
  · exact h.snoc ⟨rfl, r⟩
theorem run_dputK [Ky κ] {i : Nat} {d : Dk κ α} {mk : M κ} {m : M α} {k : α → κ → M Ω} {tk : TE} (h : ρ[i]? = some (some (.ow d))) (he : Ev G B E .F ρ te m) (hk : Ev G B E md ρ tk mk) (hn : ∀ a x, Run G B E post (ρ.set i (some (.ow (⟨dput d.l x a⟩ : Dk κ α)))) rest (k a x)) :
    Run G B E post ρ (tSeq (sDPut (tVar i) tk te) rest) (m.b fun a => mk.b fun x => .chk (d.l.length < sizeLine) (k a x)) := fun F0 F σ H D R q => by
  obtain ⟨p, o, e, h1, h2, h3, kvs, rfl, h4⟩ := R.ow h
  refine he.go R q fun a F1 v H1 e1 r1 R1 q => ⟨_, e, hk.go R1 q fun x F2 u H2 e2 r2 R2 q => ?_⟩
  obtain ⟨c, q⟩ := M.P_chk.mp q
  have e' := e1.trans e2
  refine ⟨p, _, rfl, .inl ⟨kvs, Ky.key x, e'.h _ _ h3, (Ky.iff _ _ _ _).mp r2, by rw [h4.len]; exact c, rfl⟩, hn a x F0 F2 σ _ D ?_ q⟩
  exact R2.change h rfl e h1 (e'.non h3 h2) ⟨_, rfl, put_keys (fun z => Ky.inj z) x (Rp.mono e2.f r1) (repk_mono e'.f h4)⟩
theorem run_dputT [Kt κ] {i : Nat} {d : Dt κ α} {mk : M κ} {m : M α} {k : α → κ → M Ω} {tk : TE} (h : ρ[i]? = some (some (.ow d))) (he : Ev G B E .F ρ te m) (hk : Ev G B E md ρ tk mk) (hn : ∀ a x, Run G B E post (ρ.set i (some (.ow (⟨dput d.l x a⟩ : Dt κ α)))) rest (k a x)) :
    Run G B E post ρ (tSeq (sDPut (tVar i) tk te) rest) (m.b fun a => mk.b fun x => .chk (d.l.length < sizeLine) (k a x)) := fun F0 F σ H D R q => by
  obtain ⟨p, o, e, h1, h2, h3, kvs, rfl, h4⟩ := R.ow h
  refine he.go R q fun a F1 v H1 e1 r1 R1 q => ⟨_, e, hk.toH.go R1 q fun x F2 u H2 e2 r2 R2 q => ?_⟩
  obtain ⟨c, q⟩ := M.P_chk.mp q
  obtain ⟨b, rfl, hb⟩ := (Kt.iff _ _ _ _).mp r2
  have e' := e1.trans e2
  refine ⟨p, _, rfl, .inr ⟨kvs, Kt.key x, b, e'.h _ _ h3, rfl, hb, by rw [h4.len]; exact c, rfl⟩, hn a x F0 F2 σ _ D ?_ q⟩
  exact R2.change h rfl e h1 (e'.non h3 h2) ⟨_, rfl, put_keys (fun z => Kt.inj z) x (Rp.mono e2.f r1) (rept_mono e'.f h4)⟩
end
/-! ### tests -/
theorem run_if {c : TT} {mc : M Bool} {m n : M Ω} (hc : EvT G B E ρ c mc) (h1 : Run G B E post ρ t1 m) (h2 : Run G B E post ρ t2 n) : Run G B E post ρ (tIfS c t1 t2) (mc.b fun x => if x = true then m else n) := fun F0 F σ H D R q =>
  hc.go R q fun x F' H' e R' q => by
    cases x with
    | true => exact iteT (h1 F0 F' σ H' D R' q)
    | false => exact iteF (h2 F0 F' σ H' D R' q)
theorem run_ifS {c : TT} {mc : M Bool} {m n : M Ω} (hc : EvT G B E ρ c mc) (h1 : Run G B E post ρ (tSeq t1 rest) m) (h2 : Run G B E post ρ (tSeq t2 rest) n) : Run G B E post ρ (tSeq (tIfS c t1 t2) rest) (mc.b fun x => if x = true then m else n) := fun F0 F σ H D R q =>
  hc.go R q fun x F' H' e R' q => by
    cases x with
    | true => exact iteT (h1 F0 F' σ H' D R' q)
    | false => exact iteF (h2 F0 F' σ H' D R' q)
/-! ### what is told -/
theorem run_ret {m : M α} (h : Ev G B E .F ρ te m) : Run G B E (oR G B (rpF G)) ρ (tRet te) m := fun F0 F σ H D R q => h F0 F σ H _ R (q.imp (fun a k F' v H' e s r => k F' v H' (R.ext e s).fin r) fun _ x => x)
theorem run_retS {m : M α} (h : Ev G B E .F ρ te m) : Run G B E (oR G B (rpF G)) ρ (tSeq (tRet te) rest) m := run_ret h
theorem run_retC {m : M α} (h : Ev G B E .F ρ te m) : Run G B E (oC G B EX (rpF G)) ρ (tRet te) (m.b fun a => .ok (.inr a)) := fun F0 F σ H D R q => h.go R q fun a F' v H' e r R' q => q F' v H' R'.fin r
theorem run_retCS {m : M α} (h : Ev G B E .F ρ te m) : Run G B E (oC G B EX (rpF G)) ρ (tSeq (tRet te) rest) (m.b fun a => .ok (.inr a)) := run_retC h
theorem run_retN [Rc α] {m : M α} (h : EvN G B E ρ te m) : Run G B E (oR G B (rpN G)) ρ (tRet te) m := fun F0 F σ H D R q => h F0 F σ H _ R (q.imp (fun a k F' p o H' e s h1 h2 h3 h4 => k F' _ H' (R.ext e s).fin ⟨p, o, rfl, R.sB.free h1, h2, h3, h4⟩) fun _ x => x)
theorem run_retNS [Rc α] {m : M α} (h : EvN G B E ρ te m) : Run G B E (oR G B (rpN G)) ρ (tSeq (tRet te) rest) m := run_retN h
theorem run_retO [Rc α] {i : Nat} {a : α} (h : ρ[i]? = some (some (.ow a))) : Run G B E (oR G B (rpN G)) ρ (tRet (tVar i)) (.ok a) := fun F0 F σ H D R q => by
  obtain ⟨p, o, e, h1, h2, h3, h4⟩ := R.ow h
  exact ⟨_, e, q F _ H R.fin ⟨p, o, rfl, h1, h2, h3, h4⟩⟩
theorem run_retOS [Rc α] {i : Nat} {a : α} (h : ρ[i]? = some (some (.ow a))) : Run G B E (oR G B (rpN G)) ρ (tSeq (tRet (tVar i)) rest) (.ok a) := run_retO h
theorem run_retV : Run G B E (oV G B) ρ tRetN (.ok ()) := fun F0 F σ H D R q => (q F σ H R.fin).2
theorem run_retVS : Run G B E (oV G B) ρ (tSeq tRetN rest) (.ok ()) := fun F0 F σ H D R q => (q F σ H R.fin).2
/-! ### loops -/
theorem run_for {α : Type} {wi : TI} {bind : α → Evr → Evr} {mx : M (List α)} {f : S → α → M S} {s0 : S} (hw : EvW G B E true ρ wi g ts bind mx) (h0 : Wk ρ (EX s0)) (hb : ∀ s x, Run G B E (oN G B EX) (bind x (EX s)) t (f s x)) :
    Run G B E (oN G B EX) ρ (tFor wi g t) (mx.b fun xs => M.for_ f xs s0) := fun F0 F σ H D R q => hw F0 F σ H _ R ((M.P_b.mp q).imp (fun xs q F1 H1 J e1 s1 wk => by
  have R1 := R.ext e1 s1
  refine ⟨fun i k σ2 H2 => k = xs.length - i ∧ i ≤ xs.length ∧ ∃ (F2 : Hp) (s : S), Rel G B F1 F2 (EX s) σ2 H2 ∧ (M.for_ f (xs.drop i) s).P (fun s => oN G B EX F0 s D) (Xc G B E), ⟨xs.length, by simp, Nat.zero_le _, F1, s0, (R1.weak h0).base, by rw [List.drop_zero]; exact q⟩, ?_⟩
  rintro i k σ2 H2 ⟨rfl, hi, F2, s, R2, q2⟩
  obtain ⟨w1, w2⟩ := wk i F1 F2 _ _ H2 ⟨R2.s0, fun z => nomatch z⟩ R2
  by_cases hlt : i < xs.length
  · have hx : xs[i]? = some xs[i] := List.getElem?_eq_getElem hlt
    obtain ⟨g1, g2⟩ := w2 xs[i] hx
    rw [List.drop_eq_getElem_cons hlt] at q2
    refine .inr ⟨g1, fun σ3 H3 => ∃ m', m' < xs.length - i ∧ (m' = xs.length - (i + 1) ∧ i + 1 ≤ xs.length ∧ ∃ (F2 : Hp) (s : S), Rel G B F1 F2 (EX s) σ3 H3 ∧ (M.for_ f (xs.drop (i + 1)) s).P (fun s => oN G B EX F0 s D) (Xc G B E)), fun _ _ z => z, fun v H3 hy => g2 v H3 hy _ fun F3 σ3 H4 e3 _ R3 => ?_⟩
    refine hb s xs[i] F1 F3 σ3 H4 _ R3 ((M.P_b.mp q2).imp (fun s' q3 F' σ' H' R' => ⟨_, by omega, rfl, hlt, F', s', R', q3⟩) fun _ x => x)
  · have e : i = xs.length := by omega
    subst e
    rw [List.drop_length] at q2
    exact .inl ⟨w1 (Nat.le_refl _), q2 F2 σ2 H2 (R1.under R2)⟩) fun _ x => x)
theorem run_forR {α : Type} {wi : TI} {bind : α → Evr → Evr} {mx : M (List α)} {f : S → α → M (S ⊕ R)} {s0 : S} (hw : EvW G B E true ρ wi g ts bind mx) (h0 : Wk ρ (EX s0)) (hb : ∀ s x, Run G B E (oC G B EX rp) (bind x (EX s)) t (f s x)) :
    Run G B E (oC G B EX rp) ρ (tFor wi g t) (mx.b fun xs => M.forR f xs s0) := fun F0 F σ H D RR q => hw F0 F σ H _ RR ((M.P_b.mp q).imp (fun xs q F1 H1 J e1 s1 wk => by
  have R1 := RR.ext e1 s1
  refine ⟨fun i k σ2 H2 => k = xs.length - i ∧ i ≤ xs.length ∧ ∃ (F2 : Hp) (s : S), Rel G B F1 F2 (EX s) σ2 H2 ∧ (M.forR f (xs.drop i) s).P (fun s => oC G B EX rp F0 s D) (Xc G B E), ⟨xs.length, by simp, Nat.zero_le _, F1, s0, (R1.weak h0).base, by rw [List.drop_zero]; exact q⟩, ?_⟩
  rintro i k σ2 H2 ⟨rfl, hi, F2, s, R2, q2⟩
  obtain ⟨w1, w2⟩ := wk i F1 F2 _ _ H2 ⟨R2.s0, fun z => nomatch z⟩ R2
  by_cases hlt : i < xs.length
  · have hx : xs[i]? = some xs[i] := List.getElem?_eq_getElem hlt
    obtain ⟨g1, g2⟩ := w2 xs[i] hx
    rw [List.drop_eq_getElem_cons hlt, M.forR_cons] at q2
    refine .inr ⟨g1, fun σ3 H3 => ∃ m', m' < xs.length - i ∧ (m' = xs.length - (i + 1) ∧ i + 1 ≤ xs.length ∧ ∃ (F2 : Hp) (s : S), Rel G B F1 F2 (EX s) σ3 H3 ∧ (M.forR f (xs.drop (i + 1)) s).P (fun s => oC G B EX rp F0 s D) (Xc G B E)), fun _ _ z => z, fun v H3 hy => g2 v H3 hy _ fun F3 σ3 H4 e3 _ R3 => ?_⟩
    refine hb s xs[i] F1 F3 σ3 H4 _ R3 ((M.P_b.mp q2).imp (fun c q3 => ?_) fun _ x => x)
    cases c with
    | inl s' => exact fun F' σ' H' R' => ⟨_, by omega, rfl, hlt, F', s', R', q3⟩
    | inr r => exact fun F' v H' f h => q3 F' v H' (Fin.under R1 f) h
  · have e : i = xs.length := by omega
    subst e
    rw [List.drop_length] at q2
    exact .inl ⟨w1 (Nat.le_refl _), q2 F2 σ2 H2 (R1.under R2)⟩) fun _ x => x)
theorem run_while {c : TT} {mc : S → M Bool} {f : S → M S} {s0 : S} (hc : ∀ s, EvT G B E (EX s) c (mc s)) (h0 : Wk ρ (EX s0)) (hb : ∀ s, Run G B E (oN G B EX) (EX s) t (f s)) : Run G B E (oN G B EX) ρ (tWhile c t) (M.wh mc f s0) := fun F0 F σ H D R q => by
  obtain ⟨n, r, e, q⟩ := M.P_wh q
  refine ⟨fun k σ2 H2 => ∃ (F2 : Hp) (s : S) (r : M S), Rel G B F0 F2 (EX s) σ2 H2 ∧ M.whN mc f k s = some r ∧ r.P (fun s => oN G B EX F0 s D) (Xc G B E), ⟨n, F, s0, r, R.weak h0, e, q⟩, ?_⟩
  rintro k σ2 H2 ⟨F2, s, r, R2, e, q⟩
  cases k with
  | zero => cases e
  | succ k =>
    refine hc s F0 F2 σ2 H2 _ R2 ?_
    unfold M.whN at e
    cases hm : mc s with
    | ok x =>
      rw [hm] at e
      cases x with
      | true =>
        refine fun F' H' ex sx => iteT ⟨fun σ3 H3 => ∃ m', m' < k + 1 ∧ ∃ (F2 : Hp) (s : S) (r : M S), Rel G B F0 F2 (EX s) σ3 H3 ∧ M.whN mc f m' s = some r ∧ r.P (fun s => oN G B EX F0 s D) (Xc G B E), fun _ _ z => z, hb s F0 F' σ2 H' _ (R2.ext ex sx) ?_⟩
        revert e
        cases f s with
        | ok s' => exact fun e F3 σ3 H3 R3 => ⟨k, Nat.lt_succ_self _, F3, s', r, R3, e, q⟩
        | exc y => exact fun e => by cases e; exact q
        | bad => exact fun e => nomatch e
      | false =>
        cases e
        exact fun F' H' ex sx => iteF (q F' σ2 H' (R2.ext ex sx))
    | exc y => rw [hm] at e; cases e; exact q
    | bad => rw [hm] at e; cases e
end
end Tw

set_option Elab.async false
set_option linter.all false
set_option maxRecDepth 100000
set_option maxHeartbeats 4000000
namespace Tw
open PySem PySem.Spec L2 TL
open PyProof.Rows hiding St
/-! ### texts in order -/
def leS (a b : Str) : Bool := !decide (tl b < tl a)
theorem leS_iff {a b : Str} : leS a b = true ↔ tl a ≤ tl b := by
  unfold leS
  rw [Bool.not_eq_true', decide_eq_false_iff_not]
  exact List.not_lt
theorem leS_trans (a b c : Str) (h1 : leS a b = true) (h2 : leS b c = true) : leS a c = true := leS_iff.mpr (List.le_trans (leS_iff.mp h1) (leS_iff.mp h2))
theorem leS_total (a b : Str) : (leS a b || leS b a) = true := by
  rw [Bool.or_eq_true]
  rcases List.le_total (tl a) (tl b) with h | h
  · exact .inl (leS_iff.mpr h)
  · exact .inr (leS_iff.mpr h)
theorem leS_anti {a b : Str} (h1 : leS a b = true) (h2 : leS b a = true) : a = b := ext_tl (List.le_antisymm (leS_iff.mp h1) (leS_iff.mp h2))
theorem leS_refl (a : Str) : leS a a = true := leS_iff.mpr (List.le_refl _)
abbrev Sorted (l : List Str) : Prop := l.Pairwise fun a b => leS a b = true
def srt (l : List Str) : List Str := l.mergeSort leS
theorem srt_perm (l : List Str) : (srt l).Perm l := List.mergeSort_perm l leS
theorem srt_sorted (l : List Str) : Sorted (srt l) := List.pairwise_mergeSort leS_trans leS_total l
theorem srt_len (l : List Str) : (srt l).length = l.length := (srt_perm l).length_eq
theorem srt_mem {l : List Str} {x : Str} : x ∈ srt l ↔ x ∈ l := (srt_perm l).mem_iff
theorem sorted_eq {l m : List Str} (h1 : Sorted l) (h2 : Sorted m) (p : l.Perm m) : l = m := p.eq_of_pairwise (fun _ _ _ _ a b => leS_anti a b) h1 h2
theorem srt_of {l : List Str} (h : Sorted l) : srt l = l := sorted_eq (srt_sorted l) h (srt_perm l)
theorem srt_congr {l m : List Str} (p : l.Perm m) : srt l = srt m := sorted_eq (srt_sorted l) (srt_sorted m) ((srt_perm l).trans (p.trans (srt_perm m).symm))
theorem rising_pair : ∀ (l : List Str) (x : Str), risingS x l = true → Sorted (x :: l)
  | [], x, _ => by simp
  | y :: r, x, h => by
    unfold risingS at h
    rw [Bool.and_eq_true] at h
    have h1 : leS x y = true := by
      unfold leS
      have := h.1
      rw [ltCps_eq] at this
      exact this
    have h2 := rising_pair r y h.2
    refine List.pairwise_cons.mpr ⟨fun z hz => ?_, h2⟩
    rcases List.mem_cons.mp hz with e | e
    · rw [e]
      exact h1
    · exact leS_trans x y z h1 ((List.pairwise_cons.mp h2).1 z e)
theorem sortedS_pair {l : List Str} (h : sortedS l = true) : Sorted l := by
  cases l with
  | nil => exact .nil
  | cons x r => exact rising_pair r x h
theorem srt_unique {l m : List Str} (p : m.Perm l) (h : sortedS m = true) : m = srt l := sorted_eq (sortedS_pair h) (srt_sorted l) (p.trans (srt_perm l).symm)
/-- two sets with the same things are one -/
theorem set_ext {l m : List Str} (h1 : Sorted l) (h2 : Sorted m) (n1 : l.Nodup) (n2 : m.Nodup) (h : ∀ x, x ∈ l ↔ x ∈ m) : l = m := sorted_eq h1 h2 ((List.perm_ext_iff_of_nodup n1 n2).mpr h)
theorem srt_nodup {l : List Str} (h : l.Nodup) : (srt l).Nodup := (srt_perm l).nodup_iff.mpr h
theorem Sorted.filter {l : List Str} (p : Str → Bool) (h : Sorted l) : Sorted (l.filter p) := List.Pairwise.filter p h

/-! ### in, over texts -/
theorem flat_strs (us : List Str) : (us.map V.str).all flatV = true := by
  rw [List.all_eq_true]
  intro x hx
  obtain ⟨u, _, rfl⟩ := List.mem_map.mp hx
  rfl
theorem in_strs (t : Str) (us : List Str) : inV (.str t) (us.map V.str) = decide (t ∈ us) := by
  unfold inV
  rw [List.any_map]
  by_cases h : t ∈ us
  · rw [decide_eq_true h, List.any_eq_true]
    exact ⟨t, h, by show (t == t) = true; simp⟩
  · rw [decide_eq_false h, List.any_eq_false]
    intro u hu
    show ¬ (u == t) = true
    simp only [beq_iff_eq]
    intro e
    rw [e] at hu
    exact h hu
end Tw

set_option Elab.async false
set_option linter.all false
set_option maxRecDepth 100000
set_option maxHeartbeats 4000000
/-! Calls, defs, locks, sorted. -/
namespace Tw
open PySem PySem.Spec L2 TL
open PyProof.Rows hiding St

/-- nothing is refused -/
def M.cl {α : Type} : M α → M α
  | .exc _ => .bad
  | m => m
@[simp] theorem M.cl_ok {α : Type} (a : α) : M.cl (.ok a) = .ok a := rfl
theorem M.P_cl {α : Type} {m : M α} {p : α → Prop} {x : Str → Prop} (h : m.cl.P p x) : m.P p fun _ => False := by
  cases m with
  | ok a => exact h
  | exc c => exact h
  | bad => exact h
def ArgOk (G : Gb) (F H : Hp) : List Slot → List V → Prop
  | [], [] => True
  | @Slot.fz _ i a :: ss, v :: vs => @Rp.rep _ i G F v a ∧ ArgOk G F H ss vs
  | @Slot.bw _ i a :: ss, v :: vs => @Rp.rep _ i G H v a ∧ ArgOk G F H ss vs
  | _, _ => False
/-- what a def promises: f over plain data -/
def spA (G : Gb) {P R : Type} (sl : P → List Slot) (rp : RP R) (f : P → M R) : Sp := fun vs H Q E => ∃ (p : P) (F0 : Hp), Same F0 H ∧ ArgOk G F0 H (sl p) vs ∧
  (f p).P (fun r => ∀ (F' : Hp) (v : V) (H' : Hp), Fin G H F0 F' H' → rp H F' H' v r → Q v H') (Xc G H E)
/-- how an argument is handed on -/
def Ps {α : Type} [Rp α] (md : Md) (k : α → Slot) : Prop := ∀ {G : Gb} {B F H : Hp} {v : V} {a : α}, Same B H → Same F H → rep G (hpM md F B H) v a → ∀ {ss : List Slot} {vs : List V}, ArgOk G F H ss vs → ArgOk G F H (k a :: ss) (v :: vs)
theorem ps_F {α : Type} [Rp α] : Ps (α := α) .F Slot.fz := fun _ _ r => fun q => ⟨r, q⟩
theorem ps_B {α : Type} [Rp α] {md : Md} : Ps (α := α) md Slot.bw := fun s1 s2 r => fun q => ⟨Rp.mono (hpM_H s1 s2) r, q⟩
theorem ps_S {α : Type} [Rp α] [Sc α] {md : Md} : Ps (α := α) md Slot.fz := fun s1 s2 r => fun q => ⟨(Sc.iff _ _ _ _).mpr ((Sc.iff _ _ _ _).mp r), q⟩
theorem Fin.ext0 {G : Gb} {H F F' H' : Hp} (f : Fin G H F F' H') : Ext F H F' H' := ⟨f.s0, f.sB, f.nw⟩
theorem Xc.mono {G : Gb} {B H : Hp} {E : XK} {c : Str} (h : Xc G B E c) (s : Same B H) : Xc G H E c := fun H' s' => h H' (s.trans s')
section
variable {G : Gb} {B : Hp} {E : XK} {ρ : Evr} {mr : Md}
theorem ev_call0 {R : Type} [Rp R]     {f : M R}  : Ev G B E .F ρ (tCall (spA G (fun (p : Unit) => []) (rpF G) (fun (p : Unit) => f )) [] E0 tNil) (M.cl (f )) := fun F0 F σ H Q R0 q => by
  refine ⟨(), F, R0.sF, trivial, ?_⟩
  refine (M.P_cl q).imp (fun a k F' v H' f h => ?_) fun _ z => z.elim
  have e := f.ext0
  exact k F' v H' e f.sF h
theorem ev_callX0 {R : Type} [Rp R]     {f : M R}  : Ev G B E .F ρ (tCall (spA G (fun (p : Unit) => []) (rpF G) (fun (p : Unit) => f )) [] E tNil) (f ) := fun F0 F σ H Q R0 q => by
  refine ⟨(), F, R0.sF, trivial, ?_⟩
  refine M.P.imp q (fun a k F' v H' f h => ?_) fun _ z => z.mono R0.sB
  have e := f.ext0
  exact k F' v H' e f.sF h
theorem en_call0 {R : Type} [Rp R] [Rc R]     {f : M R}  : EvN G B E ρ (tCall (spA G (fun (p : Unit) => []) (rpN G) (fun (p : Unit) => f )) [] E0 tNil) (M.cl (f )) := fun F0 F σ H Q R0 q => by
  refine ⟨(), F, R0.sF, trivial, ?_⟩
  refine (M.P_cl q).imp (fun a k F' v H' f h => ?_) fun _ z => z.elim
  have e := f.ext0
  obtain ⟨p, o, rfl, h1, h2, h3, h4⟩ := h
  exact k F' p o H' e f.sF h1 h2 h3 h4
theorem en_callX0 {R : Type} [Rp R] [Rc R]     {f : M R}  : EvN G B E ρ (tCall (spA G (fun (p : Unit) => []) (rpN G) (fun (p : Unit) => f )) [] E tNil) (f ) := fun F0 F σ H Q R0 q => by
  refine ⟨(), F, R0.sF, trivial, ?_⟩
  refine M.P.imp q (fun a k F' v H' f h => ?_) fun _ z => z.mono R0.sB
  have e := f.ext0
  obtain ⟨p, o, rfl, h1, h2, h3, h4⟩ := h
  exact k F' p o H' e f.sF h1 h2 h3 h4
theorem ev_callV0     {f : M Unit}  : Ev G B E mr ρ (tCall (spA G (fun (p : Unit) => []) rpV (fun (p : Unit) => f )) [] E0 tNil) (M.cl (f )) := fun F0 F σ H Q R0 q => by
  refine ⟨(), F, R0.sF, trivial, ?_⟩
  refine (M.P_cl q).imp (fun a k F' v H' f h => ?_) fun _ z => z.elim
  have e := f.ext0
  exact k F' v H' e f.sF h
theorem ev_callVX0     {f : M Unit}  : Ev G B E mr ρ (tCall (spA G (fun (p : Unit) => []) rpV (fun (p : Unit) => f )) [] E tNil) (f ) := fun F0 F σ H Q R0 q => by
  refine ⟨(), F, R0.sF, trivial, ?_⟩
  refine M.P.imp q (fun a k F' v H' f h => ?_) fun _ z => z.mono R0.sB
  have e := f.ext0
  exact k F' v H' e f.sF h
theorem ev_call1 {R : Type} [Rp R] {α1 : Type} [Rp α1] {k1 : α1 → Slot} {d1 : Md} {m1 : M α1} {t1 : TE} {f : α1 → M R} (h1 : Ev G B E d1 ρ t1 m1) (p1 : Ps d1 k1) : Ev G B E .F ρ (tCall (spA G (fun (p : α1) => [k1 p]) (rpF G) (fun (p : α1) => f (p))) [] E0 (tCons t1 tNil)) (m1.b fun a1 => M.cl (f a1)) := fun F0 F σ H Q R0 q => by
  refine h1.go R0 q fun a1 F1 v1 H1 e1 r1 R1 q => ?_
  refine ⟨a1, F1, R1.sF, (p1 R1.sB R1.sF r1 trivial), ?_⟩
  refine (M.P_cl q).imp (fun a k F' v H' f h => ?_) fun _ z => z.elim
  have e := f.ext0
  exact k F' v H' (e1.trans e) f.sF h
theorem ev_callX1 {R : Type} [Rp R] {α1 : Type} [Rp α1] {k1 : α1 → Slot} {d1 : Md} {m1 : M α1} {t1 : TE} {f : α1 → M R} (h1 : Ev G B E d1 ρ t1 m1) (p1 : Ps d1 k1) : Ev G B E .F ρ (tCall (spA G (fun (p : α1) => [k1 p]) (rpF G) (fun (p : α1) => f (p))) [] E (tCons t1 tNil)) (m1.b fun a1 => f a1) := fun F0 F σ H Q R0 q => by
  refine h1.go R0 q fun a1 F1 v1 H1 e1 r1 R1 q => ?_
  refine ⟨a1, F1, R1.sF, (p1 R1.sB R1.sF r1 trivial), ?_⟩
  refine M.P.imp q (fun a k F' v H' f h => ?_) fun _ z => z.mono R1.sB
  have e := f.ext0
  exact k F' v H' (e1.trans e) f.sF h
theorem en_call1 {R : Type} [Rp R] [Rc R] {α1 : Type} [Rp α1] {k1 : α1 → Slot} {d1 : Md} {m1 : M α1} {t1 : TE} {f : α1 → M R} (h1 : Ev G B E d1 ρ t1 m1) (p1 : Ps d1 k1) : EvN G B E ρ (tCall (spA G (fun (p : α1) => [k1 p]) (rpN G) (fun (p : α1) => f (p))) [] E0 (tCons t1 tNil)) (m1.b fun a1 => M.cl (f a1)) := fun F0 F σ H Q R0 q => by
  refine h1.go R0 q fun a1 F1 v1 H1 e1 r1 R1 q => ?_
  refine ⟨a1, F1, R1.sF, (p1 R1.sB R1.sF r1 trivial), ?_⟩
  refine (M.P_cl q).imp (fun a k F' v H' f h => ?_) fun _ z => z.elim
  have e := f.ext0
  obtain ⟨p, o, rfl, h1, h2, h3, h4⟩ := h
  exact k F' p o H' (e1.trans e) f.sF (e1.h.free h1) h2 h3 h4
theorem en_callX1 {R : Type} [Rp R] [Rc R] {α1 : Type} [Rp α1] {k1 : α1 → Slot} {d1 : Md} {m1 : M α1} {t1 : TE} {f : α1 → M R} (h1 : Ev G B E d1 ρ t1 m1) (p1 : Ps d1 k1) : EvN G B E ρ (tCall (spA G (fun (p : α1) => [k1 p]) (rpN G) (fun (p : α1) => f (p))) [] E (tCons t1 tNil)) (m1.b fun a1 => f a1) := fun F0 F σ H Q R0 q => by
  refine h1.go R0 q fun a1 F1 v1 H1 e1 r1 R1 q => ?_
  refine ⟨a1, F1, R1.sF, (p1 R1.sB R1.sF r1 trivial), ?_⟩
  refine M.P.imp q (fun a k F' v H' f h => ?_) fun _ z => z.mono R1.sB
  have e := f.ext0
  obtain ⟨p, o, rfl, h1, h2, h3, h4⟩ := h
  exact k F' p o H' (e1.trans e) f.sF (e1.h.free h1) h2 h3 h4
theorem ev_callV1 {α1 : Type} [Rp α1] {k1 : α1 → Slot} {d1 : Md} {m1 : M α1} {t1 : TE} {f : α1 → M Unit} (h1 : Ev G B E d1 ρ t1 m1) (p1 : Ps d1 k1) : Ev G B E mr ρ (tCall (spA G (fun (p : α1) => [k1 p]) rpV (fun (p : α1) => f (p))) [] E0 (tCons t1 tNil)) (m1.b fun a1 => M.cl (f a1)) := fun F0 F σ H Q R0 q => by
  refine h1.go R0 q fun a1 F1 v1 H1 e1 r1 R1 q => ?_
  refine ⟨a1, F1, R1.sF, (p1 R1.sB R1.sF r1 trivial), ?_⟩
  refine (M.P_cl q).imp (fun a k F' v H' f h => ?_) fun _ z => z.elim
  have e := f.ext0
  exact k F' v H' (e1.trans e) f.sF h
theorem ev_callVX1 {α1 : Type} [Rp α1] {k1 : α1 → Slot} {d1 : Md} {m1 : M α1} {t1 : TE} {f : α1 → M Unit} (h1 : Ev G B E d1 ρ t1 m1) (p1 : Ps d1 k1) : Ev G B E mr ρ (tCall (spA G (fun (p : α1) => [k1 p]) rpV (fun (p : α1) => f (p))) [] E (tCons t1 tNil)) (m1.b fun a1 => f a1) := fun F0 F σ H Q R0 q => by
  refine h1.go R0 q fun a1 F1 v1 H1 e1 r1 R1 q => ?_
  refine ⟨a1, F1, R1.sF, (p1 R1.sB R1.sF r1 trivial), ?_⟩
  refine M.P.imp q (fun a k F' v H' f h => ?_) fun _ z => z.mono R1.sB
  have e := f.ext0
  exact k F' v H' (e1.trans e) f.sF h
theorem ev_call2 {R : Type} [Rp R] {α1 : Type} [Rp α1] {α2 : Type} [Rp α2] {k1 : α1 → Slot} {k2 : α2 → Slot} {d1 : Md} {d2 : Md} {m1 : M α1} {t1 : TE} {m2 : M α2} {t2 : TE} {f : α1 → α2 → M R} (h1 : Ev G B E d1 ρ t1 m1) (p1 : Ps d1 k1) (h2 : Ev G B E d2 ρ t2 m2) (p2 : Ps d2 k2) : Ev G B E .F ρ (tCall (spA G (fun (p : α1 × α2) => [k1 p.1, k2 p.2]) (rpF G) (fun (p : α1 × α2) => f (p.1) (p.2))) [] E0 (tCons t1 (tCons t2 tNil))) (m1.b fun a1 => m2.b fun a2 => M.cl (f a1 a2)) := fun F0 F σ H Q R0 q => by
  refine h1.go R0 q fun a1 F1 v1 H1 e1 r1 R1 q => ?_
  refine h2.go R1 q fun a2 F2 v2 H2 e2 r2 R2 q => ?_
  refine ⟨(a1, a2), F2, R2.sF, (p1 R2.sB R2.sF (Rp.mono (hpM_ext e2) r1) (p2 R2.sB R2.sF r2 trivial)), ?_⟩
  refine (M.P_cl q).imp (fun a k F' v H' f h => ?_) fun _ z => z.elim
  have e := f.ext0
  exact k F' v H' ((e1.trans e2).trans e) f.sF h
theorem ev_callX2 {R : Type} [Rp R] {α1 : Type} [Rp α1] {α2 : Type} [Rp α2] {k1 : α1 → Slot} {k2 : α2 → Slot} {d1 : Md} {d2 : Md} {m1 : M α1} {t1 : TE} {m2 : M α2} {t2 : TE} {f : α1 → α2 → M R} (h1 : Ev G B E d1 ρ t1 m1) (p1 : Ps d1 k1) (h2 : Ev G B E d2 ρ t2 m2) (p2 : Ps d2 k2) : Ev G B E .F ρ (tCall (spA G (fun (p : α1 × α2) => [k1 p.1, k2 p.2]) (rpF G) (fun (p : α1 × α2) => f (p.1) (p.2))) [] E (tCons t1 (tCons t2 tNil))) (m1.b fun a1 => m2.b fun a2 => f a1 a2) := fun F0 F σ H Q R0 q => by
  refine h1.go R0 q fun a1 F1 v1 H1 e1 r1 R1 q => ?_
  refine h2.go R1 q fun a2 F2 v2 H2 e2 r2 R2 q => ?_
  refine ⟨(a1, a2), F2, R2.sF, (p1 R2.sB R2.sF (Rp.mono (hpM_ext e2) r1) (p2 R2.sB R2.sF r2 trivial)), ?_⟩
  refine M.P.imp q (fun a k F' v H' f h => ?_) fun _ z => z.mono R2.sB
  have e := f.ext0
  exact k F' v H' ((e1.trans e2).trans e) f.sF h
theorem en_call2 {R : Type} [Rp R] [Rc R] {α1 : Type} [Rp α1] {α2 : Type} [Rp α2] {k1 : α1 → Slot} {k2 : α2 → Slot} {d1 : Md} {d2 : Md} {m1 : M α1} {t1 : TE} {m2 : M α2} {t2 : TE} {f : α1 → α2 → M R} (h1 : Ev G B E d1 ρ t1 m1) (p1 : Ps d1 k1) (h2 : Ev G B E d2 ρ t2 m2) (p2 : Ps d2 k2) : EvN G B E ρ (tCall (spA G (fun (p : α1 × α2) => [k1 p.1, k2 p.2]) (rpN G) (fun (p : α1 × α2) => f (p.1) (p.2))) [] E0 (tCons t1 (tCons t2 tNil))) (m1.b fun a1 => m2.b fun a2 => M.cl (f a1 a2)) := fun F0 F σ H Q R0 q => by
  refine h1.go R0 q fun a1 F1 v1 H1 e1 r1 R1 q => ?_
  refine h2.go R1 q fun a2 F2 v2 H2 e2 r2 R2 q => ?_
  refine ⟨(a1, a2), F2, R2.sF, (p1 R2.sB R2.sF (Rp.mono (hpM_ext e2) r1) (p2 R2.sB R2.sF r2 trivial)), ?_⟩
  refine (M.P_cl q).imp (fun a k F' v H' f h => ?_) fun _ z => z.elim
  have e := f.ext0
  obtain ⟨p, o, rfl, h1, h2, h3, h4⟩ := h
  exact k F' p o H' ((e1.trans e2).trans e) f.sF ((e1.trans e2).h.free h1) h2 h3 h4
theorem en_callX2 {R : Type} [Rp R] [Rc R] {α1 : Type} [Rp α1] {α2 : Type} [Rp α2] {k1 : α1 → Slot} {k2 : α2 → Slot} {d1 : Md} {d2 : Md} {m1 : M α1} {t1 : TE} {m2 : M α2} {t2 : TE} {f : α1 → α2 → M R} (h1 : Ev G B E d1 ρ t1 m1) (p1 : Ps d1 k1) (h2 : Ev G B E d2 ρ t2 m2) (p2 : Ps d2 k2) : EvN G B E ρ (tCall (spA G (fun (p : α1 × α2) => [k1 p.1, k2 p.2]) (rpN G) (fun (p : α1 × α2) => f (p.1) (p.2))) [] E (tCons t1 (tCons t2 tNil))) (m1.b fun a1 => m2.b fun a2 => f a1 a2) := fun F0 F σ H Q R0 q => by
  refine h1.go R0 q fun a1 F1 v1 H1 e1 r1 R1 q => ?_
  refine h2.go R1 q fun a2 F2 v2 H2 e2 r2 R2 q => ?_
  refine ⟨(a1, a2), F2, R2.sF, (p1 R2.sB R2.sF (Rp.mono (hpM_ext e2) r1) (p2 R2.sB R2.sF r2 trivial)), ?_⟩
  refine M.P.imp q (fun a k F' v H' f h => ?_) fun _ z => z.mono R2.sB
  have e := f.ext0
  obtain ⟨p, o, rfl, h1, h2, h3, h4⟩ := h
  exact k F' p o H' ((e1.trans e2).trans e) f.sF ((e1.trans e2).h.free h1) h2 h3 h4
theorem ev_callV2 {α1 : Type} [Rp α1] {α2 : Type} [Rp α2] {k1 : α1 → Slot} {k2 : α2 → Slot} {d1 : Md} {d2 : Md} {m1 : M α1} {t1 : TE} {m2 : M α2} {t2 : TE} {f : α1 → α2 → M Unit} (h1 : Ev G B E d1 ρ t1 m1) (p1 : Ps d1 k1) (h2 : Ev G B E d2 ρ t2 m2) (p2 : Ps d2 k2) : Ev G B E mr ρ (tCall (spA G (fun (p : α1 × α2) => [k1 p.1, k2 p.2]) rpV (fun (p : α1 × α2) => f (p.1) (p.2))) [] E0 (tCons t1 (tCons t2 tNil))) (m1.b fun a1 => m2.b fun a2 => M.cl (f a1 a2)) := fun F0 F σ H Q R0 q => by
  refine h1.go R0 q fun a1 F1 v1 H1 e1 r1 R1 q => ?_
  refine h2.go R1 q fun a2 F2 v2 H2 e2 r2 R2 q => ?_
  refine ⟨(a1, a2), F2, R2.sF, (p1 R2.sB R2.sF (Rp.mono (hpM_ext e2) r1) (p2 R2.sB R2.sF r2 trivial)), ?_⟩
  refine (M.P_cl q).imp (fun a k F' v H' f h => ?_) fun _ z => z.elim
  have e := f.ext0
  exact k F' v H' ((e1.trans e2).trans e) f.sF h
theorem ev_callVX2 {α1 : Type} [Rp α1] {α2 : Type} [Rp α2] {k1 : α1 → Slot} {k2 : α2 → Slot} {d1 : Md} {d2 : Md} {m1 : M α1} {t1 : TE} {m2 : M α2} {t2 : TE} {f : α1 → α2 → M Unit} (h1 : Ev G B E d1 ρ t1 m1) (p1 : Ps d1 k1) (h2 : Ev G B E d2 ρ t2 m2) (p2 : Ps d2 k2) : Ev G B E mr ρ (tCall (spA G (fun (p : α1 × α2) => [k1 p.1, k2 p.2]) rpV (fun (p : α1 × α2) => f (p.1) (p.2))) [] E (tCons t1 (tCons t2 tNil))) (m1.b fun a1 => m2.b fun a2 => f a1 a2) := fun F0 F σ H Q R0 q => by
  refine h1.go R0 q fun a1 F1 v1 H1 e1 r1 R1 q => ?_
  refine h2.go R1 q fun a2 F2 v2 H2 e2 r2 R2 q => ?_
  refine ⟨(a1, a2), F2, R2.sF, (p1 R2.sB R2.sF (Rp.mono (hpM_ext e2) r1) (p2 R2.sB R2.sF r2 trivial)), ?_⟩
  refine M.P.imp q (fun a k F' v H' f h => ?_) fun _ z => z.mono R2.sB
  have e := f.ext0
  exact k F' v H' ((e1.trans e2).trans e) f.sF h
theorem ev_call3 {R : Type} [Rp R] {α1 : Type} [Rp α1] {α2 : Type} [Rp α2] {α3 : Type} [Rp α3] {k1 : α1 → Slot} {k2 : α2 → Slot} {k3 : α3 → Slot} {d1 : Md} {d2 : Md} {d3 : Md} {m1 : M α1} {t1 : TE} {m2 : M α2} {t2 : TE} {m3 : M α3} {t3 : TE} {f : α1 → α2 → α3 → M R} (h1 : Ev G B E d1 ρ t1 m1) (p1 : Ps d1 k1) (h2 : Ev G B E d2 ρ t2 m2) (p2 : Ps d2 k2) (h3 : Ev G B E d3 ρ t3 m3) (p3 : Ps d3 k3) : Ev G B E .F ρ (tCall (spA G (fun (p : α1 × α2 × α3) => [k1 p.1, k2 p.2.1, k3 p.2.2]) (rpF G) (fun (p : α1 × α2 × α3) => f (p.1) (p.2.1) (p.2.2))) [] E0 (tCons t1 (tCons t2 (tCons t3 tNil)))) (m1.b fun a1 => m2.b fun a2 => m3.b fun a3 => M.cl (f a1 a2 a3)) := fun F0 F σ H Q R0 q => by
  refine h1.go R0 q fun a1 F1 v1 H1 e1 r1 R1 q => ?_
  refine h2.go R1 q fun a2 F2 v2 H2 e2 r2 R2 q => ?_
  refine h3.go R2 q fun a3 F3 v3 H3 e3 r3 R3 q => ?_
  refine ⟨(a1, a2, a3), F3, R3.sF, (p1 R3.sB R3.sF (Rp.mono (hpM_ext e3) (Rp.mono (hpM_ext e2) r1)) (p2 R3.sB R3.sF (Rp.mono (hpM_ext e3) r2) (p3 R3.sB R3.sF r3 trivial))), ?_⟩
  refine (M.P_cl q).imp (fun a k F' v H' f h => ?_) fun _ z => z.elim
  have e := f.ext0
  exact k F' v H' (((e1.trans e2).trans e3).trans e) f.sF h
theorem ev_callX3 {R : Type} [Rp R] {α1 : Type} [Rp α1] {α2 : Type} [Rp α2] {α3 : Type} [Rp α3] {k1 : α1 → Slot} {k2 : α2 → Slot} {k3 : α3 → Slot} {d1 : Md} {d2 : Md} {d3 : Md} {m1 : M α1} {t1 : TE} {m2 : M α2} {t2 : TE} {m3 : M α3} {t3 : TE} {f : α1 → α2 → α3 → M R} (h1 : Ev G B E d1 ρ t1 m1) (p1 : Ps d1 k1) (h2 : Ev G B E d2 ρ t2 m2) (p2 : Ps d2 k2) (h3 : Ev G B E d3 ρ t3 m3) (p3 : Ps d3 k3) : Ev G B E .F ρ (tCall (spA G (fun (p : α1 × α2 × α3) => [k1 p.1, k2 p.2.1, k3 p.2.2]) (rpF G) (fun (p : α1 × α2 × α3) => f (p.1) (p.2.1) (p.2.2))) [] E (tCons t1 (tCons t2 (tCons t3 tNil)))) (m1.b fun a1 => m2.b fun a2 => m3.b fun a3 => f a1 a2 a3) := fun F0 F σ H Q R0 q => by
  refine h1.go R0 q fun a1 F1 v1 H1 e1 r1 R1 q => ?_
  refine h2.go R1 q fun a2 F2 v2 H2 e2 r2 R2 q => ?_
  refine h3.go R2 q fun a3 F3 v3 H3 e3 r3 R3 q => ?_
  refine ⟨(a1, a2, a3), F3, R3.sF, (p1 R3.sB R3.sF (Rp.mono (hpM_ext e3) (Rp.mono (hpM_ext e2) r1)) (p2 R3.sB R3.sF (Rp.mono (hpM_ext e3) r2) (p3 R3.sB R3.sF r3 trivial))), ?_⟩
  refine M.P.imp q (fun a k F' v H' f h => ?_) fun _ z => z.mono R3.sB
  have e := f.ext0
  exact k F' v H' (((e1.trans e2).trans e3).trans e) f.sF h
theorem en_call3 {R : Type} [Rp R] [Rc R] {α1 : Type} [Rp α1] {α2 : Type} [Rp α2] {α3 : Type} [Rp α3] {k1 : α1 → Slot} {k2 : α2 → Slot} {k3 : α3 → Slot} {d1 : Md} {d2 : Md} {d3 : Md} {m1 : M α1} {t1 : TE} {m2 : M α2} {t2 : TE} {m3 : M α3} {t3 : TE} {f : α1 → α2 → α3 → M R} (h1 : Ev G B E d1 ρ t1 m1) (p1 : Ps d1 k1) (h2 : Ev G B E d2 ρ t2 m2) (p2 : Ps d2 k2) (h3 : Ev G B E d3 ρ t3 m3) (p3 : Ps d3 k3) : EvN G B E ρ (tCall (spA G (fun (p : α1 × α2 × α3) => [k1 p.1, k2 p.2.1, k3 p.2.2]) (rpN G) (fun (p : α1 × α2 × α3) => f (p.1) (p.2.1) (p.2.2))) [] E0 (tCons t1 (tCons t2 (tCons t3 tNil)))) (m1.b fun a1 => m2.b fun a2 => m3.b fun a3 => M.cl (f a1 a2 a3)) := fun F0 F σ H Q R0 q => by
  refine h1.go R0 q fun a1 F1 v1 H1 e1 r1 R1 q => ?_
  refine h2.go R1 q fun a2 F2 v2 H2 e2 r2 R2 q => ?_
  refine h3.go R2 q fun a3 F3 v3 H3 e3 r3 R3 q => ?_
  refine ⟨(a1, a2, a3), F3, R3.sF, (p1 R3.sB R3.sF (Rp.mono (hpM_ext e3) (Rp.mono (hpM_ext e2) r1)) (p2 R3.sB R3.sF (Rp.mono (hpM_ext e3) r2) (p3 R3.sB R3.sF r3 trivial))), ?_⟩
  refine (M.P_cl q).imp (fun a k F' v H' f h => ?_) fun _ z => z.elim
  have e := f.ext0
  obtain ⟨p, o, rfl, h1, h2, h3, h4⟩ := h
  exact k F' p o H' (((e1.trans e2).trans e3).trans e) f.sF (((e1.trans e2).trans e3).h.free h1) h2 h3 h4
theorem en_callX3 {R : Type} [Rp R] [Rc R] {α1 : Type} [Rp α1] {α2 : Type} [Rp α2] {α3 : Type} [Rp α3] {k1 : α1 → Slot} {k2 : α2 → Slot} {k3 : α3 → Slot} {d1 : Md} {d2 : Md} {d3 : Md} {m1 : M α1} {t1 : TE} {m2 : M α2} {t2 : TE} {m3 : M α3} {t3 : TE} {f : α1 → α2 → α3 → M R} (h1 : Ev G B E d1 ρ t1 m1) (p1 : Ps d1 k1) (h2 : Ev G B E d2 ρ t2 m2) (p2 : Ps d2 k2) (h3 : Ev G B E d3 ρ t3 m3) (p3 : Ps d3 k3) : EvN G B E ρ (tCall (spA G (fun (p : α1 × α2 × α3) => [k1 p.1, k2 p.2.1, k3 p.2.2]) (rpN G) (fun (p : α1 × α2 × α3) => f (p.1) (p.2.1) (p.2.2))) [] E (tCons t1 (tCons t2 (tCons t3 tNil)))) (m1.b fun a1 => m2.b fun a2 => m3.b fun a3 => f a1 a2 a3) := fun F0 F σ H Q R0 q => by
  refine h1.go R0 q fun a1 F1 v1 H1 e1 r1 R1 q => ?_
  refine h2.go R1 q fun a2 F2 v2 H2 e2 r2 R2 q => ?_
  refine h3.go R2 q fun a3 F3 v3 H3 e3 r3 R3 q => ?_
  refine ⟨(a1, a2, a3), F3, R3.sF, (p1 R3.sB R3.sF (Rp.mono (hpM_ext e3) (Rp.mono (hpM_ext e2) r1)) (p2 R3.sB R3.sF (Rp.mono (hpM_ext e3) r2) (p3 R3.sB R3.sF r3 trivial))), ?_⟩
  refine M.P.imp q (fun a k F' v H' f h => ?_) fun _ z => z.mono R3.sB
  have e := f.ext0
  obtain ⟨p, o, rfl, h1, h2, h3, h4⟩ := h
  exact k F' p o H' (((e1.trans e2).trans e3).trans e) f.sF (((e1.trans e2).trans e3).h.free h1) h2 h3 h4
theorem ev_callV3 {α1 : Type} [Rp α1] {α2 : Type} [Rp α2] {α3 : Type} [Rp α3] {k1 : α1 → Slot} {k2 : α2 → Slot} {k3 : α3 → Slot} {d1 : Md} {d2 : Md} {d3 : Md} {m1 : M α1} {t1 : TE} {m2 : M α2} {t2 : TE} {m3 : M α3} {t3 : TE} {f : α1 → α2 → α3 → M Unit} (h1 : Ev G B E d1 ρ t1 m1) (p1 : Ps d1 k1) (h2 : Ev G B E d2 ρ t2 m2) (p2 : Ps d2 k2) (h3 : Ev G B E d3 ρ t3 m3) (p3 : Ps d3 k3) : Ev G B E mr ρ (tCall (spA G (fun (p : α1 × α2 × α3) => [k1 p.1, k2 p.2.1, k3 p.2.2]) rpV (fun (p : α1 × α2 × α3) => f (p.1) (p.2.1) (p.2.2))) [] E0 (tCons t1 (tCons t2 (tCons t3 tNil)))) (m1.b fun a1 => m2.b fun a2 => m3.b fun a3 => M.cl (f a1 a2 a3)) := fun F0 F σ H Q R0 q => by
  refine h1.go R0 q fun a1 F1 v1 H1 e1 r1 R1 q => ?_
  refine h2.go R1 q fun a2 F2 v2 H2 e2 r2 R2 q => ?_
  refine h3.go R2 q fun a3 F3 v3 H3 e3 r3 R3 q => ?_
  refine ⟨(a1, a2, a3), F3, R3.sF, (p1 R3.sB R3.sF (Rp.mono (hpM_ext e3) (Rp.mono (hpM_ext e2) r1)) (p2 R3.sB R3.sF (Rp.mono (hpM_ext e3) r2) (p3 R3.sB R3.sF r3 trivial))), ?_⟩
  refine (M.P_cl q).imp (fun a k F' v H' f h => ?_) fun _ z => z.elim
  have e := f.ext0
  exact k F' v H' (((e1.trans e2).trans e3).trans e) f.sF h
theorem ev_callVX3 {α1 : Type} [Rp α1] {α2 : Type} [Rp α2] {α3 : Type} [Rp α3] {k1 : α1 → Slot} {k2 : α2 → Slot} {k3 : α3 → Slot} {d1 : Md} {d2 : Md} {d3 : Md} {m1 : M α1} {t1 : TE} {m2 : M α2} {t2 : TE} {m3 : M α3} {t3 : TE} {f : α1 → α2 → α3 → M Unit} (h1 : Ev G B E d1 ρ t1 m1) (p1 : Ps d1 k1) (h2 : Ev G B E d2 ρ t2 m2) (p2 : Ps d2 k2) (h3 : Ev G B E d3 ρ t3 m3) (p3 : Ps d3 k3) : Ev G B E mr ρ (tCall (spA G (fun (p : α1 × α2 × α3) => [k1 p.1, k2 p.2.1, k3 p.2.2]) rpV (fun (p : α1 × α2 × α3) => f (p.1) (p.2.1) (p.2.2))) [] E (tCons t1 (tCons t2 (tCons t3 tNil)))) (m1.b fun a1 => m2.b fun a2 => m3.b fun a3 => f a1 a2 a3) := fun F0 F σ H Q R0 q => by
  refine h1.go R0 q fun a1 F1 v1 H1 e1 r1 R1 q => ?_
  refine h2.go R1 q fun a2 F2 v2 H2 e2 r2 R2 q => ?_
  refine h3.go R2 q fun a3 F3 v3 H3 e3 r3 R3 q => ?_
  refine ⟨(a1, a2, a3), F3, R3.sF, (p1 R3.sB R3.sF (Rp.mono (hpM_ext e3) (Rp.mono (hpM_ext e2) r1)) (p2 R3.sB R3.sF (Rp.mono (hpM_ext e3) r2) (p3 R3.sB R3.sF r3 trivial))), ?_⟩
  refine M.P.imp q (fun a k F' v H' f h => ?_) fun _ z => z.mono R3.sB
  have e := f.ext0
  exact k F' v H' (((e1.trans e2).trans e3).trans e) f.sF h
theorem ev_call4 {R : Type} [Rp R] {α1 : Type} [Rp α1] {α2 : Type} [Rp α2] {α3 : Type} [Rp α3] {α4 : Type} [Rp α4] {k1 : α1 → Slot} {k2 : α2 → Slot} {k3 : α3 → Slot} {k4 : α4 → Slot} {d1 : Md} {d2 : Md} {d3 : Md} {d4 : Md} {m1 : M α1} {t1 : TE} {m2 : M α2} {t2 : TE} {m3 : M α3} {t3 : TE} {m4 : M α4} {t4 : TE} {f : α1 → α2 → α3 → α4 → M R} (h1 : Ev G B E d1 ρ t1 m1) (p1 : Ps d1 k1) (h2 : Ev G B E d2 ρ t2 m2) (p2 : Ps d2 k2) (h3 : Ev G B E d3 ρ t3 m3) (p3 : Ps d3 k3) (h4 : Ev G B E d4 ρ t4 m4) (p4 : Ps d4 k4) : Ev G B E .F ρ (tCall (spA G (fun (p : α1 × α2 × α3 × α4) => [k1 p.1, k2 p.2.1, k3 p.2.2.1, k4 p.2.2.2]) (rpF G) (fun (p : α1 × α2 × α3 × α4) => f (p.1) (p.2.1) (p.2.2.1) (p.2.2.2))) [] E0 (tCons t1 (tCons t2 (tCons t3 (tCons t4 tNil))))) (m1.b fun a1 => m2.b fun a2 => m3.b fun a3 => m4.b fun a4 => M.cl (f a1 a2 a3 a4)) := fun F0 F σ H Q R0 q => by
  refine h1.go R0 q fun a1 F1 v1 H1 e1 r1 R1 q => ?_
  refine h2.go R1 q fun a2 F2 v2 H2 e2 r2 R2 q => ?_
  refine h3.go R2 q fun a3 F3 v3 H3 e3 r3 R3 q => ?_
  refine h4.go R3 q fun a4 F4 v4 H4 e4 r4 R4 q => ?_
  refine ⟨(a1, a2, a3, a4), F4, R4.sF, (p1 R4.sB R4.sF (Rp.mono (hpM_ext e4) (Rp.mono (hpM_ext e3) (Rp.mono (hpM_ext e2) r1))) (p2 R4.sB R4.sF (Rp.mono (hpM_ext e4) (Rp.mono (hpM_ext e3) r2)) (p3 R4.sB R4.sF (Rp.mono (hpM_ext e4) r3) (p4 R4.sB R4.sF r4 trivial)))), ?_⟩
  refine (M.P_cl q).imp (fun a k F' v H' f h => ?_) fun _ z => z.elim
  have e := f.ext0
  exact k F' v H' ((((e1.trans e2).trans e3).trans e4).trans e) f.sF h
theorem ev_callX4 {R : Type} [Rp R] {α1 : Type} [Rp α1] {α2 : Type} [Rp α2] {α3 : Type} [Rp α3] {α4 : Type} [Rp α4] {k1 : α1 → Slot} {k2 : α2 → Slot} {k3 : α3 → Slot} {k4 : α4 → Slot} {d1 : Md} {d2 : Md} {d3 : Md} {d4 : Md} {m1 : M α1} {t1 : TE} {m2 : M α2} {t2 : TE} {m3 : M α3} {t3 : TE} {m4 : M α4} {t4 : TE} {f : α1 → α2 → α3 → α4 → M R} (h1 : Ev G B E d1 ρ t1 m1) (p1 : Ps d1 k1) (h2 : Ev G B E d2 ρ t2 m2) (p2 : Ps d2 k2) (h3 : Ev G B E d3 ρ t3 m3) (p3 : Ps d3 k3) (h4 : Ev G B E d4 ρ t4 m4) (p4 : Ps d4 k4) : Ev G B E .F ρ (tCall (spA G (fun (p : α1 × α2 × α3 × α4) => [k1 p.1, k2 p.2.1, k3 p.2.2.1, k4 p.2.2.2]) (rpF G) (fun (p : α1 × α2 × α3 × α4) => f (p.1) (p.2.1) (p.2.2.1) (p.2.2.2))) [] E (tCons t1 (tCons t2 (tCons t3 (tCons t4 tNil))))) (m1.b fun a1 => m2.b fun a2 => m3.b fun a3 => m4.b fun a4 => f a1 a2 a3 a4) := fun F0 F σ H Q R0 q => by
  refine h1.go R0 q fun a1 F1 v1 H1 e1 r1 R1 q => ?_
  refine h2.go R1 q fun a2 F2 v2 H2 e2 r2 R2 q => ?_
  refine h3.go R2 q fun a3 F3 v3 H3 e3 r3 R3 q => ?_
  refine h4.go R3 q fun a4 F4 v4 H4 e4 r4 R4 q => ?_
  refine ⟨(a1, a2, a3, a4), F4, R4.sF, (p1 R4.sB R4.sF (Rp.mono (hpM_ext e4) (Rp.mono (hpM_ext e3) (Rp.mono (hpM_ext e2) r1))) (p2 R4.sB R4.sF (Rp.mono (hpM_ext e4) (Rp.mono (hpM_ext e3) r2)) (p3 R4.sB R4.sF (Rp.mono (hpM_ext e4) r3) (p4 R4.sB R4.sF r4 trivial)))), ?_⟩
  refine M.P.imp q (fun a k F' v H' f h => ?_) fun _ z => z.mono R4.sB
  have e := f.ext0
  exact k F' v H' ((((e1.trans e2).trans e3).trans e4).trans e) f.sF h
theorem en_call4 {R : Type} [Rp R] [Rc R] {α1 : Type} [Rp α1] {α2 : Type} [Rp α2] {α3 : Type} [Rp α3] {α4 : Type} [Rp α4] {k1 : α1 → Slot} {k2 : α2 → Slot} {k3 : α3 → Slot} {k4 : α4 → Slot} {d1 : Md} {d2 : Md} {d3 : Md} {d4 : Md} {m1 : M α1} {t1 : TE} {m2 : M α2} {t2 : TE} {m3 : M α3} {t3 : TE} {m4 : M α4} {t4 : TE} {f : α1 → α2 → α3 → α4 → M R} (h1 : Ev G B E d1 ρ t1 m1) (p1 : Ps d1 k1) (h2 : Ev G B E d2 ρ t2 m2) (p2 : Ps d2 k2) (h3 : Ev G B E d3 ρ t3 m3) (p3 : Ps d3 k3) (h4 : Ev G B E d4 ρ t4 m4) (p4 : Ps d4 k4) : EvN G B E ρ (tCall (spA G (fun (p : α1 × α2 × α3 × α4) => [k1 p.1, k2 p.2.1, k3 p.2.2.1, k4 p.2.2.2]) (rpN G) (fun (p : α1 × α2 × α3 × α4) => f (p.1) (p.2.1) (p.2.2.1) (p.2.2.2))) [] E0 (tCons t1 (tCons t2 (tCons t3 (tCons t4 tNil))))) (m1.b fun a1 => m2.b fun a2 => m3.b fun a3 => m4.b fun a4 => M.cl (f a1 a2 a3 a4)) := fun F0 F σ H Q R0 q => by
  refine h1.go R0 q fun a1 F1 v1 H1 e1 r1 R1 q => ?_
  refine h2.go R1 q fun a2 F2 v2 H2 e2 r2 R2 q => ?_
  refine h3.go R2 q fun a3 F3 v3 H3 e3 r3 R3 q => ?_
  refine h4.go R3 q fun a4 F4 v4 H4 e4 r4 R4 q => ?_
  refine ⟨(a1, a2, a3, a4), F4, R4.sF, (p1 R4.sB R4.sF (Rp.mono (hpM_ext e4) (Rp.mono (hpM_ext e3) (Rp.mono (hpM_ext e2) r1))) (p2 R4.sB R4.sF (Rp.mono (hpM_ext e4) (Rp.mono (hpM_ext e3) r2)) (p3 R4.sB R4.sF (Rp.mono (hpM_ext e4) r3) (p4 R4.sB R4.sF r4 trivial)))), ?_⟩
  refine (M.P_cl q).imp (fun a k F' v H' f h => ?_) fun _ z => z.elim
  have e := f.ext0
  obtain ⟨p, o, rfl, h1, h2, h3, h4⟩ := h
  exact k F' p o H' ((((e1.trans e2).trans e3).trans e4).trans e) f.sF ((((e1.trans e2).trans e3).trans e4).h.free h1) h2 h3 h4
theorem en_callX4 {R : Type} [Rp R] [Rc R] {α1 : Type} [Rp α1] {α2 : Type} [Rp α2] {α3 : Type} [Rp α3] {α4 : Type} [Rp α4] {k1 : α1 → Slot} {k2 : α2 → Slot} {k3 : α3 → Slot} {k4 : α4 → Slot} {d1 : Md} {d2 : Md} {d3 : Md} {d4 : Md} {m1 : M α1} {t1 : TE} {m2 : M α2} {t2 : TE} {m3 : M α3} {t3 : TE} {m4 : M α4} {t4 : TE} {f : α1 → α2 → α3 → α4 → M R} (h1 : Ev G B E d1 ρ t1 m1) (p1 : Ps d1 k1) (h2 : Ev G B E d2 ρ t2 m2) (p2 : Ps d2 k2) (h3 : Ev G B E d3 ρ t3 m3) (p3 : Ps d3 k3) (h4 : Ev G B E d4 ρ t4 m4) (p4 : Ps d4 k4) : EvN G B E ρ (tCall (spA G (fun (p : α1 × α2 × α3 × α4) => [k1 p.1, k2 p.2.1, k3 p.2.2.1, k4 p.2.2.2]) (rpN G) (fun (p : α1 × α2 × α3 × α4) => f (p.1) (p.2.1) (p.2.2.1) (p.2.2.2))) [] E (tCons t1 (tCons t2 (tCons t3 (tCons t4 tNil))))) (m1.b fun a1 => m2.b fun a2 => m3.b fun a3 => m4.b fun a4 => f a1 a2 a3 a4) := fun F0 F σ H Q R0 q => by
  refine h1.go R0 q fun a1 F1 v1 H1 e1 r1 R1 q => ?_
  refine h2.go R1 q fun a2 F2 v2 H2 e2 r2 R2 q => ?_
  refine h3.go R2 q fun a3 F3 v3 H3 e3 r3 R3 q => ?_
  refine h4.go R3 q fun a4 F4 v4 H4 e4 r4 R4 q => ?_
  refine ⟨(a1, a2, a3, a4), F4, R4.sF, (p1 R4.sB R4.sF (Rp.mono (hpM_ext e4) (Rp.mono (hpM_ext e3) (Rp.mono (hpM_ext e2) r1))) (p2 R4.sB R4.sF (Rp.mono (hpM_ext e4) (Rp.mono (hpM_ext e3) r2)) (p3 R4.sB R4.sF (Rp.mono (hpM_ext e4) r3) (p4 R4.sB R4.sF r4 trivial)))), ?_⟩
  refine M.P.imp q (fun a k F' v H' f h => ?_) fun _ z => z.mono R4.sB
  have e := f.ext0
  obtain ⟨p, o, rfl, h1, h2, h3, h4⟩ := h
  exact k F' p o H' ((((e1.trans e2).trans e3).trans e4).trans e) f.sF ((((e1.trans e2).trans e3).trans e4).h.free h1) h2 h3 h4
theorem ev_callV4 {α1 : Type} [Rp α1] {α2 : Type} [Rp α2] {α3 : Type} [Rp α3] {α4 : Type} [Rp α4] {k1 : α1 → Slot} {k2 : α2 → Slot} {k3 : α3 → Slot} {k4 : α4 → Slot} {d1 : Md} {d2 : Md} {d3 : Md} {d4 : Md} {m1 : M α1} {t1 : TE} {m2 : M α2} {t2 : TE} {m3 : M α3} {t3 : TE} {m4 : M α4} {t4 : TE} {f : α1 → α2 → α3 → α4 → M Unit} (h1 : Ev G B E d1 ρ t1 m1) (p1 : Ps d1 k1) (h2 : Ev G B E d2 ρ t2 m2) (p2 : Ps d2 k2) (h3 : Ev G B E d3 ρ t3 m3) (p3 : Ps d3 k3) (h4 : Ev G B E d4 ρ t4 m4) (p4 : Ps d4 k4) : Ev G B E mr ρ (tCall (spA G (fun (p : α1 × α2 × α3 × α4) => [k1 p.1, k2 p.2.1, k3 p.2.2.1, k4 p.2.2.2]) rpV (fun (p : α1 × α2 × α3 × α4) => f (p.1) (p.2.1) (p.2.2.1) (p.2.2.2))) [] E0 (tCons t1 (tCons t2 (tCons t3 (tCons t4 tNil))))) (m1.b fun a1 => m2.b fun a2 => m3.b fun a3 => m4.b fun a4 => M.cl (f a1 a2 a3 a4)) := fun F0 F σ H Q R0 q => by
  refine h1.go R0 q fun a1 F1 v1 H1 e1 r1 R1 q => ?_
  refine h2.go R1 q fun a2 F2 v2 H2 e2 r2 R2 q => ?_
  refine h3.go R2 q fun a3 F3 v3 H3 e3 r3 R3 q => ?_
  refine h4.go R3 q fun a4 F4 v4 H4 e4 r4 R4 q => ?_
  refine ⟨(a1, a2, a3, a4), F4, R4.sF, (p1 R4.sB R4.sF (Rp.mono (hpM_ext e4) (Rp.mono (hpM_ext e3) (Rp.mono (hpM_ext e2) r1))) (p2 R4.sB R4.sF (Rp.mono (hpM_ext e4) (Rp.mono (hpM_ext e3) r2)) (p3 R4.sB R4.sF (Rp.mono (hpM_ext e4) r3) (p4 R4.sB R4.sF r4 trivial)))), ?_⟩
  refine (M.P_cl q).imp (fun a k F' v H' f h => ?_) fun _ z => z.elim
  have e := f.ext0
  exact k F' v H' ((((e1.trans e2).trans e3).trans e4).trans e) f.sF h
theorem ev_callVX4 {α1 : Type} [Rp α1] {α2 : Type} [Rp α2] {α3 : Type} [Rp α3] {α4 : Type} [Rp α4] {k1 : α1 → Slot} {k2 : α2 → Slot} {k3 : α3 → Slot} {k4 : α4 → Slot} {d1 : Md} {d2 : Md} {d3 : Md} {d4 : Md} {m1 : M α1} {t1 : TE} {m2 : M α2} {t2 : TE} {m3 : M α3} {t3 : TE} {m4 : M α4} {t4 : TE} {f : α1 → α2 → α3 → α4 → M Unit} (h1 : Ev G B E d1 ρ t1 m1) (p1 : Ps d1 k1) (h2 : Ev G B E d2 ρ t2 m2) (p2 : Ps d2 k2) (h3 : Ev G B E d3 ρ t3 m3) (p3 : Ps d3 k3) (h4 : Ev G B E d4 ρ t4 m4) (p4 : Ps d4 k4) : Ev G B E mr ρ (tCall (spA G (fun (p : α1 × α2 × α3 × α4) => [k1 p.1, k2 p.2.1, k3 p.2.2.1, k4 p.2.2.2]) rpV (fun (p : α1 × α2 × α3 × α4) => f (p.1) (p.2.1) (p.2.2.1) (p.2.2.2))) [] E (tCons t1 (tCons t2 (tCons t3 (tCons t4 tNil))))) (m1.b fun a1 => m2.b fun a2 => m3.b fun a3 => m4.b fun a4 => f a1 a2 a3 a4) := fun F0 F σ H Q R0 q => by
  refine h1.go R0 q fun a1 F1 v1 H1 e1 r1 R1 q => ?_
  refine h2.go R1 q fun a2 F2 v2 H2 e2 r2 R2 q => ?_
  refine h3.go R2 q fun a3 F3 v3 H3 e3 r3 R3 q => ?_
  refine h4.go R3 q fun a4 F4 v4 H4 e4 r4 R4 q => ?_
  refine ⟨(a1, a2, a3, a4), F4, R4.sF, (p1 R4.sB R4.sF (Rp.mono (hpM_ext e4) (Rp.mono (hpM_ext e3) (Rp.mono (hpM_ext e2) r1))) (p2 R4.sB R4.sF (Rp.mono (hpM_ext e4) (Rp.mono (hpM_ext e3) r2)) (p3 R4.sB R4.sF (Rp.mono (hpM_ext e4) r3) (p4 R4.sB R4.sF r4 trivial)))), ?_⟩
  refine M.P.imp q (fun a k F' v H' f h => ?_) fun _ z => z.mono R4.sB
  have e := f.ext0
  exact k F' v H' ((((e1.trans e2).trans e3).trans e4).trans e) f.sF h
theorem ev_call5 {R : Type} [Rp R] {α1 : Type} [Rp α1] {α2 : Type} [Rp α2] {α3 : Type} [Rp α3] {α4 : Type} [Rp α4] {α5 : Type} [Rp α5] {k1 : α1 → Slot} {k2 : α2 → Slot} {k3 : α3 → Slot} {k4 : α4 → Slot} {k5 : α5 → Slot} {d1 : Md} {d2 : Md} {d3 : Md} {d4 : Md} {d5 : Md} {m1 : M α1} {t1 : TE} {m2 : M α2} {t2 : TE} {m3 : M α3} {t3 : TE} {m4 : M α4} {t4 : TE} {m5 : M α5} {t5 : TE} {f : α1 → α2 → α3 → α4 → α5 → M R} (h1 : Ev G B E d1 ρ t1 m1) (p1 : Ps d1 k1) (h2 : Ev G B E d2 ρ t2 m2) (p2 : Ps d2 k2) (h3 : Ev G B E d3 ρ t3 m3) (p3 : Ps d3 k3) (h4 : Ev G B E d4 ρ t4 m4) (p4 : Ps d4 k4) (h5 : Ev G B E d5 ρ t5 m5) (p5 : Ps d5 k5) : Ev G B E .F ρ (tCall (spA G (fun (p : α1 × α2 × α3 × α4 × α5) => [k1 p.1, k2 p.2.1, k3 p.2.2.1, k4 p.2.2.2.1, k5 p.2.2.2.2]) (rpF G) (fun (p : α1 × α2 × α3 × α4 × α5) => f (p.1) (p.2.1) (p.2.2.1) (p.2.2.2.1) (p.2.2.2.2))) [] E0 (tCons t1 (tCons t2 (tCons t3 (tCons t4 (tCons t5 tNil)))))) (m1.b fun a1 => m2.b fun a2 => m3.b fun a3 => m4.b fun a4 => m5.b fun a5 => M.cl (f a1 a2 a3 a4 a5)) := fun F0 F σ H Q R0 q => by
  refine h1.go R0 q fun a1 F1 v1 H1 e1 r1 R1 q => ?_
  refine h2.go R1 q fun a2 F2 v2 H2 e2 r2 R2 q => ?_
  refine h3.go R2 q fun a3 F3 v3 H3 e3 r3 R3 q => ?_
  refine h4.go R3 q fun a4 F4 v4 H4 e4 r4 R4 q => ?_
  refine h5.go R4 q fun a5 F5 v5 H5 e5 r5 R5 q => ?_
  refine ⟨(a1, a2, a3, a4, a5), F5, R5.sF, (p1 R5.sB R5.sF (Rp.mono (hpM_ext e5) (Rp.mono (hpM_ext e4) (Rp.mono (hpM_ext e3) (Rp.mono (hpM_ext e2) r1)))) (p2 R5.sB R5.sF (Rp.mono (hpM_ext e5) (Rp.mono (hpM_ext e4) (Rp.mono (hpM_ext e3) r2))) (p3 R5.sB R5.sF (Rp.mono (hpM_ext e5) (Rp.mono (hpM_ext e4) r3)) (p4 R5.sB R5.sF (Rp.mono (hpM_ext e5) r4) (p5 R5.sB R5.sF r5 trivial))))), ?_⟩
  refine (M.P_cl q).imp (fun a k F' v H' f h => ?_) fun _ z => z.elim
  have e := f.ext0
  exact k F' v H' (((((e1.trans e2).trans e3).trans e4).trans e5).trans e) f.sF h
theorem ev_callX5 {R : Type} [Rp R] {α1 : Type} [Rp α1] {α2 : Type} [Rp α2] {α3 : Type} [Rp α3] {α4 : Type} [Rp α4] {α5 : Type} [Rp α5] {k1 : α1 → Slot} {k2 : α2 → Slot} {k3 : α3 → Slot} {k4 : α4 → Slot} {k5 : α5 → Slot} {d1 : Md} {d2 : Md} {d3 : Md} {d4 : Md} {d5 : Md} {m1 : M α1} {t1 : TE} {m2 : M α2} {t2 : TE} {m3 : M α3} {t3 : TE} {m4 : M α4} {t4 : TE} {m5 : M α5} {t5 : TE} {f : α1 → α2 → α3 → α4 → α5 → M R} (h1 : Ev G B E d1 ρ t1 m1) (p1 : Ps d1 k1) (h2 : Ev G B E d2 ρ t2 m2) (p2 : Ps d2 k2) (h3 : Ev G B E d3 ρ t3 m3) (p3 : Ps d3 k3) (h4 : Ev G B E d4 ρ t4 m4) (p4 : Ps d4 k4) (h5 : Ev G B E d5 ρ t5 m5) (p5 : Ps d5 k5) : Ev G B E .F ρ (tCall (spA G (fun (p : α1 × α2 × α3 × α4 × α5) => [k1 p.1, k2 p.2.1, k3 p.2.2.1, k4 p.2.2.2.1, k5 p.2.2.2.2]) (rpF G) (fun (p : α1 × α2 × α3 × α4 × α5) => f (p.1) (p.2.1) (p.2.2.1) (p.2.2.2.1) (p.2.2.2.2))) [] E (tCons t1 (tCons t2 (tCons t3 (tCons t4 (tCons t5 tNil)))))) (m1.b fun a1 => m2.b fun a2 => m3.b fun a3 => m4.b fun a4 => m5.b fun a5 => f a1 a2 a3 a4 a5) := fun F0 F σ H Q R0 q => by
  refine h1.go R0 q fun a1 F1 v1 H1 e1 r1 R1 q => ?_
  refine h2.go R1 q fun a2 F2 v2 H2 e2 r2 R2 q => ?_
  refine h3.go R2 q fun a3 F3 v3 H3 e3 r3 R3 q => ?_
  refine h4.go R3 q fun a4 F4 v4 H4 e4 r4 R4 q => ?_
  refine h5.go R4 q fun a5 F5 v5 H5 e5 r5 R5 q => ?_
  refine ⟨(a1, a2, a3, a4, a5), F5, R5.sF, (p1 R5.sB R5.sF (Rp.mono (hpM_ext e5) (Rp.mono (hpM_ext e4) (Rp.mono (hpM_ext e3) (Rp.mono (hpM_ext e2) r1)))) (p2 R5.sB R5.sF (Rp.mono (hpM_ext e5) (Rp.mono (hpM_ext e4) (Rp.mono (hpM_ext e3) r2))) (p3 R5.sB R5.sF (Rp.mono (hpM_ext e5) (Rp.mono (hpM_ext e4) r3)) (p4 R5.sB R5.sF (Rp.mono (hpM_ext e5) r4) (p5 R5.sB R5.sF r5 trivial))))), ?_⟩
  refine M.P.imp q (fun a k F' v H' f h => ?_) fun _ z => z.mono R5.sB
  have e := f.ext0
  exact k F' v H' (((((e1.trans e2).trans e3).trans e4).trans e5).trans e) f.sF h
theorem en_call5 {R : Type} [Rp R] [Rc R] {α1 : Type} [Rp α1] {α2 : Type} [Rp α2] {α3 : Type} [Rp α3] {α4 : Type} [Rp α4] {α5 : Type} [Rp α5] {k1 : α1 → Slot} {k2 : α2 → Slot} {k3 : α3 → Slot} {k4 : α4 → Slot} {k5 : α5 → Slot} {d1 : Md} {d2 : Md} {d3 : Md} {d4 : Md} {d5 : Md} {m1 : M α1} {t1 : TE} {m2 : M α2} {t2 : TE} {m3 : M α3} {t3 : TE} {m4 : M α4} {t4 : TE} {m5 : M α5} {t5 : TE} {f : α1 → α2 → α3 → α4 → α5 → M R} (h1 : Ev G B E d1 ρ t1 m1) (p1 : Ps d1 k1) (h2 : Ev G B E d2 ρ t2 m2) (p2 : Ps d2 k2) (h3 : Ev G B E d3 ρ t3 m3) (p3 : Ps d3 k3) (h4 : Ev G B E d4 ρ t4 m4) (p4 : Ps d4 k4) (h5 : Ev G B E d5 ρ t5 m5) (p5 : Ps d5 k5) : EvN G B E ρ (tCall (spA G (fun (p : α1 × α2 × α3 × α4 × α5) => [k1 p.1, k2 p.2.1, k3 p.2.2.1, k4 p.2.2.2.1, k5 p.2.2.2.2]) (rpN G) (fun (p : α1 × α2 × α3 × α4 × α5) => f (p.1) (p.2.1) (p.2.2.1) (p.2.2.2.1) (p.2.2.2.2))) [] E0 (tCons t1 (tCons t2 (tCons t3 (tCons t4 (tCons t5 tNil)))))) (m1.b fun a1 => m2.b fun a2 => m3.b fun a3 => m4.b fun a4 => m5.b fun a5 => M.cl (f a1 a2 a3 a4 a5)) := fun F0 F σ H Q R0 q => by
  refine h1.go R0 q fun a1 F1 v1 H1 e1 r1 R1 q => ?_
  refine h2.go R1 q fun a2 F2 v2 H2 e2 r2 R2 q => ?_
  refine h3.go R2 q fun a3 F3 v3 H3 e3 r3 R3 q => ?_
  refine h4.go R3 q fun a4 F4 v4 H4 e4 r4 R4 q => ?_
  refine h5.go R4 q fun a5 F5 v5 H5 e5 r5 R5 q => ?_
  refine ⟨(a1, a2, a3, a4, a5), F5, R5.sF, (p1 R5.sB R5.sF (Rp.mono (hpM_ext e5) (Rp.mono (hpM_ext e4) (Rp.mono (hpM_ext e3) (Rp.mono (hpM_ext e2) r1)))) (p2 R5.sB R5.sF (Rp.mono (hpM_ext e5) (Rp.mono (hpM_ext e4) (Rp.mono (hpM_ext e3) r2))) (p3 R5.sB R5.sF (Rp.mono (hpM_ext e5) (Rp.mono (hpM_ext e4) r3)) (p4 R5.sB R5.sF (Rp.mono (hpM_ext e5) r4) (p5 R5.sB R5.sF r5 trivial))))), ?_⟩
  refine (M.P_cl q).imp (fun a k F' v H' f h => ?_) fun _ z => z.elim
  have e := f.ext0
  obtain ⟨p, o, rfl, h1, h2, h3, h4⟩ := h
  exact k F' p o H' (((((e1.trans e2).trans e3).trans e4).trans e5).trans e) f.sF (((((e1.trans e2).trans e3).trans e4).trans e5).h.free h1) h2 h3 h4
theorem en_callX5 {R : Type} [Rp R] [Rc R] {α1 : Type} [Rp α1] {α2 : Type} [Rp α2] {α3 : Type} [Rp α3] {α4 : Type} [Rp α4] {α5 : Type} [Rp α5] {k1 : α1 → Slot} {k2 : α2 → Slot} {k3 : α3 → Slot} {k4 : α4 → Slot} {k5 : α5 → Slot} {d1 : Md} {d2 : Md} {d3 : Md} {d4 : Md} {d5 : Md} {m1 : M α1} {t1 : TE} {m2 : M α2} {t2 : TE} {m3 : M α3} {t3 : TE} {m4 : M α4} {t4 : TE} {m5 : M α5} {t5 : TE} {f : α1 → α2 → α3 → α4 → α5 → M R} (h1 : Ev G B E d1 ρ t1 m1) (p1 : Ps d1 k1) (h2 : Ev G B E d2 ρ t2 m2) (p2 : Ps d2 k2) (h3 : Ev G B E d3 ρ t3 m3) (p3 : Ps d3 k3) (h4 : Ev G B E d4 ρ t4 m4) (p4 : Ps d4 k4) (h5 : Ev G B E d5 ρ t5 m5) (p5 : Ps d5 k5) : EvN G B E ρ (tCall (spA G (fun (p : α1 × α2 × α3 × α4 × α5) => [k1 p.1, k2 p.2.1, k3 p.2.2.1, k4 p.2.2.2.1, k5 p.2.2.2.2]) (rpN G) (fun (p : α1 × α2 × α3 × α4 × α5) => f (p.1) (p.2.1) (p.2.2.1) (p.2.2.2.1) (p.2.2.2.2))) [] E (tCons t1 (tCons t2 (tCons t3 (tCons t4 (tCons t5 tNil)))))) (m1.b fun a1 => m2.b fun a2 => m3.b fun a3 => m4.b fun a4 => m5.b fun a5 => f a1 a2 a3 a4 a5) := fun F0 F σ H Q R0 q => by
  refine h1.go R0 q fun a1 F1 v1 H1 e1 r1 R1 q => ?_
  refine h2.go R1 q fun a2 F2 v2 H2 e2 r2 R2 q => ?_
  refine h3.go R2 q fun a3 F3 v3 H3 e3 r3 R3 q => ?_
  refine h4.go R3 q fun a4 F4 v4 H4 e4 r4 R4 q => ?_
  refine h5.go R4 q fun a5 F5 v5 H5 e5 r5 R5 q => ?_
  refine ⟨(a1, a2, a3, a4, a5), F5, R5.sF, (p1 R5.sB R5.sF (Rp.mono (hpM_ext e5) (Rp.mono (hpM_ext e4) (Rp.mono (hpM_ext e3) (Rp.mono (hpM_ext e2) r1)))) (p2 R5.sB R5.sF (Rp.mono (hpM_ext e5) (Rp.mono (hpM_ext e4) (Rp.mono (hpM_ext e3) r2))) (p3 R5.sB R5.sF (Rp.mono (hpM_ext e5) (Rp.mono (hpM_ext e4) r3)) (p4 R5.sB R5.sF (Rp.mono (hpM_ext e5) r4) (p5 R5.sB R5.sF r5 trivial))))), ?_⟩
  refine M.P.imp q (fun a k F' v H' f h => ?_) fun _ z => z.mono R5.sB
  have e := f.ext0
  obtain ⟨p, o, rfl, h1, h2, h3, h4⟩ := h
  exact k F' p o H' (((((e1.trans e2).trans e3).trans e4).trans e5).trans e) f.sF (((((e1.trans e2).trans e3).trans e4).trans e5).h.free h1) h2 h3 h4
theorem ev_callV5 {α1 : Type} [Rp α1] {α2 : Type} [Rp α2] {α3 : Type} [Rp α3] {α4 : Type} [Rp α4] {α5 : Type} [Rp α5] {k1 : α1 → Slot} {k2 : α2 → Slot} {k3 : α3 → Slot} {k4 : α4 → Slot} {k5 : α5 → Slot} {d1 : Md} {d2 : Md} {d3 : Md} {d4 : Md} {d5 : Md} {m1 : M α1} {t1 : TE} {m2 : M α2} {t2 : TE} {m3 : M α3} {t3 : TE} {m4 : M α4} {t4 : TE} {m5 : M α5} {t5 : TE} {f : α1 → α2 → α3 → α4 → α5 → M Unit} (h1 : Ev G B E d1 ρ t1 m1) (p1 : Ps d1 k1) (h2 : Ev G B E d2 ρ t2 m2) (p2 : Ps d2 k2) (h3 : Ev G B E d3 ρ t3 m3) (p3 : Ps d3 k3) (h4 : Ev G B E d4 ρ t4 m4) (p4 : Ps d4 k4) (h5 : Ev G B E d5 ρ t5 m5) (p5 : Ps d5 k5) : Ev G B E mr ρ (tCall (spA G (fun (p : α1 × α2 × α3 × α4 × α5) => [k1 p.1, k2 p.2.1, k3 p.2.2.1, k4 p.2.2.2.1, k5 p.2.2.2.2]) rpV (fun (p : α1 × α2 × α3 × α4 × α5) => f (p.1) (p.2.1) (p.2.2.1) (p.2.2.2.1) (p.2.2.2.2))) [] E0 (tCons t1 (tCons t2 (tCons t3 (tCons t4 (tCons t5 tNil)))))) (m1.b fun a1 => m2.b fun a2 => m3.b fun a3 => m4.b fun a4 => m5.b fun a5 => M.cl (f a1 a2 a3 a4 a5)) := fun F0 F σ H Q R0 q => by
  refine h1.go R0 q fun a1 F1 v1 H1 e1 r1 R1 q => ?_
  refine h2.go R1 q fun a2 F2 v2 H2 e2 r2 R2 q => ?_
  refine h3.go R2 q fun a3 F3 v3 H3 e3 r3 R3 q => ?_
  refine h4.go R3 q fun a4 F4 v4 H4 e4 r4 R4 q => ?_
  refine h5.go R4 q fun a5 F5 v5 H5 e5 r5 R5 q => ?_
  refine ⟨(a1, a2, a3, a4, a5), F5, R5.sF, (p1 R5.sB R5.sF (Rp.mono (hpM_ext e5) (Rp.mono (hpM_ext e4) (Rp.mono (hpM_ext e3) (Rp.mono (hpM_ext e2) r1)))) (p2 R5.sB R5.sF (Rp.mono (hpM_ext e5) (Rp.mono (hpM_ext e4) (Rp.mono (hpM_ext e3) r2))) (p3 R5.sB R5.sF (Rp.mono (hpM_ext e5) (Rp.mono (hpM_ext e4) r3)) (p4 R5.sB R5.sF (Rp.mono (hpM_ext e5) r4) (p5 R5.sB R5.sF r5 trivial))))), ?_⟩
  refine (M.P_cl q).imp (fun a k F' v H' f h => ?_) fun _ z => z.elim
  have e := f.ext0
  exact k F' v H' (((((e1.trans e2).trans e3).trans e4).trans e5).trans e) f.sF h
theorem ev_callVX5 {α1 : Type} [Rp α1] {α2 : Type} [Rp α2] {α3 : Type} [Rp α3] {α4 : Type} [Rp α4] {α5 : Type} [Rp α5] {k1 : α1 → Slot} {k2 : α2 → Slot} {k3 : α3 → Slot} {k4 : α4 → Slot} {k5 : α5 → Slot} {d1 : Md} {d2 : Md} {d3 : Md} {d4 : Md} {d5 : Md} {m1 : M α1} {t1 : TE} {m2 : M α2} {t2 : TE} {m3 : M α3} {t3 : TE} {m4 : M α4} {t4 : TE} {m5 : M α5} {t5 : TE} {f : α1 → α2 → α3 → α4 → α5 → M Unit} (h1 : Ev G B E d1 ρ t1 m1) (p1 : Ps d1 k1) (h2 : Ev G B E d2 ρ t2 m2) (p2 : Ps d2 k2) (h3 : Ev G B E d3 ρ t3 m3) (p3 : Ps d3 k3) (h4 : Ev G B E d4 ρ t4 m4) (p4 : Ps d4 k4) (h5 : Ev G B E d5 ρ t5 m5) (p5 : Ps d5 k5) : Ev G B E mr ρ (tCall (spA G (fun (p : α1 × α2 × α3 × α4 × α5) => [k1 p.1, k2 p.2.1, k3 p.2.2.1, k4 p.2.2.2.1, k5 p.2.2.2.2]) rpV (fun (p : α1 × α2 × α3 × α4 × α5) => f (p.1) (p.2.1) (p.2.2.1) (p.2.2.2.1) (p.2.2.2.2))) [] E (tCons t1 (tCons t2 (tCons t3 (tCons t4 (tCons t5 tNil)))))) (m1.b fun a1 => m2.b fun a2 => m3.b fun a3 => m4.b fun a4 => m5.b fun a5 => f a1 a2 a3 a4 a5) := fun F0 F σ H Q R0 q => by
  refine h1.go R0 q fun a1 F1 v1 H1 e1 r1 R1 q => ?_
  refine h2.go R1 q fun a2 F2 v2 H2 e2 r2 R2 q => ?_
  refine h3.go R2 q fun a3 F3 v3 H3 e3 r3 R3 q => ?_
  refine h4.go R3 q fun a4 F4 v4 H4 e4 r4 R4 q => ?_
  refine h5.go R4 q fun a5 F5 v5 H5 e5 r5 R5 q => ?_
  refine ⟨(a1, a2, a3, a4, a5), F5, R5.sF, (p1 R5.sB R5.sF (Rp.mono (hpM_ext e5) (Rp.mono (hpM_ext e4) (Rp.mono (hpM_ext e3) (Rp.mono (hpM_ext e2) r1)))) (p2 R5.sB R5.sF (Rp.mono (hpM_ext e5) (Rp.mono (hpM_ext e4) (Rp.mono (hpM_ext e3) r2))) (p3 R5.sB R5.sF (Rp.mono (hpM_ext e5) (Rp.mono (hpM_ext e4) r3)) (p4 R5.sB R5.sF (Rp.mono (hpM_ext e5) r4) (p5 R5.sB R5.sF r5 trivial))))), ?_⟩
  refine M.P.imp q (fun a k F' v H' f h => ?_) fun _ z => z.mono R5.sB
  have e := f.ext0
  exact k F' v H' (((((e1.trans e2).trans e3).trans e4).trans e5).trans e) f.sF h
theorem ev_call6 {R : Type} [Rp R] {α1 : Type} [Rp α1] {α2 : Type} [Rp α2] {α3 : Type} [Rp α3] {α4 : Type} [Rp α4] {α5 : Type} [Rp α5] {α6 : Type} [Rp α6] {k1 : α1 → Slot} {k2 : α2 → Slot} {k3 : α3 → Slot} {k4 : α4 → Slot} {k5 : α5 → Slot} {k6 : α6 → Slot} {d1 : Md} {d2 : Md} {d3 : Md} {d4 : Md} {d5 : Md} {d6 : Md} {m1 : M α1} {t1 : TE} {m2 : M α2} {t2 : TE} {m3 : M α3} {t3 : TE} {m4 : M α4} {t4 : TE} {m5 : M α5} {t5 : TE} {m6 : M α6} {t6 : TE} {f : α1 → α2 → α3 → α4 → α5 → α6 → M R} (h1 : Ev G B E d1 ρ t1 m1) (p1 : Ps d1 k1) (h2 : Ev G B E d2 ρ t2 m2) (p2 : Ps d2 k2) (h3 : Ev G B E d3 ρ t3 m3) (p3 : Ps d3 k3) (h4 : Ev G B E d4 ρ t4 m4) (p4 : Ps d4 k4) (h5 : Ev G B E d5 ρ t5 m5) (p5 : Ps d5 k5) (h6 : Ev G B E d6 ρ t6 m6) (p6 : Ps d6 k6) : Ev G B E .F ρ (tCall (spA G (fun (p : α1 × α2 × α3 × α4 × α5 × α6) => [k1 p.1, k2 p.2.1, k3 p.2.2.1, k4 p.2.2.2.1, k5 p.2.2.2.2.1, k6 p.2.2.2.2.2]) (rpF G) (fun (p : α1 × α2 × α3 × α4 × α5 × α6) => f (p.1) (p.2.1) (p.2.2.1) (p.2.2.2.1) (p.2.2.2.2.1) (p.2.2.2.2.2))) [] E0 (tCons t1 (tCons t2 (tCons t3 (tCons t4 (tCons t5 (tCons t6 tNil))))))) (m1.b fun a1 => m2.b fun a2 => m3.b fun a3 => m4.b fun a4 => m5.b fun a5 => m6.b fun a6 => M.cl (f a1 a2 a3 a4 a5 a6)) := fun F0 F σ H Q R0 q => by
  refine h1.go R0 q fun a1 F1 v1 H1 e1 r1 R1 q => ?_
  refine h2.go R1 q fun a2 F2 v2 H2 e2 r2 R2 q => ?_
  refine h3.go R2 q fun a3 F3 v3 H3 e3 r3 R3 q => ?_
  refine h4.go R3 q fun a4 F4 v4 H4 e4 r4 R4 q => ?_
  refine h5.go R4 q fun a5 F5 v5 H5 e5 r5 R5 q => ?_
  refine h6.go R5 q fun a6 F6 v6 H6 e6 r6 R6 q => ?_
  refine ⟨(a1, a2, a3, a4, a5, a6), F6, R6.sF, (p1 R6.sB R6.sF (Rp.mono (hpM_ext e6) (Rp.mono (hpM_ext e5) (Rp.mono (hpM_ext e4) (Rp.mono (hpM_ext e3) (Rp.mono (hpM_ext e2) r1))))) (p2 R6.sB R6.sF (Rp.mono (hpM_ext e6) (Rp.mono (hpM_ext e5) (Rp.mono (hpM_ext e4) (Rp.mono (hpM_ext e3) r2)))) (p3 R6.sB R6.sF (Rp.mono (hpM_ext e6) (Rp.mono (hpM_ext e5) (Rp.mono (hpM_ext e4) r3))) (p4 R6.sB R6.sF (Rp.mono (hpM_ext e6) (Rp.mono (hpM_ext e5) r4)) (p5 R6.sB R6.sF (Rp.mono (hpM_ext e6) r5) (p6 R6.sB R6.sF r6 trivial)))))), ?_⟩
  refine (M.P_cl q).imp (fun a k F' v H' f h => ?_) fun _ z => z.elim
  have e := f.ext0
  exact k F' v H' ((((((e1.trans e2).trans e3).trans e4).trans e5).trans e6).trans e) f.sF h
theorem ev_callX6 {R : Type} [Rp R] {α1 : Type} [Rp α1] {α2 : Type} [Rp α2] {α3 : Type} [Rp α3] {α4 : Type} [Rp α4] {α5 : Type} [Rp α5] {α6 : Type} [Rp α6] {k1 : α1 → Slot} {k2 : α2 → Slot} {k3 : α3 → Slot} {k4 : α4 → Slot} {k5 : α5 → Slot} {k6 : α6 → Slot} {d1 : Md} {d2 : Md} {d3 : Md} {d4 : Md} {d5 : Md} {d6 : Md} {m1 : M α1} {t1 : TE} {m2 : M α2} {t2 : TE} {m3 : M α3} {t3 : TE} {m4 : M α4} {t4 : TE} {m5 : M α5} {t5 : TE} {m6 : M α6} {t6 : TE} {f : α1 → α2 → α3 → α4 → α5 → α6 → M R} (h1 : Ev G B E d1 ρ t1 m1) (p1 : Ps d1 k1) (h2 : Ev G B E d2 ρ t2 m2) (p2 : Ps d2 k2) (h3 : Ev G B E d3 ρ t3 m3) (p3 : Ps d3 k3) (h4 : Ev G B E d4 ρ t4 m4) (p4 : Ps d4 k4) (h5 : Ev G B E d5 ρ t5 m5) (p5 : Ps d5 k5) (h6 : Ev G B E d6 ρ t6 m6) (p6 : Ps d6 k6) : Ev G B E .F ρ (tCall (spA G (fun (p : α1 × α2 × α3 × α4 × α5 × α6) => [k1 p.1, k2 p.2.1, k3 p.2.2.1, k4 p.2.2.2.1, k5 p.2.2.2.2.1, k6 p.2.2.2.2.2]) (rpF G) (fun (p : α1 × α2 × α3 × α4 × α5 × α6) => f (p.1) (p.2.1) (p.2.2.1) (p.2.2.2.1) (p.2.2.2.2.1) (p.2.2.2.2.2))) [] E (tCons t1 (tCons t2 (tCons t3 (tCons t4 (tCons t5 (tCons t6 tNil))))))) (m1.b fun a1 => m2.b fun a2 => m3.b fun a3 => m4.b fun a4 => m5.b fun a5 => m6.b fun a6 => f a1 a2 a3 a4 a5 a6) := fun F0 F σ H Q R0 q => by
  refine h1.go R0 q fun a1 F1 v1 H1 e1 r1 R1 q => ?_
  refine h2.go R1 q fun a2 F2 v2 H2 e2 r2 R2 q => ?_
  refine h3.go R2 q fun a3 F3 v3 H3 e3 r3 R3 q => ?_
  refine h4.go R3 q fun a4 F4 v4 H4 e4 r4 R4 q => ?_
  refine h5.go R4 q fun a5 F5 v5 H5 e5 r5 R5 q => ?_
  refine h6.go R5 q fun a6 F6 v6 H6 e6 r6 R6 q => ?_
  refine ⟨(a1, a2, a3, a4, a5, a6), F6, R6.sF, (p1 R6.sB R6.sF (Rp.mono (hpM_ext e6) (Rp.mono (hpM_ext e5) (Rp.mono (hpM_ext e4) (Rp.mono (hpM_ext e3) (Rp.mono (hpM_ext e2) r1))))) (p2 R6.sB R6.sF (Rp.mono (hpM_ext e6) (Rp.mono (hpM_ext e5) (Rp.mono (hpM_ext e4) (Rp.mono (hpM_ext e3) r2)))) (p3 R6.sB R6.sF (Rp.mono (hpM_ext e6) (Rp.mono (hpM_ext e5) (Rp.mono (hpM_ext e4) r3))) (p4 R6.sB R6.sF (Rp.mono (hpM_ext e6) (Rp.mono (hpM_ext e5) r4)) (p5 R6.sB R6.sF (Rp.mono (hpM_ext e6) r5) (p6 R6.sB R6.sF r6 trivial)))))), ?_⟩
  refine M.P.imp q (fun a k F' v H' f h => ?_) fun _ z => z.mono R6.sB
  have e := f.ext0
  exact k F' v H' ((((((e1.trans e2).trans e3).trans e4).trans e5).trans e6).trans e) f.sF h
theorem en_call6 {R : Type} [Rp R] [Rc R] {α1 : Type} [Rp α1] {α2 : Type} [Rp α2] {α3 : Type} [Rp α3] {α4 : Type} [Rp α4] {α5 : Type} [Rp α5] {α6 : Type} [Rp α6] {k1 : α1 → Slot} {k2 : α2 → Slot} {k3 : α3 → Slot} {k4 : α4 → Slot} {k5 : α5 → Slot} {k6 : α6 → Slot} {d1 : Md} {d2 : Md} {d3 : Md} {d4 : Md} {d5 : Md} {d6 : Md} {m1 : M α1} {t1 : TE} {m2 : M α2} {t2 : TE} {m3 : M α3} {t3 : TE} {m4 : M α4} {t4 : TE} {m5 : M α5} {t5 : TE} {m6 : M α6} {t6 : TE} {f : α1 → α2 → α3 → α4 → α5 → α6 → M R} (h1 : Ev G B E d1 ρ t1 m1) (p1 : Ps d1 k1) (h2 : Ev G B E d2 ρ t2 m2) (p2 : Ps d2 k2) (h3 : Ev G B E d3 ρ t3 m3) (p3 : Ps d3 k3) (h4 : Ev G B E d4 ρ t4 m4) (p4 : Ps d4 k4) (h5 : Ev G B E d5 ρ t5 m5) (p5 : Ps d5 k5) (h6 : Ev G B E d6 ρ t6 m6) (p6 : Ps d6 k6) : EvN G B E ρ (tCall (spA G (fun (p : α1 × α2 × α3 × α4 × α5 × α6) => [k1 p.1, k2 p.2.1, k3 p.2.2.1, k4 p.2.2.2.1, k5 p.2.2.2.2.1, k6 p.2.2.2.2.2]) (rpN G) (fun (p : α1 × α2 × α3 × α4 × α5 × α6) => f (p.1) (p.2.1) (p.2.2.1) (p.2.2.2.1) (p.2.2.2.2.1) (p.2.2.2.2.2))) [] E0 (tCons t1 (tCons t2 (tCons t3 (tCons t4 (tCons t5 (tCons t6 tNil))))))) (m1.b fun a1 => m2.b fun a2 => m3.b fun a3 => m4.b fun a4 => m5.b fun a5 => m6.b fun a6 => M.cl (f a1 a2 a3 a4 a5 a6)) := fun F0 F σ H Q R0 q => by
  refine h1.go R0 q fun a1 F1 v1 H1 e1 r1 R1 q => ?_
  refine h2.go R1 q fun a2 F2 v2 H2 e2 r2 R2 q => ?_
  refine h3.go R2 q fun a3 F3 v3 H3 e3 r3 R3 q => ?_
  refine h4.go R3 q fun a4 F4 v4 H4 e4 r4 R4 q => ?_
  refine h5.go R4 q fun a5 F5 v5 H5 e5 r5 R5 q => ?_
  refine h6.go R5 q fun a6 F6 v6 H6 e6 r6 R6 q => ?_
  refine ⟨(a1, a2, a3, a4, a5, a6), F6, R6.sF, (p1 R6.sB R6.sF (Rp.mono (hpM_ext e6) (Rp.mono (hpM_ext e5) (Rp.mono (hpM_ext e4) (Rp.mono (hpM_ext e3) (Rp.mono (hpM_ext e2) r1))))) (p2 R6.sB R6.sF (Rp.mono (hpM_ext e6) (Rp.mono (hpM_ext e5) (Rp.mono (hpM_ext e4) (Rp.mono (hpM_ext e3) r2)))) (p3 R6.sB R6.sF (Rp.mono (hpM_ext e6) (Rp.mono (hpM_ext e5) (Rp.mono (hpM_ext e4) r3))) (p4 R6.sB R6.sF (Rp.mono (hpM_ext e6) (Rp.mono (hpM_ext e5) r4)) (p5 R6.sB R6.sF (Rp.mono (hpM_ext e6) r5) (p6 R6.sB R6.sF r6 trivial)))))), ?_⟩
  refine (M.P_cl q).imp (fun a k F' v H' f h => ?_) fun _ z => z.elim
  have e := f.ext0
  obtain ⟨p, o, rfl, h1, h2, h3, h4⟩ := h
  exact k F' p o H' ((((((e1.trans e2).trans e3).trans e4).trans e5).trans e6).trans e) f.sF ((((((e1.trans e2).trans e3).trans e4).trans e5).trans e6).h.free h1) h2 h3 h4
theorem en_callX6 {R : Type} [Rp R] [Rc R] {α1 : Type} [Rp α1] {α2 : Type} [Rp α2] {α3 : Type} [Rp α3] {α4 : Type} [Rp α4] {α5 : Type} [Rp α5] {α6 : Type} [Rp α6] {k1 : α1 → Slot} {k2 : α2 → Slot} {k3 : α3 → Slot} {k4 : α4 → Slot} {k5 : α5 → Slot} {k6 : α6 → Slot} {d1 : Md} {d2 : Md} {d3 : Md} {d4 : Md} {d5 : Md} {d6 : Md} {m1 : M α1} {t1 : TE} {m2 : M α2} {t2 : TE} {m3 : M α3} {t3 : TE} {m4 : M α4} {t4 : TE} {m5 : M α5} {t5 : TE} {m6 : M α6} {t6 : TE} {f : α1 → α2 → α3 → α4 → α5 → α6 → M R} (h1 : Ev G B E d1 ρ t1 m1) (p1 : Ps d1 k1) (h2 : Ev G B E d2 ρ t2 m2) (p2 : Ps d2 k2) (h3 : Ev G B E d3 ρ t3 m3) (p3 : Ps d3 k3) (h4 : Ev G B E d4 ρ t4 m4) (p4 : Ps d4 k4) (h5 : Ev G B E d5 ρ t5 m5) (p5 : Ps d5 k5) (h6 : Ev G B E d6 ρ t6 m6) (p6 : Ps d6 k6) : EvN G B E ρ (tCall (spA G (fun (p : α1 × α2 × α3 × α4 × α5 × α6) => [k1 p.1, k2 p.2.1, k3 p.2.2.1, k4 p.2.2.2.1, k5 p.2.2.2.2.1, k6 p.2.2.2.2.2]) (rpN G) (fun (p : α1 × α2 × α3 × α4 × α5 × α6) => f (p.1) (p.2.1) (p.2.2.1) (p.2.2.2.1) (p.2.2.2.2.1) (p.2.2.2.2.2))) [] E (tCons t1 (tCons t2 (tCons t3 (tCons t4 (tCons t5 (tCons t6 tNil))))))) (m1.b fun a1 => m2.b fun a2 => m3.b fun a3 => m4.b fun a4 => m5.b fun a5 => m6.b fun a6 => f a1 a2 a3 a4 a5 a6) := fun F0 F σ H Q R0 q => by
  refine h1.go R0 q fun a1 F1 v1 H1 e1 r1 R1 q => ?_
  refine h2.go R1 q fun a2 F2 v2 H2 e2 r2 R2 q => ?_
  refine h3.go R2 q fun a3 F3 v3 H3 e3 r3 R3 q => ?_
  refine h4.go R3 q fun a4 F4 v4 H4 e4 r4 R4 q => ?_
  refine h5.go R4 q fun a5 F5 v5 H5 e5 r5 R5 q => ?_
  refine h6.go R5 q fun a6 F6 v6 H6 e6 r6 R6 q => ?_
  refine ⟨(a1, a2, a3, a4, a5, a6), F6, R6.sF, (p1 R6.sB R6.sF (Rp.mono (hpM_ext e6) (Rp.mono (hpM_ext e5) (Rp.mono (hpM_ext e4) (Rp.mono (hpM_ext e3) (Rp.mono (hpM_ext e2) r1))))) (p2 R6.sB R6.sF (Rp.mono (hpM_ext e6) (Rp.mono (hpM_ext e5) (Rp.mono (hpM_ext e4) (Rp.mono (hpM_ext e3) r2)))) (p3 R6.sB R6.sF (Rp.mono (hpM_ext e6) (Rp.mono (hpM_ext e5) (Rp.mono (hpM_ext e4) r3))) (p4 R6.sB R6.sF (Rp.mono (hpM_ext e6) (Rp.mono (hpM_ext e5) r4)) (p5 R6.sB R6.sF (Rp.mono (hpM_ext e6) r5) (p6 R6.sB R6.sF r6 trivial)))))), ?_⟩
  refine M.P.imp q (fun a k F' v H' f h => ?_) fun _ z => z.mono R6.sB
  have e := f.ext0
  obtain ⟨p, o, rfl, h1, h2, h3, h4⟩ := h
  exact k F' p o H' ((((((e1.trans e2).trans e3).trans e4).trans e5).trans e6).trans e) f.sF ((((((e1.trans e2).trans e3).trans e4).trans e5).trans e6).h.free h1) h2 h3 h4
theorem ev_callV6 {α1 : Type} [Rp α1] {α2 : Type} [Rp α2] {α3 : Type} [Rp α3] {α4 : Type} [Rp α4] {α5 : Type} [Rp α5] {α6 : Type} [Rp α6] {k1 : α1 → Slot} {k2 : α2 → Slot} {k3 : α3 → Slot} {k4 : α4 → Slot} {k5 : α5 → Slot} {k6 : α6 → Slot} {d1 : Md} {d2 : Md} {d3 : Md} {d4 : Md} {d5 : Md} {d6 : Md} {m1 : M α1} {t1 : TE} {m2 : M α2} {t2 : TE} {m3 : M α3} {t3 : TE} {m4 : M α4} {t4 : TE} {m5 : M α5} {t5 : TE} {m6 : M α6} {t6 : TE} {f : α1 → α2 → α3 → α4 → α5 → α6 → M Unit} (h1 : Ev G B E d1 ρ t1 m1) (p1 : Ps d1 k1) (h2 : Ev G B E d2 ρ t2 m2) (p2 : Ps d2 k2) (h3 : Ev G B E d3 ρ t3 m3) (p3 : Ps d3 k3) (h4 : Ev G B E d4 ρ t4 m4) (p4 : Ps d4 k4) (h5 : Ev G B E d5 ρ t5 m5) (p5 : Ps d5 k5) (h6 : Ev G B E d6 ρ t6 m6) (p6 : Ps d6 k6) : Ev G B E mr ρ (tCall (spA G (fun (p : α1 × α2 × α3 × α4 × α5 × α6) => [k1 p.1, k2 p.2.1, k3 p.2.2.1, k4 p.2.2.2.1, k5 p.2.2.2.2.1, k6 p.2.2.2.2.2]) rpV (fun (p : α1 × α2 × α3 × α4 × α5 × α6) => f (p.1) (p.2.1) (p.2.2.1) (p.2.2.2.1) (p.2.2.2.2.1) (p.2.2.2.2.2))) [] E0 (tCons t1 (tCons t2 (tCons t3 (tCons t4 (tCons t5 (tCons t6 tNil))))))) (m1.b fun a1 => m2.b fun a2 => m3.b fun a3 => m4.b fun a4 => m5.b fun a5 => m6.b fun a6 => M.cl (f a1 a2 a3 a4 a5 a6)) := fun F0 F σ H Q R0 q => by
  refine h1.go R0 q fun a1 F1 v1 H1 e1 r1 R1 q => ?_
  refine h2.go R1 q fun a2 F2 v2 H2 e2 r2 R2 q => ?_
  refine h3.go R2 q fun a3 F3 v3 H3 e3 r3 R3 q => ?_
  refine h4.go R3 q fun a4 F4 v4 H4 e4 r4 R4 q => ?_
  refine h5.go R4 q fun a5 F5 v5 H5 e5 r5 R5 q => ?_
  refine h6.go R5 q fun a6 F6 v6 H6 e6 r6 R6 q => ?_
  refine ⟨(a1, a2, a3, a4, a5, a6), F6, R6.sF, (p1 R6.sB R6.sF (Rp.mono (hpM_ext e6) (Rp.mono (hpM_ext e5) (Rp.mono (hpM_ext e4) (Rp.mono (hpM_ext e3) (Rp.mono (hpM_ext e2) r1))))) (p2 R6.sB R6.sF (Rp.mono (hpM_ext e6) (Rp.mono (hpM_ext e5) (Rp.mono (hpM_ext e4) (Rp.mono (hpM_ext e3) r2)))) (p3 R6.sB R6.sF (Rp.mono (hpM_ext e6) (Rp.mono (hpM_ext e5) (Rp.mono (hpM_ext e4) r3))) (p4 R6.sB R6.sF (Rp.mono (hpM_ext e6) (Rp.mono (hpM_ext e5) r4)) (p5 R6.sB R6.sF (Rp.mono (hpM_ext e6) r5) (p6 R6.sB R6.sF r6 trivial)))))), ?_⟩
  refine (M.P_cl q).imp (fun a k F' v H' f h => ?_) fun _ z => z.elim
  have e := f.ext0
  exact k F' v H' ((((((e1.trans e2).trans e3).trans e4).trans e5).trans e6).trans e) f.sF h
theorem ev_callVX6 {α1 : Type} [Rp α1] {α2 : Type} [Rp α2] {α3 : Type} [Rp α3] {α4 : Type} [Rp α4] {α5 : Type} [Rp α5] {α6 : Type} [Rp α6] {k1 : α1 → Slot} {k2 : α2 → Slot} {k3 : α3 → Slot} {k4 : α4 → Slot} {k5 : α5 → Slot} {k6 : α6 → Slot} {d1 : Md} {d2 : Md} {d3 : Md} {d4 : Md} {d5 : Md} {d6 : Md} {m1 : M α1} {t1 : TE} {m2 : M α2} {t2 : TE} {m3 : M α3} {t3 : TE} {m4 : M α4} {t4 : TE} {m5 : M α5} {t5 : TE} {m6 : M α6} {t6 : TE} {f : α1 → α2 → α3 → α4 → α5 → α6 → M Unit} (h1 : Ev G B E d1 ρ t1 m1) (p1 : Ps d1 k1) (h2 : Ev G B E d2 ρ t2 m2) (p2 : Ps d2 k2) (h3 : Ev G B E d3 ρ t3 m3) (p3 : Ps d3 k3) (h4 : Ev G B E d4 ρ t4 m4) (p4 : Ps d4 k4) (h5 : Ev G B E d5 ρ t5 m5) (p5 : Ps d5 k5) (h6 : Ev G B E d6 ρ t6 m6) (p6 : Ps d6 k6) : Ev G B E mr ρ (tCall (spA G (fun (p : α1 × α2 × α3 × α4 × α5 × α6) => [k1 p.1, k2 p.2.1, k3 p.2.2.1, k4 p.2.2.2.1, k5 p.2.2.2.2.1, k6 p.2.2.2.2.2]) rpV (fun (p : α1 × α2 × α3 × α4 × α5 × α6) => f (p.1) (p.2.1) (p.2.2.1) (p.2.2.2.1) (p.2.2.2.2.1) (p.2.2.2.2.2))) [] E (tCons t1 (tCons t2 (tCons t3 (tCons t4 (tCons t5 (tCons t6 tNil))))))) (m1.b fun a1 => m2.b fun a2 => m3.b fun a3 => m4.b fun a4 => m5.b fun a5 => m6.b fun a6 => f a1 a2 a3 a4 a5 a6) := fun F0 F σ H Q R0 q => by
  refine h1.go R0 q fun a1 F1 v1 H1 e1 r1 R1 q => ?_
  refine h2.go R1 q fun a2 F2 v2 H2 e2 r2 R2 q => ?_
  refine h3.go R2 q fun a3 F3 v3 H3 e3 r3 R3 q => ?_
  refine h4.go R3 q fun a4 F4 v4 H4 e4 r4 R4 q => ?_
  refine h5.go R4 q fun a5 F5 v5 H5 e5 r5 R5 q => ?_
  refine h6.go R5 q fun a6 F6 v6 H6 e6 r6 R6 q => ?_
  refine ⟨(a1, a2, a3, a4, a5, a6), F6, R6.sF, (p1 R6.sB R6.sF (Rp.mono (hpM_ext e6) (Rp.mono (hpM_ext e5) (Rp.mono (hpM_ext e4) (Rp.mono (hpM_ext e3) (Rp.mono (hpM_ext e2) r1))))) (p2 R6.sB R6.sF (Rp.mono (hpM_ext e6) (Rp.mono (hpM_ext e5) (Rp.mono (hpM_ext e4) (Rp.mono (hpM_ext e3) r2)))) (p3 R6.sB R6.sF (Rp.mono (hpM_ext e6) (Rp.mono (hpM_ext e5) (Rp.mono (hpM_ext e4) r3))) (p4 R6.sB R6.sF (Rp.mono (hpM_ext e6) (Rp.mono (hpM_ext e5) r4)) (p5 R6.sB R6.sF (Rp.mono (hpM_ext e6) r5) (p6 R6.sB R6.sF r6 trivial)))))), ?_⟩
  refine M.P.imp q (fun a k F' v H' f h => ?_) fun _ z => z.mono R6.sB
  have e := f.ext0
  exact k F' v H' ((((((e1.trans e2).trans e3).trans e4).trans e5).trans e6).trans e) f.sF h

end
end Tw

set_option Elab.async false
set_option linter.all false
set_option maxRecDepth 100000
set_option maxHeartbeats 4000000
/-! Defs as a whole; locked dicts; sorted; dicts written. -/
namespace Tw
open PySem PySem.Spec L2 TL
open PyProof.Rows hiding St

theorem arg_all {G : Gb} {F H : Hp} : ∀ {ss : List Slot} {vs : List V}, ArgOk G F H ss vs → All2 (fun s v => SlOk G H F H (some s) (some v) ∧ isOw (some s) = false) ss vs
  | [], [], _ => .nil
  | @Slot.fz _ i a :: ss, v :: vs, h => .cons ⟨⟨v, rfl, h.1⟩, rfl⟩ (arg_all h.2)
  | @Slot.bw _ i a :: ss, v :: vs, h => .cons ⟨⟨v, rfl, h.1⟩, rfl⟩ (arg_all h.2)
  | @Slot.ow _ _ _ _ :: _, _, h => by cases h
  | @Slot.lk _ _ _ _ _ _ _ :: _, _, h => by cases h
  | [], _ :: _, h => by cases h
  | @Slot.fz _ _ _ :: _, [], h => by cases h
  | @Slot.bw _ _ _ :: _, [], h => by cases h
theorem arg_at {G : Gb} {F H : Hp} {ss : List Slot} {vs : List V} {n i : Nat} {s : Option Slot} (h : All2 (fun s v => SlOk G H F H (some s) (some v) ∧ isOw (some s) = false) ss vs) (hs : (ss.map some ++ List.replicate n none)[i]? = some s) :
    isOw s = false ∧ ∀ x, (vs.map some ++ List.replicate n none)[i]? = some x → SlOk G H F H s x := by
  by_cases hi : i < ss.length
  · rw [List.getElem?_append_left (by rw [List.length_map]; exact hi), List.getElem?_map, List.getElem?_eq_getElem hi] at hs
    obtain ⟨v, ev, h1, h2⟩ := h.get (List.getElem?_eq_getElem hi)
    cases hs
    refine ⟨h2, fun x hx => ?_⟩
    rw [List.getElem?_append_left (by rw [List.length_map, ← h.len]; exact hi), List.getElem?_map, ev] at hx
    cases hx
    exact h1
  · rw [List.getElem?_append_right (by rw [List.length_map]; omega), List.getElem?_replicate] at hs
    split at hs
    · cases hs
      exact ⟨rfl, fun _ _ => trivial⟩
    · cases hs
theorem rel_args {G : Gb} {F H : Hp} {ss : List Slot} {vs : List V} (n : Nat) (s : Same F H) (h : ArgOk G F H ss vs) : Rel G H F F (ss.map some ++ List.replicate n none) (vs.map some ++ List.replicate n none) H where
  sB := .refl _
  sF := s
  s0 := .refl _
  nw := fun a h q => absurd h q
  len := by rw [List.length_append, List.length_append, List.length_map, List.length_map, (arg_all h).len]; simp
  sl := fun i s x hs hx => (arg_at (arg_all h) hs).2 x hx
  ds := fun i j p s t hi hj oi oj _ _ => by rw [(arg_at (arg_all h) hi).1] at oi; cases oi
section
variable {G : Gb} {P R : Type} {sl : P → List Slot} {rp : RP R} {f : P → M R} {N : List Str} {n k : Nat} {vs : List V} {H : Hp} {Q : VK} {E : XK} {t : TS}
theorem spA_len (hs : spA G sl rp f vs H Q E) (hk : ∀ p, (sl p).length = k) : vs.length = k := by
  obtain ⟨p, F0, _, a, _⟩ := hs
  rw [← (arg_all a).len, hk]
theorem spA_run (hs : spA G sl rp f vs H Q E) (hn : ∀ p, N.length = (sl p).length + n) (h : ∀ p B, Run G B E (oR G B rp) ((sl p).map some ++ List.replicate n none) t (f p)) : t (dEnd Q) (start N vs) H := by
  obtain ⟨p, F0, s, a, q⟩ := hs
  have e : N.length - vs.length = n := by rw [← (arg_all a).len, hn p]; omega
  rw [start_of, e]
  exact h p H F0 F0 _ H _ (rel_args n s a) (q.imp (fun r k F' v H' f h => k F' v H' f h) fun _ x => x)
theorem spV_run {f : P → M Unit} (hs : spA G sl rpV f vs H Q E) (hn : ∀ p, N.length = (sl p).length + n) (h : ∀ p B, Run G B E (oV G B) ((sl p).map some ++ List.replicate n none) t (f p)) : t (dEnd Q) (start N vs) H := by
  obtain ⟨p, F0, s, a, q⟩ := hs
  have e : N.length - vs.length = n := by rw [← (arg_all a).len, hn p]; omega
  rw [start_of, e]
  exact h p H F0 F0 _ H _ (rel_args n s a) (q.imp (fun r k F' σ' H' f => ⟨k F' .non H' f rfl, k F' .non H' f rfl⟩) fun _ x => x)
/-- the law itself -/
theorem spA_law {f : Scr → M Bool} {a : Addr} {ns : List Int} (hl : SqL G.K H a (ns.map V.int)) (hf : f ⟨ns⟩ = .ok true) (hq : ∀ H', Q (.bl true) H') : spA G (fun p : Scr => [.bw p]) (rpF G) f [.ref a] H Q E :=
  ⟨⟨ns⟩, fun _ => none, (fun _ _ e => nomatch e), ⟨⟨a, rfl, hl⟩, trivial⟩, by rw [hf]; exact fun F' v H' _ h => by rw [show v = .bl true from h]; exact hq H'⟩
end
/-! ### locked dicts -/
section
variable {G : Gb} {B : Hp} {E : XK} {ρ : Evr} {α β κ : Type} [Rp α] [Rp β] [Rp κ] [DecidableEq κ] [Ky κ] {md md' mr : Md} {ta tb tc te : TE} {g : TG} {ts : List Nat} {bind : κ → Evr → Evr} {S Ω : Type} {EX : S → Evr}
abbrev keysOf {κ α : Type} (d : Dk κ α) : List κ := d.l.map (·.1)
/-- a walk over the keys of a dict that is locked -/
theorem ew_keys {i : Nat} {p : Addr} {ob : Obj} {u : HO} {d : Dk κ α} (per : Bool) (h : ρ[i]? = some (some (.lk p ob u d))) (ht : Tgt G B .F g ts bind) (hl : per = false) : EvW G B E per ρ (iKeys (tVar i)) g ts bind (.ok (keysOf d)) := fun F0 F σ H R RR q => by
  obtain ⟨x, e, rfl, h1, h2, h3, kvs, rfl, h4⟩ := RR.at h
  refine ⟨_, e, p, ob, rfl, .inl ⟨kvs, h3, q F H _ (.refl _ _) RR.sF fun i F0 F2 ρ σ H2 w R => ?_⟩⟩
  have hd : H2 p = some (.frz ob (.dK kvs)) := w.2 hl _ _ h3
  refine ⟨fun hz => ⟨hd, by rw [List.length_map, ← h4.len] at hz; exact hz⟩, fun k hk => ?_⟩
  rw [List.getElem?_map] at hk
  cases ek : d.l[i]? with
  | none => rw [ek] at hk; cases hk
  | some y =>
    rw [ek] at hk
    cases hk
    obtain ⟨kv, ekv, r1, r2⟩ := h4.get' ek
    refine ⟨⟨hd, (List.getElem?_eq_some_iff.mp ekv).1⟩, fun v H' z Qt kk => ?_⟩
    obtain ⟨rfl, k2, v2, e2, rfl⟩ := z
    rw [ekv] at e2
    cases e2
    exact ht F0 F2 ρ σ _ _ y.1 Qt R ((Ky.iff _ _ _ _).mpr (by rw [← r1])) fun σ' ws R' => kk F2 σ' _ (.refl _ _) ws R'
/-- .. in a statement: the lock stays with its slot -/
theorem ew_keysF {i : Nat} {p : Addr} {ob : Obj} {u : HO} {d : Dk κ α} (h : ρ[i]? = some (some (.lk p ob u d))) (ht : Tgt G B .F g ts bind) :
    ∀ (F0 F : Hp) (σ : L2.St) (H : Hp) (R : It → Hp → Prop), Rel G B F0 F ρ σ H → (∀ J, Walk G B (fun _ H2 => H2 p = some (.frz ob u)) J g ts bind (keysOf d) → R J H) → iKeys (tVar i) σ H R := fun F0 F σ H R RR q => by
  obtain ⟨x, e, rfl, h1, h2, h3, kvs, rfl, h4⟩ := RR.at h
  refine ⟨_, e, p, ob, rfl, .inl ⟨kvs, h3, q _ fun i F0 F2 ρ σ H2 w R => ?_⟩⟩
  refine ⟨fun hz => ⟨w, by rw [List.length_map, ← h4.len] at hz; exact hz⟩, fun k hk => ?_⟩
  rw [List.getElem?_map] at hk
  cases ek : d.l[i]? with
  | none => rw [ek] at hk; cases hk
  | some y =>
    rw [ek] at hk
    cases hk
    obtain ⟨kv, ekv, r1, r2⟩ := h4.get' ek
    refine ⟨⟨w, (List.getElem?_eq_some_iff.mp ekv).1⟩, fun v H' z Qt kk => ?_⟩
    obtain ⟨rfl, k2, v2, e2, rfl⟩ := z
    rw [ekv] at e2
    cases e2
    exact ht F0 F2 ρ σ _ _ y.1 Qt R ((Ky.iff _ _ _ _).mpr (by rw [← r1])) fun σ' ws R' => kk F2 σ' _ (.refl _ _) ws R'
theorem mut_dK {kvs : List (Key × V)} : Mut (some (.dK kvs)) := trivial
/-- [e for k in d if t], d one's own -/
theorem en_lcK {i : Nat} {d : Dk κ α} {tt : TT} {t : κ → M Bool} {e : κ → M β} (h : ρ[i]? = some (some (.ow d))) (ht : Tgt G B .F g ts bind) (htt : ∀ p ob u x, EvT G B E (bind x (wipeE (ρ.set i (some (.lk p ob u d))) ts)) tt (t x)) (he : ∀ p ob u x, Ev G B E .F (bind x (wipeE (ρ.set i (some (.lk p ob u d))) ts)) te (e x)) :
    EvN G B E ρ (tLockE (tLc (iKeys (tVar i)) g tt te ts)) (.chk ((keysOf d).length ≤ sizeLine) (M.lc t e (keysOf d))) := fun F0 F σ H Q R q => by
  obtain ⟨p, o, ep, h1, h2, h3, kvs, rfl, h4⟩ := R.ow h
  refine ⟨p, _, h3, mut_dK, fun od => ?_⟩
  have R1 : Rel G B F0 F (ρ.set i (some (.lk p od (.dK kvs) d))) σ (upd H p (.frz od (.dK kvs))) := R.shift h rfl ep h1 h2 ⟨rfl, h1, h2, upd_same, ⟨kvs, rfl, h4⟩⟩
  have hi : (ρ.set i (some (Slot.lk p od (.dK kvs) d)))[i]? = some (some (.lk p od (.dK kvs) d)) := by rw [List.getElem?_set_self', h]; rfl
  have L := en_lc (G := G) (B := B) (E := E) (te := te) (m := .ok (keysOf d)) (ew_keys false hi ht rfl) (htt p od (.dK kvs)) (he p od (.dK kvs))
  refine L F0 F σ _ _ R1 (M.P.imp q (fun a k F' c o H' ex sx n1 n2 n3 n4 => ⟨ex.h _ _ upd_same, ?_⟩) fun _ x => x)
  have cp : c ≠ p := fun z => by rw [z, upd_same] at n1; cases n1
  rw [upd_ne cp] at n1
  have hp' := ex.h _ _ (upd_same (H := H) (a := p) (o := .frz od (.dK kvs)))
  refine k F' c o _ ⟨ex.f, fun b u z => ?_, fun b z w => ?_⟩ (fun b u z => ?_) n1 n2 (by rw [upd_ne cp]; exact n3) n4
  · by_cases w : b = p
    · subst w; rw [upd_same]; rw [h3] at z; exact z
    · rw [upd_ne w]; exact ex.h _ _ (by rw [upd_ne w]; exact z)
  · have := ex.n b z w
    by_cases v : b = p
    · rw [v, upd_same] at this; cases this
    · rw [upd_ne v] at this; exact this
  · have nb : b ≠ p := fun w => by
      rw [w, ex.non upd_same h2] at z
      cases z
    rw [upd_ne nb]; exact sx _ _ z
/-- for k in d: .., d one's own -/
theorem run_forK {i : Nat} {d : Dk κ α} {t : TS} {f : S → κ → M S} {s0 : S} (h : ρ[i]? = some (some (.ow d))) (ht : Tgt G B .F g ts bind) (h0 : ∀ p ob u, Wk (ρ.set i (some (.lk p ob u d))) ((EX s0).set i (some (.lk p ob u d)))) (hx : ∀ s, (EX s)[i]? = some (some (.ow d)))
    (hb : ∀ p ob u s x, Run G B E (oN G B fun s => (EX s).set i (some (.lk p ob u d))) (bind x ((EX s).set i (some (.lk p ob u d)))) t (f s x)) :
    Run G B E (oN G B EX) ρ (tLock (tFor (iKeys (tVar i)) g t)) (M.for_ f (keysOf d) s0) := fun F0 F σ H D R q => by
  obtain ⟨p, o, ep, h1, h2, h3, kvs, rfl, h4⟩ := R.ow h
  refine ⟨p, _, h3, mut_dK, fun od => ?_⟩
  have R1 : Rel G B F0 F (ρ.set i (some (.lk p od (.dK kvs) d))) σ (upd H p (.frz od (.dK kvs))) := R.shift h rfl ep h1 h2 ⟨rfl, h1, h2, upd_same, ⟨kvs, rfl, h4⟩⟩
  have hi : (ρ.set i (some (Slot.lk p od (.dK kvs) d)))[i]? = some (some (.lk p od (.dK kvs) d)) := by rw [List.getElem?_set_self', h]; rfl
  have hxi : ∀ s, ((EX s).set i (some (Slot.lk p od (.dK kvs) d)))[i]? = some (some (.lk p od (.dK kvs) d)) := fun s => by rw [List.getElem?_set_self', hx]; rfl
  refine ew_keysF hi ht F0 F σ _ _ R1 fun J wk => ?_
  let xs := keysOf d
  refine ⟨fun j k σ2 H2 => k = xs.length - j ∧ j ≤ xs.length ∧ ∃ (F2 : Hp) (s : S), Rel G B F F2 ((EX s).set i (some (.lk p od (.dK kvs) d))) σ2 H2 ∧ (M.for_ f (xs.drop j) s).P (fun s => oN G B EX F0 s D) (Xc G B E), ⟨xs.length, by simp, Nat.zero_le _, F, s0, (R1.weak (h0 p od (.dK kvs))).base, by rw [List.drop_zero]; exact q⟩, ?_⟩
  rintro j k σ2 H2 ⟨rfl, hj, F2, s, R2, q2⟩
  have lkd := R2.at (hxi s)
  obtain ⟨xx, exx, rfl, l1, l2, l3, l4⟩ := lkd
  obtain ⟨w1, w2⟩ := wk j F F2 _ _ H2 l3 R2
  by_cases hlt : j < xs.length
  · have hxj : xs[j]? = some xs[j] := List.getElem?_eq_getElem hlt
    obtain ⟨g1, g2⟩ := w2 xs[j] hxj
    rw [List.drop_eq_getElem_cons hlt] at q2
    refine .inr ⟨g1, fun σ3 H3 => ∃ m', m' < xs.length - j ∧ (m' = xs.length - (j + 1) ∧ j + 1 ≤ xs.length ∧ ∃ (F2 : Hp) (s : S), Rel G B F F2 ((EX s).set i (some (.lk p od (.dK kvs) d))) σ3 H3 ∧ (M.for_ f (xs.drop (j + 1)) s).P (fun s => oN G B EX F0 s D) (Xc G B E)), fun _ _ z => z, fun v H3 hy => g2 v H3 hy _ fun F3 σ3 H4 e3 _ R3 => ?_⟩
    exact hb p od (.dK kvs) s xs[j] F F3 σ3 H4 _ R3 ((M.P_b.mp q2).imp (fun s' q3 F' σ' H' R' => ⟨_, by omega, rfl, hlt, F', s', R', q3⟩) fun _ x => x)
  · have e : j = xs.length := by omega
    subst e
    rw [List.drop_length] at q2
    refine .inl ⟨w1 (Nat.le_refl _), l3, ?_⟩
    refine q2 F2 σ2 _ (R.under ?_)
    have R4 : Rel G B F F2 (((EX s).set i (some (.lk p od (.dK kvs) d))).set i (some (.ow d))) σ2 (upd H2 p (.dK kvs)) := R2.shift (hxi s) rfl exx l1 l2 ⟨p, _, rfl, l1, l2, upd_same, l4⟩
    rw [List.set_set] at R4
    have e2 : (EX s).set i (some (Slot.ow d)) = EX s := by
      refine List.ext_getElem? fun m => ?_
      by_cases z : i = m
      · subst z; rw [List.getElem?_set_self', hx]; rfl
      · rw [List.getElem?_set_ne z]
    rw [e2] at R4
    exact R4
/-! ### sorted, list of dicts -/
theorem en_sorted {m : M (List Str)} (h : Ev G B E md ρ te m) : EvN G B E ρ (tCB (rSortedS G.K) (tCons te tNil)) (m.b fun l => .chk (l.length < 64) (.ok (srt l))) := fun F0 F σ H Q R q =>
  h.toH.go R q fun l F1 v H1 e1 r1 R1 q => by
    obtain ⟨c, q⟩ := M.P_chk.mp q
    obtain ⟨p, vs, rfl, h1, h2⟩ := r1
    rw [strs_of h2] at h1
    refine ⟨p, l, rfl, .of h1, c, fun ys d hp hs nd => ?_⟩
    rw [srt_unique hp hs]
    exact q F1 d _ _ (e1.trans (.new nd)) (R1.sF.trans (same_upd nd)) (e1.h.free nd) (R1.sF.free nd) upd_same ⟨_, rfl, All2.of_map (R := rep G F1) (f := V.str) (fun _ => rfl) _⟩
abbrev qSortedD : List V → Hp → VK → Prop := fun xs H Q => ∃ (a : Addr) (kvs : List (Key × V)) (ks : List Str), xs = [.ref a] ∧ Rd H a (.dK kvs) ∧ kvs.map (·.1) = ks.map Sum.inr ∧ ks.length < 64 ∧
    ∀ ys p, ys.Perm ks → sortedS ys = true → H p = none → Q (.ref p) (upd H p (.lst (ys.map V.str)))
abbrev qListD : List V → Hp → VK → Prop := fun xs H Q => ∃ (a : Addr) (kvs : List (Key × V)), xs = [.ref a] ∧ Rd H a (.dK kvs) ∧ ∀ p, H p = none → Q (.ref p) (upd H p (.lst (kvs.map fun kv => kV kv.1)))
theorem keys_map {H : Hp} : ∀ {kvs : List (Key × V)} {l : List (κ × α)}, repk G H kvs l → kvs.map (·.1) = (l.map (·.1)).map Ky.key
  | _, _, .nil => rfl
  | _, _, .cons h t => by rw [List.map_cons, List.map_cons, List.map_cons, keys_map t, h.1]
theorem en_sortedD {m : M (Dk Str α)} (h : Ev G B E md ρ te m) : EvN G B E ρ (tCB qSortedD (tCons te tNil)) (m.b fun d => .chk ((keysOf d).length < 64) (.ok (srt (keysOf d)))) := fun F0 F σ H Q R q =>
  h.toH.go R q fun d F1 v H1 e1 r1 R1 q => by
    obtain ⟨c, q⟩ := M.P_chk.mp q
    obtain ⟨p, kvs, rfl, h1, h2⟩ := r1
    refine ⟨p, kvs, keysOf d, rfl, h1, keys_map h2, c, fun ys d hp hs nd => ?_⟩
    rw [srt_unique hp hs]
    exact q F1 d _ _ (e1.trans (.new nd)) (R1.sF.trans (same_upd nd)) (e1.h.free nd) (R1.sF.free nd) upd_same ⟨_, rfl, All2.of_map (R := rep G F1) (f := V.str) (fun _ => rfl) _⟩
theorem en_listD {m : M (Dk κ α)} (h : Ev G B E md ρ te m) : EvN G B E ρ (tCB qListD (tCons te tNil)) (m.b fun d => .ok (keysOf d)) := fun F0 F σ H Q R q =>
  h.toH.go R q fun d F1 v H1 e1 r1 R1 q => by
    obtain ⟨p, kvs, rfl, h1, h2⟩ := r1
    refine ⟨p, kvs, rfl, h1, fun c nc => ?_⟩
    refine q F1 c _ _ (e1.trans (.new nc)) (R1.sF.trans (same_upd nc)) (e1.h.free nc) (R1.sF.free nc) upd_same ⟨_, rfl, ?_⟩
    have e : kvs.map (fun kv => kV kv.1) = (keysOf d).map (fun k => kV (Ky.key k)) := by
      have z := congrArg (List.map kV) (keys_map h2)
      rw [List.map_map, List.map_map] at z
      exact z
    rw [e]
    exact All2.of_map (R := rep G F1) (f := fun k => kV (Ky.key k)) (fun k => (Ky.iff _ _ _ _).mpr rfl) _
/-- {k: v} -/
theorem en_disp1 {mk : M κ} {mv : M α} (hk : Ev G B E md ρ ta mk) (hv : Ev G B E .F ρ tb mv) : EvN G B E ρ (tDisp [(ta, tb)]) (mk.b fun k => mv.b fun v => .ok (⟨[(k, v)]⟩ : Dk κ α)) := fun F0 F σ H Q R q => fun p np => by
  have e0 : Ext F H F (upd H p (.dK [])) := .new np
  have R0 := R.ext e0 (R.sF.trans (same_upd np))
  refine hk.go R0 q fun k F1 v H1 e1 r1 R1 q => hv.go R1 q fun w F2 u H2 e2 r2 R2 q => ?_
  have e12 := e1.trans e2
  have hp : H2 p = some (.dK []) := e12.h _ _ upd_same
  refine ⟨hp, [(Ky.key k, u)], by rw [(Ky.iff _ _ _ _).mp r1]; rfl, (show 1 ≤ 15 by decide), ?_⟩
  have fp : F2 p = none := e12.non upd_same (R.sF.free np)
  refine q F2 p _ _ ⟨(e0.trans e12).f, fun b o z => ?_, (e0.trans e12).n⟩ (same_updR R2.sF fp) np fp upd_same ⟨_, rfl, .cons ⟨rfl, r2⟩ .nil⟩
  rw [upd_ne (ne_of_none z np)]
  exact (e0.trans e12).h _ _ z
end
end Tw

set_option Elab.async false
set_option linter.all false
set_option maxRecDepth 100000
set_option maxHeartbeats 4000000
/-! Plain forms of tests; ways that leave. -/
namespace Tw
open PySem PySem.Spec L2 TL
open PyProof.Rows hiding St
section
variable {G : Gb} {B : Hp} {E : XK} {ρ ρ' : Evr} {α β γ δ : Type} [Rp α] [Rp β] [Rp γ] [Rp δ] {md md' mr : Md} {ta tb tc td te : TE} {Ω S S' R : Type} {post : Hp → Ω → Ends → Prop} {EX : S → Evr} {rp : RP R} {t t1 t2 rest : TS}
theorem evT_ando {t u : TT} {a b : Bool} (h : EvT G B E ρ t (.ok a)) (k : EvT G B E ρ u (.ok b)) : EvT G B E ρ (tAnd t u) (.ok (a && b)) := fun F0 F σ H Q R q => h F0 F σ H _ R fun F' H' e s => by
  cases a with
  | true => exact k F0 F' σ H' Q (R.ext e s) fun F2 H2 e2 s2 => q F2 H2 (e.trans e2) s2
  | false => exact q F' H' e s
theorem evT_oro {t u : TT} {a b : Bool} (h : EvT G B E ρ t (.ok a)) (k : EvT G B E ρ u (.ok b)) : EvT G B E ρ (tOr t u) (.ok (a || b)) := fun F0 F σ H Q R q => h F0 F σ H _ R fun F' H' e s => by
  cases a with
  | true => exact q F' H' e s
  | false => exact k F0 F' σ H' Q (R.ext e s) fun F2 H2 e2 s2 => q F2 H2 (e.trans e2) s2
theorem ev_andVo {a b : Bool} (h : Ev G B E md ρ ta (.ok a)) (k : Ev G B E md' ρ tb (.ok b)) : Ev G B E mr ρ (tAndV ta tb) (.ok (a && b)) := fun F0 F σ H Q R q => h F0 F σ H _ R fun F' v H' e s r => by
  refine ⟨a, r, ?_⟩
  cases a with
  | true => exact k.sc F0 F' σ H' Q (R.ext e s) fun F2 v2 H2 e2 s2 => q F2 v2 H2 (e.trans e2) s2
  | false => exact q F' _ H' e s rfl
theorem ev_orVo {a b : Bool} (h : Ev G B E md ρ ta (.ok a)) (k : Ev G B E md' ρ tb (.ok b)) : Ev G B E mr ρ (tOrV ta tb) (.ok (a || b)) := fun F0 F σ H Q R q => h F0 F σ H _ R fun F' v H' e s r => by
  refine ⟨a, r, ?_⟩
  cases a with
  | true => exact q F' _ H' e s rfl
  | false => exact k.sc F0 F' σ H' Q (R.ext e s) fun F2 v2 H2 e2 s2 => q F2 v2 H2 (e.trans e2) s2
theorem run_ifo {c : TT} {x : Bool} {m n : Ω} (hc : EvT G B E ρ c (.ok x)) (h1 : Run G B E post ρ t1 (.ok m)) (h2 : Run G B E post ρ t2 (.ok n)) : Run G B E post ρ (tIfS c t1 t2) (.ok (if x = true then m else n)) := fun F0 F σ H D R q =>
  hc F0 F σ H _ R fun F' H' e s => by
    cases x with
    | true => exact iteT (h1 F0 F' σ H' D (R.ext e s) q)
    | false => exact iteF (h2 F0 F' σ H' D (R.ext e s) q)
theorem run_cutR {m : M R} (h : Run G B E (oR G B rp) ρ t m) : Run G B E (oR G B rp) ρ (tSeq t rest) m := fun F0 F σ H D RR q => h F0 F σ H _ RR q
theorem run_cutC {m : M R} (h : Run G B E (oR G B rp) ρ t m) : Run G B E (oC G B EX rp) ρ (tSeq t rest) (m.b fun r => .ok (.inr r)) := fun F0 F σ H D RR q => h F0 F σ H _ RR ((M.P_b.mp q).imp (fun _ k => k) fun _ x => x)
theorem ev_four {m : M α} {n : M β} {l : M γ} {o : M δ} (h : Ev G B E .F ρ ta m) (k : Ev G B E .F ρ tb n) (i : Ev G B E .F ρ tc l) (j : Ev G B E .F ρ td o) : Ev G B E .F ρ (tTup (tCons ta (tCons tb (tCons tc (tCons td tNil))))) (m.b fun a => n.b fun b => l.b fun c => o.b fun d => .ok (T4.mk a b c d)) := fun F0 F σ H Q R q =>
  h.go R q fun a F1 v H1 e1 r1 R1 q => k.go R1 q fun b F2 w H2 e2 r2 R2 q => i.go R2 q fun c F3 u H3 e3 r3 R3 q => j.go R3 q fun d F4 z H4 e4 r4 R4 q => ⟨show 4 ≤ sizeLine by decide, fun p np => by
    have s := same_upd (o := .tup [v, w, u, z]) (R4.sF.free np)
    exact q (upd F4 p (.tup [v, w, u, z])) _ _ ((((e1.trans e2).trans e3).trans e4).trans (.newF R4.sF np)) (same_both R4.sF) ⟨p, v, w, u, z, rfl, upd_same, Rp.mono (((e2.f.trans e3.f).trans e4.f).trans s) r1, Rp.mono ((e3.f.trans e4.f).trans s) r2, Rp.mono (e4.f.trans s) r3, Rp.mono s r4⟩⟩
theorem ev_f1 {m : M (T4 α β γ δ)} (h : Ev G B E md ρ ta m) : Ev G B E md ρ (tOp (rIxT G.K) ta (tC (.int 0))) (m.b fun a => .ok a.a) := fun F0 F σ H Q R q =>
  h.go R q fun a F1 v H1 e1 r1 R1 q => by
    obtain ⟨p, x, y, z, w, rfl, h1, h2, h3, h4, h5⟩ := r1
    exact ⟨p, _, 0, x, rfl, rfl, .of (hpM_H R1.sB R1.sF _ _ h1), rfl, q F1 _ H1 e1 R1.sF h2⟩
theorem ev_f2 {m : M (T4 α β γ δ)} (h : Ev G B E md ρ ta m) : Ev G B E md ρ (tOp (rIxT G.K) ta (tC (.int 1))) (m.b fun a => .ok a.b) := fun F0 F σ H Q R q =>
  h.go R q fun a F1 v H1 e1 r1 R1 q => by
    obtain ⟨p, x, y, z, w, rfl, h1, h2, h3, h4, h5⟩ := r1
    exact ⟨p, _, 1, y, rfl, rfl, .of (hpM_H R1.sB R1.sF _ _ h1), rfl, q F1 _ H1 e1 R1.sF h3⟩
theorem ev_f3 {m : M (T4 α β γ δ)} (h : Ev G B E md ρ ta m) : Ev G B E md ρ (tOp (rIxT G.K) ta (tC (.int 2))) (m.b fun a => .ok a.c) := fun F0 F σ H Q R q =>
  h.go R q fun a F1 v H1 e1 r1 R1 q => by
    obtain ⟨p, x, y, z, w, rfl, h1, h2, h3, h4, h5⟩ := r1
    exact ⟨p, _, 2, z, rfl, rfl, .of (hpM_H R1.sB R1.sF _ _ h1), rfl, q F1 _ H1 e1 R1.sF h4⟩
end
end Tw

set_option Elab.async false
set_option linter.all false
set_option maxRecDepth 100000
set_option maxHeartbeats 4000000
/-! Names, in plain data. -/
namespace Tw
open PySem PySem.Spec L2 TL
open PyProof.Rows hiding St
def SG : List Nat := (Str.ofString "abcdefghijklmnopqrstuvwxyz0123456789").cps.toList
def isNm (z : Str) : Bool := decide (z.length ≠ 0 ∧ z.length ≤ 8) && z.cps.toList.all (fun c => decide (c ∈ SG))
theorem str_len (z : Str) : z.length = z.cps.toList.length := by simp [Str.length]
theorem str_len_app (a b : Str) : (a ++ b).length = a.length + b.length := by
  show (a.cps ++ b.cps).size = a.cps.size + b.cps.size
  simp
theorem str_empty {z : Str} : z = Str.ofString "" ↔ z.length = 0 := by
  have e : Str.ofString "" = ⟨#[]⟩ := by decide +kernel
  rw [e]
  constructor
  · intro h
    rw [h]
    rfl
  · intro h
    obtain ⟨a⟩ := z
    have : a.size = 0 := h
    rw [show a = #[] by simpa using this]
theorem take_snoc_all {P : Nat → Prop} {xs : List Nat} {i c : Nat} (h : xs[i]? = some c) (hp : ∀ x ∈ xs.take i, P x) (hc : P c) : ∀ x ∈ xs.take (i + 1), P x := by
  intro x hx
  rw [List.take_add_one, h] at hx
  rcases List.mem_append.mp hx with q | q
  · exact hp x q
  · have : x = c := by simpa using q
    rw [this]
    exact hc
theorem small_line {n : Nat} (h : n ≤ 100000) : n ≤ sizeLine := Nat.le_trans h (by decide)
theorem foldl_size (l : List (Array Nat)) (m : Nat) (h : ∀ a ∈ l, a.size = m) : ∀ s : Array Nat, (l.foldl (· ++ ·) s).size = s.size + l.length * m := by
  induction l with
  | nil => intro s; simp
  | cons a r ih =>
    intro s
    rw [List.foldl_cons, ih (fun b hb => h b (List.mem_cons_of_mem _ hb)), Array.size_append, h a (List.mem_cons_self)]
    rw [List.length_cons, Nat.add_mul]
    omega
theorem mul_len (z : Str) (n : Int) (hz : z.length ≤ 30) (hn : 1 ≤ n ∧ n ≤ 100) : (Txt.mul z n).length ≤ 3000 := by
  unfold Txt.mul
  rw [if_neg (by omega)]
  split
  · omega
  · show (List.foldl (· ++ ·) #[] (List.replicate n.toNat z.cps)).size ≤ 3000
    rw [foldl_size _ z.length (fun a ha => by rw [(List.mem_replicate.mp ha).2]; rfl), List.length_replicate]
    have h1 : n.toNat ≤ 100 := by omega
    have h2 : n.toNat * z.length ≤ 100 * 30 := Nat.mul_le_mul h1 hz
    show 0 + n.toNat * z.length ≤ 3000
    omega
theorem mul_ok (z : Str) (n : Int) (hz : z.length ≤ 30) (hn : 1 ≤ n ∧ n ≤ 100) : MulOk z n := by
  refine ⟨?_, fun _ _ => ?_, fun _ _ => ?_⟩
  · rw [decide_eq_false (by omega), decide_eq_false (by omega)]
    rfl
  · have : (30 : Int) ≤ (2 ^ 63 - 1) / n := by
      rw [Int.le_ediv_iff_mul_le (by omega)]
      omega
    omega
  · have h1 : n.toNat ≤ 100 := by omega
    have h2 : z.length * n.toNat ≤ 30 * 100 := Nat.mul_le_mul hz h1
    show decide (_ > _) = false
    refine decide_eq_false ?_
    have : (3000 : Nat) ≤ sizeLine := by decide
    omega
theorem sg_len : SG.length = 36 := by decide +kernel
theorem at_int {zs : List Nat} {d : Int} (h0 : 0 ≤ d) (h1 : d < (zs.length : Int)) : ∃ c ∈ zs, atI zs d = some c := by
  have hk : d.toNat < zs.length := by omega
  refine ⟨zs[d.toNat], List.getElem_mem hk, ?_⟩
  have := atI_nat (List.getElem?_eq_getElem hk)
  rw [show ((d.toNat : Nat) : Int) = d by omega] at this
  exact this
theorem one_sign (c : Nat) : tl (⟨#[c]⟩ : Str) = [c] := rfl
theorem nm_of {z : Str} (h0 : z.length ≠ 0) (h8 : z.length ≤ 8) (h : ∀ c ∈ tl z, c ∈ SG) : isNm z = true := by
  unfold isNm
  rw [Bool.and_eq_true]
  exact ⟨decide_eq_true ⟨h0, h8⟩, List.all_eq_true.mpr fun c hc => decide_eq_true (h c hc)⟩

theorem tl_none : tl (Str.ofString "") = [] := by decide +kernel
/-! ### names by a stem -/
def sgn (j : Int) : Nat := SG.getD (j % 36).toNat 0
def nameS (stem : Int) (v k : Nat) : Nat := sgn (stem / 64 + (k : Int) * (stem / 7 % 5) + (if (k : Int) = stem / 8 % (1 + stem % 8) then (v : Int) else 0))
def nameL (stem : Int) (v : Nat) : List Nat :=
  if stem % 3 = 2 then List.replicate (1 + v % 8) (sgn (stem / 64 + ((v / 8 : Nat) : Int)))
  else (List.range (1 + stem % 8).toNat).map (nameS stem v)
def nameOf (stem : Int) (v : Nat) : Str := ⟨(nameL stem v).toArray⟩
def namesOf (stem : Int) (n : Nat) : List Str := (List.range n).map (nameOf stem)
theorem tl_nameOf (stem : Int) (v : Nat) : tl (nameOf stem v) = nameL stem v := rfl
theorem mod36 (j : Int) : 0 ≤ j % 36 ∧ j % 36 < 36 := ⟨Int.emod_nonneg _ (by decide), Int.emod_lt_of_pos _ (by decide)⟩
theorem sgn_at (j : Int) : atI SG (j % 36) = some (sgn j) := by
  have h := mod36 j
  have hk : (j % 36).toNat < SG.length := by
    rw [sg_len]
    omega
  have := atI_nat (List.getElem?_eq_getElem hk)
  rw [show (((j % 36).toNat : Nat) : Int) = j % 36 by omega] at this
  rw [this]
  unfold sgn
  rw [List.getD_eq_getElem?_getD, List.getElem?_eq_getElem hk]
  rfl
theorem sgn_in (j : Int) : sgn j ∈ SG := by
  have h := mod36 j
  have hk : (j % 36).toNat < SG.length := by
    rw [sg_len]
    omega
  unfold sgn
  rw [List.getD_eq_getElem?_getD, List.getElem?_eq_getElem hk]
  exact List.getElem_mem hk
theorem sg_nodup : SG.Nodup := by decide +kernel
theorem sgn_inj {i j : Int} (h : sgn i = sgn j) : i % 36 = j % 36 := by
  have hi := mod36 i
  have hj := mod36 j
  have ki : (i % 36).toNat < SG.length := by
    rw [sg_len]
    omega
  have kj : (j % 36).toNat < SG.length := by
    rw [sg_len]
    omega
  unfold sgn at h
  rw [List.getD_eq_getElem?_getD, List.getD_eq_getElem?_getD, List.getElem?_eq_getElem ki, List.getElem?_eq_getElem kj] at h
  have := (List.getElem_inj sg_nodup).mp (show SG[(i % 36).toNat] = SG[(j % 36).toNat] from h)
  omega
theorem size_of (stem : Int) : 1 ≤ 1 + stem % 8 ∧ 1 + stem % 8 ≤ 8 := by
  have := Int.emod_nonneg stem (show (8 : Int) ≠ 0 by decide)
  have := Int.emod_lt_of_pos stem (show (0 : Int) < 8 by decide)
  omega
theorem name_ok (stem : Int) (v : Nat) : isNm (nameOf stem v) = true := by
  have hs := size_of stem
  refine nm_of ?_ ?_ ?_
  · rw [len_tl, tl_nameOf]
    unfold nameL
    split
    · rw [List.length_replicate]
      omega
    · rw [List.length_map, List.length_range]
      omega
  · rw [len_tl, tl_nameOf]
    unfold nameL
    split
    · rw [List.length_replicate]
      omega
    · rw [List.length_map, List.length_range]
      omega
  · intro c hc
    rw [tl_nameOf] at hc
    unfold nameL at hc
    split at hc
    · rw [(List.mem_replicate.mp hc).2]
      exact sgn_in _
    · obtain ⟨k, _, e⟩ := List.mem_map.mp hc
      rw [← e]
      exact sgn_in _
theorem name_inj {stem : Int} {u v : Nat} (hu : u < 36) (hv : v < 36) (h : nameOf stem u = nameOf stem v) : u = v := by
  have h : nameL stem u = nameL stem v := congrArg tl h
  have hs := size_of stem
  unfold nameL at h
  split at h
  · have h1 := congrArg List.length h
    rw [List.length_replicate, List.length_replicate] at h1
    have h2 : (List.replicate (1 + u % 8) (sgn (stem / 64 + ((u / 8 : Nat) : Int))))[0]? = (List.replicate (1 + v % 8) (sgn (stem / 64 + ((v / 8 : Nat) : Int))))[0]? := by rw [h]
    rw [List.getElem?_replicate, List.getElem?_replicate, if_pos (by omega), if_pos (by omega)] at h2
    have h3 := sgn_inj (Option.some.inj h2)
    omega
  · have p0 := Int.emod_nonneg (stem / 8) (show (1 + stem % 8 : Int) ≠ 0 by omega)
    have p1 := Int.emod_lt_of_pos (stem / 8) (show (0 : Int) < 1 + stem % 8 by omega)
    have h2 : ((List.range (1 + stem % 8).toNat).map (nameS stem u))[(stem / 8 % (1 + stem % 8)).toNat]? = ((List.range (1 + stem % 8).toNat).map (nameS stem v))[(stem / 8 % (1 + stem % 8)).toNat]? := by rw [h]
    have hk : (stem / 8 % (1 + stem % 8)).toNat < (1 + stem % 8).toNat := by omega
    rw [List.getElem?_map, List.getElem?_map, List.getElem?_range hk] at h2
    have h3 := sgn_inj (Option.some.inj h2)
    have ek : (((stem / 8 % (1 + stem % 8)).toNat : Nat) : Int) = stem / 8 % (1 + stem % 8) := by omega
    rw [if_pos ek, if_pos ek] at h3
    omega
theorem names_nodup (stem : Int) {n : Nat} (h : n ≤ 36) : (namesOf stem n).Nodup := by
  unfold namesOf
  rw [List.nodup_iff_pairwise_ne, List.pairwise_map]
  refine List.Pairwise.imp_of_mem (fun {a b} ha hb hab e => ?_) (List.nodup_iff_pairwise_ne.mp List.nodup_range)
  exact hab (name_inj (by have := List.mem_range.mp ha; omega) (by have := List.mem_range.mp hb; omega) e)
theorem names_nm (stem : Int) (n : Nat) : ∀ z ∈ namesOf stem n, isNm z = true := by
  intro z hz
  obtain ⟨v, _, e⟩ := List.mem_map.mp hz
  rw [← e]
  exact name_ok stem v
theorem names_len (stem : Int) (n : Nat) : (namesOf stem n).length = n := by
  unfold namesOf
  rw [List.length_map, List.length_range]
theorem foldl_one (c : Nat) : ∀ (n : Nat) (s : Array Nat), ((List.replicate n #[c]).foldl (· ++ ·) s).toList = s.toList ++ List.replicate n c
  | 0, s => by simp
  | n + 1, s => by
    rw [List.replicate_succ, List.foldl_cons, foldl_one c n, List.replicate_succ]
    simp
theorem tl_mul_one (c : Nat) (n : Int) (h : 1 ≤ n) : tl (Txt.mul ⟨#[c]⟩ n) = List.replicate n.toNat c := by
  unfold Txt.mul
  rw [if_neg (by omega)]
  split
  · rename_i h2
    have e : n = 1 := by
      have : ((n == 1) || ((⟨#[c]⟩ : Str).length == 0)) = true := h2
      rw [show ((⟨#[c]⟩ : Str).length == 0) = false from rfl, Bool.or_false] at this
      exact beq_iff_eq.mp this
    rw [e]
    rfl
  · show (List.foldl (· ++ ·) #[] (List.replicate n.toNat #[c])).toList = _
    rw [foldl_one]
    rfl

end Tw

set_option Elab.async false
set_option linter.all false
set_option maxRecDepth 100000
set_option maxHeartbeats 4000000
/-! Plain loops; the script's cells, great numbers, names. -/
namespace Tw
open PySem PySem.Spec L2 TL
open PyProof.Rows hiding St

/-! ### loops -/
theorem M.for_fun {α S : Type} {f : S → α → M S} (g : List α → S) (xs : List α) (h : ∀ ys x zs, xs = ys ++ x :: zs → f (g ys) x = .ok (g (ys ++ [x]))) : M.for_ f xs (g []) = .ok (g xs) := by
  obtain ⟨s, e, rfl⟩ := M.for_inv (f := f) (fun ys s => s = g ys) xs (g []) rfl fun ys x zs s e i => ⟨_, by rw [i]; exact h ys x zs e, rfl⟩
  exact e
theorem rng_nat (n : Nat) : rng 0 n = (List.range n).map fun (k : Nat) => (k : Int) := by
  unfold rng
  rw [show ((n : Int) - 0).toNat = n by omega]
  congr 1
  funext k
  omega
theorem rng_succ (n : Nat) : rng 0 ((n + 1 : Nat) : Int) = rng 0 (n : Nat) ++ [(n : Int)] := by
  rw [rng_nat, rng_nat, List.range_succ, List.map_append]
  rfl
theorem M.for_rng {S : Type} {f : S → Int → M S} (g : Nat → S) : ∀ (n : Nat), (∀ i, i < n → f (g i) (i : Int) = .ok (g (i + 1))) → M.for_ f (rng 0 (n : Int)) (g 0) = .ok (g n)
  | 0, _ => rfl
  | n + 1, h => by
    rw [rng_succ, M.for_app, M.for_rng g n fun i hi => h i (by omega), M.b_ok, M.for_cons, h n (by omega)]
    rfl
theorem M.for_rngI {S : Type} {f : S → Int → M S} (I : Nat → S → Prop) : ∀ (n : Nat) (s0 : S), I 0 s0 → (∀ i s, i < n → I i s → ∃ s', f s (i : Int) = .ok s' ∧ I (i + 1) s') → ∃ s', M.for_ f (rng 0 (n : Int)) s0 = .ok s' ∧ I n s'
  | 0, s0, h0, _ => ⟨s0, rfl, h0⟩
  | n + 1, s0, h0, h => by
    obtain ⟨s1, e1, i1⟩ := M.for_rngI I n s0 h0 fun i s hi => h i s (by omega)
    obtain ⟨s2, e2, i2⟩ := h n s1 (by omega) i1
    refine ⟨s2, ?_, i2⟩
    rw [rng_succ, M.for_app, e1, M.b_ok, M.for_cons, e2]
    rfl
theorem M.b_ite {α β : Type} {c : Prop} [Decidable c] (m n : M α) (k : α → M β) : M.b (if c then m else n) k = if c then M.b m k else M.b n k := by
  split <;> rfl
theorem chk_mod {i j : Int} {α : Type} {m : M α} (h : 0 < j) : M.chk (CPos i j) m = m := M.chk_of h
theorem chk_div {i j : Int} {α : Type} {m : M α} (h : 0 < j) (h2 : j < 2 ^ 30) : M.chk (CDivW i j) m = m := M.chk_of (wide_div (b := 31) h (by omega) (by decide) (by decide))
theorem chk_rng {n : Nat} {α : Type} {m : M α} (h : n ≤ 100000000) : M.chk (-(2 ^ 62) ≤ (n : Int) ∧ (n : Int) < 2 ^ 62) m = m := M.chk_of ⟨by omega, by omega⟩
theorem line_of {n : Nat} (h : n ≤ 100000) : n ≤ sizeLine := small_line h
theorem line_lt {n : Nat} (h : n ≤ 100000) : n < sizeLine := Nat.lt_of_le_of_lt h (by decide)
theorem chk_line {n : Nat} {α : Type} {m : M α} (h : n ≤ 100000) : M.chk (n ≤ sizeLine) m = m := M.chk_of (line_of h)
theorem chk_lt {n : Nat} {α : Type} {m : M α} (h : n ≤ 100000) : M.chk (n < sizeLine) m = m := M.chk_of (line_lt h)

/-! ### it ends well -/
def M.T {α : Type} (m : M α) (p : α → Prop) : Prop := m.P p fun _ => False
theorem M.T_ok {α : Type} {a : α} {p : α → Prop} (h : p a) : (M.ok a).T p := h
theorem M.T_b {α β : Type} {m : M α} {k : α → M β} {p : β → Prop} (h : m.T fun a => (k a).T p) : (M.b m k).T p := M.P_b.mpr h
theorem M.T_chk {α : Type} {c : Prop} {m : M α} {p : α → Prop} (hc : c) (h : m.T p) : (M.chk c m).T p := M.P_chk.mpr ⟨hc, h⟩
theorem M.T_get {α : Type} {o : Option α} {a : α} {p : α → Prop} (e : o = some a) (h : p a) : (M.get o).T p := M.P_get.mpr ⟨a, e, h⟩
theorem M.T_ite {α : Type} {c : Prop} [Decidable c] {m n : M α} {p : α → Prop} (h1 : c → m.T p) (h2 : ¬ c → n.T p) : (if c then m else n).T p := by
  split
  · exact h1 ‹_›
  · exact h2 ‹_›
theorem M.T_eq {α : Type} {m : M α} {p : α → Prop} (h : m.T p) : ∃ a, m = .ok a ∧ p a := by
  cases m with
  | ok a => exact ⟨a, rfl, h⟩
  | exc c => exact h.elim
  | bad => exact h.elim
theorem M.T_of {α : Type} {m : M α} {a : α} {p : α → Prop} (e : m = .ok a) (h : p a) : m.T p := by rw [e]; exact h
theorem M.T_is {α : Type} {m : M α} {a : α} (h : m.T fun b => b = a) : m = .ok a := by
  obtain ⟨b, e, rfl⟩ := M.T_eq h
  exact e
theorem M.T_cl {α : Type} {m : M α} {p : α → Prop} (h : m.T p) : m.cl.T p := by
  obtain ⟨b, rfl, h⟩ := M.T_eq h
  exact h
theorem M.T.imp {α : Type} {m : M α} {p q : α → Prop} (h : m.T p) (f : ∀ a, p a → q a) : m.T q := M.P.imp h f fun _ z => z
theorem M.T_for {α S : Type} {f : S → α → M S} {p : S → Prop} (I : List α → S → Prop) {xs : List α} {s0 : S} (h0 : I [] s0) (hs : ∀ ys x zs s, xs = ys ++ x :: zs → I ys s → (f s x).T (I (ys ++ [x]))) (hp : ∀ s, I xs s → p s) : (M.for_ f xs s0).T p := by
  obtain ⟨s, e, i⟩ := M.for_inv I xs s0 h0 fun ys x zs s e i => M.T_eq (hs ys x zs s e i)
  exact M.T_of e (hp s i)
theorem M.T_rng {S : Type} {f : S → Int → M S} {p : S → Prop} (I : Nat → S → Prop) {n : Int} {s0 : S} (h0 : I 0 s0) (hs : ∀ (i : Nat) s, (i : Int) < n → I i s → (f s (i : Int)).T (I (i + 1))) (hp : ∀ s, I n.toNat s → p s) : (M.for_ f (rng 0 n) s0).T p := by
  have e : rng 0 n = rng 0 ((n.toNat : Nat) : Int) := by
    unfold rng
    rw [show (n - 0).toNat = (((n.toNat : Nat) : Int) - 0).toNat by omega]
  rw [e]
  obtain ⟨s, e, i⟩ := M.for_rngI I n.toNat s0 h0 fun i s hi h => M.T_eq (hs i s (by omega) h)
  exact M.T_of e (hp s i)
theorem M.T_forR {α S R : Type} {f : S → α → M (S ⊕ R)} {p : S ⊕ R → Prop} (I : List α → S → Prop) {xs : List α} {s0 : S} (h0 : I [] s0)
    (hs : ∀ ys x zs s, xs = ys ++ x :: zs → I ys s → (f s x).T fun c => match c with | .inl s => I (ys ++ [x]) s | .inr r => p (.inr r)) (hp : ∀ s, I xs s → p (.inl s)) : (M.forR f xs s0).T p := by
  suffices H : ∀ (zs ys : List α) (s : S), xs = ys ++ zs → I ys s → (M.forR f zs s).T p from H xs [] s0 rfl h0
  intro zs
  induction zs with
  | nil =>
    intro ys s e h
    rw [List.append_nil] at e
    subst e
    exact hp s h
  | cons x r ih =>
    intro ys s e h
    rw [M.forR_cons]
    refine M.T_b ((hs ys x r s e h).imp fun c hc => ?_)
    cases c with
    | inl s1 => exact ih (ys ++ [x]) s1 (by rw [e]; simp) hc
    | inr q => exact hc
theorem M.T_rngR {S R : Type} {f : S → Int → M (S ⊕ R)} {p : S ⊕ R → Prop} (I : Nat → S → Prop) {n : Int} {s0 : S} (h0 : I 0 s0)
    (hs : ∀ (i : Nat) s, (i : Int) < n → I i s → (f s (i : Int)).T fun c => match c with | .inl s => I (i + 1) s | .inr r => p (.inr r)) (hp : ∀ s, I n.toNat s → p (.inl s)) : (M.forR f (rng 0 n) s0).T p := by
  refine M.T_forR (fun ys s => I ys.length s) h0 (fun ys x zs s e h => ?_) fun s h => ?_
  · have hl := congrArg List.length e
    rw [rng_len, List.length_append, List.length_cons] at hl
    have hx : (rng 0 n)[ys.length]? = some x := by rw [e]; simp
    obtain ⟨h1, h2⟩ := rng_at hx
    have h3 := hs ys.length s (by omega) h
    rw [show x = (ys.length : Int) by omega]
    refine h3.imp fun c hc => ?_
    cases c with
    | inl s => rw [List.length_append]; exact hc
    | inr r => exact hc
  · rw [rng_len, show (n - 0).toNat = n.toNat by omega] at h
    exact hp s h
theorem M.T_orRl {S R : Type} {k : S → M R} {s : S} {p : R → Prop} (h : (k s).T p) : (M.orR k (.inl s)).T p := h
theorem M.T_orRr {S R : Type} {k : S → M R} {r : R} {p : R → Prop} (h : p r) : (M.orR k (.inr r)).T p := h
theorem M.lc_pure {α β : Type} (p : α → Bool) (f : α → β) (xs : List α) : M.lc (fun y => .ok (p y)) (fun y => .ok (f y)) xs = .ok ((xs.filter p).map f) := M.lc_ok xs (fun _ _ => rfl) fun _ _ _ => rfl
theorem M.lc_flt {α : Type} (p : α → Bool) (xs : List α) : M.lc (fun y => .ok (p y)) (fun y => .ok y) xs = .ok (xs.filter p) := by rw [M.lc_pure p (fun x => x)]; simp
theorem M.lc_mapp {α β : Type} (f : α → β) (xs : List α) : M.lc (fun _ => .ok true) (fun y => .ok (f y)) xs = .ok (xs.map f) := M.lc_map xs fun _ _ => rfl
theorem cdiv {i j : Int} (h : 0 < j) (h2 : j < 2 ^ 30) : CDivW i j := wide_div (b := 31) h (by omega) (by decide) (by decide)
theorem rng_side {n : Int} (h : -1000000000 ≤ n ∧ n ≤ 1000000000) : -(2 ^ 62) ≤ n ∧ n < 2 ^ 62 := ⟨by omega, by omega⟩
/-! _law_cell_at; slots 0:_law_script 1:_law_k -/
abbrev n__law_cell_at : List Str := ["_law_script", "_law_k"]
noncomputable def F__law_cell_at (p0 : Scr) (p1 : Int) : M Int :=
  (if (decide (p1 < ((p0.l.length : Nat) : Int))) = true then (M.get (atI p0.l p1)) else (M.ok (0 : Int)))
def sp__law_cell_at (G : Gb) : Sp := spA G (fun (p : Scr × Int) => [.bw (p.1), .fz (p.2)]) (rpF G) (fun (p : Scr × Int) => F__law_cell_at (p.1) (p.2))
def t__law_cell_at (G : Gb) : TS :=
  (tSeq (tIfS (tTest (tOp qLt (tVar 1) (tCB (qLenQ G.K) (tCons (tVar 0) tNil))))
  (tRet (tOp (rIxL G.K) (tVar 0) (tVar 1)))
  tNext)
  (tRet (tC (.int 0))))
theorem len__law_cell_at {G : Gb} (vs : List V) (H : Hp) (Q : VK) (E : XK) (h : sp__law_cell_at G vs H Q E) : vs.length = 2 := spA_len h fun _ => rfl
theorem rn__law_cell_at {G : Gb} {B : Hp} {E : XK} (p0 : Scr) (p1 : Int) : Run G B E (oR G B (rpF G)) [some (.bw p0), some (.fz p1)] (t__law_cell_at G) (F__law_cell_at p0 p1) := by
  have h : Run G B E (oR G B (rpF G)) [some (.bw p0), some (.fz p1)] (t__law_cell_at G) _ := (run_ifS (evT_T (ev_lt (mr := .F) (ev_fz rfl) (ev_lenScr (mr := .F) (ev_bw rfl)))) (run_cutR (run_ret (ev_ixScr (mr := .F) (ev_bw rfl) (ev_fz rfl)))) (run_skip (run_ret (ev_int (md := .F)))))
  exact h
theorem run__law_cell_at {G : Gb} {vs : List V} {H : Hp} {Q : VK} {E : XK} (h : sp__law_cell_at G vs H Q E) : t__law_cell_at G (dEnd Q) (start n__law_cell_at vs) H := spA_run (n := 0) h (fun _ => rfl) fun p B => rn__law_cell_at (p.1) (p.2)
/-! _law_big; slots 0:_law_script 1:_law_at 2:_law_by 3:_law_prime 4:_law_cell 5:_law_big_here 6:_law_k 7:_law_one -/
abbrev n__law_big : List Str := ["_law_script", "_law_at", "_law_by", "_law_prime", "_law_cell", "_law_big_here", "_law_k", "_law_one"]
noncomputable def F__law_big (p0 : Scr) (p1 : Int) : M Int :=
  (M.b (M.chk (((48271 : Int) :: ((69621 : Int) :: ((16807 : Int) :: ((39373 : Int) :: ((21401 : Int) :: ((60493 : Int) :: ((87721 : Int) :: ((31337 : Int) :: [])))))))).length ≤ sizeLine) (M.ok (⟨((48271 : Int) :: ((69621 : Int) :: ((16807 : Int) :: ((39373 : Int) :: ((21401 : Int) :: ((60493 : Int) :: ((87721 : Int) :: ((31337 : Int) :: []))))))))⟩ : Tp Int))) fun v1 => (M.b (M.chk (((99991 : Int) :: ((99989 : Int) :: ((99971 : Int) :: ((99961 : Int) :: ((99929 : Int) :: ((99923 : Int) :: ((99907 : Int) :: ((99901 : Int) :: [])))))))).length ≤ sizeLine) (M.ok (⟨((99991 : Int) :: ((99989 : Int) :: ((99971 : Int) :: ((99961 : Int) :: ((99929 : Int) :: ((99923 : Int) :: ((99907 : Int) :: ((99901 : Int) :: []))))))))⟩ : Tp Int))) fun v2 => (M.b (M.cl (F__law_cell_at p0 p1)) fun v3 => (M.b (M.b (M.b (M.chk (CPos v3 (2 : Int)) (M.ok (v3 % (2 : Int)))) fun x4 => (M.ok (decide (x4 = (0 : Int))))) fun x6 => (if x6 = true then (M.b (M.chk (CPow (10 : Int) (20 : Int)) (M.ok ((10 : Int) ^ ((20 : Int) : Int).toNat))) fun x5 => (M.ok (decide (x5 < v3)))) else M.ok false)) fun x29 => (if x29 = true then (M.chk (CDivW v3 (2 : Int)) (M.ok (v3 / (2 : Int)))) else (M.b (M.ok (0 : Int)) fun v7 => (M.b (M.b (M.chk (-(2 ^ 62) ≤ (60 : Int) ∧ (60 : Int) < 2 ^ 62) (M.ok (rng 0 (60 : Int)))) fun x27 => (M.for_ (fun (s8 : Int) (x9 : Int) => (M.b (M.b (M.b (M.b (M.b (M.b (M.chk (CPos x9 (9 : Int)) (M.ok (x9 % (9 : Int)))) fun x10 => (M.ok (p1 + x10))) fun x11 => (M.cl (F__law_cell_at p0 x11))) fun x12 => (M.b (M.chk (CPow (10 : Int) (18 : Int)) (M.ok ((10 : Int) ^ ((18 : Int) : Int).toNat))) fun x13 => (M.chk (CPos x12 x13) (M.ok (x12 % x13))))) fun x14 => (M.ok (x14 + (1 : Int)))) fun x15 => (M.b (M.chk (CMulW x9 x9) (M.ok (x9 * x9))) fun x16 => (M.ok (x15 + x16)))) fun v17 => (M.b (M.b (M.chk (CMulW s8 (7919 : Int)) (M.ok (s8 * (7919 : Int)))) fun x24 => (M.b (M.b (M.b (M.b (M.b (M.chk (CPos x9 (8 : Int)) (M.ok (x9 % (8 : Int)))) fun x18 => (M.get (atI v1.l x18))) fun x19 => (M.chk (CMulW v17 x19) (M.ok (v17 * x19)))) fun x21 => (M.b (M.b (M.chk (CPos x9 (8 : Int)) (M.ok (x9 % (8 : Int)))) fun x20 => (M.get (atI v2.l x20))) fun x22 => (M.chk (CPos x21 x22) (M.ok (x21 % x22))))) fun x23 => (M.chk (CPos x23 (7919 : Int)) (M.ok (x23 % (7919 : Int))))) fun x25 => (M.ok (x24 + x25)))) fun v26 => (M.ok v26)))) x27 v7)) fun s28 => (M.ok s28))))))))
def sp__law_big (G : Gb) : Sp := spA G (fun (p : Scr × Int) => [.bw (p.1), .fz (p.2)]) (rpF G) (fun (p : Scr × Int) => F__law_big (p.1) (p.2))
def t__law_big (G : Gb) : TS :=
  (tSeq (tAsg (tTup (tCons (tC (.int 48271)) (tCons (tC (.int 69621)) (tCons (tC (.int 16807)) (tCons (tC (.int 39373)) (tCons (tC (.int 21401)) (tCons (tC (.int 60493)) (tCons (tC (.int 87721)) (tCons (tC (.int 31337)) tNil))))))))) (gName 2)) (tSeq (tAsg (tTup (tCons (tC (.int 99991)) (tCons (tC (.int 99989)) (tCons (tC (.int 99971)) (tCons (tC (.int 99961)) (tCons (tC (.int 99929)) (tCons (tC (.int 99923)) (tCons (tC (.int 99907)) (tCons (tC (.int 99901)) tNil))))))))) (gName 3)) (tSeq (tAsg (tCall (sp__law_cell_at G) [] E0 (tCons (tVar 0) (tCons (tVar 1) tNil))) (gName 4)) (tSeq (tIfS (tAnd (tTest (tOp rEq (tOp qMod (tVar 4) (tC (.int 2))) (tC (.int 0)))) (tTest (tOp qGt (tVar 4) (tOp qPow (tC (.int 10)) (tC (.int 20))))))
  (tRet (tOp qDiv (tVar 4) (tC (.int 2))))
  tNext)
  (tSeq (tAsg (tC (.int 0)) (gName 5)) (tSeq (tFor (iRng1 (tCons (tC (.int 60)) tNil)) (gName 6)
  (tSeq (tAsg (tOp qAdd (tOp qAdd (tOp qMod (tCall (sp__law_cell_at G) [] E0 (tCons (tVar 0) (tCons (tOp qAdd (tVar 1) (tOp qMod (tVar 6) (tC (.int 9)))) tNil))) (tOp qPow (tC (.int 10)) (tC (.int 18)))) (tC (.int 1))) (tOp qMul (tVar 6) (tVar 6))) (gName 7)) (tAsg (tOp qAdd (tOp qMul (tVar 5) (tC (.int 7919))) (tOp qMod (tOp qMod (tOp qMul (tVar 7) (tOp (rIxT G.K) (tVar 2) (tOp qMod (tVar 6) (tC (.int 8))))) (tOp (rIxT G.K) (tVar 3) (tOp qMod (tVar 6) (tC (.int 8))))) (tC (.int 7919)))) (gName 5))))
  (tRet (tVar 5))))))))
theorem len__law_big {G : Gb} (vs : List V) (H : Hp) (Q : VK) (E : XK) (h : sp__law_big G vs H Q E) : vs.length = 2 := spA_len h fun _ => rfl
theorem rn__law_big {G : Gb} {B : Hp} {E : XK} (p0 : Scr) (p1 : Int) : Run G B E (oR G B (rpF G)) [some (.bw p0), some (.fz p1), none, none, none, none, none, none] (t__law_big G) (F__law_big p0 p1) := by
  have h : Run G B E (oR G B (rpF G)) [some (.bw p0), some (.fz p1), none, none, none, none, none, none] (t__law_big G) _ := (run_asg (bind := fun (x : (Tp Int)) (r : Evr) => (r.set 2 (some (.fz x)))) (ev_tp (el_cons (ev_int (md := .F)) (el_cons (ev_int (md := .F)) (el_cons (ev_int (md := .F)) (el_cons (ev_int (md := .F)) (el_cons (ev_int (md := .F)) (el_cons (ev_int (md := .F)) (el_cons (ev_int (md := .F)) (el_cons (ev_int (md := .F)) (el_nil (α := Int))))))))))) tg_F (fun v1 => (run_asg (bind := fun (x : (Tp Int)) (r : Evr) => (r.set 3 (some (.fz x)))) (ev_tp (el_cons (ev_int (md := .F)) (el_cons (ev_int (md := .F)) (el_cons (ev_int (md := .F)) (el_cons (ev_int (md := .F)) (el_cons (ev_int (md := .F)) (el_cons (ev_int (md := .F)) (el_cons (ev_int (md := .F)) (el_cons (ev_int (md := .F)) (el_nil (α := Int))))))))))) tg_F (fun v2 => (run_asg (bind := fun (x : Int) (r : Evr) => (r.set 4 (some (.fz x)))) (ev_call2 (f := F__law_cell_at) (ev_bw rfl) ps_B (ev_fz rfl) ps_F) tg_S (fun v3 => (run_ifS (evT_and (evT_T (ev_eq (mr := .F) (ev_mod (mr := .F) (ev_fz rfl) (ev_int (md := .F))) (ev_int (md := .F)))) (evT_T (ev_gt (mr := .F) (ev_fz rfl) (ev_pow (mr := .F) (ev_int (md := .F)) (ev_int (md := .F)))))) (run_cutR (run_ret (ev_div (mr := .F) (ev_fz rfl) (ev_int (md := .F))))) (run_skip (run_asg (bind := fun (x : Int) (r : Evr) => (r.set 5 (some (.fz x)))) (ev_int (md := .F)) tg_S (fun v7 => (run_seq (EX := fun (s : Int) => [some (.bw p0), some (.fz p1), some (.fz v1), some (.fz v2), some (.fz v3), some (.fz s), none, none]) (run_for (bind := fun (x : Int) (r : Evr) => (r.set 6 (some (.fz x)))) (s0 := v7) (ew_rng1 (ev_int (md := .F)) tg_S) (.keep (.keep (.keep (.keep (.keep (.keep (.drop (.drop Wk.nil)))))))) (fun s8 x9 => (run_asg (bind := fun (x : Int) (r : Evr) => (r.set 7 (some (.fz x)))) (ev_add (mr := .F) (ev_add (mr := .F) (ev_mod (mr := .F) (ev_call2 (f := F__law_cell_at) (ev_bw rfl) ps_B (ev_add (mr := .F) (ev_fz rfl) (ev_mod (mr := .F) (ev_fz rfl) (ev_int (md := .F)))) ps_F) (ev_pow (mr := .F) (ev_int (md := .F)) (ev_int (md := .F)))) (ev_int (md := .F))) (ev_mul (mr := .F) (ev_fz rfl) (ev_fz rfl))) tg_S (fun v17 => (run_last (run_asg (bind := fun (x : Int) (r : Evr) => (r.set 5 (some (.fz x)))) (ev_add (mr := .F) (ev_mul (mr := .F) (ev_fz rfl) (ev_int (md := .F))) (ev_mod (mr := .F) (ev_mod (mr := .F) (ev_mul (mr := .F) (ev_fz rfl) (ev_ixTp (ev_fz rfl) (ev_mod (mr := .F) (ev_fz rfl) (ev_int (md := .F))))) (ev_ixTp (ev_fz rfl) (ev_mod (mr := .F) (ev_fz rfl) (ev_int (md := .F))))) (ev_int (md := .F)))) tg_S (fun v26 => (run_next (s := v26) (.keep (.keep (.keep (.keep (.keep (.keep (.drop (.drop Wk.nil)))))))))))))))) (fun s28 => (run_ret (ev_fz rfl))))))))))))))
  exact h
theorem run__law_big {G : Gb} {vs : List V} {H : Hp} {Q : VK} {E : XK} (h : sp__law_big G vs H Q E) : t__law_big G (dEnd Q) (start n__law_big vs) H := spA_run (n := 6) h (fun _ => rfl) fun p B => rn__law_big (p.1) (p.2)
/-! _law_names; slots 0:_law_stem 1:_law_many 2:_law_signs 3:_law_size 4:_law_spot 5:_law_names_here 6:_law_v 7:_law_name 8:_law_k 9:_law_turn -/
abbrev n__law_names : List Str := ["_law_stem", "_law_many", "_law_signs", "_law_size", "_law_spot", "_law_names_here", "_law_v", "_law_name", "_law_k", "_law_turn"]
noncomputable def F__law_names (p0 : Int) (p1 : Int) : M (List Str) :=
  (M.b (M.ok (Str.ofString "abcdefghijklmnopqrstuvwxyz0123456789")) fun v1 => (M.b (M.b (M.chk (CPos p0 (8 : Int)) (M.ok (p0 % (8 : Int)))) fun x2 => (M.ok ((1 : Int) + x2))) fun v3 => (M.b (M.b (M.chk (CDivW p0 (8 : Int)) (M.ok (p0 / (8 : Int)))) fun x4 => (M.chk (CPos x4 v3) (M.ok (x4 % v3)))) fun v5 => (M.b (M.ok ([] : (List Str))) fun v6 => (M.b (M.b (M.chk (-(2 ^ 62) ≤ p1 ∧ p1 < 2 ^ 62) (M.ok (rng 0 p1))) fun x45 => (M.for_ (fun (s7 : (List Str)) (x8 : Int) => (M.b (M.ok (Str.ofString "")) fun v9 => (M.b (M.b (M.chk (-(2 ^ 62) ≤ v3 ∧ v3 < 2 ^ 62) (M.ok (rng 0 v3))) fun x23 => (M.for_ (fun (s10 : Str) (x11 : Int) => (M.b (M.b (M.chk (CDivW p0 (64 : Int)) (M.ok (p0 / (64 : Int)))) fun x14 => (M.b (M.b (M.b (M.chk (CDivW p0 (7 : Int)) (M.ok (p0 / (7 : Int)))) fun x12 => (M.chk (CPos x12 (5 : Int)) (M.ok (x12 % (5 : Int))))) fun x13 => (M.chk (CMulW x11 x13) (M.ok (x11 * x13)))) fun x15 => (M.ok (x14 + x15)))) fun v16 => (M.b (if (decide (x11 = v5)) = true then (M.b (M.ok (v16 + x8)) fun v18 => (M.ok v18)) else (M.ok v16)) fun s19 => (M.b (M.b (M.b (M.chk (CPos s19 (36 : Int)) (M.ok (s19 % (36 : Int)))) fun x20 => (M.chk (v1.length ≤ sizeLine) (M.b (M.get (atI v1.cps.toList x20)) fun c => M.ok (⟨#[c]⟩ : Str)))) fun x21 => (M.chk (s10.length + x21.length ≤ sizeLine) (M.ok (s10 ++ x21)))) fun v22 => (M.ok v22))))) x23 v9)) fun s24 => (M.b (M.b (M.b (M.chk (CPos p0 (3 : Int)) (M.ok (p0 % (3 : Int)))) fun x25 => (M.ok (decide (x25 = (2 : Int))))) fun x44 => (if x44 = true then (M.b (M.b (M.b (M.b (M.b (M.chk (CDivW p0 (64 : Int)) (M.ok (p0 / (64 : Int)))) fun x34 => (M.b (M.chk (CDivW x8 (8 : Int)) (M.ok (x8 / (8 : Int)))) fun x35 => (M.ok (x34 + x35)))) fun x36 => (M.chk (CPos x36 (36 : Int)) (M.ok (x36 % (36 : Int))))) fun x37 => (M.chk (v1.length ≤ sizeLine) (M.b (M.get (atI v1.cps.toList x37)) fun c => M.ok (⟨#[c]⟩ : Str)))) fun x39 => (M.b (M.b (M.chk (CPos x8 (8 : Int)) (M.ok (x8 % (8 : Int)))) fun x38 => (M.ok ((1 : Int) + x38))) fun x40 => (M.chk (MulOk x39 x40) (M.ok (Txt.mul x39 x40))))) fun v41 => (M.ok v41)) else (M.ok s24))) fun s42 => (M.b (M.ok s42) fun a43 => M.chk (s7.length < sizeLine) (M.ok (s7 ++ [a43]))))))) x45 v6)) fun s46 => (M.ok s46))))))
def sp__law_names (G : Gb) : Sp := spA G (fun (p : Int × Int) => [.fz (p.1), .fz (p.2)]) (rpN G) (fun (p : Int × Int) => F__law_names (p.1) (p.2))
def t__law_names (G : Gb) : TS :=
  (tSeq (tAsg (tC (.str "abcdefghijklmnopqrstuvwxyz0123456789")) (gName 2)) (tSeq (tAsg (tOp qAdd (tC (.int 1)) (tOp qMod (tVar 0) (tC (.int 8)))) (gName 3)) (tSeq (tAsg (tOp qMod (tOp qDiv (tVar 0) (tC (.int 8))) (tVar 3)) (gName 4)) (tSeq (tAsg (tLst tNil) (gName 5)) (tSeq (tFor (iRng1 (tCons (tVar 1) tNil)) (gName 6)
  (tSeq (tAsg (tC (.str "")) (gName 7)) (tSeq (tFor (iRng1 (tCons (tVar 3) tNil)) (gName 8)
  (tSeq (tAsg (tOp qAdd (tOp qDiv (tVar 0) (tC (.int 64))) (tOp qMul (tVar 8) (tOp qMod (tOp qDiv (tVar 0) (tC (.int 7))) (tC (.int 5))))) (gName 9)) (tSeq (tIfS (tTest (tOp rEq (tVar 8) (tVar 4)))
  (tAsg (tOp qAdd (tVar 9) (tVar 6)) (gName 9))
  tNext)
  (tAsg (tOp qCatS (tVar 7) (tOp rIxS (tVar 2) (tOp qMod (tVar 9) (tC (.int 36))))) (gName 7)))))
  (tSeq (tIfS (tTest (tOp rEq (tOp qMod (tVar 0) (tC (.int 3))) (tC (.int 2))))
  (tAsg (tOp qRepS (tOp rIxS (tVar 2) (tOp qMod (tOp qAdd (tOp qDiv (tVar 0) (tC (.int 64))) (tOp qDiv (tVar 6) (tC (.int 8)))) (tC (.int 36)))) (tOp qAdd (tC (.int 1)) (tOp qMod (tVar 6) (tC (.int 8))))) (gName 7))
  tNext)
  (tDrop (tBM G.K "list" rAppend (tVar 5) (tCons (tVar 7) tNil)))))))
  (tRet (tVar 5)))))))
theorem len__law_names {G : Gb} (vs : List V) (H : Hp) (Q : VK) (E : XK) (h : sp__law_names G vs H Q E) : vs.length = 2 := spA_len h fun _ => rfl
theorem rn__law_names {G : Gb} {B : Hp} {E : XK} (p0 : Int) (p1 : Int) : Run G B E (oR G B (rpN G)) [some (.fz p0), some (.fz p1), none, none, none, none, none, none, none, none] (t__law_names G) (F__law_names p0 p1) := by
  have h : Run G B E (oR G B (rpN G)) [some (.fz p0), some (.fz p1), none, none, none, none, none, none, none, none] (t__law_names G) _ := (run_asg (bind := fun (x : Str) (r : Evr) => (r.set 2 (some (.fz x)))) (ev_str (md := .F)) tg_S (fun v1 => (run_asg (bind := fun (x : Int) (r : Evr) => (r.set 3 (some (.fz x)))) (ev_add (mr := .F) (ev_int (md := .F)) (ev_mod (mr := .F) (ev_fz rfl) (ev_int (md := .F)))) tg_S (fun v3 => (run_asg (bind := fun (x : Int) (r : Evr) => (r.set 4 (some (.fz x)))) (ev_mod (mr := .F) (ev_div (mr := .F) (ev_fz rfl) (ev_int (md := .F))) (ev_fz rfl)) tg_S (fun v5 => (run_asgN (en_nil (α := Str)) (fun v6 => (run_seq (EX := fun (s : (List Str)) => [some (.fz p0), some (.fz p1), some (.fz v1), some (.fz v3), some (.fz v5), some (.ow s), none, none, none, none]) (run_for (bind := fun (x : Int) (r : Evr) => (r.set 6 (some (.fz x)))) (s0 := v6) (ew_rng1 (ev_fz rfl) tg_S) (.keep (.keep (.keep (.keep (.keep (.keep (.drop (.drop (.drop (.drop Wk.nil)))))))))) (fun s7 x8 => (run_asg (bind := fun (x : Str) (r : Evr) => (r.set 7 (some (.fz x)))) (ev_str (md := .F)) tg_S (fun v9 => (run_seq (EX := fun (s : Str) => [some (.fz p0), some (.fz p1), some (.fz v1), some (.fz v3), some (.fz v5), some (.ow s7), some (.fz x8), some (.fz s), none, none]) (run_for (bind := fun (x : Int) (r : Evr) => (r.set 8 (some (.fz x)))) (s0 := v9) (ew_rng1 (ev_fz rfl) tg_S) (.keep (.keep (.keep (.keep (.keep (.keep (.keep (.keep (.drop (.drop Wk.nil)))))))))) (fun s10 x11 => (run_asg (bind := fun (x : Int) (r : Evr) => (r.set 9 (some (.fz x)))) (ev_add (mr := .F) (ev_div (mr := .F) (ev_fz rfl) (ev_int (md := .F))) (ev_mul (mr := .F) (ev_fz rfl) (ev_mod (mr := .F) (ev_div (mr := .F) (ev_fz rfl) (ev_int (md := .F))) (ev_int (md := .F))))) tg_S (fun v16 => (run_seq (EX := fun (s : Int) => [some (.fz p0), some (.fz p1), some (.fz v1), some (.fz v3), some (.fz v5), some (.ow s7), some (.fz x8), some (.fz s10), some (.fz x11), some (.fz s)]) (run_if (evT_T (ev_eq (mr := .F) (ev_fz rfl) (ev_fz rfl))) (run_last (run_asg (bind := fun (x : Int) (r : Evr) => (r.set 9 (some (.fz x)))) (ev_add (mr := .F) (ev_fz rfl) (ev_fz rfl)) tg_S (fun v18 => (run_next (s := v18) (.keep (.keep (.keep (.keep (.keep (.keep (.keep (.keep (.keep (.keep Wk.nil)))))))))))))) (run_next (s := v16) (.keep (.keep (.keep (.keep (.keep (.keep (.keep (.keep (.keep (.keep Wk.nil)))))))))))) (fun s19 => (run_last (run_asg (bind := fun (x : Str) (r : Evr) => (r.set 7 (some (.fz x)))) (ev_catStr (mr := .F) (ev_fz rfl) (ev_ixStr (mr := .F) (ev_fz rfl) (ev_mod (mr := .F) (ev_fz rfl) (ev_int (md := .F))))) tg_S (fun v22 => (run_next (s := v22) (.keep (.keep (.keep (.keep (.keep (.keep (.keep (.keep (.drop (.drop Wk.nil)))))))))))))))))))) (fun s24 => (run_seq (EX := fun (s : Str) => [some (.fz p0), some (.fz p1), some (.fz v1), some (.fz v3), some (.fz v5), some (.ow s7), some (.fz x8), some (.fz s), none, none]) (run_if (evT_T (ev_eq (mr := .F) (ev_mod (mr := .F) (ev_fz rfl) (ev_int (md := .F))) (ev_int (md := .F)))) (run_last (run_asg (bind := fun (x : Str) (r : Evr) => (r.set 7 (some (.fz x)))) (ev_repStr (mr := .F) (ev_ixStr (mr := .F) (ev_fz rfl) (ev_mod (mr := .F) (ev_add (mr := .F) (ev_div (mr := .F) (ev_fz rfl) (ev_int (md := .F))) (ev_div (mr := .F) (ev_fz rfl) (ev_int (md := .F)))) (ev_int (md := .F)))) (ev_add (mr := .F) (ev_int (md := .F)) (ev_mod (mr := .F) (ev_fz rfl) (ev_int (md := .F))))) tg_S (fun v41 => (run_next (s := v41) (.keep (.keep (.keep (.keep (.keep (.keep (.keep (.keep (.drop (.drop Wk.nil)))))))))))))) (run_next (s := s24) (.keep (.keep (.keep (.keep (.keep (.keep (.keep (.keep (.drop (.drop Wk.nil)))))))))))) (fun s42 => (run_last (run_append rfl (ev_fz rfl) (fun a43 => (run_next (s := (s7 ++ [a43])) (.keep (.keep (.keep (.keep (.keep (.keep (.drop (.drop (.drop (.drop Wk.nil)))))))))))))))))))))) (fun s46 => (run_retO rfl)))))))))))
  exact h
theorem run__law_names {G : Gb} {vs : List V} {H : Hp} {Q : VK} {E : XK} (h : sp__law_names G vs H Q E) : t__law_names G (dEnd Q) (start n__law_names vs) H := spA_run (n := 8) h (fun _ => rfl) fun p B => rn__law_names (p.1) (p.2)
/-! ### cells -/
def cell (ns : List Int) (j : Nat) : Int := ns.getD j 0
theorem cell_at (ns : List Int) (j : Nat) : F__law_cell_at ⟨ns⟩ (j : Int) = .ok (cell ns j) := by
  unfold F__law_cell_at cell
  by_cases h : j < ns.length
  · rw [if_pos (decide_eq_true (by show (j : Int) < (ns.length : Int); omega)), atI_nat (List.getElem?_eq_getElem h), M.get_some, List.getD_eq_getElem?_getD, List.getElem?_eq_getElem h]
    rfl
  · rw [if_neg (by rw [decide_eq_false (by show ¬ (j : Int) < (ns.length : Int); omega)]; exact Bool.false_ne_true), List.getD_eq_getElem?_getD, List.getElem?_eq_none (by omega)]
    exact rfl
/-! ### great numbers -/
def byL : List Int := [48271, 69621, 16807, 39373, 21401, 60493, 87721, 31337]
def primeL : List Int := [99991, 99989, 99971, 99961, 99929, 99923, 99907, 99901]
theorem at8 (xs : List Int) (h : xs.length = 8) (hp : ∀ x ∈ xs, 0 < x ∧ x < 100000) (k : Nat) : ∃ x : Int, atI xs (((k : Int)) % 8) = some x ∧ 0 < x ∧ x < 100000 := by
  have e : ((k : Int) % 8) = ((k % 8 : Nat) : Int) := by omega
  have hk : k % 8 < xs.length := by omega
  refine ⟨xs[k % 8], ?_, hp _ (List.getElem_mem hk)⟩
  rw [e]
  exact atI_nat (List.getElem?_eq_getElem hk)
theorem big_ok (ns : List Int) (j : Nat) : (F__law_big ⟨ns⟩ (j : Int)).T fun b => 0 ≤ b := by
  unfold F__law_big
  refine M.T_b (M.T_chk (line_of (show 8 ≤ 100000 by decide)) (M.T_ok (M.T_b (M.T_chk (line_of (show 8 ≤ 100000 by decide)) (M.T_ok ?_)))))
  rw [cell_at]
  refine M.T_b (M.T_cl (M.T_ok ?_))
  have e10 : (10 : Int) ^ ((20 : Int).toNat) = 100000000000000000000 := by decide
  refine M.T_b (M.T.imp (p := fun x => x = true → 0 < cell ns j) ?_ fun x29 hx => ?_)
  · (repeat' (first | with_reducible refine M.T_b ?_ | with_reducible refine M.T_ok ?_ | (with_reducible refine M.T_chk ?hc ?_; (case hc => (first | assumption | exact cpos (by omega) | exact cdiv (by omega) (by omega) | exact rng_side (by omega) | (unfold CPow; decide) | decide | omega))) | with_reducible refine M.T_cl ?_ | with_reducible refine M.T_orRl ?_ | with_reducible refine M.T_orRr ?_))
    refine M.T_ite (fun h => ?_) fun h => ?_
    · (repeat' (first | with_reducible refine M.T_b ?_ | with_reducible refine M.T_ok ?_ | (with_reducible refine M.T_chk ?hc ?_; (case hc => (first | assumption | exact cpos (by omega) | exact cdiv (by omega) (by omega) | exact rng_side (by omega) | (unfold CPow; decide) | decide | omega))) | with_reducible refine M.T_cl ?_ | with_reducible refine M.T_orRl ?_ | with_reducible refine M.T_orRr ?_))
      intro h2
      have := of_decide_eq_true h2
      rw [e10] at this
      omega
    · (repeat' (first | with_reducible refine M.T_b ?_ | with_reducible refine M.T_ok ?_ | (with_reducible refine M.T_chk ?hc ?_; (case hc => (first | assumption | exact cpos (by omega) | exact cdiv (by omega) (by omega) | exact rng_side (by omega) | (unfold CPow; decide) | decide | omega))) | with_reducible refine M.T_cl ?_ | with_reducible refine M.T_orRl ?_ | with_reducible refine M.T_orRr ?_))
      exact fun z => nomatch z
  refine M.T_ite (fun h => ?_) fun h => ?_
  · have := hx h
    (repeat' (first | with_reducible refine M.T_b ?_ | with_reducible refine M.T_ok ?_ | (with_reducible refine M.T_chk ?hc ?_; (case hc => (first | assumption | exact cpos (by omega) | exact cdiv (by omega) (by omega) | exact rng_side (by omega) | (unfold CPow; decide) | decide | omega))) | with_reducible refine M.T_cl ?_ | with_reducible refine M.T_orRl ?_ | with_reducible refine M.T_orRr ?_))
    omega
  (repeat' (first | with_reducible refine M.T_b ?_ | with_reducible refine M.T_ok ?_ | (with_reducible refine M.T_chk ?hc ?_; (case hc => (first | assumption | exact cpos (by omega) | exact cdiv (by omega) (by omega) | exact rng_side (by omega) | (unfold CPow; decide) | decide | omega))) | with_reducible refine M.T_cl ?_ | with_reducible refine M.T_orRl ?_ | with_reducible refine M.T_orRr ?_))
  refine M.T_rng (fun i (s : Int) => 0 ≤ s ∧ s.natAbs < 2 ^ (13 * i + 1)) ⟨by decide, by decide⟩ (fun i b hi ⟨hb0, hb⟩ => ?_) fun s h => h.1
  obtain ⟨x1, a1, l1, u1⟩ := at8 byL rfl (by decide) i
  obtain ⟨x2, a2, l2, u2⟩ := at8 primeL rfl (by decide) i
  have ej : (j : Int) + (i : Int) % 9 = ((j + i % 9 : Nat) : Int) := by omega
  have m0 := Int.emod_nonneg (cell ns (j + i % 9)) (show (10 : Int) ^ ((18 : Int).toNat) ≠ 0 by decide)
  have m1 := Int.emod_lt_of_pos (cell ns (j + i % 9)) (show (0 : Int) < 10 ^ ((18 : Int).toNat) by decide)
  have e10 : (10 : Int) ^ ((18 : Int).toNat) = 1000000000000000000 := by decide
  have h3 : (i : Int) * (i : Int) ≤ 60 * 60 := Int.mul_le_mul (by omega) (by omega) (by omega) (by omega)
  have h4 : 0 ≤ (i : Int) * (i : Int) := Int.mul_nonneg (by omega) (by omega)
  have cb : 0 ≤ cell ns (j + i % 9) % 10 ^ ((18 : Int).toNat) + 1 + (i : Int) * (i : Int) ∧ cell ns (j + i % 9) % 10 ^ ((18 : Int).toNat) + 1 + (i : Int) * (i : Int) < 2 ^ 61 := by
    rw [e10] at m0 m1 ⊢
    omega
  have w1 : CMulW (i : Int) (i : Int) := wide_mul (a := 6) (b := 6) (by omega) (by omega) (by decide) (by decide) (by decide)
  have w2 : CMulW b 7919 := wide_mul (a := 13 * i + 1) (b := 13) hb (by decide) (by omega) (by decide) (by omega)
  have w3 : CMulW (cell ns (j + i % 9) % 10 ^ ((18 : Int).toNat) + 1 + (i : Int) * (i : Int)) x1 := wide_mul (a := 61) (b := 17) (by omega) (by omega) (by decide) (by decide) (by decide)
  have w4 : (0 : Int) < 10 ^ ((18 : Int).toNat) := by decide
  (repeat' (first | with_reducible refine M.T_b ?_ | with_reducible refine M.T_ok ?_ | (with_reducible refine M.T_chk ?hc ?_; (case hc => (first | assumption | exact cpos (by omega) | exact cdiv (by omega) (by omega) | exact rng_side (by omega) | (unfold CPow; decide) | decide | omega))) | with_reducible refine M.T_cl ?_ | with_reducible refine M.T_orRl ?_ | with_reducible refine M.T_orRr ?_))
  rw [ej, cell_at]
  (repeat' (first | with_reducible refine M.T_b ?_ | with_reducible refine M.T_ok ?_ | (with_reducible refine M.T_chk ?hc ?_; (case hc => (first | assumption | exact cpos (by omega) | exact cdiv (by omega) (by omega) | exact rng_side (by omega) | (unfold CPow; decide) | decide | omega))) | with_reducible refine M.T_cl ?_ | with_reducible refine M.T_orRl ?_ | with_reducible refine M.T_orRr ?_))
  refine M.T_get a1 ?_
  (repeat' (first | with_reducible refine M.T_b ?_ | with_reducible refine M.T_ok ?_ | (with_reducible refine M.T_chk ?hc ?_; (case hc => (first | assumption | exact cpos (by omega) | exact cdiv (by omega) (by omega) | exact rng_side (by omega) | (unfold CPow; decide) | decide | omega))) | with_reducible refine M.T_cl ?_ | with_reducible refine M.T_orRl ?_ | with_reducible refine M.T_orRr ?_))
  refine M.T_get a2 ?_
  (repeat' (first | with_reducible refine M.T_b ?_ | with_reducible refine M.T_ok ?_ | (with_reducible refine M.T_chk ?hc ?_; (case hc => (first | assumption | exact cpos (by omega) | exact cdiv (by omega) (by omega) | exact rng_side (by omega) | (unfold CPow; decide) | decide | omega))) | with_reducible refine M.T_cl ?_ | with_reducible refine M.T_orRl ?_ | with_reducible refine M.T_orRr ?_))
  have q0 := Int.emod_nonneg ((cell ns (j + i % 9) % 10 ^ ((18 : Int).toNat) + 1 + (i : Int) * (i : Int)) * x1 % x2) (show (7919 : Int) ≠ 0 by decide)
  have q1 := Int.emod_lt_of_pos ((cell ns (j + i % 9) % 10 ^ ((18 : Int).toNat) + 1 + (i : Int) * (i : Int)) * x1 % x2) (show (0 : Int) < 7919 by decide)
  have e : 2 ^ (13 * (i + 1) + 1) = 2 ^ (13 * i + 1) * 8192 := by
    rw [show 13 * (i + 1) + 1 = (13 * i + 1) + 13 by omega, Nat.pow_add]
  refine ⟨by omega, ?_⟩
  rw [e]
  omega
theorem cell_T {ns : List Int} {n : Int} {p : Int → Prop} (h : 0 ≤ n) (k : p (cell ns n.toNat)) : (F__law_cell_at ⟨ns⟩ n).T p := by
  rw [show n = ((n.toNat : Nat) : Int) by omega, cell_at]
  exact k
theorem big_T {ns : List Int} {n : Int} {p : Int → Prop} (h : 0 ≤ n) (k : ∀ b, 0 ≤ b → p b) : (F__law_big ⟨ns⟩ n).T p := by
  rw [show n = ((n.toNat : Nat) : Int) by omega]
  exact (big_ok ns n.toNat).imp k
/-! ### names -/
theorem names_ok (stem : Int) (n : Nat) (hn : n ≤ 1000) : F__law_names stem (n : Int) = .ok (namesOf stem n) := by
  refine M.T_is ?_
  unfold F__law_names
  have hs := size_of stem
  have m5 := Int.emod_nonneg (stem / 7) (show (5 : Int) ≠ 0 by decide)
  have m5' := Int.emod_lt_of_pos (stem / 7) (show (0 : Int) < 5 by decide)
  (repeat' (first | with_reducible refine M.T_b ?_ | with_reducible refine M.T_ok ?_ | (with_reducible refine M.T_chk ?hc ?_; (case hc => (first | assumption | exact cpos (by omega) | exact cdiv (by omega) (by omega) | exact rng_side (by omega) | (unfold CPow; decide) | decide | omega))) | with_reducible refine M.T_cl ?_ | with_reducible refine M.T_orRl ?_ | with_reducible refine M.T_orRr ?_))
  refine M.T_rng (fun i (s : List Str) => s = namesOf stem i) rfl (fun v zs hv e => ?_) fun s h => by (repeat' (first | with_reducible refine M.T_b ?_ | with_reducible refine M.T_ok ?_ | (with_reducible refine M.T_chk ?hc ?_; (case hc => (first | assumption | exact cpos (by omega) | exact cdiv (by omega) (by omega) | exact rng_side (by omega) | (unfold CPow; decide) | decide | omega))) | with_reducible refine M.T_cl ?_ | with_reducible refine M.T_orRl ?_ | with_reducible refine M.T_orRr ?_)); rw [h]; congr 1
  subst e
  (repeat' (first | with_reducible refine M.T_b ?_ | with_reducible refine M.T_ok ?_ | (with_reducible refine M.T_chk ?hc ?_; (case hc => (first | assumption | exact cpos (by omega) | exact cdiv (by omega) (by omega) | exact rng_side (by omega) | (unfold CPow; decide) | decide | omega))) | with_reducible refine M.T_cl ?_ | with_reducible refine M.T_orRl ?_ | with_reducible refine M.T_orRr ?_))
  refine M.T_rng (fun i (z : Str) => tl z = (List.range i).map (nameS stem v)) (by rw [tl_none]; rfl) (fun i z hi ez => ?_) fun z ez => ?_
  · have hzl : z.length = i := by
      rw [len_tl, ez, List.length_map, List.length_range]
    have w1 : CMulW (i : Int) (stem / 7 % 5) := wide_mul (a := 4) (b := 3) (by omega) (by omega) (by decide) (by decide) (by decide)
    refine M.T_b ?_
    (repeat' (first | with_reducible refine M.T_b ?_ | with_reducible refine M.T_ok ?_ | (with_reducible refine M.T_chk ?hc ?_; (case hc => (first | assumption | exact cpos (by omega) | exact cdiv (by omega) (by omega) | exact rng_side (by omega) | (unfold CPow; decide) | decide | omega))) | with_reducible refine M.T_cl ?_ | with_reducible refine M.T_orRl ?_ | with_reducible refine M.T_orRr ?_))
    refine M.T.imp (p := fun t => t = stem / 64 + (i : Int) * (stem / 7 % 5) + (if (i : Int) = stem / 8 % (1 + stem % 8) then (v : Int) else 0)) ?_ fun t et => ?_
    · refine M.T_ite (fun h => ?_) fun h => ?_
      · (repeat' (first | with_reducible refine M.T_b ?_ | with_reducible refine M.T_ok ?_ | (with_reducible refine M.T_chk ?hc ?_; (case hc => (first | assumption | exact cpos (by omega) | exact cdiv (by omega) (by omega) | exact rng_side (by omega) | (unfold CPow; decide) | decide | omega))) | with_reducible refine M.T_cl ?_ | with_reducible refine M.T_orRl ?_ | with_reducible refine M.T_orRr ?_))
        rw [if_pos (of_decide_eq_true h)]
      · (repeat' (first | with_reducible refine M.T_b ?_ | with_reducible refine M.T_ok ?_ | (with_reducible refine M.T_chk ?hc ?_; (case hc => (first | assumption | exact cpos (by omega) | exact cdiv (by omega) (by omega) | exact rng_side (by omega) | (unfold CPow; decide) | decide | omega))) | with_reducible refine M.T_cl ?_ | with_reducible refine M.T_orRl ?_ | with_reducible refine M.T_orRr ?_))
        rw [if_neg (fun w => h (decide_eq_true w)), Int.add_zero]
    · (repeat' (first | with_reducible refine M.T_b ?_ | with_reducible refine M.T_ok ?_ | (with_reducible refine M.T_chk ?hc ?_; (case hc => (first | assumption | exact cpos (by omega) | exact cdiv (by omega) (by omega) | exact rng_side (by omega) | (unfold CPow; decide) | decide | omega))) | with_reducible refine M.T_cl ?_ | with_reducible refine M.T_orRl ?_ | with_reducible refine M.T_orRr ?_))
      refine M.T_get (sgn_at t) ?_
      (repeat' (first | with_reducible refine M.T_b ?_ | with_reducible refine M.T_ok ?_ | (with_reducible refine M.T_chk ?hc ?_; (case hc => (first | assumption | exact cpos (by omega) | exact cdiv (by omega) (by omega) | exact rng_side (by omega) | (unfold CPow; decide) | decide | omega))) | with_reducible refine M.T_cl ?_ | with_reducible refine M.T_orRl ?_ | with_reducible refine M.T_orRr ?_))
      refine M.T_chk (line_of (by show z.length + 1 ≤ 100000; omega)) ?_
      (repeat' (first | with_reducible refine M.T_b ?_ | with_reducible refine M.T_ok ?_ | (with_reducible refine M.T_chk ?hc ?_; (case hc => (first | assumption | exact cpos (by omega) | exact cdiv (by omega) (by omega) | exact rng_side (by omega) | (unfold CPow; decide) | decide | omega))) | with_reducible refine M.T_cl ?_ | with_reducible refine M.T_orRl ?_ | with_reducible refine M.T_orRr ?_))
      rw [tl_append, ez, List.range_succ, List.map_append, et]
      rfl
  · (repeat' (first | with_reducible refine M.T_b ?_ | with_reducible refine M.T_ok ?_ | (with_reducible refine M.T_chk ?hc ?_; (case hc => (first | assumption | exact cpos (by omega) | exact cdiv (by omega) (by omega) | exact rng_side (by omega) | (unfold CPow; decide) | decide | omega))) | with_reducible refine M.T_cl ?_ | with_reducible refine M.T_orRl ?_ | with_reducible refine M.T_orRr ?_))
    refine M.T_ite (fun h => ?_) fun h => ?_
    · have e2 := of_decide_eq_true h
      (repeat' (first | with_reducible refine M.T_b ?_ | with_reducible refine M.T_ok ?_ | (with_reducible refine M.T_chk ?hc ?_; (case hc => (first | assumption | exact cpos (by omega) | exact cdiv (by omega) (by omega) | exact rng_side (by omega) | (unfold CPow; decide) | decide | omega))) | with_reducible refine M.T_cl ?_ | with_reducible refine M.T_orRl ?_ | with_reducible refine M.T_orRr ?_))
      refine M.T_get (sgn_at _) ?_
      (repeat' (first | with_reducible refine M.T_b ?_ | with_reducible refine M.T_ok ?_ | (with_reducible refine M.T_chk ?hc ?_; (case hc => (first | assumption | exact cpos (by omega) | exact cdiv (by omega) (by omega) | exact rng_side (by omega) | (unfold CPow; decide) | decide | omega))) | with_reducible refine M.T_cl ?_ | with_reducible refine M.T_orRl ?_ | with_reducible refine M.T_orRr ?_))
      refine M.T_chk (mul_ok _ _ (show 1 ≤ 30 by decide) (by omega)) ?_
      (repeat' (first | with_reducible refine M.T_b ?_ | with_reducible refine M.T_ok ?_ | (with_reducible refine M.T_chk ?hc ?_; (case hc => (first | assumption | exact cpos (by omega) | exact cdiv (by omega) (by omega) | exact rng_side (by omega) | (unfold CPow; decide) | decide | omega))) | with_reducible refine M.T_cl ?_ | with_reducible refine M.T_orRl ?_ | with_reducible refine M.T_orRr ?_))
      refine M.T_chk (line_lt (by rw [names_len]; omega)) ?_
      (repeat' (first | with_reducible refine M.T_b ?_ | with_reducible refine M.T_ok ?_ | (with_reducible refine M.T_chk ?hc ?_; (case hc => (first | assumption | exact cpos (by omega) | exact cdiv (by omega) (by omega) | exact rng_side (by omega) | (unfold CPow; decide) | decide | omega))) | with_reducible refine M.T_cl ?_ | with_reducible refine M.T_orRl ?_ | with_reducible refine M.T_orRr ?_))
      have en : Txt.mul ⟨#[sgn (stem / 64 + (v : Int) / 8)]⟩ (1 + (v : Int) % 8) = nameOf stem v := by
        refine ext_tl ?_
        rw [tl_mul_one _ _ (by omega), tl_nameOf]
        unfold nameL
        rw [if_pos e2, show ((1 + (v : Int) % 8).toNat) = 1 + v % 8 by omega, show ((v / 8 : Nat) : Int) = (v : Int) / 8 by omega]
      rw [en]
      unfold namesOf
      rw [List.range_succ, List.map_append]
      rfl
    · (repeat' (first | with_reducible refine M.T_b ?_ | with_reducible refine M.T_ok ?_ | (with_reducible refine M.T_chk ?hc ?_; (case hc => (first | assumption | exact cpos (by omega) | exact cdiv (by omega) (by omega) | exact rng_side (by omega) | (unfold CPow; decide) | decide | omega))) | with_reducible refine M.T_cl ?_ | with_reducible refine M.T_orRl ?_ | with_reducible refine M.T_orRr ?_))
      refine M.T_chk (line_lt (by rw [names_len]; omega)) ?_
      (repeat' (first | with_reducible refine M.T_b ?_ | with_reducible refine M.T_ok ?_ | (with_reducible refine M.T_chk ?hc ?_; (case hc => (first | assumption | exact cpos (by omega) | exact cdiv (by omega) (by omega) | exact rng_side (by omega) | (unfold CPow; decide) | decide | omega))) | with_reducible refine M.T_cl ?_ | with_reducible refine M.T_orRl ?_ | with_reducible refine M.T_orRr ?_))
      have en : z = nameOf stem v := by
        refine ext_tl ?_
        rw [ez, tl_nameOf]
        unfold nameL
        rw [if_neg fun w => h (decide_eq_true w)]
      rw [en]
      unfold namesOf
      rw [List.range_succ, List.map_append]
      rfl
theorem names_T {stem n : Int} {p : List Str → Prop} (h : 0 ≤ n ∧ n ≤ 1000) (k : p (namesOf stem n.toNat)) : (F__law_names stem n).T p := by
  rw [show n = ((n.toNat : Nat) : Int) by omega, names_ok _ _ (by omega)]
  exact k
end Tw

set_option Elab.async false
set_option linter.all false
set_option maxRecDepth 100000
set_option maxHeartbeats 4000000
/-! Sums of sets; the law k20 in plain data. -/
namespace Tw
open PySem PySem.Spec L2 TL
open PyProof.Rows hiding St
/-! ### sums -/
def sumS (a b : List Str) : List Str := srt (a.filter (fun x => !decide (x ∈ b)) ++ b.filter (fun x => !decide (x ∈ a)))
theorem mem_sum {a b : List Str} {x : Str} : x ∈ sumS a b ↔ (x ∈ a ∧ x ∉ b) ∨ (x ∈ b ∧ x ∉ a) := by
  unfold sumS
  rw [srt_mem, List.mem_append, List.mem_filter, List.mem_filter]
  simp
theorem sum_sorted (a b : List Str) : Sorted (sumS a b) := srt_sorted _
theorem sum_nodup {a b : List Str} (ha : a.Nodup) (hb : b.Nodup) : (sumS a b).Nodup := by
  refine srt_nodup (List.nodup_append.mpr ⟨ha.filter _, hb.filter _, fun x hx y hy e => ?_⟩)
  rw [← e] at hy
  have h1 := (List.mem_filter.mp hx).1
  have h2 := (List.mem_filter.mp hy).2
  simp [h1] at h2
theorem sum_comm (a b : List Str) : sumS a b = sumS b a := srt_congr List.perm_append_comm
theorem sum_self (a : List Str) : sumS a a = [] := by
  unfold sumS
  have : a.filter (fun x => !decide (x ∈ a)) = [] := by
    rw [List.filter_eq_nil_iff]
    intro x hx
    simp [hx]
  rw [this]
  exact srt_of .nil
theorem sum_none {a : List Str} (h : Sorted a) : sumS a [] = a := by
  unfold sumS
  have : a.filter (fun x => !decide (x ∈ ([] : List Str))) = a := by
    rw [List.filter_eq_self]
    intro x hx
    simp
  rw [this]
  show srt (a ++ []) = a
  rw [List.append_nil, srt_of h]
theorem none_sum {a : List Str} (h : Sorted a) : sumS [] a = a := by rw [sum_comm, sum_none h]
theorem sum_back {a b : List Str} (hb : Sorted b) (na : a.Nodup) (nb : b.Nodup) : sumS (sumS a b) a = b := by
  refine set_ext (sum_sorted _ _) hb (sum_nodup (sum_nodup na nb) na) nb fun x => ?_
  rw [mem_sum, mem_sum]
  by_cases h1 : x ∈ a <;> by_cases h2 : x ∈ b <;> simp [h1, h2]


/-! summed; slots 0:one 1:other 2:rest 3:thing -/
abbrev n_summed : List Str := ["one", "other", "rest", "thing"]
noncomputable def F_summed (p0 : (List Str)) (p1 : (List Str)) : M (List Str) :=
  (M.b (M.chk (p0.length ≤ sizeLine) (M.lc (fun (y1 : Str) => (M.ok (!decide (y1 ∈ p1)))) (fun (y1 : Str) => (M.ok y1)) p0)) fun v2 => (M.b (M.b (M.chk (p1.length ≤ sizeLine) (M.lc (fun (y3 : Str) => (M.ok (!decide (y3 ∈ p0)))) (fun (y3 : Str) => (M.ok y3)) p1)) fun x4 => (M.chk (v2.length + x4.length ≤ sizeLine) (M.ok (v2 ++ x4)))) fun x5 => (M.chk (x5.length < 64) (M.ok (srt x5)))))
def sp_summed (G : Gb) : Sp := spA G (fun (p : (List Str) × (List Str)) => [.bw (p.1), .bw (p.2)]) (rpN G) (fun (p : (List Str) × (List Str)) => F_summed (p.1) (p.2))
def t_summed (G : Gb) : TS :=
  (tSeq (tAsg (tLc (iList G.K (tVar 0)) (gName 3) (tTest (tOp (rIn G.K true) (tVar 3) (tVar 1))) (tVar 3) [3]) (gName 2)) (tRet (tCB (rSortedS G.K) (tCons (tOp rCat (tVar 2) (tLc (iList G.K (tVar 1)) (gName 3) (tTest (tOp (rIn G.K true) (tVar 3) (tVar 0))) (tVar 3) [3])) tNil))))
theorem len_summed {G : Gb} (vs : List V) (H : Hp) (Q : VK) (E : XK) (h : sp_summed G vs H Q E) : vs.length = 2 := spA_len h fun _ => rfl
theorem rn_summed {G : Gb} {B : Hp} {E : XK} (p0 : (List Str)) (p1 : (List Str)) : Run G B E (oR G B (rpN G)) [some (.bw p0), some (.bw p1), none, none] (t_summed G) (F_summed p0 p1) := by
  have h : Run G B E (oR G B (rpN G)) [some (.bw p0), some (.bw p1), none, none] (t_summed G) _ := (run_asgN (en_lc (te := (tVar 3)) (bind := fun (x : Str) (r : Evr) => (r.set 3 (some (.fz x)))) (ew_B (ev_bw rfl) tg_S) (fun y1 => (evT_T (ev_notin (mr := .F) (ev_fz rfl) (ev_bw rfl)))) (fun y1 => (ev_fz rfl))) (fun v2 => (run_retN (en_sorted (EvN.H (en_cat (es_ow rfl) (es_N (en_lc (te := (tVar 3)) (bind := fun (x : Str) (r : Evr) => (r.set 3 (some (.fz x)))) (ew_B (ev_bw rfl) tg_S) (fun y3 => (evT_T (ev_notin (mr := .F) (ev_fz rfl) (ev_bw rfl)))) (fun y3 => (ev_fz rfl))))))))))
  exact h
theorem run_summed {G : Gb} {vs : List V} {H : Hp} {Q : VK} {E : XK} (h : sp_summed G vs H Q E) : t_summed G (dEnd Q) (start n_summed vs) H := spA_run (n := 2) h (fun _ => rfl) fun p B => rn_summed (p.1) (p.2)
theorem summed_ok (a b : List Str) (h : a.length + b.length < 64) : F_summed a b = .ok (sumS a b) := by
  unfold F_summed
  rw [chk_line (by omega), M.lc_flt, M.b_ok, chk_line (by omega), M.lc_flt, M.b_ok]
  have h1 := List.length_filter_le (fun x => !decide (x ∈ b)) a
  have h2 := List.length_filter_le (fun x => !decide (x ∈ a)) b
  rw [chk_line (by omega), M.b_ok, M.chk_of (by rw [List.length_append]; omega)]
  rfl
theorem sum_len (a b : List Str) : (sumS a b).length ≤ a.length + b.length := by
  unfold sumS
  have h1 := List.length_filter_le (fun x => !decide (x ∈ b)) a
  have h2 := List.length_filter_le (fun x => !decide (x ∈ a)) b
  rw [srt_len, List.length_append]
  omega
end Tw

set_option Elab.async false
set_option linter.all false
set_option maxRecDepth 100000
set_option maxHeartbeats 4000000
namespace Tw
open PySem PySem.Spec L2 TL
open PyProof.Rows hiding St
/-! _law_same; slots 0:_law_found 1:_law_due_here 2:_law_k -/
abbrev n__law_same : List Str := ["_law_found", "_law_due_here", "_law_k"]
noncomputable def F__law_same (p0 : (List Str)) (p1 : (List Str)) : M Bool :=
  (M.b (M.ok ((!true) || (!decide (((p0.length : Nat) : Int) = ((p1.length : Nat) : Int))))) fun x11 => (if x11 = true then (M.ok false) else (M.b (M.b (M.chk (-(2 ^ 62) ≤ ((p1.length : Nat) : Int) ∧ ((p1.length : Nat) : Int) < 2 ^ 62) (M.ok (rng 0 ((p1.length : Nat) : Int)))) fun x9 => (M.forR (fun (s1 : Unit) (x2 : Int) => (M.b (M.b (M.b (M.b (M.get (atI p0 x2)) fun x3 => (M.ok true)) fun x4 => (M.ok (!x4))) fun x7 => (if x7 = true then M.ok true else (M.b (M.get (atI p0 x2)) fun x5 => (M.b (M.get (atI p1 x2)) fun x6 => (M.ok (!decide (x5 = x6))))))) fun x8 => (if x8 = true then (M.ok (.inr false)) else (M.ok (.inl ()))))) x9 ())) (M.orR fun s10 => (M.ok true)))))
def sp__law_same (G : Gb) : Sp := spA G (fun (p : (List Str) × (List Str)) => [.bw (p.1), .bw (p.2)]) (rpF G) (fun (p : (List Str) × (List Str)) => F__law_same (p.1) (p.2))
def t__law_same (G : Gb) : TS :=
  (tSeq (tIfS (tOr (tNot (tB (tCB (rIsi G.K) (tCons (tVar 0) (tCons (tC (.ty "list")) tNil))))) (tTest (tOp rNe (tCB (qLenQ G.K) (tCons (tVar 0) tNil)) (tCB (qLenQ G.K) (tCons (tVar 1) tNil)))))
  (tRet (tC (.bl false)))
  tNext)
  (tSeq (tFor (iRng1 (tCons (tCB (qLenQ G.K) (tCons (tVar 1) tNil)) tNil)) (gName 2)
  (tIfS (tOr (tNot (tB (tCB (rIsi G.K) (tCons (tOp (rIxL G.K) (tVar 0) (tVar 2)) (tCons (tC (.ty "str")) tNil))))) (tTest (tOp rNe (tOp (rIxL G.K) (tVar 0) (tVar 2)) (tOp (rIxL G.K) (tVar 1) (tVar 2)))))
  (tRet (tC (.bl false)))
  tNext))
  (tRet (tC (.bl true)))))
theorem len__law_same {G : Gb} (vs : List V) (H : Hp) (Q : VK) (E : XK) (h : sp__law_same G vs H Q E) : vs.length = 2 := spA_len h fun _ => rfl
theorem rn__law_same {G : Gb} {B : Hp} {E : XK} (p0 : (List Str)) (p1 : (List Str)) : Run G B E (oR G B (rpF G)) [some (.bw p0), some (.bw p1), none] (t__law_same G) (F__law_same p0 p1) := by
  have h : Run G B E (oR G B (rpF G)) [some (.bw p0), some (.bw p1), none] (t__law_same G) _ := (run_ifS (evT_oro (evT_not (evT_B (ev_isi (mr := .F) (k := true) (fun _ => kit_ty (by decide +kernel)) (ev_bw rfl)))) (evT_T (ev_ne (mr := .F) (ev_len (mr := .F) (ev_bw rfl)) (ev_len (mr := .F) (ev_bw rfl))))) (run_cutR (run_ret (ev_bl (md := .F)))) (run_skip (run_seqR (EX := fun (s : Unit) => [some (.bw p0), some (.bw p1), none]) (run_forR (bind := fun (x : Int) (r : Evr) => (r.set 2 (some (.fz x)))) (s0 := ()) (ew_rng1 (ev_len (mr := .F) (ev_bw rfl)) tg_S) (.keep (.keep (.drop Wk.nil))) (fun s1 x2 => (run_if (evT_or (evT_not (evT_B (ev_isi (mr := .F) (k := true) (fun _ => kit_ty (by decide +kernel)) (ev_ix (ev_bw rfl) (ev_fz rfl))))) (evT_T (ev_ne (mr := .F) (ev_ix (ev_bw rfl) (ev_fz rfl)) (ev_ix (ev_bw rfl) (ev_fz rfl))))) (run_retC (ev_bl (md := .F))) (run_nextC (s := ()) (.keep (.keep (.drop Wk.nil))))))) (fun s10 => (run_ret (ev_bl (md := .F)))))))
  exact h
theorem run__law_same {G : Gb} {vs : List V} {H : Hp} {Q : VK} {E : XK} (h : sp__law_same G vs H Q E) : t__law_same G (dEnd Q) (start n__law_same vs) H := spA_run (n := 1) h (fun _ => rfl) fun p B => rn__law_same (p.1) (p.2)
/-! _law_set_of; slots 0:_law_names_here 1:_law_big_here 2:_law_some 3:_law_name -/
abbrev n__law_set_of : List Str := ["_law_names_here", "_law_big_here", "_law_some", "_law_name"]
noncomputable def F__law_set_of (p0 : (List Str)) (p1 : Int) : M (List Str) :=
  (M.b (M.ok ([] : (List Str))) fun v1 => (M.b (M.for_ (fun (s2 : Int × (List Str)) (x3 : Str) => (M.b (M.b (M.b (M.chk (CPos s2.1 (2 : Int)) (M.ok (s2.1 % (2 : Int)))) fun x4 => (M.ok (decide (x4 = (1 : Int))))) fun x9 => (if x9 = true then (M.b (M.ok x3) fun a6 => M.chk (s2.2.length < sizeLine) (M.ok (s2.2 ++ [a6]))) else (M.ok s2.2))) fun s7 => (M.b (M.chk (CDivW s2.1 (2 : Int)) (M.ok (s2.1 / (2 : Int)))) fun v8 => (M.ok (v8, s7))))) p0 (p1, v1)) fun s10 => (M.chk (s10.2.length < 64) (M.ok (srt s10.2)))))
def sp__law_set_of (G : Gb) : Sp := spA G (fun (p : (List Str) × Int) => [.bw (p.1), .fz (p.2)]) (rpN G) (fun (p : (List Str) × Int) => F__law_set_of (p.1) (p.2))
def t__law_set_of (G : Gb) : TS :=
  (tSeq (tAsg (tLst tNil) (gName 2)) (tSeq (tFor (iList G.K (tVar 0)) (gName 3)
  (tSeq (tIfS (tTest (tOp rEq (tOp qMod (tVar 1) (tC (.int 2))) (tC (.int 1))))
  (tDrop (tBM G.K "list" rAppend (tVar 2) (tCons (tVar 3) tNil)))
  tNext)
  (tAsg (tOp qDiv (tVar 1) (tC (.int 2))) (gName 1))))
  (tRet (tCB (rSortedS G.K) (tCons (tVar 2) tNil)))))
theorem len__law_set_of {G : Gb} (vs : List V) (H : Hp) (Q : VK) (E : XK) (h : sp__law_set_of G vs H Q E) : vs.length = 2 := spA_len h fun _ => rfl
theorem rn__law_set_of {G : Gb} {B : Hp} {E : XK} (p0 : (List Str)) (p1 : Int) : Run G B E (oR G B (rpN G)) [some (.bw p0), some (.fz p1), none, none] (t__law_set_of G) (F__law_set_of p0 p1) := by
  have h : Run G B E (oR G B (rpN G)) [some (.bw p0), some (.fz p1), none, none] (t__law_set_of G) _ := (run_asgN (en_nil (α := Str)) (fun v1 => (run_seq (EX := fun (s : Int × (List Str)) => [some (.bw p0), some (.fz s.1), some (.ow s.2), none]) (run_for (bind := fun (x : Str) (r : Evr) => (r.set 3 (some (.fz x)))) (s0 := (p1, v1)) (ew_B (ev_bw rfl) tg_S) (.keep (.keep (.keep (.drop Wk.nil)))) (fun s2 x3 => (run_seq (EX := fun (s : (List Str)) => [some (.bw p0), some (.fz s2.1), some (.ow s), some (.fz x3)]) (run_if (evT_T (ev_eq (mr := .F) (ev_mod (mr := .F) (ev_fz rfl) (ev_int (md := .F))) (ev_int (md := .F)))) (run_last (run_append rfl (ev_fz rfl) (fun a6 => (run_next (s := (s2.2 ++ [a6])) (.keep (.keep (.keep (.keep Wk.nil)))))))) (run_next (s := s2.2) (.keep (.keep (.keep (.keep Wk.nil)))))) (fun s7 => (run_last (run_asg (bind := fun (x : Int) (r : Evr) => (r.set 1 (some (.fz x)))) (ev_div (mr := .F) (ev_fz rfl) (ev_int (md := .F))) tg_S (fun v8 => (run_next (s := (v8, s7)) (.keep (.keep (.keep (.drop Wk.nil)))))))))))) (fun s10 => (run_retN (en_sorted (ev_ow rfl)))))))
  exact h
theorem run__law_set_of {G : Gb} {vs : List V} {H : Hp} {Q : VK} {E : XK} (h : sp__law_set_of G vs H Q E) : t__law_set_of G (dEnd Q) (start n__law_set_of vs) H := spA_run (n := 2) h (fun _ => rfl) fun p B => rn__law_set_of (p.1) (p.2)
/-! _law_due; slots 0:_law_one 1:_law_other 2:_law_due_here 3:_law_name -/
abbrev n__law_due : List Str := ["_law_one", "_law_other", "_law_due_here", "_law_name"]
noncomputable def F__law_due (p0 : (List Str)) (p1 : (List Str)) : M (List Str) :=
  (M.b (M.ok ([] : (List Str))) fun v1 => (M.b (M.b (M.chk (p0.length + p1.length ≤ sizeLine) (M.ok (p0 ++ p1))) fun x5 => (M.for_ (fun (s2 : (List Str)) (x3 : Str) => (if (!((decide (x3 ∈ p0)) && (decide (x3 ∈ p1)))) = true then (M.b (M.ok x3) fun a4 => M.chk (s2.length < sizeLine) (M.ok (s2 ++ [a4]))) else (M.ok s2))) x5 v1)) fun s6 => (M.chk (s6.length < 64) (M.ok (srt s6)))))
def sp__law_due (G : Gb) : Sp := spA G (fun (p : (List Str) × (List Str)) => [.bw (p.1), .bw (p.2)]) (rpN G) (fun (p : (List Str) × (List Str)) => F__law_due (p.1) (p.2))
def t__law_due (G : Gb) : TS :=
  (tSeq (tAsg (tLst tNil) (gName 2)) (tSeq (tFor (iList G.K (tOp rCat (tVar 0) (tVar 1))) (gName 3)
  (tIfS (tNot (tAnd (tTest (tOp (rIn G.K false) (tVar 3) (tVar 0))) (tTest (tOp (rIn G.K false) (tVar 3) (tVar 1)))))
  (tDrop (tBM G.K "list" rAppend (tVar 2) (tCons (tVar 3) tNil)))
  tNext))
  (tRet (tCB (rSortedS G.K) (tCons (tVar 2) tNil)))))
theorem len__law_due {G : Gb} (vs : List V) (H : Hp) (Q : VK) (E : XK) (h : sp__law_due G vs H Q E) : vs.length = 2 := spA_len h fun _ => rfl
theorem rn__law_due {G : Gb} {B : Hp} {E : XK} (p0 : (List Str)) (p1 : (List Str)) : Run G B E (oR G B (rpN G)) [some (.bw p0), some (.bw p1), none, none] (t__law_due G) (F__law_due p0 p1) := by
  have h : Run G B E (oR G B (rpN G)) [some (.bw p0), some (.bw p1), none, none] (t__law_due G) _ := (run_asgN (en_nil (α := Str)) (fun v1 => (run_seq (EX := fun (s : (List Str)) => [some (.bw p0), some (.bw p1), some (.ow s), none]) (run_for (bind := fun (x : Str) (r : Evr) => (r.set 3 (some (.fz x)))) (s0 := v1) (ew_F (EvN.F (en_cat (es_sc (ev_bw rfl)) (es_sc (ev_bw rfl)))) tg_S) (.keep (.keep (.keep (.drop Wk.nil)))) (fun s2 x3 => (run_if (evT_not (evT_ando (evT_T (ev_in (mr := .F) (ev_fz rfl) (ev_bw rfl))) (evT_T (ev_in (mr := .F) (ev_fz rfl) (ev_bw rfl))))) (run_last (run_append rfl (ev_fz rfl) (fun a4 => (run_next (s := (s2 ++ [a4])) (.keep (.keep (.keep (.drop Wk.nil)))))))) (run_next (s := s2) (.keep (.keep (.keep (.drop Wk.nil)))))))) (fun s6 => (run_retN (en_sorted (ev_ow rfl)))))))
  exact h
theorem run__law_due {G : Gb} {vs : List V} {H : Hp} {Q : VK} {E : XK} (h : sp__law_due G vs H Q E) : t__law_due G (dEnd Q) (start n__law_due vs) H := spA_run (n := 2) h (fun _ => rfl) fun p B => rn__law_due (p.1) (p.2)
/-! law; slots 0:_law_script 1:_law_kind 2:_law_names_here 3:_law_name 4:_law_one 5:_law_other 6:_law_handed 7:_law_told 8:_law_rest 9:_law_again -/
abbrev n_law : List Str := ["_law_script", "_law_kind", "_law_names_here", "_law_name", "_law_one", "_law_other", "_law_handed", "_law_told", "_law_rest", "_law_again"]
noncomputable def F_law (p0 : Scr) : M Bool :=
  (M.b (M.cl (F__law_cell_at p0 (0 : Int))) fun v1 => (M.b (M.ok ([] : (List Str))) fun v2 => (M.b (M.b (M.b (M.cl (F__law_cell_at p0 (1 : Int))) fun x3 => (M.b (M.chk (CPos v1 (31 : Int)) (M.ok (v1 % (31 : Int)))) fun x4 => (M.cl (F__law_names x3 x4)))) fun x8 => (M.for_ (fun (s5 : (List Str)) (x6 : Str) => (if (!decide (x6 ∈ s5)) = true then (M.b (M.ok x6) fun a7 => M.chk (s5.length < sizeLine) (M.ok (s5 ++ [a7]))) else (M.ok s5))) x8 v2)) fun s9 => (M.b (M.b (M.cl (F__law_big p0 (2 : Int))) fun x10 => (M.cl (F__law_set_of s9 x10))) fun v11 => (M.b (M.b (M.cl (F__law_big p0 (3 : Int))) fun x12 => (M.cl (F__law_set_of s9 x12))) fun v13 => (M.b (M.b (M.b (M.b (M.chk (CDivW v1 (31 : Int)) (M.ok (v1 / (31 : Int)))) fun x14 => (M.chk (CPos x14 (6 : Int)) (M.ok (x14 % (6 : Int))))) fun x15 => (M.ok (decide (x15 = (1 : Int))))) fun x53 => (if x53 = true then (M.b (M.ok v11) fun v17 => (M.ok v17)) else (M.ok v13))) fun s18 => (M.b (M.chk ((v11 :: (s18 :: [])).length ≤ sizeLine) (M.ok (v11 :: (s18 :: [])))) fun v19 => (M.b (M.b (M.get (atI v19 (0 : Int))) fun x20 => (M.b (M.get (atI v19 (1 : Int))) fun x21 => (M.cl (F_summed x20 x21)))) fun v22 => (M.b (M.b (M.b (M.b (M.cl (F__law_due v11 s18)) fun x23 => (M.cl (F__law_same v22 x23))) fun x24 => (M.ok (!x24))) fun x27 => (if x27 = true then M.ok true else (M.b (M.b (M.cl (F_summed s18 v11)) fun x25 => (M.cl (F__law_same x25 v22))) fun x26 => (M.ok (!x26))))) fun x52 => (if x52 = true then (M.ok false) else (M.b (M.b (M.b (M.cl (F_summed v11 v11)) fun x28 => (M.chk (Dd.Ok x28 ∧ Dd.Ok ([] : (List Str))) (M.ok (!decide (x28 = ([] : (List Str))))))) fun x34 => (if x34 = true then M.ok true else (M.b (M.b (M.b (M.cl (F_summed v11 ([] : (List Str)))) fun x29 => (M.cl (F__law_same x29 v11))) fun x30 => (M.ok (!x30))) fun x33 => (if x33 = true then M.ok true else (M.b (M.b (M.cl (F_summed ([] : (List Str)) v11)) fun x31 => (M.cl (F__law_same x31 v11))) fun x32 => (M.ok (!x32))))))) fun x51 => (if x51 = true then (M.ok false) else (M.b (M.b (M.b (M.cl (F_summed v22 v11)) fun x35 => (M.cl (F__law_same x35 s18))) fun x36 => (M.ok (!x36))) fun x50 => (if x50 = true then (M.ok false) else (M.b (M.ok (Str.ofString "zz")) fun a37 => M.chk (v22.length < sizeLine) (M.b (M.b (M.get (atI v19 (0 : Int))) fun x38 => (M.cl (F_summed x38 ([] : (List Str))))) fun v39 => (M.b (M.ok (Str.ofString "zz")) fun a40 => M.chk (v39.length < sizeLine) (M.b (M.b (M.get (atI v19 (0 : Int))) fun x41 => (M.cl (F_summed ([] : (List Str)) x41))) fun v42 => (M.b (M.ok (Str.ofString "zz")) fun a43 => M.chk (v42.length < sizeLine) (M.b (M.b (M.get (atI v19 (0 : Int))) fun x44 => (M.b (M.get (atI v19 (1 : Int))) fun x45 => (M.cl (F_summed x44 x45)))) fun v46 => (M.b (M.b (M.cl (F__law_due v11 s18)) fun x47 => (M.cl (F__law_same v46 x47))) fun x49 => (if x49 = true then (M.b (M.chk ((v11 :: (s18 :: [])).length ≤ sizeLine) (M.ok (v11 :: (s18 :: [])))) fun x48 => (M.chk (Dd.Ok v19 ∧ Dd.Ok x48) (M.ok (decide (v19 = x48))))) else M.ok false))))))))))))))))))))))
def sp_law (G : Gb) : Sp := spA G (fun (p : Scr) => [.bw p]) (rpF G) (fun (p : Scr) => F_law p)
def t_law (G : Gb) : TS :=
  (tSeq (tAsg (tCall (sp__law_cell_at G) [] E0 (tCons (tVar 0) (tCons (tC (.int 0)) tNil))) (gName 1)) (tSeq (tAsg (tLst tNil) (gName 2)) (tSeq (tFor (iList G.K (tCall (sp__law_names G) [] E0 (tCons (tCall (sp__law_cell_at G) [] E0 (tCons (tVar 0) (tCons (tC (.int 1)) tNil))) (tCons (tOp qMod (tVar 1) (tC (.int 31))) tNil)))) (gName 3)
  (tIfS (tTest (tOp (rIn G.K true) (tVar 3) (tVar 2)))
  (tDrop (tBM G.K "list" rAppend (tVar 2) (tCons (tVar 3) tNil)))
  tNext))
  (tSeq (tAsg (tCall (sp__law_set_of G) [] E0 (tCons (tVar 2) (tCons (tCall (sp__law_big G) [] E0 (tCons (tVar 0) (tCons (tC (.int 2)) tNil))) tNil))) (gName 4)) (tSeq (tAsg (tCall (sp__law_set_of G) [] E0 (tCons (tVar 2) (tCons (tCall (sp__law_big G) [] E0 (tCons (tVar 0) (tCons (tC (.int 3)) tNil))) tNil))) (gName 5)) (tSeq (tIfS (tTest (tOp rEq (tOp qMod (tOp qDiv (tVar 1) (tC (.int 31))) (tC (.int 6))) (tC (.int 1))))
  (tAsg (tCB (qListOf G.K) (tCons (tVar 4) tNil)) (gName 5))
  tNext)
  (tSeq (tAsg (tLst (tCons (tCB (qListOf G.K) (tCons (tVar 4) tNil)) (tCons (tCB (qListOf G.K) (tCons (tVar 5) tNil)) tNil))) (gName 6)) (tSeq (tAsg (tCall (sp_summed G) [] E0 (tCons (tOp (rIxL G.K) (tVar 6) (tC (.int 0))) (tCons (tOp (rIxL G.K) (tVar 6) (tC (.int 1))) tNil))) (gName 7)) (tSeq (tIfS (tOr (tNot (tB (tCall (sp__law_same G) [] E0 (tCons (tVar 7) (tCons (tCall (sp__law_due G) [] E0 (tCons (tVar 4) (tCons (tVar 5) tNil))) tNil))))) (tNot (tB (tCall (sp__law_same G) [] E0 (tCons (tCall (sp_summed G) [] E0 (tCons (tVar 5) (tCons (tVar 4) tNil))) (tCons (tVar 7) tNil))))))
  (tRet (tC (.bl false)))
  tNext)
  (tSeq (tIfS (tOr (tTest (tOp (rNeD G.K) (tCall (sp_summed G) [] E0 (tCons (tVar 4) (tCons (tCB (qListOf G.K) (tCons (tVar 4) tNil)) tNil))) (tLst tNil))) (tOr (tNot (tB (tCall (sp__law_same G) [] E0 (tCons (tCall (sp_summed G) [] E0 (tCons (tVar 4) (tCons (tLst tNil) tNil))) (tCons (tVar 4) tNil))))) (tNot (tB (tCall (sp__law_same G) [] E0 (tCons (tCall (sp_summed G) [] E0 (tCons (tLst tNil) (tCons (tVar 4) tNil))) (tCons (tVar 4) tNil)))))))
  (tRet (tC (.bl false)))
  tNext)
  (tSeq (tIfS (tNot (tB (tCall (sp__law_same G) [] E0 (tCons (tCall (sp_summed G) [] E0 (tCons (tCB (qListOf G.K) (tCons (tVar 7) tNil)) (tCons (tVar 4) tNil))) (tCons (tVar 5) tNil)))))
  (tRet (tC (.bl false)))
  tNext)
  (tSeq (tDrop (tBM G.K "list" rAppend (tVar 7) (tCons (tC (.str "zz")) tNil))) (tSeq (tAsg (tCall (sp_summed G) [] E0 (tCons (tOp (rIxL G.K) (tVar 6) (tC (.int 0))) (tCons (tLst tNil) tNil))) (gName 8)) (tSeq (tDrop (tBM G.K "list" rAppend (tVar 8) (tCons (tC (.str "zz")) tNil))) (tSeq (tAsg (tCall (sp_summed G) [] E0 (tCons (tLst tNil) (tCons (tOp (rIxL G.K) (tVar 6) (tC (.int 0))) tNil))) (gName 8)) (tSeq (tDrop (tBM G.K "list" rAppend (tVar 8) (tCons (tC (.str "zz")) tNil))) (tSeq (tAsg (tCall (sp_summed G) [] E0 (tCons (tOp (rIxL G.K) (tVar 6) (tC (.int 0))) (tCons (tOp (rIxL G.K) (tVar 6) (tC (.int 1))) tNil))) (gName 9)) (tRet (tAndV (tCall (sp__law_same G) [] E0 (tCons (tVar 9) (tCons (tCall (sp__law_due G) [] E0 (tCons (tVar 4) (tCons (tVar 5) tNil))) tNil))) (tOp (rEqD G.K) (tVar 6) (tLst (tCons (tVar 4) (tCons (tVar 5) tNil)))))))))))))))))))))))
theorem len_law {G : Gb} (vs : List V) (H : Hp) (Q : VK) (E : XK) (h : sp_law G vs H Q E) : vs.length = 1 := spA_len h fun _ => rfl
theorem rn_law {G : Gb} {B : Hp} {E : XK} (p0 : Scr) : Run G B E (oR G B (rpF G)) [some (.bw p0), none, none, none, none, none, none, none, none, none] (t_law G) (F_law p0) := by
  have h : Run G B E (oR G B (rpF G)) [some (.bw p0), none, none, none, none, none, none, none, none, none] (t_law G) _ := (run_asg (bind := fun (x : Int) (r : Evr) => (r.set 1 (some (.fz x)))) (ev_call2 (f := F__law_cell_at) (ev_bw rfl) ps_B (ev_int (md := .F)) ps_F) tg_S (fun v1 => (run_asgN (en_nil (α := Str)) (fun v2 => (run_seq (EX := fun (s : (List Str)) => [some (.bw p0), some (.fz v1), some (.ow s), none, none, none, none, none, none, none]) (run_for (bind := fun (x : Str) (r : Evr) => (r.set 3 (some (.fz x)))) (s0 := v2) (ew_F (EvN.F (en_call2 (f := F__law_names) (ev_call2 (f := F__law_cell_at) (ev_bw rfl) ps_B (ev_int (md := .F)) ps_F) ps_F (ev_mod (mr := .F) (ev_fz rfl) (ev_int (md := .F))) ps_F)) tg_S) (.keep (.keep (.keep (.drop (.drop (.drop (.drop (.drop (.drop (.drop Wk.nil)))))))))) (fun s5 x6 => (run_if (evT_T (ev_notin (mr := .F) (ev_fz rfl) (ev_ow rfl))) (run_last (run_append rfl (ev_fz rfl) (fun a7 => (run_next (s := (s5 ++ [a7])) (.keep (.keep (.keep (.drop (.drop (.drop (.drop (.drop (.drop (.drop Wk.nil)))))))))))))) (run_next (s := s5) (.keep (.keep (.keep (.drop (.drop (.drop (.drop (.drop (.drop (.drop Wk.nil)))))))))))))) (fun s9 => (run_asgN (en_call2 (f := F__law_set_of) (ev_ow rfl) ps_B (ev_call2 (f := F__law_big) (ev_bw rfl) ps_B (ev_int (md := .F)) ps_F) ps_F) (fun v11 => (run_asgN (en_call2 (f := F__law_set_of) (ev_ow rfl) ps_B (ev_call2 (f := F__law_big) (ev_bw rfl) ps_B (ev_int (md := .F)) ps_F) ps_F) (fun v13 => (run_seq (EX := fun (s : (List Str)) => [some (.bw p0), some (.fz v1), some (.ow s9), none, some (.ow v11), some (.ow s), none, none, none, none]) (run_if (evT_T (ev_eq (mr := .F) (ev_mod (mr := .F) (ev_div (mr := .F) (ev_fz rfl) (ev_int (md := .F))) (ev_int (md := .F))) (ev_int (md := .F)))) (run_last (run_asgN (en_listOf (es_ow rfl)) (fun v17 => (run_next (s := v17) (.keep (.keep (.keep (.drop (.keep (.keep (.drop (.drop (.drop (.drop Wk.nil)))))))))))))) (run_next (s := v13) (.keep (.keep (.keep (.drop (.keep (.keep (.drop (.drop (.drop (.drop Wk.nil)))))))))))) (fun s18 => (run_asgN (en_lst (el_cons (EvN.F (en_listOf (es_ow rfl))) (el_cons (EvN.F (en_listOf (es_ow rfl))) (el_nil (α := (List Str)))))) (fun v19 => (run_asgN (en_call2 (f := F_summed) (ev_ixS (es_ow rfl) (ev_int (md := .F))) ps_B (ev_ixS (es_ow rfl) (ev_int (md := .F))) ps_B) (fun v22 => (run_ifS (evT_or (evT_not (evT_B (ev_call2 (f := F__law_same) (ev_ow rfl) ps_B (EvN.H (en_call2 (f := F__law_due) (ev_ow rfl) ps_B (ev_ow rfl) ps_B)) ps_B))) (evT_not (evT_B (ev_call2 (f := F__law_same) (EvN.H (en_call2 (f := F_summed) (ev_ow rfl) ps_B (ev_ow rfl) ps_B)) ps_B (ev_ow rfl) ps_B)))) (run_cutR (run_ret (ev_bl (md := .F)))) (run_skip (run_ifS (evT_or (evT_T (ev_neD (mr := .F) (by decide) (EvN.H (en_call2 (f := F_summed) (ev_ow rfl) ps_B (EvN.H (en_listOf (es_ow rfl))) ps_B)) (EvN.H (en_nil (α := Str))))) (evT_or (evT_not (evT_B (ev_call2 (f := F__law_same) (EvN.H (en_call2 (f := F_summed) (ev_ow rfl) ps_B (EvN.H (en_nil (α := Str))) ps_B)) ps_B (ev_ow rfl) ps_B))) (evT_not (evT_B (ev_call2 (f := F__law_same) (EvN.H (en_call2 (f := F_summed) (EvN.H (en_nil (α := Str))) ps_B (ev_ow rfl) ps_B)) ps_B (ev_ow rfl) ps_B))))) (run_cutR (run_ret (ev_bl (md := .F)))) (run_skip (run_ifS (evT_not (evT_B (ev_call2 (f := F__law_same) (EvN.H (en_call2 (f := F_summed) (EvN.H (en_listOf (es_ow rfl))) ps_B (ev_ow rfl) ps_B)) ps_B (ev_ow rfl) ps_B))) (run_cutR (run_ret (ev_bl (md := .F)))) (run_skip (run_append rfl (ev_str (md := .F)) (fun a37 => (run_asgN (en_call2 (f := F_summed) (ev_ixS (es_ow rfl) (ev_int (md := .F))) ps_B (EvN.H (en_nil (α := Str))) ps_B) (fun v39 => (run_append rfl (ev_str (md := .F)) (fun a40 => (run_asgN (en_call2 (f := F_summed) (EvN.H (en_nil (α := Str))) ps_B (ev_ixS (es_ow rfl) (ev_int (md := .F))) ps_B) (fun v42 => (run_append rfl (ev_str (md := .F)) (fun a43 => (run_asgN (en_call2 (f := F_summed) (ev_ixS (es_ow rfl) (ev_int (md := .F))) ps_B (ev_ixS (es_ow rfl) (ev_int (md := .F))) ps_B) (fun v46 => (run_freeze (i := 5) rfl (run_freeze (i := 4) rfl (run_ret (ev_andV (mr := .F) (ev_call2 (f := F__law_same) (ev_ow rfl) ps_B (EvN.H (en_call2 (f := F__law_due) (ev_fz rfl) ps_B (ev_fz rfl) ps_B)) ps_B) (ev_eqD (mr := .F) (by decide) (ev_ow rfl) (EvN.H (en_lst (el_cons (ev_fz rfl) (el_cons (ev_fz rfl) (el_nil (α := (List Str))))))))))))))))))))))))))))))))))))))))))))))
  exact h
theorem run_law {G : Gb} {vs : List V} {H : Hp} {Q : VK} {E : XK} (h : sp_law G vs H Q E) : t_law G (dEnd Q) (start n_law vs) H := spA_run (n := 9) h (fun _ => rfl) fun p B => rn_law p
theorem same_ok (a : List Str) (h : a.length ≤ 1000) : F__law_same a a = .ok true := by
  refine M.T_is ?_
  unfold F__law_same
  (repeat' (first | with_reducible refine M.T_b ?_ | with_reducible refine M.T_ok ?_ | (with_reducible refine M.T_chk ?hc ?_; (case hc => (first | assumption | exact cpos (by omega) | exact cdiv (by omega) (by omega) | exact rng_side (by omega) | (unfold CPow; decide) | decide | omega))) | with_reducible refine M.T_cl ?_ | with_reducible refine M.T_orRl ?_ | with_reducible refine M.T_orRr ?_))
  refine M.T_ite (fun z => ?_) fun _ => ?_
  · simp at z
  (repeat' (first | with_reducible refine M.T_b ?_ | with_reducible refine M.T_ok ?_ | (with_reducible refine M.T_chk ?hc ?_; (case hc => (first | assumption | exact cpos (by omega) | exact cdiv (by omega) (by omega) | exact rng_side (by omega) | (unfold CPow; decide) | decide | omega))) | with_reducible refine M.T_cl ?_ | with_reducible refine M.T_orRl ?_ | with_reducible refine M.T_orRr ?_))
  refine M.T_rngR (fun _ _ => True) trivial (fun i s hi _ => ?_) fun s _ => by (repeat' (first | with_reducible refine M.T_b ?_ | with_reducible refine M.T_ok ?_ | (with_reducible refine M.T_chk ?hc ?_; (case hc => (first | assumption | exact cpos (by omega) | exact cdiv (by omega) (by omega) | exact rng_side (by omega) | (unfold CPow; decide) | decide | omega))) | with_reducible refine M.T_cl ?_ | with_reducible refine M.T_orRl ?_ | with_reducible refine M.T_orRr ?_)); rfl
  have hl : i < a.length := by omega
  have e : atI a (i : Int) = some a[i] := atI_nat (List.getElem?_eq_getElem hl)
  rw [e]
  (repeat' (first | with_reducible refine M.T_b ?_ | with_reducible refine M.T_ok ?_ | (with_reducible refine M.T_chk ?hc ?_; (case hc => (first | assumption | exact cpos (by omega) | exact cdiv (by omega) (by omega) | exact rng_side (by omega) | (unfold CPow; decide) | decide | omega))) | with_reducible refine M.T_cl ?_ | with_reducible refine M.T_orRl ?_ | with_reducible refine M.T_orRr ?_))
  refine M.T_get rfl ?_
  (repeat' (first | with_reducible refine M.T_b ?_ | with_reducible refine M.T_ok ?_ | (with_reducible refine M.T_chk ?hc ?_; (case hc => (first | assumption | exact cpos (by omega) | exact cdiv (by omega) (by omega) | exact rng_side (by omega) | (unfold CPow; decide) | decide | omega))) | with_reducible refine M.T_cl ?_ | with_reducible refine M.T_orRl ?_ | with_reducible refine M.T_orRr ?_))
  refine M.T_ite (fun z => nomatch z) fun _ => ?_
  (repeat' (first | with_reducible refine M.T_b ?_ | with_reducible refine M.T_ok ?_ | (with_reducible refine M.T_chk ?hc ?_; (case hc => (first | assumption | exact cpos (by omega) | exact cdiv (by omega) (by omega) | exact rng_side (by omega) | (unfold CPow; decide) | decide | omega))) | with_reducible refine M.T_cl ?_ | with_reducible refine M.T_orRl ?_ | with_reducible refine M.T_orRr ?_))
  refine M.T_get rfl ?_
  (repeat' (first | with_reducible refine M.T_b ?_ | with_reducible refine M.T_ok ?_ | (with_reducible refine M.T_chk ?hc ?_; (case hc => (first | assumption | exact cpos (by omega) | exact cdiv (by omega) (by omega) | exact rng_side (by omega) | (unfold CPow; decide) | decide | omega))) | with_reducible refine M.T_cl ?_ | with_reducible refine M.T_orRl ?_ | with_reducible refine M.T_orRr ?_))
  refine M.T_get rfl ?_
  (repeat' (first | with_reducible refine M.T_b ?_ | with_reducible refine M.T_ok ?_ | (with_reducible refine M.T_chk ?hc ?_; (case hc => (first | assumption | exact cpos (by omega) | exact cdiv (by omega) (by omega) | exact rng_side (by omega) | (unfold CPow; decide) | decide | omega))) | with_reducible refine M.T_cl ?_ | with_reducible refine M.T_orRl ?_ | with_reducible refine M.T_orRr ?_))
  refine M.T_ite (fun z => ?_) fun _ => ?_
  · simp at z
  · (repeat' (first | with_reducible refine M.T_b ?_ | with_reducible refine M.T_ok ?_ | (with_reducible refine M.T_chk ?hc ?_; (case hc => (first | assumption | exact cpos (by omega) | exact cdiv (by omega) (by omega) | exact rng_side (by omega) | (unfold CPow; decide) | decide | omega))) | with_reducible refine M.T_cl ?_ | with_reducible refine M.T_orRl ?_ | with_reducible refine M.T_orRr ?_))
    trivial
theorem set_of_ok (l : List Str) (b : Int) (h : l.length < 64) (hn : l.Nodup) : (F__law_set_of l b).T fun s => Sorted s ∧ s.Nodup ∧ s.length ≤ l.length ∧ ∀ x ∈ s, x ∈ l := by
  unfold F__law_set_of
  (repeat' (first | with_reducible refine M.T_b ?_ | with_reducible refine M.T_ok ?_ | (with_reducible refine M.T_chk ?hc ?_; (case hc => (first | assumption | exact cpos (by omega) | exact cdiv (by omega) (by omega) | exact rng_side (by omega) | (unfold CPow; decide) | decide | omega))) | with_reducible refine M.T_cl ?_ | with_reducible refine M.T_orRl ?_ | with_reducible refine M.T_orRr ?_))
  refine M.T_for (fun ys (s : Int × List Str) => List.Sublist s.2 ys) (List.Sublist.refl _) (fun ys x zs s e i => ?_) fun s hs => ?_
  · have hl := i.length_le
    have hl2 := congrArg List.length e
    rw [List.length_append, List.length_cons] at hl2
    (repeat' (first | with_reducible refine M.T_b ?_ | with_reducible refine M.T_ok ?_ | (with_reducible refine M.T_chk ?hc ?_; (case hc => (first | assumption | exact cpos (by omega) | exact cdiv (by omega) (by omega) | exact rng_side (by omega) | (unfold CPow; decide) | decide | omega))) | with_reducible refine M.T_cl ?_ | with_reducible refine M.T_orRl ?_ | with_reducible refine M.T_orRr ?_))
    refine M.T_ite (fun z => ?_) fun _ => ?_
    · (repeat' (first | with_reducible refine M.T_b ?_ | with_reducible refine M.T_ok ?_ | (with_reducible refine M.T_chk ?hc ?_; (case hc => (first | assumption | exact cpos (by omega) | exact cdiv (by omega) (by omega) | exact rng_side (by omega) | (unfold CPow; decide) | decide | omega))) | with_reducible refine M.T_cl ?_ | with_reducible refine M.T_orRl ?_ | with_reducible refine M.T_orRr ?_))
      refine M.T_chk (line_lt (by omega)) ?_
      (repeat' (first | with_reducible refine M.T_b ?_ | with_reducible refine M.T_ok ?_ | (with_reducible refine M.T_chk ?hc ?_; (case hc => (first | assumption | exact cpos (by omega) | exact cdiv (by omega) (by omega) | exact rng_side (by omega) | (unfold CPow; decide) | decide | omega))) | with_reducible refine M.T_cl ?_ | with_reducible refine M.T_orRl ?_ | with_reducible refine M.T_orRr ?_))
      exact i.append (List.Sublist.refl _)
    · (repeat' (first | with_reducible refine M.T_b ?_ | with_reducible refine M.T_ok ?_ | (with_reducible refine M.T_chk ?hc ?_; (case hc => (first | assumption | exact cpos (by omega) | exact cdiv (by omega) (by omega) | exact rng_side (by omega) | (unfold CPow; decide) | decide | omega))) | with_reducible refine M.T_cl ?_ | with_reducible refine M.T_orRl ?_ | with_reducible refine M.T_orRr ?_))
      exact i.trans (List.sublist_append_left _ _)
  · have hl := hs.length_le
    refine M.T_chk (by omega) (M.T_ok ⟨srt_sorted _, srt_nodup (hs.nodup hn), by rw [srt_len]; exact hl, fun x hx => hs.subset (srt_mem.mp hx)⟩)
theorem due_ok (a b : List Str) (h : a.length + b.length < 64) : F__law_due a b = .ok (sumS a b) := by
  refine M.T_is ?_
  unfold F__law_due
  have hl : ∀ ys x zs, a ++ b = ys ++ x :: zs → ys.length < 64 := fun ys x zs e => by
    have := congrArg List.length e
    rw [List.length_append, List.length_append, List.length_cons] at this
    omega
  (repeat' (first | with_reducible refine M.T_b ?_ | with_reducible refine M.T_ok ?_ | (with_reducible refine M.T_chk ?hc ?_; (case hc => (first | assumption | exact cpos (by omega) | exact cdiv (by omega) (by omega) | exact rng_side (by omega) | (unfold CPow; decide) | decide | omega))) | with_reducible refine M.T_cl ?_ | with_reducible refine M.T_orRl ?_ | with_reducible refine M.T_orRr ?_))
  refine M.T_chk (line_of (by omega)) ?_
  (repeat' (first | with_reducible refine M.T_b ?_ | with_reducible refine M.T_ok ?_ | (with_reducible refine M.T_chk ?hc ?_; (case hc => (first | assumption | exact cpos (by omega) | exact cdiv (by omega) (by omega) | exact rng_side (by omega) | (unfold CPow; decide) | decide | omega))) | with_reducible refine M.T_cl ?_ | with_reducible refine M.T_orRl ?_ | with_reducible refine M.T_orRr ?_))
  refine M.T_for (fun ys (s : List Str) => s = ys.filter fun x => !(decide (x ∈ a) && decide (x ∈ b))) rfl (fun ys x zs s e i => ?_) fun s hs => ?_
  · have h1 := hl ys x zs e
    have h2 := List.length_filter_le (fun x => !(decide (x ∈ a) && decide (x ∈ b))) ys
    subst i
    rw [List.filter_append, List.filter_cons]
    refine M.T_ite (fun z => ?_) fun z => ?_
    · (repeat' (first | with_reducible refine M.T_b ?_ | with_reducible refine M.T_ok ?_ | (with_reducible refine M.T_chk ?hc ?_; (case hc => (first | assumption | exact cpos (by omega) | exact cdiv (by omega) (by omega) | exact rng_side (by omega) | (unfold CPow; decide) | decide | omega))) | with_reducible refine M.T_cl ?_ | with_reducible refine M.T_orRl ?_ | with_reducible refine M.T_orRr ?_))
      refine M.T_chk (line_lt (by omega)) ?_
      (repeat' (first | with_reducible refine M.T_b ?_ | with_reducible refine M.T_ok ?_ | (with_reducible refine M.T_chk ?hc ?_; (case hc => (first | assumption | exact cpos (by omega) | exact cdiv (by omega) (by omega) | exact rng_side (by omega) | (unfold CPow; decide) | decide | omega))) | with_reducible refine M.T_cl ?_ | with_reducible refine M.T_orRl ?_ | with_reducible refine M.T_orRr ?_))
      rw [if_pos z]
      rfl
    · (repeat' (first | with_reducible refine M.T_b ?_ | with_reducible refine M.T_ok ?_ | (with_reducible refine M.T_chk ?hc ?_; (case hc => (first | assumption | exact cpos (by omega) | exact cdiv (by omega) (by omega) | exact rng_side (by omega) | (unfold CPow; decide) | decide | omega))) | with_reducible refine M.T_cl ?_ | with_reducible refine M.T_orRl ?_ | with_reducible refine M.T_orRr ?_))
      rw [if_neg z, List.filter_nil, List.append_nil]
  · have e : s = a.filter (fun x => !decide (x ∈ b)) ++ b.filter fun x => !decide (x ∈ a) := by
      rw [hs, List.filter_append]
      congr 1
      · refine List.filter_congr fun x hx => ?_
        simp [hx]
      · refine List.filter_congr fun x hx => ?_
        simp [hx]
    have h1 := List.length_filter_le (fun x => !decide (x ∈ b)) a
    have h2 := List.length_filter_le (fun x => !decide (x ∈ a)) b
    refine M.T_chk (by rw [e, List.length_append]; omega) (M.T_ok ?_)
    rw [e]
    rfl
theorem nodup_le {α : Type} [DecidableEq α] : ∀ {s l : List α}, s.Nodup → (∀ x ∈ s, x ∈ l) → s.length ≤ l.length
  | [], _, _, _ => Nat.zero_le _
  | a :: r, l, h, k => by
    have h1 := List.nodup_cons.mp h
    have h2 := nodup_le (l := l.erase a) h1.2 fun x hx => (List.mem_erase_of_ne (fun e => h1.1 (by rw [← e]; exact hx))).mpr (k x (List.mem_cons_of_mem _ hx))
    have ha := k a List.mem_cons_self
    rw [List.length_erase_of_mem ha] at h2
    have := List.length_pos_of_mem ha
    rw [List.length_cons]
    omega
theorem nm_okS {z : Str} (h : isNm z = true) : Dd.Ok z := by
  unfold isNm at h
  rw [Bool.and_eq_true, List.all_eq_true] at h
  have h2 : ∀ c ∈ SG, c < 0x110000 := by decide +kernel
  show z.cps.all (· < 0x110000) = true
  rw [← Array.all_toList, List.all_eq_true]
  intro c hc
  exact decide_eq_true (h2 c (of_decide_eq_true (h.2 c hc)))
theorem law_true (ns : List Int) (hns : ns.length ≤ 63) : F_law ⟨ns⟩ = .ok true := by
  refine M.T_is ?_
  unfold F_law
  (repeat' (first | with_reducible refine M.T_b ?_ | with_reducible refine M.T_ok ?_ | (with_reducible refine M.T_chk ?hc ?_; (case hc => (first | assumption | exact cpos (by omega) | exact cdiv (by omega) (by omega) | exact rng_side (by omega) | (unfold CPow; decide) | decide | omega))) | with_reducible refine M.T_cl ?_ | with_reducible refine M.T_orRl ?_ | with_reducible refine M.T_orRr ?_))
  refine cell_T (by decide) ?_
  (repeat' (first | with_reducible refine M.T_b ?_ | with_reducible refine M.T_ok ?_ | (with_reducible refine M.T_chk ?hc ?_; (case hc => (first | assumption | exact cpos (by omega) | exact cdiv (by omega) (by omega) | exact rng_side (by omega) | (unfold CPow; decide) | decide | omega))) | with_reducible refine M.T_cl ?_ | with_reducible refine M.T_orRl ?_ | with_reducible refine M.T_orRr ?_))
  refine cell_T (by decide) ?_
  have k0 := Int.emod_nonneg (cell ns 0) (show (31 : Int) ≠ 0 by decide)
  have k1 := Int.emod_lt_of_pos (cell ns 0) (show (0 : Int) < 31 by decide)
  (repeat' (first | with_reducible refine M.T_b ?_ | with_reducible refine M.T_ok ?_ | (with_reducible refine M.T_chk ?hc ?_; (case hc => (first | assumption | exact cpos (by omega) | exact cdiv (by omega) (by omega) | exact rng_side (by omega) | (unfold CPow; decide) | decide | omega))) | with_reducible refine M.T_cl ?_ | with_reducible refine M.T_orRl ?_ | with_reducible refine M.T_orRr ?_))
  refine names_T ⟨k0, by show cell ns 0 % 31 ≤ 1000; omega⟩ ?_
  refine M.T_for (fun ys (s : List Str) => s = ys) rfl (fun ys x zs s e i => ?_) fun l hl => ?_
  · subst i
    have hn := names_nodup (cell ns (Int.toNat 1)) (n := (cell ns (Int.toNat 0) % 31).toNat) (by show (cell ns 0 % 31).toNat ≤ 36; omega)
    rw [e] at hn
    have hx : x ∉ s := fun w => (List.nodup_append.mp hn).2.2 x w x List.mem_cons_self rfl
    have hlen := congrArg List.length e
    rw [names_len, List.length_append] at hlen
    have hlen2 : (cell ns (Int.toNat 0) % 31).toNat < 31 := by show (cell ns 0 % 31).toNat < 31; omega
    refine M.T_ite (fun z => ?_) fun z => ?_
    · (repeat' (first | with_reducible refine M.T_b ?_ | with_reducible refine M.T_ok ?_ | (with_reducible refine M.T_chk ?hc ?_; (case hc => (first | assumption | exact cpos (by omega) | exact cdiv (by omega) (by omega) | exact rng_side (by omega) | (unfold CPow; decide) | decide | omega))) | with_reducible refine M.T_cl ?_ | with_reducible refine M.T_orRl ?_ | with_reducible refine M.T_orRr ?_))
      exact M.T_chk (line_lt (by omega)) (M.T_ok rfl)
    · exact absurd (by rw [decide_eq_false hx]; rfl) z
  have ln : l.Nodup := by rw [hl]; exact names_nodup _ (by show (cell ns 0 % 31).toNat ≤ 36; omega)
  have ll : l.length ≤ 30 := by rw [hl, names_len]; show (cell ns 0 % 31).toNat ≤ 30; omega
  have lo : ∀ x ∈ l, isNm x = true := by rw [hl]; exact names_nm _ _
  clear hl
  (repeat' (first | with_reducible refine M.T_b ?_ | with_reducible refine M.T_ok ?_ | (with_reducible refine M.T_chk ?hc ?_; (case hc => (first | assumption | exact cpos (by omega) | exact cdiv (by omega) (by omega) | exact rng_side (by omega) | (unfold CPow; decide) | decide | omega))) | with_reducible refine M.T_cl ?_ | with_reducible refine M.T_orRl ?_ | with_reducible refine M.T_orRr ?_))
  refine big_T (by decide) fun b2 _ => ?_
  (repeat' (first | with_reducible refine M.T_b ?_ | with_reducible refine M.T_ok ?_ | (with_reducible refine M.T_chk ?hc ?_; (case hc => (first | assumption | exact cpos (by omega) | exact cdiv (by omega) (by omega) | exact rng_side (by omega) | (unfold CPow; decide) | decide | omega))) | with_reducible refine M.T_cl ?_ | with_reducible refine M.T_orRl ?_ | with_reducible refine M.T_orRr ?_))
  refine (set_of_ok l b2 (by omega) ln).imp fun a ⟨a1, a2, a3, a4⟩ => ?_
  (repeat' (first | with_reducible refine M.T_b ?_ | with_reducible refine M.T_ok ?_ | (with_reducible refine M.T_chk ?hc ?_; (case hc => (first | assumption | exact cpos (by omega) | exact cdiv (by omega) (by omega) | exact rng_side (by omega) | (unfold CPow; decide) | decide | omega))) | with_reducible refine M.T_cl ?_ | with_reducible refine M.T_orRl ?_ | with_reducible refine M.T_orRr ?_))
  refine big_T (by decide) fun b3 _ => ?_
  (repeat' (first | with_reducible refine M.T_b ?_ | with_reducible refine M.T_ok ?_ | (with_reducible refine M.T_chk ?hc ?_; (case hc => (first | assumption | exact cpos (by omega) | exact cdiv (by omega) (by omega) | exact rng_side (by omega) | (unfold CPow; decide) | decide | omega))) | with_reducible refine M.T_cl ?_ | with_reducible refine M.T_orRl ?_ | with_reducible refine M.T_orRr ?_))
  refine (set_of_ok l b3 (by omega) ln).imp fun c ⟨c1, c2, c3, c4⟩ => ?_
  (repeat' (first | with_reducible refine M.T_b ?_ | with_reducible refine M.T_ok ?_ | (with_reducible refine M.T_chk ?hc ?_; (case hc => (first | assumption | exact cpos (by omega) | exact cdiv (by omega) (by omega) | exact rng_side (by omega) | (unfold CPow; decide) | decide | omega))) | with_reducible refine M.T_cl ?_ | with_reducible refine M.T_orRl ?_ | with_reducible refine M.T_orRr ?_))
  refine M.T.imp (p := fun s => Sorted s ∧ s.Nodup ∧ s.length ≤ l.length ∧ ∀ x ∈ s, x ∈ l) ?_ fun s ⟨s1, s2, s3, s4⟩ => ?_
  · refine M.T_ite (fun _ => ?_) fun _ => ?_
    · (repeat' (first | with_reducible refine M.T_b ?_ | with_reducible refine M.T_ok ?_ | (with_reducible refine M.T_chk ?hc ?_; (case hc => (first | assumption | exact cpos (by omega) | exact cdiv (by omega) (by omega) | exact rng_side (by omega) | (unfold CPow; decide) | decide | omega))) | with_reducible refine M.T_cl ?_ | with_reducible refine M.T_orRl ?_ | with_reducible refine M.T_orRr ?_))
      exact ⟨a1, a2, a3, a4⟩
    · (repeat' (first | with_reducible refine M.T_b ?_ | with_reducible refine M.T_ok ?_ | (with_reducible refine M.T_chk ?hc ?_; (case hc => (first | assumption | exact cpos (by omega) | exact cdiv (by omega) (by omega) | exact rng_side (by omega) | (unfold CPow; decide) | decide | omega))) | with_reducible refine M.T_cl ?_ | with_reducible refine M.T_orRl ?_ | with_reducible refine M.T_orRr ?_))
      exact ⟨c1, c2, c3, c4⟩
  have ok1 : ∀ x, x ∈ l → Dd.Ok x := fun x hx => nm_okS (lo x hx)
  have oka : Dd.Ok a := fun x hx => ok1 x (a4 x hx)
  have oks : Dd.Ok s := fun x hx => ok1 x (s4 x hx)
  have hsum := sum_len a s
  have e0 : F_summed a s = .ok (sumS a s) := summed_ok a s (by omega)
  have e1 : F_summed s a = .ok (sumS a s) := by rw [summed_ok s a (by omega), sum_comm]
  have e2 : F_summed a a = .ok [] := by rw [summed_ok a a (by omega), sum_self]
  have e3 : F_summed a [] = .ok a := by rw [summed_ok a [] (by show a.length + 0 < 64; omega), sum_none a1]
  have e4 : F_summed [] a = .ok a := by rw [summed_ok [] a (by show 0 + a.length < 64; omega), none_sum a1]
  have e5 : F_summed (sumS a s) a = .ok s := by rw [summed_ok _ _ (by have := nodup_le (sum_nodup a2 s2) (fun x hx => (mem_sum.mp hx).elim (fun w => a4 x w.1) fun w => s4 x w.1); omega), sum_back s1 a2 s2]
  have e6 : F__law_due a s = .ok (sumS a s) := due_ok a s (by omega)
  have g0 : atI [a, s] (0 : Int) = some a := rfl
  have g1 : atI [a, s] (1 : Int) = some s := rfl
  have q1 : F__law_same (sumS a s) (sumS a s) = .ok true := same_ok _ (by omega)
  have q2 : F__law_same a a = .ok true := same_ok _ (by omega)
  have q3 : F__law_same s s = .ok true := same_ok _ (by omega)
  have k1 : ∀ {m : M (List (List Str))}, M.chk ([a, s].length ≤ sizeLine) m = m := chk_line (show 2 ≤ 100000 by decide)
  have k2 : ∀ {m : M Bool}, M.chk ((sumS a s).length < sizeLine) m = m := chk_lt (by omega)
  have k3 : ∀ {m : M Bool}, M.chk (a.length < sizeLine) m = m := chk_lt (by omega)
  have okn : Dd.Ok ([] : List Str) := fun x hx => nomatch hx
  have okp : Dd.Ok [a, s] := fun x hx => by
    rcases List.mem_cons.mp hx with e | hx
    · rw [e]; exact oka
    · rw [List.mem_singleton.mp hx]; exact oks
  have k4 : ∀ {m : M Bool}, M.chk (Dd.Ok ([] : List Str) ∧ Dd.Ok ([] : List Str)) m = m := M.chk_of ⟨okn, okn⟩
  have k5 : ∀ {m : M Bool}, M.chk (Dd.Ok [a, s] ∧ Dd.Ok [a, s]) m = m := M.chk_of ⟨okp, okp⟩
  simp only [M.b_ok, M.b_bad, M.cl_ok, g0, g1, M.get_some, e0, e1, e2, e3, e4, e5, e6, q1, q2, q3, k1, k2, k3, k4, k5, Bool.not_true, Bool.false_eq_true, if_false, if_true, decide_true]
  rfl
end Tw

namespace Tw
open PySem PySem.Spec L2
open PyProof.Rows hiding St
def topS (i : Nat) : Stmt := PySem.Challenge.pw_threewebs_k20_sets_summed.main.body.getD i (.Pass ⟨0, 0, 0, 0⟩)
abbrev gb (K : PySem.W.Frag) : Gb := ⟨K, fun _ => 0⟩
abbrev s__law_cell_at : Stmt := topS 3
theorem sc__law_cell_at : FnScope n__law_cell_at ["_law_script", "_law_k"] (defScope s__law_cell_at) := ⟨rfl, rfl, rfl, by decide +kernel, rfl, by decide +kernel, by decide +kernel⟩
abbrev s__law_names : Stmt := topS 5
theorem sc__law_names : FnScope n__law_names ["_law_stem", "_law_many"] (defScope s__law_names) := ⟨rfl, rfl, rfl, by decide +kernel, rfl, by decide +kernel, by decide +kernel⟩
abbrev s__law_set_of : Stmt := topS 7
theorem sc__law_set_of : FnScope n__law_set_of ["_law_names_here", "_law_big_here"] (defScope s__law_set_of) := ⟨rfl, rfl, rfl, by decide +kernel, rfl, by decide +kernel, by decide +kernel⟩
abbrev s__law_big : Stmt := topS 4
theorem sc__law_big : FnScope n__law_big ["_law_script", "_law_at"] (defScope s__law_big) := ⟨rfl, rfl, rfl, by decide +kernel, rfl, by decide +kernel, by decide +kernel⟩
abbrev s_summed : Stmt := topS 1
theorem sc_summed : FnScope n_summed ["one", "other"] (defScope s_summed) := ⟨rfl, rfl, rfl, by decide +kernel, rfl, by decide +kernel, by decide +kernel⟩
abbrev s__law_same : Stmt := topS 6
theorem sc__law_same : FnScope n__law_same ["_law_found", "_law_due_here"] (defScope s__law_same) := ⟨rfl, rfl, rfl, by decide +kernel, rfl, by decide +kernel, by decide +kernel⟩
abbrev s__law_due : Stmt := topS 8
theorem sc__law_due : FnScope n__law_due ["_law_one", "_law_other"] (defScope s__law_due) := ⟨rfl, rfl, rfl, by decide +kernel, rfl, by decide +kernel, by decide +kernel⟩
abbrev s_law : Stmt := topS 9
theorem sc_law : FnScope n_law ["_law_script"] (defScope s_law) := ⟨rfl, rfl, rfl, by decide +kernel, rfl, by decide +kernel, by decide +kernel⟩
structure Top (K : PySem.W.Frag) (mg : Str → Option Value) (a : Nat → Addr) (d : Nat → FuncData) : Prop where
  f__law_cell_at : Fun K "_law_cell_at" "_law_cell_at" s__law_cell_at (a 0) (d 0)
  b__law_cell_at : Binds K (d 0) ["_law_script", "_law_k"] []
  g__law_cell_at : mg "_law_cell_at" = some (.ref (a 0))
  f__law_names : Fun K "_law_names" "_law_names" s__law_names (a 1) (d 1)
  b__law_names : Binds K (d 1) ["_law_stem", "_law_many"] []
  g__law_names : mg "_law_names" = some (.ref (a 1))
  f__law_set_of : Fun K "_law_set_of" "_law_set_of" s__law_set_of (a 2) (d 2)
  b__law_set_of : Binds K (d 2) ["_law_names_here", "_law_big_here"] []
  g__law_set_of : mg "_law_set_of" = some (.ref (a 2))
  f__law_big : Fun K "_law_big" "_law_big" s__law_big (a 3) (d 3)
  b__law_big : Binds K (d 3) ["_law_script", "_law_at"] []
  g__law_big : mg "_law_big" = some (.ref (a 3))
  f_summed : Fun K "summed" "summed" s_summed (a 4) (d 4)
  b_summed : Binds K (d 4) ["one", "other"] []
  g_summed : mg "summed" = some (.ref (a 4))
  f__law_same : Fun K "_law_same" "_law_same" s__law_same (a 5) (d 5)
  b__law_same : Binds K (d 5) ["_law_found", "_law_due_here"] []
  g__law_same : mg "_law_same" = some (.ref (a 5))
  f__law_due : Fun K "_law_due" "_law_due" s__law_due (a 6) (d 6)
  b__law_due : Binds K (d 6) ["_law_one", "_law_other"] []
  g__law_due : mg "_law_due" = some (.ref (a 6))
  f_law : Fun K "law" "law" s_law (a 7) (d 7)
  b_law : Binds K (d 7) ["_law_script"] []
  g_law : mg "law" = some (.ref (a 7))
  m_isinstance : mg "isinstance" = none
  m_len : mg "len" = none
  m_list : mg "list" = none
  m_range : mg "range" = none
  m_sorted : mg "sorted" = none
  m_str : mg "str" = none
section
variable {P : Program} {w : World} {K : PySem.W.Frag} {mg : Str → Option Value} {base : Heap} {a : Nat → Addr} {d : Nat → FuncData}
theorem ok__law_cell_at (T : Top K mg a d) : FnOk P w K mg base CX0 1 (a 0) (d 0) ["_law_script", "_law_k"] (sp__law_cell_at (gb K)) :=
  T.f__law_cell_at.ok sc__law_cell_at (fun vs H Q E h => len__law_cell_at vs H Q E h) (fun cdv A outer s H vs Q E hr h => ⟨t__law_cell_at (gb K), (pss_cons (ps_if (pt_cmpR op_lt (pv 1) (pe_callB call_len_seq (by rfl) T.m_len (by decide +kernel) (pa_cons (pv 0) pa_nil)) (nomark _))
  (pss_one (ps_ret (pe_ix ix_list (pv 0) (pv 1) (fun _ _ => rfl))))
  pss_nil)
  (pss_one (ps_ret pe_int))), run__law_cell_at h⟩)
theorem ok__law_names (T : Top K mg a d) : FnOk P w K mg base CX0 1 (a 1) (d 1) ["_law_stem", "_law_many"] (sp__law_names (gb K)) :=
  T.f__law_names.ok sc__law_names (fun vs H Q E h => len__law_names vs H Q E h) (fun cdv A outer s H vs Q E hr h => ⟨t__law_names (gb K), (pss_cons (ps_set (i := 2) sc__law_names.nd rfl (by first | exact .inl rfl | exact .inr rfl) pe_str)
  (pss_cons (ps_set (i := 3) sc__law_names.nd rfl (by first | exact .inl rfl | exact .inr rfl) (pe_op op_add pe_int (pe_op op_mod (pv 0) pe_int)))
  (pss_cons (ps_set (i := 4) sc__law_names.nd rfl (by first | exact .inl rfl | exact .inr rfl) (pe_op op_mod (pe_op op_fdivW (pv 0) pe_int) (pv 3)))
  (pss_cons (ps_set (i := 5) sc__law_names.nd rfl (by first | exact .inl rfl | exact .inr rfl) (pe_lst pa_nil))
  (pss_cons (ps_for PassesOwn.never rfl (pi_range1 (by rfl) T.m_range (pa_cons (pv 1) pa_nil)) (pg_name (i := 6) sc__law_names.nd rfl (by first | exact .inl rfl | exact .inr rfl))
  (pss_cons (ps_set (i := 7) sc__law_names.nd rfl (by first | exact .inl rfl | exact .inr rfl) pe_str)
  (pss_cons (ps_for PassesOwn.never rfl (pi_range1 (by rfl) T.m_range (pa_cons (pv 3) pa_nil)) (pg_name (i := 8) sc__law_names.nd rfl (by first | exact .inl rfl | exact .inr rfl))
  (pss_cons (ps_set (i := 9) sc__law_names.nd rfl (by first | exact .inl rfl | exact .inr rfl) (pe_op op_add (pe_op op_fdivW (pv 0) pe_int) (pe_op op_mulW (pv 8) (pe_op op_mod (pe_op op_fdivW (pv 0) pe_int) pe_int))))
  (pss_cons (ps_if (pt_cmpR op_eq (pv 8) (pv 4) (nomark _))
  (pss_one (ps_set (i := 9) sc__law_names.nd rfl (by first | exact .inl rfl | exact .inr rfl) (pe_op op_add (pv 9) (pv 6))))
  pss_nil)
  (pss_one (ps_set (i := 7) sc__law_names.nd rfl (by first | exact .inl rfl | exact .inr rfl) (pe_op op_add_str (pv 7) (pe_ix ix_str (pv 2) (pe_op op_mod (pv 9) pe_int) (fun _ _ => rfl))))))))
  (pss_cons (ps_if (pt_cmpR op_eq (pe_op op_mod (pv 0) pe_int) pe_int (nomark _))
  (pss_one (ps_set (i := 7) sc__law_names.nd rfl (by first | exact .inl rfl | exact .inr rfl) (pe_op op_rep_str (pe_ix ix_str (pv 2) (pe_op op_mod (pe_op op_add (pe_op op_fdivW (pv 0) pe_int) (pe_op op_fdivW (pv 6) pe_int)) pe_int) (fun _ _ => rfl)) (pe_op op_add pe_int (pe_op op_mod (pv 6) pe_int)))))
  pss_nil)
  (pss_one (ps_expr (pe_bm PySem.F.plainAttrs_list PySem.F.slot_list_append PySem.F.type_list_append mt_append (pv 5) (pa_cons (pv 7) pa_nil))))))))
  (pss_one (ps_ret (pv 5)))))))), run__law_names h⟩)
theorem ok__law_set_of (T : Top K mg a d) : FnOk P w K mg base CX0 1 (a 2) (d 2) ["_law_names_here", "_law_big_here"] (sp__law_set_of (gb K)) :=
  T.f__law_set_of.ok sc__law_set_of (fun vs H Q E h => len__law_set_of vs H Q E h) (fun cdv A outer s H vs Q E hr h => ⟨t__law_set_of (gb K), (pss_cons (ps_set (i := 2) sc__law_set_of.nd rfl (by first | exact .inl rfl | exact .inr rfl) (pe_lst pa_nil))
  (pss_cons (ps_for PassesOwn.never rfl (pi_list (pv 0)) (pg_name (i := 3) sc__law_set_of.nd rfl (by first | exact .inl rfl | exact .inr rfl))
  (pss_cons (ps_if (pt_cmpR op_eq (pe_op op_mod (pv 1) pe_int) pe_int (nomark _))
  (pss_one (ps_expr (pe_bm PySem.F.plainAttrs_list PySem.F.slot_list_append PySem.F.type_list_append mt_append (pv 2) (pa_cons (pv 3) pa_nil))))
  pss_nil)
  (pss_one (ps_set (i := 1) sc__law_set_of.nd rfl (by first | exact .inl rfl | exact .inr rfl) (pe_op op_fdivW (pv 1) pe_int)))))
  (pss_one (ps_ret (pe_callB cr_sortedS (by rfl) T.m_sorted (by decide +kernel) (pa_cons (pv 2) pa_nil)))))), run__law_set_of h⟩)
theorem ok__law_big (T : Top K mg a d) : FnOk P w K mg base CX0 2 (a 3) (d 3) ["_law_script", "_law_at"] (sp__law_big (gb K)) :=
  T.f__law_big.ok sc__law_big (fun vs H Q E h => len__law_big vs H Q E h) (fun cdv A outer s H vs Q E hr h => ⟨t__law_big (gb K), (pss_cons (ps_set (i := 2) sc__law_big.nd rfl (by first | exact .inl rfl | exact .inr rfl) (pe_tup (pa_cons pe_int (pa_cons pe_int (pa_cons pe_int (pa_cons pe_int (pa_cons pe_int (pa_cons pe_int (pa_cons pe_int (pa_cons pe_int pa_nil))))))))))
  (pss_cons (ps_set (i := 3) sc__law_big.nd rfl (by first | exact .inl rfl | exact .inr rfl) (pe_tup (pa_cons pe_int (pa_cons pe_int (pa_cons pe_int (pa_cons pe_int (pa_cons pe_int (pa_cons pe_int (pa_cons pe_int (pa_cons pe_int pa_nil))))))))))
  (pss_cons (ps_set (i := 4) sc__law_big.nd rfl (by first | exact .inl rfl | exact .inr rfl) (pe_call (ok__law_cell_at T) (hr.mono (by decide)) (by rfl) T.g__law_cell_at T.f__law_cell_at.kp T.b__law_cell_at .nil pass0 (pa_cons (pv 0) (pa_cons (pv 1) pa_nil))))
  (pss_cons (ps_if (PW.pt (pw_and (pt_cmpR op_eq (pe_op op_mod (pv 4) pe_int) pe_int (nomark _)) (pw_and1 (pt_cmpR op_gt (pv 4) (pe_op op_pow pe_int pe_int) (nomark _)))))
  (pss_one (ps_ret (pe_op op_fdivW (pv 4) pe_int)))
  pss_nil)
  (pss_cons (ps_set (i := 5) sc__law_big.nd rfl (by first | exact .inl rfl | exact .inr rfl) pe_int)
  (pss_cons (ps_for PassesOwn.never rfl (pi_range1 (by rfl) T.m_range (pa_cons pe_int pa_nil)) (pg_name (i := 6) sc__law_big.nd rfl (by first | exact .inl rfl | exact .inr rfl))
  (pss_cons (ps_set (i := 7) sc__law_big.nd rfl (by first | exact .inl rfl | exact .inr rfl) (pe_op op_add (pe_op op_add (pe_op op_mod (pe_call (ok__law_cell_at T) (hr.mono (by decide)) (by rfl) T.g__law_cell_at T.f__law_cell_at.kp T.b__law_cell_at .nil pass0 (pa_cons (pv 0) (pa_cons (pe_op op_add (pv 1) (pe_op op_mod (pv 6) pe_int)) pa_nil))) (pe_op op_pow pe_int pe_int)) pe_int) (pe_op op_mulW (pv 6) (pv 6))))
  (pss_one (ps_set (i := 5) sc__law_big.nd rfl (by first | exact .inl rfl | exact .inr rfl) (pe_op op_add (pe_op op_mulW (pv 5) pe_int) (pe_op op_mod (pe_op op_mod (pe_op op_mulW (pv 7) (pe_ix ix_tup (pv 2) (pe_op op_mod (pv 6) pe_int) (fun _ _ => rfl))) (pe_ix ix_tup (pv 3) (pe_op op_mod (pv 6) pe_int) (fun _ _ => rfl))) pe_int))))))
  (pss_one (ps_ret (pv 5))))))))), run__law_big h⟩)
theorem ok_summed (T : Top K mg a d) : FnOk P w K mg base CX0 1 (a 4) (d 4) ["one", "other"] (sp_summed (gb K)) :=
  T.f_summed.ok sc_summed (fun vs H Q E h => len_summed vs H Q E h) (fun cdv A outer s H vs Q E hr h => ⟨t_summed (gb K), (pss_cons (ps_setLc (i := 2) (own := [("thing", 3)]) (g := (gName 3)) (tt := (tTest (tOp (rIn (gb K).K true) (tVar 3) (tVar 1)))) rfl sc_summed.nd rfl rfl (sw_true rfl rfl rfl (by decide +kernel)) (pi_list (pv 0)) (blkOk_by (own := [("thing", 3)]) (N := ["one", "other", "rest", "thing"]) (sc := defScope s_summed) (by decide +kernel)) (fun _ _ _ _ _ => (pg_name (i := 3) sc_summed.nd rfl (by first | exact .inl rfl | exact .inr rfl))) (fun _ _ _ _ _ => (pts_one (pt_cmpR op_notIn_seq (pv 3) (pv 1) rfl))) (fun _ _ _ _ _ => (pv 3)))
  (pss_one (ps_ret (pe_callB cr_sortedS (by rfl) T.m_sorted (by decide +kernel) (pa_cons (pe_op op_cat (pv 2) (pe_lc (own := [("thing", 3)]) (g := (gName 3)) (tt := (tTest (tOp (rIn (gb K).K true) (tVar 3) (tVar 0)))) rfl sc_summed.nd (pi_list (pv 1)) (blkOk_by (own := [("thing", 3)]) (N := ["one", "other", "rest", "thing"]) (sc := defScope s_summed) (by decide +kernel)) (fun _ _ _ _ _ => (pg_name (i := 3) sc_summed.nd rfl (by first | exact .inl rfl | exact .inr rfl))) (fun _ _ _ _ _ => (pts_one (pt_cmpR op_notIn_seq (pv 3) (pv 0) rfl))) (fun _ _ _ _ _ => (pv 3)))) pa_nil))))), run_summed h⟩)
theorem ok__law_same (T : Top K mg a d) : FnOk P w K mg base CX0 1 (a 5) (d 5) ["_law_found", "_law_due_here"] (sp__law_same (gb K)) :=
  T.f__law_same.ok sc__law_same (fun vs H Q E h => len__law_same vs H Q E h) (fun cdv A outer s H vs Q E hr h => ⟨t__law_same (gb K), (pss_cons (ps_if (PW.pt (pw_or (pt_not (pt_val (pe_callB call_isi (by rfl) T.m_isinstance (by decide +kernel) (pa_cons (pv 0) (pa_cons (pe_bltn (v := .ty "list") (by rfl) T.m_list (by decide +kernel) rfl) pa_nil))))) (pw_or1 (pt_cmpR op_ne (pe_callB call_len_seq (by rfl) T.m_len (by decide +kernel) (pa_cons (pv 0) pa_nil)) (pe_callB call_len_seq (by rfl) T.m_len (by decide +kernel) (pa_cons (pv 1) pa_nil)) (nomark _)))))
  (pss_one (ps_ret pe_bl))
  pss_nil)
  (pss_cons (ps_for PassesOwn.never rfl (pi_range1 (by rfl) T.m_range (pa_cons (pe_callB call_len_seq (by rfl) T.m_len (by decide +kernel) (pa_cons (pv 1) pa_nil)) pa_nil)) (pg_name (i := 2) sc__law_same.nd rfl (by first | exact .inl rfl | exact .inr rfl))
  (pss_one (ps_if (PW.pt (pw_or (pt_not (pt_val (pe_callB call_isi (by rfl) T.m_isinstance (by decide +kernel) (pa_cons (pe_ix ix_list (pv 0) (pv 2) (fun _ _ => rfl)) (pa_cons (pe_bltn (v := .ty "str") (by rfl) T.m_str (by decide +kernel) rfl) pa_nil))))) (pw_or1 (pt_cmpR op_ne (pe_ix ix_list (pv 0) (pv 2) (fun _ _ => rfl)) (pe_ix ix_list (pv 1) (pv 2) (fun _ _ => rfl)) (nomark _)))))
  (pss_one (ps_ret pe_bl))
  pss_nil)))
  (pss_one (ps_ret pe_bl)))), run__law_same h⟩)
theorem ok__law_due (T : Top K mg a d) : FnOk P w K mg base CX0 1 (a 6) (d 6) ["_law_one", "_law_other"] (sp__law_due (gb K)) :=
  T.f__law_due.ok sc__law_due (fun vs H Q E h => len__law_due vs H Q E h) (fun cdv A outer s H vs Q E hr h => ⟨t__law_due (gb K), (pss_cons (ps_set (i := 2) sc__law_due.nd rfl (by first | exact .inl rfl | exact .inr rfl) (pe_lst pa_nil))
  (pss_cons (ps_for PassesOwn.never rfl (pi_list (pe_op op_cat (pv 0) (pv 1))) (pg_name (i := 3) sc__law_due.nd rfl (by first | exact .inl rfl | exact .inr rfl))
  (pss_one (ps_if (pt_not (PW.pt (pw_and (pt_cmpR op_in_seq (pv 3) (pv 0) rfl) (pw_and1 (pt_cmpR op_in_seq (pv 3) (pv 1) rfl)))))
  (pss_one (ps_expr (pe_bm PySem.F.plainAttrs_list PySem.F.slot_list_append PySem.F.type_list_append mt_append (pv 2) (pa_cons (pv 3) pa_nil))))
  pss_nil)))
  (pss_one (ps_ret (pe_callB cr_sortedS (by rfl) T.m_sorted (by decide +kernel) (pa_cons (pv 2) pa_nil)))))), run__law_due h⟩)
theorem ok_law (T : Top K mg a d) : FnOk P w K mg base CX0 3 (a 7) (d 7) ["_law_script"] (sp_law (gb K)) :=
  T.f_law.ok sc_law (fun vs H Q E h => len_law vs H Q E h) (fun cdv A outer s H vs Q E hr h => ⟨t_law (gb K), (pss_cons (ps_set (i := 1) sc_law.nd rfl (by first | exact .inl rfl | exact .inr rfl) (pe_call (ok__law_cell_at T) (hr.mono (by decide)) (by rfl) T.g__law_cell_at T.f__law_cell_at.kp T.b__law_cell_at .nil pass0 (pa_cons (pv 0) (pa_cons pe_int pa_nil))))
  (pss_cons (ps_set (i := 2) sc_law.nd rfl (by first | exact .inl rfl | exact .inr rfl) (pe_lst pa_nil))
  (pss_cons (ps_for PassesOwn.never rfl (pi_list (pe_call (ok__law_names T) (hr.mono (by decide)) (by rfl) T.g__law_names T.f__law_names.kp T.b__law_names .nil pass0 (pa_cons (pe_call (ok__law_cell_at T) (hr.mono (by decide)) (by rfl) T.g__law_cell_at T.f__law_cell_at.kp T.b__law_cell_at .nil pass0 (pa_cons (pv 0) (pa_cons pe_int pa_nil))) (pa_cons (pe_op op_mod (pv 1) pe_int) pa_nil)))) (pg_name (i := 3) sc_law.nd rfl (by first | exact .inl rfl | exact .inr rfl))
  (pss_one (ps_if (pt_cmpR op_notIn_seq (pv 3) (pv 2) rfl)
  (pss_one (ps_expr (pe_bm PySem.F.plainAttrs_list PySem.F.slot_list_append PySem.F.type_list_append mt_append (pv 2) (pa_cons (pv 3) pa_nil))))
  pss_nil)))
  (pss_cons (ps_set (i := 4) sc_law.nd rfl (by first | exact .inl rfl | exact .inr rfl) (pe_call (ok__law_set_of T) (hr.mono (by decide)) (by rfl) T.g__law_set_of T.f__law_set_of.kp T.b__law_set_of .nil pass0 (pa_cons (pv 2) (pa_cons (pe_call (ok__law_big T) (hr.mono (by decide)) (by rfl) T.g__law_big T.f__law_big.kp T.b__law_big .nil pass0 (pa_cons (pv 0) (pa_cons pe_int pa_nil))) pa_nil))))
  (pss_cons (ps_set (i := 5) sc_law.nd rfl (by first | exact .inl rfl | exact .inr rfl) (pe_call (ok__law_set_of T) (hr.mono (by decide)) (by rfl) T.g__law_set_of T.f__law_set_of.kp T.b__law_set_of .nil pass0 (pa_cons (pv 2) (pa_cons (pe_call (ok__law_big T) (hr.mono (by decide)) (by rfl) T.g__law_big T.f__law_big.kp T.b__law_big .nil pass0 (pa_cons (pv 0) (pa_cons pe_int pa_nil))) pa_nil))))
  (pss_cons (ps_if (pt_cmpR op_eq (pe_op op_mod (pe_op op_fdivW (pv 1) pe_int) pe_int) pe_int (nomark _))
  (pss_one (ps_set (i := 5) sc_law.nd rfl (by first | exact .inl rfl | exact .inr rfl) (pe_callTy call_list_of (by rfl) T.m_list (by decide +kernel) (pa_cons (pv 4) pa_nil))))
  pss_nil)
  (pss_cons (ps_set (i := 6) sc_law.nd rfl (by first | exact .inl rfl | exact .inr rfl) (pe_lst (pa_cons (pe_callTy call_list_of (by rfl) T.m_list (by decide +kernel) (pa_cons (pv 4) pa_nil)) (pa_cons (pe_callTy call_list_of (by rfl) T.m_list (by decide +kernel) (pa_cons (pv 5) pa_nil)) pa_nil))))
  (pss_cons (ps_set (i := 7) sc_law.nd rfl (by first | exact .inl rfl | exact .inr rfl) (pe_call (ok_summed T) (hr.mono (by decide)) (by rfl) T.g_summed T.f_summed.kp T.b_summed .nil pass0 (pa_cons (pe_ix ix_list (pv 6) pe_int (fun _ _ => rfl)) (pa_cons (pe_ix ix_list (pv 6) pe_int (fun _ _ => rfl)) pa_nil))))
  (pss_cons (ps_if (PW.pt (pw_or (pt_not (pt_val (pe_call (ok__law_same T) (hr.mono (by decide)) (by rfl) T.g__law_same T.f__law_same.kp T.b__law_same .nil pass0 (pa_cons (pv 7) (pa_cons (pe_call (ok__law_due T) (hr.mono (by decide)) (by rfl) T.g__law_due T.f__law_due.kp T.b__law_due .nil pass0 (pa_cons (pv 4) (pa_cons (pv 5) pa_nil))) pa_nil))))) (pw_or1 (pt_not (pt_val (pe_call (ok__law_same T) (hr.mono (by decide)) (by rfl) T.g__law_same T.f__law_same.kp T.b__law_same .nil pass0 (pa_cons (pe_call (ok_summed T) (hr.mono (by decide)) (by rfl) T.g_summed T.f_summed.kp T.b_summed .nil pass0 (pa_cons (pv 5) (pa_cons (pv 4) pa_nil))) (pa_cons (pv 7) pa_nil))))))))
  (pss_one (ps_ret pe_bl))
  pss_nil)
  (pss_cons (ps_if (PW.pt (pw_or (pt_cmpR (op_neD hr.units) (pe_call (ok_summed T) (hr.mono (by decide)) (by rfl) T.g_summed T.f_summed.kp T.b_summed .nil pass0 (pa_cons (pv 4) (pa_cons (pe_callTy call_list_of (by rfl) T.m_list (by decide +kernel) (pa_cons (pv 4) pa_nil)) pa_nil))) (pe_lst pa_nil) (nomark _)) (pw_or (pt_not (pt_val (pe_call (ok__law_same T) (hr.mono (by decide)) (by rfl) T.g__law_same T.f__law_same.kp T.b__law_same .nil pass0 (pa_cons (pe_call (ok_summed T) (hr.mono (by decide)) (by rfl) T.g_summed T.f_summed.kp T.b_summed .nil pass0 (pa_cons (pv 4) (pa_cons (pe_lst pa_nil) pa_nil))) (pa_cons (pv 4) pa_nil))))) (pw_or1 (pt_not (pt_val (pe_call (ok__law_same T) (hr.mono (by decide)) (by rfl) T.g__law_same T.f__law_same.kp T.b__law_same .nil pass0 (pa_cons (pe_call (ok_summed T) (hr.mono (by decide)) (by rfl) T.g_summed T.f_summed.kp T.b_summed .nil pass0 (pa_cons (pe_lst pa_nil) (pa_cons (pv 4) pa_nil))) (pa_cons (pv 4) pa_nil)))))))))
  (pss_one (ps_ret pe_bl))
  pss_nil)
  (pss_cons (ps_if (pt_not (pt_val (pe_call (ok__law_same T) (hr.mono (by decide)) (by rfl) T.g__law_same T.f__law_same.kp T.b__law_same .nil pass0 (pa_cons (pe_call (ok_summed T) (hr.mono (by decide)) (by rfl) T.g_summed T.f_summed.kp T.b_summed .nil pass0 (pa_cons (pe_callTy call_list_of (by rfl) T.m_list (by decide +kernel) (pa_cons (pv 7) pa_nil)) (pa_cons (pv 4) pa_nil))) (pa_cons (pv 5) pa_nil)))))
  (pss_one (ps_ret pe_bl))
  pss_nil)
  (pss_cons (ps_expr (pe_bm PySem.F.plainAttrs_list PySem.F.slot_list_append PySem.F.type_list_append mt_append (pv 7) (pa_cons pe_str pa_nil)))
  (pss_cons (ps_set (i := 8) sc_law.nd rfl (by first | exact .inl rfl | exact .inr rfl) (pe_call (ok_summed T) (hr.mono (by decide)) (by rfl) T.g_summed T.f_summed.kp T.b_summed .nil pass0 (pa_cons (pe_ix ix_list (pv 6) pe_int (fun _ _ => rfl)) (pa_cons (pe_lst pa_nil) pa_nil))))
  (pss_cons (ps_expr (pe_bm PySem.F.plainAttrs_list PySem.F.slot_list_append PySem.F.type_list_append mt_append (pv 8) (pa_cons pe_str pa_nil)))
  (pss_cons (ps_set (i := 8) sc_law.nd rfl (by first | exact .inl rfl | exact .inr rfl) (pe_call (ok_summed T) (hr.mono (by decide)) (by rfl) T.g_summed T.f_summed.kp T.b_summed .nil pass0 (pa_cons (pe_lst pa_nil) (pa_cons (pe_ix ix_list (pv 6) pe_int (fun _ _ => rfl)) pa_nil))))
  (pss_cons (ps_expr (pe_bm PySem.F.plainAttrs_list PySem.F.slot_list_append PySem.F.type_list_append mt_append (pv 8) (pa_cons pe_str pa_nil)))
  (pss_cons (ps_set (i := 9) sc_law.nd rfl (by first | exact .inl rfl | exact .inr rfl) (pe_call (ok_summed T) (hr.mono (by decide)) (by rfl) T.g_summed T.f_summed.kp T.b_summed .nil pass0 (pa_cons (pe_ix ix_list (pv 6) pe_int (fun _ _ => rfl)) (pa_cons (pe_ix ix_list (pv 6) pe_int (fun _ _ => rfl)) pa_nil))))
  (pss_one (ps_ret (pe_and (pe_call (ok__law_same T) (hr.mono (by decide)) (by rfl) T.g__law_same T.f__law_same.kp T.b__law_same .nil pass0 (pa_cons (pv 9) (pa_cons (pe_call (ok__law_due T) (hr.mono (by decide)) (by rfl) T.g__law_due T.f__law_due.kp T.b__law_due .nil pass0 (pa_cons (pv 4) (pa_cons (pv 5) pa_nil))) pa_nil))) (pe_one (pe_cmpR (op_eqD hr.units) (pv 6) (pe_lst (pa_cons (pv 4) (pa_cons (pv 5) pa_nil))) (nomark _))))))))))))))))))))))), run_law h⟩)
end
theorem all_mk {l : PySem.W.OpenLaw} {w : World} {K : PySem.W.Frag} {h : Heap} {mg : Str → Option Value} {fa f0 f1 f2 f3 f4 f5 f6 f7 : Addr} (X : K.In h) (G : h.Ns mainGlobals mg) (hfa : mg "law" = some (.ref fa))
    {od0 an0 : Option Addr} {sl0 : Array (Option Value)} {oc0 kV0 dc0 pm0 cd0 ct0 : Value}
    (a0 : PySem.W.nsIn K mainGlobals "_law_cell_at" = some (some (.ref f0)))
    (l0 : K.lookup f0 = some ⟨oc0, od0, .func (PySem.W.fnOf "_law_cell_at" "_law_cell_at" (defArgs s__law_cell_at) (defBody s__law_cell_at) (defScope s__law_cell_at) .none kV0 dc0 pm0 an0 cd0 ct0), sl0⟩)
    (c0 : PySem.W.codeIn K cd0 "_law_cell_at" = true) (k0 : PySem.W.keepIn K (.ref f0) = true)
    {od1 an1 : Option Addr} {sl1 : Array (Option Value)} {oc1 kV1 dc1 pm1 cd1 ct1 : Value}
    (a1 : PySem.W.nsIn K mainGlobals "_law_names" = some (some (.ref f1)))
    (l1 : K.lookup f1 = some ⟨oc1, od1, .func (PySem.W.fnOf "_law_names" "_law_names" (defArgs s__law_names) (defBody s__law_names) (defScope s__law_names) .none kV1 dc1 pm1 an1 cd1 ct1), sl1⟩)
    (c1 : PySem.W.codeIn K cd1 "_law_names" = true) (k1 : PySem.W.keepIn K (.ref f1) = true)
    {od2 an2 : Option Addr} {sl2 : Array (Option Value)} {oc2 kV2 dc2 pm2 cd2 ct2 : Value}
    (a2 : PySem.W.nsIn K mainGlobals "_law_set_of" = some (some (.ref f2)))
    (l2 : K.lookup f2 = some ⟨oc2, od2, .func (PySem.W.fnOf "_law_set_of" "_law_set_of" (defArgs s__law_set_of) (defBody s__law_set_of) (defScope s__law_set_of) .none kV2 dc2 pm2 an2 cd2 ct2), sl2⟩)
    (c2 : PySem.W.codeIn K cd2 "_law_set_of" = true) (k2 : PySem.W.keepIn K (.ref f2) = true)
    {od3 an3 : Option Addr} {sl3 : Array (Option Value)} {oc3 kV3 dc3 pm3 cd3 ct3 : Value}
    (a3 : PySem.W.nsIn K mainGlobals "_law_big" = some (some (.ref f3)))
    (l3 : K.lookup f3 = some ⟨oc3, od3, .func (PySem.W.fnOf "_law_big" "_law_big" (defArgs s__law_big) (defBody s__law_big) (defScope s__law_big) .none kV3 dc3 pm3 an3 cd3 ct3), sl3⟩)
    (c3 : PySem.W.codeIn K cd3 "_law_big" = true) (k3 : PySem.W.keepIn K (.ref f3) = true)
    {od4 an4 : Option Addr} {sl4 : Array (Option Value)} {oc4 kV4 dc4 pm4 cd4 ct4 : Value}
    (a4 : PySem.W.nsIn K mainGlobals "summed" = some (some (.ref f4)))
    (l4 : K.lookup f4 = some ⟨oc4, od4, .func (PySem.W.fnOf "summed" "summed" (defArgs s_summed) (defBody s_summed) (defScope s_summed) .none kV4 dc4 pm4 an4 cd4 ct4), sl4⟩)
    (c4 : PySem.W.codeIn K cd4 "summed" = true) (k4 : PySem.W.keepIn K (.ref f4) = true)
    {od5 an5 : Option Addr} {sl5 : Array (Option Value)} {oc5 kV5 dc5 pm5 cd5 ct5 : Value}
    (a5 : PySem.W.nsIn K mainGlobals "_law_same" = some (some (.ref f5)))
    (l5 : K.lookup f5 = some ⟨oc5, od5, .func (PySem.W.fnOf "_law_same" "_law_same" (defArgs s__law_same) (defBody s__law_same) (defScope s__law_same) .none kV5 dc5 pm5 an5 cd5 ct5), sl5⟩)
    (c5 : PySem.W.codeIn K cd5 "_law_same" = true) (k5 : PySem.W.keepIn K (.ref f5) = true)
    {od6 an6 : Option Addr} {sl6 : Array (Option Value)} {oc6 kV6 dc6 pm6 cd6 ct6 : Value}
    (a6 : PySem.W.nsIn K mainGlobals "_law_due" = some (some (.ref f6)))
    (l6 : K.lookup f6 = some ⟨oc6, od6, .func (PySem.W.fnOf "_law_due" "_law_due" (defArgs s__law_due) (defBody s__law_due) (defScope s__law_due) .none kV6 dc6 pm6 an6 cd6 ct6), sl6⟩)
    (c6 : PySem.W.codeIn K cd6 "_law_due" = true) (k6 : PySem.W.keepIn K (.ref f6) = true)
    {od7 an7 : Option Addr} {sl7 : Array (Option Value)} {oc7 kV7 dc7 pm7 cd7 ct7 : Value}
    (a7 : PySem.W.nsIn K mainGlobals "law" = some (some (.ref f7)))
    (l7 : K.lookup f7 = some ⟨oc7, od7, .func (PySem.W.fnOf "law" "law" (defArgs s_law) (defBody s_law) (defScope s_law) .none kV7 dc7 pm7 an7 cd7 ct7), sl7⟩)
    (c7 : PySem.W.codeIn K cd7 "law" = true) (k7 : PySem.W.keepIn K (.ref f7) = true)
    (z_isinstance : PySem.W.nsIn K mainGlobals "isinstance" = some none)
    (z_len : PySem.W.nsIn K mainGlobals "len" = some none)
    (z_list : PySem.W.nsIn K mainGlobals "list" = some none)
    (z_range : PySem.W.nsIn K mainGlobals "range" = some none)
    (z_sorted : PySem.W.nsIn K mainGlobals "sorted" = some none)
    (z_str : PySem.W.nsIn K mainGlobals "str" = some none)
    : ∃ fd : FuncData, (∀ (s : Shared) (v : Value), BindsTo s fd ⟨[v], []⟩ [("_law_script", v)]) ∧ ∀ base : Heap, K.In base → base.Ns mainGlobals mg → FnOk l.prog w K mg base CX0 3 fa fd ["_law_script"] (sp_law (gb K)) := by
  have e := hfa.symm.trans (PySem.W.mg_of X G a7)
  cases e
  have F0 := fun_mk (st := s__law_cell_at) l0 c0 k0
  have b0 := F0.binds (ps := ["_law_script", "_law_k"]) fun _ _ _ _ _ _ us hl => match us, hl with | [_, _], _ => rfl
  have F1 := fun_mk (st := s__law_names) l1 c1 k1
  have b1 := F1.binds (ps := ["_law_stem", "_law_many"]) fun _ _ _ _ _ _ us hl => match us, hl with | [_, _], _ => rfl
  have F2 := fun_mk (st := s__law_set_of) l2 c2 k2
  have b2 := F2.binds (ps := ["_law_names_here", "_law_big_here"]) fun _ _ _ _ _ _ us hl => match us, hl with | [_, _], _ => rfl
  have F3 := fun_mk (st := s__law_big) l3 c3 k3
  have b3 := F3.binds (ps := ["_law_script", "_law_at"]) fun _ _ _ _ _ _ us hl => match us, hl with | [_, _], _ => rfl
  have F4 := fun_mk (st := s_summed) l4 c4 k4
  have b4 := F4.binds (ps := ["one", "other"]) fun _ _ _ _ _ _ us hl => match us, hl with | [_, _], _ => rfl
  have F5 := fun_mk (st := s__law_same) l5 c5 k5
  have b5 := F5.binds (ps := ["_law_found", "_law_due_here"]) fun _ _ _ _ _ _ us hl => match us, hl with | [_, _], _ => rfl
  have F6 := fun_mk (st := s__law_due) l6 c6 k6
  have b6 := F6.binds (ps := ["_law_one", "_law_other"]) fun _ _ _ _ _ _ us hl => match us, hl with | [_, _], _ => rfl
  have F7 := fun_mk (st := s_law) l7 c7 k7
  have b7 := F7.binds (ps := ["_law_script"]) fun _ _ _ _ _ _ us hl => match us, hl with | [_], _ => rfl
  let av : Nat → Addr := fun i => [f0, f1, f2, f3, f4, f5, f6, fa].getD i 0
  let dv : Nat → FuncData := fun i => [PySem.W.fnOf "_law_cell_at" "_law_cell_at" (defArgs s__law_cell_at) (defBody s__law_cell_at) (defScope s__law_cell_at) .none kV0 dc0 pm0 an0 cd0 ct0, PySem.W.fnOf "_law_names" "_law_names" (defArgs s__law_names) (defBody s__law_names) (defScope s__law_names) .none kV1 dc1 pm1 an1 cd1 ct1, PySem.W.fnOf "_law_set_of" "_law_set_of" (defArgs s__law_set_of) (defBody s__law_set_of) (defScope s__law_set_of) .none kV2 dc2 pm2 an2 cd2 ct2, PySem.W.fnOf "_law_big" "_law_big" (defArgs s__law_big) (defBody s__law_big) (defScope s__law_big) .none kV3 dc3 pm3 an3 cd3 ct3, PySem.W.fnOf "summed" "summed" (defArgs s_summed) (defBody s_summed) (defScope s_summed) .none kV4 dc4 pm4 an4 cd4 ct4, PySem.W.fnOf "_law_same" "_law_same" (defArgs s__law_same) (defBody s__law_same) (defScope s__law_same) .none kV5 dc5 pm5 an5 cd5 ct5, PySem.W.fnOf "_law_due" "_law_due" (defArgs s__law_due) (defBody s__law_due) (defScope s__law_due) .none kV6 dc6 pm6 an6 cd6 ct6, PySem.W.fnOf "law" "law" (defArgs s_law) (defBody s_law) (defScope s_law) .none kV7 dc7 pm7 an7 cd7 ct7].getD i (PySem.W.fnOf "law" "law" (defArgs s_law) (defBody s_law) (defScope s_law) .none kV7 dc7 pm7 an7 cd7 ct7)
  have T : Top K mg av dv := { f__law_cell_at := F0, b__law_cell_at := b0, g__law_cell_at := PySem.W.mg_of X G a0, f__law_names := F1, b__law_names := b1, g__law_names := PySem.W.mg_of X G a1, f__law_set_of := F2, b__law_set_of := b2, g__law_set_of := PySem.W.mg_of X G a2, f__law_big := F3, b__law_big := b3, g__law_big := PySem.W.mg_of X G a3, f_summed := F4, b_summed := b4, g_summed := PySem.W.mg_of X G a4, f__law_same := F5, b__law_same := b5, g__law_same := PySem.W.mg_of X G a5, f__law_due := F6, b__law_due := b6, g__law_due := PySem.W.mg_of X G a6, f_law := F7, b_law := b7, g_law := PySem.W.mg_of X G a7, m_isinstance := PySem.W.mg_none_of X G z_isinstance, m_len := PySem.W.mg_none_of X G z_len, m_list := PySem.W.mg_none_of X G z_list, m_range := PySem.W.mg_none_of X G z_range, m_sorted := PySem.W.mg_none_of X G z_sorted, m_str := PySem.W.mg_none_of X G z_str }
  exact ⟨dv 7, fun s v => .of_eq rfl, fun base _ _ => ok_law T⟩
end Tw
open PySem PySem.W PyProof.Rows
set_option maxHeartbeats 0 in
theorem PySem.Challenge.cw_threewebs_k20_sets_summed_holds : PySem.Challenge.rw_threewebs_k20_sets_summed.Holds := by
  w_on; o_law; k_head; (case hw => w_witness2)
  k_fill
  refine L2.walk_of (l := PySem.Challenge.rw_threewebs_k20_sets_summed) (n := 63) (k := 3) (x := "_law_script") (CX := fun _ => L2.CX0) (sp := fun w => Tw.sp_law (Tw.gb _)) rfl (by decide) rfl ⟨rfl, by decide, by decide⟩ (fun w h Y => PySem.W.kIn_of Y) ?F (fun _ _ a ns hl _ hS => Tw.spA_law hS (Tw.law_true ns hl) (fun _ => rfl)) (fun _ _ _ _ _ h => h)
  case F =>
    intro w mg fa h KX G hmg
    refine' Tw.all_mk KX G hmg ?a0 ?l0 ?c0 ?k0 ?a1 ?l1 ?c1 ?k1 ?a2 ?l2 ?c2 ?k2 ?a3 ?l3 ?c3 ?k3 ?a4 ?l4 ?c4 ?k4 ?a5 ?l5 ?c5 ?k5 ?a6 ?l6 ?c6 ?k6 ?a7 ?l7 ?c7 ?k7 ?z_isinstance ?z_len ?z_list ?z_range ?z_sorted ?z_str
    (case a0 => k_is); (case l0 => k_is); (case c0 => k_is); (case k0 => k_is); (case a1 => k_is); (case l1 => k_is); (case c1 => k_is); (case k1 => k_is); (case a2 => k_is); (case l2 => k_is); (case c2 => k_is); (case k2 => k_is); (case a3 => k_is); (case l3 => k_is); (case c3 => k_is); (case k3 => k_is); (case a4 => k_is); (case l4 => k_is); (case c4 => k_is); (case k4 => k_is); (case a5 => k_is); (case l5 => k_is); (case c5 => k_is); (case k5 => k_is); (case a6 => k_is); (case l6 => k_is); (case c6 => k_is); (case k6 => k_is); (case a7 => k_is); (case l7 => k_is); (case c7 => k_is); (case k7 => k_is); (case z_isinstance => k_is); (case z_len => k_is); (case z_list => k_is); (case z_range => k_is); (case z_sorted => k_is); (case z_str => k_is)
