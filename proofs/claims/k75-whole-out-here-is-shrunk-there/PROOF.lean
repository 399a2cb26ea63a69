import PyProof.Rows.All
import Wide.All
import OpenK.AllK
import Wide.FinOn
import HandS.ForMost
import HandS.More
import HandS.Wide
import HandS.IsInst
import HandS.Style
import HandS.Deep
import PyProof.StrBlock2
import HandS.SetKeys
import HandS.SortKw
import HandS.SetFor
import HandS.WordsDict
import HandS.TupLen
import HandS.ExcCtx
import HandS.ExcIs
import HandS.CallSlots
import HandS.HotCalls
import HandS.Comp
import HandS.NoneIn
import HandS.WideBits
import KE.LtSeq
import KE.KSortAsk
import HandS.DictTup
import KE.BitLaws
import HandS.Text
import PySem.Challenge.RW_threewebs_k75_whole_out_here_is_shrunk_t
set_option Elab.async false
set_option linter.all false
set_option maxRecDepth 100000
set_option maxHeartbeats 4000000
namespace Tw
open PySem PySem.Spec L2
open PyProof.Rows hiding St
abbrev qAdd : R2 := rI0 fun i j => .int (i + j)
abbrev qMul : R2 := rI CMulW fun i j => .int (i * j)
/-- * by a small number -/
def CMulK (_ j : Int) : Prop := Builtin.Int.intBits j ≤ 64
abbrev qMulK : R2 := rI CMulK fun i j => .int (i * j)
theorem op_mulK {X : Cx} : OpR X (binaryOp .Mult) (rI CMulK fun i j => .int (i * j)) := opI fun _ _ _ _ _ _ _ hc q => mul_int q (.of_right hc)
abbrev qDiv : R2 := rI CDivW fun i j => .int (i / j)
def CPos (_ j : Int) : Prop := 0 < j
theorem cpos {i j : Int} (h : 0 < j) : CPos i j := h
abbrev qMod : R2 := rI CPos fun i j => .int (i % j)
abbrev qPow : R2 := rI CPow fun i j => .int (i ^ j.toNat)
abbrev qLt : R2 := rI0 fun i j => .bl (decide (i < j))
abbrev qGt : R2 := rI0 fun i j => .bl (decide (j < i))
abbrev qCatS : R2 := fun x y H Q => ∃ i j, x = .str i ∧ y = .str j ∧ i.length + j.length ≤ sizeLine ∧ Q (.str (i ++ j)) H
abbrev qRepS : R2 := fun x y H Q => ∃ z n, x = .str z ∧ y = .int n ∧ MulOk z n ∧ Q (.str (Txt.mul z n)) H
abbrev qLenQ (K : PySem.W.Frag) : List V → Hp → VK → Prop := fun xs H Q => ∃ p ys, xs = [.ref p] ∧ (SqL K H p ys ∨ SqT K H p ys) ∧ Q (.int ys.length) H
abbrev qLenD : List V → Hp → VK → Prop := fun xs H Q => ∃ a kvs, xs = [V.ref a] ∧ H a = some (.dK kvs) ∧ Q (.int kvs.length) H
abbrev qInt1 : List V → Hp → VK → Prop := fun xs H Q => (∃ i, xs = [.int i] ∧ Q (.int i) H) ∨ ∃ k, xs = [.bl k] ∧ Q (.int (if k then 1 else 0)) H
abbrev qMax2 : List V → Hp → VK → Prop := fun xs H Q => ∃ i j, xs = [.int i, .int j] ∧ Q (.int (if j > i then j else i)) H
abbrev qStrI : List V → Hp → VK → Prop := fun xs H Q => ∃ i, xs = [.int i] ∧ i.natAbs.log2 < 1920 ∧ Q (.str (toString i)) H
abbrev qListOf (K : PySem.W.Frag) : List V → Hp → VK → Prop := fun xs H Q => ∃ p ys, xs = [.ref p] ∧ (SqL K H p ys ∨ SqT K H p ys) ∧ ∀ l, H l = none → Q (.ref l) (upd H l (.lst ys))
section
variable {X : Cx}
theorem op_rep_str : OpR X (binaryOp .Mult) qRepS := by
  intro pins s σ H x y v u Q I rx ry h
  obtain ⟨z, n, rfl, rfl, hz, q⟩ := h
  obtain ⟨t, rfl⟩ := rx
  obtain ⟨t', rfl⟩ := ry
  exact SB.mul hz (fun t' k => ⟨.str (Txt.mul z n), H, I.tok _, ⟨_, rfl⟩, q⟩)
end
end Tw
set_option Elab.async false
set_option linter.all false
set_option maxRecDepth 100000
set_option maxHeartbeats 4000000
namespace Tw
open PySem
inductive M (α : Type) where
  | ok (a : α) | exc (c : Str) | bad
namespace M
def b {α β : Type} (m : M α) (k : α → M β) : M β := match m with
  | .ok a => k a
  | .exc c => .exc c
  | .bad => .bad
@[simp] theorem b_ok {α β : Type} (a : α) (k : α → M β) : b (.ok a) k = k a := rfl
@[simp] theorem b_exc {α β : Type} (c : Str) (k : α → M β) : b (.exc c) k = .exc c := rfl
@[simp] theorem b_bad {α β : Type} (k : α → M β) : b .bad k = .bad := rfl
theorem b_assoc {α β γ : Type} (m : M α) (k : α → M β) (l : β → M γ) : b (b m k) l = b m fun a => b (k a) l := by cases m <;> rfl
def P {α : Type} (m : M α) (p : α → Prop) (x : Str → Prop) : Prop := match m with
  | .ok a => p a
  | .exc c => x c
  | .bad => False
theorem P_b {α β : Type} {m : M α} {k : α → M β} {p : β → Prop} {x : Str → Prop} : (b m k).P p x ↔ m.P (fun a => (k a).P p x) x := by cases m <;> exact Iff.rfl
theorem P.imp {α : Type} {m : M α} {p q : α → Prop} {x y : Str → Prop} (h : m.P p x) (f : ∀ a, p a → q a) (g : ∀ c, x c → y c) : m.P q y := by
  cases m with
  | ok a => exact f a h
  | exc c => exact g c h
  | bad => exact h
open Classical in
/-- only where c holds -/
noncomputable def chk (c : Prop) {α : Type} (m : M α) : M α := if c then m else .bad
theorem chk_of {c : Prop} {α : Type} {m : M α} (h : c) : chk c m = m := if_pos h
theorem P_chk {c : Prop} {α : Type} {m : M α} {p : α → Prop} {x : Str → Prop} : (chk c m).P p x ↔ c ∧ m.P p x := by
  by_cases h : c
  · rw [chk_of h]; exact ⟨fun q => ⟨h, q⟩, fun q => q.2⟩
  · unfold chk; rw [if_neg h]; exact ⟨fun q => q.elim, fun q => h q.1⟩
/-- what an option holds -/
def get {α : Type} : Option α → M α
  | some a => .ok a
  | none => .bad
@[simp] theorem get_some {α : Type} (a : α) : get (some a) = .ok a := rfl
theorem P_get {α : Type} {o : Option α} {p : α → Prop} {x : Str → Prop} : (get o).P p x ↔ ∃ a, o = some a ∧ p a := by
  cases o with
  | none => exact ⟨fun q => q.elim, fun ⟨_, e, _⟩ => by cases e⟩
  | some a => exact ⟨fun q => ⟨a, rfl, q⟩, fun ⟨_, e, q⟩ => by cases e; exact q⟩
/-- a loop over a list -/
def for_ {α S : Type} (f : S → α → M S) : List α → S → M S
  | [], s => .ok s
  | x :: r, s => b (f s x) (for_ f r)
@[simp] theorem for_nil {α S : Type} (f : S → α → M S) (s : S) : for_ f [] s = .ok s := rfl
@[simp] theorem for_cons {α S : Type} (f : S → α → M S) (x : α) (r : List α) (s : S) : for_ f (x :: r) s = b (f s x) (for_ f r) := rfl
theorem for_app {α S : Type} (f : S → α → M S) : ∀ (xs ys : List α) (s : S), for_ f (xs ++ ys) s = b (for_ f xs s) (for_ f ys)
  | [], ys, s => rfl
  | x :: r, ys, s => by
    show b (f s x) (for_ f (r ++ ys)) = b (b (f s x) (for_ f r)) (for_ f ys)
    rw [b_assoc]
    congr 1
    funext t
    exact for_app f r ys t
/-- by an invariant over what is done -/
theorem for_inv {α S : Type} {f : S → α → M S} (I : List α → S → Prop) (xs : List α) (s0 : S) (h0 : I [] s0)
    (hs : ∀ ys x zs s, xs = ys ++ x :: zs → I ys s → ∃ s', f s x = .ok s' ∧ I (ys ++ [x]) s') : ∃ s', for_ f xs s0 = .ok s' ∧ I xs s' := by
  suffices H : ∀ (zs ys : List α) (s : S), xs = ys ++ zs → I ys s → ∃ s', for_ f zs s = .ok s' ∧ I xs s' from H xs [] s0 rfl h0
  intro zs
  induction zs with
  | nil =>
    intro ys s e h
    rw [List.append_nil] at e
    subst e
    exact ⟨s, rfl, h⟩
  | cons x r ih =>
    intro ys s e h
    obtain ⟨s1, e1, h1⟩ := hs ys x r s e h
    rw [for_cons, e1, b_ok]
    exact ih (ys ++ [x]) s1 (by rw [e]; simp) h1
/-- where a turn may leave with an answer -/
def forR {α S R : Type} (f : S → α → M (S ⊕ R)) : List α → S → M (S ⊕ R)
  | [], s => .ok (.inl s)
  | x :: r, s => b (f s x) fun
    | .inl s => forR f r s
    | .inr a => .ok (.inr a)
@[simp] theorem forR_nil {α S R : Type} (f : S → α → M (S ⊕ R)) (s : S) : forR f [] s = .ok (.inl s) := rfl
theorem forR_cons {α S R : Type} (f : S → α → M (S ⊕ R)) (x : α) (r : List α) (s : S) : forR f (x :: r) s = b (f s x) fun | .inl s => forR f r s | .inr a => .ok (.inr a) := rfl
/-- what follows a loop that may leave -/
def orR {S R : Type} (k : S → M R) : S ⊕ R → M R
  | .inl s => k s
  | .inr r => .ok r
@[simp] theorem orR_inl {S R : Type} (k : S → M R) (s : S) : orR k (.inl s) = k s := rfl
@[simp] theorem orR_inr {S R : Type} (k : S → M R) (r : R) : orR k (.inr r) = .ok r := rfl
/-- [e for x in xs if t] -/
def lc {α β : Type} (t : α → M Bool) (e : α → M β) : List α → M (List β)
  | [] => .ok []
  | x :: r => b (t x) fun c => if c = true then b (e x) fun y => b (lc t e r) fun ys => .ok (y :: ys) else lc t e r
theorem lc_ok {α β : Type} {t : α → M Bool} {e : α → M β} {p : α → Bool} {f : α → β} : ∀ (xs : List α), (∀ x ∈ xs, t x = .ok (p x)) → (∀ x ∈ xs, p x = true → e x = .ok (f x)) → lc t e xs = .ok ((xs.filter p).map f)
  | [], _, _ => rfl
  | x :: r, ht, he => by
    show b (t x) _ = _
    rw [ht x List.mem_cons_self, b_ok, lc_ok r (fun y hy => ht y (List.mem_cons_of_mem _ hy)) fun y hy => he y (List.mem_cons_of_mem _ hy)]
    cases hp : p x with
    | true => rw [if_pos rfl, he x List.mem_cons_self hp, b_ok, b_ok, List.filter_cons, if_pos hp]; rfl
    | false => rw [if_neg Bool.false_ne_true, List.filter_cons, if_neg (by rw [hp]; exact Bool.false_ne_true)]
theorem lc_map {α β : Type} {e : α → M β} {f : α → β} (xs : List α) (he : ∀ x ∈ xs, e x = .ok (f x)) : lc (fun _ => .ok true) e xs = .ok (xs.map f) := by
  rw [lc_ok (p := fun _ => true) (f := f) xs (fun _ _ => rfl) fun x hx _ => he x hx, List.filter_eq_self.mpr fun _ _ => rfl]
theorem lc_filter {α : Type} {t : α → M Bool} {p : α → Bool} (xs : List α) (ht : ∀ x ∈ xs, t x = .ok (p x)) : lc t .ok xs = .ok (xs.filter p) := by
  rw [lc_ok (p := p) (f := fun x => x) xs ht fun x _ _ => rfl, List.map_id']
/-- a while: as many turns as are wanted -/
def whN {S : Type} (c : S → M Bool) (f : S → M S) : Nat → S → Option (M S)
  | 0, _ => none
  | n + 1, s => match c s with
    | .ok true => match f s with
      | .ok s' => whN c f n s'
      | .exc x => some (.exc x)
      | .bad => none
    | .ok false => some (.ok s)
    | .exc x => some (.exc x)
    | .bad => none
theorem whN_mono {S : Type} {c : S → M Bool} {f : S → M S} : ∀ {n : Nat} {s : S} {r : M S}, whN c f n s = some r → whN c f (n + 1) s = some r
  | 0, _, _, h => by cases h
  | n + 1, s, r, h => by
    unfold whN at h ⊢
    revert h
    cases c s with
    | ok t => cases t with
      | true => cases f s with
        | ok s' => exact fun h => whN_mono h
        | exc x => exact fun h => h
        | bad => exact fun h => h
      | false => exact fun h => h
    | exc x => exact fun h => h
    | bad => exact fun h => h
theorem whN_le {S : Type} {c : S → M Bool} {f : S → M S} {n m : Nat} {s : S} {r : M S} (h : whN c f n s = some r) (l : n ≤ m) : whN c f m s = some r := by
  induction l with
  | refl => exact h
  | step _ ih => exact whN_mono ih
open Classical in
noncomputable def wh {S : Type} (c : S → M Bool) (f : S → M S) (s : S) : M S := if h : ∃ n r, whN c f n s = some r then h.choose_spec.choose else .bad
theorem wh_of {S : Type} {c : S → M Bool} {f : S → M S} {n : Nat} {s : S} {r : M S} (h : whN c f n s = some r) : wh c f s = r := by
  have e : ∃ n r, whN c f n s = some r := ⟨n, r, h⟩
  unfold wh
  rw [dif_pos e]
  have h2 := e.choose_spec.choose_spec
  have h3 := whN_le h (Nat.le_max_left n e.choose)
  have h4 := whN_le h2 (Nat.le_max_right n e.choose)
  exact Option.some.inj (h4.symm.trans h3)
theorem wh_false {S : Type} {c : S → M Bool} {f : S → M S} {s : S} (h : c s = .ok false) : wh c f s = .ok s := wh_of (n := 1) (by unfold whN; rw [h])
theorem wh_true {S : Type} {c : S → M Bool} {f : S → M S} {s s' : S} (h : c s = .ok true) (e : f s = .ok s') : wh c f s = wh c f s' := by
  by_cases q : ∃ n r, whN c f n s' = some r
  · obtain ⟨n, r, q⟩ := q
    rw [wh_of q]
    exact wh_of (n := n + 1) (by unfold whN; rw [h, e]; exact q)
  · have q2 : ¬ ∃ n r, whN c f n s = some r := by
      rintro ⟨n, r, z⟩
      cases n with
      | zero => cases z
      | succ n =>
        unfold whN at z
        rw [h, e] at z
        exact q ⟨n, r, z⟩
    unfold wh
    rw [dif_neg q, dif_neg q2]
theorem P_wh {S : Type} {c : S → M Bool} {f : S → M S} {s : S} {p : S → Prop} {x : Str → Prop} (h : (wh c f s).P p x) : ∃ n r, whN c f n s = some r ∧ r.P p x := by
  by_cases q : ∃ n r, whN c f n s = some r
  · obtain ⟨n, r, q⟩ := q
    rw [wh_of q] at h
    exact ⟨n, r, q, h⟩
  · unfold wh at h
    rw [dif_neg q] at h
    exact h.elim
/-- by an invariant and a measure -/
theorem wh_inv {S : Type} {c : S → M Bool} {f : S → M S} (I : S → Prop) (μ : S → Nat) (hs : ∀ s, I s → (c s = .ok false) ∨ (c s = .ok true ∧ ∃ s', f s = .ok s' ∧ I s' ∧ μ s' < μ s)) (s0 : S) (h0 : I s0) :
    ∃ s', wh c f s0 = .ok s' ∧ I s' ∧ c s' = .ok false := by
  suffices H : ∀ n s, μ s ≤ n → I s → ∃ s', wh c f s = .ok s' ∧ I s' ∧ c s' = .ok false from H _ s0 (Nat.le_refl _) h0
  intro n
  induction n with
  | zero =>
    intro s hm hi
    rcases hs s hi with q | ⟨q, s', e, hi', hl⟩
    · exact ⟨s, wh_false q, hi, q⟩
    · omega
  | succ n ih =>
    intro s hm hi
    rcases hs s hi with q | ⟨q, s', e, hi', hl⟩
    · exact ⟨s, wh_false q, hi, q⟩
    · rw [wh_true q e]
      exact ih s' (by omega) hi'
end M
section
variable {κ α : Type} [DecidableEq κ]
def dget (l : List (κ × α)) (k : κ) : Option α := (l.find? fun p => decide (p.1 = k)).map (·.2)
def dput (l : List (κ × α)) (k : κ) (a : α) : List (κ × α) := if (l.any fun p => decide (p.1 = k)) = true then l.map (fun p => if p.1 = k then (p.1, a) else p) else l ++ [(k, a)]
end
/-- tuples of three, of four; tuples by place; dicts by a plain key, by a tuple; the script -/
structure T3 (α β γ : Type) where
  a : α
  b : β
  c : γ
deriving DecidableEq
structure T4 (α β γ δ : Type) where
  a : α
  b : β
  c : γ
  d : δ
deriving DecidableEq
structure Tp (α : Type) where
  l : List α
structure Dk (κ α : Type) where
  l : List (κ × α)
structure Dt (κ α : Type) where
  l : List (κ × α)
structure Scr where
  l : List Int
end Tw
set_option Elab.async false
set_option linter.all false
set_option maxRecDepth 100000
set_option maxHeartbeats 4000000
namespace Tw
open PySem PySem.Spec L2
open PyProof.Rows hiding St
theorem start_of {N : List Str} {vs : List V} : start N vs = vs.map some ++ List.replicate (N.length - vs.length) none := rfl
/-- where a def ends -/
abbrev dEnd (Q : VK) : Ends := { nx := fun _ H' => Q .non H', rt := Q }
theorem same_upd {H : Hp} {p : Addr} {o : HO} (h : H p = none) : Same H (upd H p o) := fun b x e => by
  rw [upd_ne (ne_of_none e h)]
  exact e
end Tw
set_option Elab.async false
set_option linter.all false
set_option maxRecDepth 100000
set_option maxHeartbeats 4000000
namespace Tw
open PySem PySem.Spec L2
open PyProof.Rows hiding St
structure Gb where
  K : PySem.W.Frag
  cl : Str → Addr
universe u v
inductive All2 {α : Type u} {β : Type v} (R : α → β → Prop) : List α → List β → Prop
  | nil : All2 R [] []
  | cons {a : α} {b : β} {l : List α} {m : List β} : R a b → All2 R l m → All2 R (a :: l) (b :: m)
namespace All2
variable {α : Type u} {β : Type v} {R S : α → β → Prop}
theorem imp (f : ∀ a b, R a b → S a b) : ∀ {l : List α} {m : List β}, All2 R l m → All2 S l m
  | _, _, .nil => .nil
  | _, _, .cons h t => .cons (f _ _ h) (imp f t)
theorem len : ∀ {l : List α} {m : List β}, All2 R l m → l.length = m.length
  | _, _, .nil => rfl
  | _, _, .cons _ t => by rw [List.length_cons, List.length_cons, len t]
theorem get : ∀ {l : List α} {m : List β} {i : Nat} {a : α}, All2 R l m → l[i]? = some a → ∃ b, m[i]? = some b ∧ R a b
  | _, _, _, _, .nil, e => by simp at e
  | _, _, 0, _, .cons h _, e => by simp at e; subst e; exact ⟨_, rfl, h⟩
  | _, _, i + 1, a, .cons _ t, e => by
    obtain ⟨b, h1, h2⟩ := get (i := i) (a := a) t (by simpa using e)
    exact ⟨b, by simpa using h1, h2⟩
theorem get' : ∀ {l : List α} {m : List β} {i : Nat} {b : β}, All2 R l m → m[i]? = some b → ∃ a, l[i]? = some a ∧ R a b
  | _, _, _, _, .nil, e => by simp at e
  | _, _, 0, _, .cons h _, e => by simp at e; subst e; exact ⟨_, rfl, h⟩
  | _, _, i + 1, a, .cons _ t, e => by
    obtain ⟨b, h1, h2⟩ := get' (i := i) (b := a) t (by simpa using e)
    exact ⟨b, by simpa using h1, h2⟩
theorem app : ∀ {l l' : List α} {m m' : List β}, All2 R l m → All2 R l' m' → All2 R (l ++ l') (m ++ m')
  | _, _, _, _, .nil, h => h
  | _, _, _, _, .cons h t, q => .cons h (app t q)
theorem snoc {l : List α} {m : List β} {a : α} {b : β} (h : All2 R l m) (q : R a b) : All2 R (l ++ [a]) (m ++ [b]) := h.app (.cons q .nil)
theorem take : ∀ {l : List α} {m : List β} (n : Nat), All2 R l m → All2 R (l.take n) (m.take n)
  | _, _, 0, _ => .nil
  | _, _, _ + 1, .nil => .nil
  | _, _, n + 1, .cons h t => .cons h (take n t)
theorem drop : ∀ {l : List α} {m : List β} (n : Nat), All2 R l m → All2 R (l.drop n) (m.drop n)
  | _, _, 0, h => h
  | _, _, _ + 1, .nil => .nil
  | _, _, n + 1, .cons _ t => drop n t
theorem set {a : α} {b : β} (q : R a b) : ∀ {l : List α} {m : List β} (i : Nat), All2 R l m → All2 R (l.set i a) (m.set i b)
  | _, _, _, .nil => .nil
  | _, _, 0, .cons _ t => .cons q t
  | _, _, i + 1, .cons h t => .cons h (set q i t)
theorem rev : ∀ {l : List α} {m : List β}, All2 R l m → All2 R l.reverse m.reverse
  | _, _, .nil => .nil
  | _, _, .cons h t => by rw [List.reverse_cons, List.reverse_cons]; exact (rev t).snoc h
theorem erase : ∀ {l : List α} {m : List β} (i : Nat), All2 R l m → All2 R (l.eraseIdx i) (m.eraseIdx i)
  | _, _, _, .nil => .nil
  | _, _, 0, .cons _ t => t
  | _, _, i + 1, .cons h t => .cons h (erase i t)
theorem dl : ∀ {l : List α} {m : List β}, All2 R l m → All2 R l.dropLast m.dropLast := fun {l m} h => by
  rw [List.dropLast_eq_take, List.dropLast_eq_take, h.len]
  exact h.take _
theorem of_map {f : β → α} (h : ∀ b, R (f b) b) : ∀ m : List β, All2 R (m.map f) m
  | [] => .nil
  | b :: r => .cons (h b) (of_map h r)
theorem to_map {f : β → α} (h : ∀ a b, R a b → a = f b) : ∀ {l : List α} {m : List β}, All2 R l m → l = m.map f
  | _, _, .nil => rfl
  | _, _, .cons q t => by rw [List.map_cons, h _ _ q, to_map h t]
end All2
class Rp (α : Type) where
  rep : Gb → Hp → V → α → Prop
  mono : ∀ {G : Gb} {H H' : Hp} {v : V} {a : α}, Same H H' → rep G H v a → rep G H' v a
abbrev rep {α : Type} [Rp α] (G : Gb) (H : Hp) (v : V) (a : α) : Prop := Rp.rep G H v a
/-- a thing that stands in no heap -/
class Sc (α : Type) [Rp α] where
  enc : α → V
  iff : ∀ (G : Gb) (H : Hp) (v : V) (a : α), rep G H v a ↔ v = enc a
/-- the things that may be changed: what stands at the address -/
class Rc (α : Type) [Rp α] where
  con : Gb → Hp → HO → α → Prop
  mono : ∀ {G : Gb} {H H' : Hp} {o : HO} {a : α}, Same H H' → con G H o a → con G H' o a
  fz : ∀ {G : Gb} {H : Hp} {p : Addr} {o : HO} {a : α}, H p = some o → con G H o a → rep G H (.ref p) a
abbrev con {α : Type} [Rp α] [Rc α] (G : Gb) (H : Hp) (o : HO) (a : α) : Prop := Rc.con G H o a
instance : Rp Int := ⟨fun _ _ v a => v = .int a, fun _ h => h⟩
instance : Rp Bool := ⟨fun _ _ v a => v = .bl a, fun _ h => h⟩
instance : Rp Str := ⟨fun _ _ v a => v = .str a, fun _ h => h⟩
instance : Rp Unit := ⟨fun _ _ v _ => v = .non, fun _ h => h⟩
instance : Sc Int := ⟨.int, fun _ _ _ _ => Iff.rfl⟩
instance : Sc Bool := ⟨.bl, fun _ _ _ _ => Iff.rfl⟩
instance : Sc Str := ⟨.str, fun _ _ _ _ => Iff.rfl⟩
instance : Sc Unit := ⟨fun _ => .non, fun _ _ _ _ => Iff.rfl⟩
section
variable {α β γ δ : Type} [Rp α] [Rp β] [Rp γ] [Rp δ]
instance : Rp (α × β) where
  rep G H x a := ∃ p v w, x = .ref p ∧ H p = some (.tup [v, w]) ∧ rep G H v a.1 ∧ rep G H w a.2
  mono := fun s ⟨p, v, w, e, h, h1, h2⟩ => ⟨p, v, w, e, s _ _ h, Rp.mono s h1, Rp.mono s h2⟩
instance : Rp (T3 α β γ) where
  rep G H x a := ∃ p v w u, x = .ref p ∧ H p = some (.tup [v, w, u]) ∧ rep G H v a.a ∧ rep G H w a.b ∧ rep G H u a.c
  mono := fun s ⟨p, v, w, u, e, h, h1, h2, h3⟩ => ⟨p, v, w, u, e, s _ _ h, Rp.mono s h1, Rp.mono s h2, Rp.mono s h3⟩
instance : Rp (T4 α β γ δ) where
  rep G H x a := ∃ p v w u z, x = .ref p ∧ H p = some (.tup [v, w, u, z]) ∧ rep G H v a.a ∧ rep G H w a.b ∧ rep G H u a.c ∧ rep G H z a.d
  mono := fun s ⟨p, v, w, u, z, e, h, h1, h2, h3, h4⟩ => ⟨p, v, w, u, z, e, s _ _ h, Rp.mono s h1, Rp.mono s h2, Rp.mono s h3, Rp.mono s h4⟩
abbrev reps (G : Gb) (H : Hp) (vs : List V) (as : List α) : Prop := All2 (rep G H) vs as
theorem reps_mono {G : Gb} {H H' : Hp} {vs : List V} {as : List α} (s : Same H H') (h : reps G H vs as) : reps G H' vs as := h.imp fun _ _ q => Rp.mono s q
instance : Rp (List α) where
  rep G H x a := ∃ p vs, x = .ref p ∧ H p = some (.lst vs) ∧ reps G H vs a
  mono := fun s ⟨p, vs, e, h, h1⟩ => ⟨p, vs, e, s _ _ h, reps_mono s h1⟩
instance : Rc (List α) where
  con G H o a := ∃ vs, o = .lst vs ∧ reps G H vs a
  mono := fun s ⟨vs, e, h⟩ => ⟨vs, e, reps_mono s h⟩
  fz := fun h ⟨vs, e, q⟩ => ⟨_, vs, rfl, by rw [h, e], q⟩
instance : Rp (Tp α) where
  rep G H x a := ∃ p vs, x = .ref p ∧ H p = some (.tup vs) ∧ reps G H vs a.l
  mono := fun s ⟨p, vs, e, h, h1⟩ => ⟨p, vs, e, s _ _ h, reps_mono s h1⟩
/-- None, or a thing -/
instance : Rp (Option α) where
  rep G H x a := match a with
    | none => x = .non
    | some a => rep G H x a ∧ x ≠ .non
  mono := fun {G H H' v a} s h => by
    cases a with
    | none => exact h
    | some a => exact ⟨Rp.mono s h.1, h.2⟩
end
instance : Rp Scr where
  rep G H x a := ∃ p, x = .ref p ∧ SqL G.K H p (a.l.map V.int)
  mono := fun s ⟨p, e, h⟩ => ⟨p, e, s.seq h⟩
/-- plain keys -/
class Ky (κ : Type) [Rp κ] [DecidableEq κ] where
  key : κ → Key
  inj : ∀ {a b : κ}, key a = key b → a = b
  iff : ∀ (G : Gb) (H : Hp) (v : V) (a : κ), rep G H v a ↔ v = kV (key a)
instance : Ky Int := ⟨.inl, fun h => Sum.inl.inj h, fun _ _ _ _ => Iff.rfl⟩
instance : Ky Str := ⟨.inr, fun h => Sum.inr.inj h, fun _ _ _ _ => Iff.rfl⟩
/-- keys that are tuples -/
class Kt (κ : Type) [Rp κ] [DecidableEq κ] where
  key : κ → List Key
  inj : ∀ {a b : κ}, key a = key b → a = b
  iff : ∀ (G : Gb) (H : Hp) (v : V) (a : κ), rep G H v a ↔ ∃ p, v = .ref p ∧ H p = some (.tup ((key a).map kV))
instance {κ μ : Type} [Rp κ] [Rp μ] [DecidableEq κ] [DecidableEq μ] [Ky κ] [Ky μ] : Kt (κ × μ) where
  key a := [Ky.key a.1, Ky.key a.2]
  inj := fun {a b} h => by
    have h1 := List.cons.inj h
    have h2 := List.cons.inj h1.2
    exact Prod.ext (Ky.inj h1.1) (Ky.inj h2.1)
  iff := fun G H v a => by
    constructor
    · rintro ⟨p, x, y, e, h, h1, h2⟩
      refine ⟨p, e, ?_⟩
      rw [h, (Ky.iff G H x a.1).mp h1, (Ky.iff G H y a.2).mp h2]
      rfl
    · rintro ⟨p, e, h⟩
      exact ⟨p, _, _, e, h, (Ky.iff G H _ a.1).mpr rfl, (Ky.iff G H _ a.2).mpr rfl⟩
section
variable {κ α : Type} [Rp κ] [DecidableEq κ] [Rp α]
abbrev repk [Ky κ] (G : Gb) (H : Hp) (kvs : List (Key × V)) (l : List (κ × α)) : Prop := All2 (fun p q => p.1 = Ky.key q.1 ∧ rep G H p.2 q.2) kvs l
abbrev rept [Kt κ] (G : Gb) (H : Hp) (kvs : List (List Key × V)) (l : List (κ × α)) : Prop := All2 (fun p q => p.1 = Kt.key q.1 ∧ rep G H p.2 q.2) kvs l
theorem repk_mono [Ky κ] {G : Gb} {H H' : Hp} {kvs : List (Key × V)} {l : List (κ × α)} (s : Same H H') (h : repk G H kvs l) : repk G H' kvs l := h.imp fun _ _ q => ⟨q.1, Rp.mono s q.2⟩
theorem rept_mono [Kt κ] {G : Gb} {H H' : Hp} {kvs : List (List Key × V)} {l : List (κ × α)} (s : Same H H') (h : rept G H kvs l) : rept G H' kvs l := h.imp fun _ _ q => ⟨q.1, Rp.mono s q.2⟩
theorem rd_mono {H H' : Hp} {p : Addr} {o : HO} (s : Same H H') (h : Rd H p o) : Rd H' p o := by
  rcases h with h | ⟨u, h⟩
  · exact .inl (s _ _ h)
  · exact .inr ⟨u, s _ _ h⟩
instance [Ky κ] : Rp (Dk κ α) where
  rep G H x a := ∃ p kvs, x = .ref p ∧ Rd H p (.dK kvs) ∧ repk G H kvs a.l
  mono := fun s ⟨p, vs, e, h, h1⟩ => ⟨p, vs, e, rd_mono s h, repk_mono s h1⟩
instance [Kt κ] : Rp (Dt κ α) where
  rep G H x a := ∃ p kvs, x = .ref p ∧ Rd H p (.dT kvs) ∧ rept G H kvs a.l
  mono := fun s ⟨p, vs, e, h, h1⟩ => ⟨p, vs, e, rd_mono s h, rept_mono s h1⟩
instance [Ky κ] : Rc (Dk κ α) where
  con G H o a := ∃ kvs, o = .dK kvs ∧ repk G H kvs a.l
  mono := fun s ⟨vs, e, h⟩ => ⟨vs, e, repk_mono s h⟩
  fz := fun h ⟨vs, e, q⟩ => ⟨_, vs, rfl, .inl (by rw [h, e]), q⟩
instance [Kt κ] : Rc (Dt κ α) where
  con G H o a := ∃ kvs, o = .dT kvs ∧ rept G H kvs a.l
  mono := fun s ⟨vs, e, h⟩ => ⟨vs, e, rept_mono s h⟩
  fz := fun h ⟨vs, e, q⟩ => ⟨_, vs, rfl, .inl (by rw [h, e]), q⟩
end
structure RC where
  p : Addr
  l : Addr
  n : Str
  ts : List Str
def RC.r (c : RC) : Str × List Str := (c.n, c.ts)
structure Rows (H : Hp) (a : Addr) (cs : List RC) : Prop where
  top : H a = some (.lst (cs.map fun c => V.ref c.p))
  tp : ∀ c ∈ cs, H c.p = some (.tup [.str c.n, .ref c.l])
  ls : ∀ c ∈ cs, H c.l = some (.lst (c.ts.map V.str))
  nl : (cs.map RC.l).Nodup
  ne : ∀ c ∈ cs, c.l ≠ a
theorem Rows.inj {H : Hp} {a : Addr} {cs ds : List RC} (h : Rows H a cs) (k : Rows H a ds) : cs = ds := by
  have e : cs.map (fun c => V.ref c.p) = ds.map fun c => V.ref c.p := by
    have := h.top.symm.trans k.top
    injection this with this
    injection this
  refine List.ext_getElem? fun i => ?_
  have ei := congrArg (fun l : List V => l[i]?) e
  simp only [List.getElem?_map] at ei
  cases ec : cs[i]? with
  | none =>
    rw [ec] at ei
    cases ed : ds[i]? with
    | none => rfl
    | some d => rw [ed] at ei; cases ei
  | some c =>
    rw [ec] at ei
    cases ed : ds[i]? with
    | none => rw [ed] at ei; cases ei
    | some d =>
      rw [ed] at ei
      have hp : c.p = d.p := by
        have := Option.some.inj ei
        injection this
      have hc := List.mem_of_getElem? ec
      have hd := List.mem_of_getElem? ed
      have ht := h.tp c hc
      rw [hp, k.tp d hd] at ht
      injection ht with ht
      injection ht with ht
      injection ht with h1 ht
      injection ht with h2 _
      injection h1 with h1
      injection h2 with h2
      have hl := h.ls c hc
      rw [← h2, k.ls d hd] at hl
      injection hl with hl
      injection hl with hl
      have h3 : d.ts = c.ts := List.map_inj_right (fun _ _ z => V.str.inj z) |>.mp hl
      obtain ⟨p, l, n, ts⟩ := c
      obtain ⟨p', l', n', ts'⟩ := d
      simp only at hp h1 h2 h3
      rw [hp, h1, h2, h3]
def FpR (p : Addr) (cs : List RC) (b : Addr) : Prop := b = p ∨ ∃ c ∈ cs, b = c.p ∨ b = c.l
theorem Rows.keep {H H' : Hp} {a : Addr} {cs : List RC} (h : Rows H a cs) (k : ∀ b o, FpR a cs b → H b = some o → H' b = some o) : Rows H' a cs :=
  ⟨k _ _ (.inl rfl) h.top, fun c hc => k _ _ (.inr ⟨c, hc, .inl rfl⟩) (h.tp c hc), fun c hc => k _ _ (.inr ⟨c, hc, .inr rfl⟩) (h.ls c hc), h.nl, h.ne⟩
theorem Rows.there {H : Hp} {a : Addr} {cs : List RC} (h : Rows H a cs) {b : Addr} (f : FpR a cs b) : ∃ o, H b = some o := by
  rcases f with rfl | ⟨c, hc, rfl | rfl⟩
  · exact ⟨_, h.top⟩
  · exact ⟨_, h.tp c hc⟩
  · exact ⟨_, h.ls c hc⟩
/-- a dict of lists of one's own -/
def DictL (H : Hp) (p : Addr) (es : List (Key × Addr)) : Prop := H p = some (.dK (es.map fun e => (e.1, V.ref e.2)))
theorem DictL.inj {H : Hp} {p : Addr} {es fs : List (Key × Addr)} (h : DictL H p es) (k : DictL H p fs) : es = fs := by
  have e : es.map (fun e => (e.1, V.ref e.2)) = fs.map fun e => (e.1, V.ref e.2) := by
    have := (show H p = _ from h).symm.trans k
    injection this with this
    injection this
  refine List.map_inj_right (fun a b z => ?_) |>.mp e
  obtain ⟨a1, a2⟩ := a
  obtain ⟨b1, b2⟩ := b
  injection z with z1 z2
  injection z2 with z2
  exact Prod.ext z1 z2
def FpD (p : Addr) (es : List (Key × Addr)) (b : Addr) : Prop := b = p ∨ ∃ e ∈ es, b = e.2
structure DlOk {κ α : Type} [Rp κ] [DecidableEq κ] [Ky κ] [Rp α] (G : Gb) (F H : Hp) (p : Addr) (es : List (Key × Addr)) (d : List (κ × List α)) : Prop where
  top : DictL H p es
  all : All2 (fun (e : Key × Addr) (q : κ × List α) => e.1 = Ky.key q.1 ∧ ∃ vs, H e.2 = some (.lst vs) ∧ reps G F vs q.2) es d
  nl : (es.map (·.2)).Nodup
  ne : ∀ e ∈ es, e.2 ≠ p
theorem All2.mem {α : Type u} {β : Type v} {R : α → β → Prop} {l : List α} {m : List β} {a : α} (h : All2 R l m) (ha : a ∈ l) : ∃ b, b ∈ m ∧ R a b := by
  obtain ⟨i, hi⟩ := List.mem_iff_getElem?.mp ha
  obtain ⟨b, hb, r⟩ := h.get hi
  exact ⟨b, List.mem_of_getElem? hb, r⟩
theorem All2.impm {α : Type u} {β : Type v} {R S : α → β → Prop} {l : List α} {m : List β} (h : All2 R l m) (f : ∀ a b, a ∈ l → R a b → S a b) : All2 S l m := by
  induction h with
  | nil => exact .nil
  | cons r t ih => exact .cons (f _ _ List.mem_cons_self r) (ih fun a b ha => f a b (List.mem_cons_of_mem _ ha))
theorem DlOk.there {κ α : Type} [Rp κ] [DecidableEq κ] [Ky κ] [Rp α] {G : Gb} {F H : Hp} {p : Addr} {es : List (Key × Addr)} {d : List (κ × List α)} (h : DlOk G F H p es d) {b : Addr} (f : FpD p es b) : ∃ o, H b = some o := by
  rcases f with rfl | ⟨e, he, rfl⟩
  · exact ⟨_, h.top⟩
  · obtain ⟨q, _, _, vs, hv, _⟩ := h.all.mem he
    exact ⟨_, hv⟩
theorem DlOk.keep {κ α : Type} [Rp κ] [DecidableEq κ] [Ky κ] [Rp α] {G : Gb} {F F' H H' : Hp} {p : Addr} {es : List (Key × Addr)} {d : List (κ × List α)} (h : DlOk G F H p es d) (hf : Same F F') (k : ∀ b o, FpD p es b → H b = some o → H' b = some o) : DlOk G F' H' p es d :=
  ⟨k _ _ (.inl rfl) h.top, h.all.impm fun e q he ⟨r1, vs, r2, r3⟩ => ⟨r1, vs, k _ _ (.inr ⟨e, he, rfl⟩) r2, reps_mono hf r3⟩, h.nl, h.ne⟩
abbrev RowsT := List (Str × List Str)
theorem Rows.rep {G : Gb} {H : Hp} {a : Addr} {cs : List RC} (h : Rows H a cs) : rep G H (.ref a) (cs.map RC.r) := by
  refine ⟨a, _, rfl, h.top, ?_⟩
  have : ∀ ds : List RC, (∀ c ∈ ds, c ∈ cs) → reps G H (ds.map fun c => V.ref c.p) (ds.map RC.r) := by
    intro ds
    induction ds with
    | nil => exact fun _ => .nil
    | cons d r ih => exact fun k => .cons ⟨d.p, _, _, rfl, h.tp d (k d List.mem_cons_self), rfl, ⟨d.l, _, rfl, h.ls d (k d List.mem_cons_self), .of_map (R := Tw.rep G H) (f := V.str) (fun _ => rfl) _⟩⟩ (ih fun c hc => k c (List.mem_cons_of_mem _ hc))
  exact this cs fun c hc => hc
/-- a thing that may be changed, of any kind -/
structure Fx : Type 1 where
  {α : Type}
  [i : Rp α]
  [j : Rc α]
  a : α
/-- .. and where it stands -/
abbrev Fd := Addr × Fx
def FdOk (G : Gb) (B F H : Hp) (d : Fd) : Prop := B d.1 = none ∧ F d.1 = none ∧ ∃ o, H d.1 = some o ∧ @Rc.con _ d.2.i d.2.j G F o d.2.a
abbrev insF (ns : List Str) (fl : List Fd) : List (Str × V) := ns.zip (fl.map fun d => V.ref d.1)
/-- things of one's own by their shape: what they own is told by the heap -/
class Sh (α : Type) where
  fp : Hp → V → List Addr
  ok : Gb → Hp → Hp → V → α → Prop
  there : ∀ {G : Gb} {F H : Hp} {v : V} {a : α} {b : Addr}, ok G F H v a → b ∈ fp H v → ∃ o, H b = some o
  keep : ∀ {G : Gb} {F F' H H' : Hp} {v : V} {a : α}, ok G F H v a → Same F F' → (∀ b o, b ∈ fp H v → H b = some o → H' b = some o) → ok G F' H' v a ∧ fp H' v = fp H v
inductive Slot : Type 1 where
  /-- frozen; borrowed; owned; owned and locked; rows that are owned down to their lists -/
  | fz {α : Type} [Rp α] (a : α)
  | bw {α : Type} [Rp α] (a : α)
  | ow {α : Type} [Rp α] [Rc α] (a : α)
  | lk {α : Type} [Rp α] [Rc α] (p : Addr) (ob : Obj) (u : HO) (a : α)
  | dr (p : Addr) (a : RowsT)
  | dd {κ α : Type} [Rp κ] [DecidableEq κ] [Ky κ] [Rp α] (p : Addr) (d : List (κ × List α))
  /-- an instance that is being made: its fields hold things of its own -/
  | ins (p C dx : Addr) (ns : List Str) (fl : List Fd)
  /-- a thing whose changeable parts are all one's own -/
  | rg {α : Type} [Rp α] (Fr : Hp) (a : α)
  /-- a part of such a thing -/
  | al {α : Type} [Rp α] (Fr : Hp) (a : α)
  /-- a thing of one's own by its shape; a value that is known -/
  | sh {α : Type} [Sh α] (a : α)
  | vl (v : V)
def un (F Fr : Hp) : Hp := fun b => match F b with
  | some o => some o
  | none => Fr b
theorem un_l {F Fr : Hp} {b : Addr} {o : HO} (h : F b = some o) : un F Fr b = some o := by unfold un; rw [h]
theorem un_r {F Fr : Hp} {b : Addr} (h : F b = none) : un F Fr b = Fr b := by unfold un; rw [h]
/-- the tuples -/
def tups (F : Hp) : Hp := fun b => match F b with
  | some (.tup xs) => some (.tup xs)
  | _ => none
theorem tups_of {F : Hp} {b : Addr} {xs : List V} (h : F b = some (.tup xs)) : tups F b = some (.tup xs) := by unfold tups; rw [h]
theorem tups_non {F : Hp} {b : Addr} (h : F b = none) : tups F b = none := by unfold tups; rw [h]
theorem tups_some {F : Hp} {b : Addr} {o : HO} (h : tups F b = some o) : F b = some o ∧ ∃ xs, o = .tup xs := by
  unfold tups at h
  split at h
  · rename_i xs e; cases h; exact ⟨e, xs, rfl⟩
  · cases h
theorem tups_mono {F F' : Hp} (s : Same F F') : Same (tups F) (tups F') := fun b o h => by
  obtain ⟨h1, xs, rfl⟩ := tups_some h
  exact tups_of (s _ _ h1)
abbrev Evr := List (Option Slot)
def SlOk (G : Gb) (B F H : Hp) : Option Slot → Option V → Prop
  | none, _ => True
  | some (@Slot.fz _ i a), x => ∃ v, x = some v ∧ @Rp.rep _ i G F v a
  | some (@Slot.bw _ i a), x => ∃ v, x = some v ∧ @Rp.rep _ i G B v a
  | some (@Slot.ow _ i j a), x => ∃ p o, x = some (.ref p) ∧ B p = none ∧ F p = none ∧ H p = some o ∧ @Rc.con _ i j G F o a
  | some (@Slot.lk _ i j p ob u a), x => x = some (.ref p) ∧ B p = none ∧ F p = none ∧ H p = some (.frz ob u) ∧ @Rc.con _ i j G F u a
  | some (Slot.dr p a), x => ∃ cs, x = some (.ref p) ∧ Rows H p cs ∧ cs.map RC.r = a ∧ ∀ b, FpR p cs b → B b = none ∧ F b = none
  | some (@Slot.dd _ _ i1 i2 i3 i4 p d), x => ∃ es, x = some (.ref p) ∧ DlOk G F H p es d ∧ ∀ b, FpD p es b → B b = none ∧ F b = none
  | some (Slot.ins p C dx ns fl), x => x = some (.ref p) ∧ B p = none ∧ F p = none ∧ H p = some (.ins C dx (insF ns fl)) ∧ (∀ d ∈ fl, FdOk G B F H d) ∧ (p :: fl.map (·.1)).Nodup
  | some (@Slot.rg _ i Fr a), x => ∃ v, x = some v ∧ @Rp.rep _ i G (un (tups F) Fr) v a ∧ Same Fr H ∧ (∀ b, Fr b ≠ none → B b = none ∧ F b = none) ∧ ∀ b xs, Fr b ≠ some (.tup xs)
  | some (@Slot.sh _ i a), x => ∃ v, x = some v ∧ @Sh.ok _ i G F H v a ∧ ∀ b, b ∈ @Sh.fp _ i H v → B b = none ∧ F b = none
  | some (Slot.vl v), x => x = some v
  | some (@Slot.al _ i Fr a), x => ∃ v F1, x = some v ∧ Same F1 F ∧ @Rp.rep _ i G (un (tups F1) Fr) v a
/-- what a slot owns -/
def Fp (H : Hp) : Option Slot → Option V → Addr → Prop
  | some (@Slot.ow _ _ _ _), x, b => x = some (.ref b)
  | some (@Slot.lk _ _ _ _ _ _ _), x, b => x = some (.ref b)
  | some (Slot.dr p _), x, b => ∃ cs, x = some (.ref p) ∧ Rows H p cs ∧ FpR p cs b
  | some (@Slot.dd _ _ _ _ _ _ p _), x, b => ∃ es, x = some (.ref p) ∧ DictL H p es ∧ FpD p es b
  | some (Slot.ins p _ _ _ fl), x, b => x = some (.ref p) ∧ b ∈ p :: fl.map (·.1)
  | some (@Slot.rg _ _ Fr _), _, b => Fr b ≠ none
  | some (@Slot.sh _ i _), x, b => ∃ v, x = some v ∧ b ∈ @Sh.fp _ i H v
  | _, _, _ => False
def isOw : Option Slot → Bool
  | some (@Slot.ow _ _ _ _) => true
  | some (@Slot.lk _ _ _ _ _ _ _) => true
  | some (Slot.dr _ _) => true
  | some (@Slot.dd _ _ _ _ _ _ _ _) => true
  | some (Slot.ins _ _ _ _ _) => true
  | some (@Slot.rg _ _ _ _) => true
  | some (@Slot.sh _ _ _) => true
  | _ => false
theorem Fp.own {H : Hp} {s : Option Slot} {x : Option V} {b : Addr} (h : Fp H s x b) : isOw s = true := by
  cases s with
  | none => cases h
  | some s => cases s <;> first | rfl | cases h
section
variable {G : Gb} {B F F' H H' : Hp} {s : Option Slot} {x : Option V} {b : Addr}
theorem Fp.at (h : SlOk G B F H s x) (f : Fp H s x b) : (∃ o, H b = some o) ∧ B b = none ∧ F b = none := by
  cases s with
  | none => cases f
  | some s =>
    cases s with
    | fz a => cases f
    | bw a => cases f
    | al Fr a => cases f
    | vl v => cases f
    | sh a =>
      obtain ⟨v, e, h1, h2⟩ := h
      obtain ⟨w, e2, f⟩ := f
      rw [e] at e2; cases e2
      exact ⟨Sh.there h1 f, h2 b f⟩
    | ow a => obtain ⟨p, o, e, h1, h2, h3, _⟩ := h; rw [show x = _ from f] at e; cases e; exact ⟨⟨o, h3⟩, h1, h2⟩
    | lk p ob u a => obtain ⟨e, h1, h2, h3, _⟩ := h; rw [show x = _ from f] at e; cases e; exact ⟨⟨_, h3⟩, h1, h2⟩
    | dr p a =>
      obtain ⟨cs, e, h1, _, h3⟩ := h
      obtain ⟨ds, e2, k1, k2⟩ := f
      have := h1.inj k1
      subst this
      exact ⟨h1.there k2, h3 b k2⟩
    | dd p d =>
      obtain ⟨es, e, h1, h3⟩ := h
      obtain ⟨fs, e2, k1, k2⟩ := f
      have := h1.top.inj k1
      subst this
      exact ⟨h1.there k2, h3 b k2⟩
    | ins p C dx ns fl =>
      obtain ⟨e, h1, h2, h3, h4, h5⟩ := h
      obtain ⟨e2, k⟩ := f
      rcases List.mem_cons.mp k with rfl | k
      · exact ⟨⟨_, h3⟩, h1, h2⟩
      · obtain ⟨d, hd, rfl⟩ := List.mem_map.mp k
        obtain ⟨q1, q2, o, q3, _⟩ := h4 d hd
        exact ⟨⟨o, q3⟩, q1, q2⟩
    | rg Fr a =>
      obtain ⟨v, e, h1, h2, h3, _⟩ := h
      cases q : Fr b with
      | none => exact absurd q f
      | some o => exact ⟨⟨o, h2 _ _ q⟩, h3 b f⟩
theorem Fp.lift (h : SlOk G B F H s x) (k : ∀ b o, Fp H s x b → H b = some o → H' b = some o) (f : Fp H' s x b) : Fp H s x b := by
  cases s with
  | none => cases f
  | some s =>
    cases s with
    | fz a => cases f
    | bw a => cases f
    | al Fr a => cases f
    | vl v => cases f
    | sh a =>
      obtain ⟨v, e, h1, h2⟩ := h
      obtain ⟨w, e2, f⟩ := f
      rw [e] at e2; cases e2
      rw [(Sh.keep h1 (.refl _) fun b o z => k b o ⟨v, e, z⟩).2] at f
      exact ⟨v, e, f⟩
    | ow a => exact f
    | lk p ob u a => exact f
    | dr p a =>
      obtain ⟨cs, e, h1, _, _⟩ := h
      obtain ⟨ds, e2, k1, k2⟩ := f
      have := (h1.keep (H' := H') fun b o f2 => k b o ⟨cs, e, h1, f2⟩).inj k1
      subst this
      exact ⟨cs, e, h1, k2⟩
    | dd p d =>
      obtain ⟨es, e, h1, _⟩ := h
      obtain ⟨fs, e2, k1, k2⟩ := f
      have := (show DictL H' p es from k p _ ⟨es, e, h1.top, .inl rfl⟩ h1.top).inj k1
      subst this
      exact ⟨es, e, h1.top, k2⟩
    | ins p C dx ns fl => exact f
    | rg Fr a => exact f
theorem SlOk.frame (h : SlOk G B F H s x) (hf : Same F F') (k : ∀ b o, Fp H s x b → H b = some o → H' b = some o) (n : ∀ b, Fp H s x b → F' b = none) : SlOk G B F' H' s x := by
  cases s with
  | none => exact trivial
  | some s =>
    cases s with
    | fz a => obtain ⟨v, e1, e2⟩ := h; exact ⟨v, e1, Rp.mono hf e2⟩
    | bw a => exact h
    | al Fr a => obtain ⟨v, F1, e1, e2, e3⟩ := h; exact ⟨v, F1, e1, e2.trans hf, e3⟩
    | vl v => exact h
    | sh a =>
      obtain ⟨v, e, h1, h2⟩ := h
      obtain ⟨q1, q2⟩ := Sh.keep h1 hf fun b o z => k b o ⟨v, e, z⟩
      exact ⟨v, e, q1, fun b z => by rw [q2] at z; exact ⟨(h2 b z).1, n b ⟨v, e, z⟩⟩⟩
    | ow a => obtain ⟨p, o, e1, e2, e3, e4, e5⟩ := h; exact ⟨p, o, e1, e2, n p e1, k p o e1 e4, Rc.mono hf e5⟩
    | lk p ob u a => obtain ⟨e1, e2, e3, e4, e5⟩ := h; exact ⟨e1, e2, n p e1, k p _ e1 e4, Rc.mono hf e5⟩
    | dr p a =>
      obtain ⟨cs, e, h1, h2, h3⟩ := h
      exact ⟨cs, e, h1.keep fun b o f => k b o ⟨cs, e, h1, f⟩, h2, fun b f => ⟨(h3 b f).1, n b ⟨cs, e, h1, f⟩⟩⟩
    | dd p d =>
      obtain ⟨es, e, h1, h3⟩ := h
      exact ⟨es, e, h1.keep hf fun b o f => k b o ⟨es, e, h1.top, f⟩, fun b f => ⟨(h3 b f).1, n b ⟨es, e, h1.top, f⟩⟩⟩
    | ins p C dx ns fl =>
      obtain ⟨e, h1, h2, h3, h4, h5⟩ := h
      refine ⟨e, h1, n p ⟨e, List.mem_cons_self⟩, k p _ ⟨e, List.mem_cons_self⟩ h3, fun d hd => ?_, h5⟩
      obtain ⟨q1, q2, o, q3, q4⟩ := h4 d hd
      have hm : d.1 ∈ p :: fl.map (·.1) := List.mem_cons_of_mem _ (List.mem_map.mpr ⟨d, hd, rfl⟩)
      exact ⟨q1, n _ ⟨e, hm⟩, o, k _ _ ⟨e, hm⟩ q3, @Rc.mono _ d.2.i d.2.j _ _ _ _ _ hf q4⟩
    | rg Fr a =>
      obtain ⟨v, e, h1, h2, h3, h4⟩ := h
      refine ⟨v, e, Rp.mono (fun b o z => ?_) h1, fun b o z => k b o (by show Fr b ≠ none; rw [z]; exact fun w => nomatch w) (h2 _ _ z), fun b z => ⟨(h3 b z).1, n b z⟩, h4⟩
      cases q : tups F b with
      | some u => rw [un_l q] at z; exact un_l (tups_mono hf _ _ (by rw [q]; exact z))
      | none =>
        rw [un_r q] at z
        rw [un_r (tups_non (n b (by show Fr b ≠ none; rw [z]; exact fun w => nomatch w)))]
        exact z
end
structure Rel (G : Gb) (B F0 F : Hp) (ρ : Evr) (σ : L2.St) (H : Hp) : Prop where
  sB : Same B H
  sF : Same F H
  s0 : Same F0 F
  nw : ∀ a, F0 a = none → F a ≠ none → B a = none
  len : ρ.length = σ.length
  sl : ∀ (i : Nat) (s : Option Slot) (x : Option V), ρ[i]? = some s → σ[i]? = some x → SlOk G B F H s x
  ds : ∀ (i j : Nat) (s t : Option Slot) (x y : Option V) (b : Addr), ρ[i]? = some s → σ[i]? = some x → ρ[j]? = some t → σ[j]? = some y → Fp H s x b → Fp H t y b → i = j
/-- heaps grow: what is newly frozen is new -/
structure Ext (F H F' H' : Hp) : Prop where
  f : Same F F'
  h : Same H H'
  n : ∀ a, F a = none → F' a ≠ none → H a = none
theorem Ext.refl (F H : Hp) : Ext F H F H := ⟨.refl _, .refl _, fun a h q => absurd h q⟩
theorem Ext.trans {F H F1 H1 F2 H2 : Hp} (a : Ext F H F1 H1) (b : Ext F1 H1 F2 H2) : Ext F H F2 H2 := ⟨a.f.trans b.f, a.h.trans b.h, fun x h q => by
  cases e : F1 x with
  | none => exact a.h.free (b.n x e q)
  | some o => exact a.n x h (by rw [e]; exact fun z => nomatch z)⟩
theorem Ext.non {F H F' H' : Hp} (e : Ext F H F' H') {p : Addr} {o : HO} (h : H p = some o) (f : F p = none) : F' p = none := by
  cases q : F' p with
  | none => rfl
  | some u => exact absurd (e.n p f (by rw [q]; exact fun z => nomatch z)) (by rw [h]; exact fun z => nomatch z)
/-- a thing that is made anew and stays unfrozen -/
theorem Ext.new {F H : Hp} {p : Addr} {o : HO} (h : H p = none) : Ext F H F (upd H p o) := ⟨.refl _, same_upd h, fun a e q => absurd e q⟩
/-- a thing that is made anew and frozen -/
theorem Ext.newF {F H : Hp} {p : Addr} {o : HO} (s : Same F H) (h : H p = none) : Ext F H (upd F p o) (upd H p o) := ⟨same_upd (s.free h), same_upd h, fun a e q => by
  by_cases z : a = p
  · rw [z]; exact h
  · rw [upd_ne z] at q; exact absurd e q⟩
theorem same_both {F H : Hp} {p : Addr} {o : HO} (s : Same F H) : Same (upd F p o) (upd H p o) := fun a u e => by
  by_cases z : a = p
  · subst z; rw [upd_same] at e ⊢; exact e
  · rw [upd_ne z] at e ⊢; exact s _ _ e
theorem same_updR {F H : Hp} {p : Addr} {o : HO} (s : Same F H) (f : F p = none) : Same F (upd H p o) := fun a u e => by
  rw [upd_ne (fun z => by rw [z, f] at e; cases e)]; exact s _ _ e
theorem set_at {α : Type u} {l : List α} {i j : Nat} {x y : α} (h : (l.set i x)[j]? = some y) : (i = j ∧ y = x ∧ ∃ z, l[i]? = some z) ∨ (i ≠ j ∧ l[j]? = some y) := by
  by_cases e : i = j
  · subst e
    rw [List.getElem?_set_self'] at h
    cases q : l[i]? with
    | none => rw [q] at h; cases h
    | some z => rw [q] at h; cases h; exact .inl ⟨rfl, rfl, z, rfl⟩
  · rw [List.getElem?_set_ne e] at h
    exact .inr ⟨e, h⟩
section
variable {G : Gb} {B F0 F F' H H' : Hp} {ρ : Evr} {σ : L2.St}
theorem Rel.ext (R : Rel G B F0 F ρ σ H) (e : Ext F H F' H') (s : Same F' H') : Rel G B F0 F' ρ σ H' where
  sB := R.sB.trans e.h
  sF := s
  s0 := R.s0.trans e.f
  nw := fun a h q => by
    cases z : F a with
    | none => exact R.sB.free (e.n a z q)
    | some o => exact R.nw a h (by rw [z]; exact fun z => nomatch z)
  len := R.len
  sl := fun i s x hs hx => (R.sl i s x hs hx).frame e.f (fun b o _ z => e.h _ _ z) fun b f => by
    obtain ⟨⟨o, h1⟩, _, h3⟩ := Fp.at (R.sl i s x hs hx) f
    exact e.non h1 h3
  ds := fun i j s t x y b hi hx hj hy f g => R.ds i j s t x y b hi hx hj hy (Fp.lift (R.sl i s x hi hx) (fun _ _ _ z => e.h _ _ z) f) (Fp.lift (R.sl j t y hj hy) (fun _ _ _ z => e.h _ _ z) g)
theorem Rel.base (R : Rel G B F0 F ρ σ H) : Rel G B F F ρ σ H := ⟨R.sB, R.sF, .refl _, fun a h q => absurd h q, R.len, R.sl, R.ds⟩
theorem Rel.under {F1 : Hp} {ρ' : Evr} {σ' : L2.St} (R : Rel G B F0 F ρ σ H) (R' : Rel G B F F1 ρ' σ' H') : Rel G B F0 F1 ρ' σ' H' := ⟨R'.sB, R'.sF, R.s0.trans R'.s0, fun a h q => by
  cases z : F a with
  | none => exact R'.nw a z q
  | some o => exact R.nw a h (by rw [z]; exact fun z => nomatch z), R'.len, R'.sl, R'.ds⟩
/-- the slot i is set anew: what it owns is owned by no other -/
theorem Rel.setv {i : Nat} {s : Option Slot} {v : Option V} (R : Rel G B F0 F ρ σ H) (h : SlOk G B F H s v) (hn : ∀ b, Fp H s v b → ∀ (j : Nat) (t : Option Slot) (y : Option V), j ≠ i → ρ[j]? = some t → σ[j]? = some y → ¬ Fp H t y b) : Rel G B F0 F (ρ.set i s) (σ.set i v) H where
  sB := R.sB
  sF := R.sF
  s0 := R.s0
  nw := R.nw
  len := by rw [List.length_set, List.length_set]; exact R.len
  sl := fun j t x hs hx => by
    rcases set_at hs with ⟨rfl, rfl, _⟩ | ⟨e, hs⟩
    · rcases set_at hx with ⟨_, rfl, _⟩ | ⟨e, _⟩
      · exact h
      · exact absurd rfl e
    · rcases set_at hx with ⟨e2, _⟩ | ⟨_, hx⟩
      · exact absurd e2 e
      · exact R.sl j t x hs hx
  ds := fun j k t u x y b hj hx hk hy f g => by
    rcases set_at hj with ⟨rfl, rfl, _⟩ | ⟨e, hj'⟩
    · rcases set_at hx with ⟨_, rfl, _⟩ | ⟨e, _⟩
      · rcases set_at hk with ⟨rfl, _⟩ | ⟨e2, hk⟩
        · rfl
        · rcases set_at hy with ⟨e3, _⟩ | ⟨_, hy⟩
          · exact absurd e3 e2
          · exact absurd g (hn b f k u y (Ne.symm e2) hk hy)
      · exact absurd rfl e
    · rcases set_at hx with ⟨e2, _⟩ | ⟨_, hx'⟩
      · exact absurd e2 e
      · rcases set_at hk with ⟨e2, e4, _⟩ | ⟨e2, hk'⟩
        · rcases set_at hy with ⟨_, e5, _⟩ | ⟨e3, _⟩
          · rw [e4, e5] at g
            exact absurd f (hn b g j t x (Ne.symm e) hj' hx')
          · exact absurd e2 e3
        · rcases set_at hy with ⟨e3, _⟩ | ⟨_, hy'⟩
          · exact absurd e3 e2
          · exact R.ds j k t u x y b hj' hx' hk' hy' f g
/-- the slot i gets a frozen or borrowed thing -/
theorem Rel.put {i : Nat} {s : Slot} {v : V} (R : Rel G B F0 F ρ σ H) (h : SlOk G B F H (some s) (some v)) (ho : isOw (some s) = false) : Rel G B F0 F (ρ.set i (some s)) (σ.set i (some v)) H :=
  R.setv h fun b f => by rw [f.own] at ho; cases ho
/-- what is new is owned by no slot -/
theorem Rel.fresh {p : Addr} (R : Rel G B F0 F ρ σ H) (h : H p = none) : ∀ (j : Nat) (s : Option Slot) (x : Option V), ρ[j]? = some s → σ[j]? = some x → ¬ Fp H s x p := fun j s x hs hx f => by
  obtain ⟨⟨o, e⟩, _⟩ := Fp.at (R.sl j s x hs hx) f
  rw [h] at e
  cases e
theorem Rel.freshE {p : Addr} (R : Rel G B F0 F ρ σ H) (h : H p = none) (s : Same H H') : ∀ (j : Nat) (t : Option Slot) (y : Option V), ρ[j]? = some t → σ[j]? = some y → ¬ Fp H' t y p := fun j t y hj hy f => R.fresh h j t y hj hy (Fp.lift (R.sl j t y hj hy) (fun _ _ _ z => s _ _ z) f)
/-- a new thing of one's own -/
theorem Rel.own {α : Type} [Rp α] [Rc α] {i : Nat} {a : α} {p : Addr} {o : HO} (R : Rel G B F0 F ρ σ H) (hB : B p = none) (hF : F p = none) (hH : H p = some o) (c : con G F o a) (hn : ∀ (j : Nat) (s : Option Slot) (x : Option V), ρ[j]? = some s → σ[j]? = some x → ¬ Fp H s x p) :
    Rel G B F0 F (ρ.set i (some (.ow a))) (σ.set i (some (.ref p))) H := R.setv ⟨p, o, rfl, hB, hF, hH, c⟩ fun b f j t y _ hj hy g => by
  have e : b = p := by
    have : (some (V.ref p) : Option V) = some (.ref b) := f
    injection this with this
    injection this with this
    exact this.symm
  rw [e] at g
  exact hn j t y hj hy g
/-- the things of slot i are changed; what it owns now is what it owned, or new -/
theorem Rel.mod {i : Nat} {s s' : Option Slot} {x : Option V} (R : Rel G B F0 F ρ σ H) (hi : ρ[i]? = some s) (hx : σ[i]? = some x) (hk : ∀ b o, ¬ Fp H s x b → H b = some o → H' b = some o) (c : SlOk G B F H' s' x) (hf : ∀ b, Fp H' s' x b → Fp H s x b ∨ ∀ (j : Nat) (t : Option Slot) (y : Option V), ρ[j]? = some t → σ[j]? = some y → ¬ Fp H t y b) :
    Rel G B F0 F (ρ.set i s') σ H' := by
  have sb : ∀ {b : Addr}, Fp H s x b → (∃ o, H b = some o) ∧ B b = none ∧ F b = none := fun f => Fp.at (R.sl i s x hi hx) f
  have same : ∀ {A : Hp}, (∀ b, Fp H s x b → A b = none) → Same A H → Same A H' := fun ha sa b o e => hk b o (fun f => by rw [ha b f] at e; cases e) (sa _ _ e)
  have hoth : ∀ (j : Nat) (t : Option Slot) (y : Option V), i ≠ j → ρ[j]? = some t → σ[j]? = some y → ∀ b o, Fp H t y b → H b = some o → H' b = some o := fun j t y ne hj hy b o f e => hk b o (fun g => ne (R.ds i j s t x y b hi hx hj hy g f)) e
  refine ⟨same (fun b f => (sb f).2.1) R.sB, same (fun b f => (sb f).2.2) R.sF, R.s0, R.nw, by rw [List.length_set]; exact R.len, fun j t y hj hy => ?_, fun j k t u y z b hj hy hk2 hz f g => ?_⟩
  · rcases set_at hj with ⟨rfl, rfl, _⟩ | ⟨ne, hj⟩
    · rw [hx] at hy
      cases hy
      exact c
    · exact (R.sl j t y hj hy).frame (.refl _) (hoth j t y ne hj hy) fun b f => (Fp.at (R.sl j t y hj hy) f).2.2
  · have key : ∀ (k : Nat) (u : Option Slot) (z : Option V), i ≠ k → ρ[k]? = some u → σ[k]? = some z → Fp H' s' x b → Fp H' u z b → False := fun k u z ne hk2 hz f g => by
      have g' := Fp.lift (R.sl k u z hk2 hz) (hoth k u z ne hk2 hz) g
      rcases hf b f with f' | f'
      · exact ne (R.ds i k s u x z b hi hx hk2 hz f' g')
      · exact f' k u z hk2 hz g'
    rcases set_at hj with ⟨rfl, rfl, _⟩ | ⟨ne, hj⟩
    · rw [hx] at hy
      cases hy
      rcases set_at hk2 with ⟨rfl, _⟩ | ⟨ne2, hk2⟩
      · rfl
      · exact (key k u z ne2 hk2 hz f g).elim
    · rcases set_at hk2 with ⟨e2, e3, _⟩ | ⟨ne2, hk2⟩
      · rw [← e2, hx] at hz
        cases hz
        rw [e3] at g
        exact (key j t y ne hj hy g f).elim
      · exact R.ds j k t u y z b hj hy hk2 hz (Fp.lift (R.sl j t y hj hy) (hoth j t y ne hj hy) f) (Fp.lift (R.sl k u z hk2 hz) (hoth k u z ne2 hk2 hz) g)
/-- the one thing of slot i stands otherwise -/
theorem Rel.shift {i : Nat} {s : Option Slot} {s' : Slot} {p : Addr} {o : HO} (R : Rel G B F0 F ρ σ H) (hi : ρ[i]? = some s) (hs : σ[i]? = some (some (.ref p))) (ho : Fp H s (some (.ref p)) p) (c : SlOk G B F (upd H p o) (some s') (some (.ref p))) (hf : ∀ b, Fp (upd H p o) (some s') (some (.ref p)) b → b = p) :
    Rel G B F0 F (ρ.set i (some s')) σ (upd H p o) :=
  R.mod hi hs (fun b u nf e => by rw [upd_ne (fun z => nf (by rw [z]; exact ho))]; exact e) c fun b f => .inl (by rw [hf b f]; exact ho)
theorem Rel.change {α : Type} [Rp α] [Rc α] {i : Nat} {a : α} {s : Option Slot} {p : Addr} {o : HO} (R : Rel G B F0 F ρ σ H) (hi : ρ[i]? = some s) (ho : Fp H s (some (.ref p)) p) (hs : σ[i]? = some (some (.ref p))) (hB : B p = none) (hF : F p = none) (c : con G F o a) :
    Rel G B F0 F (ρ.set i (some (.ow a))) σ (upd H p o) := R.shift hi hs ho ⟨p, o, rfl, hB, hF, upd_same, c⟩ fun b f => by
  have : (some (V.ref p) : Option V) = some (.ref b) := f
  injection this with this
  injection this with this
  exact this.symm
/-- what is known is forgotten -/
inductive Wk : Evr → Evr → Prop
  | nil : Wk [] []
  | keep {s : Option Slot} {ρ ρ' : Evr} : Wk ρ ρ' → Wk (s :: ρ) (s :: ρ')
  | drop {s : Option Slot} {ρ ρ' : Evr} : Wk ρ ρ' → Wk (s :: ρ) (none :: ρ')
theorem Wk.len : ∀ {ρ ρ' : Evr}, Wk ρ ρ' → ρ.length = ρ'.length
  | _, _, .nil => rfl
  | _, _, .keep h => by rw [List.length_cons, List.length_cons, h.len]
  | _, _, .drop h => by rw [List.length_cons, List.length_cons, h.len]
theorem Wk.at : ∀ {ρ ρ' : Evr} {i : Nat} {s : Option Slot}, Wk ρ ρ' → ρ'[i]? = some s → s = none ∨ ρ[i]? = some s
  | _, _, _, _, .nil, e => by simp at e
  | _, _, 0, _, .keep _, e => .inr e
  | _, _, 0, _, .drop _, e => by simp at e; exact .inl e.symm
  | _, _, i + 1, s, .keep h, e => h.at (i := i) (s := s) (by simpa using e) |>.imp id fun q => by simpa using q
  | _, _, i + 1, s, .drop h, e => h.at (i := i) (s := s) (by simpa using e) |>.imp id fun q => by simpa using q
theorem Rel.weak {ρ' : Evr} (R : Rel G B F0 F ρ σ H) (w : Wk ρ ρ') : Rel G B F0 F ρ' σ H where
  sB := R.sB
  sF := R.sF
  s0 := R.s0
  nw := R.nw
  len := w.len.symm.trans R.len
  sl := fun i s x hs hx => by
    rcases w.at hs with e | e
    · subst e; exact trivial
    · exact R.sl i s x e hx
  ds := fun i j s t x y b hi hx hj hy f g => by
    rcases w.at hi with e | e
    · subst e; cases f
    · rcases w.at hj with e' | e'
      · subst e'; cases g
      · exact R.ds i j s t x y b e hx e' hy f g
/-- what slot i owns is frozen -/
theorem Rel.freezeG {i : Nat} {s s' : Option Slot} {x : Option V} {F' : Hp} (R : Rel G B F0 F ρ σ H) (hi : ρ[i]? = some s) (hx : σ[i]? = some x) (sf : Same F F') (sh : Same F' H) (hn : ∀ b, F b = none → F' b ≠ none → Fp H s x b) (c : SlOk G B F' H s' x) (ho : isOw s' = false) :
    Rel G B F0 F' (ρ.set i s') σ H := by
  have none : ∀ (j : Nat) (t : Option Slot) (y : Option V), i ≠ j → ρ[j]? = some t → σ[j]? = some y → ∀ b, Fp H t y b → F' b = Option.none := fun j t y ne hj hy b f => by
    cases e : F' b with
    | none => rfl
    | some o => exact absurd (R.ds i j s t x y b hi hx hj hy (hn b (Fp.at (R.sl j t y hj hy) f).2.2 (by rw [e]; exact fun z => nomatch z)) f) ne
  refine ⟨R.sB, sh, R.s0.trans sf, fun a h q => ?_, by rw [List.length_set]; exact R.len, fun j t y hj hy => ?_, fun j k t u y z b hj hy hk hz f g => ?_⟩
  · cases e : F a with
    | none => exact (Fp.at (R.sl i s x hi hx) (hn a e q)).2.1
    | some o => exact R.nw a h (by rw [e]; exact fun z => nomatch z)
  · rcases set_at hj with ⟨rfl, rfl, _⟩ | ⟨ne, hj⟩
    · rw [hx] at hy
      cases hy
      exact c
    · exact (R.sl j t y hj hy).frame sf (fun _ _ _ z => z) (none j t y ne hj hy)
  · rcases set_at hj with ⟨rfl, rfl, _⟩ | ⟨ne, hj⟩
    · rw [f.own] at ho; cases ho
    · rcases set_at hk with ⟨rfl, rfl, _⟩ | ⟨ne2, hk⟩
      · rw [g.own] at ho; cases ho
      · exact R.ds j k t u y z b hj hy hk hz f g
theorem Rel.freeze {α : Type} [Rp α] [Rc α] {i : Nat} {a : α} (R : Rel G B F0 F ρ σ H) (hi : ρ[i]? = some (some (.ow a))) : ∃ F', Rel G B F0 F' (ρ.set i (some (.fz a))) σ H := by
  have hil : i < σ.length := by rw [← R.len]; exact (List.getElem?_eq_some_iff.mp hi).1
  obtain ⟨x, hx⟩ : ∃ x, σ[i]? = some x := ⟨σ[i], List.getElem?_eq_getElem hil⟩
  obtain ⟨p, o, e1, e2, e3, e4, e5⟩ := R.sl i _ x hi hx
  subst e1
  have s1 : Same F (upd F p o) := same_upd e3
  refine ⟨upd F p o, R.freezeG hi hx s1 (fun b u e => ?_) (fun b h q => ?_) ⟨_, rfl, Rc.fz upd_same (Rc.mono s1 e5)⟩ rfl⟩
  · by_cases z : b = p
    · subst z; rw [upd_same] at e; cases e; exact e4
    · rw [upd_ne z] at e; exact R.sF _ _ e
  · by_cases z : b = p
    · rw [z]; exact rfl
    · rw [upd_ne z] at q; exact absurd h q
open Classical in
theorem Rel.freezeD {κ α : Type} [Rp κ] [DecidableEq κ] [Ky κ] [Rp α] {i : Nat} {p : Addr} {d : List (κ × List α)} (R : Rel G B F0 F ρ σ H) (hi : ρ[i]? = some (some (.dd p d))) : ∃ F', Rel G B F0 F' (ρ.set i (some (.fz (⟨d⟩ : Dk κ (List α))))) σ H := by
  have hil : i < σ.length := by rw [← R.len]; exact (List.getElem?_eq_some_iff.mp hi).1
  obtain ⟨x, hx⟩ : ∃ x, σ[i]? = some x := ⟨σ[i], List.getElem?_eq_getElem hil⟩
  obtain ⟨es, e1, h1, h3⟩ := R.sl i _ x hi hx
  subst e1
  let F' : Hp := fun b => if FpD p es b then H b else F b
  have in' : ∀ {b}, FpD p es b → F' b = H b := fun f => if_pos f
  have out' : ∀ {b}, ¬ FpD p es b → F' b = F b := fun f => if_neg f
  have sf : Same F F' := fun b o e => by
    by_cases f : FpD p es b
    · rw [(h3 b f).2] at e; cases e
    · rw [out' f]; exact e
  refine ⟨F', R.freezeG hi hx sf (fun b o e => ?_) (fun b h q => ?_) ⟨_, rfl, ?_⟩ rfl⟩
  · by_cases f : FpD p es b
    · rw [in' f] at e; exact e
    · rw [out' f] at e; exact R.sF _ _ e
  · by_cases f : FpD p es b
    · exact ⟨es, rfl, h1.top, f⟩
    · rw [out' f] at q; exact absurd h q
  · have r' := h1.keep (F' := F') (H' := F') sf fun b o f e => by rw [in' f]; exact e
    refine ⟨p, _, rfl, .inl r'.top, ?_⟩
    have go : ∀ {es : List (Key × Addr)} {d : List (κ × List α)}, All2 (fun (e : Key × Addr) (q : κ × List α) => e.1 = Ky.key q.1 ∧ ∃ vs, F' e.2 = some (.lst vs) ∧ reps G F' vs q.2) es d → repk G F' (es.map fun e => (e.1, V.ref e.2)) d := by
      intro es d h
      induction h with
      | nil => exact .nil
      | cons r t ih => obtain ⟨r1, vs, r2, r3⟩ := r; exact .cons ⟨r1, _, vs, rfl, r2, r3⟩ ih
    exact go r'.all
end
end Tw
set_option Elab.async false
set_option linter.all false
set_option maxRecDepth 100000
set_option maxHeartbeats 4000000
namespace Tw
open PySem PySem.Spec L2
open PyProof.Rows hiding St
inductive Md where
  | F | B | H
def hpM : Md → Hp → Hp → Hp → Hp
  | .F, F, _, _ => F
  | .B, _, B, _ => B
  | .H, _, _, H => H
/-- what is wanted where a refusal leaves -/
def Xc (G : Gb) (B : Hp) (E : XK) (c : Str) : Prop := ∀ H', Same B H' → E (.ref (G.cl c)) none H'
section
variable (G : Gb) (B : Hp) (E : XK) {α : Type} [Rp α]
def Ev (md : Md) (ρ : Evr) (te : TE) (m : M α) : Prop := ∀ (F0 F : Hp) (σ : L2.St) (H : Hp) (Q : VK), Rel G B F0 F ρ σ H →
  m.P (fun a => ∀ (F' : Hp) (v : V) (H' : Hp), Ext F H F' H' → Same F' H' → rep G (hpM md F' B H') v a → Q v H') (Xc G B E) → te σ H Q
/-- a new thing -/
def EvN [Rc α] (ρ : Evr) (te : TE) (m : M α) : Prop := ∀ (F0 F : Hp) (σ : L2.St) (H : Hp) (Q : VK), Rel G B F0 F ρ σ H →
  m.P (fun a => ∀ (F' : Hp) (p : Addr) (o : HO) (H' : Hp), Ext F H F' H' → Same F' H' → H p = none → F' p = none → H' p = some o → con G F' o a → Q (.ref p) H') (Xc G B E) → te σ H Q
def EvT (ρ : Evr) (tt : TT) (m : M Bool) : Prop := ∀ (F0 F : Hp) (σ : L2.St) (H : Hp) (Q : Bool → Hp → Prop), Rel G B F0 F ρ σ H →
  m.P (fun a => ∀ (F' H' : Hp), Ext F H F' H' → Same F' H' → Q a H') (Xc G B E) → tt σ H Q
end
section
variable {G : Gb} {B : Hp} {E : XK} {ρ : Evr} {α β γ δ : Type} [Rp α] [Rp β] [Rp γ] [Rp δ] {md md' : Md}
theorem hpM_H {F H : Hp} (R : Same B H) (s : Same F H) : Same (hpM md F B H) H := by
  cases md with
  | F => exact s
  | B => exact R
  | H => exact .refl _
theorem hpM_ext {F H F' H' : Hp} (e : Ext F H F' H') : Same (hpM md F B H) (hpM md F' B H') := by
  cases md with
  | F => exact e.f
  | B => exact .refl _
  | H => exact e.h
theorem Ev.toH {te : TE} {m : M α} (h : Ev G B E md ρ te m) : Ev G B E .H ρ te m := fun F0 F σ H Q R q =>
  h F0 F σ H Q R (q.imp (fun a k F' v H' e s r => k F' v H' e s (Rp.mono (hpM_H (R.sB.trans e.h) s) r)) fun _ x => x)
theorem Ev.sc [Sc α] {te : TE} {m : M α} (h : Ev G B E md ρ te m) : Ev G B E md' ρ te m := fun F0 F σ H Q R q =>
  h F0 F σ H Q R (q.imp (fun a k F' v H' e s r => k F' v H' e s ((Sc.iff _ _ _ _).mpr ((Sc.iff _ _ _ _).mp r))) fun _ x => x)
theorem EvN.F [Rc α] {te : TE} {m : M α} (h : EvN G B E ρ te m) : Ev G B E .F ρ te m := fun F0 F σ H Q R q =>
  h F0 F σ H Q R (q.imp (fun a k F' p o H' e s hp fp hp' c => k (upd F' p o) (.ref p) H' ⟨e.f.trans (same_upd fp), e.h, fun b hb q => by
    by_cases z : b = p
    · rw [z]; exact hp
    · rw [upd_ne z] at q; exact e.n b hb q⟩ (fun b u z => by
    by_cases w : b = p
    · subst w; rw [upd_same] at z; cases z; exact hp'
    · rw [upd_ne w] at z; exact s _ _ z) (Rc.fz upd_same (Rc.mono (same_upd fp) c))) fun _ x => x)
theorem EvN.H [Rc α] {te : TE} {m : M α} (h : EvN G B E ρ te m) : Ev G B E .H ρ te m := fun F0 F σ H Q R q =>
  h F0 F σ H Q R (q.imp (fun a k F' p o H' e s hp fp hp' c => k F' (.ref p) H' e s (Rc.fz hp' (Rc.mono s c))) fun _ x => x)
theorem Ev.go {ω : Type} {te : TE} {m : M α} {k : α → M ω} {p : ω → Prop} {F0 F : Hp} {σ : L2.St} {H : Hp} {Q : VK} (h : Ev G B E md ρ te m) (R : Rel G B F0 F ρ σ H) (q : (m.b k).P p (Xc G B E))
    (f : ∀ (a : α) (F' : Hp) (v : V) (H' : Hp), Ext F H F' H' → rep G (hpM md F' B H') v a → Rel G B F0 F' ρ σ H' → (k a).P p (Xc G B E) → Q v H') : te σ H Q :=
  h F0 F σ H Q R ((M.P_b.mp q).imp (fun a k F' v H' e s r => f a F' v H' e r (R.ext e s) k) fun _ x => x)
theorem EvN.go {ω : Type} [Rc α] {te : TE} {m : M α} {k : α → M ω} {p : ω → Prop} {F0 F : Hp} {σ : L2.St} {H : Hp} {Q : VK} (h : EvN G B E ρ te m) (R : Rel G B F0 F ρ σ H) (q : (m.b k).P p (Xc G B E))
    (f : ∀ (a : α) (F' : Hp) (d : Addr) (o : HO) (H' : Hp), Ext F H F' H' → H d = none → F' d = none → H' d = some o → con G F' o a → Rel G B F0 F' ρ σ H' → (k a).P p (Xc G B E) → Q (.ref d) H') : te σ H Q :=
  h F0 F σ H Q R ((M.P_b.mp q).imp (fun a k F' d o H' e s h1 h2 h3 h4 => f a F' d o H' e h1 h2 h3 h4 (R.ext e s) k) fun _ x => x)
theorem EvT.go {ω : Type} {tt : TT} {m : M Bool} {k : Bool → M ω} {p : ω → Prop} {F0 F : Hp} {σ : L2.St} {H : Hp} {Q : Bool → Hp → Prop} (h : EvT G B E ρ tt m) (R : Rel G B F0 F ρ σ H) (q : (m.b k).P p (Xc G B E))
    (f : ∀ (a : Bool) (F' H' : Hp), Ext F H F' H' → Rel G B F0 F' ρ σ H' → (k a).P p (Xc G B E) → Q a H') : tt σ H Q :=
  h F0 F σ H Q R ((M.P_b.mp q).imp (fun a k F' H' e s => f a F' H' e (R.ext e s) k) fun _ x => x)
theorem Rel.at {F0 F : Hp} {σ : L2.St} {H : Hp} {i : Nat} {s : Slot} (R : Rel G B F0 F ρ σ H) (h : ρ[i]? = some (some s)) : ∃ x, σ[i]? = some x ∧ SlOk G B F H (some s) x := by
  have hi : i < σ.length := by rw [← R.len]; exact (List.getElem?_eq_some_iff.mp h).1
  exact ⟨σ[i], List.getElem?_eq_getElem hi, R.sl i _ _ h (List.getElem?_eq_getElem hi)⟩
theorem ev_fz {i : Nat} {a : α} (h : ρ[i]? = some (some (.fz a))) : Ev G B E .F ρ (tVar i) (.ok a) := fun F0 F σ H Q R q => by
  obtain ⟨x, e, v, rfl, r⟩ := R.at h
  exact ⟨v, e, q F v H (.refl _ _) R.sF r⟩
theorem ev_bw {i : Nat} {a : α} (h : ρ[i]? = some (some (.bw a))) : Ev G B E .B ρ (tVar i) (.ok a) := fun F0 F σ H Q R q => by
  obtain ⟨x, e, v, rfl, r⟩ := R.at h
  exact ⟨v, e, q F v H (.refl _ _) R.sF r⟩
theorem ev_ow [Rc α] {i : Nat} {a : α} (h : ρ[i]? = some (some (.ow a))) : Ev G B E .H ρ (tVar i) (.ok a) := fun F0 F σ H Q R q => by
  obtain ⟨x, e, p, o, rfl, _, _, h4, h5⟩ := R.at h
  exact ⟨_, e, q F _ H (.refl _ _) R.sF (Rc.fz h4 (Rc.mono R.sF h5))⟩
theorem ev_int {i : Int} : Ev G B E md ρ (tC (.int i)) (.ok i) := fun F0 F σ H Q R q => q F _ H (.refl _ _) R.sF rfl
theorem ev_bl {i : Bool} : Ev G B E md ρ (tC (.bl i)) (.ok i) := fun F0 F σ H Q R q => q F _ H (.refl _ _) R.sF rfl
theorem ev_str {i : Str} : Ev G B E md ρ (tC (.str i)) (.ok i) := fun F0 F σ H Q R q => q F _ H (.refl _ _) R.sF rfl
/-- a thing where None might stand -/
class NoN (α : Type) [Rp α] : Prop where
  no : ∀ {G : Gb} {H : Hp} {v : V} {a : α}, rep G H v a → v ≠ .non
instance : NoN Int := ⟨fun h e => by rw [show _ = _ from h] at e; cases e⟩
instance : NoN Str := ⟨fun h e => by rw [show _ = _ from h] at e; cases e⟩
instance : NoN Bool := ⟨fun h e => by rw [show _ = _ from h] at e; cases e⟩
instance : NoN (List α) := ⟨fun ⟨p, vs, e, _⟩ z => by rw [e] at z; cases z⟩
instance : NoN (α × β) := ⟨fun ⟨p, v, w, e, _⟩ z => by rw [e] at z; cases z⟩
theorem Ev.some [NoN α] {te : TE} {m : M α} (h : Ev G B E md ρ te m) : Ev G B E md ρ te (m.b fun a => .ok (some a)) := fun F0 F σ H Q R q =>
  h F0 F σ H Q R ((M.P_b.mp q).imp (fun a k F' v H' e s r => k F' v H' e s ⟨r, NoN.no r⟩) fun _ x => x)
theorem ev_rI0 [Sc β] {f : Int → Int → V} {g : Int → Int → β} (hf : ∀ i j, f i j = Sc.enc (g i j)) {ta tb : TE} {ma mb : M Int} (ha : Ev G B E md ρ ta ma) (hb : Ev G B E md' ρ tb mb) {mr : Md} :
    Ev G B E mr ρ (tOp (rI0 f) ta tb) (ma.b fun i => mb.b fun j => .ok (g i j)) := fun F0 F σ H Q R q =>
  ha.go R q fun i F1 v H1 e1 r1 R1 q => hb.go R1 q fun j F2 w H2 e2 r2 R2 q => ⟨i, j, r1, r2, q F2 _ H2 (e1.trans e2) R2.sF ((Sc.iff _ _ _ _).mpr (hf i j))⟩
theorem ev_rI [Sc β] {C : Int → Int → Prop} {f : Int → Int → V} {g : Int → Int → β} (hf : ∀ i j, f i j = Sc.enc (g i j)) {ta tb : TE} {ma mb : M Int} (ha : Ev G B E md ρ ta ma) (hb : Ev G B E md' ρ tb mb) {mr : Md} :
    Ev G B E mr ρ (tOp (rI C f) ta tb) (ma.b fun i => mb.b fun j => .chk (C i j) (.ok (g i j))) := fun F0 F σ H Q R q =>
  ha.go R q fun i F1 v H1 e1 r1 R1 q => hb.go R1 q fun j F2 w H2 e2 r2 R2 q => by
    obtain ⟨c, q⟩ := M.P_chk.mp q
    exact ⟨i, j, r1, r2, c, q F2 _ H2 (e1.trans e2) R2.sF ((Sc.iff _ _ _ _).mpr (hf i j))⟩
section
variable {ta tb : TE} {ma mb : M Int} (ha : Ev G B E md ρ ta ma) (hb : Ev G B E md' ρ tb mb) {mr : Md}
include ha hb
theorem ev_add : Ev G B E mr ρ (tOp qAdd ta tb) (ma.b fun i => mb.b fun j => .ok (i + j)) := ev_rI0 (fun _ _ => rfl) ha hb
theorem ev_lt : Ev G B E mr ρ (tOp qLt ta tb) (ma.b fun i => mb.b fun j => .ok (decide (i < j))) := ev_rI0 (fun _ _ => rfl) ha hb
theorem ev_gt : Ev G B E mr ρ (tOp qGt ta tb) (ma.b fun i => mb.b fun j => .ok (decide (j < i))) := ev_rI0 (fun _ _ => rfl) ha hb
theorem ev_mul : Ev G B E mr ρ (tOp qMul ta tb) (ma.b fun i => mb.b fun j => .chk (CMulW i j) (.ok (i * j))) := ev_rI (fun _ _ => rfl) ha hb
theorem ev_mulK : Ev G B E mr ρ (tOp qMulK ta tb) (ma.b fun i => mb.b fun j => .chk (CMulK i j) (.ok (i * j))) := ev_rI (fun _ _ => rfl) ha hb
theorem ev_div : Ev G B E mr ρ (tOp qDiv ta tb) (ma.b fun i => mb.b fun j => .chk (CDivW i j) (.ok (i / j))) := ev_rI (fun _ _ => rfl) ha hb
theorem ev_mod : Ev G B E mr ρ (tOp qMod ta tb) (ma.b fun i => mb.b fun j => .chk (CPos i j) (.ok (i % j))) := ev_rI (fun _ _ => rfl) ha hb
theorem ev_pow : Ev G B E mr ρ (tOp qPow ta tb) (ma.b fun i => mb.b fun j => .chk (CPow i j) (.ok (i ^ j.toNat))) := ev_rI (fun _ _ => rfl) ha hb
end
end
end Tw
set_option Elab.async false
set_option linter.all false
set_option maxRecDepth 100000
set_option maxHeartbeats 4000000
namespace Tw
open PySem PySem.Spec L2 TL
open PyProof.Rows hiding St
class Dd (α : Type) [Rp α] [DecidableEq α] where
  dat : α → PyData
  dp : ∀ {G : Gb} {H : Hp} {v : V} {a : α}, rep G H v a → Dp G.K H v (dat a)
  eq : ∀ a b : α, PyData.eqv (dat a) (dat b) = decide (a = b)
  Ok : α → Prop
  lay : ∀ {a : α}, Ok a → PyData.canLay0 (dat a) = true
  n : Nat
  dep : ∀ a : α, PyData.depth (dat a) ≤ n
theorem Dd.shaped {α : Type} [Rp α] [DecidableEq α] [Dd α] {a : α} (h : Dd.Ok a) (hn : Dd.n α ≤ 64) : SeqAt.shaped (Dd.dat a) = true := by
  unfold SeqAt.shaped
  rw [Dd.lay h, Bool.true_and]
  exact decide_eq_true (Nat.le_trans (Dd.dep a) hn)
instance : Dd Int := ⟨.int, fun h => by rw [show _ = _ from h]; exact .int _, fun a b => by rw [PyData.eqv]; exact Bool.eq_iff_iff.mpr (by simp), fun _ => True, fun _ => by rw [PyData.canLay0], 0, fun a => by rw [PyData.depth]; exact Nat.le_refl _⟩
instance : Dd Bool := ⟨.bool, fun h => by rw [show _ = _ from h]; exact .bl _, fun a b => by rw [PyData.eqv]; exact Bool.eq_iff_iff.mpr (by simp), fun _ => True, fun _ => by rw [PyData.canLay0], 0, fun a => by rw [PyData.depth]; exact Nat.le_refl _⟩
instance : Dd Str := ⟨.str, fun h => by rw [show _ = _ from h]; exact .str _, fun a b => by rw [PyData.eqv]; exact Bool.eq_iff_iff.mpr (by simp), fun a => PyData.strOk a = true, fun h => by rw [PyData.canLay0]; exact h, 0, fun a => by rw [PyData.depth]; exact Nat.le_refl _⟩
section
variable {α β γ δ : Type} [Rp α] [Rp β] [Rp γ] [Rp δ] [DecidableEq α] [DecidableEq β] [DecidableEq γ] [DecidableEq δ] [Dd α] [Dd β] [Dd γ] [Dd δ]
theorem dd_dpAll {G : Gb} {H : Hp} : ∀ {vs : List V} {as : List α}, reps G H vs as → DpAll G.K H vs (as.map Dd.dat)
  | _, _, .nil => .nil
  | _, _, .cons h t => .cons (Dd.dp h) (dd_dpAll t)
theorem dd_eqAll : ∀ as bs : List α, PyData.eqvAll (as.map Dd.dat) (bs.map Dd.dat) = decide (as = bs)
  | [], [] => by simp [PyData.eqvAll]
  | [], u :: r => by simp [PyData.eqvAll]
  | t :: r, [] => by simp [PyData.eqvAll]
  | t :: r, u :: q => by
    rw [List.map_cons, List.map_cons, PyData.eqvAll, Dd.eq, dd_eqAll r q]
    by_cases e : t = u
    · subst e
      by_cases e2 : r = q
      · subst e2; simp
      · simp [e2]
    · simp [e]
theorem dd_layAll : ∀ {as : List α}, (∀ a ∈ as, Dd.Ok a) → PyData.canLayAll0 (as.map Dd.dat) = true
  | [], _ => by simp [PyData.canLayAll0]
  | t :: r, h => by
    rw [List.map_cons, PyData.canLayAll0, Dd.lay (h t List.mem_cons_self), dd_layAll fun x hx => h x (List.mem_cons_of_mem _ hx)]
    rfl
theorem dd_depAll : ∀ as : List α, PyData.depthAll (as.map Dd.dat) ≤ Dd.n α
  | [] => by simp [PyData.depthAll]
  | t :: r => by
    rw [List.map_cons, PyData.depthAll]
    exact Nat.max_le.mpr ⟨Dd.dep t, dd_depAll r⟩
instance : Dd (List α) where
  dat a := .list (a.map Dd.dat)
  dp := fun ⟨p, vs, e, h, r⟩ => by rw [e]; exact .lst (.of h) (dd_dpAll r)
  eq := fun a b => by rw [PyData.eqv]; exact dd_eqAll a b
  Ok := fun a => ∀ x ∈ a, Dd.Ok x
  lay := fun h => by rw [PyData.canLay0]; exact dd_layAll h
  n := Dd.n α + 1
  dep := fun a => by rw [PyData.depth]; exact Nat.succ_le_succ (dd_depAll a)
instance : Dd (α × β) where
  dat a := .tuple [Dd.dat a.1, Dd.dat a.2]
  dp := fun ⟨p, v, w, e, h, r1, r2⟩ => by rw [e]; exact .tup (.of h) (.cons (Dd.dp r1) (.cons (Dd.dp r2) .nil))
  eq := fun a b => by
    rw [PyData.eqv, PyData.eqvAll, PyData.eqvAll, PyData.eqvAll, Dd.eq, Dd.eq]
    obtain ⟨a1, a2⟩ := a
    obtain ⟨b1, b2⟩ := b
    by_cases h1 : a1 = b1 <;> by_cases h2 : a2 = b2 <;> simp [h1, h2]
  Ok := fun a => Dd.Ok a.1 ∧ Dd.Ok a.2
  lay := fun h => by rw [PyData.canLay0, PyData.canLayAll0, PyData.canLayAll0, PyData.canLayAll0, Dd.lay h.1, Dd.lay h.2]; rfl
  n := max (Dd.n α) (Dd.n β) + 1
  dep := fun a => by
    rw [PyData.depth, PyData.depthAll, PyData.depthAll, PyData.depthAll]
    have := Dd.dep a.1
    have := Dd.dep a.2
    omega
instance : Dd (T3 α β γ) where
  dat a := .tuple [Dd.dat a.a, Dd.dat a.b, Dd.dat a.c]
  dp := fun ⟨p, v, w, u, e, h, r1, r2, r3⟩ => by rw [e]; exact .tup (.of h) (.cons (Dd.dp r1) (.cons (Dd.dp r2) (.cons (Dd.dp r3) .nil)))
  eq := fun a b => by
    rw [PyData.eqv, PyData.eqvAll, PyData.eqvAll, PyData.eqvAll, PyData.eqvAll, Dd.eq, Dd.eq, Dd.eq]
    obtain ⟨a1, a2, a3⟩ := a
    obtain ⟨b1, b2, b3⟩ := b
    by_cases h1 : a1 = b1 <;> by_cases h2 : a2 = b2 <;> by_cases h3 : a3 = b3 <;> simp [h1, h2, h3]
  Ok := fun a => Dd.Ok a.a ∧ Dd.Ok a.b ∧ Dd.Ok a.c
  lay := fun h => by rw [PyData.canLay0, PyData.canLayAll0, PyData.canLayAll0, PyData.canLayAll0, PyData.canLayAll0, Dd.lay h.1, Dd.lay h.2.1, Dd.lay h.2.2]; rfl
  n := max (Dd.n α) (max (Dd.n β) (Dd.n γ)) + 1
  dep := fun a => by
    rw [PyData.depth, PyData.depthAll, PyData.depthAll, PyData.depthAll, PyData.depthAll]
    have := Dd.dep a.a
    have := Dd.dep a.b
    have := Dd.dep a.c
    omega
end
/-- the scalars that == and in tell apart -/
class Sq (α : Type) [Rp α] [DecidableEq α] [Sc α] : Prop where
  sc : ∀ a b : α, scal (Sc.enc a) (Sc.enc b) = true
  inj : ∀ a b : α, (Sc.enc a = Sc.enc b) ↔ a = b
  fl : ∀ a : α, flatV (Sc.enc a) = true
  eqv : ∀ a b : α, eqV (Sc.enc a) (Sc.enc b) = decide (a = b)
instance : Sq Int := ⟨fun _ _ => rfl, fun _ _ => ⟨fun h => V.int.inj h, fun h => by rw [h]⟩, fun _ => rfl, fun a b => by show (a == b) = _; exact Bool.eq_iff_iff.mpr (by simp)⟩
instance : Sq Bool := ⟨fun _ _ => rfl, fun _ _ => ⟨fun h => V.bl.inj h, fun h => by rw [h]⟩, fun _ => rfl, fun a b => by show (a == b) = _; exact Bool.eq_iff_iff.mpr (by simp)⟩
instance : Sq Str := ⟨fun _ _ => rfl, fun _ _ => ⟨fun h => V.str.inj h, fun h => by rw [h]⟩, fun _ => rfl, fun a b => by show (a == b) = _; exact Bool.eq_iff_iff.mpr (by simp)⟩
/-- one sign of a text -/
structure Sgn where
  c : Nat
deriving DecidableEq
def Sgn.s (a : Sgn) : Str := ⟨#[a.c]⟩
instance : Rp Sgn := ⟨fun _ _ v a => v = .str a.s, fun _ h => h⟩
instance : Sc Sgn := ⟨fun a => .str a.s, fun _ _ _ _ => Iff.rfl⟩
section
variable {G : Gb} {B : Hp} {E : XK} {ρ : Evr} {α β γ δ : Type} [Rp α] [Rp β] [Rp γ] [Rp δ] {md md' mr : Md} {ta tb tc te : TE}
theorem ev_eq [DecidableEq α] [Sc α] [Sq α] {ma mb : M α} (ha : Ev G B E md ρ ta ma) (hb : Ev G B E md' ρ tb mb) : Ev G B E mr ρ (tOp rEq ta tb) (ma.b fun i => mb.b fun j => .ok (decide (i = j))) := fun F0 F σ H Q R q =>
  ha.go R q fun i F1 v H1 e1 r1 R1 q => hb.go R1 q fun j F2 w H2 e2 r2 R2 q => by
    rw [(Sc.iff _ _ _ _).mp r1, (Sc.iff _ _ _ _).mp r2]
    refine ⟨Sq.sc i j, ?_⟩
    rw [show decide ((Sc.enc i : V) = Sc.enc j) = decide (i = j) from Bool.eq_iff_iff.mpr (by rw [decide_eq_true_iff, decide_eq_true_iff]; exact Sq.inj i j)]
    exact q F2 _ H2 (e1.trans e2) R2.sF rfl
theorem ev_ne [DecidableEq α] [Sc α] [Sq α] {ma mb : M α} (ha : Ev G B E md ρ ta ma) (hb : Ev G B E md' ρ tb mb) : Ev G B E mr ρ (tOp rNe ta tb) (ma.b fun i => mb.b fun j => .ok (!decide (i = j))) := fun F0 F σ H Q R q =>
  ha.go R q fun i F1 v H1 e1 r1 R1 q => hb.go R1 q fun j F2 w H2 e2 r2 R2 q => by
    rw [(Sc.iff _ _ _ _).mp r1, (Sc.iff _ _ _ _).mp r2]
    refine ⟨Sq.sc i j, ?_⟩
    rw [show decide ((Sc.enc i : V) = Sc.enc j) = decide (i = j) from Bool.eq_iff_iff.mpr (by rw [decide_eq_true_iff, decide_eq_true_iff]; exact Sq.inj i j)]
    exact q F2 _ H2 (e1.trans e2) R2.sF rfl
theorem ev_eqD [DecidableEq α] [Dd α] {ma mb : M α} (hn : Dd.n α ≤ 64) (ha : Ev G B E md ρ ta ma) (hb : Ev G B E md' ρ tb mb) : Ev G B E mr ρ (tOp (rEqD G.K) ta tb) (ma.b fun i => mb.b fun j => .chk (Dd.Ok i ∧ Dd.Ok j) (.ok (decide (i = j)))) := fun F0 F σ H Q R q =>
  ha.toH.go R q fun i F1 v H1 e1 r1 R1 q => hb.toH.go R1 q fun j F2 w H2 e2 r2 R2 q => by
    obtain ⟨c, q⟩ := M.P_chk.mp q
    refine ⟨_, _, Dd.dp (Rp.mono e2.h r1), Dd.dp r2, Dd.shaped c.1 hn, Dd.shaped c.2 hn, ?_⟩
    rw [Dd.eq]
    exact q F2 _ H2 (e1.trans e2) R2.sF rfl
theorem ev_neD [DecidableEq α] [Dd α] {ma mb : M α} (hn : Dd.n α ≤ 64) (ha : Ev G B E md ρ ta ma) (hb : Ev G B E md' ρ tb mb) : Ev G B E mr ρ (tOp (rNeD G.K) ta tb) (ma.b fun i => mb.b fun j => .chk (Dd.Ok i ∧ Dd.Ok j) (.ok (!decide (i = j)))) := fun F0 F σ H Q R q =>
  ha.toH.go R q fun i F1 v H1 e1 r1 R1 q => hb.toH.go R1 q fun j F2 w H2 e2 r2 R2 q => by
    obtain ⟨c, q⟩ := M.P_chk.mp q
    refine ⟨_, _, Dd.dp (Rp.mono e2.h r1), Dd.dp r2, Dd.shaped c.1 hn, Dd.shaped c.2 hn, ?_⟩
    rw [Dd.eq]
    exact q F2 _ H2 (e1.trans e2) R2.sF rfl
/-- what is no None -/
theorem Ev.val {m : M (Option α)} (ha : Ev G B E md ρ ta m) : Ev G B E md ρ ta (m.b M.get) := fun F0 F σ H Q R q =>
  ha.go R q fun o F1 v H1 e1 r1 R1 q => by
    obtain ⟨a, rfl, q⟩ := M.P_get.mp q
    exact q F1 v H1 e1 R1.sF r1.1
theorem evT_B {m : M Bool} (h : Ev G B E md ρ te m) : EvT G B E ρ (tB te) m := fun F0 F σ H Q R q => h F0 F σ H _ R (q.imp (fun a k F' v H' e s r => ⟨a, r, k F' H' e s⟩) fun _ x => x)
theorem evT_T {m : M Bool} (h : Ev G B E md ρ te m) : EvT G B E ρ (tTest te) m := fun F0 F σ H Q R q => h F0 F σ H _ R (q.imp (fun a k F' v H' e s r => ⟨a, r, k F' H' e s⟩) fun _ x => x)
theorem evT_and {t u : TT} {m n : M Bool} (h : EvT G B E ρ t m) (k : EvT G B E ρ u n) : EvT G B E ρ (tAnd t u) (m.b fun c => if c = true then n else .ok false) := fun F0 F σ H Q R q => h.go R q fun a F' H' e R' q => by
  cases a with
  | true => exact k F0 F' σ H' Q R' (M.P.imp q (fun b f F2 H2 e2 s2 => f F2 H2 (e.trans e2) s2) fun _ x => x)
  | false => exact q F' H' e R'.sF
theorem evT_or {t u : TT} {m n : M Bool} (h : EvT G B E ρ t m) (k : EvT G B E ρ u n) : EvT G B E ρ (tOr t u) (m.b fun c => if c = true then .ok true else n) := fun F0 F σ H Q R q => h.go R q fun a F' H' e R' q => by
  cases a with
  | true => exact q F' H' e R'.sF
  | false => exact k F0 F' σ H' Q R' (M.P.imp q (fun b f F2 H2 e2 s2 => f F2 H2 (e.trans e2) s2) fun _ x => x)
theorem evT_yes : EvT G B E ρ tYes (.ok true) := fun F0 F σ H Q R q => q F H (.refl _ _) R.sF
theorem ev_andV {m n : M Bool} (h : Ev G B E md ρ ta m) (k : Ev G B E md' ρ tb n) : Ev G B E mr ρ (tAndV ta tb) (m.b fun c => if c = true then n else .ok false) := fun F0 F σ H Q R q => h.go R q fun a F' v H' e r R' q => by
  refine ⟨a, r, ?_⟩
  cases a with
  | true => exact k.sc F0 F' σ H' Q R' (M.P.imp q (fun b f F2 v2 H2 e2 s2 => f F2 v2 H2 (e.trans e2) s2) fun _ x => x)
  | false => exact q F' _ H' e R'.sF rfl
end
end Tw
set_option Elab.async false
set_option linter.all false
set_option maxRecDepth 100000
set_option maxHeartbeats 4000000
namespace Tw
open PySem PySem.Spec L2 TL
open PyProof.Rows hiding St
theorem atI_all2 {α β : Type} {R : α → β → Prop} {l : List α} {m : List β} {i : Int} {b : β} (h : All2 R l m) (e : atI m i = some b) : ∃ a, atI l i = some a ∧ R a b := by
  unfold atI at e ⊢
  rw [h.len]
  cases q : ixN m.length i with
  | none => rw [q] at e; cases e
  | some j => rw [q] at e; exact h.get' e
theorem atI_map {α β : Type} (f : α → β) (l : List α) (i : Int) : atI (l.map f) i = (atI l i).map f := by
  unfold atI
  rw [List.length_map]
  cases ixN l.length i with
  | none => rfl
  | some j => exact List.getElem?_map ..
def cutL {α : Type} (xs : List α) (lo hi : Option Int) : List α := (xs.drop (HT.sIx xs.length 0 lo)).take (HT.sIx xs.length xs.length hi - HT.sIx xs.length 0 lo)
theorem cut_all2 {β : Type} {R : V → β → Prop} {l : List V} {m : List β} {lo hi : Option Int} (h : All2 R l m) : All2 R (cutV l lo hi) (cutL m lo hi) := by
  unfold cutV cutL
  rw [h.len]
  exact (h.drop _).take _
section
variable (G : Gb) (B : Hp) (E : XK) {α : Type} [Rp α]
/-- a list whose items are frozen -/
def EvS (ρ : Evr) (te : TE) (m : M (List α)) : Prop := ∀ (F0 F : Hp) (σ : L2.St) (H : Hp) (Q : VK), Rel G B F0 F ρ σ H →
  m.P (fun a => ∀ (F' : Hp) (p : Addr) (vs : List V) (H' : Hp), Ext F H F' H' → Same F' H' → H' p = some (.lst vs) → reps G F' vs a → Q (.ref p) H') (Xc G B E) → te σ H Q
/-- a part of a slice -/
def EvO (ρ : Evr) (to : TO) (m : M (Option Int)) : Prop := ∀ (F0 F : Hp) (σ : L2.St) (H : Hp) (Q : Option Int → Hp → Prop), Rel G B F0 F ρ σ H →
  m.P (fun a => ∀ (F' H' : Hp), Ext F H F' H' → Same F' H' → Q a H') (Xc G B E) → to σ H Q
/-- items, all frozen -/
def EvL (ρ : Evr) (ta : TA) (m : M (List α)) : Prop := ∀ (F0 F : Hp) (σ : L2.St) (H : Hp) (Q : List V → Hp → Prop), Rel G B F0 F ρ σ H →
  m.P (fun a => ∀ (F' : Hp) (vs : List V) (H' : Hp), Ext F H F' H' → Same F' H' → reps G F' vs a → Q vs H') (Xc G B E) → ta σ H Q
end
section
variable {G : Gb} {B : Hp} {E : XK} {ρ : Evr} {α β γ δ : Type} [Rp α] [Rp β] [Rp γ] [Rp δ] {md md' mr : Md} {ta tb tc te : TE}
theorem EvS.go {ω : Type} {m : M (List α)} {k : List α → M ω} {p : ω → Prop} {F0 F : Hp} {σ : L2.St} {H : Hp} {Q : VK} (h : EvS G B E ρ te m) (R : Rel G B F0 F ρ σ H) (q : (m.b k).P p (Xc G B E))
    (f : ∀ (a : List α) (F' : Hp) (d : Addr) (vs : List V) (H' : Hp), Ext F H F' H' → H' d = some (.lst vs) → reps G F' vs a → Rel G B F0 F' ρ σ H' → (k a).P p (Xc G B E) → Q (.ref d) H') : te σ H Q :=
  h F0 F σ H Q R ((M.P_b.mp q).imp (fun a k F' d vs H' e s h1 h2 => f a F' d vs H' e h1 h2 (R.ext e s) k) fun _ x => x)
theorem EvO.go {ω : Type} {t : TO} {m : M (Option Int)} {k : Option Int → M ω} {p : ω → Prop} {F0 F : Hp} {σ : L2.St} {H : Hp} {Q : Option Int → Hp → Prop} (h : EvO G B E ρ t m) (R : Rel G B F0 F ρ σ H) (q : (m.b k).P p (Xc G B E))
    (f : ∀ (a : Option Int) (F' H' : Hp), Ext F H F' H' → Rel G B F0 F' ρ σ H' → (k a).P p (Xc G B E) → Q a H') : t σ H Q :=
  h F0 F σ H Q R ((M.P_b.mp q).imp (fun a k F' H' e s => f a F' H' e (R.ext e s) k) fun _ x => x)
theorem EvL.go {ω : Type} {t : TA} {m : M (List α)} {k : List α → M ω} {p : ω → Prop} {F0 F : Hp} {σ : L2.St} {H : Hp} {Q : List V → Hp → Prop} (h : EvL G B E ρ t m) (R : Rel G B F0 F ρ σ H) (q : (m.b k).P p (Xc G B E))
    (f : ∀ (a : List α) (F' : Hp) (vs : List V) (H' : Hp), Ext F H F' H' → reps G F' vs a → Rel G B F0 F' ρ σ H' → (k a).P p (Xc G B E) → Q vs H') : t σ H Q :=
  h F0 F σ H Q R ((M.P_b.mp q).imp (fun a k F' vs H' e s r => f a F' vs H' e r (R.ext e s) k) fun _ x => x)
theorem es_F {m : M (List α)} (h : Ev G B E .F ρ te m) : EvS G B E ρ te m := fun F0 F σ H Q R q => h F0 F σ H Q R (q.imp (fun a k F' v H' e s r => by
  obtain ⟨p, vs, rfl, h1, h2⟩ := r
  exact k F' p vs H' e s (s _ _ h1) h2) fun _ x => x)
theorem es_N {m : M (List α)} (h : EvN G B E ρ te m) : EvS G B E ρ te m := fun F0 F σ H Q R q => h F0 F σ H Q R (q.imp (fun a k F' p o H' e s h1 h2 h3 h4 => by
  obtain ⟨vs, rfl, h4⟩ := h4
  exact k F' p vs H' e s h3 h4) fun _ x => x)
theorem es_ow {i : Nat} {a : List α} (h : ρ[i]? = some (some (.ow a))) : EvS G B E ρ (tVar i) (.ok a) := fun F0 F σ H Q R q => by
  obtain ⟨x, e, p, o, rfl, _, _, h4, vs, rfl, h5⟩ := R.at h
  exact ⟨_, e, q F p vs H (.refl _ _) R.sF h4 h5⟩
theorem es_sc [Sc α] {m : M (List α)} (h : Ev G B E md ρ te m) : EvS G B E ρ te m := fun F0 F σ H Q R q => h.toH F0 F σ H Q R (q.imp (fun a k F' v H' e s r => by
  obtain ⟨p, vs, rfl, h1, h2⟩ := r
  exact k F' p vs H' e s h1 (h2.imp fun _ _ z => (Sc.iff _ _ _ _).mpr ((Sc.iff _ _ _ _).mp z))) fun _ x => x)
theorem in_all2 [DecidableEq α] [Sc α] [Sq α] {H : Hp} (a : α) : ∀ {vs : List V} {as : List α}, reps G H vs as → vs.all flatV = true ∧ inV (Sc.enc a) vs = decide (a ∈ as)
  | _, _, .nil => ⟨rfl, by rw [decide_eq_false (by simp)]; rfl⟩
  | _, _, .cons (b := b) (m := m) h t => by
    obtain ⟨h1, h2⟩ := in_all2 a t
    rw [(Sc.iff _ _ _ _).mp h]
    refine ⟨?_, ?_⟩
    · rw [List.all_cons, Sq.fl, h1]; rfl
    · unfold inV at h2 ⊢
      rw [List.any_cons, h2, Sq.eqv]
      by_cases e : b = a
      · subst e; simp
      · by_cases e2 : a ∈ m
        · simp [e2]
        · have : ¬ a ∈ b :: m := by
            intro w
            rcases List.mem_cons.mp w with w | w
            · exact e w.symm
            · exact e2 w
          simp [e, e2, this]
theorem ev_in [DecidableEq α] [Sc α] [Sq α] {ma : M α} {mb : M (List α)} (ha : Ev G B E md ρ ta ma) (hb : Ev G B E md' ρ tb mb) : Ev G B E mr ρ (tOp (rIn G.K false) ta tb) (ma.b fun a => mb.b fun l => .ok (decide (a ∈ l))) := fun F0 F σ H Q R q =>
  ha.go R q fun a F1 v H1 e1 r1 R1 q => hb.toH.go R1 q fun l F2 w H2 e2 r2 R2 q => by
    obtain ⟨p, vs, rfl, h1, h2⟩ := r2
    rw [(Sc.iff _ _ _ _).mp r1]
    obtain ⟨f1, f2⟩ := in_all2 a h2
    refine ⟨p, vs, rfl, .inl (.of h1), Sq.fl a, f1, ?_⟩
    show Q (.bl (inV _ vs)) H2
    rw [f2]
    exact q F2 _ H2 (e1.trans e2) R2.sF rfl
theorem ev_notin [DecidableEq α] [Sc α] [Sq α] {ma : M α} {mb : M (List α)} (ha : Ev G B E md ρ ta ma) (hb : Ev G B E md' ρ tb mb) : Ev G B E mr ρ (tOp (rIn G.K true) ta tb) (ma.b fun a => mb.b fun l => .ok (!decide (a ∈ l))) := fun F0 F σ H Q R q =>
  ha.go R q fun a F1 v H1 e1 r1 R1 q => hb.toH.go R1 q fun l F2 w H2 e2 r2 R2 q => by
    obtain ⟨p, vs, rfl, h1, h2⟩ := r2
    rw [(Sc.iff _ _ _ _).mp r1]
    obtain ⟨f1, f2⟩ := in_all2 a h2
    refine ⟨p, vs, rfl, .inl (.of h1), Sq.fl a, f1, ?_⟩
    show Q (.bl (!inV _ vs)) H2
    rw [f2]
    exact q F2 _ H2 (e1.trans e2) R2.sF rfl
theorem ev_ix {ma : M (List α)} {mi : M Int} (ha : Ev G B E md ρ ta ma) (hi : Ev G B E md' ρ tb mi) : Ev G B E md ρ (tOp (rIxL G.K) ta tb) (ma.b fun l => mi.b fun i => M.get (atI l i)) := fun F0 F σ H Q R q =>
  ha.go R q fun l F1 v H1 e1 r1 R1 q => hi.go R1 q fun i F2 w H2 e2 r2 R2 q => by
    obtain ⟨x, ex, q⟩ := M.P_get.mp q
    obtain ⟨p, vs, rfl, h1, h2⟩ := Rp.mono (hpM_ext e2) r1
    obtain ⟨u, eu, ru⟩ := atI_all2 h2 ex
    exact ⟨p, vs, i, u, rfl, r2, .of (hpM_H R2.sB R2.sF _ _ h1), eu, q F2 u H2 (e1.trans e2) R2.sF ru⟩
theorem ev_ixS {ma : M (List α)} {mi : M Int} (ha : EvS G B E ρ ta ma) (hi : Ev G B E md' ρ tb mi) : Ev G B E .F ρ (tOp (rIxL G.K) ta tb) (ma.b fun l => mi.b fun i => M.get (atI l i)) := fun F0 F σ H Q R q =>
  ha.go R q fun l F1 p vs H1 e1 h1 h2 R1 q => hi.go R1 q fun i F2 w H2 e2 r2 R2 q => by
    obtain ⟨x, ex, q⟩ := M.P_get.mp q
    obtain ⟨u, eu, ru⟩ := atI_all2 (reps_mono e2.f h2) ex
    exact ⟨p, vs, i, u, rfl, r2, .of (e2.h _ _ h1), eu, q F2 u H2 (e1.trans e2) R2.sF ru⟩
theorem ev_ixTp {ma : M (Tp α)} {mi : M Int} (ha : Ev G B E md ρ ta ma) (hi : Ev G B E md' ρ tb mi) : Ev G B E md ρ (tOp (rIxT G.K) ta tb) (ma.b fun l => mi.b fun i => M.get (atI l.l i)) := fun F0 F σ H Q R q =>
  ha.go R q fun l F1 v H1 e1 r1 R1 q => hi.go R1 q fun i F2 w H2 e2 r2 R2 q => by
    obtain ⟨x, ex, q⟩ := M.P_get.mp q
    obtain ⟨p, vs, rfl, h1, h2⟩ := Rp.mono (hpM_ext e2) r1
    obtain ⟨u, eu, ru⟩ := atI_all2 h2 ex
    exact ⟨p, vs, i, u, rfl, r2, .of (hpM_H R2.sB R2.sF _ _ h1), eu, q F2 u H2 (e1.trans e2) R2.sF ru⟩
theorem ev_ixScr {ma : M Scr} {mi : M Int} (ha : Ev G B E md ρ ta ma) (hi : Ev G B E md' ρ tb mi) : Ev G B E mr ρ (tOp (rIxL G.K) ta tb) (ma.b fun l => mi.b fun i => M.get (atI l.l i)) := fun F0 F σ H Q R q =>
  ha.toH.go R q fun l F1 v H1 e1 r1 R1 q => hi.go R1 q fun i F2 w H2 e2 r2 R2 q => by
    obtain ⟨x, ex, q⟩ := M.P_get.mp q
    obtain ⟨p, rfl, h1⟩ := Rp.mono e2.h r1
    exact ⟨p, _, i, .int x, rfl, r2, h1, by rw [atI_map, ex]; rfl, q F2 _ H2 (e1.trans e2) R2.sF rfl⟩
theorem ev_ixStr {ma : M Str} {mi : M Int} (ha : Ev G B E md ρ ta ma) (hi : Ev G B E md' ρ tb mi) : Ev G B E mr ρ (tOp rIxS ta tb) (ma.b fun z => mi.b fun i => .chk (z.length ≤ sizeLine) ((M.get (atI z.cps.toList i)).b fun c => .ok (⟨#[c]⟩ : Str))) := fun F0 F σ H Q R q =>
  ha.go R q fun z F1 v H1 e1 r1 R1 q => hi.go R1 q fun i F2 w H2 e2 r2 R2 q => by
    obtain ⟨hz, q⟩ := M.P_chk.mp q
    obtain ⟨c, ec, q⟩ := M.P_get.mp (M.P_b.mp q)
    exact ⟨z, i, c, r1, r2, hz, ec, q F2 _ H2 (e1.trans e2) R2.sF rfl⟩
theorem ev_p1 {m : M (α × β)} (h : Ev G B E md ρ ta m) : Ev G B E md ρ (tOp (rIxT G.K) ta (tC (.int 0))) (m.b fun a => .ok a.1) := fun F0 F σ H Q R q =>
  h.go R q fun a F1 v H1 e1 r1 R1 q => by
    obtain ⟨p, x, y, rfl, h1, h2, h3⟩ := r1
    exact ⟨p, _, 0, x, rfl, rfl, .of (hpM_H R1.sB R1.sF _ _ h1), rfl, q F1 _ H1 e1 R1.sF h2⟩
theorem ev_p2 {m : M (α × β)} (h : Ev G B E md ρ ta m) : Ev G B E md ρ (tOp (rIxT G.K) ta (tC (.int 1))) (m.b fun a => .ok a.2) := fun F0 F σ H Q R q =>
  h.go R q fun a F1 v H1 e1 r1 R1 q => by
    obtain ⟨p, x, y, rfl, h1, h2, h3⟩ := r1
    exact ⟨p, _, 1, y, rfl, rfl, .of (hpM_H R1.sB R1.sF _ _ h1), rfl, q F1 _ H1 e1 R1.sF h3⟩
section
variable {κ : Type} [Rp κ] [DecidableEq κ]
theorem valV_k [Ky κ] {H : Hp} {k : κ} : ∀ {kvs : List (Key × V)} {l : List (κ × α)}, repk G H kvs l → (∀ a, dget l k = some a → ∃ v, valV kvs (Ky.key k) = some v ∧ rep G H v a) ∧ (dget l k = none → valV kvs (Ky.key k) = none)
  | _, _, .nil => ⟨fun a e => (nomatch e), fun _ => rfl⟩
  | _, _, .cons (a := p) (b := x) (m := m) h t => by
    obtain ⟨f1, f2⟩ := valV_k (k := k) t
    by_cases e : x.1 = k
    · have e2 : p.1 = Ky.key k := by rw [h.1, e]
      have e3 : dget (x :: m) k = some x.2 := by simp [dget, List.find?_cons, e]
      rw [valV_pos e2, e3]
      exact ⟨fun a z => ⟨_, rfl, by cases z; exact h.2⟩, fun z => nomatch z⟩
    · have e2 : ¬ p.1 = Ky.key k := fun w => e (Ky.inj (h.1.symm.trans w))
      have e3 : dget (x :: m) k = dget m k := by simp [dget, List.find?_cons, e]
      rw [valV_neg e2, e3]
      exact ⟨f1, f2⟩
theorem valV_t [Kt κ] {H : Hp} {k : κ} : ∀ {kvs : List (List Key × V)} {l : List (κ × α)}, rept G H kvs l → (∀ a, dget l k = some a → ∃ v, valV kvs (Kt.key k) = some v ∧ rep G H v a) ∧ (dget l k = none → valV kvs (Kt.key k) = none)
  | _, _, .nil => ⟨fun a e => (nomatch e), fun _ => rfl⟩
  | _, _, .cons (a := p) (b := x) (m := m) h t => by
    obtain ⟨f1, f2⟩ := valV_t (k := k) t
    by_cases e : x.1 = k
    · have e2 : p.1 = Kt.key k := by rw [h.1, e]
      have e3 : dget (x :: m) k = some x.2 := by simp [dget, List.find?_cons, e]
      rw [valV_pos e2, e3]
      exact ⟨fun a z => ⟨_, rfl, by cases z; exact h.2⟩, fun z => nomatch z⟩
    · have e2 : ¬ p.1 = Kt.key k := fun w => e (Kt.inj (h.1.symm.trans w))
      have e3 : dget (x :: m) k = dget m k := by simp [dget, List.find?_cons, e]
      rw [valV_neg e2, e3]
      exact ⟨f1, f2⟩
theorem isSome_k [Ky κ] {H : Hp} {k : κ} {kvs : List (Key × V)} {l : List (κ × α)} (h : repk G H kvs l) : (valV kvs (Ky.key k)).isSome = (dget l k).isSome := by
  obtain ⟨f1, f2⟩ := valV_k (k := k) h
  cases e : dget l k with
  | none => rw [f2 e]; rfl
  | some a => obtain ⟨v, ev, _⟩ := f1 a e; rw [ev]; rfl
theorem isSome_t [Kt κ] {H : Hp} {k : κ} {kvs : List (List Key × V)} {l : List (κ × α)} (h : rept G H kvs l) : (valV kvs (Kt.key k)).isSome = (dget l k).isSome := by
  obtain ⟨f1, f2⟩ := valV_t (k := k) h
  cases e : dget l k with
  | none => rw [f2 e]; rfl
  | some a => obtain ⟨v, ev, _⟩ := f1 a e; rw [ev]; rfl
section
variable [Ky κ] {mk : M κ} {mx : M (Dk κ α)}
theorem ev_dinK (hk : Ev G B E md ρ ta mk) (hd : Ev G B E md' ρ tb mx) : Ev G B E mr ρ (tDIn ta tb) (mk.b fun k => mx.b fun d => .ok (dget d.l k).isSome) := fun F0 F σ H Q R q =>
  hk.go R q fun k F1 v H1 e1 r1 R1 q => hd.toH.go R1 q fun d F2 w H2 e2 r2 R2 q => by
    obtain ⟨p, kvs, rfl, h1, h2⟩ := r2
    refine ⟨p, _, rfl, .inl ⟨kvs, _, h1, (Ky.iff _ _ _ _).mp r1, rfl⟩, ?_⟩
    rw [isSome_k h2]
    exact q F2 _ H2 (e1.trans e2) R2.sF rfl
theorem ev_dnotinK (hk : Ev G B E md ρ ta mk) (hd : Ev G B E md' ρ tb mx) : Ev G B E mr ρ (tDNotIn ta tb) (mk.b fun k => mx.b fun d => .ok (!(dget d.l k).isSome)) := fun F0 F σ H Q R q =>
  hk.go R q fun k F1 v H1 e1 r1 R1 q => hd.toH.go R1 q fun d F2 w H2 e2 r2 R2 q => by
    obtain ⟨p, kvs, rfl, h1, h2⟩ := r2
    refine ⟨p, _, rfl, .inl ⟨kvs, _, h1, (Ky.iff _ _ _ _).mp r1, rfl⟩, ?_⟩
    rw [isSome_k h2]
    exact q F2 _ H2 (e1.trans e2) R2.sF rfl
theorem ev_dgetK (hd : Ev G B E md ρ ta mx) (hk : Ev G B E md' ρ tb mk) : Ev G B E md ρ (tDGet ta tb) (mx.b fun d => mk.b fun k => M.get (dget d.l k)) := fun F0 F σ H Q R q =>
  hd.go R q fun d F1 v H1 e1 r1 R1 q => hk.go R1 q fun k F2 w H2 e2 r2 R2 q => by
    obtain ⟨a, ea, q⟩ := M.P_get.mp q
    obtain ⟨p, kvs, rfl, h1, h2⟩ := Rp.mono (hpM_ext e2) r1
    obtain ⟨u, eu, ru⟩ := (valV_k (k := k) h2).1 a ea
    exact ⟨p, u, rfl, .inl ⟨kvs, _, rd_mono (hpM_H R2.sB R2.sF) h1, (Ky.iff _ _ _ _).mp r2, eu.symm⟩, q F2 u H2 (e1.trans e2) R2.sF ru⟩
/-- d[k] of an own dict: what it holds is frozen -/
theorem ev_dgetKo {i : Nat} {d : Dk κ α} (h : ρ[i]? = some (some (.ow d))) (hk : Ev G B E md' ρ tb mk) : Ev G B E .F ρ (tDGet (tVar i) tb) (mk.b fun k => M.get (dget d.l k)) := fun F0 F σ H Q R q => by
  obtain ⟨x, e, p, o, rfl, _, _, h4, kvs, rfl, h5⟩ := R.at h
  exact ⟨_, e, hk.go R q fun k F2 w H2 e2 r2 R2 q => by
    obtain ⟨a, ea, q⟩ := M.P_get.mp q
    obtain ⟨u, eu, ru⟩ := (valV_k (k := k) (repk_mono e2.f h5)).1 a ea
    exact ⟨p, u, rfl, .inl ⟨kvs, _, .inl (e2.h _ _ h4), (Ky.iff _ _ _ _).mp r2, eu.symm⟩, q F2 u H2 e2 R2.sF ru⟩⟩
end
section
variable [Kt κ] {mk : M κ} {mx : M (Dt κ α)}
theorem ev_dnotinT (hk : Ev G B E md ρ ta mk) (hd : Ev G B E md' ρ tb mx) : Ev G B E mr ρ (tDNotIn ta tb) (mk.b fun k => mx.b fun d => .ok (!(dget d.l k).isSome)) := fun F0 F σ H Q R q =>
  hk.toH.go R q fun k F1 v H1 e1 r1 R1 q => hd.toH.go R1 q fun d F2 w H2 e2 r2 R2 q => by
    obtain ⟨p, kvs, rfl, h1, h2⟩ := r2
    obtain ⟨b, rfl, hb⟩ := (Kt.iff _ _ _ _).mp r1
    refine ⟨p, _, rfl, .inr ⟨kvs, _, b, h1, rfl, e2.h _ _ hb, rfl⟩, ?_⟩
    rw [isSome_t h2]
    exact q F2 _ H2 (e1.trans e2) R2.sF rfl
theorem ev_dgetT (hd : Ev G B E md ρ ta mx) (hk : Ev G B E md' ρ tb mk) : Ev G B E md ρ (tDGet ta tb) (mx.b fun d => mk.b fun k => M.get (dget d.l k)) := fun F0 F σ H Q R q =>
  hd.go R q fun d F1 v H1 e1 r1 R1 q => hk.toH.go R1 q fun k F2 w H2 e2 r2 R2 q => by
    obtain ⟨a, ea, q⟩ := M.P_get.mp q
    obtain ⟨p, kvs, rfl, h1, h2⟩ := Rp.mono (hpM_ext e2) r1
    obtain ⟨b, rfl, hb⟩ := (Kt.iff _ _ _ _).mp r2
    obtain ⟨u, eu, ru⟩ := (valV_t (k := k) h2).1 a ea
    exact ⟨p, u, rfl, .inr ⟨kvs, _, b, rd_mono (hpM_H R2.sB R2.sF) h1, rfl, hb, eu.symm⟩, q F2 u H2 (e1.trans e2) R2.sF ru⟩
end
end
theorem eo_none : EvO G B E ρ tNoPart (.ok none) := fun F0 F σ H Q R q => q F H (.refl _ _) R.sF
theorem eo_some {m : M Int} (h : Ev G B E md ρ te m) : EvO G B E ρ (tPart te) (m.b fun i => .ok (some i)) := fun F0 F σ H Q R q => h.go R q fun i F1 v H1 e1 r1 R1 q => ⟨i, r1, q F1 H1 e1 R1.sF⟩
theorem en_slice {m : M (List α)} {l h : M (Option Int)} {tl th : TO} (ha : EvS G B E ρ te m) (hl : EvO G B E ρ tl l) (hh : EvO G B E ρ th h) : EvN G B E ρ (tSl (rSlL G.K) te tl th) (m.b fun xs => l.b fun i => h.b fun j => .ok (cutL xs i j)) := fun F0 F σ H Q R q =>
  ha.go R q fun xs F1 p vs H1 e1 h1 h2 R1 q => hl.go R1 q fun i F2 H2 e2 R2 q => hh.go R2 q fun j F3 H3 e3 R3 q => by
    have s := e2.h.trans e3.h
    refine ⟨p, vs, rfl, .of (s _ _ h1), fun d nd => ?_⟩
    have e := (e1.trans e2).trans e3
    exact q F3 d _ _ (e.trans (.new nd)) (R3.sF.trans (same_upd nd)) (e.h.free nd) (R3.sF.free nd) upd_same ⟨_, rfl, cut_all2 (reps_mono (e2.f.trans e3.f) h2)⟩
theorem ev_len {m : M (List α)} (ha : Ev G B E md ρ te m) : Ev G B E mr ρ (tCB (qLenQ G.K) (tCons te tNil)) (m.b fun xs => .ok ((xs.length : Nat) : Int)) := fun F0 F σ H Q R q =>
  ha.toH.go R q fun xs F1 v H1 e1 r1 R1 q => by
    obtain ⟨p, vs, rfl, h1, h2⟩ := r1
    exact ⟨p, vs, rfl, .inl (.of h1), q F1 _ H1 e1 R1.sF (by rw [h2.len]; rfl)⟩
theorem ev_lenScr {m : M Scr} (ha : Ev G B E md ρ te m) : Ev G B E mr ρ (tCB (qLenQ G.K) (tCons te tNil)) (m.b fun xs => .ok ((xs.l.length : Nat) : Int)) := fun F0 F σ H Q R q =>
  ha.toH.go R q fun xs F1 v H1 e1 r1 R1 q => by
    obtain ⟨p, rfl, h1⟩ := r1
    exact ⟨p, _, rfl, .inl h1, q F1 _ H1 e1 R1.sF (by rw [List.length_map]; rfl)⟩
theorem ev_lenDN {κ : Type} [Rp κ] [DecidableEq κ] [Ky κ] {m : M (Dk κ α)} (ha : EvN G B E ρ te m) : Ev G B E mr ρ (tCB qLenD (tCons te tNil)) (m.b fun d => .ok ((d.l.length : Nat) : Int)) := fun F0 F σ H Q R q =>
  ha.go R q fun d F1 p o H1 e1 h1 h2 h3 h4 R1 q => by
    obtain ⟨kvs, rfl, h4⟩ := h4
    exact ⟨p, kvs, rfl, h3, q F1 _ H1 e1 R1.sF (by rw [h4.len]; rfl)⟩
theorem ev_lenDo {κ : Type} [Rp κ] [DecidableEq κ] [Ky κ] {i : Nat} {d : Dk κ α} (h : ρ[i]? = some (some (.ow d))) : Ev G B E mr ρ (tCB qLenD (tCons (tVar i) tNil)) (.ok ((d.l.length : Nat) : Int)) := fun F0 F σ H Q R q => by
  obtain ⟨x, e, p, o, rfl, _, _, h4, kvs, rfl, h5⟩ := R.at h
  exact ⟨_, e, p, kvs, rfl, h4, q F _ H (.refl _ _) R.sF (by rw [h5.len]; rfl)⟩
class Tyn (α : Type) [Rp α] where
  ty : String
  h : ∀ {G : Gb} {H : Hp} {v : V} {a : α}, rep G H v a → TyX G.K H v (.type ty)
instance : Tyn Int := ⟨"int", fun h => by rw [show _ = _ from h]; exact .base (.int _)⟩
instance : Tyn Bool := ⟨"bool", fun h => by rw [show _ = _ from h]; exact .base (.bl _)⟩
instance : Tyn Str := ⟨"str", fun h => by rw [show _ = _ from h]; exact .base (.str _)⟩
instance : Tyn Unit := ⟨"NoneType", fun h => by rw [show _ = _ from h]; exact .base .non⟩
instance : Tyn (List α) := ⟨"list", fun ⟨p, vs, e, h, _⟩ => by rw [e]; exact .base (.lst h)⟩
instance : Tyn (α × β) := ⟨"tuple", fun ⟨p, v, w, e, h, _⟩ => by rw [e]; exact .base (.tup h)⟩
instance : Tyn (T3 α β γ) := ⟨"tuple", fun ⟨p, v, w, u, e, h, _⟩ => by rw [e]; exact .base (.tup h)⟩
theorem el_nil : EvL G B E ρ tNil (.ok ([] : List α)) := fun F0 F σ H Q R q => q F [] H (.refl _ _) R.sF .nil
theorem el_cons {m : M α} {n : M (List α)} {tr : TA} (h : Ev G B E .F ρ te m) (k : EvL G B E ρ tr n) : EvL G B E ρ (tCons te tr) (m.b fun a => n.b fun l => .ok (a :: l)) := fun F0 F σ H Q R q =>
  h.go R q fun a F1 v H1 e1 r1 R1 q => k.go R1 q fun l F2 vs H2 e2 r2 R2 q => q F2 _ H2 (e1.trans e2) R2.sF (.cons (Rp.mono e2.f r1) r2)
theorem en_lst {m : M (List α)} {t : TA} (h : EvL G B E ρ t m) : EvN G B E ρ (tLst t) (m.b fun l => .chk (l.length ≤ sizeLine) (.ok l)) := fun F0 F σ H Q R q =>
  h.go R q fun l F1 vs H1 e1 r1 R1 q => by
    obtain ⟨c, q⟩ := M.P_chk.mp q
    refine ⟨by rw [r1.len]; exact c, fun p np => ?_⟩
    exact q F1 p _ _ (e1.trans (.new np)) (R1.sF.trans (same_upd np)) (e1.h.free np) (R1.sF.free np) upd_same ⟨vs, rfl, r1⟩
theorem en_nil : EvN G B E ρ (tLst tNil) (.ok ([] : List α)) := fun F0 F σ H Q R q => ⟨Nat.zero_le _, fun p np => q F p _ _ (.new np) (R.sF.trans (same_upd np)) np (R.sF.free np) upd_same ⟨[], rfl, .nil⟩⟩
theorem ev_tp {m : M (List α)} {t : TA} (h : EvL G B E ρ t m) : Ev G B E .F ρ (tTup t) (m.b fun l => .chk (l.length ≤ sizeLine) (.ok (⟨l⟩ : Tp α))) := fun F0 F σ H Q R q =>
  h.go R q fun l F1 vs H1 e1 r1 R1 q => by
    obtain ⟨c, q⟩ := M.P_chk.mp q
    refine ⟨by rw [r1.len]; exact c, fun p np => ?_⟩
    exact q (upd F1 p (.tup vs)) _ _ (e1.trans (.newF R1.sF np)) (same_both R1.sF) ⟨p, vs, rfl, upd_same, reps_mono (same_upd (R1.sF.free np)) r1⟩
theorem ev_pair {m : M α} {n : M β} (h : Ev G B E .F ρ ta m) (k : Ev G B E .F ρ tb n) : Ev G B E .F ρ (tTup (tCons ta (tCons tb tNil))) (m.b fun a => n.b fun b => .ok (a, b)) := fun F0 F σ H Q R q =>
  h.go R q fun a F1 v H1 e1 r1 R1 q => k.go R1 q fun b F2 w H2 e2 r2 R2 q => ⟨show 2 ≤ sizeLine by decide, fun p np => by
    have s := same_upd (o := .tup [v, w]) (R2.sF.free np)
    exact q (upd F2 p (.tup [v, w])) _ _ ((e1.trans e2).trans (.newF R2.sF np)) (same_both R2.sF) ⟨p, v, w, rfl, upd_same, Rp.mono (e2.f.trans s) r1, Rp.mono s r2⟩⟩
theorem en_dK {κ : Type} [Rp κ] [DecidableEq κ] [Ky κ] : EvN G B E ρ tDNewK (.ok (⟨[]⟩ : Dk κ α)) := fun F0 F σ H Q R q => fun p np => q F p _ _ (.new np) (R.sF.trans (same_upd np)) np (R.sF.free np) upd_same ⟨[], rfl, .nil⟩
theorem en_dT {κ : Type} [Rp κ] [DecidableEq κ] [Kt κ] : EvN G B E ρ tDNewT (.ok (⟨[]⟩ : Dt κ α)) := fun F0 F σ H Q R q => fun p np => q F p _ _ (.new np) (R.sF.trans (same_upd np)) np (R.sF.free np) upd_same ⟨[], rfl, .nil⟩
theorem ev_catStr {m n : M Str} (h : Ev G B E md ρ ta m) (k : Ev G B E md' ρ tb n) : Ev G B E mr ρ (tOp qCatS ta tb) (m.b fun a => n.b fun b => .chk (a.length + b.length ≤ sizeLine) (.ok (a ++ b))) := fun F0 F σ H Q R q =>
  h.go R q fun a F1 v H1 e1 r1 R1 q => k.go R1 q fun b F2 w H2 e2 r2 R2 q => by
    obtain ⟨c, q⟩ := M.P_chk.mp q
    exact ⟨a, b, r1, r2, c, q F2 _ H2 (e1.trans e2) R2.sF rfl⟩
theorem ev_repStr {m : M Str} {n : M Int} (h : Ev G B E md ρ ta m) (k : Ev G B E md' ρ tb n) : Ev G B E mr ρ (tOp qRepS ta tb) (m.b fun a => n.b fun b => .chk (MulOk a b) (.ok (Txt.mul a b))) := fun F0 F σ H Q R q =>
  h.go R q fun a F1 v H1 e1 r1 R1 q => k.go R1 q fun b F2 w H2 e2 r2 R2 q => by
    obtain ⟨c, q⟩ := M.P_chk.mp q
    exact ⟨a, b, r1, r2, c, q F2 _ H2 (e1.trans e2) R2.sF rfl⟩
theorem en_cat {m n : M (List α)} (h : EvS G B E ρ ta m) (k : EvS G B E ρ tb n) : EvN G B E ρ (tOp rCat ta tb) (m.b fun a => n.b fun b => .chk (a.length + b.length ≤ sizeLine) (.ok (a ++ b))) := fun F0 F σ H Q R q =>
  h.go R q fun a F1 x vs H1 e1 h1 r1 R1 q => k.go R1 q fun b F2 y ws H2 e2 h2 r2 R2 q => by
    obtain ⟨c, q⟩ := M.P_chk.mp q
    refine ⟨x, y, vs, ws, rfl, rfl, e2.h _ _ h1, h2, by rw [r1.len, r2.len]; exact c, fun p np => ?_⟩
    have e := e1.trans e2
    exact q F2 p _ _ (e.trans (.new np)) (R2.sF.trans (same_upd np)) (e.h.free np) (R2.sF.free np) upd_same ⟨_, rfl, (reps_mono e2.f r1).app r2⟩
theorem en_listOf {m : M (List α)} (h : EvS G B E ρ te m) : EvN G B E ρ (tCB (qListOf G.K) (tCons te tNil)) (m.b fun a => .ok a) := fun F0 F σ H Q R q =>
  h.go R q fun a F1 x vs H1 e1 h1 r1 R1 q => ⟨x, vs, rfl, .inl (.of h1), fun p np =>
    q F1 p _ _ (e1.trans (.new np)) (R1.sF.trans (same_upd np)) (e1.h.free np) (R1.sF.free np) upd_same ⟨_, rfl, r1⟩⟩
theorem strs_of {H : Hp} {vs : List V} {ss : List Str} (h : reps G H vs ss) : vs = ss.map V.str := h.to_map fun _ _ q => q
theorem ev_strI {m : M Int} (h : Ev G B E md ρ te m) : Ev G B E mr ρ (tCB qStrI (tCons te tNil)) (m.b fun i => .chk (i.natAbs.log2 < 1920) (.ok (toString i : Str))) := fun F0 F σ H Q R q =>
  h.go R q fun i F1 v H1 e1 r1 R1 q => by
    obtain ⟨c, q⟩ := M.P_chk.mp q
    exact ⟨i, by rw [show v = .int i from r1], c, q F1 _ H1 e1 R1.sF rfl⟩
theorem ev_intB {m : M Bool} (h : Ev G B E md ρ te m) : Ev G B E mr ρ (tCB qInt1 (tCons te tNil)) (m.b fun k => .ok (if k = true then (1 : Int) else 0)) := fun F0 F σ H Q R q =>
  h.go R q fun i F1 v H1 e1 r1 R1 q => .inr ⟨i, by rw [show v = .bl i from r1], q F1 _ H1 e1 R1.sF rfl⟩
theorem ev_max2 {m n : M Int} (h : Ev G B E md ρ ta m) (k : Ev G B E md' ρ tb n) : Ev G B E mr ρ (tCB qMax2 (tCons ta (tCons tb tNil))) (m.b fun i => n.b fun j => .ok (if j > i then j else i)) := fun F0 F σ H Q R q =>
  h.go R q fun i F1 v H1 e1 r1 R1 q => k.go R1 q fun j F2 w H2 e2 r2 R2 q => ⟨i, j, by rw [show v = .int i from r1, show w = .int j from r2], q F2 _ H2 (e1.trans e2) R2.sF rfl⟩
end
end Tw
set_option Elab.async false
set_option linter.all false
set_option maxRecDepth 100000
set_option maxHeartbeats 4000000
namespace Tw
open PySem PySem.Spec L2 TL
open PyProof.Rows hiding St
theorem wipe_get (σ : L2.St) (j : Nat) : ∀ vs : List Nat, (wipe σ vs)[j]? = if j ∈ vs then (σ[j]?).map fun _ => none else σ[j]?
  | [] => by simp [wipe]
  | v :: vs => by
    show ((wipe σ vs).set v none)[j]? = _
    by_cases e : v = j
    · subst e
      rw [List.getElem?_set_self', wipe_get σ v vs, if_pos List.mem_cons_self]
      by_cases h : v ∈ vs
      · rw [if_pos h]
        cases σ[v]? <;> rfl
      · rw [if_neg h]
        cases σ[v]? <;> rfl
    · rw [List.getElem?_set_ne e, wipe_get σ j vs]
      by_cases h : j ∈ vs
      · rw [if_pos h, if_pos (List.mem_cons_of_mem _ h)]
      · rw [if_neg h, if_neg fun w => by
          rcases List.mem_cons.mp w with w | w
          · exact e w.symm
          · exact h w]
theorem wipe_set {σ : L2.St} {i : Nat} {x : Option V} {vs : List Nat} (h : i ∈ vs) : wipe (σ.set i x) vs = wipe σ vs := by
  refine List.ext_getElem? fun j => ?_
  rw [wipe_get, wipe_get]
  by_cases e : i = j
  · subst e
    rw [if_pos h, if_pos h, List.getElem?_set_self']
    cases σ[i]? <;> rfl
  · rw [List.getElem?_set_ne e]
theorem wipe_idem (σ : L2.St) (vs : List Nat) : wipe (wipe σ vs) vs = wipe σ vs := by
  refine List.ext_getElem? fun j => ?_
  rw [wipe_get, wipe_get]
  by_cases h : j ∈ vs
  · rw [if_pos h, if_pos h]
    cases σ[j]? <;> rfl
  · rw [if_neg h]
theorem wipe_app {σ τ υ : L2.St} {a b : List Nat} (h : wipe τ a = wipe σ a) (k : wipe υ b = wipe τ b) : wipe υ (a ++ b) = wipe σ (a ++ b) := by
  refine List.ext_getElem? fun j => ?_
  have h1 := congrArg (fun l : L2.St => l[j]?) h
  have h2 := congrArg (fun l : L2.St => l[j]?) k
  simp only [wipe_get] at h1 h2 ⊢
  have m : ∀ {x y : Option (Option V)}, x = y → (x.map fun _ => (none : Option V)) = y.map fun _ => none := fun e => by rw [e]
  by_cases ha : j ∈ a
  · rw [if_pos ha, if_pos ha] at h1
    rw [if_pos (List.mem_append_left _ ha), if_pos (List.mem_append_left _ ha)]
    by_cases hb : j ∈ b
    · rw [if_pos hb, if_pos hb] at h2
      exact h2.trans h1
    · rw [if_neg hb, if_neg hb] at h2
      exact (m h2).trans h1
  · rw [if_neg ha, if_neg ha] at h1
    by_cases hb : j ∈ b
    · rw [if_pos (List.mem_append_right _ hb), if_pos (List.mem_append_right _ hb)]
      rw [if_pos hb, if_pos hb] at h2
      exact h2.trans (m h1)
    · have hn : ¬ j ∈ a ++ b := fun w => (List.mem_append.mp w).elim ha hb
      rw [if_neg hn, if_neg hn]
      rw [if_neg hb, if_neg hb] at h2
      exact h2.trans h1
/-- the comprehension's own names are forgotten -/
def wipeE (ρ : Evr) : List Nat → Evr
  | [] => ρ
  | v :: vs => (wipeE ρ vs).set v none
theorem Rel.unset {G : Gb} {B F0 F H : Hp} {ρ : Evr} {σ : L2.St} (R : Rel G B F0 F ρ σ H) (i : Nat) (x : Option V) : Rel G B F0 F (ρ.set i none) (σ.set i x) H := R.setv trivial fun b f => nomatch f
theorem Rel.wipe {G : Gb} {B F0 F H : Hp} {ρ : Evr} {σ : L2.St} (R : Rel G B F0 F ρ σ H) : ∀ vs : List Nat, Rel G B F0 F (wipeE ρ vs) (L2.wipe σ vs) H
  | [] => R
  | v :: vs => (R.wipe vs).unset v none
/-- a thing beside is changed -/
theorem Rel.side {G : Gb} {B F0 F H : Hp} {ρ : Evr} {σ : L2.St} {p : Addr} {o : HO} (R : Rel G B F0 F ρ σ H) (hB : B p = none) (hF : F p = none) (hn : ∀ (j : Nat) (s : Option Slot) (x : Option V), ρ[j]? = some s → σ[j]? = some x → ¬ Fp H s x p) : Rel G B F0 F ρ σ (upd H p o) where
  sB := same_updR R.sB hB
  sF := same_updR R.sF hF
  s0 := R.s0
  nw := R.nw
  len := R.len
  sl := fun j t x ht hx => (R.sl j t x ht hx).frame (.refl _) (fun b u f e => by rw [upd_ne (fun z => hn j t x ht hx (by rw [← z]; exact f))]; exact e) fun b f => (Fp.at (R.sl j t x ht hx) f).2.2
  ds := fun i j s t x y b hi hx hj hy f g => R.ds i j s t x y b hi hx hj hy (Fp.lift (R.sl i s x hi hx) (fun b u f e => by rw [upd_ne (fun z => hn i s x hi hx (by rw [← z]; exact f))]; exact e) f) (Fp.lift (R.sl j t y hj hy) (fun b u f e => by rw [upd_ne (fun z => hn j t y hj hy (by rw [← z]; exact f))]; exact e) g)
section
variable (G : Gb) (B : Hp) (E : XK) {α : Type} [Rp α]
/-- a target binds a thing -/
def Tgt (md : Md) (g : TG) (ts : List Nat) (bind : α → Evr → Evr) : Prop := ∀ (F0 F : Hp) (ρ : Evr) (σ : L2.St) (H : Hp) (v : V) (x : α) (Qt : L2.St → Hp → Prop), Rel G B F0 F ρ σ H → rep G (hpM md F B H) v x →
  (∀ σ', wipe σ' ts = wipe σ ts → Rel G B F0 F (bind x ρ) σ' H → Qt σ' H) → g v σ H Qt
/-- a walk, turn by turn -/
def Walk {α : Type} (W : Hp → Hp → Prop) (J : It) (g : TG) (ts : List Nat) (bind : α → Evr → Evr) (xs : List α) : Prop := ∀ (i : Nat) (F0 F : Hp) (ρ : Evr) (σ : L2.St) (H : Hp), W F H → Rel G B F0 F ρ σ H →
  (xs.length ≤ i → J.stop i H) ∧ ∀ x, xs[i]? = some x → J.go i H ∧ ∀ v H', J.yld i H v H' → ∀ Qt : L2.St → Hp → Prop,
    (∀ F' σ' H2, Ext F H F' H2 → wipe σ' ts = wipe σ ts → Rel G B F0 F' (bind x ρ) σ' H2 → Qt σ' H2) → g v σ H' Qt
def EvW {α : Type} (per : Bool) (ρ : Evr) (wi : TI) (g : TG) (ts : List Nat) (bind : α → Evr → Evr) (m : M (List α)) : Prop := ∀ (F0 F : Hp) (σ : L2.St) (H : Hp) (R : It → Hp → Prop), Rel G B F0 F ρ σ H →
  m.P (fun xs => ∀ (F' H' : Hp) (J : It), Ext F H F' H' → Same F' H' → Walk G B (fun F2 H2 => Same F' F2 ∧ (per = false → Same H' H2)) J g ts bind xs → R J H') (Xc G B E) → wi σ H R
end
section
variable {G : Gb} {B : Hp} {E : XK} {ρ : Evr} {α β γ δ : Type} [Rp α] [Rp β] [Rp γ] [Rp δ] {md md' mr : Md} {ta tb tc te : TE} {g g1 g2 g3 g4 : TG} {ts t1 t2 t3 t4 : List Nat} {bind : α → Evr → Evr}
theorem tg_F {i : Nat} : Tgt (α := α) G B .F (gName i) [i] (fun x ρ => ρ.set i (some (.fz x))) := fun F0 F ρ σ H v x Qt R r k => k _ (wipe_set List.mem_cons_self) (R.put ⟨v, rfl, r⟩ rfl)
theorem tg_B {i : Nat} : Tgt (α := α) G B .B (gName i) [i] (fun x ρ => ρ.set i (some (.bw x))) := fun F0 F ρ σ H v x Qt R r k => k _ (wipe_set List.mem_cons_self) (R.put ⟨v, rfl, r⟩ rfl)
theorem tg_S [Sc α] {i : Nat} : Tgt (α := α) G B md (gName i) [i] (fun x ρ => ρ.set i (some (.fz x))) := fun F0 F ρ σ H v x Qt R r k => k _ (wipe_set List.mem_cons_self) (R.put ⟨v, rfl, (Sc.iff _ _ _ _).mpr ((Sc.iff _ _ _ _).mp r)⟩ rfl)
theorem tg_pair {b1 : α → Evr → Evr} {b2 : β → Evr → Evr} (h1 : Tgt G B md g1 t1 b1) (h2 : Tgt G B md g2 t2 b2) : Tgt G B md (gTup G.K 2 (gCons g1 (gCons g2 gNil))) (t1 ++ t2) (fun (x : α × β) ρ => b2 x.2 (b1 x.1 ρ)) := fun F0 F ρ σ H v x Qt R r k => by
  obtain ⟨p, y, z, rfl, hp, r1, r2⟩ := r
  exact ⟨p, _, rfl, .of (hpM_H R.sB R.sF _ _ hp), rfl, y, _, rfl, h1 F0 F ρ σ H y x.1 _ R r1 fun σ1 w1 R1 => ⟨z, _, rfl, h2 F0 F _ σ1 H z x.2 _ R1 r2 fun σ2 w2 R2 => ⟨rfl, k σ2 (wipe_app w1 w2) R2⟩⟩⟩
theorem walk_list {W : Hp → Hp → Prop} {p : Addr} {vs : List V} {xs : List α} (ht : Tgt G B md g ts bind) (h1 : ∀ F0 F ρ σ H, W F H → Rel G B F0 F ρ σ H → H p = some (.lst vs) ∧ reps G (hpM md F B H) vs xs) : Walk G B W (Itl G.K p) g ts bind xs := fun i F0 F ρ σ H w R => by
  obtain ⟨hp, hr⟩ := h1 F0 F ρ σ H w R
  refine ⟨fun hl => ⟨vs, .of hp, by rw [hr.len]; exact hl⟩, fun x hx => ?_⟩
  obtain ⟨v, ev, rv⟩ := hr.get' hx
  refine ⟨⟨vs, v, .of hp, ev⟩, fun u H' y Qt k => ?_⟩
  obtain ⟨rfl, y⟩ := y
  have e : u = v := Option.some.inj ((y vs (.of hp)).symm.trans ev)
  subst e
  exact ht F0 F ρ σ _ u x Qt R rv fun σ' ws R' => k F σ' _ (.refl _ _) ws R'
theorem ew_F {m : M (List α)} (h : Ev G B E .F ρ te m) (ht : Tgt G B .F g ts bind) : EvW G B E true ρ (iList G.K te) g ts bind m := fun F0 F σ H R RR q => h F0 F σ H _ RR (q.imp (fun xs k F' v H' e s r => by
  obtain ⟨p, vs, rfl, h1, h2⟩ := r
  exact ⟨p, rfl, ⟨vs, .of (s _ _ h1)⟩, k F' H' _ e s (walk_list ht fun F0 F ρ σ H w R => ⟨R.sF _ _ (w.1 _ _ h1), reps_mono w.1 h2⟩)⟩) fun _ x => x)
theorem ew_B {m : M (List α)} (h : Ev G B E .B ρ te m) (ht : Tgt G B .B g ts bind) : EvW G B E true ρ (iList G.K te) g ts bind m := fun F0 F σ H R RR q => h F0 F σ H _ RR (q.imp (fun xs k F' v H' e s r => by
  obtain ⟨p, vs, rfl, h1, h2⟩ := r
  exact ⟨p, rfl, ⟨vs, .of ((RR.sB.trans e.h) _ _ h1)⟩, k F' H' _ e s (walk_list ht fun F0 F ρ σ H w R => ⟨R.sB _ _ h1, h2⟩)⟩) fun _ x => x)
theorem ew_S {m : M (List α)} (h : EvS G B E ρ te m) (ht : Tgt G B .F g ts bind) : EvW G B E false ρ (iList G.K te) g ts bind m := fun F0 F σ H R RR q => h F0 F σ H _ RR (q.imp (fun xs k F' p vs H' e s h1 h2 =>
  ⟨p, rfl, ⟨vs, .of h1⟩, k F' H' _ e s (walk_list ht fun F0 F ρ σ H w R => ⟨w.2 rfl _ _ h1, reps_mono w.1 h2⟩)⟩) fun _ x => x)
def rng (lo hi : Int) : List Int := (List.range (hi - lo).toNat).map fun (k : Nat) => lo + k
theorem rng_len (lo hi : Int) : (rng lo hi).length = (hi - lo).toNat := by unfold rng; rw [List.length_map, List.length_range]
theorem rng_at {lo hi : Int} {i : Nat} {x : Int} (h : (rng lo hi)[i]? = some x) : i < (hi - lo).toNat ∧ x = lo + i := by
  have hi' : i < (rng lo hi).length := (List.getElem?_eq_some_iff.mp h).1
  rw [rng_len] at hi'
  refine ⟨hi', ?_⟩
  unfold rng at h
  rw [List.getElem?_map, List.getElem?_range hi'] at h
  exact (Option.some.inj h).symm
theorem walk_rng {W : Hp → Hp → Prop} {lo hi : Int} {bind : Int → Evr → Evr} (ht : Tgt G B .F g ts bind) : Walk G B W (Itr lo (hi - lo).toNat) g ts bind (rng lo hi) := fun i F0 F ρ σ H w R => by
  refine ⟨fun hl => by rw [rng_len] at hl; exact hl, fun x hx => ?_⟩
  obtain ⟨hl, rfl⟩ := rng_at hx
  refine ⟨hl, fun u H' y Qt k => ?_⟩
  obtain ⟨rfl, rfl⟩ := y
  exact ht F0 F ρ σ _ _ _ Qt R rfl fun σ' ws R' => k F σ' _ (.refl _ _) ws R'
theorem ew_rng1 {m : M Int} {bind : Int → Evr → Evr} (h : Ev G B E md ρ te m) (ht : Tgt G B .F g ts bind) : EvW G B E true ρ (iRng1 (tCons te tNil)) g ts bind (m.b fun n => .chk (-(2 ^ 62) ≤ n ∧ n < 2 ^ 62) (.ok (rng 0 n))) := fun F0 F σ H R RR q => h.go RR q fun n F' v H' e r R' q => by
  obtain ⟨c, q⟩ := M.P_chk.mp q
  have w := walk_rng (G := G) (B := B) (W := fun F2 H2 => Same F' F2 ∧ (true = false → Same H' H2)) (lo := 0) (hi := n) ht
  rw [Int.sub_zero] at w
  exact ⟨n, by rw [show v = .int n from r], c.1, c.2, q F' H' _ e R'.sF w⟩
def enu {α : Type} (xs : List α) : List (Int × α) := xs.zipIdx.map fun p => ((p.2 : Nat), p.1)
theorem enu_len {α : Type} (xs : List α) : (enu xs).length = xs.length := by unfold enu; rw [List.length_map, List.length_zipIdx]
theorem enu_at {α : Type} {xs : List α} {i : Nat} {x : Int × α} (h : (enu xs)[i]? = some x) : xs[i]? = some x.2 ∧ x.1 = i := by
  unfold enu at h
  rw [List.getElem?_map, List.getElem?_zipIdx] at h
  cases e : xs[i]? with
  | none => rw [e] at h; cases h
  | some a => rw [e] at h; cases h; exact ⟨rfl, by simp⟩
theorem walk_enu {W : Hp → Hp → Prop} {p : Addr} {vs : List V} {xs : List α} {b1 : Int → Evr → Evr} {b2 : α → Evr → Evr} (ht1 : Tgt G B .F g1 t1 b1) (ht2 : Tgt G B md g2 t2 b2) (h1 : ∀ F0 F ρ σ H, W F H → Rel G B F0 F ρ σ H → H p = some (.lst vs) ∧ reps G (hpM md F B H) vs xs) :
    Walk G B W (Ite G.K p) (gTup G.K 2 (gCons g1 (gCons g2 gNil))) (t1 ++ t2) (fun (x : Int × α) ρ => b2 x.2 (b1 x.1 ρ)) (enu xs) := fun i F0 F ρ σ H w R => by
  obtain ⟨hp, hr⟩ := h1 F0 F ρ σ H w R
  refine ⟨fun hl => ⟨vs, .of hp, by rw [hr.len, ← enu_len xs]; exact hl⟩, fun x hx => ?_⟩
  obtain ⟨hx, e1⟩ := enu_at hx
  obtain ⟨v, ev, rv⟩ := hr.get' hx
  refine ⟨⟨vs, v, .of hp, ev⟩, fun u H' y Qt k => ?_⟩
  obtain ⟨T, z, rfl, nT, rfl, y⟩ := y
  have e : z = v := Option.some.inj ((y vs (.of hp)).symm.trans ev)
  subst e
  have eT : Ext F H F (upd H T (.tup [.int (i : Nat), z])) := .new nT
  have R1 := R.ext eT (R.sF.trans (same_upd nT))
  refine ⟨T, _, rfl, .of upd_same, rfl, _, _, rfl, ht1 F0 F ρ σ _ _ x.1 _ R1 (by rw [e1]; rfl) fun σ1 w1 R2 => ⟨_, _, rfl, ht2 F0 F _ σ1 _ z x.2 _ R2 (Rp.mono (hpM_ext eT) rv) fun σ2 w2 R3 => ⟨rfl, k F σ2 _ eT (wipe_app w1 w2) R3⟩⟩⟩
section
variable {b1 : Int → Evr → Evr} {b2 : α → Evr → Evr}
theorem ew_enuB {m : M (List α)} (h : Ev G B E .B ρ te m) (ht1 : Tgt G B .F g1 t1 b1) (ht2 : Tgt G B .B g2 t2 b2) : EvW G B E true ρ (iEnum G.K (tCons te tNil)) (gTup G.K 2 (gCons g1 (gCons g2 gNil))) (t1 ++ t2) (fun (x : Int × α) ρ => b2 x.2 (b1 x.1 ρ)) (m.b fun xs => .ok (enu xs)) := fun F0 F σ H R RR q => h.go RR q fun xs F' v H' e r R' q => by
  obtain ⟨p, vs, rfl, h1, h2⟩ := r
  exact ⟨p, vs, rfl, .of (R'.sB _ _ h1), q F' H' _ e R'.sF (walk_enu ht1 ht2 fun F0 F ρ σ H w R => ⟨R.sB _ _ h1, h2⟩)⟩
end
theorem en_lc {α : Type} {per : Bool} {wi : TI} {bind : α → Evr → Evr} {m : M (List α)} {tt : TT} {t : α → M Bool} {e : α → M β} (hw : EvW G B E per ρ wi g ts bind m) (ht : ∀ x, EvT G B E (bind x (wipeE ρ ts)) tt (t x)) (he : ∀ x, Ev G B E .F (bind x (wipeE ρ ts)) te (e x)) :
    EvN G B E ρ (tLc wi g tt te ts) (m.b fun xs => .chk (xs.length ≤ sizeLine) (M.lc t e xs)) := fun F0 F σ H Q R q => hw F0 F σ H _ R ((M.P_b.mp q).imp (fun xs q F1 H1 J e1 s1 wk D nD => by
  obtain ⟨cl, q⟩ := M.P_chk.mp q
  have R1 := R.ext e1 s1
  have hBD : B D = none := R1.sB.free nD
  refine ⟨fun i k H2 => k = xs.length - i ∧ i ≤ xs.length ∧ ∃ (F2 : Hp) (acc : List V) (ys : List β), Rel G B F0 F2 (wipeE ρ ts) (wipe σ ts) H2 ∧ Ext F1 H1 F2 H2 ∧ H2 D = some (.lst acc) ∧ F2 D = none ∧ reps G F2 acc ys ∧ ys.length ≤ i ∧
    (M.lc t e (xs.drop i)).P (fun r => ∀ (F' : Hp) (p : Addr) (o : HO) (H' : Hp), Ext F H F' H' → Same F' H' → H p = none → F' p = none → H' p = some o → con G F' o (ys ++ r) → Q (.ref p) H') (Xc G B E), ⟨xs.length, by simp, Nat.zero_le _, F1, [], [], ?_, ?_, upd_same, s1.free nD, .nil, Nat.zero_le _, ?_⟩, ?_⟩
  · exact (R1.wipe ts).side hBD (s1.free nD) ((R1.wipe ts).fresh nD)
  · exact .new nD
  · rw [List.drop_zero]
    exact q
  rintro i k H2 ⟨rfl, hi, F2, acc, ys, R2, e2, hD, fD, ra, hy, q2⟩
  obtain ⟨w1, w2⟩ := wk i F0 F2 _ _ H2 ⟨e2.f, fun _ => e2.h⟩ R2
  by_cases hlt : i < xs.length
  · have hx : xs[i]? = some xs[i] := List.getElem?_eq_getElem hlt
    obtain ⟨g1, g2⟩ := w2 xs[i] hx
    rw [List.drop_eq_getElem_cons hlt] at q2
    refine .inr ⟨g1, fun H3 => ∃ m', m' < xs.length - i ∧ (m' = xs.length - (i + 1) ∧ i + 1 ≤ xs.length ∧ ∃ (F2 : Hp) (acc : List V) (ys : List β), Rel G B F0 F2 (wipeE ρ ts) (wipe σ ts) H3 ∧ Ext F1 H1 F2 H3 ∧ H3 D = some (.lst acc) ∧ F2 D = none ∧ reps G F2 acc ys ∧ ys.length ≤ i + 1 ∧
      (M.lc t e (xs.drop (i + 1))).P (fun r => ∀ (F' : Hp) (p : Addr) (o : HO) (H' : Hp), Ext F H F' H' → Same F' H' → H p = none → F' p = none → H' p = some o → con G F' o (ys ++ r) → Q (.ref p) H') (Xc G B E)), fun H3 z => z, fun v H3 hyld => g2 v H3 hyld _ fun F3 σ3 H4 e3 ws R3 => ⟨ws.trans (wipe_idem σ ts), ?_⟩⟩
    have hm : xs.length - (i + 1) < xs.length - i := by omega
    have dn : ∀ {Fx Hx : Hp}, Ext F2 H2 Fx Hx → Hx D = some (.lst acc) ∧ Fx D = none := fun ex => ⟨ex.h _ _ hD, ex.non hD fD⟩
    refine (ht xs[i]).go R3 q2 fun c F4 H5 e4 R4 q3 => ?_
    have e24 := e3.trans e4
    have Rw : ∀ {Fx Hx : Hp}, Ext F2 H2 Fx Hx → Same Fx Hx → Rel G B F0 Fx (wipeE ρ ts) (wipe σ ts) Hx := fun ex sx => R2.ext ex sx
    cases c with
    | true =>
      refine iteT ((he xs[i]).go R4 q3 fun y F5 v2 H6 e5 r5 R5 q4 => ?_)
      have e25 := e24.trans e5
      obtain ⟨hD5, fD5⟩ := dn e25
      refine ⟨acc, hD5, by rw [ra.len]; omega, _, hm, rfl, hlt, F5, acc ++ [v2], ys ++ [y], ?_, ?_, upd_same, fD5, (reps_mono e25.f ra).snoc r5, by rw [List.length_append]; exact Nat.succ_le_succ hy, ?_⟩
      · have R6 := Rw e25 R5.sF
        exact R6.side hBD fD5 (fun j s x hs hx f => (R1.wipe ts).fresh nD j s x hs hx (Fp.lift ((R1.wipe ts).sl j s x hs hx) (fun b o _ z => (e2.trans e25).h _ _ z) f))
      · have e26 := e2.trans e25
        exact ⟨e26.f, fun b o hb => by rw [upd_ne (ne_of_none hb nD)]; exact e26.h _ _ hb, e26.n⟩
      · refine (M.P_b.mp q4).imp (fun r f F' p o H' a1 a2 a3 a4 a5 a6 => f F' p o H' a1 a2 a3 a4 a5 ?_) fun _ x => x
        rw [List.append_assoc] at a6
        exact a6
    | false =>
      refine iteF ?_
      obtain ⟨hD4, fD4⟩ := dn e24
      exact ⟨_, hm, rfl, hlt, F4, acc, ys, Rw e24 R4.sF, e2.trans e24, hD4, fD4, reps_mono e24.f ra, Nat.le_succ_of_le hy, q3⟩
  · have e : i = xs.length := by omega
    subst e
    rw [List.drop_length] at q2
    have e12 := e1.trans e2
    refine .inl ⟨w1 (Nat.le_refl _), q2 F2 D _ H2 e12 R2.sF (e1.h.free nD) fD hD ⟨acc, rfl, by rw [List.append_nil]; exact ra⟩⟩) fun _ x => x)
end
end Tw
set_option Elab.async false
set_option linter.all false
set_option maxRecDepth 100000
set_option maxHeartbeats 4000000
namespace Tw
open PySem PySem.Spec L2 TL
open PyProof.Rows hiding St
abbrev qInsert : V → List V → Hp → VK → Prop := fun x vs H Q => ∃ (l : Addr) (xs : List V) (i : Int) (y : V), x = .ref l ∧ vs = [.int i, y] ∧ H l = some (.lst xs) ∧ xs.length < sizeLine ∧ 0 ≤ i ∧ i < 2 ^ 63 ∧ Q .non (upd H l (.lst (xs.take i.toNat ++ [y] ++ xs.drop i.toNat)))
structure Fin (G : Gb) (B F0 F H : Hp) : Prop where
  sB : Same B H
  sF : Same F H
  s0 : Same F0 F
  nw : ∀ a, F0 a = none → F a ≠ none → B a = none
section
variable (G : Gb) (B : Hp) (E : XK)
def Run {Ω : Type} (post : Hp → Ω → Ends → Prop) (ρ : Evr) (t : TS) (m : M Ω) : Prop := ∀ (F0 F : Hp) (σ : L2.St) (H : Hp) (D : Ends), Rel G B F0 F ρ σ H → m.P (fun ω => post F0 ω D) (Xc G B E) → t D σ H
/-- it goes on -/
def oN {S : Type} (EX : S → Evr) : Hp → S → Ends → Prop := fun F0 s D => ∀ (F' : Hp) (σ' : L2.St) (H' : Hp), Rel G B F0 F' (EX s) σ' H' → D.nx σ' H'
/-- it tells; how a thing is told: frozen, new, None -/
abbrev RP (R : Type) := Hp → Hp → Hp → V → R → Prop
def oR {R : Type} (rp : RP R) : Hp → R → Ends → Prop := fun F0 r D => ∀ (F' : Hp) (v : V) (H' : Hp), Fin G B F0 F' H' → rp B F' H' v r → D.rt v H'
def oC {S R : Type} (EX : S → Evr) (rp : RP R) : Hp → S ⊕ R → Ends → Prop := fun F0 c D => match c with
  | .inl s => oN G B EX F0 s D
  | .inr r => oR G B rp F0 r D
/-- it ends without telling -/
def oV : Hp → Unit → Ends → Prop := fun F0 _ D => ∀ (F' : Hp) (σ' : L2.St) (H' : Hp), Fin G B F0 F' H' → D.nx σ' H' ∧ D.rt .non H'
end
def rpF (G : Gb) {R : Type} [Rp R] : RP R := fun _ F' _ v r => rep G F' v r
def rpN (G : Gb) {R : Type} [Rp R] [Rc R] : RP R := fun B F' H' v r => ∃ p o, v = .ref p ∧ B p = none ∧ F' p = none ∧ H' p = some o ∧ con G F' o r
def rpV : RP Unit := fun _ _ _ v _ => v = .non
section
variable {G : Gb} {B : Hp} {E : XK} {ρ ρ' : Evr} {α β γ δ : Type} [Rp α] [Rp β] [Rp γ] [Rp δ] {md md' mr : Md} {ta tb tc te : TE} {g : TG} {ts : List Nat} {bind : α → Evr → Evr}
  {Ω S S' R : Type} {post : Hp → Ω → Ends → Prop} {EX : S → Evr} {EX' : S' → Evr} {rp : RP R} {t t1 t2 rest : TS}
theorem Rel.fin {F0 F H : Hp} {σ : L2.St} (R : Rel G B F0 F ρ σ H) : Fin G B F0 F H := ⟨R.sB, R.sF, R.s0, R.nw⟩
theorem Fin.under {F0 F F1 H H' : Hp} {σ : L2.St} (R : Rel G B F0 F ρ σ H) (f : Fin G B F F1 H') : Fin G B F0 F1 H' := ⟨f.sB, f.sF, R.s0.trans f.s0, fun a h q => by
  cases z : F a with
  | none => exact f.nw a z q
  | some o => exact R.nw a h (by rw [z]; exact fun z => nomatch z)⟩
theorem Fin.ext {F0 F F' H H' : Hp} (f : Fin G B F0 F H) (e : Ext F H F' H') (s : Same F' H') : Fin G B F0 F' H' := ⟨f.sB.trans e.h, s, f.s0.trans e.f, fun a h q => by
  cases z : F a with
  | none => exact f.sB.free (e.n a z q)
  | some o => exact f.nw a h (by rw [z]; exact fun z => nomatch z)⟩
theorem run_seq {m1 : M S} {k : S → M Ω} (h1 : Run G B E (oN G B EX) ρ t1 m1) (h2 : ∀ s, Run G B E post (EX s) t2 (k s)) : Run G B E post ρ (tSeq t1 t2) (m1.b k) := fun F0 F σ H D R q =>
  h1 F0 F σ H _ R ((M.P_b.mp q).imp (fun s q F' σ' H' R' => h2 s F0 F' σ' H' D R' q) fun _ x => x)
theorem run_seqR {m1 : M (S ⊕ R)} {k : S → M R} (h1 : Run G B E (oC G B EX rp) ρ t1 m1) (h2 : ∀ s, Run G B E (oR G B rp) (EX s) t2 (k s)) : Run G B E (oR G B rp) ρ (tSeq t1 t2) (m1.b (M.orR k)) := fun F0 F σ H D RR q =>
  h1 F0 F σ H _ RR ((M.P_b.mp q).imp (fun c q => by
    cases c with
    | inl s => exact fun F' σ' H' R' => h2 s F0 F' σ' H' D R' q
    | inr r => exact fun F' v H' f h => q F' v H' f h) fun _ x => x)
theorem run_last {m : M Ω} (h : Run G B E post ρ (tSeq t tNext) m) : Run G B E post ρ t m := h
theorem run_skip {m : M Ω} (h : Run G B E post ρ rest m) : Run G B E post ρ (tSeq tNext rest) m := h
theorem run_next {s : S} (w : Wk ρ (EX s)) : Run G B E (oN G B EX) ρ tNext (.ok s) := fun F0 F σ H D R q => q F σ H (R.weak w)
theorem run_nextC {s : S} (w : Wk ρ (EX s)) : Run G B E (oC G B EX rp) ρ tNext (.ok (.inl s)) := fun F0 F σ H D R q => q F σ H (R.weak w)
theorem run_nextV : Run G B E (oV G B) ρ tNext (.ok ()) := fun F0 F σ H D R q => (q F σ H R.fin).1
theorem run_freeze [Rc α] {i : Nat} {a : α} {m : M Ω} (h : ρ[i]? = some (some (.ow a))) (k : Run G B E post (ρ.set i (some (.fz a))) t m) : Run G B E post ρ t m := fun F0 F σ H D R q => by
  obtain ⟨F', R'⟩ := R.freeze h
  exact k F0 F' σ H D R' q
theorem run_weak {m : M Ω} (w : Wk ρ ρ') (k : Run G B E post ρ' t m) : Run G B E post ρ t m := fun F0 F σ H D R q => k F0 F σ H D (R.weak w) q
theorem run_asg {m : M α} {k : α → M Ω} (he : Ev G B E md ρ te m) (ht : Tgt G B md g ts bind) (hk : ∀ a, Run G B E post (bind a ρ) rest (k a)) : Run G B E post ρ (tSeq (tAsg te g) rest) (m.b k) := fun F0 F σ H D R q =>
  he.go R q fun a F' v H' e r R' q => ht F0 F' ρ σ H' v a _ R' r fun σ' _ R2 => hk a F0 F' σ' H' D R2 q
theorem run_asgN [Rc α] {i : Nat} {m : M α} {k : α → M Ω} (he : EvN G B E ρ te m) (hk : ∀ a, Run G B E post (ρ.set i (some (.ow a))) rest (k a)) : Run G B E post ρ (tSeq (tAsg te (gName i)) rest) (m.b k) := fun F0 F σ H D R q =>
  he.go R q fun a F' p o H' e h1 h2 h3 h4 R' q => hk a F0 F' _ H' D (R'.own (R.sB.free h1) h2 h3 h4 fun j s x hs hx f => R.fresh h1 j s x hs hx (Fp.lift (R.sl j s x hs hx) (fun b o _ z => e.h _ _ z) f)) q
theorem run_expr {m : M α} {k : M Ω} (he : Ev G B E md ρ te m) (hk : Run G B E post ρ rest k) : Run G B E post ρ (tSeq (tDrop te) rest) (m.b fun _ => k) := fun F0 F σ H D R q =>
  he.go R q fun a F' v H' e r R' q => hk F0 F' σ H' D R' q
theorem Rel.ow [Rc α] {F0 F H : Hp} {σ : L2.St} {i : Nat} {a : α} (R : Rel G B F0 F ρ σ H) (h : ρ[i]? = some (some (.ow a))) : ∃ p o, σ[i]? = some (some (.ref p)) ∧ B p = none ∧ F p = none ∧ H p = some o ∧ con G F o a := by
  obtain ⟨x, e, p, o, rfl, h1, h2, h3, h4⟩ := R.at h
  exact ⟨p, o, e, h1, h2, h3, h4⟩
theorem run_append {i : Nat} {l : List α} {m : M α} {k : α → M Ω} (h : ρ[i]? = some (some (.ow l))) (he : Ev G B E .F ρ te m) (hk : ∀ a, Run G B E post (ρ.set i (some (.ow (l ++ [a])))) rest (k a)) :
    Run G B E post ρ (tSeq (tDrop (tBM G.K "list" rAppend (tVar i) (tCons te tNil))) rest) (m.b fun a => .chk (l.length < sizeLine) (k a)) := fun F0 F σ H D R q => by
  obtain ⟨p, o, e, h1, h2, h3, vs, rfl, h4⟩ := R.ow h
  refine ⟨_, e, .inl ⟨rfl, vs, .of h3⟩, he.go R q fun a F' v H' e' r R' q => ?_⟩
  obtain ⟨c, q⟩ := M.P_chk.mp q
  have f2 := e'.non h3 h2
  refine ⟨p, vs, v, rfl, rfl, e'.h _ _ h3, by rw [h4.len]; exact c, hk a F0 F' σ _ D ?_ q⟩
  exact R'.change h (show _ = _ from rfl) e h1 f2 ⟨_, rfl, (reps_mono e'.f h4).snoc r⟩
theorem run_pop {i : Nat} {l : List α} {k : α → M Ω} (h : ρ[i]? = some (some (.ow l))) (ht : Tgt G B .F g ts bind) (hk : ∀ a, Run G B E post (bind a (ρ.set i (some (.ow l.dropLast)))) rest (k a)) : Run G B E post ρ (tSeq (tAsg (tBM0 G.K "list" rPop (tVar i)) g) rest) ((M.get l[l.length - 1]?).b k) := fun F0 F σ H D R q => by
  obtain ⟨p, o, e, h1, h2, h3, vs, rfl, h4⟩ := R.ow h
  obtain ⟨a, ea, q⟩ := M.P_get.mp (M.P_b.mp q)
  obtain ⟨v, ev, rv⟩ := h4.get' ea
  rw [← h4.len] at ev
  exact ⟨_, e, .inl ⟨rfl, vs, .of h3⟩, p, vs, v, rfl, rfl, h3, ev, ht F0 F _ σ _ v a _ (R.change (a := l.dropLast) h (show _ = _ from rfl) e h1 h2 ⟨_, rfl, h4.dl⟩) rv fun σ' _ R' => hk a F0 F σ' _ D R' q⟩
section
variable {κ : Type} [Rp κ] [DecidableEq κ]
theorem any_keys {K L : Type} [DecidableEq K] [DecidableEq L] {f : L → K} (inj : ∀ {a b}, f a = f b → a = b) {R : K × V → L × α → Prop} (hR : ∀ p q, R p q → p.1 = f q.1) (k : L) : ∀ {kvs : List (K × V)} {l : List (L × α)}, All2 R kvs l → (kvs.any fun kv => decide (kv.1 = f k)) = l.any fun p => decide (p.1 = k)
  | _, _, .nil => rfl
  | _, _, .cons (a := p) (b := q) h t => by
    rw [List.any_cons, List.any_cons, any_keys inj hR k t]
    congr 1
    rw [hR _ _ h]
    exact Bool.eq_iff_iff.mpr (by rw [decide_eq_true_iff, decide_eq_true_iff]; exact ⟨fun e => inj e, fun e => by rw [e]⟩)
theorem map_keys {K L : Type} [DecidableEq K] [DecidableEq L] {f : L → K} (inj : ∀ {a b}, f a = f b → a = b) {H : Hp} (k : L) {v : V} {a : α} (r : rep G H v a) : ∀ {kvs : List (K × V)} {l : List (L × α)}, All2 (fun p q => p.1 = f q.1 ∧ rep G H p.2 q.2) kvs l →
    All2 (fun p q => p.1 = f q.1 ∧ rep G H p.2 q.2) (kvs.map fun kv => if kv.1 = f k then (kv.1, v) else kv) (l.map fun p => if p.1 = k then (p.1, a) else p)
  | _, _, .nil => .nil
  | _, _, .cons (a := p) (b := q) h t => by
    rw [List.map_cons, List.map_cons]
    refine .cons ?_ (map_keys inj k r t)
    by_cases e : q.1 = k
    · rw [if_pos (by rw [h.1, e]), if_pos e]
      exact ⟨h.1, r⟩
    · rw [if_neg (by rw [h.1]; exact fun w => e (inj w)), if_neg e]
      exact h
theorem put_keys {K L : Type} [DecidableEq K] [DecidableEq L] {f : L → K} (inj : ∀ {a b}, f a = f b → a = b) {H : Hp} (k : L) {v : V} {a : α} (r : rep G H v a) {kvs : List (K × V)} {l : List (L × α)} (h : All2 (fun p q => p.1 = f q.1 ∧ rep G H p.2 q.2) kvs l) :
    All2 (fun p q => p.1 = f q.1 ∧ rep G H p.2 q.2) (putK kvs (f k) v) (dput l k a) := by
  unfold putK dput
  rw [any_keys inj (fun p q z => z.1) k h]
  split
  · exact map_keys inj k r h
  · exact h.snoc ⟨rfl, r⟩
theorem run_dputK [Ky κ] {i : Nat} {d : Dk κ α} {mk : M κ} {m : M α} {k : α → κ → M Ω} {tk : TE} (h : ρ[i]? = some (some (.ow d))) (he : Ev G B E .F ρ te m) (hk : Ev G B E md ρ tk mk) (hn : ∀ a x, Run G B E post (ρ.set i (some (.ow (⟨dput d.l x a⟩ : Dk κ α)))) rest (k a x)) :
    Run G B E post ρ (tSeq (sDPut (tVar i) tk te) rest) (m.b fun a => mk.b fun x => .chk (d.l.length < sizeLine) (k a x)) := fun F0 F σ H D R q => by
  obtain ⟨p, o, e, h1, h2, h3, kvs, rfl, h4⟩ := R.ow h
  refine he.go R q fun a F1 v H1 e1 r1 R1 q => ⟨_, e, hk.go R1 q fun x F2 u H2 e2 r2 R2 q => ?_⟩
  obtain ⟨c, q⟩ := M.P_chk.mp q
  have e' := e1.trans e2
  refine ⟨p, _, rfl, .inl ⟨kvs, Ky.key x, e'.h _ _ h3, (Ky.iff _ _ _ _).mp r2, by rw [h4.len]; exact c, rfl⟩, hn a x F0 F2 σ _ D ?_ q⟩
  exact R2.change h (show _ = _ from rfl) e h1 (e'.non h3 h2) ⟨_, rfl, put_keys (fun z => Ky.inj z) x (Rp.mono e2.f r1) (repk_mono e'.f h4)⟩
theorem run_dputT [Kt κ] {i : Nat} {d : Dt κ α} {mk : M κ} {m : M α} {k : α → κ → M Ω} {tk : TE} (h : ρ[i]? = some (some (.ow d))) (he : Ev G B E .F ρ te m) (hk : Ev G B E md ρ tk mk) (hn : ∀ a x, Run G B E post (ρ.set i (some (.ow (⟨dput d.l x a⟩ : Dt κ α)))) rest (k a x)) :
    Run G B E post ρ (tSeq (sDPut (tVar i) tk te) rest) (m.b fun a => mk.b fun x => .chk (d.l.length < sizeLine) (k a x)) := fun F0 F σ H D R q => by
  obtain ⟨p, o, e, h1, h2, h3, kvs, rfl, h4⟩ := R.ow h
  refine he.go R q fun a F1 v H1 e1 r1 R1 q => ⟨_, e, hk.toH.go R1 q fun x F2 u H2 e2 r2 R2 q => ?_⟩
  obtain ⟨c, q⟩ := M.P_chk.mp q
  obtain ⟨b, rfl, hb⟩ := (Kt.iff _ _ _ _).mp r2
  have e' := e1.trans e2
  refine ⟨p, _, rfl, .inr ⟨kvs, Kt.key x, b, e'.h _ _ h3, rfl, hb, by rw [h4.len]; exact c, rfl⟩, hn a x F0 F2 σ _ D ?_ q⟩
  exact R2.change h (show _ = _ from rfl) e h1 (e'.non h3 h2) ⟨_, rfl, put_keys (fun z => Kt.inj z) x (Rp.mono e2.f r1) (rept_mono e'.f h4)⟩
end
theorem run_if {c : TT} {mc : M Bool} {m n : M Ω} (hc : EvT G B E ρ c mc) (h1 : Run G B E post ρ t1 m) (h2 : Run G B E post ρ t2 n) : Run G B E post ρ (tIfS c t1 t2) (mc.b fun x => if x = true then m else n) := fun F0 F σ H D R q =>
  hc.go R q fun x F' H' e R' q => by
    cases x with
    | true => exact iteT (h1 F0 F' σ H' D R' q)
    | false => exact iteF (h2 F0 F' σ H' D R' q)
theorem run_ifS {c : TT} {mc : M Bool} {m n : M Ω} (hc : EvT G B E ρ c mc) (h1 : Run G B E post ρ (tSeq t1 rest) m) (h2 : Run G B E post ρ (tSeq t2 rest) n) : Run G B E post ρ (tSeq (tIfS c t1 t2) rest) (mc.b fun x => if x = true then m else n) := fun F0 F σ H D R q =>
  hc.go R q fun x F' H' e R' q => by
    cases x with
    | true => exact iteT (h1 F0 F' σ H' D R' q)
    | false => exact iteF (h2 F0 F' σ H' D R' q)
theorem run_ret {m : M α} (h : Ev G B E .F ρ te m) : Run G B E (oR G B (rpF G)) ρ (tRet te) m := fun F0 F σ H D R q => h F0 F σ H _ R (q.imp (fun a k F' v H' e s r => k F' v H' (R.ext e s).fin r) fun _ x => x)
theorem run_retC {m : M α} (h : Ev G B E .F ρ te m) : Run G B E (oC G B EX (rpF G)) ρ (tRet te) (m.b fun a => .ok (.inr a)) := fun F0 F σ H D R q => h.go R q fun a F' v H' e r R' q => q F' v H' R'.fin r
theorem run_retN [Rc α] {m : M α} (h : EvN G B E ρ te m) : Run G B E (oR G B (rpN G)) ρ (tRet te) m := fun F0 F σ H D R q => h F0 F σ H _ R (q.imp (fun a k F' p o H' e s h1 h2 h3 h4 => k F' _ H' (R.ext e s).fin ⟨p, o, rfl, R.sB.free h1, h2, h3, h4⟩) fun _ x => x)
theorem run_retO [Rc α] {i : Nat} {a : α} (h : ρ[i]? = some (some (.ow a))) : Run G B E (oR G B (rpN G)) ρ (tRet (tVar i)) (.ok a) := fun F0 F σ H D R q => by
  obtain ⟨p, o, e, h1, h2, h3, h4⟩ := R.ow h
  exact ⟨_, e, q F _ H R.fin ⟨p, o, rfl, h1, h2, h3, h4⟩⟩
theorem run_for {α : Type} {wi : TI} {bind : α → Evr → Evr} {mx : M (List α)} {f : S → α → M S} {s0 : S} (hw : EvW G B E true ρ wi g ts bind mx) (h0 : Wk ρ (EX s0)) (hb : ∀ s x, Run G B E (oN G B EX) (bind x (EX s)) t (f s x)) :
    Run G B E (oN G B EX) ρ (tFor wi g t) (mx.b fun xs => M.for_ f xs s0) := fun F0 F σ H D R q => hw F0 F σ H _ R ((M.P_b.mp q).imp (fun xs q F1 H1 J e1 s1 wk => by
  have R1 := R.ext e1 s1
  refine ⟨fun i k σ2 H2 => k = xs.length - i ∧ i ≤ xs.length ∧ ∃ (F2 : Hp) (s : S), Rel G B F1 F2 (EX s) σ2 H2 ∧ (M.for_ f (xs.drop i) s).P (fun s => oN G B EX F0 s D) (Xc G B E), ⟨xs.length, by simp, Nat.zero_le _, F1, s0, (R1.weak h0).base, by rw [List.drop_zero]; exact q⟩, ?_⟩
  rintro i k σ2 H2 ⟨rfl, hi, F2, s, R2, q2⟩
  obtain ⟨w1, w2⟩ := wk i F1 F2 _ _ H2 ⟨R2.s0, fun z => nomatch z⟩ R2
  by_cases hlt : i < xs.length
  · have hx : xs[i]? = some xs[i] := List.getElem?_eq_getElem hlt
    obtain ⟨g1, g2⟩ := w2 xs[i] hx
    rw [List.drop_eq_getElem_cons hlt] at q2
    refine .inr ⟨g1, fun σ3 H3 => ∃ m', m' < xs.length - i ∧ (m' = xs.length - (i + 1) ∧ i + 1 ≤ xs.length ∧ ∃ (F2 : Hp) (s : S), Rel G B F1 F2 (EX s) σ3 H3 ∧ (M.for_ f (xs.drop (i + 1)) s).P (fun s => oN G B EX F0 s D) (Xc G B E)), fun _ _ z => z, fun v H3 hy => g2 v H3 hy _ fun F3 σ3 H4 e3 _ R3 => ?_⟩
    refine hb s xs[i] F1 F3 σ3 H4 _ R3 ((M.P_b.mp q2).imp (fun s' q3 F' σ' H' R' => ⟨_, by omega, rfl, hlt, F', s', R', q3⟩) fun _ x => x)
  · have e : i = xs.length := by omega
    subst e
    rw [List.drop_length] at q2
    exact .inl ⟨w1 (Nat.le_refl _), q2 F2 σ2 H2 (R1.under R2)⟩) fun _ x => x)
theorem run_forR {α : Type} {wi : TI} {bind : α → Evr → Evr} {mx : M (List α)} {f : S → α → M (S ⊕ R)} {s0 : S} (hw : EvW G B E true ρ wi g ts bind mx) (h0 : Wk ρ (EX s0)) (hb : ∀ s x, Run G B E (oC G B EX rp) (bind x (EX s)) t (f s x)) :
    Run G B E (oC G B EX rp) ρ (tFor wi g t) (mx.b fun xs => M.forR f xs s0) := fun F0 F σ H D RR q => hw F0 F σ H _ RR ((M.P_b.mp q).imp (fun xs q F1 H1 J e1 s1 wk => by
  have R1 := RR.ext e1 s1
  refine ⟨fun i k σ2 H2 => k = xs.length - i ∧ i ≤ xs.length ∧ ∃ (F2 : Hp) (s : S), Rel G B F1 F2 (EX s) σ2 H2 ∧ (M.forR f (xs.drop i) s).P (fun s => oC G B EX rp F0 s D) (Xc G B E), ⟨xs.length, by simp, Nat.zero_le _, F1, s0, (R1.weak h0).base, by rw [List.drop_zero]; exact q⟩, ?_⟩
  rintro i k σ2 H2 ⟨rfl, hi, F2, s, R2, q2⟩
  obtain ⟨w1, w2⟩ := wk i F1 F2 _ _ H2 ⟨R2.s0, fun z => nomatch z⟩ R2
  by_cases hlt : i < xs.length
  · have hx : xs[i]? = some xs[i] := List.getElem?_eq_getElem hlt
    obtain ⟨g1, g2⟩ := w2 xs[i] hx
    rw [List.drop_eq_getElem_cons hlt, M.forR_cons] at q2
    refine .inr ⟨g1, fun σ3 H3 => ∃ m', m' < xs.length - i ∧ (m' = xs.length - (i + 1) ∧ i + 1 ≤ xs.length ∧ ∃ (F2 : Hp) (s : S), Rel G B F1 F2 (EX s) σ3 H3 ∧ (M.forR f (xs.drop (i + 1)) s).P (fun s => oC G B EX rp F0 s D) (Xc G B E)), fun _ _ z => z, fun v H3 hy => g2 v H3 hy _ fun F3 σ3 H4 e3 _ R3 => ?_⟩
    refine hb s xs[i] F1 F3 σ3 H4 _ R3 ((M.P_b.mp q2).imp (fun c q3 => ?_) fun _ x => x)
    cases c with
    | inl s' => exact fun F' σ' H' R' => ⟨_, by omega, rfl, hlt, F', s', R', q3⟩
    | inr r => exact fun F' v H' f h => q3 F' v H' (Fin.under R1 f) h
  · have e : i = xs.length := by omega
    subst e
    rw [List.drop_length] at q2
    exact .inl ⟨w1 (Nat.le_refl _), q2 F2 σ2 H2 (R1.under R2)⟩) fun _ x => x)
theorem run_while {c : TT} {mc : S → M Bool} {f : S → M S} {s0 : S} (hc : ∀ s, EvT G B E (EX s) c (mc s)) (h0 : Wk ρ (EX s0)) (hb : ∀ s, Run G B E (oN G B EX) (EX s) t (f s)) : Run G B E (oN G B EX) ρ (tWhile c t) (M.wh mc f s0) := fun F0 F σ H D R q => by
  obtain ⟨n, r, e, q⟩ := M.P_wh q
  refine ⟨fun k σ2 H2 => ∃ (F2 : Hp) (s : S) (r : M S), Rel G B F0 F2 (EX s) σ2 H2 ∧ M.whN mc f k s = some r ∧ r.P (fun s => oN G B EX F0 s D) (Xc G B E), ⟨n, F, s0, r, R.weak h0, e, q⟩, ?_⟩
  rintro k σ2 H2 ⟨F2, s, r, R2, e, q⟩
  cases k with
  | zero => cases e
  | succ k =>
    refine hc s F0 F2 σ2 H2 _ R2 ?_
    unfold M.whN at e
    cases hm : mc s with
    | ok x =>
      rw [hm] at e
      cases x with
      | true =>
        refine fun F' H' ex sx => iteT ⟨fun σ3 H3 => ∃ m', m' < k + 1 ∧ ∃ (F2 : Hp) (s : S) (r : M S), Rel G B F0 F2 (EX s) σ3 H3 ∧ M.whN mc f m' s = some r ∧ r.P (fun s => oN G B EX F0 s D) (Xc G B E), fun _ _ z => z, hb s F0 F' σ2 H' _ (R2.ext ex sx) ?_⟩
        revert e
        cases f s with
        | ok s' => exact fun e F3 σ3 H3 R3 => ⟨k, Nat.lt_succ_self _, F3, s', r, R3, e, q⟩
        | exc y => exact fun e => by cases e; exact q
        | bad => exact fun e => nomatch e
      | false =>
        cases e
        exact fun F' H' ex sx => iteF (q F' σ2 H' (R2.ext ex sx))
    | exc y => rw [hm] at e; cases e; exact q
    | bad => rw [hm] at e; cases e
end
end Tw
set_option Elab.async false
set_option linter.all false
set_option maxRecDepth 100000
set_option maxHeartbeats 4000000
namespace Tw
open PySem PySem.Spec L2 TL
open PyProof.Rows hiding St
def leS (a b : Str) : Bool := !decide (tl b < tl a)
theorem leS_iff {a b : Str} : leS a b = true ↔ tl a ≤ tl b := by
  unfold leS
  rw [Bool.not_eq_true', decide_eq_false_iff_not]
  exact List.not_lt
theorem leS_trans (a b c : Str) (h1 : leS a b = true) (h2 : leS b c = true) : leS a c = true := leS_iff.mpr (List.le_trans (leS_iff.mp h1) (leS_iff.mp h2))
theorem leS_total (a b : Str) : (leS a b || leS b a) = true := by
  rw [Bool.or_eq_true]
  rcases List.le_total (tl a) (tl b) with h | h
  · exact .inl (leS_iff.mpr h)
  · exact .inr (leS_iff.mpr h)
theorem leS_anti {a b : Str} (h1 : leS a b = true) (h2 : leS b a = true) : a = b := ext_tl (List.le_antisymm (leS_iff.mp h1) (leS_iff.mp h2))
abbrev Sorted (l : List Str) : Prop := l.Pairwise fun a b => leS a b = true
def srt (l : List Str) : List Str := l.mergeSort leS
theorem srt_perm (l : List Str) : (srt l).Perm l := List.mergeSort_perm l leS
theorem srt_sorted (l : List Str) : Sorted (srt l) := List.pairwise_mergeSort leS_trans leS_total l
theorem srt_len (l : List Str) : (srt l).length = l.length := (srt_perm l).length_eq
theorem srt_mem {l : List Str} {x : Str} : x ∈ srt l ↔ x ∈ l := (srt_perm l).mem_iff
theorem sorted_eq {l m : List Str} (h1 : Sorted l) (h2 : Sorted m) (p : l.Perm m) : l = m := p.eq_of_pairwise (fun _ _ _ _ a b => leS_anti a b) h1 h2
theorem rising_pair : ∀ (l : List Str) (x : Str), risingS x l = true → Sorted (x :: l)
  | [], x, _ => by simp
  | y :: r, x, h => by
    unfold risingS at h
    rw [Bool.and_eq_true] at h
    have h1 : leS x y = true := by
      unfold leS
      have := h.1
      rw [ltCps_eq] at this
      exact this
    have h2 := rising_pair r y h.2
    refine List.pairwise_cons.mpr ⟨fun z hz => ?_, h2⟩
    rcases List.mem_cons.mp hz with e | e
    · rw [e]
      exact h1
    · exact leS_trans x y z h1 ((List.pairwise_cons.mp h2).1 z e)
theorem sortedS_pair {l : List Str} (h : sortedS l = true) : Sorted l := by
  cases l with
  | nil => exact .nil
  | cons x r => exact rising_pair r x h
theorem srt_unique {l m : List Str} (p : m.Perm l) (h : sortedS m = true) : m = srt l := sorted_eq (sortedS_pair h) (srt_sorted l) (p.trans (srt_perm l).symm)
theorem srt_nodup {l : List Str} (h : l.Nodup) : (srt l).Nodup := (srt_perm l).nodup_iff.mpr h
theorem Sorted.filter {l : List Str} (p : Str → Bool) (h : Sorted l) : Sorted (l.filter p) := List.Pairwise.filter p h
end Tw
set_option Elab.async false
set_option linter.all false
set_option maxRecDepth 100000
set_option maxHeartbeats 4000000
namespace Tw
open PySem PySem.Spec L2 TL
open PyProof.Rows hiding St
/-- nothing is refused -/
def M.cl {α : Type} : M α → M α
  | .exc _ => .bad
  | m => m
@[simp] theorem M.cl_ok {α : Type} (a : α) : M.cl (.ok a) = .ok a := rfl
theorem M.P_cl {α : Type} {m : M α} {p : α → Prop} {x : Str → Prop} (h : m.cl.P p x) : m.P p fun _ => False := by
  cases m with
  | ok a => exact h
  | exc c => exact h
  | bad => exact h
def ArgOk (G : Gb) (F H : Hp) : List Slot → List V → Prop
  | [], [] => True
  | @Slot.fz _ i a :: ss, v :: vs => @Rp.rep _ i G F v a ∧ ArgOk G F H ss vs
  | @Slot.bw _ i a :: ss, v :: vs => @Rp.rep _ i G H v a ∧ ArgOk G F H ss vs
  | _, _ => False
/-- what a def promises: f over plain data -/
def spA (G : Gb) {P R : Type} (sl : P → List Slot) (rp : RP R) (f : P → M R) : Sp := fun vs H Q E => ∃ (p : P) (F0 : Hp), Same F0 H ∧ ArgOk G F0 H (sl p) vs ∧
  (f p).P (fun r => ∀ (F' : Hp) (v : V) (H' : Hp), Fin G H F0 F' H' → rp H F' H' v r → Q v H') (Xc G H E)
/-- how an argument is handed on -/
def Ps {α : Type} [Rp α] (md : Md) (k : α → Slot) : Prop := ∀ {G : Gb} {B F H : Hp} {v : V} {a : α}, Same B H → Same F H → rep G (hpM md F B H) v a → ∀ {ss : List Slot} {vs : List V}, ArgOk G F H ss vs → ArgOk G F H (k a :: ss) (v :: vs)
theorem ps_F {α : Type} [Rp α] : Ps (α := α) .F Slot.fz := fun _ _ r => fun q => ⟨r, q⟩
theorem ps_B {α : Type} [Rp α] {md : Md} : Ps (α := α) md Slot.bw := fun s1 s2 r => fun q => ⟨Rp.mono (hpM_H s1 s2) r, q⟩
theorem Fin.ext0 {G : Gb} {H F F' H' : Hp} (f : Fin G H F F' H') : Ext F H F' H' := ⟨f.s0, f.sB, f.nw⟩
theorem Xc.mono {G : Gb} {B H : Hp} {E : XK} {c : Str} (h : Xc G B E c) (s : Same B H) : Xc G H E c := fun H' s' => h H' (s.trans s')
section
variable {G : Gb} {B : Hp} {E : XK} {ρ : Evr} {mr : Md}
theorem ev_call1 {R : Type} [Rp R] {α1 : Type} [Rp α1] {k1 : α1 → Slot} {d1 : Md} {m1 : M α1} {t1 : TE} {f : α1 → M R} (h1 : Ev G B E d1 ρ t1 m1) (p1 : Ps d1 k1) : Ev G B E .F ρ (tCall (spA G (fun (p : α1) => [k1 p]) (rpF G) (fun (p : α1) => f (p))) [] E0 (tCons t1 tNil)) (m1.b fun a1 => M.cl (f a1)) := fun F0 F σ H Q R0 q => by
  refine h1.go R0 q fun a1 F1 v1 H1 e1 r1 R1 q => ?_
  refine ⟨a1, F1, R1.sF, (p1 R1.sB R1.sF r1 trivial), ?_⟩
  refine (M.P_cl q).imp (fun a k F' v H' f h => ?_) fun _ z => z.elim
  have e := f.ext0
  exact k F' v H' (e1.trans e) f.sF h
theorem en_call1 {R : Type} [Rp R] [Rc R] {α1 : Type} [Rp α1] {k1 : α1 → Slot} {d1 : Md} {m1 : M α1} {t1 : TE} {f : α1 → M R} (h1 : Ev G B E d1 ρ t1 m1) (p1 : Ps d1 k1) : EvN G B E ρ (tCall (spA G (fun (p : α1) => [k1 p]) (rpN G) (fun (p : α1) => f (p))) [] E0 (tCons t1 tNil)) (m1.b fun a1 => M.cl (f a1)) := fun F0 F σ H Q R0 q => by
  refine h1.go R0 q fun a1 F1 v1 H1 e1 r1 R1 q => ?_
  refine ⟨a1, F1, R1.sF, (p1 R1.sB R1.sF r1 trivial), ?_⟩
  refine (M.P_cl q).imp (fun a k F' v H' f h => ?_) fun _ z => z.elim
  have e := f.ext0
  obtain ⟨p, o, rfl, h1, h2, h3, h4⟩ := h
  exact k F' p o H' (e1.trans e) f.sF (e1.h.free h1) h2 h3 h4
theorem ev_call2 {R : Type} [Rp R] {α1 : Type} [Rp α1] {α2 : Type} [Rp α2] {k1 : α1 → Slot} {k2 : α2 → Slot} {d1 : Md} {d2 : Md} {m1 : M α1} {t1 : TE} {m2 : M α2} {t2 : TE} {f : α1 → α2 → M R} (h1 : Ev G B E d1 ρ t1 m1) (p1 : Ps d1 k1) (h2 : Ev G B E d2 ρ t2 m2) (p2 : Ps d2 k2) : Ev G B E .F ρ (tCall (spA G (fun (p : α1 × α2) => [k1 p.1, k2 p.2]) (rpF G) (fun (p : α1 × α2) => f (p.1) (p.2))) [] E0 (tCons t1 (tCons t2 tNil))) (m1.b fun a1 => m2.b fun a2 => M.cl (f a1 a2)) := fun F0 F σ H Q R0 q => by
  refine h1.go R0 q fun a1 F1 v1 H1 e1 r1 R1 q => ?_
  refine h2.go R1 q fun a2 F2 v2 H2 e2 r2 R2 q => ?_
  refine ⟨(a1, a2), F2, R2.sF, (p1 R2.sB R2.sF (Rp.mono (hpM_ext e2) r1) (p2 R2.sB R2.sF r2 trivial)), ?_⟩
  refine (M.P_cl q).imp (fun a k F' v H' f h => ?_) fun _ z => z.elim
  have e := f.ext0
  exact k F' v H' ((e1.trans e2).trans e) f.sF h
theorem en_call2 {R : Type} [Rp R] [Rc R] {α1 : Type} [Rp α1] {α2 : Type} [Rp α2] {k1 : α1 → Slot} {k2 : α2 → Slot} {d1 : Md} {d2 : Md} {m1 : M α1} {t1 : TE} {m2 : M α2} {t2 : TE} {f : α1 → α2 → M R} (h1 : Ev G B E d1 ρ t1 m1) (p1 : Ps d1 k1) (h2 : Ev G B E d2 ρ t2 m2) (p2 : Ps d2 k2) : EvN G B E ρ (tCall (spA G (fun (p : α1 × α2) => [k1 p.1, k2 p.2]) (rpN G) (fun (p : α1 × α2) => f (p.1) (p.2))) [] E0 (tCons t1 (tCons t2 tNil))) (m1.b fun a1 => m2.b fun a2 => M.cl (f a1 a2)) := fun F0 F σ H Q R0 q => by
  refine h1.go R0 q fun a1 F1 v1 H1 e1 r1 R1 q => ?_
  refine h2.go R1 q fun a2 F2 v2 H2 e2 r2 R2 q => ?_
  refine ⟨(a1, a2), F2, R2.sF, (p1 R2.sB R2.sF (Rp.mono (hpM_ext e2) r1) (p2 R2.sB R2.sF r2 trivial)), ?_⟩
  refine (M.P_cl q).imp (fun a k F' v H' f h => ?_) fun _ z => z.elim
  have e := f.ext0
  obtain ⟨p, o, rfl, h1, h2, h3, h4⟩ := h
  exact k F' p o H' ((e1.trans e2).trans e) f.sF ((e1.trans e2).h.free h1) h2 h3 h4
theorem en_callX2 {R : Type} [Rp R] [Rc R] {α1 : Type} [Rp α1] {α2 : Type} [Rp α2] {k1 : α1 → Slot} {k2 : α2 → Slot} {d1 : Md} {d2 : Md} {m1 : M α1} {t1 : TE} {m2 : M α2} {t2 : TE} {f : α1 → α2 → M R} (h1 : Ev G B E d1 ρ t1 m1) (p1 : Ps d1 k1) (h2 : Ev G B E d2 ρ t2 m2) (p2 : Ps d2 k2) : EvN G B E ρ (tCall (spA G (fun (p : α1 × α2) => [k1 p.1, k2 p.2]) (rpN G) (fun (p : α1 × α2) => f (p.1) (p.2))) [] E (tCons t1 (tCons t2 tNil))) (m1.b fun a1 => m2.b fun a2 => f a1 a2) := fun F0 F σ H Q R0 q => by
  refine h1.go R0 q fun a1 F1 v1 H1 e1 r1 R1 q => ?_
  refine h2.go R1 q fun a2 F2 v2 H2 e2 r2 R2 q => ?_
  refine ⟨(a1, a2), F2, R2.sF, (p1 R2.sB R2.sF (Rp.mono (hpM_ext e2) r1) (p2 R2.sB R2.sF r2 trivial)), ?_⟩
  refine M.P.imp q (fun a k F' v H' f h => ?_) fun _ z => z.mono R2.sB
  have e := f.ext0
  obtain ⟨p, o, rfl, h1, h2, h3, h4⟩ := h
  exact k F' p o H' ((e1.trans e2).trans e) f.sF ((e1.trans e2).h.free h1) h2 h3 h4
theorem ev_callVX2 {α1 : Type} [Rp α1] {α2 : Type} [Rp α2] {k1 : α1 → Slot} {k2 : α2 → Slot} {d1 : Md} {d2 : Md} {m1 : M α1} {t1 : TE} {m2 : M α2} {t2 : TE} {f : α1 → α2 → M Unit} (h1 : Ev G B E d1 ρ t1 m1) (p1 : Ps d1 k1) (h2 : Ev G B E d2 ρ t2 m2) (p2 : Ps d2 k2) : Ev G B E mr ρ (tCall (spA G (fun (p : α1 × α2) => [k1 p.1, k2 p.2]) rpV (fun (p : α1 × α2) => f (p.1) (p.2))) [] E (tCons t1 (tCons t2 tNil))) (m1.b fun a1 => m2.b fun a2 => f a1 a2) := fun F0 F σ H Q R0 q => by
  refine h1.go R0 q fun a1 F1 v1 H1 e1 r1 R1 q => ?_
  refine h2.go R1 q fun a2 F2 v2 H2 e2 r2 R2 q => ?_
  refine ⟨(a1, a2), F2, R2.sF, (p1 R2.sB R2.sF (Rp.mono (hpM_ext e2) r1) (p2 R2.sB R2.sF r2 trivial)), ?_⟩
  refine M.P.imp q (fun a k F' v H' f h => ?_) fun _ z => z.mono R2.sB
  have e := f.ext0
  exact k F' v H' ((e1.trans e2).trans e) f.sF h
theorem ev_call3 {R : Type} [Rp R] {α1 : Type} [Rp α1] {α2 : Type} [Rp α2] {α3 : Type} [Rp α3] {k1 : α1 → Slot} {k2 : α2 → Slot} {k3 : α3 → Slot} {d1 : Md} {d2 : Md} {d3 : Md} {m1 : M α1} {t1 : TE} {m2 : M α2} {t2 : TE} {m3 : M α3} {t3 : TE} {f : α1 → α2 → α3 → M R} (h1 : Ev G B E d1 ρ t1 m1) (p1 : Ps d1 k1) (h2 : Ev G B E d2 ρ t2 m2) (p2 : Ps d2 k2) (h3 : Ev G B E d3 ρ t3 m3) (p3 : Ps d3 k3) : Ev G B E .F ρ (tCall (spA G (fun (p : α1 × α2 × α3) => [k1 p.1, k2 p.2.1, k3 p.2.2]) (rpF G) (fun (p : α1 × α2 × α3) => f (p.1) (p.2.1) (p.2.2))) [] E0 (tCons t1 (tCons t2 (tCons t3 tNil)))) (m1.b fun a1 => m2.b fun a2 => m3.b fun a3 => M.cl (f a1 a2 a3)) := fun F0 F σ H Q R0 q => by
  refine h1.go R0 q fun a1 F1 v1 H1 e1 r1 R1 q => ?_
  refine h2.go R1 q fun a2 F2 v2 H2 e2 r2 R2 q => ?_
  refine h3.go R2 q fun a3 F3 v3 H3 e3 r3 R3 q => ?_
  refine ⟨(a1, a2, a3), F3, R3.sF, (p1 R3.sB R3.sF (Rp.mono (hpM_ext e3) (Rp.mono (hpM_ext e2) r1)) (p2 R3.sB R3.sF (Rp.mono (hpM_ext e3) r2) (p3 R3.sB R3.sF r3 trivial))), ?_⟩
  refine (M.P_cl q).imp (fun a k F' v H' f h => ?_) fun _ z => z.elim
  have e := f.ext0
  exact k F' v H' (((e1.trans e2).trans e3).trans e) f.sF h
theorem en_call3 {R : Type} [Rp R] [Rc R] {α1 : Type} [Rp α1] {α2 : Type} [Rp α2] {α3 : Type} [Rp α3] {k1 : α1 → Slot} {k2 : α2 → Slot} {k3 : α3 → Slot} {d1 : Md} {d2 : Md} {d3 : Md} {m1 : M α1} {t1 : TE} {m2 : M α2} {t2 : TE} {m3 : M α3} {t3 : TE} {f : α1 → α2 → α3 → M R} (h1 : Ev G B E d1 ρ t1 m1) (p1 : Ps d1 k1) (h2 : Ev G B E d2 ρ t2 m2) (p2 : Ps d2 k2) (h3 : Ev G B E d3 ρ t3 m3) (p3 : Ps d3 k3) : EvN G B E ρ (tCall (spA G (fun (p : α1 × α2 × α3) => [k1 p.1, k2 p.2.1, k3 p.2.2]) (rpN G) (fun (p : α1 × α2 × α3) => f (p.1) (p.2.1) (p.2.2))) [] E0 (tCons t1 (tCons t2 (tCons t3 tNil)))) (m1.b fun a1 => m2.b fun a2 => m3.b fun a3 => M.cl (f a1 a2 a3)) := fun F0 F σ H Q R0 q => by
  refine h1.go R0 q fun a1 F1 v1 H1 e1 r1 R1 q => ?_
  refine h2.go R1 q fun a2 F2 v2 H2 e2 r2 R2 q => ?_
  refine h3.go R2 q fun a3 F3 v3 H3 e3 r3 R3 q => ?_
  refine ⟨(a1, a2, a3), F3, R3.sF, (p1 R3.sB R3.sF (Rp.mono (hpM_ext e3) (Rp.mono (hpM_ext e2) r1)) (p2 R3.sB R3.sF (Rp.mono (hpM_ext e3) r2) (p3 R3.sB R3.sF r3 trivial))), ?_⟩
  refine (M.P_cl q).imp (fun a k F' v H' f h => ?_) fun _ z => z.elim
  have e := f.ext0
  obtain ⟨p, o, rfl, h1, h2, h3, h4⟩ := h
  exact k F' p o H' (((e1.trans e2).trans e3).trans e) f.sF (((e1.trans e2).trans e3).h.free h1) h2 h3 h4
theorem ev_call4 {R : Type} [Rp R] {α1 : Type} [Rp α1] {α2 : Type} [Rp α2] {α3 : Type} [Rp α3] {α4 : Type} [Rp α4] {k1 : α1 → Slot} {k2 : α2 → Slot} {k3 : α3 → Slot} {k4 : α4 → Slot} {d1 : Md} {d2 : Md} {d3 : Md} {d4 : Md} {m1 : M α1} {t1 : TE} {m2 : M α2} {t2 : TE} {m3 : M α3} {t3 : TE} {m4 : M α4} {t4 : TE} {f : α1 → α2 → α3 → α4 → M R} (h1 : Ev G B E d1 ρ t1 m1) (p1 : Ps d1 k1) (h2 : Ev G B E d2 ρ t2 m2) (p2 : Ps d2 k2) (h3 : Ev G B E d3 ρ t3 m3) (p3 : Ps d3 k3) (h4 : Ev G B E d4 ρ t4 m4) (p4 : Ps d4 k4) : Ev G B E .F ρ (tCall (spA G (fun (p : α1 × α2 × α3 × α4) => [k1 p.1, k2 p.2.1, k3 p.2.2.1, k4 p.2.2.2]) (rpF G) (fun (p : α1 × α2 × α3 × α4) => f (p.1) (p.2.1) (p.2.2.1) (p.2.2.2))) [] E0 (tCons t1 (tCons t2 (tCons t3 (tCons t4 tNil))))) (m1.b fun a1 => m2.b fun a2 => m3.b fun a3 => m4.b fun a4 => M.cl (f a1 a2 a3 a4)) := fun F0 F σ H Q R0 q => by
  refine h1.go R0 q fun a1 F1 v1 H1 e1 r1 R1 q => ?_
  refine h2.go R1 q fun a2 F2 v2 H2 e2 r2 R2 q => ?_
  refine h3.go R2 q fun a3 F3 v3 H3 e3 r3 R3 q => ?_
  refine h4.go R3 q fun a4 F4 v4 H4 e4 r4 R4 q => ?_
  refine ⟨(a1, a2, a3, a4), F4, R4.sF, (p1 R4.sB R4.sF (Rp.mono (hpM_ext e4) (Rp.mono (hpM_ext e3) (Rp.mono (hpM_ext e2) r1))) (p2 R4.sB R4.sF (Rp.mono (hpM_ext e4) (Rp.mono (hpM_ext e3) r2)) (p3 R4.sB R4.sF (Rp.mono (hpM_ext e4) r3) (p4 R4.sB R4.sF r4 trivial)))), ?_⟩
  refine (M.P_cl q).imp (fun a k F' v H' f h => ?_) fun _ z => z.elim
  have e := f.ext0
  exact k F' v H' ((((e1.trans e2).trans e3).trans e4).trans e) f.sF h
end
end Tw
set_option Elab.async false
set_option linter.all false
set_option maxRecDepth 100000
set_option maxHeartbeats 4000000
namespace Tw
open PySem PySem.Spec L2 TL
open PyProof.Rows hiding St
theorem arg_all {G : Gb} {F H : Hp} : ∀ {ss : List Slot} {vs : List V}, ArgOk G F H ss vs → All2 (fun s v => SlOk G H F H (some s) (some v) ∧ isOw (some s) = false) ss vs
  | [], [], _ => .nil
  | @Slot.fz _ i a :: ss, v :: vs, h => .cons ⟨⟨v, rfl, h.1⟩, rfl⟩ (arg_all h.2)
  | @Slot.bw _ i a :: ss, v :: vs, h => .cons ⟨⟨v, rfl, h.1⟩, rfl⟩ (arg_all h.2)
  | @Slot.ow _ _ _ _ :: _, _, h => by cases h
  | @Slot.lk _ _ _ _ _ _ _ :: _, _, h => by cases h
  | Slot.dr _ _ :: _, _, h => by cases h
  | @Slot.dd _ _ _ _ _ _ _ _ :: _, _, h => by cases h
  | Slot.ins _ _ _ _ _ :: _, _, h => by cases h
  | @Slot.rg _ _ _ _ :: _, _, h => by cases h
  | @Slot.al _ _ _ _ :: _, _, h => by cases h
  | @Slot.sh _ _ _ :: _, _, h => by cases h
  | Slot.vl _ :: _, _, h => by cases h
  | [], _ :: _, h => by cases h
  | @Slot.fz _ _ _ :: _, [], h => by cases h
  | @Slot.bw _ _ _ :: _, [], h => by cases h
theorem arg_at {G : Gb} {F H : Hp} {ss : List Slot} {vs : List V} {n i : Nat} {s : Option Slot} (h : All2 (fun s v => SlOk G H F H (some s) (some v) ∧ isOw (some s) = false) ss vs) (hs : (ss.map some ++ List.replicate n none)[i]? = some s) :
    isOw s = false ∧ ∀ x, (vs.map some ++ List.replicate n none)[i]? = some x → SlOk G H F H s x := by
  by_cases hi : i < ss.length
  · rw [List.getElem?_append_left (by rw [List.length_map]; exact hi), List.getElem?_map, List.getElem?_eq_getElem hi] at hs
    obtain ⟨v, ev, h1, h2⟩ := h.get (List.getElem?_eq_getElem hi)
    cases hs
    refine ⟨h2, fun x hx => ?_⟩
    rw [List.getElem?_append_left (by rw [List.length_map, ← h.len]; exact hi), List.getElem?_map, ev] at hx
    cases hx
    exact h1
  · rw [List.getElem?_append_right (by rw [List.length_map]; omega), List.getElem?_replicate] at hs
    split at hs
    · cases hs
      exact ⟨rfl, fun _ _ => trivial⟩
    · cases hs
theorem rel_args {G : Gb} {F H : Hp} {ss : List Slot} {vs : List V} (n : Nat) (s : Same F H) (h : ArgOk G F H ss vs) : Rel G H F F (ss.map some ++ List.replicate n none) (vs.map some ++ List.replicate n none) H where
  sB := .refl _
  sF := s
  s0 := .refl _
  nw := fun a h q => absurd h q
  len := by rw [List.length_append, List.length_append, List.length_map, List.length_map, (arg_all h).len]; simp
  sl := fun i s x hs hx => (arg_at (arg_all h) hs).2 x hx
  ds := fun i j s t x y b hi _ _ _ f _ => by have := (arg_at (arg_all h) hi).1; rw [f.own] at this; cases this
section
variable {G : Gb} {P R : Type} {sl : P → List Slot} {rp : RP R} {f : P → M R} {N : List Str} {n k : Nat} {vs : List V} {H : Hp} {Q : VK} {E : XK} {t : TS}
theorem spA_len (hs : spA G sl rp f vs H Q E) (hk : ∀ p, (sl p).length = k) : vs.length = k := by
  obtain ⟨p, F0, _, a, _⟩ := hs
  rw [← (arg_all a).len, hk]
theorem spA_run (hs : spA G sl rp f vs H Q E) (hn : ∀ p, N.length = (sl p).length + n) (h : ∀ p B, Run G B E (oR G B rp) ((sl p).map some ++ List.replicate n none) t (f p)) : t (dEnd Q) (start N vs) H := by
  obtain ⟨p, F0, s, a, q⟩ := hs
  have e : N.length - vs.length = n := by rw [← (arg_all a).len, hn p]; omega
  rw [start_of, e]
  exact h p H F0 F0 _ H _ (rel_args n s a) (q.imp (fun r k F' v H' f h => k F' v H' f h) fun _ x => x)
theorem spV_run {f : P → M Unit} (hs : spA G sl rpV f vs H Q E) (hn : ∀ p, N.length = (sl p).length + n) (h : ∀ p B, Run G B E (oV G B) ((sl p).map some ++ List.replicate n none) t (f p)) : t (dEnd Q) (start N vs) H := by
  obtain ⟨p, F0, s, a, q⟩ := hs
  have e : N.length - vs.length = n := by rw [← (arg_all a).len, hn p]; omega
  rw [start_of, e]
  exact h p H F0 F0 _ H _ (rel_args n s a) (q.imp (fun r k F' σ' H' f => ⟨k F' .non H' f rfl, k F' .non H' f rfl⟩) fun _ x => x)
/-- the law itself -/
theorem spA_law {f : Scr → M Bool} {a : Addr} {ns : List Int} (hl : SqL G.K H a (ns.map V.int)) (hf : f ⟨ns⟩ = .ok true) (hq : ∀ H', Q (.bl true) H') : spA G (fun p : Scr => [.bw p]) (rpF G) f [.ref a] H Q E :=
  ⟨⟨ns⟩, fun _ => none, (fun _ _ e => nomatch e), ⟨⟨a, rfl, hl⟩, trivial⟩, by rw [hf]; exact fun F' v H' _ h => by rw [show v = .bl true from h]; exact hq H'⟩
end
section
variable {G : Gb} {B : Hp} {E : XK} {ρ : Evr} {α β κ : Type} [Rp α] [Rp β] [Rp κ] [DecidableEq κ] [Ky κ] {md md' mr : Md} {ta tb tc te : TE} {g : TG} {ts : List Nat} {bind : κ → Evr → Evr} {S Ω : Type} {EX : S → Evr}
abbrev keysOf {κ α : Type} (d : Dk κ α) : List κ := d.l.map (·.1)
theorem en_sorted {m : M (List Str)} (h : Ev G B E md ρ te m) : EvN G B E ρ (tCB (rSortedS G.K) (tCons te tNil)) (m.b fun l => .chk (l.length < 64) (.ok (srt l))) := fun F0 F σ H Q R q =>
  h.toH.go R q fun l F1 v H1 e1 r1 R1 q => by
    obtain ⟨c, q⟩ := M.P_chk.mp q
    obtain ⟨p, vs, rfl, h1, h2⟩ := r1
    rw [strs_of h2] at h1
    refine ⟨p, l, rfl, .of h1, c, fun ys d hp hs nd => ?_⟩
    rw [srt_unique hp hs]
    exact q F1 d _ _ (e1.trans (.new nd)) (R1.sF.trans (same_upd nd)) (e1.h.free nd) (R1.sF.free nd) upd_same ⟨_, rfl, All2.of_map (R := rep G F1) (f := V.str) (fun _ => rfl) _⟩
abbrev qSortedD : List V → Hp → VK → Prop := fun xs H Q => ∃ (a : Addr) (kvs : List (Key × V)) (ks : List Str), xs = [.ref a] ∧ Rd H a (.dK kvs) ∧ kvs.map (·.1) = ks.map Sum.inr ∧ ks.length < 64 ∧
    ∀ ys p, ys.Perm ks → sortedS ys = true → H p = none → Q (.ref p) (upd H p (.lst (ys.map V.str)))
abbrev qListD : List V → Hp → VK → Prop := fun xs H Q => ∃ (a : Addr) (kvs : List (Key × V)), xs = [.ref a] ∧ Rd H a (.dK kvs) ∧ ∀ p, H p = none → Q (.ref p) (upd H p (.lst (kvs.map fun kv => kV kv.1)))
theorem keys_map {H : Hp} : ∀ {kvs : List (Key × V)} {l : List (κ × α)}, repk G H kvs l → kvs.map (·.1) = (l.map (·.1)).map Ky.key
  | _, _, .nil => rfl
  | _, _, .cons h t => by rw [List.map_cons, List.map_cons, List.map_cons, keys_map t, h.1]
theorem en_sortedD {m : M (Dk Str α)} (h : Ev G B E md ρ te m) : EvN G B E ρ (tCB qSortedD (tCons te tNil)) (m.b fun d => .chk ((keysOf d).length < 64) (.ok (srt (keysOf d)))) := fun F0 F σ H Q R q =>
  h.toH.go R q fun d F1 v H1 e1 r1 R1 q => by
    obtain ⟨c, q⟩ := M.P_chk.mp q
    obtain ⟨p, kvs, rfl, h1, h2⟩ := r1
    refine ⟨p, kvs, keysOf d, rfl, h1, keys_map h2, c, fun ys d hp hs nd => ?_⟩
    rw [srt_unique hp hs]
    exact q F1 d _ _ (e1.trans (.new nd)) (R1.sF.trans (same_upd nd)) (e1.h.free nd) (R1.sF.free nd) upd_same ⟨_, rfl, All2.of_map (R := rep G F1) (f := V.str) (fun _ => rfl) _⟩
theorem en_listD {m : M (Dk κ α)} (h : Ev G B E md ρ te m) : EvN G B E ρ (tCB qListD (tCons te tNil)) (m.b fun d => .ok (keysOf d)) := fun F0 F σ H Q R q =>
  h.toH.go R q fun d F1 v H1 e1 r1 R1 q => by
    obtain ⟨p, kvs, rfl, h1, h2⟩ := r1
    refine ⟨p, kvs, rfl, h1, fun c nc => ?_⟩
    refine q F1 c _ _ (e1.trans (.new nc)) (R1.sF.trans (same_upd nc)) (e1.h.free nc) (R1.sF.free nc) upd_same ⟨_, rfl, ?_⟩
    have e : kvs.map (fun kv => kV kv.1) = (keysOf d).map (fun k => kV (Ky.key k)) := by
      have z := congrArg (List.map kV) (keys_map h2)
      rw [List.map_map, List.map_map] at z
      exact z
    rw [e]
    exact All2.of_map (R := rep G F1) (f := fun k => kV (Ky.key k)) (fun k => (Ky.iff _ _ _ _).mpr rfl) _
/-- {k: v} -/
theorem en_disp1 {mk : M κ} {mv : M α} (hk : Ev G B E md ρ ta mk) (hv : Ev G B E .F ρ tb mv) : EvN G B E ρ (tDisp [(ta, tb)]) (mk.b fun k => mv.b fun v => .ok (⟨[(k, v)]⟩ : Dk κ α)) := fun F0 F σ H Q R q => fun p np => by
  have e0 : Ext F H F (upd H p (.dK [])) := .new np
  have R0 := R.ext e0 (R.sF.trans (same_upd np))
  refine hk.go R0 q fun k F1 v H1 e1 r1 R1 q => hv.go R1 q fun w F2 u H2 e2 r2 R2 q => ?_
  have e12 := e1.trans e2
  have hp : H2 p = some (.dK []) := e12.h _ _ upd_same
  refine ⟨hp, [(Ky.key k, u)], by rw [(Ky.iff _ _ _ _).mp r1]; rfl, (show 1 ≤ 15 by decide), ?_⟩
  have fp : F2 p = none := e12.non upd_same (R.sF.free np)
  refine q F2 p _ _ ⟨(e0.trans e12).f, fun b o z => ?_, (e0.trans e12).n⟩ (same_updR R2.sF fp) np fp upd_same ⟨_, rfl, .cons ⟨rfl, r2⟩ .nil⟩
  rw [upd_ne (ne_of_none z np)]
  exact (e0.trans e12).h _ _ z
end
end Tw
set_option Elab.async false
set_option linter.all false
set_option maxRecDepth 100000
set_option maxHeartbeats 4000000
namespace Tw
open PySem PySem.Spec L2 TL
open PyProof.Rows hiding St
section
variable {G : Gb} {B : Hp} {E : XK} {ρ ρ' : Evr} {α β γ δ : Type} [Rp α] [Rp β] [Rp γ] [Rp δ] {md md' mr : Md} {ta tb tc td te : TE} {Ω S S' R : Type} {post : Hp → Ω → Ends → Prop} {EX : S → Evr} {rp : RP R} {t t1 t2 rest : TS}
theorem run_cutR {m : M R} (h : Run G B E (oR G B rp) ρ t m) : Run G B E (oR G B rp) ρ (tSeq t rest) m := fun F0 F σ H D RR q => h F0 F σ H _ RR q
end
end Tw
set_option Elab.async false
set_option linter.all false
set_option maxRecDepth 100000
set_option maxHeartbeats 4000000
namespace Tw
open PySem PySem.Spec L2 TL
open PyProof.Rows hiding St
/-- a name put in at a place of the k-th row -/
def insAt (ts : List Str) (j : Int) (a : Str) : List Str := ts.take j.toNat ++ [a] ++ ts.drop j.toNat
def rowIns (rows : RowsT) (k : Nat) (j : Int) (a : Str) : RowsT := rows.modify k fun r => (r.1, insAt r.2 j a)
section
variable {G : Gb} {B : Hp} {E : XK} {ρ ρ' : Evr} {α β γ δ : Type} [Rp α] [Rp β] [Rp γ] [Rp δ] {md md' mr : Md} {ta tb tc te : TE} {g : TG} {ts : List Nat} {bind : α → Evr → Evr}
  {Ω S S' R : Type} {post : Hp → Ω → Ends → Prop} {EX : S → Evr} {EX' : S' → Evr} {rp : RP R} {t t1 t2 rest : TS} {i : Nat} {p : Addr} {rows : RowsT}
theorem Rel.dr {F0 F H : Hp} {σ : L2.St} (R : Rel G B F0 F ρ σ H) (h : ρ[i]? = some (some (.dr p rows))) : ∃ cs, σ[i]? = some (some (.ref p)) ∧ Rows H p cs ∧ cs.map RC.r = rows ∧ ∀ b, FpR p cs b → B b = none ∧ F b = none := by
  obtain ⟨x, e, cs, rfl, h1, h2, h3⟩ := R.at h
  exact ⟨cs, e, h1, h2, h3⟩
theorem ev_dr (h : ρ[i]? = some (some (.dr p rows))) : Ev G B E .H ρ (tVar i) (.ok rows) := fun F0 F σ H Q R q => by
  obtain ⟨cs, e, h1, h2, h3⟩ := R.dr h
  exact ⟨_, e, q F _ H (.refl _ _) R.sF (by rw [← h2]; exact h1.rep)⟩
theorem Rows.ext {F H F' H' : Hp} {cs : List RC} (h : Rows H p cs) (e : Ext F H F' H') : Rows H' p cs := h.keep fun _ _ _ z => e.h _ _ z
theorem modify_map {cs : List RC} {k : Nat} {f : Str × List Str → Str × List Str} {g : RC → RC} (h : ∀ c, (g c).r = f c.r) : (cs.modify k g).map RC.r = (cs.map RC.r).modify k f := by
  refine List.ext_getElem? fun j => ?_
  rw [List.getElem?_map, List.getElem?_modify, List.getElem?_modify, List.getElem?_map]
  cases cs[j]? with
  | none => rfl
  | some c => by_cases e : k = j <;> simp [e, h]
theorem modify_field {β : Type} {cs : List RC} {k : Nat} {g : RC → RC} {f : RC → β} (h : ∀ c, f (g c) = f c) : (cs.modify k g).map f = cs.map f := by
  refine List.ext_getElem? fun j => ?_
  rw [List.getElem?_map, List.getElem?_modify, List.getElem?_map]
  cases cs[j]? with
  | none => rfl
  | some c => by_cases e : k = j <;> simp [e, h]
theorem mem_modify {cs : List RC} {k : Nat} {g : RC → RC} {c : RC} (h : c ∈ cs.modify k g) : ∃ j d, cs[j]? = some d ∧ c = if k = j then g d else d := by
  obtain ⟨j, hj⟩ := List.mem_iff_getElem?.mp h
  rw [List.getElem?_modify] at hj
  cases e : cs[j]? with
  | none => rw [e] at hj; cases hj
  | some d =>
    rw [e] at hj
    refine ⟨j, d, e, ?_⟩
    exact (Option.some.inj hj).symm
/-- the k-th row's list is another -/
theorem Rows.setl {H : Hp} {cs : List RC} {k : Nat} {c : RC} {ts' : List Str} (h : Rows H p cs) (hk : cs[k]? = some c) : Rows (upd H c.l (.lst (ts'.map V.str))) p (cs.modify k fun c => { c with ts := ts' }) ∧ ∀ b, FpR p (cs.modify k fun c => { c with ts := ts' }) b → FpR p cs b := by
  have hc := List.mem_of_getElem? hk
  have nlp : ∀ d ∈ cs, d.p ≠ c.l := fun d hd e => by have := h.tp d hd; rw [e, h.ls c hc] at this; cases this
  have pl : p ≠ c.l := (h.ne c hc).symm
  have at' : ∀ d ∈ cs.modify k (fun c => { c with ts := ts' }), ∃ e ∈ cs, d.p = e.p ∧ d.l = e.l ∧ d.n = e.n ∧ (d.ts = e.ts ∧ d.l ≠ c.l ∨ d.ts = ts' ∧ d.l = c.l) := fun d hd => by
    obtain ⟨j, e, hj, rfl⟩ := mem_modify hd
    have he := List.mem_of_getElem? hj
    refine ⟨e, he, ?_⟩
    by_cases z : k = j
    · subst z
      rw [hk] at hj
      cases hj
      rw [if_pos rfl]
      exact ⟨rfl, rfl, rfl, .inr ⟨rfl, rfl⟩⟩
    · rw [if_neg z]
      refine ⟨rfl, rfl, rfl, .inl ⟨rfl, fun q => z ?_⟩⟩
      have e1 : (cs.map RC.l)[k]? = some c.l := by rw [List.getElem?_map, hk]; rfl
      have e2 : (cs.map RC.l)[j]? = some c.l := by rw [List.getElem?_map, hj, ← q]; rfl
      exact (List.getElem?_inj (List.getElem?_eq_some_iff.mp e1).1 h.nl).mp (e1.trans e2.symm)
  refine ⟨⟨?_, fun d hd => ?_, fun d hd => ?_, ?_, fun d hd => ?_⟩, fun b f => ?_⟩
  · rw [upd_ne pl, modify_field (g := fun c : RC => { c with ts := ts' }) (f := fun c => V.ref c.p) (fun _ => rfl)]
    exact h.top
  · obtain ⟨e, he, e1, e2, e3, _⟩ := at' d hd
    rw [e1, e2, e3, upd_ne (nlp e he)]
    exact h.tp e he
  · obtain ⟨e, he, e1, e2, e3, e4⟩ := at' d hd
    rcases e4 with ⟨e4, e5⟩ | ⟨e4, e5⟩
    · rw [upd_ne e5, e4, e2]; exact h.ls e he
    · rw [e5, upd_same, e4]
  · rw [modify_field (g := fun c : RC => { c with ts := ts' }) (f := RC.l) (fun _ => rfl)]
    exact h.nl
  · obtain ⟨e, he, e1, e2, _⟩ := at' d hd
    rw [e2]; exact h.ne e he
  · rcases f with f | ⟨d, hd, f⟩
    · exact .inl f
    · obtain ⟨e, he, e1, e2, _⟩ := at' d hd
      rw [e1, e2] at f
      exact .inr ⟨e, he, f⟩
/-- rows[r][1].insert(j, a) -/
theorem run_rowIns {m0 m1 : M Int} {m2 : M Str} {k : Int → Nat → Int → Str → M Ω} {t0 ti : TE} (h : ρ[i]? = some (some (.dr p rows))) (h0 : Ev G B E md ρ t0 m0) (h1 : Ev G B E md' ρ ti m1) (h2 : Ev G B E mr ρ te m2)
    (hk : ∀ r n j a, Run G B E post (ρ.set i (some (.dr p (rowIns rows n j a)))) rest (k r n j a)) :
    Run G B E post ρ (tSeq (tDrop (tBM G.K "list" qInsert (tOp (rIxT G.K) (tOp (rIxL G.K) (tVar i) t0) (tC (.int 1))) (tCons ti (tCons te tNil)))) rest)
      (m0.b fun r => (M.get (ixN rows.length r)).b fun n => m1.b fun j => m2.b fun a => .chk ((∀ x, rows[n]? = some x → x.2.length < sizeLine) ∧ 0 ≤ j ∧ j < 2 ^ 63) (k r n j a)) := fun F0 F σ H D R q => by
  obtain ⟨cs, e, r1, r2, r3⟩ := R.dr h
  refine ⟨_, e, h0.go R q fun r F1 u H1 e1 q1 R1 q => ?_⟩
  obtain ⟨n, en, q⟩ := M.P_get.mp (M.P_b.mp q)
  have hl : rows.length = cs.length := by rw [← r2, List.length_map]
  obtain ⟨c, hc⟩ : ∃ c, cs[n]? = some c := by
    rw [hl] at en
    have := (ixN_seq en).2.1
    exact ⟨cs[n], List.getElem?_eq_getElem this⟩
  have hcm := List.mem_of_getElem? hc
  have ra := r1.ext e1
  refine ⟨p, _, r, .ref c.p, rfl, q1, .of ra.top, ?_, c.p, _, 1, .ref c.l, rfl, rfl, .of (ra.tp c hcm), rfl, ?_⟩
  · unfold atI
    rw [List.length_map, ← hl, en]
    show (cs.map _)[n]? = _
    rw [List.getElem?_map, hc]
    rfl
  refine ⟨.inl ⟨rfl, _, .of (ra.ls c hcm)⟩, h1.go R1 q fun j F2 u2 H2 e2 q2 R2 q => h2.go R2 q fun a F3 u3 H3 e3 q3 R3 q => ?_⟩
  obtain ⟨cc, q⟩ := M.P_chk.mp q
  have rb := (ra.ext e2).ext e3
  have hrn : rows[n]? = some c.r := by rw [← r2, List.getElem?_map, hc]; rfl
  refine ⟨c.l, _, j, u3, rfl, by rw [show u2 = .int j from q2], rb.ls c hcm, by rw [List.length_map]; exact cc.1 _ hrn, cc.2.1, cc.2.2, hk r n j a F0 F3 σ _ D ?_ q⟩
  rw [show u3 = .str a from q3]
  obtain ⟨w1, w2⟩ := rb.setl (ts' := insAt c.ts j a) hc
  have ee : (c.ts.map V.str).take j.toNat ++ [V.str a] ++ (c.ts.map V.str).drop j.toNat = (insAt c.ts j a).map V.str := by
    unfold insAt
    rw [List.map_append, List.map_append, List.map_take, List.map_drop]
    rfl
  rw [ee]
  have fp3 : ∀ b, FpR p cs b → B b = none ∧ F3 b = none := fun b f => by
    obtain ⟨o, ho⟩ := r1.there f
    exact ⟨(r3 b f).1, ((e1.trans e2).trans e3).non ho (r3 b f).2⟩
  refine R3.mod h e (fun b o nf z => ?_) ⟨_, rfl, w1, ?_, fun b f => fp3 b (w2 b f)⟩ fun b f => .inl ?_
  · rw [upd_ne (fun w => nf ⟨cs, rfl, rb, .inr ⟨c, hcm, .inr w⟩⟩)]
    exact z
  · rw [modify_map (f := fun r => (r.1, insAt c.ts j a)) (fun _ => rfl), r2]
    refine List.ext_getElem? fun m => ?_
    unfold rowIns
    rw [List.getElem?_modify, List.getElem?_modify]
    by_cases z : n = m
    · subst z
      rw [hrn]
      rfl
    · simp only [if_neg z]
  · obtain ⟨ds, _, k1, k2⟩ := f
    have := w1.inj k1
    subst this
    exact ⟨cs, rfl, rb, w2 b k2⟩
/-- a row more -/
theorem Rows.snoc {H : Hp} {cs : List RC} {n : Str} {ts : List Str} {t l : Addr} (h : Rows H p cs) (ht : H t = some (.tup [.str n, .ref l])) (hl : H l = some (.lst (ts.map V.str))) (nl : ∀ c ∈ cs, c.l ≠ l) (np : l ≠ p) :
    Rows (upd H p (.lst ((cs.map fun c => V.ref c.p) ++ [.ref t]))) p (cs ++ [⟨t, l, n, ts⟩]) := by
  have tp : t ≠ p := fun e => by rw [e, h.top] at ht; cases ht
  have cp : ∀ c ∈ cs, c.p ≠ p := fun c hc e => by have := h.tp c hc; rw [e, h.top] at this; cases this
  refine ⟨by rw [upd_same, List.map_append]; rfl, fun c hc => ?_, fun c hc => ?_, ?_, fun c hc => ?_⟩
  · rcases List.mem_append.mp hc with w | w
    · rw [upd_ne (cp c w)]; exact h.tp c w
    · rw [List.mem_singleton.mp w, upd_ne tp]; exact ht
  · rcases List.mem_append.mp hc with w | w
    · rw [upd_ne (h.ne c w)]; exact h.ls c w
    · rw [List.mem_singleton.mp w, upd_ne np]; exact hl
  · rw [List.map_append, List.nodup_append]
    refine ⟨h.nl, by simp, fun a ha b hb => ?_⟩
    obtain ⟨c, hc, rfl⟩ := List.mem_map.mp ha
    rw [show b = l by simpa using hb]
    exact nl c hc
  · rcases List.mem_append.mp hc with w | w
    · exact h.ne c w
    · rw [List.mem_singleton.mp w]; exact np
/-- rows.append((n, l)) -/
theorem run_rowApp {m1 : M Str} {m2 : M (List Str)} {k : Str → List Str → M Ω} (h : ρ[i]? = some (some (.dr p rows))) (h1 : Ev G B E md ρ ta m1) (h2 : EvN G B E ρ tb m2) (hk : ∀ n l, Run G B E post (ρ.set i (some (.dr p (rows ++ [(n, l)])))) rest (k n l)) :
    Run G B E post ρ (tSeq (tDrop (tBM G.K "list" rAppend (tVar i) (tCons (tTup (tCons ta (tCons tb tNil))) tNil))) rest) (m1.b fun n => m2.b fun l => .chk (rows.length < sizeLine) (k n l)) := fun F0 F σ H D R q => by
  obtain ⟨cs, e, r1, r2, r3⟩ := R.dr h
  refine ⟨_, e, .inl ⟨rfl, _, .of r1.top⟩, h1.go R q fun n F1 u H1 e1 q1 R1 q => h2.go R1 q fun l F2 d o H2 e2 n1 n2 n3 n4 R2 q => ⟨show 2 ≤ sizeLine by decide, fun t nt => ?_⟩⟩
  obtain ⟨c, q⟩ := M.P_chk.mp q
  obtain ⟨vs, rfl, n4⟩ := n4
  rw [strs_of n4] at n3
  rw [show u = .str n from q1]
  have e12 := e1.trans e2
  have e3 : Ext F2 H2 F2 (upd H2 t (.tup [.str n, .ref d])) := .new nt
  have R3 := R2.ext e3 (R2.sF.trans e3.h)
  have rb := (r1.ext e12).ext e3
  have hd : (upd H2 t (.tup [.str n, .ref d])) d = some (.lst (l.map V.str)) := e3.h _ _ n3
  have n1' : H d = none := e1.h.free n1
  have nd : ∀ c ∈ cs, c.l ≠ d := fun c hc z => by
    have := r1.ls c hc
    rw [z, n1'] at this
    cases this
  have ndp : d ≠ p := fun z => by
    have := r1.top
    rw [← z, n1'] at this
    cases this
  refine ⟨p, _, .ref t, rfl, rfl, rb.top, by rw [List.length_map]; rw [← r2, List.length_map] at c; exact c, hk n l F0 F2 σ _ D ?_ q⟩
  have rc := rb.snoc (n := n) (ts := l) (upd_same (a := t)) hd nd ndp
  have fp3 : ∀ b, FpR p cs b → B b = none ∧ F2 b = none := fun b f => by
    obtain ⟨o, ho⟩ := r1.there f
    exact ⟨(r3 b f).1, e12.non ho (r3 b f).2⟩
  have nt' : H t = none := e12.h.free nt
  have sub : ∀ b, FpR p (cs ++ [⟨t, d, n, l⟩]) b → FpR p cs b ∨ b = t ∨ b = d := fun b f => by
    rcases f with f | ⟨c, hc, f⟩
    · exact .inl (.inl f)
    · rcases List.mem_append.mp hc with w | w
      · exact .inl (.inr ⟨c, w, f⟩)
      · rw [List.mem_singleton.mp w] at f
        exact .inr f
  refine R3.mod h e (fun b o nf z => ?_) ⟨_, rfl, rc, by rw [List.map_append, r2]; rfl, fun b f => ?_⟩ fun b f => ?_
  · rw [upd_ne (fun w => nf ⟨cs, rfl, rb, .inl w⟩)]
    exact z
  · rcases sub b f with f | f | f
    · exact fp3 b f
    · rw [f]; exact ⟨R.sB.free nt', R2.sF.free nt⟩
    · rw [f]; exact ⟨R.sB.free n1', n2⟩
  · obtain ⟨ds, _, k1, k2⟩ := f
    have := rc.inj k1
    subst this
    rcases sub b k2 with f | f | f
    · exact .inl ⟨cs, rfl, rb, f⟩
    · rw [f]; exact .inr (R.freshE nt' (e12.h.trans e3.h))
    · rw [f]; exact .inr (R.freshE n1' (e12.h.trans e3.h))
theorem erase_map {α β : Type} (f : α → β) : ∀ (l : List α) (n : Nat), (l.map f).eraseIdx n = (l.eraseIdx n).map f
  | [], _ => rfl
  | _ :: _, 0 => rfl
  | a :: r, n + 1 => congrArg (f a :: ·) (erase_map f r n)
/-- the n-th row goes -/
theorem Rows.erase {H : Hp} {cs : List RC} (n : Nat) (h : Rows H p cs) : Rows (upd H p (.lst ((cs.map fun c => V.ref c.p).eraseIdx n))) p (cs.eraseIdx n) := by
  have sub : ∀ c, c ∈ cs.eraseIdx n → c ∈ cs := fun c hc => (List.eraseIdx_sublist cs n).subset hc
  have cp : ∀ c ∈ cs, c.p ≠ p := fun c hc e => by have := h.tp c hc; rw [e, h.top] at this; cases this
  refine ⟨by rw [upd_same, erase_map], fun c hc => by rw [upd_ne (cp c (sub c hc))]; exact h.tp c (sub c hc), fun c hc => by rw [upd_ne (h.ne c (sub c hc))]; exact h.ls c (sub c hc), ?_, fun c hc => h.ne c (sub c hc)⟩
  exact ((List.eraseIdx_sublist cs n).map RC.l).nodup h.nl
theorem not_mem_erase {cs : List RC} {n : Nat} {c : RC} (h : (cs.map RC.l).Nodup) (hc : cs[n]? = some c) : ∀ d ∈ cs.eraseIdx n, d.l ≠ c.l := fun d hd e => by
  obtain ⟨j, hj, hdj⟩ := List.mem_eraseIdx_iff_getElem?.mp hd
  have e1 : (cs.map RC.l)[n]? = some c.l := by rw [List.getElem?_map, hc]; rfl
  have e2 : (cs.map RC.l)[j]? = some c.l := by rw [List.getElem?_map, hdj, ← e]; rfl
  exact hj ((List.getElem?_inj (List.getElem?_eq_some_iff.mp e2).1 h).mp (e2.trans e1.symm))
/-- x = rows.pop(j) -/
theorem run_rowPop {bind : (Str × List Str) → Evr → Evr} {mi : M Int} {k : Int → Nat → (Str × List Str) → M Ω} {ti : TE} (h : ρ[i]? = some (some (.dr p rows))) (hi : Ev G B E md ρ ti mi) (ht : Tgt G B .F g ts bind) (hk : ∀ j n a, Run G B E post (bind a (ρ.set i (some (.dr p (rows.eraseIdx n))))) rest (k j n a)) :
    Run G B E post ρ (tSeq (tAsg (tBM G.K "list" rPopAt (tVar i) (tCons ti tNil)) g) rest) (mi.b fun j => .chk (-(2 ^ 63) ≤ j ∧ j < 2 ^ 63) ((M.get (seqIndex? j rows.length)).b fun n => (M.get rows[n]?).b fun a => k j n a)) := fun F0 F σ H D R q => by
  obtain ⟨cs, e, r1, r2, r3⟩ := R.dr h
  refine ⟨_, e, .inl ⟨rfl, _, .of r1.top⟩, hi.go R q fun j F1 u H1 e1 q1 R1 q => ?_⟩
  obtain ⟨c, q⟩ := M.P_chk.mp q
  obtain ⟨n, en, q⟩ := M.P_get.mp (M.P_b.mp q)
  obtain ⟨a, ea, q⟩ := M.P_get.mp (M.P_b.mp q)
  have hl : rows.length = cs.length := by rw [← r2, List.length_map]
  rw [← r2, List.getElem?_map] at ea
  cases ec : cs[n]? with
  | none => rw [ec] at ea; cases ea
  | some d =>
    rw [ec] at ea
    cases ea
    have ra := r1.ext e1
    have hdm := List.mem_of_getElem? ec
    have fp1 : ∀ b, FpR p cs b → B b = none ∧ F1 b = none := fun b f => by
      obtain ⟨o, ho⟩ := r1.there f
      exact ⟨(r3 b f).1, e1.non ho (r3 b f).2⟩
    have rc := ra.erase n
    have sub : ∀ b, FpR p (cs.eraseIdx n) b → FpR p cs b := fun b f => by
      rcases f with f | ⟨c, hc, f⟩
      · exact .inl f
      · exact .inr ⟨c, (List.eraseIdx_sublist cs n).subset hc, f⟩
    -- the row itself is frozen
    let F2 : Hp := upd (upd F1 d.p (.tup [.str d.n, .ref d.l])) d.l (.lst (d.ts.map V.str))
    have dpl : d.p ≠ d.l := fun z => by have := ra.tp d hdm; rw [z, ra.ls d hdm] at this; cases this
    have dpp : d.p ≠ p := fun z => by have := ra.tp d hdm; rw [z, ra.top] at this; cases this
    have fdp := fp1 d.p (.inr ⟨d, hdm, .inl rfl⟩)
    have fdl := fp1 d.l (.inr ⟨d, hdm, .inr rfl⟩)
    have s12 : Same F1 F2 := (same_upd fdp.2).trans (same_upd (by rw [upd_ne dpl.symm]; exact fdl.2))
    have F2p : F2 d.p = some (.tup [.str d.n, .ref d.l]) := by show upd _ d.l _ d.p = _; rw [upd_ne dpl, upd_same]
    have F2l : F2 d.l = some (.lst (d.ts.map V.str)) := upd_same
    have F2o : ∀ b, b ≠ d.p → b ≠ d.l → F2 b = F1 b := fun b z1 z2 => by show upd _ d.l _ b = _; rw [upd_ne z2, upd_ne z1]
    have s2H : Same F2 (upd H1 p (.lst ((cs.map fun c => V.ref c.p).eraseIdx n))) := fun b o z => by
      by_cases z1 : b = d.p
      · subst z1; rw [F2p] at z; rw [upd_ne dpp, ra.tp d hdm]; exact z
      · by_cases z2 : b = d.l
        · subst z2; rw [F2l] at z; rw [upd_ne (ra.ne d hdm), ra.ls d hdm]; exact z
        · rw [F2o b z1 z2] at z
          rw [upd_ne (fun w => by rw [w, (fp1 p (.inl rfl)).2] at z; cases z)]
          exact R1.sF _ _ z
    have apart : ∀ b, FpR p (cs.eraseIdx n) b → b ≠ d.p ∧ b ≠ d.l := fun b f => by
      rcases f with rfl | ⟨c, hc, f⟩
      · exact ⟨dpp.symm, (ra.ne d hdm).symm⟩
      · have hcm := (List.eraseIdx_sublist cs n).subset hc
        have hne := not_mem_erase ra.nl ec c hc
        rcases f with rfl | rfl
        · refine ⟨fun z => hne ?_, fun z => ?_⟩
          · have := ra.tp c hcm
            rw [z, ra.tp d hdm] at this
            injection this with this
            injection this with this
            injection this with _ this
            injection this with this _
            injection this with this
            exact this.symm
          · have := ra.tp c hcm; rw [z, ra.ls d hdm] at this; cases this
        · refine ⟨fun z => ?_, hne⟩
          have := ra.ls c hcm; rw [z, ra.tp d hdm] at this; cases this
    have R2 : Rel G B F0 F2 (ρ.set i (some (.dr p (rows.eraseIdx n)))) σ (upd H1 p (.lst ((cs.map fun c => V.ref c.p).eraseIdx n))) := by
      have hoth : ∀ (j : Nat) (t : Option Slot) (y : Option V), i ≠ j → ρ[j]? = some t → σ[j]? = some y → ∀ b, Fp H1 t y b → ¬ FpR p cs b := fun j t y ne hj hy b f z => ne (R1.ds i j _ t _ y b h e hj hy ⟨cs, rfl, ra, z⟩ f)
      have keepH : ∀ (j : Nat) (t : Option Slot) (y : Option V), i ≠ j → ρ[j]? = some t → σ[j]? = some y → ∀ b o, Fp H1 t y b → H1 b = some o → (upd H1 p (.lst ((cs.map fun c => V.ref c.p).eraseIdx n))) b = some o := fun j t y ne hj hy b o f z => by
        rw [upd_ne (fun w => hoth j t y ne hj hy b f (.inl w))]; exact z
      refine ⟨fun b o z => ?_, s2H, R1.s0.trans s12, fun b z w => ?_, by rw [List.length_set]; exact R1.len, fun j t y hj hy => ?_, fun j k t u y z b hj hy hk2 hz f g => ?_⟩
      · rw [upd_ne (fun w => by rw [w, (fp1 p (.inl rfl)).1] at z; cases z)]; exact R1.sB _ _ z
      · by_cases z1 : b = d.p
        · rw [z1]; exact fdp.1
        · by_cases z2 : b = d.l
          · rw [z2]; exact fdl.1
          · rw [F2o b z1 z2] at w; exact R1.nw b z w
      · rcases set_at hj with ⟨rfl, rfl, _⟩ | ⟨ne, hj⟩
        · rw [e] at hy
          cases hy
          refine ⟨_, rfl, rc, by rw [← erase_map, r2], fun b f => ⟨(fp1 b (sub b f)).1, ?_⟩⟩
          obtain ⟨a1, a2⟩ := apart b f
          rw [F2o b a1 a2]
          exact (fp1 b (sub b f)).2
        · refine (R1.sl j t y hj hy).frame s12 (keepH j t y ne hj hy) fun b f => ?_
          have nf := hoth j t y ne hj hy b f
          rw [F2o b (fun w => nf (.inr ⟨d, hdm, .inl w⟩)) (fun w => nf (.inr ⟨d, hdm, .inr w⟩))]
          exact (Fp.at (R1.sl j t y hj hy) f).2.2
      · have key : ∀ (k : Nat) (u : Option Slot) (z : Option V), i ≠ k → ρ[k]? = some u → σ[k]? = some z → ∀ b, Fp (upd H1 p (.lst ((cs.map fun c => V.ref c.p).eraseIdx n))) (some (.dr p (rows.eraseIdx n))) (some (.ref p)) b → Fp (upd H1 p (.lst ((cs.map fun c => V.ref c.p).eraseIdx n))) u z b → False := fun k u z ne hk2 hz b f g => by
          have g' := Fp.lift (R1.sl k u z hk2 hz) (keepH k u z ne hk2 hz) g
          obtain ⟨ds, _, k1, k2⟩ := f
          have := rc.inj k1
          subst this
          exact hoth k u z ne hk2 hz b g' (sub b k2)
        rcases set_at hj with ⟨rfl, rfl, _⟩ | ⟨ne, hj⟩
        · rw [e] at hy
          cases hy
          rcases set_at hk2 with ⟨rfl, _⟩ | ⟨ne2, hk2⟩
          · rfl
          · exact (key k u z ne2 hk2 hz b f g).elim
        · rcases set_at hk2 with ⟨e2, e3, _⟩ | ⟨ne2, hk2⟩
          · rw [← e2, e] at hz
            cases hz
            rw [e3] at g
            exact (key j t y ne hj hy b g f).elim
          · exact R1.ds j k t u y z b hj hy hk2 hz (Fp.lift (R1.sl j t y hj hy) (keepH j t y ne hj hy) f) (Fp.lift (R1.sl k u z hk2 hz) (keepH k u z ne2 hk2 hz) g)
    refine ⟨p, _, j, n, .ref d.p, rfl, by rw [show u = .int j from q1], ra.top, c.1, c.2, by rw [List.length_map, ← hl]; exact en, by rw [List.getElem?_map, ec]; rfl, ?_⟩
    exact ht F0 F2 _ σ _ _ d.r _ R2 ⟨d.p, _, _, rfl, F2p, rfl, ⟨d.l, _, rfl, F2l, .of_map (R := rep G F2) (f := V.str) (fun _ => rfl) _⟩⟩ fun σ' _ R3 => hk j n d.r F0 F2 σ' _ D R3 q
/-- rows = [(n, l)] -/
theorem run_rowNew {m1 : M Str} {m2 : M (List Str)} {k : Str → List Str → M Ω} (h1 : Ev G B E md ρ ta m1) (h2 : EvN G B E ρ tb m2) (hk : ∀ p n l, Run G B E post (ρ.set i (some (.dr p [(n, l)]))) rest (k n l)) :
    Run G B E post ρ (tSeq (tAsg (tLst (tCons (tTup (tCons ta (tCons tb tNil))) tNil)) (gName i)) rest) (m1.b fun n => m2.b fun l => k n l) := fun F0 F σ H D R q => by
  refine h1.go R q fun n F1 u H1 e1 q1 R1 q => h2.go R1 q fun l F2 d o H2 e2 n1 n2 n3 n4 R2 q => ⟨show 2 ≤ sizeLine by decide, fun t nt => ⟨show 1 ≤ sizeLine by decide, fun p np => ?_⟩⟩
  obtain ⟨vs, rfl, n4⟩ := n4
  rw [strs_of n4] at n3
  rw [show u = .str n from q1] at np ⊢
  have e12 := e1.trans e2
  have e3 : Ext F2 H2 F2 (upd H2 t (.tup [.str n, .ref d])) := .new nt
  have e4 : Ext F2 (upd H2 t (.tup [.str n, .ref d])) F2 (upd (upd H2 t (.tup [.str n, .ref d])) p (.lst [.ref t])) := .new np
  have e34 := e3.trans e4
  have R3 := R2.ext e34 (R2.sF.trans e34.h)
  have n1' : H d = none := e1.h.free n1
  have tnp : t ≠ p := fun z => by rw [← z, upd_same] at np; cases np
  have dnp : d ≠ p := fun z => by rw [← z, e3.h _ _ n3] at np; cases np
  have rows' : Rows (upd (upd H2 t (.tup [.str n, .ref d])) p (.lst [.ref t])) p [⟨t, d, n, l⟩] := by
    refine ⟨upd_same, fun c hc => ?_, fun c hc => ?_, by simp, fun c hc => ?_⟩
    · rw [List.mem_singleton.mp hc, upd_ne tnp]; exact upd_same
    · rw [List.mem_singleton.mp hc, upd_ne dnp]; exact e3.h _ _ n3
    · rw [List.mem_singleton.mp hc]; exact dnp
  have fre : ∀ b, FpR p [⟨t, d, n, l⟩] b → H b = none ∧ F2 b = none := fun b f => by
    rcases f with rfl | ⟨c, hc, f⟩
    · exact ⟨(e12.trans e3).h.free np, (R2.ext e3 (R2.sF.trans e3.h)).sF.free np⟩
    · rw [List.mem_singleton.mp hc] at f
      rcases f with rfl | rfl
      · exact ⟨e12.h.free nt, R2.sF.free nt⟩
      · exact ⟨n1', n2⟩
  refine hk p n l F0 F2 _ _ D (R3.setv ⟨_, rfl, rows', rfl, fun b f => ⟨R.sB.free (fre b f).1, (fre b f).2⟩⟩ fun b f j t2 y _ hj hy g => ?_) q
  obtain ⟨ds, _, k1, k2⟩ := f
  have := rows'.inj k1
  subst this
  exact R.freshE (fre b k2).1 (e12.h.trans e34.h) j t2 y hj hy g
end
end Tw
set_option Elab.async false
set_option linter.all false
set_option maxRecDepth 100000
set_option maxHeartbeats 4000000
namespace Tw
open PySem PySem.Spec L2 TL
open PyProof.Rows hiding St
/-- what stands at p of the rows -/
def DrAt (B F H : Hp) (p : Addr) (rows : RowsT) : Prop := ∃ cs, Rows H p cs ∧ cs.map RC.r = rows ∧ ∀ b, FpR p cs b → B b = none ∧ F b = none
section
variable (G : Gb) (B : Hp)
/-- it tells, and the rows at p are so -/
def oD {R : Type} (rp : RP R) (p : Addr) : Hp → R × RowsT → Ends → Prop := fun F0 r D => ∀ (F' : Hp) (v : V) (H' : Hp), Fin G B F0 F' H' → DrAt B F' H' p r.2 → rp B F' H' v r.1 → D.rt v H'
end
open Classical in
/-- the heap without what the rows own -/
noncomputable def less (H : Hp) (p : Addr) (cs : List RC) : Hp := fun b => if FpR p cs b then none else H b
theorem less_in {H : Hp} {p b : Addr} {cs : List RC} (h : FpR p cs b) : less H p cs b = none := if_pos h
theorem less_out {H : Hp} {p b : Addr} {cs : List RC} (h : ¬ FpR p cs b) : less H p cs b = H b := if_neg h
theorem less_same {H : Hp} {p : Addr} {cs : List RC} : Same (less H p cs) H := fun b o e => by
  by_cases f : FpR p cs b
  · rw [less_in f] at e; cases e
  · rw [less_out f] at e; exact e
/-- the promise of a def whose first argument is rows that it changes -/
def spD (G : Gb) {P R : Type} (sl : P → List Slot) (rp : RP R) (f : RowsT → P → M (R × RowsT)) : Sp := fun vs H Q E => ∃ (a : Addr) (ws : List V) (cs : List RC) (p : P) (F0 : Hp), vs = .ref a :: ws ∧ Rows H a cs ∧ (∀ b, FpR a cs b → F0 b = none) ∧ Same F0 H ∧ ArgOk G F0 (less H a cs) (sl p) ws ∧
  (f (cs.map RC.r) p).P (fun r => ∀ (F' : Hp) (v : V) (H' : Hp), Fin G (less H a cs) F0 F' H' → DrAt (less H a cs) F' H' a r.2 → rp (less H a cs) F' H' v r.1 → Q v H') (Xc G (less H a cs) E)
section
variable {G : Gb} {P R : Type} {sl : P → List Slot} {rp : RP R} {f : RowsT → P → M (R × RowsT)} {N : List Str} {n k : Nat} {vs : List V} {H : Hp} {Q : VK} {E : XK} {t : TS}
theorem spD_len (hs : spD G sl rp f vs H Q E) (hk : ∀ p, (sl p).length + 1 = k) : vs.length = k := by
  obtain ⟨a, ws, cs, p, F0, rfl, _, _, _, ar, _⟩ := hs
  rw [List.length_cons, ← (arg_all ar).len, hk]
theorem rel_argsD {F : Hp} {a : Addr} {cs : List RC} {ss : List Slot} {ws : List V} (n : Nat) (r : Rows H a cs) (hf : ∀ b, FpR a cs b → F b = none) (s : Same F H) (h : ArgOk G F (less H a cs) ss ws) :
    Rel G (less H a cs) F F (some (.dr a (cs.map RC.r)) :: (ss.map some ++ List.replicate n none)) (some (.ref a) :: (ws.map some ++ List.replicate n none)) H := by
  have s' : Same F (less H a cs) := fun b o e => by
    rw [less_out (fun z => by rw [hf b z] at e; cases e)]
    exact s _ _ e
  have R0 := rel_args n s' h
  have no : ∀ (j : Nat) (t : Option Slot) (y : Option V), (ss.map some ++ List.replicate n none)[j]? = some t → Fp H t y = fun _ => False := fun j t y hj => by
    have := (arg_at (arg_all h) hj).1
    funext b
    exact eq_false fun z => by rw [z.own] at this; cases this
  refine ⟨less_same, s, .refl _, fun b h q => absurd h q, by rw [List.length_cons, List.length_cons, R0.len], fun i s x hs hx => ?_, fun i j s t x y b hi hx hj hy f g => ?_⟩
  · cases i with
    | zero =>
      cases hs
      cases hx
      exact ⟨cs, rfl, r, rfl, fun b z => ⟨less_in z, hf b z⟩⟩
    | succ i =>
      have hs' : (ss.map some ++ List.replicate n none)[i]? = some s := by simpa using hs
      have hx' : (ws.map some ++ List.replicate n none)[i]? = some x := by simpa using hx
      refine (R0.sl i s x hs' hx').frame (.refl _) (fun b o f => ?_) fun b f => ?_
      · have := (arg_at (arg_all h) hs').1; rw [f.own] at this; cases this
      · have := (arg_at (arg_all h) hs').1; rw [f.own] at this; cases this
  · cases i with
    | zero =>
      cases j with
      | zero => rfl
      | succ j => rw [no j t y (by simpa using hj)] at g; exact g.elim
    | succ i => rw [no i s x (by simpa using hi)] at f; exact f.elim
theorem spD_run (hs : spD G sl rp f vs H Q E) (hn : ∀ p, N.length = (sl p).length + 1 + n) (h : ∀ p a rows B, Run G B E (oD G B rp a) (some (.dr a rows) :: ((sl p).map some ++ List.replicate n none)) t (f rows p)) : t (dEnd Q) (start N vs) H := by
  obtain ⟨a, ws, cs, p, F0, rfl, r, hf, s, ar, q⟩ := hs
  have e : N.length - (V.ref a :: ws).length = n := by rw [List.length_cons, ← (arg_all ar).len, hn p]; omega
  rw [start_of, e]
  exact h p a _ _ F0 F0 _ H _ (rel_argsD n r hf s ar) (q.imp (fun r k F' v H' f h1 h2 => k F' v H' f h1 h2) fun _ x => x)
end
section
variable {G : Gb} {B : Hp} {E : XK} {ρ ρ' : Evr} {α β γ δ : Type} [Rp α] [Rp β] [Rp γ] [Rp δ] {md md' mr : Md} {ta tb tc te : TE} {g : TG} {ts : List Nat} {bind : α → Evr → Evr}
  {Ω S S' R : Type} {post : Hp → Ω → Ends → Prop} {EX : S → Evr} {EX' : S' → Evr} {rp : RP R} {t t1 t2 rest : TS} {i : Nat} {p : Addr} {rows : RowsT}
theorem Rel.drAt {F0 F H : Hp} {σ : L2.St} (R : Rel G B F0 F ρ σ H) (h : ρ[i]? = some (some (.dr p rows))) : DrAt B F H p rows := by
  obtain ⟨cs, _, h1, h2, h3⟩ := R.dr h
  exact ⟨cs, h1, h2, h3⟩
theorem run_retD {m : M α} (h : ρ[i]? = some (some (.dr p rows))) (he : Ev G B E .F ρ te m) : Run G B E (oD G B (rpF G) p) ρ (tRet te) (m.b fun a => .ok (a, rows)) := fun F0 F σ H D R q => he.go R q fun a F' v H' e r R' q => q F' v H' R'.fin (R'.drAt h) r
theorem run_cutD {m : M (R × RowsT)} (h : Run G B E (oD G B rp p) ρ t m) : Run G B E (oD G B rp p) ρ (tSeq t rest) m := fun F0 F σ H D RR q => h F0 F σ H _ RR q
/-- what a call that changes rows leaves -/
theorem Rel.afterD {F0 F H : Hp} {σ : L2.St} {rows' : RowsT} {cs : List RC} {F' H' : Hp} (R : Rel G B F0 F ρ σ H) (h : ρ[i]? = some (some (.dr p rows))) (e : σ[i]? = some (some (.ref p))) (r1 : Rows H p cs) (r3 : ∀ b, FpR p cs b → B b = none ∧ F b = none)
    (f : Fin G (less H p cs) F F' H') (d : DrAt (less H p cs) F' H' p rows') : Rel G B F0 F' (ρ.set i (some (.dr p rows'))) σ H' := by
  obtain ⟨ds, d1, d2, d3⟩ := d
  have hoth : ∀ (j : Nat) (t : Option Slot) (y : Option V), i ≠ j → ρ[j]? = some t → σ[j]? = some y → ∀ b, Fp H t y b → ¬ FpR p cs b := fun j t y ne hj hy b f z => ne (R.ds i j _ t _ y b h e hj hy ⟨cs, rfl, r1, z⟩ f)
  have keepH : ∀ (j : Nat) (t : Option Slot) (y : Option V), i ≠ j → ρ[j]? = some t → σ[j]? = some y → ∀ b o, Fp H t y b → H b = some o → H' b = some o := fun j t y ne hj hy b o fp z => f.sB b o (by rw [less_out (hoth j t y ne hj hy b fp)]; exact z)
  refine ⟨fun b o z => f.sB b o (by rw [less_out (fun w => by rw [(r3 b w).1] at z; cases z)]; exact R.sB _ _ z), f.sF, R.s0.trans f.s0, fun b z w => ?_, by rw [List.length_set]; exact R.len, fun j t y hj hy => ?_, fun j k t u y z b hj hy hk2 hz ff gg => ?_⟩
  · cases q : F b with
    | none =>
      have := f.nw b q w
      by_cases fp : FpR p cs b
      · exact (r3 b fp).1
      · rw [less_out fp] at this; exact R.sB.free this
    | some o => exact R.nw b z (by rw [q]; exact fun z => nomatch z)
  · rcases set_at hj with ⟨rfl, rfl, _⟩ | ⟨ne, hj⟩
    · rw [e] at hy
      cases hy
      refine ⟨ds, rfl, d1, d2, fun b fp => ⟨?_, (d3 b fp).2⟩⟩
      have := (d3 b fp).1
      by_cases fp2 : FpR p cs b
      · exact (r3 b fp2).1
      · rw [less_out fp2] at this; exact R.sB.free this
    · refine (R.sl j t y hj hy).frame f.s0 (keepH j t y ne hj hy) fun b fp => ?_
      cases q : F' b with
      | none => rfl
      | some o =>
        have h3 := Fp.at (R.sl j t y hj hy) fp
        have := f.nw b h3.2.2 (by rw [q]; exact fun z => nomatch z)
        rw [less_out (hoth j t y ne hj hy b fp)] at this
        obtain ⟨o2, h4⟩ := h3.1
        rw [this] at h4
        cases h4
  · have key : ∀ (k : Nat) (u : Option Slot) (z : Option V), i ≠ k → ρ[k]? = some u → σ[k]? = some z → ∀ b, Fp H' (some (.dr p rows')) (some (.ref p)) b → Fp H' u z b → False := fun k u z ne hk2 hz b ff gg => by
      have g' := Fp.lift (R.sl k u z hk2 hz) (keepH k u z ne hk2 hz) gg
      obtain ⟨es, _, k1, k2⟩ := ff
      have := d1.inj k1
      subst this
      have nf := hoth k u z ne hk2 hz b g'
      have h5 := (d3 b k2).1
      rw [less_out nf] at h5
      obtain ⟨⟨o, h6⟩, _⟩ := Fp.at (R.sl k u z hk2 hz) g'
      rw [h5] at h6
      cases h6
    rcases set_at hj with ⟨rfl, rfl, _⟩ | ⟨ne, hj⟩
    · rw [e] at hy
      cases hy
      rcases set_at hk2 with ⟨rfl, _⟩ | ⟨ne2, hk2⟩
      · rfl
      · exact (key k u z ne2 hk2 hz b ff gg).elim
    · rcases set_at hk2 with ⟨e2, e3, _⟩ | ⟨ne2, hk2⟩
      · rw [← e2, e] at hz
        cases hz
        rw [e3] at gg
        exact (key j t y ne hj hy b gg ff).elim
      · exact R.ds j k t u y z b hj hy hk2 hz (Fp.lift (R.sl j t y hj hy) (keepH j t y ne hj hy) ff) (Fp.lift (R.sl k u z hk2 hz) (keepH k u z ne2 hk2 hz) gg)
/-- x = f(rows, a, b, c): scalars beside the rows -/
theorem run_ioS3 {α1 α2 α3 : Type} [Rp α1] [Rp α2] [Rp α3] [Sc α1] [Sc α2] [Sc α3] {d1 d2 d3 : Md} {u1 u2 u3 : TE} {m1 : M α1} {m2 : M α2} {m3 : M α3} {f : RowsT → α1 → α2 → α3 → M (α × RowsT)} {k : α → RowsT → M Ω}
    (h : ρ[i]? = some (some (.dr p rows))) (h1 : Ev G B E d1 ρ u1 m1) (h2 : Ev G B E d2 ρ u2 m2) (h3 : Ev G B E d3 ρ u3 m3) (ht : Tgt G B .F g ts bind) (hk : ∀ a rows', Run G B E post (bind a (ρ.set i (some (.dr p rows')))) rest (k a rows')) :
    Run G B E post ρ (tSeq (tAsg (tCall (spD G (fun (q : α1 × α2 × α3) => [.fz q.1, .fz q.2.1, .fz q.2.2]) (rpF G) fun rows q => f rows q.1 q.2.1 q.2.2) [] E0 (tCons (tVar i) (tCons u1 (tCons u2 (tCons u3 tNil))))) g) rest)
      (m1.b fun a => m2.b fun b => m3.b fun c => ((f rows a b c).cl).b fun r => k r.1 r.2) := fun F0 F σ H D R q => by
  obtain ⟨cs, e, r1, r2, r3⟩ := R.dr h
  refine ⟨_, e, h1.go R q fun a1 F1 v1 H1 e1 q1 R1 q => h2.go R1 q fun a2 F2 v2 H2 e2 q2 R2 q => h3.go R2 q fun a3 F3 v3 H3 e3 q3 R3 q => ?_⟩
  have e13 := (e1.trans e2).trans e3
  have rb := r1.ext e13
  have fp3 : ∀ b, FpR p cs b → B b = none ∧ F3 b = none := fun b f => by
    obtain ⟨o, ho⟩ := r1.there f
    exact ⟨(r3 b f).1, e13.non ho (r3 b f).2⟩
  have sc1 : rep G F3 v1 a1 := (Sc.iff _ _ _ _).mpr ((Sc.iff _ _ _ _).mp q1)
  have sc2 : rep G F3 v2 a2 := (Sc.iff _ _ _ _).mpr ((Sc.iff _ _ _ _).mp q2)
  have sc3 : rep G F3 v3 a3 := (Sc.iff _ _ _ _).mpr ((Sc.iff _ _ _ _).mp q3)
  refine ⟨p, [v1, v2, v3], cs, (a1, a2, a3), F3, rfl, rb, fun b f => (fp3 b f).2, R3.sF, ⟨sc1, sc2, sc3, trivial⟩, ?_⟩
  show (f (cs.map RC.r) a1 a2 a3).P _ _
  rw [r2]
  have q' := M.P_cl (M.P_b.mp q)
  refine q'.imp (fun r q F' v H' ff dd rr => ?_) fun _ z => z.elim
  have R4 := R3.afterD h e rb fp3 ff dd
  exact ht F0 F' _ σ H' v r.1 _ R4 rr fun σ' _ R5 => hk r.1 r.2 F0 F' σ' H' D R5 q
end
end Tw
set_option Elab.async false
set_option linter.all false
set_option maxRecDepth 100000
set_option maxHeartbeats 4000000
namespace Tw
open PySem PySem.Spec L2 TL
open PyProof.Rows hiding St
/-- the place of a field's name -/
def fIx (ns : List Str) (f : Str) (j : Nat) : Bool := decide (ns[j]? = some f) && (ns.take j).all fun g => !decide (g = f)
theorem fIx_at {ns : List Str} {f : Str} {j : Nat} (h : fIx ns f j = true) : ns[j]? = some f ∧ ∀ g ∈ ns.take j, g ≠ f := by
  unfold fIx at h
  obtain ⟨h1, h2⟩ := Bool.and_eq_true_iff.mp h
  refine ⟨of_decide_eq_true h1, fun g hg e => ?_⟩
  have := List.all_eq_true.mp h2 g hg
  simp [e] at this
theorem zip_look {f : Str} : ∀ {ns : List Str} {vs : List V} {j : Nat} {v : V}, ns[j]? = some f → (∀ g ∈ ns.take j, g ≠ f) → vs[j]? = some v → (ns.zip vs).lookup f = some v
  | [], _, _, _, h, _, _ => by simp at h
  | _ :: _, [], _, _, _, _, h => by simp at h
  | n :: ns, w :: vs, 0, v, h1, _, h3 => by
    simp only [List.getElem?_cons_zero, Option.some.injEq] at h1 h3
    subst h1 h3
    show List.lookup n ((n, w) :: _) = _
    simp [List.lookup]
  | n :: ns, w :: vs, j + 1, v, h1, h2, h3 => by
    have ne : n ≠ f := h2 n (by simp)
    have hb : (f == n) = false := beq_eq_false_iff_ne.mpr ne.symm
    show List.lookup f ((n, w) :: ns.zip vs) = _
    simp only [List.lookup, hb]
    exact zip_look (by simpa using h1) (fun g hg => h2 g (by simp [hg])) (by simpa using h3)
theorem zip_no {f : Str} : ∀ {ns : List Str} {vs : List V}, f ∉ ns → (ns.zip vs).lookup f = none
  | [], _, _ => by simp
  | _ :: _, [], _ => by simp
  | n :: ns, w :: vs, h => by
    have hb : (f == n) = false := beq_eq_false_iff_ne.mpr fun e => h (by simp [e])
    show List.lookup f ((n, w) :: ns.zip vs) = _
    simp only [List.lookup, hb]
    exact zip_no fun w => h (by simp [w])
theorem zip_put {f : Str} {y : V} : ∀ {ns : List Str} {vs : List V}, ns[vs.length]? = some f → (∀ g ∈ ns.take vs.length, g ≠ f) → putF f y (ns.zip vs) = ns.zip (vs ++ [y])
  | [], _, h, _ => by simp at h
  | n :: ns, [], h, _ => by
    simp only [List.length_nil, List.getElem?_cons_zero, Option.some.injEq] at h
    subst h
    simp [putF]
  | n :: ns, w :: vs, h, k => by
    have ne : n ≠ f := k n (by simp)
    have ih := zip_put (y := y) (ns := ns) (vs := vs) (by simpa using h) fun g hg => k g (by simp [hg])
    show (if n = f then _ else (n, w) :: putF f y (ns.zip vs)) = (n, w) :: ns.zip (vs ++ [y])
    rw [if_neg ne, ih]
section
variable {G : Gb} {B : Hp} {E : XK} {ρ : Evr} {α β κ : Type} [Rp α] [Rp β] [Rp κ] {md md' : Md} {ta tb te tk : TE} {Ω : Type} {post : Hp → Ω → Ends → Prop} {t rest : TS} {i j : Nat} {p C dx : Addr} {ns : List Str} {fl : List Fd} {f : Str}
theorem Rel.insR {F0 F H : Hp} {σ : L2.St} (R : Rel G B F0 F ρ σ H) (h : ρ[i]? = some (some (.ins p C dx ns fl))) : σ[i]? = some (some (.ref p)) ∧ B p = none ∧ F p = none ∧ H p = some (.ins C dx (insF ns fl)) ∧ (∀ d ∈ fl, FdOk G B F H d) ∧ (p :: fl.map (·.1)).Nodup := by
  obtain ⟨x, e, rfl, r⟩ := R.at h
  exact ⟨e, r⟩
/-- self.f = a new thing -/
theorem run_fldNew [Rc α] {m : M α} {k : α → M Ω} (h : ρ[i]? = some (some (.ins p C dx ns fl))) (c : Cls G.K C) (na : NoAttr G.K C f) (hf : fIx ns f fl.length = true) (hl : fl.length < 1000) (he : EvN G B E ρ te m)
    (hk : ∀ q a, Run G B E post (ρ.set i (some (.ins p C dx ns (fl ++ [(q, ⟨a⟩)])))) rest (k a)) : Run G B E post ρ (tSeq (sFld G.K (tVar i) te f) rest) (m.b k) := fun F0 F σ H D R q =>
  he.go R q fun a F' q' o H' e h1 h2 h3 h4 R' q => by
    obtain ⟨es, r1, r2, r3, r4, r5⟩ := R'.insR h
    obtain ⟨f1, f2⟩ := fIx_at hf
    have hz : (fl.map fun d => V.ref d.1).length = fl.length := List.length_map ..
    refine ⟨_, es, p, C, dx, insF ns fl, rfl, r3, c, na, ?_, hk q' a F0 F' σ _ D ?_ q⟩
    · show (ns.zip (fl.map fun d => V.ref d.1)).length < 1000
      rw [List.length_zip, hz]
      omega
    · have ep : putF f (.ref q') (insF ns fl) = insF ns (fl ++ [(q', ⟨a⟩)]) := by
        unfold insF
        rw [zip_put (by rw [hz]; exact f1) (by rw [hz]; exact f2), List.map_append]
        rfl
      rw [ep]
      obtain ⟨_, _, _, rH, rF, rn⟩ := R.insR h
      have nq : ∀ b, b ∈ p :: fl.map (·.1) → b ≠ q' := fun b hb w => by
        obtain ⟨⟨o', z⟩, _⟩ := Fp.at (R.sl i _ _ h (R.insR h).1) (b := b) ⟨rfl, hb⟩
        rw [w, h1] at z
        cases z
      have np : p ≠ q' := nq p List.mem_cons_self
      refine R'.mod h es (fun b u nf z => ?_) ⟨rfl, r1, r2, upd_same, fun d hd => ?_, ?_⟩ fun b fb => ?_
      · rw [upd_ne (fun w => nf (by rw [w]; exact ⟨rfl, List.mem_cons_self⟩))]
        exact z
      · rcases List.mem_append.mp hd with hd | hd
        · obtain ⟨q1, q2, u, q3, q4⟩ := r4 d hd
          have ne : d.1 ≠ p := fun w => (List.nodup_cons.mp r5).1 (by rw [← w]; exact List.mem_map.mpr ⟨d, hd, rfl⟩)
          exact ⟨q1, q2, u, by rw [upd_ne ne]; exact q3, q4⟩
        · rw [List.mem_singleton.mp hd]
          exact ⟨R.sB.free h1, h2, o, by rw [upd_ne np.symm]; exact h3, h4⟩
      · have : p :: (fl ++ [(q', (⟨a⟩ : Fx))]).map (·.1) = (p :: fl.map (·.1)) ++ [q'] := by rw [List.map_append]; rfl
        rw [this, List.nodup_append]
        exact ⟨r5, by simp, fun x hx y hy w => nq x hx (by rw [w]; exact List.mem_singleton.mp hy)⟩
      · obtain ⟨_, hb⟩ := fb
        have : p :: (fl ++ [(q', (⟨a⟩ : Fx))]).map (·.1) = (p :: fl.map (·.1)) ++ [q'] := by rw [List.map_append]; rfl
        rw [this] at hb
        rcases List.mem_append.mp hb with hb | hb
        · exact .inl ⟨rfl, hb⟩
        · rw [List.mem_singleton.mp hb]
          exact .inr (R.freshE h1 e.h)
theorem insF_at {q : Addr} {x : Fx} (hf : fIx ns f j = true) (hj : fl[j]? = some (q, x)) : (insF ns fl).lookup f = some (.ref q) := by
  obtain ⟨f1, f2⟩ := fIx_at hf
  exact zip_look f1 f2 (by rw [List.getElem?_map, hj]; rfl)
theorem insF_set {q : Addr} {x y : Fx} (hj : fl[j]? = some (q, x)) : insF ns (fl.set j (q, y)) = insF ns fl ∧ (fl.set j (q, y)).map (·.1) = fl.map (·.1) := by
  have e1 : ∀ {γ : Type} (g : Addr → γ), (fl.set j (q, y)).map (fun d => g d.1) = fl.map fun d => g d.1 := fun g => by
    refine List.ext_getElem? fun n => ?_
    rw [List.getElem?_map, List.getElem?_map]
    by_cases z : j = n
    · subst z
      rw [List.getElem?_set_self', hj]
      rfl
    · rw [List.getElem?_set_ne z]
  exact ⟨by unfold insF; rw [e1 V.ref], e1 id⟩
/-- the thing of a field stands otherwise -/
theorem Rel.insC [Rc α] {F0 F H : Hp} {σ : L2.St} {q : Addr} {x : Fx} {o : HO} {a : α} (R : Rel G B F0 F ρ σ H) (h : ρ[i]? = some (some (.ins p C dx ns fl))) (hj : fl[j]? = some (q, x)) (c : con G F o a) :
    Rel G B F0 F (ρ.set i (some (.ins p C dx ns (fl.set j (q, ⟨a⟩))))) σ (upd H q o) := by
  obtain ⟨es, r1, r2, r3, r4, r5⟩ := R.insR h
  obtain ⟨s1, s2⟩ := insF_set (ns := ns) (y := (⟨a⟩ : Fx)) hj
  have hm : (q, x) ∈ fl := List.mem_of_getElem? hj
  have hq : q ∈ fl.map (·.1) := List.mem_map.mpr ⟨_, hm, rfl⟩
  have np : p ≠ q := fun w => (List.nodup_cons.mp r5).1 (by rw [w]; exact hq)
  refine R.mod h es (fun b u nf z => ?_) ⟨rfl, r1, r2, ?_, fun d hd => ?_, by rw [s2]; exact r5⟩ fun b fb => ?_
  · rw [upd_ne (fun w => nf (by rw [w]; exact ⟨rfl, List.mem_cons_of_mem _ hq⟩))]
    exact z
  · rw [upd_ne np, s1]
    exact r3
  · obtain ⟨n, hn⟩ := List.mem_iff_getElem?.mp hd
    by_cases z : j = n
    · subst z
      rw [List.getElem?_set_self', hj] at hn
      cases hn
      obtain ⟨q1, q2, u, q3, q4⟩ := r4 _ hm
      exact ⟨q1, q2, o, upd_same, c⟩
    · rw [List.getElem?_set_ne z] at hn
      obtain ⟨q1, q2, u, q3, q4⟩ := r4 d (List.mem_of_getElem? hn)
      have ne : d.1 ≠ q := fun w => by
        have nd := (List.nodup_cons.mp r5).2
        have g1 : (fl.map (·.1))[n]? = some q := by rw [List.getElem?_map, hn, ← w]; rfl
        have g2 : (fl.map (·.1))[j]? = some q := by rw [List.getElem?_map, hj]; rfl
        have l1 := (List.getElem?_eq_some_iff.mp g1).1
        have l2 := (List.getElem?_eq_some_iff.mp g2).1
        exact z ((List.getElem?_inj l2 nd).mp (g2.trans g1.symm))
      exact ⟨q1, q2, u, by rw [upd_ne ne]; exact q3, q4⟩
  · obtain ⟨_, hb⟩ := fb
    rw [s2] at hb
    exact .inl ⟨rfl, hb⟩
theorem Rel.insFd [Rc α] {F0 F H : Hp} {σ : L2.St} {q : Addr} {a : α} (R : Rel G B F0 F ρ σ H) (h : ρ[i]? = some (some (.ins p C dx ns fl))) (hj : fl[j]? = some (q, ⟨a⟩)) : B q = none ∧ F q = none ∧ ∃ o, H q = some o ∧ con G F o a := (R.insR h).2.2.2.2.1 _ (List.mem_of_getElem? hj)
/-- self.f.append(..) -/
theorem run_fldApp {q : Addr} {l : List α} {m : M α} {k : α → M Ω} (h : ρ[i]? = some (some (.ins p C dx ns fl))) (c : Cls G.K C) (na : NoAttr G.K C f) (hf : fIx ns f j = true) (hj : fl[j]? = some (q, ⟨l⟩)) (he : Ev G B E .F ρ te m)
    (hk : ∀ a, Run G B E post (ρ.set i (some (.ins p C dx ns (fl.set j (q, ⟨l ++ [a]⟩))))) rest (k a)) :
    Run G B E post ρ (tSeq (tDrop (tBM G.K "list" rAppend (tFld G.K (tVar i) f) (tCons te tNil))) rest) (m.b fun a => .chk (l.length < sizeLine) (k a)) := fun F0 F σ H D R q0 => by
  obtain ⟨es, r1, r2, r3, r4, r5⟩ := R.insR h
  obtain ⟨h1, h2, o, h3, vs, rfl, h4⟩ := R.insFd h hj
  refine ⟨_, es, p, C, dx, _, _, rfl, r3, c, na, insF_at hf hj, .inl ⟨rfl, vs, .of h3⟩, he.go R q0 fun a F' v H' e' r R' q0 => ?_⟩
  obtain ⟨c', q0⟩ := M.P_chk.mp q0
  refine ⟨q, vs, v, rfl, rfl, e'.h _ _ h3, by rw [h4.len]; exact c', hk a F0 F' σ _ D ?_ q0⟩
  exact R'.insC h hj ⟨_, rfl, (reps_mono e'.f h4).snoc r⟩
theorem run_fldDputK [DecidableEq κ] [Ky κ] {q : Addr} {d : Dk κ α} {mk : M κ} {m : M α} {k : α → κ → M Ω} (h : ρ[i]? = some (some (.ins p C dx ns fl))) (c : Cls G.K C) (na : NoAttr G.K C f) (hf : fIx ns f j = true) (hj : fl[j]? = some (q, ⟨d⟩)) (he : Ev G B E .F ρ te m) (hk : Ev G B E md ρ tk mk)
    (hn : ∀ a x, Run G B E post (ρ.set i (some (.ins p C dx ns (fl.set j (q, ⟨(⟨dput d.l x a⟩ : Dk κ α)⟩))))) rest (k a x)) :
    Run G B E post ρ (tSeq (sDPut (tFld G.K (tVar i) f) tk te) rest) (m.b fun a => mk.b fun x => .chk (d.l.length < sizeLine) (k a x)) := fun F0 F σ H D R q0 => by
  refine he.go R q0 fun a F1 v H1 e1 r1 R1 q0 => ?_
  obtain ⟨es, _, _, r3, _, _⟩ := R1.insR h
  refine ⟨_, es, p, C, dx, _, _, rfl, r3, c, na, insF_at hf hj, hk.go R1 q0 fun x F2 u H2 e2 r2 R2 q0 => ?_⟩
  obtain ⟨h1, h2, o, h3, kvs, rfl, h4⟩ := R2.insFd h hj
  obtain ⟨c', q0⟩ := M.P_chk.mp q0
  refine ⟨q, _, rfl, .inl ⟨kvs, Ky.key x, h3, (Ky.iff _ _ _ _).mp r2, by rw [h4.len]; exact c', rfl⟩, hn a x F0 F2 σ _ D ?_ q0⟩
  exact R2.insC h hj ⟨_, rfl, put_keys (fun z => Ky.inj z) x (Rp.mono e2.f r1) h4⟩
theorem run_fldDputT [DecidableEq κ] [Kt κ] {q : Addr} {d : Dt κ α} {mk : M κ} {m : M α} {k : α → κ → M Ω} (h : ρ[i]? = some (some (.ins p C dx ns fl))) (c : Cls G.K C) (na : NoAttr G.K C f) (hf : fIx ns f j = true) (hj : fl[j]? = some (q, ⟨d⟩)) (he : Ev G B E .F ρ te m) (hk : Ev G B E md ρ tk mk)
    (hn : ∀ a x, Run G B E post (ρ.set i (some (.ins p C dx ns (fl.set j (q, ⟨(⟨dput d.l x a⟩ : Dt κ α)⟩))))) rest (k a x)) :
    Run G B E post ρ (tSeq (sDPut (tFld G.K (tVar i) f) tk te) rest) (m.b fun a => mk.b fun x => .chk (d.l.length < sizeLine) (k a x)) := fun F0 F σ H D R q0 => by
  refine he.go R q0 fun a F1 v H1 e1 r1 R1 q0 => ?_
  obtain ⟨es, _, _, r3, _, _⟩ := R1.insR h
  refine ⟨_, es, p, C, dx, _, _, rfl, r3, c, na, insF_at hf hj, hk.toH.go R1 q0 fun x F2 u H2 e2 r2 R2 q0 => ?_⟩
  obtain ⟨h1, h2, o, h3, kvs, rfl, h4⟩ := R2.insFd h hj
  obtain ⟨c', q0⟩ := M.P_chk.mp q0
  obtain ⟨b, rfl, hb⟩ := (Kt.iff _ _ _ _).mp r2
  refine ⟨q, _, rfl, .inr ⟨kvs, Kt.key x, b, h3, rfl, hb, by rw [h4.len]; exact c', rfl⟩, hn a x F0 F2 σ _ D ?_ q0⟩
  exact R2.insC h hj ⟨_, rfl, put_keys (fun z => Kt.inj z) x (Rp.mono e2.f r1) h4⟩
end
end Tw
set_option Elab.async false
set_option linter.all false
set_option maxRecDepth 100000
set_option maxHeartbeats 4000000
namespace Tw
open PySem PySem.Spec L2 TL
open PyProof.Rows hiding St
/-- a class whose instances hold things of their own -/
class Ins (D : Type) where
  nm : Str
  ns : List Str
  fs : D → List Fx
def repI {D : Type} [Ins D] (G : Gb) (H : Hp) (v : V) (t : D) : Prop := ∃ (p dx : Addr) (qs : List Addr), v = .ref p ∧ H p = some (.ins (G.cl (Ins.nm D)) dx ((Ins.ns D).zip (qs.map V.ref))) ∧ All2 (fun q (x : Fx) => @Rp.rep _ x.i G H (.ref q) x.a) qs (Ins.fs t)
instance (priority := low) insRp (D : Type) [Ins D] : Rp D := ⟨repI, fun s h => by
  obtain ⟨p, dx, qs, e, h1, h2⟩ := h
  exact ⟨p, dx, qs, e, s _ _ h1, h2.imp fun q x r => @Rp.mono _ x.i _ _ _ _ _ s r⟩⟩
/-- what the class itself is -/
class ClsF (G : Gb) (D : Type) [Ins D] : Prop where
  c : Cls G.K (G.cl (Ins.nm D))
  na : ∀ f ∈ Ins.ns D, NoAttr G.K (G.cl (Ins.nm D)) f
theorem ClsF.no {G : Gb} {D : Type} [Ins D] [F : ClsF G D] {f : Str} {j : Nat} (h : fIx (Ins.ns D) f j = true) : NoAttr G.K (G.cl (Ins.nm D)) f := F.na f (List.mem_of_getElem? (fIx_at h).1)
open Classical in
noncomputable def minus (H : Hp) (x : Addr) : Hp := fun b => if b = x then none else H b
theorem minus_in {H : Hp} {x : Addr} : minus H x x = none := if_pos rfl
theorem minus_out {H : Hp} {x b : Addr} (h : b ≠ x) : minus H x b = H b := if_neg h
theorem minus_same {H : Hp} {x : Addr} : Same (minus H x) H := fun b o e => by
  by_cases z : b = x
  · rw [z, minus_in] at e; cases e
  · rw [minus_out z] at e; exact e
section
variable (G : Gb) (B : Hp) {D : Type} [Ins D]
/-- it ends, and the instance is made -/
def oI (p dx : Addr) : Hp → D → Ends → Prop := fun F0 t D' => ∀ (F' : Hp) (σ' : L2.St) (H' : Hp) (fl : List Fd), Fin G B F0 F' H' → SlOk G B F' H' (some (.ins p (G.cl (Ins.nm D)) dx (Ins.ns D) fl)) (some (.ref p)) → fl.map (·.2) = Ins.fs t → D'.nx σ' H'
end
/-- the promise of an __init__ -/
def spI (G : Gb) {D : Type} [Ins D] {P : Type} (sl : P → List Slot) (f : P → M D) : Sp := fun vs H Q E => ∃ (x dx : Addr) (ws : List V) (p : P) (F0 : Hp), vs = .ref x :: ws ∧ H x = some (.ins (G.cl (Ins.nm D)) dx []) ∧ F0 x = none ∧ Same F0 H ∧ ArgOk G F0 (minus H x) (sl p) ws ∧
  (f p).P (fun t => ∀ (F' H' : Hp) (fl : List Fd), Fin G (minus H x) F0 F' H' → SlOk G (minus H x) F' H' (some (.ins x (G.cl (Ins.nm D)) dx (Ins.ns D) fl)) (some (.ref x)) → fl.map (·.2) = Ins.fs t → Q .non H') (Xc G (minus H x) E)
section
variable {G : Gb} {D : Type} [Ins D] {P : Type} {sl : P → List Slot} {f : P → M D} {N : List Str} {n k : Nat} {vs : List V} {H : Hp} {Q : VK} {E : XK} {t : TS}
theorem spI_len (hs : spI G sl f vs H Q E) (hk : ∀ p, (sl p).length + 1 = k) : vs.length = k := by
  obtain ⟨x, dx, ws, p, F0, rfl, _, _, _, ar, _⟩ := hs
  rw [List.length_cons, ← (arg_all ar).len, hk]
theorem rel_argsI {F : Hp} {a C dx : Addr} {ns : List Str} {ss : List Slot} {ws : List V} (n : Nat) (r : H a = some (.ins C dx [])) (hf : F a = none) (s : Same F H) (h : ArgOk G F (minus H a) ss ws) :
    Rel G (minus H a) F F (some (.ins a C dx ns []) :: (ss.map some ++ List.replicate n none)) (some (.ref a) :: (ws.map some ++ List.replicate n none)) H := by
  have s' : Same F (minus H a) := fun b o e => by
    rw [minus_out (fun z => by rw [z, hf] at e; cases e)]
    exact s _ _ e
  have R0 := rel_args n s' h
  have no : ∀ (j : Nat) (t : Option Slot) (y : Option V), (ss.map some ++ List.replicate n none)[j]? = some t → Fp H t y = fun _ => False := fun j t y hj => by
    have := (arg_at (arg_all h) hj).1
    funext b
    exact eq_false fun z => by rw [z.own] at this; cases this
  refine ⟨minus_same, s, .refl _, fun b h q => absurd h q, by rw [List.length_cons, List.length_cons, R0.len], fun i s x hs hx => ?_, fun i j s t x y b hi hx hj hy f g => ?_⟩
  · cases i with
    | zero =>
      cases hs
      cases hx
      refine ⟨rfl, minus_in, hf, ?_, fun d hd => (by cases hd), by simp⟩
      rw [r]
      unfold insF
      simp
    | succ i =>
      have hs' : (ss.map some ++ List.replicate n none)[i]? = some s := by simpa using hs
      have hx' : (ws.map some ++ List.replicate n none)[i]? = some x := by simpa using hx
      refine (R0.sl i s x hs' hx').frame (.refl _) (fun b o f => ?_) fun b f => ?_
      · have := (arg_at (arg_all h) hs').1; rw [f.own] at this; cases this
      · have := (arg_at (arg_all h) hs').1; rw [f.own] at this; cases this
  · cases i with
    | zero =>
      cases j with
      | zero => rfl
      | succ j => rw [no j t y (by simpa using hj)] at g; exact g.elim
    | succ i => rw [no i s x (by simpa using hi)] at f; exact f.elim
theorem spI_run (hs : spI G sl f vs H Q E) (hn : ∀ p, N.length = (sl p).length + 1 + n) (h : ∀ p a dx B, Run G B E (oI G B a dx) (some (.ins a (G.cl (Ins.nm D)) dx (Ins.ns D) []) :: ((sl p).map some ++ List.replicate n none)) t (f p)) : t (dEnd Q) (start N vs) H := by
  obtain ⟨a, dx, ws, p, F0, rfl, r, hf, s, ar, q⟩ := hs
  have e : N.length - (V.ref a :: ws).length = n := by rw [List.length_cons, ← (arg_all ar).len, hn p]; omega
  rw [start_of, e]
  exact h p a dx _ F0 F0 _ H _ (rel_argsI n r hf s ar) (q.imp (fun r k F' σ' H' fl f h1 h2 => k F' H' fl f h1 h2) fun _ x => x)
end
section
variable {G : Gb} {B : Hp} {E : XK} {ρ : Evr} {D : Type} [Ins D] {i : Nat} {p dx : Addr} {fl : List Fd}
theorem run_nextI {t : D} (h : ρ[i]? = some (some (.ins p (G.cl (Ins.nm D)) dx (Ins.ns D) fl))) (he : fl.map (·.2) = Ins.fs t) : Run G B E (oI G B p dx) ρ tNext (.ok t) := fun F0 F σ H D' R q => by
  obtain ⟨x, e, r⟩ := R.at h
  obtain rfl := r.1
  exact q F σ H fl R.fin r he
open Classical in
/-- C(..) -/
theorem ev_make1 {α1 : Type} [Rp α1] {k1 : α1 → Slot} {d1 : Md} {m1 : M α1} {t1 : TE} {f : α1 → M D} (h1 : Ev G B E d1 ρ t1 m1) (p1 : Ps d1 k1) : @Ev G B E D (insRp D) .F ρ (tMake (G.cl (Ins.nm D)) (spI G (fun p : α1 => [k1 p]) f) [] E0 (tCons t1 tNil)) (m1.b fun a => M.cl (f a)) := fun F0 F σ H Q R0 q => by
  refine h1.go R0 q fun a F1 v H1 e1 r1 R1 q => ?_
  intro x dx hx hd ne
  have hxd : x ≠ dx := fun w => ne w.symm
  have same2 : Same H1 (upd (upd H1 dx (.own x)) x (.ins (G.cl (Ins.nm D)) dx [])) := fun b o z => by
    rw [upd_ne (fun w => by rw [w, hx] at z; cases z), upd_ne (fun w => by rw [w, hd] at z; cases z)]
    exact z
  have same3 : Same H1 (minus (upd (upd H1 dx (.own x)) x (.ins (G.cl (Ins.nm D)) dx [])) x) := fun b o z => by
    rw [minus_out (fun w => by rw [w, hx] at z; cases z)]
    exact same2 _ _ z
  have ext3 : Ext F1 H1 F1 (minus (upd (upd H1 dx (.own x)) x (.ins (G.cl (Ins.nm D)) dx [])) x) := ⟨.refl _, same3, fun a h q => absurd h q⟩
  have fx : F1 x = none := R1.sF.free hx
  have low : ∀ b, minus (upd (upd H1 dx (.own x)) x (.ins (G.cl (Ins.nm D)) dx [])) x b = none → H1 b = none := fun b z => by
    cases w : H1 b with
    | none => rfl
    | some o => rw [same3 _ _ w] at z; cases z
  refine ⟨x, dx, [v], a, F1, rfl, upd_same, fx, R1.sF.trans same2, p1 (R1.sB.trans same3) (R1.sF.trans same3) (Rp.mono (hpM_ext ext3) r1) (ss := []) (vs := []) trivial, ?_⟩
  refine (M.P_cl q).imp (fun t k F' H' fl fin so hfl => ⟨rfl, ?_⟩) fun _ z => z.elim
  obtain ⟨_, s1, s2, s3, s4, s5⟩ := so
  let S : Addr → Prop := fun b => b ∈ x :: fl.map (·.1)
  let F2 : Hp := fun b => if S b then H' b else F' b
  have in' : ∀ {b}, S b → F2 b = H' b := fun f => if_pos f
  have out' : ∀ {b}, ¬ S b → F2 b = F' b := fun f => if_neg f
  have sn : ∀ b, S b → F' b = none ∧ H1 b = none := fun b hb => by
    rcases List.mem_cons.mp hb with rfl | hb
    · exact ⟨s2, hx⟩
    · obtain ⟨d, hd, rfl⟩ := List.mem_map.mp hb
      obtain ⟨q1, q2, _⟩ := s4 d hd
      exact ⟨q2, low _ q1⟩
  have sf : Same F' F2 := fun b o z => by
    by_cases w : S b
    · rw [(sn b w).1] at z; cases z
    · rw [out' w]; exact z
  have sh : Same F2 H' := fun b o z => by
    by_cases w : S b
    · rw [in' w] at z; exact z
    · rw [out' w] at z; exact fin.sF _ _ z
  refine k F2 (.ref x) H' ⟨e1.f.trans (fin.s0.trans sf), e1.h.trans (same3.trans fin.sB), fun b z w => ?_⟩ sh ⟨x, dx, fl.map (·.1), rfl, ?_, ?_⟩
  · by_cases y : S b
    · exact e1.h.free (sn b y).2
    · rw [out' y] at w
      cases u : F1 b with
      | none => exact e1.h.free (low b (fin.nw b u w))
      | some o => exact e1.n b z (by rw [u]; exact fun z => nomatch z)
  · show F2 x = _
    rw [in' (show S x from List.mem_cons_self), s3, List.map_map]
    rfl
  · rw [← hfl]
    have : ∀ l : List Fd, (∀ d ∈ l, d ∈ fl) → All2 (fun q (x : Fx) => @Rp.rep _ x.i G F2 (.ref q) x.a) (l.map (·.1)) (l.map (·.2)) := by
      intro l
      induction l with
      | nil => exact fun _ => .nil
      | cons d r ih =>
        intro hl
        refine .cons ?_ (ih fun c hc => hl c (List.mem_cons_of_mem _ hc))
        obtain ⟨q1, q2, o, q3, q4⟩ := s4 d (hl d List.mem_cons_self)
        have hS : S d.1 := List.mem_cons_of_mem _ (List.mem_map.mpr ⟨d, hl d List.mem_cons_self, rfl⟩)
        exact @Rc.fz _ d.2.i d.2.j _ _ _ _ _ (by rw [in' hS]; exact q3) (@Rc.mono _ d.2.i d.2.j _ _ _ _ _ sf q4)
    exact this fl fun d hd => hd
/-- e.f -/
theorem ev_fld {α : Type} [Rp α] [Rc α] {md : Md} {te : TE} {m : M D} {f : Str} {j : Nat} {g : D → α} [CF : ClsF G D] (h : @Ev G B E D (insRp D) md ρ te m) (hf : fIx (Ins.ns D) f j = true) (hg : ∀ t : D, (Ins.fs t)[j]? = some ⟨g t⟩) : Ev G B E md ρ (tFld G.K te f) (m.b fun t => .ok (g t)) := fun F0 F σ H Q R q => by
  letI := insRp D
  refine h.go R q fun t F' v H' e r R' q => ?_
  obtain ⟨p, dx, qs, rfl, h1, h2⟩ := r
  obtain ⟨x, hx, hr⟩ := h2.get' (hg t)
  obtain ⟨f1, f2⟩ := fIx_at hf
  exact ⟨p, _, dx, _, .ref x, rfl, hpM_H R'.sB R'.sF _ _ h1, CF.c, ClsF.no hf, zip_look f1 f2 (by rw [List.getElem?_map, hx]; rfl), q F' _ H' e R'.sF hr⟩
end
end Tw
set_option Elab.async false
set_option linter.all false
set_option maxRecDepth 100000
set_option maxHeartbeats 4000000
namespace Tw
open PySem PySem.Spec L2 TL
open PyProof.Rows hiding St
section
variable {G : Gb} {B : Hp} {E : XK} {ρ : Evr} {mr : Md}
theorem ev_meth1 {R : Type} [Rp R] {D : Type} [Ins D] {mn : Str} {α2 : Type} [Rp α2] {k1 : D → Slot} {k2 : α2 → Slot} {d1 : Md} {d2 : Md} {m1 : M D} {t1 : TE} {m2 : M α2} {t2 : TE} {f : D → α2 → M R} (h1 : Ev G B E d1 ρ t1 m1) (p1 : Ps d1 k1) (h2 : Ev G B E d2 ρ t2 m2) (p2 : Ps d2 k2) (hm : mn ∉ Ins.ns D) : Ev G B E .F ρ (tMeth (G.cl (Ins.nm D)) mn (spA G (fun (p : D × α2) => [k1 p.1, k2 p.2]) (rpF G) (fun (p : D × α2) => f (p.1) (p.2))) [] E0 t1 (tCons t2 tNil)) (m1.b fun a1 => m2.b fun a2 => M.cl (f a1 a2)) := fun F0 F σ H Q R0 q => by
  refine h1.go R0 q fun a1 F1 v1 H1 e1 r1 R1 q => ?_
  have r0 := r1
  obtain ⟨pp, dd, qq, rfl, g1, g2⟩ := r0
  refine ⟨pp, dd, _, rfl, hpM_H R1.sB R1.sF _ _ g1, zip_no hm, ?_⟩
  refine h2.go R1 q fun a2 F2 v2 H2 e2 r2 R2 q => ?_
  refine ⟨(a1, a2), F2, R2.sF, (p1 R2.sB R2.sF (Rp.mono (hpM_ext e2) r1) (p2 R2.sB R2.sF r2 trivial)), ?_⟩
  refine (M.P_cl q).imp (fun a k F' v H' f h => ?_) fun _ z => z.elim
  have e := f.ext0
  exact k F' v H' ((e1.trans e2).trans e) f.sF h
end
end Tw
set_option Elab.async false
set_option linter.all false
set_option maxRecDepth 100000
set_option maxHeartbeats 4000000
namespace Tw
open PySem PySem.Spec L2 TL
open PyProof.Rows hiding St
section
variable {G : Gb} {B : Hp} {E : XK} {ρ : Evr} {α β κ : Type} [Rp α] [Rp β] [Rp κ] {md md' : Md} {ta tb te tk : TE} {Ω : Type} {post : Hp → Ω → Ends → Prop} {t rest : TS} {i j : Nat} {p dx : Addr} {fl : List Fd} {f : Str} {D : Type} [Ins D] [CF : ClsF G D]
theorem runI_new [Rc α] {m : M α} {k : α → M Ω} (h : ρ[i]? = some (some (.ins p (G.cl (Ins.nm D)) dx (Ins.ns D) fl))) (hl : fl.length = j) (hf : fIx (Ins.ns D) f j = true) (hj : j < 1000) (he : EvN G B E ρ te m)
    (hk : ∀ q a, Run G B E post (ρ.set i (some (.ins p (G.cl (Ins.nm D)) dx (Ins.ns D) (fl ++ [(q, ⟨a⟩)])))) rest (k a)) : Run G B E post ρ (tSeq (sFld G.K (tVar i) te f) rest) (m.b k) :=
  run_fldNew h CF.c (ClsF.no hf) (by rw [hl]; exact hf) (by rw [hl]; exact hj) he hk
theorem runI_app {q : Addr} {l : List α} {m : M α} {k : α → M Ω} (h : ρ[i]? = some (some (.ins p (G.cl (Ins.nm D)) dx (Ins.ns D) fl))) (hf : fIx (Ins.ns D) f j = true) (hj : fl[j]? = some (q, ⟨l⟩)) (he : Ev G B E .F ρ te m)
    (hk : ∀ a, Run G B E post (ρ.set i (some (.ins p (G.cl (Ins.nm D)) dx (Ins.ns D) (fl.set j (q, ⟨l ++ [a]⟩))))) rest (k a)) :
    Run G B E post ρ (tSeq (tDrop (tBM G.K "list" rAppend (tFld G.K (tVar i) f) (tCons te tNil))) rest) (m.b fun a => .chk (l.length < sizeLine) (k a)) := run_fldApp h CF.c (ClsF.no hf) hf hj he hk
theorem runI_dputK [DecidableEq κ] [Ky κ] {q : Addr} {d : Dk κ α} {mk : M κ} {m : M α} {k : α → κ → M Ω} (h : ρ[i]? = some (some (.ins p (G.cl (Ins.nm D)) dx (Ins.ns D) fl))) (hf : fIx (Ins.ns D) f j = true) (hj : fl[j]? = some (q, ⟨d⟩)) (he : Ev G B E .F ρ te m) (hk : Ev G B E md ρ tk mk)
    (hn : ∀ a x, Run G B E post (ρ.set i (some (.ins p (G.cl (Ins.nm D)) dx (Ins.ns D) (fl.set j (q, ⟨(⟨dput d.l x a⟩ : Dk κ α)⟩))))) rest (k a x)) :
    Run G B E post ρ (tSeq (sDPut (tFld G.K (tVar i) f) tk te) rest) (m.b fun a => mk.b fun x => .chk (d.l.length < sizeLine) (k a x)) := run_fldDputK h CF.c (ClsF.no hf) hf hj he hk hn
theorem runI_dputT [DecidableEq κ] [Kt κ] {q : Addr} {d : Dt κ α} {mk : M κ} {m : M α} {k : α → κ → M Ω} (h : ρ[i]? = some (some (.ins p (G.cl (Ins.nm D)) dx (Ins.ns D) fl))) (hf : fIx (Ins.ns D) f j = true) (hj : fl[j]? = some (q, ⟨d⟩)) (he : Ev G B E .F ρ te m) (hk : Ev G B E md ρ tk mk)
    (hn : ∀ a x, Run G B E post (ρ.set i (some (.ins p (G.cl (Ins.nm D)) dx (Ins.ns D) (fl.set j (q, ⟨(⟨dput d.l x a⟩ : Dt κ α)⟩))))) rest (k a x)) :
    Run G B E post ρ (tSeq (sDPut (tFld G.K (tVar i) f) tk te) rest) (m.b fun a => mk.b fun x => .chk (d.l.length < sizeLine) (k a x)) := run_fldDputT h CF.c (ClsF.no hf) hf hj he hk hn
end
structure TurnsD where
  order : List (Str × Int)
  sizes : Dk Str Int
  signs : Dt (Str × Int) Str
  mates : Dt (Str × Int) (Str × Int)
instance : Ins TurnsD := ⟨"Turns", ["order", "sizes", "signs", "mates"], fun t => [⟨t.order⟩, ⟨t.sizes⟩, ⟨t.signs⟩, ⟨t.mates⟩]⟩
end Tw
set_option Elab.async false
set_option linter.all false
set_option maxRecDepth 100000
set_option maxHeartbeats 4000000
namespace Tw
open PySem PySem.Spec L2 TL
open PyProof.Rows hiding St
def rSortedPR (K : PySem.W.Frag) : List V → List V → Hp → VK → Prop := fun vs zs H Q => ∃ (a : Addr) (xs : List V) (k : V → Int × Int), vs = [V.ref a] ∧ zs = [.bl true] ∧ SqL K H a xs ∧ (∀ x ∈ xs, ∃ t, x = V.ref t ∧ H t = some (.tup [.int (k x).1, .int (k x).2])) ∧
  ∀ ys p, SrtO.Srtd (ltP k) ys → ys.Perm xs → H p = none → Q (.ref p) (upd H p (.lst ys.reverse))
section
variable {X : Cx}
theorem cr_sortedPR : CallRK X (.builtin "sorted") [Str.ofString "reverse"] (rSortedPR X.K) := by
  intro pins s σ H vs zs us ws Q I r rz h
  obtain ⟨a, xs, k, rfl, rfl, hs, hx, q⟩ := h
  obtain rfl := Vals.ref1 r
  obtain ⟨w1, rfl, e1⟩ := vals1 rz
  obtain rfl : w1 = Value.bool true := e1
  obtain ⟨its, rv, hl, hz⟩ := I.list hs
  obtain ⟨e1, e2⟩ := refs_back rv fun x m => by
    obtain ⟨t, e, _⟩ := hx x m
    exact ⟨t, e⟩
  have hp : ∀ v ∈ its, Srt.IsPair s.heap v (k (backV v)).1 (k (backV v)).2 := fun v hv => by
    obtain ⟨t, rfl⟩ := e2 v hv
    have hm : V.ref t ∈ xs := by rw [e1]; exact List.mem_map.mpr ⟨_, hv, rfl⟩
    obtain ⟨t', e, ht⟩ := hx _ hm
    cases e
    obtain ⟨_, its2, r2, o, ho, hc, n, hd⟩ := I.hok _ _ ht
    obtain ⟨u1, u2, rfl, ri, rj⟩ := vals2 r2
    obtain ⟨t1, rfl⟩ := ri
    obtain ⟨t2, rfl⟩ := rj
    exact ⟨t, o, t1, t2, n, rfl, ho, hc, hd⟩
  refine SrtR.sorted_ordK (b := true) (fun _ => rfl) (PyProof.Rows.args_sorted_rev _ _) (fun _ => PyProof.Rows.args_list_sort_rev _ _) (SrtO.swo_lex fun u => k (backV u)) hl.isList (by rw [← rv.length]; exact hz) (fun h2 h₁ a' ha' kp => SrtO.pairs_sortableO (by omega) (fun v hv => ?_) fun o e => ?_) fun out h1 h2 => ?_
  · obtain ⟨t, o, t1, t2, n, z1, z2, z3, z4⟩ := hp v hv
    exact ⟨t, o, t1, t2, n, z1, (kp _ _ z2).2, z3, z4⟩
  · rw [show h₁.get? a' = _ from ha'] at e
    cases e
    exact fun z => by
      injection z with z3
      exact absurd z3 (by decide)
  · have h2p : out.Perm its := h2.perm.trans (List.reverse_perm _)
    have h3 : ∀ u ∈ out, ∃ a, u = Value.ref a := fun u hu => e2 u (h2p.mem_iff.mp hu)
    have hb : (out.map backV).Perm xs := by
      rw [e1]
      exact h2p.map backV
    obtain ⟨ep, he'⟩ := PyProof.Rows.sortedAll_at s.heap its out.toArray.reverse
    have hlen : (out.map backV).reverse.length ≤ sizeLine := by
      rw [List.length_reverse, hb.length_eq]
      exact hz
    have er : (out.map backV).reverse = out.reverse.map backV := by rw [List.map_reverse]
    have h4 : ∀ u ∈ out.reverse, ∃ a, u = Value.ref a := fun u hu => h3 u (List.mem_reverse.mp hu)
    have ea : out.reverse.toArray = out.toArray.reverse := by
      apply Array.ext'
      rw [Array.toList_reverse]
    exact ⟨.ref _, upd H (s.heap.objs.size + 1) (.lst (out.map backV).reverse), I.laid (t' := s.toks) (fun _ _ => PyProof.Rows.sortedAll_old) (Nat.le_succ _) ⟨hlen, out.reverse, ep, by rw [er]; exact vals_back h4, by rw [ea]; exact he'⟩, rfl, q _ _ (SrtO.srtd_map h1) hb (I.hok.fresh (Nat.le_succ _))⟩
end
def leP (a b : Int × Int) : Bool := !SrtO.lexB b a
def srtPR (l : List (Int × Int)) : List (Int × Int) := (l.mergeSort leP).reverse
theorem leP_iff {a b : Int × Int} : leP a b = true ↔ a.1 < b.1 ∨ (a.1 = b.1 ∧ a.2 ≤ b.2) := by
  unfold leP
  rw [Bool.not_eq_true', SrtO.lexB_no]
  omega
theorem leP_trans (a b c : Int × Int) (h1 : leP a b = true) (h2 : leP b c = true) : leP a c = true := by
  rw [leP_iff] at h1 h2 ⊢
  omega
theorem leP_total (a b : Int × Int) : (leP a b || leP b a) = true := by
  rw [Bool.or_eq_true, leP_iff, leP_iff]
  omega
theorem leP_anti {a b : Int × Int} (h1 : leP a b = true) (h2 : leP b a = true) : a = b := by
  rw [leP_iff] at h1 h2
  exact Prod.ext (by omega) (by omega)
theorem srtPR_uniq {l m : List (Int × Int)} (h : m.Pairwise fun a b => leP a b = true) (p : m.Perm l) : m.reverse = srtPR l := by
  unfold srtPR
  congr 1
  exact (p.trans (List.mergeSort_perm l leP).symm).eq_of_pairwise (fun _ _ _ _ a b => leP_anti a b) h (List.pairwise_mergeSort leP_trans leP_total l)
section
variable {G : Gb} {B : Hp} {E : XK} {ρ : Evr} {te : TE}
theorem pairs_key {H : Hp} : ∀ {vs : List V} {l : List (Int × Int)}, reps G H vs l → ∃ k : V → Int × Int, (∀ v ∈ vs, ∃ t, v = V.ref t ∧ H t = some (.tup [.int (k v).1, .int (k v).2])) ∧ vs.map k = l := by
  intro vs l h
  classical
  let k : V → Int × Int := fun v => if z : ∃ x : Int × Int, rep G H v x then z.choose else (0, 0)
  have uni : ∀ {v : V} {x y : Int × Int}, rep G H v x → rep G H v y → x = y := by
    rintro v x y ⟨p, a, b, rfl, h1, rfl, rfl⟩ ⟨q, c, d, e, h2, rfl, rfl⟩
    cases e
    rw [h1] at h2
    injection h2 with h2
    injection h2 with h2
    injection h2 with h3 h2
    injection h2 with h4 _
    exact Prod.ext (V.int.inj h3) (V.int.inj h4)
  have kx : ∀ {v : V} {x : Int × Int}, rep G H v x → k v = x := fun {v x} hx => by
    have z : ∃ x : Int × Int, rep G H v x := ⟨x, hx⟩
    show (if z : ∃ x : Int × Int, rep G H v x then z.choose else (0, 0)) = x
    rw [dif_pos z]
    exact uni z.choose_spec hx
  refine ⟨k, fun v hv => ?_, ?_⟩
  · obtain ⟨i, hi⟩ := List.mem_iff_getElem?.mp hv
    obtain ⟨x, _, hx⟩ := h.get hi
    rw [kx hx]
    obtain ⟨p, a, b, rfl, h1, rfl, rfl⟩ := hx
    exact ⟨p, rfl, h1⟩
  · induction h with
    | nil => rfl
    | cons hx t ih => rw [List.map_cons, kx hx, ih]
theorem all2_of_key {H : Hp} {k : V → Int × Int} : ∀ {vs : List V}, (∀ v ∈ vs, ∃ t, v = V.ref t ∧ H t = some (.tup [.int (k v).1, .int (k v).2])) → reps G H vs (vs.map k)
  | [], _ => .nil
  | v :: r, h => .cons (by obtain ⟨t, e, ht⟩ := h v List.mem_cons_self; exact ⟨t, _, _, e, ht, rfl, rfl⟩) (all2_of_key fun u hu => h u (List.mem_cons_of_mem _ hu))
theorem en_sortPR {m : M (List (Int × Int))} (h : EvS G B E ρ te m) : EvN G B E ρ (tCKw (rSortedPR G.K) (tCons te tNil) (tCons (tC (.bl true)) tNil)) (m.b fun l => .ok (srtPR l)) := fun F0 F σ H Q R q =>
  h.go R q fun l F1 p vs H1 e1 h1 h2 R1 q => by
    obtain ⟨k, k1, k2⟩ := pairs_key h2
    refine ⟨p, vs, k, rfl, rfl, .of h1, fun v hv => ?_, fun ys d hs hp nd => ?_⟩
    · obtain ⟨t, e, ht⟩ := k1 v hv
      exact ⟨t, e, R1.sF _ _ ht⟩
    · refine q F1 d _ _ (e1.trans (.new nd)) (R1.sF.trans (same_upd nd)) (e1.h.free nd) (R1.sF.free nd) upd_same ⟨_, rfl, ?_⟩
      have hy : reps G F1 ys (ys.map k) := all2_of_key fun v hv => k1 v (hp.mem_iff.mp hv)
      have := srtPR_uniq (l := l) (m := ys.map k) (List.pairwise_map.mpr (hs.imp fun z => by show (!_) = true; rw [show SrtO.lexB _ _ = false from z]; rfl)) (by rw [← k2]; exact hp.map k)
      rw [← this]
      exact hy.rev
end
end Tw
set_option Elab.async false
set_option linter.all false
set_option maxRecDepth 100000
set_option maxHeartbeats 4000000
namespace Tw
open PySem PySem.Spec L2 TL
open PyProof.Rows hiding St
/-- what is put behind what a key holds -/
def dapp {κ α : Type} [DecidableEq κ] (d : List (κ × List α)) (k : κ) (a : α) : List (κ × List α) := match dget d k with
  | some l => dput d k (l ++ [a])
  | none => d ++ [(k, [a])]
section
variable {G : Gb} {B : Hp} {E : XK} {ρ ρ' : Evr} {α β κ : Type} [Rp α] [Rp κ] [DecidableEq κ] [Ky κ] {md md' mr : Md} {ta tb tc te : TE}
  {Ω S R : Type} {post : Hp → Ω → Ends → Prop} {EX : S → Evr} {rp : RP R} {t rest : TS} {i : Nat} {p : Addr} {d : List (κ × List α)}
theorem Rel.dd {F0 F H : Hp} {σ : L2.St} (R : Rel G B F0 F ρ σ H) (h : ρ[i]? = some (some (.dd p d))) : ∃ es, σ[i]? = some (some (.ref p)) ∧ DlOk G F H p es d ∧ ∀ b, FpD p es b → B b = none ∧ F b = none := by
  obtain ⟨x, e, es, rfl, h1, h3⟩ := R.at h
  exact ⟨es, e, h1, h3⟩
theorem run_freezeD {m : M Ω} (h : ρ[i]? = some (some (.dd p d))) (k : Run G B E post (ρ.set i (some (.fz (⟨d⟩ : Dk κ (List α))))) t m) : Run G B E post ρ t m := fun F0 F σ H D R q => by
  obtain ⟨F', R'⟩ := R.freezeD h
  exact k F0 F' σ H D R' q
theorem run_ddNew {m : M Ω} (hk : ∀ p, Run G B E post (ρ.set i (some (.dd p ([] : List (κ × List α))))) rest m) : Run G B E post ρ (tSeq (tAsg tDNewK (gName i)) rest) m := fun F0 F σ H D R q p np => by
  have e : Ext F H F (upd H p (.dK [])) := .new np
  have R1 := R.ext e (R.sF.trans e.h)
  refine hk p F0 F _ _ D (R1.setv ⟨[], rfl, ⟨upd_same, .nil, .nil, by simp⟩, fun b f => ?_⟩ fun b f j t y _ hj hy g => ?_) q
  · rcases f with rfl | ⟨e, he, _⟩
    · exact ⟨R.sB.free np, R.sF.free np⟩
    · cases he
  · obtain ⟨es, _, k1, k2⟩ := f
    have := (show DictL _ p [] from upd_same).inj k1
    subst this
    rcases k2 with rfl | ⟨e, he, _⟩
    · exact R.freshE np e.h j t y hj hy g
    · cases he
theorem dl_get {F H : Hp} {es : List (Key × Addr)} (k : κ) (h : DlOk G F H p es d) : (∀ l, dget d k = some l → ∃ (n : Nat) (q : Addr) (vs : List V), es[n]? = some (Ky.key k, q) ∧ d[n]? = some (k, l) ∧ valV (es.map fun e => (e.1, V.ref e.2)) (Ky.key k) = some (.ref q) ∧ H q = some (.lst vs) ∧ reps G F vs l ∧ (∀ m x, d[m]? = some x → x.1 = k → n ≤ m)) ∧ (dget d k = none → valV (es.map fun e => (e.1, V.ref e.2)) (Ky.key k) = none) := by
  have go : ∀ {es : List (Key × Addr)} {d : List (κ × List α)}, All2 (fun (e : Key × Addr) (q : κ × List α) => e.1 = Ky.key q.1 ∧ ∃ vs, H e.2 = some (.lst vs) ∧ reps G F vs q.2) es d →
      (∀ l, dget d k = some l → ∃ (n : Nat) (q : Addr) (vs : List V), es[n]? = some (Ky.key k, q) ∧ d[n]? = some (k, l) ∧ valV (es.map fun e => (e.1, V.ref e.2)) (Ky.key k) = some (.ref q) ∧ H q = some (.lst vs) ∧ reps G F vs l ∧ (∀ m x, d[m]? = some x → x.1 = k → n ≤ m)) ∧ (dget d k = none → valV (es.map fun e => (e.1, V.ref e.2)) (Ky.key k) = none) := by
    intro es d h
    induction h with
    | nil => exact ⟨fun l e => (nomatch e), fun _ => rfl⟩
    | @cons a b l m r t ih =>
      obtain ⟨r1, vs, r2, r3⟩ := r
      by_cases e : b.1 = k
      · have e3 : dget (b :: m) k = some b.2 := by simp [dget, List.find?_cons, e]
        have e4 : valV ((a :: l).map fun e => (e.1, V.ref e.2)) (Ky.key k) = some (.ref a.2) := valV_pos (by show a.1 = _; rw [r1, e])
        rw [e3, e4]
        refine ⟨fun l' z => ?_, fun z => nomatch z⟩
        cases z
        refine ⟨0, a.2, vs, by rw [← e, ← r1]; rfl, by rw [← e]; rfl, rfl, r2, r3, fun _ _ _ _ => Nat.zero_le _⟩
      · have e3 : dget (b :: m) k = dget m k := by simp [dget, List.find?_cons, e]
        have e4 : valV ((a :: l).map fun e => (e.1, V.ref e.2)) (Ky.key k) = valV (l.map fun e => (e.1, V.ref e.2)) (Ky.key k) := valV_neg (by show ¬ a.1 = _; rw [r1]; exact fun w => e (Ky.inj w))
        rw [e3, e4]
        refine ⟨fun l' z => ?_, ih.2⟩
        obtain ⟨n, q, ws, q1, q2, q3, q4, q5, q6⟩ := ih.1 l' z
        refine ⟨n + 1, q, ws, q1, q2, q3, q4, q5, fun m' x hx ex => ?_⟩
        cases m' with
        | zero => cases hx; exact absurd ex e
        | succ m' => exact Nat.succ_le_succ (q6 m' x hx ex)
  exact go h.all
theorem dput_val {d : List (κ × List α)} {k : κ} {l l' : List α} (nd : (d.map (·.1)).Nodup) {n : Nat} (h : d[n]? = some (k, l)) : dput d k l' = d.set n (k, l') := by
  unfold dput
  rw [if_pos (List.any_eq_true.mpr ⟨_, List.mem_of_getElem? h, decide_eq_true rfl⟩)]
  refine List.ext_getElem? fun m => ?_
  rw [List.getElem?_map]
  by_cases e : n = m
  · subst e
    rw [List.getElem?_set_self', h]
    simp
  · rw [List.getElem?_set_ne e]
    cases q : d[m]? with
    | none => rfl
    | some x =>
      have : ¬ x.1 = k := fun w => e ((List.getElem?_inj (l := d.map (·.1)) (by rw [List.length_map]; exact (List.getElem?_eq_some_iff.mp h).1) nd).mp (by rw [List.getElem?_map, List.getElem?_map, h, q]; simp [w]))
      simp [this]
theorem Rel.drop {F0 F H : Hp} {σ : L2.St} (R : Rel G B F0 F ρ σ H) (i : Nat) : Rel G B F0 F (ρ.set i none) σ H := by
  refine ⟨R.sB, R.sF, R.s0, R.nw, by rw [List.length_set]; exact R.len, fun j t y hj hy => ?_, fun j k t u y z b hj hy hk hz f g => ?_⟩
  · rcases set_at hj with ⟨rfl, rfl, _⟩ | ⟨_, hj⟩
    · exact trivial
    · exact R.sl j t y hj hy
  · rcases set_at hj with ⟨rfl, rfl, _⟩ | ⟨_, hj⟩
    · cases f
    · rcases set_at hk with ⟨rfl, rfl, _⟩ | ⟨_, hk⟩
      · cases g
      · exact R.ds j k t u y z b hj hy hk hz f g
theorem es_ne {es : List (Key × Addr)} {n : Nat} {e : Key × Addr} (nl : (es.map (·.2)).Nodup) (h : es[n]? = some e) {m : Nat} {f : Key × Addr} (hm : es[m]? = some f) (z : f.2 = e.2) : n = m :=
  (List.getElem?_inj (l := es.map (·.2)) (by rw [List.length_map]; exact (List.getElem?_eq_some_iff.mp h).1) nl).mp (by rw [List.getElem?_map, List.getElem?_map, h, hm]; simp [z])
/-- one list of the dict is another -/
theorem DlOk.setl {F H : Hp} {es : List (Key × Addr)} {n : Nat} {x : κ} {q : Addr} {l l' : List α} {ws : List V} (r : DlOk G F H p es d) (h1 : es[n]? = some (Ky.key x, q)) (h2 : d[n]? = some (x, l)) (hw : reps G F ws l') : DlOk G F (upd H q (.lst ws)) p es (d.set n (x, l')) := by
  have qp : p ≠ q := (r.ne _ (List.mem_of_getElem? h1)).symm
  refine ⟨by show upd H q _ p = _; rw [upd_ne qp]; exact r.top, ?_, r.nl, r.ne⟩
  have go : ∀ {fs : List (Key × Addr)} {c : List (κ × List α)}, All2 (fun (e : Key × Addr) (q : κ × List α) => e.1 = Ky.key q.1 ∧ ∃ vs, H e.2 = some (.lst vs) ∧ reps G F vs q.2) fs c → ∀ m : Nat, fs[m]? = some (Ky.key x, q) → (∀ (j : Nat) f, fs[j]? = some f → f.2 = q → m = j) →
      All2 (fun (e : Key × Addr) (c : κ × List α) => e.1 = Ky.key c.1 ∧ ∃ vs, (upd H q (.lst ws)) e.2 = some (.lst vs) ∧ reps G F vs c.2) fs (c.set m (x, l')) := by
    intro fs c hh
    induction hh with
    | nil => exact fun m w => by simp at w
    | @cons e b fs c rr t ih =>
      intro m w u
      obtain ⟨s1, vs, s2, s3⟩ := rr
      cases m with
      | zero =>
        simp at w
        subst w
        refine .cons ⟨rfl, ws, upd_same, hw⟩ (t.impm fun f c' hf ⟨z1, vs2, z2, z3⟩ => ⟨z1, vs2, ?_, z3⟩)
        obtain ⟨j, hj⟩ := List.mem_iff_getElem?.mp hf
        rw [upd_ne (fun y => absurd (u (j + 1) f (by simpa using hj) y) (by omega))]
        exact z2
      | succ m =>
        refine .cons ⟨s1, vs, ?_, s3⟩ (ih m (by simpa using w) fun j f hj y => by have := u (j + 1) f (by simpa using hj) y; omega)
        rw [upd_ne (fun y => absurd (u 0 e rfl y) (by omega))]
        exact s2
  exact go r.all n h1 fun j f hj z => es_ne r.nl h1 hj z
/-- d.setdefault(k, []).append(a) -/
theorem run_setApp {mk : M κ} {m : M α} {k : κ → α → M Ω} {tk : TE} (h : ρ[i]? = some (some (.dd p d))) (hk : Ev G B E md ρ tk mk) (he : Ev G B E .F (ρ.set i none) te m) (hn : ∀ x a, Run G B E post (ρ.set i (some (.dd p (dapp d x a)))) rest (k x a)) :
    Run G B E post ρ (tSeq (tDrop (tBM G.K "list" rAppend (tDSetd (tVar i) tk (tLst tNil)) (tCons te tNil))) rest)
      (mk.b fun x => .chk ((d.map (·.1)).Nodup ∧ d.length < sizeLine ∧ ∀ l, dget d x = some l → l.length < sizeLine) (m.b fun a => k x a)) := fun F0 F σ H D R q => by
  obtain ⟨es, e, r1, r3⟩ := R.dd h
  refine ⟨_, e, p, rfl, .inl ⟨_, .inl r1.top⟩, hk.go R q fun x F1 u H1 e1 q1 R1 q => ⟨Nat.zero_le _, fun z nz => ?_⟩⟩
  obtain ⟨⟨c1, c2, c3⟩, q⟩ := M.P_chk.mp q
  have e2 : Ext F1 H1 F1 (upd H1 z (.lst [])) := .new nz
  have R2 := R1.ext e2 (R1.sF.trans e2.h)
  have e12 := e1.trans e2
  have rb := (r1.keep e12.f fun b o _ w => e12.h _ _ w)
  have fp2 : ∀ b, FpD p es b → B b = none ∧ F1 b = none := fun b f => by
    obtain ⟨o, ho⟩ := r1.there f
    exact ⟨(r3 b f).1, e12.non ho (r3 b f).2⟩
  have hzn : H z = none := e1.h.free nz
  have hlen : es.length = d.length := r1.all.len
  obtain ⟨g1, g2⟩ := dl_get x rb
  refine ⟨_, Ky.key x, rb.top, (Ky.iff _ _ _ _).mp q1, by rw [List.length_map, hlen]; exact c2, fun v hv => ?_, fun hv => ?_⟩
  · cases ed : dget d x with
    | none => rw [g2 ed] at hv; cases hv
    | some l =>
      obtain ⟨n, b, vs, a1, a2, a3, a4, a5, _⟩ := g1 l ed
      rw [a3] at hv
      cases hv
      have hb : FpD p es b := .inr ⟨_, List.mem_of_getElem? a1, rfl⟩
      refine ⟨.inl ⟨rfl, vs, .of a4⟩, he.go (R2.drop i) q fun a F3 w H3 e3 q3 R3 q => ?_⟩
      have rc := rb.keep e3.f fun b o _ w => e3.h _ _ w
      have fp3 : ∀ b, FpD p es b → B b = none ∧ F3 b = none := fun b f => by
        obtain ⟨o, ho⟩ := rb.there f
        exact ⟨(fp2 b f).1, e3.non ho (fp2 b f).2⟩
      have R3' := R2.ext e3 R3.sF
      refine ⟨b, vs, w, rfl, rfl, e3.h _ _ a4, by rw [a5.len]; exact c3 l ed, hn x a F0 F3 σ _ D ?_ q⟩
      have rd := rc.setl a1 a2 ((reps_mono e3.f a5).snoc q3)
      have ee : dapp d x a = d.set n (x, l ++ [a]) := by unfold dapp; rw [ed]; exact dput_val c1 a2
      rw [ee]
      refine R3'.mod h e (fun b' o nf y => ?_) ⟨es, rfl, rd, fp3⟩ fun b' f => .inl ?_
      · rw [upd_ne (fun w => nf ⟨es, rfl, rc.top, by rw [w]; exact hb⟩)]; exact y
      · obtain ⟨fs, _, k1, k2⟩ := f
        have := rd.top.inj k1
        subst this
        exact ⟨es, rfl, rc.top, k2⟩
  · cases ed : dget d x with
    | some l => obtain ⟨n, b, vs, a1, a2, a3, _⟩ := g1 l ed; rw [a3] at hv; cases hv
    | none =>
      have ek : putK (es.map fun e => (e.1, V.ref e.2)) (Ky.key x) (.ref z) = (es ++ [(Ky.key x, z)]).map fun e => (e.1, V.ref e.2) := by
        unfold putK
        rw [if_neg, List.map_append]
        · rfl
        · intro w
          obtain ⟨y, hy, ey⟩ := List.any_eq_true.mp w
          have : valV (es.map fun e => (e.1, V.ref e.2)) (Ky.key x) ≠ none := by
            unfold valV
            intro w2
            rw [Option.map_eq_none_iff, List.find?_eq_none] at w2
            exact w2 y hy ey
          exact this hv
      rw [ek]
      have zp : z ≠ p := fun w => by have := r1.top; rw [← w] at this; rw [show H z = _ from this] at hzn; cases hzn
      have zes : ∀ f ∈ es, f.2 ≠ z := fun f hf w => by
        obtain ⟨o, ho⟩ := r1.there (.inr ⟨f, hf, rfl⟩)
        rw [w, hzn] at ho
        cases ho
      have rc : DlOk G F1 (upd (upd H1 z (.lst [])) p (.dK ((es ++ [(Ky.key x, z)]).map fun e => (e.1, V.ref e.2)))) p (es ++ [(Ky.key x, z)]) (d ++ [(x, ([] : List α))]) := by
        refine ⟨upd_same, ?_, ?_, fun f hf => ?_⟩
        · refine All2.app (rb.all.impm fun f q hf ⟨s1, vs, s2, s3⟩ => ⟨s1, vs, by rw [upd_ne (rb.ne f hf)]; exact s2, s3⟩) (.cons ⟨rfl, [], by rw [upd_ne zp]; exact upd_same, .nil⟩ .nil)
        · rw [List.map_append, List.nodup_append]
          refine ⟨rb.nl, by simp, fun a ha b hb => ?_⟩
          obtain ⟨f, hf, rfl⟩ := List.mem_map.mp ha
          rw [show b = z by simpa using hb]
          exact zes f hf
        · rcases List.mem_append.mp hf with w | w
          · exact rb.ne f w
          · rw [List.mem_singleton.mp w]; exact zp
      have sub : ∀ b, FpD p (es ++ [(Ky.key x, z)]) b → FpD p es b ∨ b = z := fun b f => by
        rcases f with f | ⟨c, hc, f⟩
        · exact .inl (.inl f)
        · rcases List.mem_append.mp hc with w | w
          · exact .inl (.inr ⟨c, w, f⟩)
          · rw [List.mem_singleton.mp w] at f; exact .inr f
      have fpz : ∀ b, FpD p (es ++ [(Ky.key x, z)]) b → B b = none ∧ F1 b = none := fun b f => by
        rcases sub b f with f | f
        · exact fp2 b f
        · rw [f]; exact ⟨R.sB.free hzn, R1.sF.free nz⟩
      have R3 : Rel G B F0 F1 (ρ.set i (some (.dd p (d ++ [(x, ([] : List α))])))) σ (upd (upd H1 z (.lst [])) p (.dK ((es ++ [(Ky.key x, z)]).map fun e => (e.1, V.ref e.2)))) := by
        refine R2.mod h e (fun b' o nf y => ?_) ⟨_, rfl, rc, fpz⟩ fun b' f => ?_
        · rw [upd_ne (fun w => nf ⟨es, rfl, rb.top, .inl w⟩)]; exact y
        · obtain ⟨fs, _, k1, k2⟩ := f
          have := rc.top.inj k1
          subst this
          rcases sub b' k2 with f | f
          · exact .inl ⟨es, rfl, rb.top, f⟩
          · rw [f]; exact .inr (R.freshE hzn e12.h)
      have hz3 : (upd (upd H1 z (.lst [])) p (.dK ((es ++ [(Ky.key x, z)]).map fun e => (e.1, V.ref e.2)))) z = some (.lst []) := by rw [upd_ne zp]; exact upd_same
      have Rd := R3.drop i
      rw [List.set_set] at Rd
      refine ⟨.inl ⟨rfl, [], .of hz3⟩, he.go Rd q fun a F4 w H4 e4 q4 R4 q => ?_⟩
      have rd := rc.keep e4.f fun b o _ w => e4.h _ _ w
      have R4' := R3.ext e4 R4.sF
      have hi4 : (ρ.set i (some (.dd p (d ++ [(x, ([] : List α))]))))[i]? = some (some (.dd p (d ++ [(x, ([] : List α))]))) := by rw [List.getElem?_set_self', h]; rfl
      refine ⟨z, [], w, rfl, rfl, e4.h _ _ hz3, Nat.lt_of_le_of_lt (Nat.zero_le _) (show 0 < sizeLine by decide), hn x a F0 F4 σ _ D ?_ q⟩
      have n1 : (es ++ [(Ky.key x, z)])[es.length]? = some (Ky.key x, z) := by simp
      have n2 : (d ++ [(x, ([] : List α))])[es.length]? = some (x, []) := by rw [hlen]; simp
      have re := rd.setl (l' := [a]) (ws := [w]) n1 n2 (.cons q4 .nil)
      have ee : dapp d x a = (d ++ [(x, ([] : List α))]).set es.length (x, [a]) := by
        unfold dapp
        rw [ed, hlen]
        simp
      rw [ee]
      have fp4 : ∀ b, FpD p (es ++ [(Ky.key x, z)]) b → B b = none ∧ F4 b = none := fun b f => by
        obtain ⟨o, ho⟩ := rc.there f
        exact ⟨(fpz b f).1, e4.non ho (fpz b f).2⟩
      have Rf := R4'.mod hi4 e (H' := upd H4 z (.lst [w])) (s' := some (.dd p ((d ++ [(x, ([] : List α))]).set es.length (x, [a])))) (fun b' o nf y => ?_) ⟨_, rfl, re, fp4⟩ fun b' f => .inl ?_
      · rw [List.set_set] at Rf
        exact Rf
      · rw [upd_ne (fun w => nf ⟨_, rfl, rd.top, .inr ⟨(Ky.key x, z), by simp, w⟩⟩)]; exact y
      · obtain ⟨fs, _, k1, k2⟩ := f
        have := re.top.inj k1
        subst this
        exact ⟨_, rfl, rd.top, k2⟩
end
end Tw
set_option Elab.async false
set_option linter.all false
set_option maxRecDepth 100000
set_option maxHeartbeats 4000000
namespace Tw
open PySem PySem.Spec L2 TL
open PyProof.Rows hiding St
section
variable {G : Gb} {B : Hp} {E : XK} {ρ ρ' : Evr} {α β γ δ : Type} [Rp α] [Rp β] [Rp γ] [Rp δ] {md md' mr : Md} {ta tb tc te : TE} {g : TG} {ts : List Nat} {bind : α → Evr → Evr}
  {Ω S S' R : Type} {post : Hp → Ω → Ends → Prop} {EX : S → Evr} {EX' : S' → Evr} {rp : RP R} {t t1 t2 rest : TS}
open Classical in
theorem Rel.tellD {κ : Type} [Rp κ] [DecidableEq κ] [Ky κ] {F0 F H : Hp} {σ : L2.St} {i : Nat} {p : Addr} {d : List (κ × List α)} (R : Rel G B F0 F ρ σ H) (hi : ρ[i]? = some (some (.dd p d))) : ∃ F' kvs, Fin G B F0 F' H ∧ σ[i]? = some (some (.ref p)) ∧ B p = none ∧ F' p = none ∧ H p = some (.dK kvs) ∧ repk G F' kvs d := by
  have hil : i < σ.length := by rw [← R.len]; exact (List.getElem?_eq_some_iff.mp hi).1
  obtain ⟨x, hx⟩ : ∃ x, σ[i]? = some x := ⟨σ[i], List.getElem?_eq_getElem hil⟩
  obtain ⟨es, e1, h1, h3⟩ := R.sl i _ x hi hx
  subst e1
  let F' : Hp := fun b => if FpD p es b ∧ b ≠ p then H b else F b
  have in' : ∀ {b}, FpD p es b → b ≠ p → F' b = H b := fun f n => if_pos ⟨f, n⟩
  have out' : ∀ {b}, ¬ (FpD p es b ∧ b ≠ p) → F' b = F b := fun f => if_neg f
  have sf : Same F F' := fun b o e => by
    by_cases f : FpD p es b ∧ b ≠ p
    · rw [(h3 b f.1).2] at e; cases e
    · rw [out' f]; exact e
  have hp := h3 p (.inl rfl)
  refine ⟨F', _, ⟨R.sB, fun b o e => ?_, R.s0.trans sf, fun a h q => ?_⟩, hx, hp.1, ?_, h1.top, ?_⟩
  · by_cases f : FpD p es b ∧ b ≠ p
    · rw [in' f.1 f.2] at e; exact e
    · rw [out' f] at e; exact R.sF _ _ e
  · by_cases f : FpD p es a ∧ a ≠ p
    · exact (h3 a f.1).1
    · rw [out' f] at q; exact R.nw a h q
  · rw [out' (fun z => z.2 rfl)]; exact hp.2
  · have go : ∀ {fs : List (Key × Addr)} {d : List (κ × List α)}, (∀ e ∈ fs, e ∈ es) → All2 (fun (e : Key × Addr) (q : κ × List α) => e.1 = Ky.key q.1 ∧ ∃ vs, H e.2 = some (.lst vs) ∧ reps G F vs q.2) fs d → repk G F' (fs.map fun e => (e.1, V.ref e.2)) d := by
      intro fs d hm h
      induction h with
      | nil => exact .nil
      | @cons a b l m r t ih =>
        obtain ⟨r1, vs, r2, r3⟩ := r
        have hma := hm a List.mem_cons_self
        refine .cons ⟨r1, _, vs, rfl, ?_, reps_mono sf r3⟩ (ih fun e he => hm e (List.mem_cons_of_mem _ he))
        rw [in' (.inr ⟨a, hma, rfl⟩) (h1.ne a hma)]
        exact r2
    exact go (fun _ h => h) h1.all
theorem run_retQ {κ : Type} [Rp κ] [DecidableEq κ] [Ky κ] {i : Nat} {p : Addr} {d : List (κ × List α)} (h : ρ[i]? = some (some (.dd p d))) : Run G B E (oR G B (rpN G)) ρ (tRet (tVar i)) (.ok (⟨d⟩ : Dk κ (List α))) := fun F0 F σ H D R q => by
  obtain ⟨F', kvs, f, e, h1, h2, h3, h4⟩ := R.tellD h
  exact ⟨_, e, q F' _ H f ⟨p, _, rfl, h1, h2, h3, kvs, rfl, h4⟩⟩
def EvB [Rc α] (G : Gb) (B : Hp) (E : XK) (ρ : Evr) (te : TE) (m : M α) : Prop := ∀ (F0 F : Hp) (σ : L2.St) (H : Hp) (Q : VK), Rel G B F0 F ρ σ H →
  m.P (fun a => ∀ (F' : Hp) (p : Addr) (o : HO) (H' : Hp), Ext F H F' H' → Same F' H' → H p = none → F' p = none → H' p = some o → con G B o a → Q (.ref p) H') (Xc G B E) → te σ H Q
def Anti (rp : RP R) : Prop := ∀ {B B' F' H' : Hp} {v : V} {r : R}, Same B B' → rp B' F' H' v r → rp B F' H' v r
theorem antiF {G : Gb} {R : Type} [Rp R] : Anti (rpF G : RP R) := fun _ h => h
theorem antiN {G : Gb} {R : Type} [Rp R] [Rc R] : Anti (rpN G : RP R) := fun s ⟨p, o, e, h1, h2, h3, h4⟩ => ⟨p, o, e, s.free h1, h2, h3, h4⟩
theorem Rel.lend {F0 F H : Hp} {σ : L2.St} {p : Addr} {o : HO} (R : Rel G B F0 F ρ σ H) (hH : H p = some o) (hB : B p = none) (hF : F p = none) (hn : ∀ (j : Nat) (s : Option Slot) (x : Option V), ρ[j]? = some s → σ[j]? = some x → ¬ Fp H s x p) : Rel G (upd B p o) F0 F ρ σ H where
  sB := fun b u e => by
    by_cases z : b = p
    · subst z; rw [upd_same] at e; cases e; exact hH
    · rw [upd_ne z] at e; exact R.sB _ _ e
  sF := R.sF
  s0 := R.s0
  nw := fun a h q => by
    rw [upd_ne (fun z => by rw [z] at q; exact q hF)]
    exact R.nw a h q
  len := R.len
  sl := fun i s x hs hx => by
    have ok := R.sl i s x hs hx
    have nf := hn i s x hs hx
    have nb : ∀ {b : Addr}, Fp H s x b → B b = none → upd B p o b = none := fun f e => by rw [upd_ne (fun z => nf (by rw [← z]; exact f))]; exact e
    cases s with
    | none => exact trivial
    | some s =>
      cases s with
      | fz a => exact ok
      | al Fr a => exact ok
      | vl v => exact ok
      | sh a => obtain ⟨v, e, h1, h2⟩ := ok; exact ⟨v, e, h1, fun b f => ⟨nb ⟨v, e, f⟩ (h2 b f).1, (h2 b f).2⟩⟩
      | bw a => obtain ⟨v, e, r⟩ := ok; exact ⟨v, e, Rp.mono (same_upd hB) r⟩
      | ow a => obtain ⟨c, u, e, h1, h2⟩ := ok; exact ⟨c, u, e, nb (show Fp H (some (.ow a)) x c from e) h1, h2⟩
      | lk c ob u a => obtain ⟨e, h1, h2⟩ := ok; exact ⟨e, nb (show Fp H (some (.lk c ob u a)) x c from e) h1, h2⟩
      | dr c a =>
        obtain ⟨cs, e, h1, h2, h3⟩ := ok
        exact ⟨cs, e, h1, h2, fun b f => ⟨nb ⟨cs, e, h1, f⟩ (h3 b f).1, (h3 b f).2⟩⟩
      | dd c d =>
        obtain ⟨es, e, h1, h3⟩ := ok
        exact ⟨es, e, h1, fun b f => ⟨nb ⟨es, e, h1.top, f⟩ (h3 b f).1, (h3 b f).2⟩⟩
      | ins c C dx ns fl =>
        obtain ⟨e, h1, h2, h3, h4, h5⟩ := ok
        refine ⟨e, nb ⟨e, List.mem_cons_self⟩ h1, h2, h3, fun d hd => ?_, h5⟩
        obtain ⟨q1, q2⟩ := h4 d hd
        exact ⟨nb ⟨e, List.mem_cons_of_mem _ (List.mem_map.mpr ⟨d, hd, rfl⟩)⟩ q1, q2⟩
      | rg Fr a =>
        obtain ⟨v, e, h1, h2, h3, h4⟩ := ok
        exact ⟨v, e, h1, h2, fun b f => ⟨nb f (h3 b f).1, (h3 b f).2⟩, h4⟩
  ds := R.ds
theorem run_lend [Rc α] {i : Nat} {m : M α} {k : α → M R} (ha : Anti rp) (he : EvB G B E ρ te m) (hk : ∀ B a, Run G B E (oR G B rp) (ρ.set i (some (.bw a))) rest (k a)) : Run G B E (oR G B rp) ρ (tSeq (tAsg te (gName i)) rest) (m.b k) := fun F0 F σ H D R q =>
  he F0 F σ H _ R ((M.P_b.mp q).imp (fun a q F' p o H' e s h1 h2 h3 h4 => by
    have hB := R.sB.free h1
    have sB := same_upd (o := o) hB
    have R1 := (R.ext e s).lend h3 hB h2 (R.freshE h1 e.h)
    have R2 := R1.put (i := i) (s := .bw a) (v := .ref p) ⟨_, rfl, Rc.fz upd_same (Rc.mono sB h4)⟩ rfl
    exact hk (upd B p o) a F0 F' _ H' D R2 (q.imp (fun r k F2 v H2 f h => k F2 v H2 ⟨sB.trans f.sB, f.sF, f.s0, fun a z w => sB.free (f.nw a z w)⟩ (ha sB h)) fun _ x => x.mono sB)) fun _ x => x)
end
end Tw
set_option Elab.async false
set_option linter.all false
set_option maxRecDepth 100000
set_option maxHeartbeats 4000000
namespace Tw
open PySem PySem.Spec L2 TL
open PyProof.Rows hiding St
/-- a thing without lists and dicts -/
class Im (α : Type) [Rp α] : Prop where
  im : ∀ {G : Gb} {H H' : Hp} {v : V} {a : α}, (∀ b xs, H b = some (.tup xs) → H' b = some (.tup xs)) → rep G H v a → rep G H' v a
instance : Im Int := ⟨fun _ h => h⟩
instance : Im Bool := ⟨fun _ h => h⟩
instance : Im Str := ⟨fun _ h => h⟩
instance : Im Unit := ⟨fun _ h => h⟩
section
variable {α β γ δ : Type} [Rp α] [Rp β] [Rp γ] [Rp δ]
instance [Im α] [Im β] : Im (α × β) := ⟨fun s ⟨p, v, w, e, h, h1, h2⟩ => ⟨p, v, w, e, s _ _ h, Im.im s h1, Im.im s h2⟩⟩
instance [Im α] [Im β] [Im γ] : Im (T3 α β γ) := ⟨fun s ⟨p, v, w, u, e, h, h1, h2, h3⟩ => ⟨p, v, w, u, e, s _ _ h, Im.im s h1, Im.im s h2, Im.im s h3⟩⟩
instance [Im α] [Im β] [Im γ] [Im δ] : Im (T4 α β γ δ) := ⟨fun s ⟨p, v, w, u, z, e, h, h1, h2, h3, h4⟩ => ⟨p, v, w, u, z, e, s _ _ h, Im.im s h1, Im.im s h2, Im.im s h3, Im.im s h4⟩⟩
theorem Im.reps [Im α] {G : Gb} {H H' : Hp} {vs : List V} {as : List α} (s : ∀ b xs, H b = some (.tup xs) → H' b = some (.tup xs)) (h : Tw.reps G H vs as) : Tw.reps G H' vs as := h.imp fun _ _ q => Im.im s q
end
section
variable (G : Gb) (B : Hp) (E : XK) {α : Type} [Rp α]
/-- what is told stands in a region that is new -/
def EvR (ρ : Evr) (te : TE) (m : M α) : Prop := ∀ (F0 F : Hp) (σ : L2.St) (H : Hp) (Q : VK), Rel G B F0 F ρ σ H →
  m.P (fun a => ∀ (F1 Fr : Hp) (v : V) (H' : Hp), Ext F H F1 H' → Same F1 H' → Same Fr H' → (∀ b, Fr b ≠ none → H b = none ∧ F1 b = none) → rep G Fr v a → Q v H') (Xc G B E) → te σ H Q
end
section
variable {G : Gb} {B : Hp} {E : XK} {ρ : Evr} {α β : Type} [Rp α] [Rp β] {md md' mr : Md} {te : TE} {Ω : Type} {post : Hp → Ω → Ends → Prop} {rest : TS}
theorem reg_ext {F H F1 H' Fr : Hp} (e : Ext F H F1 H') (s : Same F1 H') (sr : Same Fr H') (n : ∀ b, Fr b ≠ none → H b = none ∧ F1 b = none) : Ext F H (un F1 (tups Fr)) H' ∧ Same (un F1 (tups Fr)) H' := by
  refine ⟨⟨fun b o z => un_l (e.f _ _ z), e.h, fun b z w => ?_⟩, fun b o z => ?_⟩
  · cases q : F1 b with
    | some o => exact e.n b z (by rw [q]; exact fun z => nomatch z)
    | none =>
      rw [un_r q] at w
      cases t : tups Fr b with
      | none => exact absurd t w
      | some o => exact (n b (by rw [(tups_some t).1]; exact fun z => nomatch z)).1
  · cases q : F1 b with
    | some u => rw [un_l q] at z; cases z; exact s _ _ q
    | none => rw [un_r q] at z; exact sr _ _ (tups_some z).1
theorem reg_tup {F1 Fr : Hp} {b : Addr} {xs : List V} (n : ∀ b, Fr b ≠ none → F1 b = none) (h : Fr b = some (.tup xs)) : un F1 (tups Fr) b = some (.tup xs) := by
  rw [un_r (n b (by rw [h]; exact fun z => nomatch z))]
  exact tups_of h
/-- a list told anew is one's own -/
theorem EvR.N [Im α] {m : M (List α)} (h : EvR G B E ρ te m) : EvN G B E ρ te m := fun F0 F σ H Q R q => h F0 F σ H Q R (q.imp (fun a k F1 Fr v H' e s sr n r => by
  obtain ⟨p, vs, rfl, h1, h2⟩ := r
  obtain ⟨e2, s2⟩ := reg_ext e s sr n
  have np := n p (by rw [h1]; exact fun z => nomatch z)
  refine k _ p _ H' e2 s2 np.1 ?_ (sr _ _ h1) ⟨vs, rfl, Im.reps (fun b xs z => reg_tup (fun b w => (n b w).2) z) h2⟩
  rw [un_r np.2]
  cases t : tups Fr p with
  | none => rfl
  | some o => obtain ⟨t1, xs, t2⟩ := tups_some t; rw [h1] at t1; cases t1; cases t2) fun _ x => x)
theorem Rel.rg {F0 F H : Hp} {σ : L2.St} {i : Nat} {Fr : Hp} {a : α} (R : Rel G B F0 F ρ σ H) (h : ρ[i]? = some (some (.rg Fr a))) : ∃ v, σ[i]? = some (some v) ∧ rep G (un (tups F) Fr) v a ∧ Same Fr H ∧ (∀ b, Fr b ≠ none → B b = none ∧ F b = none) ∧ (∀ b xs, Fr b ≠ some (.tup xs)) ∧ Same (un (tups F) Fr) H := by
  obtain ⟨x, e, v, rfl, h1, h2, h3, h4⟩ := R.at h
  refine ⟨v, e, h1, h2, h3, h4, fun b o z => ?_⟩
  cases q : tups F b with
  | some u => rw [un_l q] at z; cases z; exact R.sF _ _ (tups_some q).1
  | none => rw [un_r q] at z; exact h2 _ _ z
end
end Tw
set_option Elab.async false
set_option linter.all false
set_option maxRecDepth 100000
set_option maxHeartbeats 4000000
namespace Tw
open PySem PySem.Spec L2 TL
open PyProof.Rows hiding St
structure Anyt where
instance : Rp Anyt := ⟨fun _ _ _ _ => True, fun _ h => h⟩
/-- a list, whatever it holds -/
structure Shp where
instance : Rp Shp := ⟨fun _ H v _ => ∃ p vs, v = .ref p ∧ H p = some (.lst vs) ∧ vs.length ≤ 1000, fun s ⟨p, vs, e, h, l⟩ => ⟨p, vs, e, s _ _ h, l⟩⟩
class NotLs (α : Type) [Rp α] : Prop where
  no : ∀ {G : Gb} {H : Hp} {q : Addr} {a : α} {ws : List V}, rep G H (.ref q) a → H q ≠ some (.lst ws)
instance : NotLs Str := ⟨fun h => by cases (show V.ref _ = V.str _ from h)⟩
instance : NotLs Int := ⟨fun h => by cases (show V.ref _ = V.int _ from h)⟩
instance {α β : Type} [Rp α] [Rp β] : NotLs (α × β) := ⟨fun ⟨p, v, w, e, h, _⟩ z => by cases e; rw [h] at z; cases z⟩
end Tw
set_option Elab.async false
set_option linter.all false
set_option maxRecDepth 100000
set_option maxHeartbeats 4000000
namespace L2
open PySem PySem.Spec PyProof.Rows
def eqs (k : Str) (v : Value) : Bool := match v with
  | .str n _ => n.cps.toList == k.cps.toList
  | _ => false
theorem eqs_gives {k : Str} {t : Tok} : ∀ {us : List Value} {ns : List Str}, StrsAre us ns → ∀ y ∈ us, MeetsSeq.EqGives y (.str k t) (eqs k y)
  | _, _, .nil => fun y hy => by cases hy
  | _, _, .cons n t' h => fun y hy => by
    rcases List.mem_cons.mp hy with e | e
    · rw [e]
      exact SeqRoads2.EqGives.str n k t' t
    · exact eqs_gives h y e
theorem eqs_count {k : Str} : ∀ {us : List Value} {ns : List Str}, StrsAre us ns → us.countP (eqs k) = ns.count k
  | _, _, .nil => rfl
  | _, _, .cons n t h => by
    have ih := eqs_count (k := k) h
    have e : eqs k (.str n t) = (n == k) := by
      show (n.cps.toList == k.cps.toList) = (n == k)
      rw [Bool.eq_iff_iff, beq_iff_eq, beq_iff_eq]
      exact ⟨fun h => by cases n; cases k; simp only [Str.mk.injEq]; exact Array.toList_inj.mp h, fun h => by rw [h]⟩
    rw [List.countP_cons, List.count_cons, ih, e]
def rCntS (K : PySem.W.Frag) : V → List V → Hp → VK → Prop := fun x xs H Q => ∃ (p : Addr) (ns : List Str) (k : Str), x = .ref p ∧ xs = [.str k] ∧ SqL K H p (ns.map V.str) ∧ Q (.int (ns.count k : Nat)) H
theorem mt_lcountS {X : Cx} : MtR X "list.count" (rCntS X.K) := by
  intro pins s σ H x xs v us Q I rx rxs h
  obtain ⟨p, ns, k, rfl, rfl, hs, q⟩ := h
  cases rx
  obtain ⟨u, rfl, ru⟩ := rxs.one
  obtain ⟨t, rfl⟩ := ru
  obtain ⟨its, rv, ⟨⟨cls, dd, data, sl⟩, n, ho, hc, hdn, hd⟩, hlen⟩ := I.list hs
  simp only at hc hd
  subst hc hd
  have hi := Vals.strs rv
  refine call_meets PySem.F.slot_list_count ⟨_, ho, rfl⟩ PySem.F.entry_list_count (PySem.F.args_list_count_2 _ _)
    (SeqAt.list_countAt p its.toArray n dd sl (.str k t) (eqs k)) ⟨ho, fun y hy => (eqs_gives hi y (by simpa using hy)).at _ _, ?_⟩
  have ec : its.toArray.toList.countP (eqs k) = ns.count k := eqs_count hi
  refine ⟨.int (ns.count k : Nat), H, I.tok _, ⟨s.toks, ?_⟩, q⟩
  show Value.int ((its.toArray.toList.countP (eqs k) : Nat) : Int) s.toks = Value.int ((ns.count k : Nat) : Int) s.toks
  rw [ec]
end L2
namespace Tw
open PySem PySem.Spec L2 TL
open PyProof.Rows hiding St
section
variable {G : Gb} {B : Hp} {E : XK} {ρ : Evr} {α β : Type} [Rp α] [Rp β] {md md' md'' mr : Md} {ta tb tc te : TE} {g : TG} {ts : List Nat} {Ω S R : Type} {post : Hp → Ω → Ends → Prop} {rest t : TS} {EX : S → Evr} {rp : RP R}
theorem ev_lcount {m : M (List Str)} {n : M Str} (h : Ev G B E md ρ ta m) (k : Ev G B E md' ρ tb n) : Ev G B E mr ρ (tBM G.K "list" (rCntS G.K) ta (tCons tb tNil)) (m.b fun l => n.b fun x => .ok ((l.count x : Nat) : Int)) := fun F0 F σ H Q R q =>
  h.toH.go R q fun l F1 v H1 e1 r1 R1 q => by
    obtain ⟨p, vs, rfl, h1, h2⟩ := r1
    rw [strs_of h2] at h1
    refine ⟨.inl ⟨rfl, _, .of h1⟩, k.go R1 q fun x F2 w H2 e2 r2 R2 q => ⟨p, l, x, rfl, by rw [show w = .str x from r2], .of (e2.h _ _ h1), q F2 _ H2 (e1.trans e2) R2.sF rfl⟩⟩
end
end Tw
set_option Elab.async false
set_option linter.all false
set_option maxRecDepth 100000
set_option maxHeartbeats 4000000
namespace Tw
open PySem PySem.Spec L2 TL
open PyProof.Rows hiding St
structure Dl (κ α : Type) where
  l : List (κ × α)
section
variable {κ α : Type} [Rp κ] [DecidableEq κ] [Ky κ] [Rp α]
instance : Rp (Dl κ α) where
  rep G H x a := ∃ p ob kvs, x = .ref p ∧ H p = some (.frz ob (.dK kvs)) ∧ repk G H kvs a.l
  mono := fun s ⟨p, ob, vs, e, h, h1⟩ => ⟨p, ob, vs, e, s _ _ h, repk_mono s h1⟩
end
end Tw
set_option Elab.async false
set_option linter.all false
set_option maxRecDepth 100000
set_option maxHeartbeats 4000000
namespace Tw
open PySem PySem.Spec L2 TL
open PyProof.Rows hiding St
def SG : List Nat := (Str.ofString "abcdefghijklmnopqrstuvwxyz0123456789").cps.toList
def isNm (z : Str) : Bool := decide (z.length ≠ 0 ∧ z.length ≤ 8) && z.cps.toList.all (fun c => decide (c ∈ SG))
theorem small_line {n : Nat} (h : n ≤ 100000) : n ≤ sizeLine := Nat.le_trans h (by decide)
theorem mul_ok (z : Str) (n : Int) (hz : z.length ≤ 30) (hn : 1 ≤ n ∧ n ≤ 100) : MulOk z n := by
  refine ⟨?_, fun _ _ => ?_, fun _ _ => ?_⟩
  · rw [decide_eq_false (by omega), decide_eq_false (by omega)]
    rfl
  · have : (30 : Int) ≤ (2 ^ 63 - 1) / n := by
      rw [Int.le_ediv_iff_mul_le (by omega)]
      omega
    omega
  · have h1 : n.toNat ≤ 100 := by omega
    have h2 : z.length * n.toNat ≤ 30 * 100 := Nat.mul_le_mul hz h1
    show decide (_ > _) = false
    refine decide_eq_false ?_
    have : (3000 : Nat) ≤ sizeLine := by decide
    omega
theorem sg_len : SG.length = 36 := by decide +kernel
theorem nm_of {z : Str} (h0 : z.length ≠ 0) (h8 : z.length ≤ 8) (h : ∀ c ∈ tl z, c ∈ SG) : isNm z = true := by
  unfold isNm
  rw [Bool.and_eq_true]
  exact ⟨decide_eq_true ⟨h0, h8⟩, List.all_eq_true.mpr fun c hc => decide_eq_true (h c hc)⟩
theorem tl_none : tl (Str.ofString "") = [] := by decide +kernel
def sgn (j : Int) : Nat := SG.getD (j % 36).toNat 0
def nameS (stem : Int) (v k : Nat) : Nat := sgn (stem / 64 + (k : Int) * (stem / 7 % 5) + (if (k : Int) = stem / 8 % (1 + stem % 8) then (v : Int) else 0))
def nameL (stem : Int) (v : Nat) : List Nat :=
  if stem % 3 = 2 then List.replicate (1 + v % 8) (sgn (stem / 64 + ((v / 8 : Nat) : Int)))
  else (List.range (1 + stem % 8).toNat).map (nameS stem v)
def nameOf (stem : Int) (v : Nat) : Str := ⟨(nameL stem v).toArray⟩
def namesOf (stem : Int) (n : Nat) : List Str := (List.range n).map (nameOf stem)
theorem tl_nameOf (stem : Int) (v : Nat) : tl (nameOf stem v) = nameL stem v := rfl
theorem mod36 (j : Int) : 0 ≤ j % 36 ∧ j % 36 < 36 := ⟨Int.emod_nonneg _ (by decide), Int.emod_lt_of_pos _ (by decide)⟩
theorem sgn_at (j : Int) : atI SG (j % 36) = some (sgn j) := by
  have h := mod36 j
  have hk : (j % 36).toNat < SG.length := by
    rw [sg_len]
    omega
  have := atI_nat (List.getElem?_eq_getElem hk)
  rw [show (((j % 36).toNat : Nat) : Int) = j % 36 by omega] at this
  rw [this]
  unfold sgn
  rw [List.getD_eq_getElem?_getD, List.getElem?_eq_getElem hk]
  rfl
theorem sgn_in (j : Int) : sgn j ∈ SG := by
  have h := mod36 j
  have hk : (j % 36).toNat < SG.length := by
    rw [sg_len]
    omega
  unfold sgn
  rw [List.getD_eq_getElem?_getD, List.getElem?_eq_getElem hk]
  exact List.getElem_mem hk
theorem sg_nodup : SG.Nodup := by decide +kernel
theorem sgn_inj {i j : Int} (h : sgn i = sgn j) : i % 36 = j % 36 := by
  have hi := mod36 i
  have hj := mod36 j
  have ki : (i % 36).toNat < SG.length := by
    rw [sg_len]
    omega
  have kj : (j % 36).toNat < SG.length := by
    rw [sg_len]
    omega
  unfold sgn at h
  rw [List.getD_eq_getElem?_getD, List.getD_eq_getElem?_getD, List.getElem?_eq_getElem ki, List.getElem?_eq_getElem kj] at h
  have := (List.getElem_inj sg_nodup).mp (show SG[(i % 36).toNat] = SG[(j % 36).toNat] from h)
  omega
theorem size_of (stem : Int) : 1 ≤ 1 + stem % 8 ∧ 1 + stem % 8 ≤ 8 := by
  have := Int.emod_nonneg stem (show (8 : Int) ≠ 0 by decide)
  have := Int.emod_lt_of_pos stem (show (0 : Int) < 8 by decide)
  omega
theorem name_ok (stem : Int) (v : Nat) : isNm (nameOf stem v) = true := by
  have hs := size_of stem
  refine nm_of ?_ ?_ ?_
  · rw [len_tl, tl_nameOf]
    unfold nameL
    split
    · rw [List.length_replicate]
      omega
    · rw [List.length_map, List.length_range]
      omega
  · rw [len_tl, tl_nameOf]
    unfold nameL
    split
    · rw [List.length_replicate]
      omega
    · rw [List.length_map, List.length_range]
      omega
  · intro c hc
    rw [tl_nameOf] at hc
    unfold nameL at hc
    split at hc
    · rw [(List.mem_replicate.mp hc).2]
      exact sgn_in _
    · obtain ⟨k, _, e⟩ := List.mem_map.mp hc
      rw [← e]
      exact sgn_in _
theorem name_inj {stem : Int} {u v : Nat} (hu : u < 36) (hv : v < 36) (h : nameOf stem u = nameOf stem v) : u = v := by
  have h : nameL stem u = nameL stem v := congrArg tl h
  have hs := size_of stem
  unfold nameL at h
  split at h
  · have h1 := congrArg List.length h
    rw [List.length_replicate, List.length_replicate] at h1
    have h2 : (List.replicate (1 + u % 8) (sgn (stem / 64 + ((u / 8 : Nat) : Int))))[0]? = (List.replicate (1 + v % 8) (sgn (stem / 64 + ((v / 8 : Nat) : Int))))[0]? := by rw [h]
    rw [List.getElem?_replicate, List.getElem?_replicate, if_pos (by omega), if_pos (by omega)] at h2
    have h3 := sgn_inj (Option.some.inj h2)
    omega
  · have p0 := Int.emod_nonneg (stem / 8) (show (1 + stem % 8 : Int) ≠ 0 by omega)
    have p1 := Int.emod_lt_of_pos (stem / 8) (show (0 : Int) < 1 + stem % 8 by omega)
    have h2 : ((List.range (1 + stem % 8).toNat).map (nameS stem u))[(stem / 8 % (1 + stem % 8)).toNat]? = ((List.range (1 + stem % 8).toNat).map (nameS stem v))[(stem / 8 % (1 + stem % 8)).toNat]? := by rw [h]
    have hk : (stem / 8 % (1 + stem % 8)).toNat < (1 + stem % 8).toNat := by omega
    rw [List.getElem?_map, List.getElem?_map, List.getElem?_range hk] at h2
    have h3 := sgn_inj (Option.some.inj h2)
    have ek : (((stem / 8 % (1 + stem % 8)).toNat : Nat) : Int) = stem / 8 % (1 + stem % 8) := by omega
    rw [if_pos ek, if_pos ek] at h3
    omega
theorem names_nm (stem : Int) (n : Nat) : ∀ z ∈ namesOf stem n, isNm z = true := by
  intro z hz
  obtain ⟨v, _, e⟩ := List.mem_map.mp hz
  rw [← e]
  exact name_ok stem v
theorem names_len (stem : Int) (n : Nat) : (namesOf stem n).length = n := by
  unfold namesOf
  rw [List.length_map, List.length_range]
theorem foldl_one (c : Nat) : ∀ (n : Nat) (s : Array Nat), ((List.replicate n #[c]).foldl (· ++ ·) s).toList = s.toList ++ List.replicate n c
  | 0, s => by simp
  | n + 1, s => by
    rw [List.replicate_succ, List.foldl_cons, foldl_one c n, List.replicate_succ]
    simp
theorem tl_mul_one (c : Nat) (n : Int) (h : 1 ≤ n) : tl (Txt.mul ⟨#[c]⟩ n) = List.replicate n.toNat c := by
  unfold Txt.mul
  rw [if_neg (by omega)]
  split
  · rename_i h2
    have e : n = 1 := by
      have : ((n == 1) || ((⟨#[c]⟩ : Str).length == 0)) = true := h2
      rw [show ((⟨#[c]⟩ : Str).length == 0) = false from rfl, Bool.or_false] at this
      exact beq_iff_eq.mp this
    rw [e]
    rfl
  · show (List.foldl (· ++ ·) #[] (List.replicate n.toNat #[c])).toList = _
    rw [foldl_one]
    rfl
end Tw
set_option Elab.async false
set_option linter.all false
set_option maxRecDepth 100000
set_option maxHeartbeats 4000000
namespace Tw
open PySem PySem.Spec L2 TL
open PyProof.Rows hiding St
theorem rng_nat (n : Nat) : rng 0 n = (List.range n).map fun (k : Nat) => (k : Int) := by
  unfold rng
  rw [show ((n : Int) - 0).toNat = n by omega]
  congr 1
  funext k
  omega
theorem rng_succ (n : Nat) : rng 0 ((n + 1 : Nat) : Int) = rng 0 (n : Nat) ++ [(n : Int)] := by
  rw [rng_nat, rng_nat, List.range_succ, List.map_append]
  rfl
theorem M.for_rngI {S : Type} {f : S → Int → M S} (I : Nat → S → Prop) : ∀ (n : Nat) (s0 : S), I 0 s0 → (∀ i s, i < n → I i s → ∃ s', f s (i : Int) = .ok s' ∧ I (i + 1) s') → ∃ s', M.for_ f (rng 0 (n : Int)) s0 = .ok s' ∧ I n s'
  | 0, s0, h0, _ => ⟨s0, rfl, h0⟩
  | n + 1, s0, h0, h => by
    obtain ⟨s1, e1, i1⟩ := M.for_rngI I n s0 h0 fun i s hi => h i s (by omega)
    obtain ⟨s2, e2, i2⟩ := h n s1 (by omega) i1
    refine ⟨s2, ?_, i2⟩
    rw [rng_succ, M.for_app, e1, M.b_ok, M.for_cons, e2]
    rfl
theorem line_of {n : Nat} (h : n ≤ 100000) : n ≤ sizeLine := small_line h
theorem line_lt {n : Nat} (h : n ≤ 100000) : n < sizeLine := Nat.lt_of_le_of_lt h (by decide)
theorem chk_line {n : Nat} {α : Type} {m : M α} (h : n ≤ 100000) : M.chk (n ≤ sizeLine) m = m := M.chk_of (line_of h)
def M.T {α : Type} (m : M α) (p : α → Prop) : Prop := m.P p fun _ => False
theorem M.T_ok {α : Type} {a : α} {p : α → Prop} (h : p a) : (M.ok a).T p := h
theorem M.T_b {α β : Type} {m : M α} {k : α → M β} {p : β → Prop} (h : m.T fun a => (k a).T p) : (M.b m k).T p := M.P_b.mpr h
theorem M.T_chk {α : Type} {c : Prop} {m : M α} {p : α → Prop} (hc : c) (h : m.T p) : (M.chk c m).T p := M.P_chk.mpr ⟨hc, h⟩
theorem M.T_get {α : Type} {o : Option α} {a : α} {p : α → Prop} (e : o = some a) (h : p a) : (M.get o).T p := M.P_get.mpr ⟨a, e, h⟩
theorem M.T_ite {α : Type} {c : Prop} [Decidable c] {m n : M α} {p : α → Prop} (h1 : c → m.T p) (h2 : ¬ c → n.T p) : (if c then m else n).T p := by
  split
  · exact h1 ‹_›
  · exact h2 ‹_›
theorem M.T_eq {α : Type} {m : M α} {p : α → Prop} (h : m.T p) : ∃ a, m = .ok a ∧ p a := by
  cases m with
  | ok a => exact ⟨a, rfl, h⟩
  | exc c => exact h.elim
  | bad => exact h.elim
theorem M.T_of {α : Type} {m : M α} {a : α} {p : α → Prop} (e : m = .ok a) (h : p a) : m.T p := by rw [e]; exact h
theorem M.T_is {α : Type} {m : M α} {a : α} (h : m.T fun b => b = a) : m = .ok a := by
  obtain ⟨b, e, rfl⟩ := M.T_eq h
  exact e
theorem M.T_cl {α : Type} {m : M α} {p : α → Prop} (h : m.T p) : m.cl.T p := by
  obtain ⟨b, rfl, h⟩ := M.T_eq h
  exact h
theorem M.T.imp {α : Type} {m : M α} {p q : α → Prop} (h : m.T p) (f : ∀ a, p a → q a) : m.T q := M.P.imp h f fun _ z => z
theorem M.T_for {α S : Type} {f : S → α → M S} {p : S → Prop} (I : List α → S → Prop) {xs : List α} {s0 : S} (h0 : I [] s0) (hs : ∀ ys x zs s, xs = ys ++ x :: zs → I ys s → (f s x).T (I (ys ++ [x]))) (hp : ∀ s, I xs s → p s) : (M.for_ f xs s0).T p := by
  obtain ⟨s, e, i⟩ := M.for_inv I xs s0 h0 fun ys x zs s e i => M.T_eq (hs ys x zs s e i)
  exact M.T_of e (hp s i)
theorem M.T_rng {S : Type} {f : S → Int → M S} {p : S → Prop} (I : Nat → S → Prop) {n : Int} {s0 : S} (h0 : I 0 s0) (hs : ∀ (i : Nat) s, (i : Int) < n → I i s → (f s (i : Int)).T (I (i + 1))) (hp : ∀ s, I n.toNat s → p s) : (M.for_ f (rng 0 n) s0).T p := by
  have e : rng 0 n = rng 0 ((n.toNat : Nat) : Int) := by
    unfold rng
    rw [show (n - 0).toNat = (((n.toNat : Nat) : Int) - 0).toNat by omega]
  rw [e]
  obtain ⟨s, e, i⟩ := M.for_rngI I n.toNat s0 h0 fun i s hi h => M.T_eq (hs i s (by omega) h)
  exact M.T_of e (hp s i)
theorem M.T_forR {α S R : Type} {f : S → α → M (S ⊕ R)} {p : S ⊕ R → Prop} (I : List α → S → Prop) {xs : List α} {s0 : S} (h0 : I [] s0)
    (hs : ∀ ys x zs s, xs = ys ++ x :: zs → I ys s → (f s x).T fun c => match c with | .inl s => I (ys ++ [x]) s | .inr r => p (.inr r)) (hp : ∀ s, I xs s → p (.inl s)) : (M.forR f xs s0).T p := by
  suffices H : ∀ (zs ys : List α) (s : S), xs = ys ++ zs → I ys s → (M.forR f zs s).T p from H xs [] s0 rfl h0
  intro zs
  induction zs with
  | nil =>
    intro ys s e h
    rw [List.append_nil] at e
    subst e
    exact hp s h
  | cons x r ih =>
    intro ys s e h
    rw [M.forR_cons]
    refine M.T_b ((hs ys x r s e h).imp fun c hc => ?_)
    cases c with
    | inl s1 => exact ih (ys ++ [x]) s1 (by rw [e]; simp) hc
    | inr q => exact hc
theorem M.T_orRl {S R : Type} {k : S → M R} {s : S} {p : R → Prop} (h : (k s).T p) : (M.orR k (.inl s)).T p := h
theorem M.T_orRr {S R : Type} {k : S → M R} {r : R} {p : R → Prop} (h : p r) : (M.orR k (.inr r)).T p := h
theorem M.lc_mapp {α β : Type} (f : α → β) (xs : List α) : M.lc (fun _ => .ok true) (fun y => .ok (f y)) xs = .ok (xs.map f) := M.lc_map xs fun _ _ => rfl
theorem cdiv {i j : Int} (h : 0 < j) (h2 : j < 2 ^ 30) : CDivW i j := wide_div (b := 31) h (by omega) (by decide) (by decide)
theorem rng_side {n : Int} (h : -1000000000 ≤ n ∧ n ≤ 1000000000) : -(2 ^ 62) ≤ n ∧ n < 2 ^ 62 := ⟨by omega, by omega⟩
abbrev n__law_cell_at : List Str := ["_law_script", "_law_k"]
noncomputable def F__law_cell_at (p0 : Scr) (p1 : Int) : M Int :=
  (if (decide (p1 < ((p0.l.length : Nat) : Int))) = true then (M.get (atI p0.l p1)) else (M.ok (0 : Int)))
def sp__law_cell_at (G : Gb) : Sp := spA G (fun (p : Scr × Int) => [.bw (p.1), .fz (p.2)]) (rpF G) (fun (p : Scr × Int) => F__law_cell_at (p.1) (p.2))
def t__law_cell_at (G : Gb) : TS :=
  (tSeq (tIfS (tTest (tOp qLt (tVar 1) (tCB (qLenQ G.K) (tCons (tVar 0) tNil))))
  (tRet (tOp (rIxL G.K) (tVar 0) (tVar 1)))
  tNext)
  (tRet (tC (.int 0))))
theorem len__law_cell_at {G : Gb} (vs : List V) (H : Hp) (Q : VK) (E : XK) (h : sp__law_cell_at G vs H Q E) : vs.length = 2 := spA_len h fun _ => rfl
theorem rn__law_cell_at {G : Gb} {B : Hp} {E : XK} (p0 : Scr) (p1 : Int) : Run G B E (oR G B (rpF G)) [some (.bw p0), some (.fz p1)] (t__law_cell_at G) (F__law_cell_at p0 p1) := by
  have h : Run G B E (oR G B (rpF G)) [some (.bw p0), some (.fz p1)] (t__law_cell_at G) _ := (run_ifS (evT_T (ev_lt (mr := .F) (ev_fz rfl) (ev_lenScr (mr := .F) (ev_bw rfl)))) (run_cutR (run_ret (ev_ixScr (mr := .F) (ev_bw rfl) (ev_fz rfl)))) (run_skip (run_ret (ev_int (md := .F)))))
  exact h
theorem run__law_cell_at {G : Gb} {vs : List V} {H : Hp} {Q : VK} {E : XK} (h : sp__law_cell_at G vs H Q E) : t__law_cell_at G (dEnd Q) (start n__law_cell_at vs) H := spA_run (n := 0) h (fun _ => rfl) fun p B => rn__law_cell_at (p.1) (p.2)
abbrev n__law_big : List Str := ["_law_script", "_law_at", "_law_by", "_law_prime", "_law_cell", "_law_big_here", "_law_k", "_law_one"]
noncomputable def F__law_big (p0 : Scr) (p1 : Int) : M Int :=
  (M.b (M.chk (((48271 : Int) :: ((69621 : Int) :: ((16807 : Int) :: ((39373 : Int) :: ((21401 : Int) :: ((60493 : Int) :: ((87721 : Int) :: ((31337 : Int) :: [])))))))).length ≤ sizeLine) (M.ok (⟨((48271 : Int) :: ((69621 : Int) :: ((16807 : Int) :: ((39373 : Int) :: ((21401 : Int) :: ((60493 : Int) :: ((87721 : Int) :: ((31337 : Int) :: []))))))))⟩ : Tp Int))) fun v1 => (M.b (M.chk (((99991 : Int) :: ((99989 : Int) :: ((99971 : Int) :: ((99961 : Int) :: ((99929 : Int) :: ((99923 : Int) :: ((99907 : Int) :: ((99901 : Int) :: [])))))))).length ≤ sizeLine) (M.ok (⟨((99991 : Int) :: ((99989 : Int) :: ((99971 : Int) :: ((99961 : Int) :: ((99929 : Int) :: ((99923 : Int) :: ((99907 : Int) :: ((99901 : Int) :: []))))))))⟩ : Tp Int))) fun v2 => (M.b (M.cl (F__law_cell_at p0 p1)) fun v3 => (M.b (M.b (M.b (M.chk (CPos v3 (2 : Int)) (M.ok (v3 % (2 : Int)))) fun x4 => (M.ok (decide (x4 = (0 : Int))))) fun x6 => (if x6 = true then (M.b (M.chk (CPow (10 : Int) (20 : Int)) (M.ok ((10 : Int) ^ ((20 : Int) : Int).toNat))) fun x5 => (M.ok (decide (x5 < v3)))) else M.ok false)) fun x29 => (if x29 = true then (M.chk (CDivW v3 (2 : Int)) (M.ok (v3 / (2 : Int)))) else (M.b (M.ok (0 : Int)) fun v7 => (M.b (M.b (M.chk (-(2 ^ 62) ≤ (60 : Int) ∧ (60 : Int) < 2 ^ 62) (M.ok (rng 0 (60 : Int)))) fun x27 => (M.for_ (fun (s8 : Int) (x9 : Int) => (M.b (M.b (M.b (M.b (M.b (M.b (M.chk (CPos x9 (9 : Int)) (M.ok (x9 % (9 : Int)))) fun x10 => (M.ok (p1 + x10))) fun x11 => (M.cl (F__law_cell_at p0 x11))) fun x12 => (M.b (M.chk (CPow (10 : Int) (18 : Int)) (M.ok ((10 : Int) ^ ((18 : Int) : Int).toNat))) fun x13 => (M.chk (CPos x12 x13) (M.ok (x12 % x13))))) fun x14 => (M.ok (x14 + (1 : Int)))) fun x15 => (M.b (M.chk (CMulW x9 x9) (M.ok (x9 * x9))) fun x16 => (M.ok (x15 + x16)))) fun v17 => (M.b (M.b (M.chk (CMulW s8 (7919 : Int)) (M.ok (s8 * (7919 : Int)))) fun x24 => (M.b (M.b (M.b (M.b (M.b (M.chk (CPos x9 (8 : Int)) (M.ok (x9 % (8 : Int)))) fun x18 => (M.get (atI v1.l x18))) fun x19 => (M.chk (CMulW v17 x19) (M.ok (v17 * x19)))) fun x21 => (M.b (M.b (M.chk (CPos x9 (8 : Int)) (M.ok (x9 % (8 : Int)))) fun x20 => (M.get (atI v2.l x20))) fun x22 => (M.chk (CPos x21 x22) (M.ok (x21 % x22))))) fun x23 => (M.chk (CPos x23 (7919 : Int)) (M.ok (x23 % (7919 : Int))))) fun x25 => (M.ok (x24 + x25)))) fun v26 => (M.ok v26)))) x27 v7)) fun s28 => (M.ok s28))))))))
def sp__law_big (G : Gb) : Sp := spA G (fun (p : Scr × Int) => [.bw (p.1), .fz (p.2)]) (rpF G) (fun (p : Scr × Int) => F__law_big (p.1) (p.2))
def t__law_big (G : Gb) : TS :=
  (tSeq (tAsg (tTup (tCons (tC (.int 48271)) (tCons (tC (.int 69621)) (tCons (tC (.int 16807)) (tCons (tC (.int 39373)) (tCons (tC (.int 21401)) (tCons (tC (.int 60493)) (tCons (tC (.int 87721)) (tCons (tC (.int 31337)) tNil))))))))) (gName 2)) (tSeq (tAsg (tTup (tCons (tC (.int 99991)) (tCons (tC (.int 99989)) (tCons (tC (.int 99971)) (tCons (tC (.int 99961)) (tCons (tC (.int 99929)) (tCons (tC (.int 99923)) (tCons (tC (.int 99907)) (tCons (tC (.int 99901)) tNil))))))))) (gName 3)) (tSeq (tAsg (tCall (sp__law_cell_at G) [] E0 (tCons (tVar 0) (tCons (tVar 1) tNil))) (gName 4)) (tSeq (tIfS (tAnd (tTest (tOp rEq (tOp qMod (tVar 4) (tC (.int 2))) (tC (.int 0)))) (tTest (tOp qGt (tVar 4) (tOp qPow (tC (.int 10)) (tC (.int 20))))))
  (tRet (tOp qDiv (tVar 4) (tC (.int 2))))
  tNext)
  (tSeq (tAsg (tC (.int 0)) (gName 5)) (tSeq (tFor (iRng1 (tCons (tC (.int 60)) tNil)) (gName 6)
  (tSeq (tAsg (tOp qAdd (tOp qAdd (tOp qMod (tCall (sp__law_cell_at G) [] E0 (tCons (tVar 0) (tCons (tOp qAdd (tVar 1) (tOp qMod (tVar 6) (tC (.int 9)))) tNil))) (tOp qPow (tC (.int 10)) (tC (.int 18)))) (tC (.int 1))) (tOp qMul (tVar 6) (tVar 6))) (gName 7)) (tAsg (tOp qAdd (tOp qMul (tVar 5) (tC (.int 7919))) (tOp qMod (tOp qMod (tOp qMul (tVar 7) (tOp (rIxT G.K) (tVar 2) (tOp qMod (tVar 6) (tC (.int 8))))) (tOp (rIxT G.K) (tVar 3) (tOp qMod (tVar 6) (tC (.int 8))))) (tC (.int 7919)))) (gName 5))))
  (tRet (tVar 5))))))))
theorem len__law_big {G : Gb} (vs : List V) (H : Hp) (Q : VK) (E : XK) (h : sp__law_big G vs H Q E) : vs.length = 2 := spA_len h fun _ => rfl
theorem rn__law_big {G : Gb} {B : Hp} {E : XK} (p0 : Scr) (p1 : Int) : Run G B E (oR G B (rpF G)) [some (.bw p0), some (.fz p1), none, none, none, none, none, none] (t__law_big G) (F__law_big p0 p1) := by
  have h : Run G B E (oR G B (rpF G)) [some (.bw p0), some (.fz p1), none, none, none, none, none, none] (t__law_big G) _ := (run_asg (bind := fun (x : (Tp Int)) (r : Evr) => (r.set 2 (some (.fz x)))) (ev_tp (el_cons (ev_int (md := .F)) (el_cons (ev_int (md := .F)) (el_cons (ev_int (md := .F)) (el_cons (ev_int (md := .F)) (el_cons (ev_int (md := .F)) (el_cons (ev_int (md := .F)) (el_cons (ev_int (md := .F)) (el_cons (ev_int (md := .F)) (el_nil (α := Int))))))))))) tg_F (fun v1 => (run_asg (bind := fun (x : (Tp Int)) (r : Evr) => (r.set 3 (some (.fz x)))) (ev_tp (el_cons (ev_int (md := .F)) (el_cons (ev_int (md := .F)) (el_cons (ev_int (md := .F)) (el_cons (ev_int (md := .F)) (el_cons (ev_int (md := .F)) (el_cons (ev_int (md := .F)) (el_cons (ev_int (md := .F)) (el_cons (ev_int (md := .F)) (el_nil (α := Int))))))))))) tg_F (fun v2 => (run_asg (bind := fun (x : Int) (r : Evr) => (r.set 4 (some (.fz x)))) (ev_call2 (f := F__law_cell_at) (ev_bw rfl) ps_B (ev_fz rfl) ps_F) tg_S (fun v3 => (run_ifS (evT_and (evT_T (ev_eq (mr := .F) (ev_mod (mr := .F) (ev_fz rfl) (ev_int (md := .F))) (ev_int (md := .F)))) (evT_T (ev_gt (mr := .F) (ev_fz rfl) (ev_pow (mr := .F) (ev_int (md := .F)) (ev_int (md := .F)))))) (run_cutR (run_ret (ev_div (mr := .F) (ev_fz rfl) (ev_int (md := .F))))) (run_skip (run_asg (bind := fun (x : Int) (r : Evr) => (r.set 5 (some (.fz x)))) (ev_int (md := .F)) tg_S (fun v7 => (run_seq (EX := fun (s : Int) => [some (.bw p0), some (.fz p1), some (.fz v1), some (.fz v2), some (.fz v3), some (.fz s), none, none]) (run_for (bind := fun (x : Int) (r : Evr) => (r.set 6 (some (.fz x)))) (s0 := v7) (ew_rng1 (ev_int (md := .F)) tg_S) (.keep (.keep (.keep (.keep (.keep (.keep (.drop (.drop Wk.nil)))))))) (fun s8 x9 => (run_asg (bind := fun (x : Int) (r : Evr) => (r.set 7 (some (.fz x)))) (ev_add (mr := .F) (ev_add (mr := .F) (ev_mod (mr := .F) (ev_call2 (f := F__law_cell_at) (ev_bw rfl) ps_B (ev_add (mr := .F) (ev_fz rfl) (ev_mod (mr := .F) (ev_fz rfl) (ev_int (md := .F)))) ps_F) (ev_pow (mr := .F) (ev_int (md := .F)) (ev_int (md := .F)))) (ev_int (md := .F))) (ev_mul (mr := .F) (ev_fz rfl) (ev_fz rfl))) tg_S (fun v17 => (run_last (run_asg (bind := fun (x : Int) (r : Evr) => (r.set 5 (some (.fz x)))) (ev_add (mr := .F) (ev_mul (mr := .F) (ev_fz rfl) (ev_int (md := .F))) (ev_mod (mr := .F) (ev_mod (mr := .F) (ev_mul (mr := .F) (ev_fz rfl) (ev_ixTp (ev_fz rfl) (ev_mod (mr := .F) (ev_fz rfl) (ev_int (md := .F))))) (ev_ixTp (ev_fz rfl) (ev_mod (mr := .F) (ev_fz rfl) (ev_int (md := .F))))) (ev_int (md := .F)))) tg_S (fun v26 => (run_next (s := v26) (.keep (.keep (.keep (.keep (.keep (.keep (.drop (.drop Wk.nil)))))))))))))))) (fun s28 => (run_ret (ev_fz rfl))))))))))))))
  exact h
theorem run__law_big {G : Gb} {vs : List V} {H : Hp} {Q : VK} {E : XK} (h : sp__law_big G vs H Q E) : t__law_big G (dEnd Q) (start n__law_big vs) H := spA_run (n := 6) h (fun _ => rfl) fun p B => rn__law_big (p.1) (p.2)
abbrev n__law_names : List Str := ["_law_stem", "_law_many", "_law_signs", "_law_size", "_law_spot", "_law_names_here", "_law_v", "_law_name", "_law_k", "_law_turn"]
noncomputable def F__law_names (p0 : Int) (p1 : Int) : M (List Str) :=
  (M.b (M.ok (Str.ofString "abcdefghijklmnopqrstuvwxyz0123456789")) fun v1 => (M.b (M.b (M.chk (CPos p0 (8 : Int)) (M.ok (p0 % (8 : Int)))) fun x2 => (M.ok ((1 : Int) + x2))) fun v3 => (M.b (M.b (M.chk (CDivW p0 (8 : Int)) (M.ok (p0 / (8 : Int)))) fun x4 => (M.chk (CPos x4 v3) (M.ok (x4 % v3)))) fun v5 => (M.b (M.ok ([] : (List Str))) fun v6 => (M.b (M.b (M.chk (-(2 ^ 62) ≤ p1 ∧ p1 < 2 ^ 62) (M.ok (rng 0 p1))) fun x45 => (M.for_ (fun (s7 : (List Str)) (x8 : Int) => (M.b (M.ok (Str.ofString "")) fun v9 => (M.b (M.b (M.chk (-(2 ^ 62) ≤ v3 ∧ v3 < 2 ^ 62) (M.ok (rng 0 v3))) fun x23 => (M.for_ (fun (s10 : Str) (x11 : Int) => (M.b (M.b (M.chk (CDivW p0 (64 : Int)) (M.ok (p0 / (64 : Int)))) fun x14 => (M.b (M.b (M.b (M.chk (CDivW p0 (7 : Int)) (M.ok (p0 / (7 : Int)))) fun x12 => (M.chk (CPos x12 (5 : Int)) (M.ok (x12 % (5 : Int))))) fun x13 => (M.chk (CMulW x11 x13) (M.ok (x11 * x13)))) fun x15 => (M.ok (x14 + x15)))) fun v16 => (M.b (if (decide (x11 = v5)) = true then (M.b (M.ok (v16 + x8)) fun v18 => (M.ok v18)) else (M.ok v16)) fun s19 => (M.b (M.b (M.b (M.chk (CPos s19 (36 : Int)) (M.ok (s19 % (36 : Int)))) fun x20 => (M.chk (v1.length ≤ sizeLine) (M.b (M.get (atI v1.cps.toList x20)) fun c => M.ok (⟨#[c]⟩ : Str)))) fun x21 => (M.chk (s10.length + x21.length ≤ sizeLine) (M.ok (s10 ++ x21)))) fun v22 => (M.ok v22))))) x23 v9)) fun s24 => (M.b (M.b (M.b (M.chk (CPos p0 (3 : Int)) (M.ok (p0 % (3 : Int)))) fun x25 => (M.ok (decide (x25 = (2 : Int))))) fun x44 => (if x44 = true then (M.b (M.b (M.b (M.b (M.b (M.chk (CDivW p0 (64 : Int)) (M.ok (p0 / (64 : Int)))) fun x34 => (M.b (M.chk (CDivW x8 (8 : Int)) (M.ok (x8 / (8 : Int)))) fun x35 => (M.ok (x34 + x35)))) fun x36 => (M.chk (CPos x36 (36 : Int)) (M.ok (x36 % (36 : Int))))) fun x37 => (M.chk (v1.length ≤ sizeLine) (M.b (M.get (atI v1.cps.toList x37)) fun c => M.ok (⟨#[c]⟩ : Str)))) fun x39 => (M.b (M.b (M.chk (CPos x8 (8 : Int)) (M.ok (x8 % (8 : Int)))) fun x38 => (M.ok ((1 : Int) + x38))) fun x40 => (M.chk (MulOk x39 x40) (M.ok (Txt.mul x39 x40))))) fun v41 => (M.ok v41)) else (M.ok s24))) fun s42 => (M.b (M.ok s42) fun a43 => M.chk (s7.length < sizeLine) (M.ok (s7 ++ [a43]))))))) x45 v6)) fun s46 => (M.ok s46))))))
def sp__law_names (G : Gb) : Sp := spA G (fun (p : Int × Int) => [.fz (p.1), .fz (p.2)]) (rpN G) (fun (p : Int × Int) => F__law_names (p.1) (p.2))
def t__law_names (G : Gb) : TS :=
  (tSeq (tAsg (tC (.str "abcdefghijklmnopqrstuvwxyz0123456789")) (gName 2)) (tSeq (tAsg (tOp qAdd (tC (.int 1)) (tOp qMod (tVar 0) (tC (.int 8)))) (gName 3)) (tSeq (tAsg (tOp qMod (tOp qDiv (tVar 0) (tC (.int 8))) (tVar 3)) (gName 4)) (tSeq (tAsg (tLst tNil) (gName 5)) (tSeq (tFor (iRng1 (tCons (tVar 1) tNil)) (gName 6)
  (tSeq (tAsg (tC (.str "")) (gName 7)) (tSeq (tFor (iRng1 (tCons (tVar 3) tNil)) (gName 8)
  (tSeq (tAsg (tOp qAdd (tOp qDiv (tVar 0) (tC (.int 64))) (tOp qMul (tVar 8) (tOp qMod (tOp qDiv (tVar 0) (tC (.int 7))) (tC (.int 5))))) (gName 9)) (tSeq (tIfS (tTest (tOp rEq (tVar 8) (tVar 4)))
  (tAsg (tOp qAdd (tVar 9) (tVar 6)) (gName 9))
  tNext)
  (tAsg (tOp qCatS (tVar 7) (tOp rIxS (tVar 2) (tOp qMod (tVar 9) (tC (.int 36))))) (gName 7)))))
  (tSeq (tIfS (tTest (tOp rEq (tOp qMod (tVar 0) (tC (.int 3))) (tC (.int 2))))
  (tAsg (tOp qRepS (tOp rIxS (tVar 2) (tOp qMod (tOp qAdd (tOp qDiv (tVar 0) (tC (.int 64))) (tOp qDiv (tVar 6) (tC (.int 8)))) (tC (.int 36)))) (tOp qAdd (tC (.int 1)) (tOp qMod (tVar 6) (tC (.int 8))))) (gName 7))
  tNext)
  (tDrop (tBM G.K "list" rAppend (tVar 5) (tCons (tVar 7) tNil)))))))
  (tRet (tVar 5)))))))
theorem len__law_names {G : Gb} (vs : List V) (H : Hp) (Q : VK) (E : XK) (h : sp__law_names G vs H Q E) : vs.length = 2 := spA_len h fun _ => rfl
theorem rn__law_names {G : Gb} {B : Hp} {E : XK} (p0 : Int) (p1 : Int) : Run G B E (oR G B (rpN G)) [some (.fz p0), some (.fz p1), none, none, none, none, none, none, none, none] (t__law_names G) (F__law_names p0 p1) := by
  have h : Run G B E (oR G B (rpN G)) [some (.fz p0), some (.fz p1), none, none, none, none, none, none, none, none] (t__law_names G) _ := (run_asg (bind := fun (x : Str) (r : Evr) => (r.set 2 (some (.fz x)))) (ev_str (md := .F)) tg_S (fun v1 => (run_asg (bind := fun (x : Int) (r : Evr) => (r.set 3 (some (.fz x)))) (ev_add (mr := .F) (ev_int (md := .F)) (ev_mod (mr := .F) (ev_fz rfl) (ev_int (md := .F)))) tg_S (fun v3 => (run_asg (bind := fun (x : Int) (r : Evr) => (r.set 4 (some (.fz x)))) (ev_mod (mr := .F) (ev_div (mr := .F) (ev_fz rfl) (ev_int (md := .F))) (ev_fz rfl)) tg_S (fun v5 => (run_asgN (en_nil (α := Str)) (fun v6 => (run_seq (EX := fun (s : (List Str)) => [some (.fz p0), some (.fz p1), some (.fz v1), some (.fz v3), some (.fz v5), some (.ow s), none, none, none, none]) (run_for (bind := fun (x : Int) (r : Evr) => (r.set 6 (some (.fz x)))) (s0 := v6) (ew_rng1 (ev_fz rfl) tg_S) (.keep (.keep (.keep (.keep (.keep (.keep (.drop (.drop (.drop (.drop Wk.nil)))))))))) (fun s7 x8 => (run_asg (bind := fun (x : Str) (r : Evr) => (r.set 7 (some (.fz x)))) (ev_str (md := .F)) tg_S (fun v9 => (run_seq (EX := fun (s : Str) => [some (.fz p0), some (.fz p1), some (.fz v1), some (.fz v3), some (.fz v5), some (.ow s7), some (.fz x8), some (.fz s), none, none]) (run_for (bind := fun (x : Int) (r : Evr) => (r.set 8 (some (.fz x)))) (s0 := v9) (ew_rng1 (ev_fz rfl) tg_S) (.keep (.keep (.keep (.keep (.keep (.keep (.keep (.keep (.drop (.drop Wk.nil)))))))))) (fun s10 x11 => (run_asg (bind := fun (x : Int) (r : Evr) => (r.set 9 (some (.fz x)))) (ev_add (mr := .F) (ev_div (mr := .F) (ev_fz rfl) (ev_int (md := .F))) (ev_mul (mr := .F) (ev_fz rfl) (ev_mod (mr := .F) (ev_div (mr := .F) (ev_fz rfl) (ev_int (md := .F))) (ev_int (md := .F))))) tg_S (fun v16 => (run_seq (EX := fun (s : Int) => [some (.fz p0), some (.fz p1), some (.fz v1), some (.fz v3), some (.fz v5), some (.ow s7), some (.fz x8), some (.fz s10), some (.fz x11), some (.fz s)]) (run_if (evT_T (ev_eq (mr := .F) (ev_fz rfl) (ev_fz rfl))) (run_last (run_asg (bind := fun (x : Int) (r : Evr) => (r.set 9 (some (.fz x)))) (ev_add (mr := .F) (ev_fz rfl) (ev_fz rfl)) tg_S (fun v18 => (run_next (s := v18) (.keep (.keep (.keep (.keep (.keep (.keep (.keep (.keep (.keep (.keep Wk.nil)))))))))))))) (run_next (s := v16) (.keep (.keep (.keep (.keep (.keep (.keep (.keep (.keep (.keep (.keep Wk.nil)))))))))))) (fun s19 => (run_last (run_asg (bind := fun (x : Str) (r : Evr) => (r.set 7 (some (.fz x)))) (ev_catStr (mr := .F) (ev_fz rfl) (ev_ixStr (mr := .F) (ev_fz rfl) (ev_mod (mr := .F) (ev_fz rfl) (ev_int (md := .F))))) tg_S (fun v22 => (run_next (s := v22) (.keep (.keep (.keep (.keep (.keep (.keep (.keep (.keep (.drop (.drop Wk.nil)))))))))))))))))))) (fun s24 => (run_seq (EX := fun (s : Str) => [some (.fz p0), some (.fz p1), some (.fz v1), some (.fz v3), some (.fz v5), some (.ow s7), some (.fz x8), some (.fz s), none, none]) (run_if (evT_T (ev_eq (mr := .F) (ev_mod (mr := .F) (ev_fz rfl) (ev_int (md := .F))) (ev_int (md := .F)))) (run_last (run_asg (bind := fun (x : Str) (r : Evr) => (r.set 7 (some (.fz x)))) (ev_repStr (mr := .F) (ev_ixStr (mr := .F) (ev_fz rfl) (ev_mod (mr := .F) (ev_add (mr := .F) (ev_div (mr := .F) (ev_fz rfl) (ev_int (md := .F))) (ev_div (mr := .F) (ev_fz rfl) (ev_int (md := .F)))) (ev_int (md := .F)))) (ev_add (mr := .F) (ev_int (md := .F)) (ev_mod (mr := .F) (ev_fz rfl) (ev_int (md := .F))))) tg_S (fun v41 => (run_next (s := v41) (.keep (.keep (.keep (.keep (.keep (.keep (.keep (.keep (.drop (.drop Wk.nil)))))))))))))) (run_next (s := s24) (.keep (.keep (.keep (.keep (.keep (.keep (.keep (.keep (.drop (.drop Wk.nil)))))))))))) (fun s42 => (run_last (run_append rfl (ev_fz rfl) (fun a43 => (run_next (s := (s7 ++ [a43])) (.keep (.keep (.keep (.keep (.keep (.keep (.drop (.drop (.drop (.drop Wk.nil)))))))))))))))))))))) (fun s46 => (run_retO rfl)))))))))))
  exact h
theorem run__law_names {G : Gb} {vs : List V} {H : Hp} {Q : VK} {E : XK} (h : sp__law_names G vs H Q E) : t__law_names G (dEnd Q) (start n__law_names vs) H := spA_run (n := 8) h (fun _ => rfl) fun p B => rn__law_names (p.1) (p.2)
def cell (ns : List Int) (j : Nat) : Int := ns.getD j 0
theorem cell_at (ns : List Int) (j : Nat) : F__law_cell_at ⟨ns⟩ (j : Int) = .ok (cell ns j) := by
  unfold F__law_cell_at cell
  by_cases h : j < ns.length
  · rw [if_pos (decide_eq_true (by show (j : Int) < (ns.length : Int); omega)), atI_nat (List.getElem?_eq_getElem h), M.get_some, List.getD_eq_getElem?_getD, List.getElem?_eq_getElem h]
    rfl
  · rw [if_neg (by rw [decide_eq_false (by show ¬ (j : Int) < (ns.length : Int); omega)]; exact Bool.false_ne_true), List.getD_eq_getElem?_getD, List.getElem?_eq_none (by omega)]
    exact rfl
def byL : List Int := [48271, 69621, 16807, 39373, 21401, 60493, 87721, 31337]
def primeL : List Int := [99991, 99989, 99971, 99961, 99929, 99923, 99907, 99901]
theorem at8 (xs : List Int) (h : xs.length = 8) (hp : ∀ x ∈ xs, 0 < x ∧ x < 100000) (k : Nat) : ∃ x : Int, atI xs (((k : Int)) % 8) = some x ∧ 0 < x ∧ x < 100000 := by
  have e : ((k : Int) % 8) = ((k % 8 : Nat) : Int) := by omega
  have hk : k % 8 < xs.length := by omega
  refine ⟨xs[k % 8], ?_, hp _ (List.getElem_mem hk)⟩
  rw [e]
  exact atI_nat (List.getElem?_eq_getElem hk)
theorem big_ok (ns : List Int) (j : Nat) : (F__law_big ⟨ns⟩ (j : Int)).T fun b => 0 ≤ b := by
  unfold F__law_big
  refine M.T_b (M.T_chk (line_of (show 8 ≤ 100000 by decide)) (M.T_ok (M.T_b (M.T_chk (line_of (show 8 ≤ 100000 by decide)) (M.T_ok ?_)))))
  rw [cell_at]
  refine M.T_b (M.T_cl (M.T_ok ?_))
  have e10 : (10 : Int) ^ ((20 : Int).toNat) = 100000000000000000000 := by decide
  refine M.T_b (M.T.imp (p := fun x => x = true → 0 < cell ns j) ?_ fun x29 hx => ?_)
  · (repeat' (first | with_reducible refine M.T_b ?_ | with_reducible refine M.T_ok ?_ | (with_reducible refine M.T_chk ?hc ?_; (case hc => (first | assumption | exact cpos (by omega) | exact cdiv (by omega) (by omega) | exact rng_side (by omega) | (unfold CPow; decide) | decide | omega))) | with_reducible refine M.T_cl ?_ | with_reducible refine M.T_orRl ?_ | with_reducible refine M.T_orRr ?_))
    refine M.T_ite (fun h => ?_) fun h => ?_
    · (repeat' (first | with_reducible refine M.T_b ?_ | with_reducible refine M.T_ok ?_ | (with_reducible refine M.T_chk ?hc ?_; (case hc => (first | assumption | exact cpos (by omega) | exact cdiv (by omega) (by omega) | exact rng_side (by omega) | (unfold CPow; decide) | decide | omega))) | with_reducible refine M.T_cl ?_ | with_reducible refine M.T_orRl ?_ | with_reducible refine M.T_orRr ?_))
      intro h2
      have := of_decide_eq_true h2
      rw [e10] at this
      omega
    · (repeat' (first | with_reducible refine M.T_b ?_ | with_reducible refine M.T_ok ?_ | (with_reducible refine M.T_chk ?hc ?_; (case hc => (first | assumption | exact cpos (by omega) | exact cdiv (by omega) (by omega) | exact rng_side (by omega) | (unfold CPow; decide) | decide | omega))) | with_reducible refine M.T_cl ?_ | with_reducible refine M.T_orRl ?_ | with_reducible refine M.T_orRr ?_))
      exact fun z => nomatch z
  refine M.T_ite (fun h => ?_) fun h => ?_
  · have := hx h
    (repeat' (first | with_reducible refine M.T_b ?_ | with_reducible refine M.T_ok ?_ | (with_reducible refine M.T_chk ?hc ?_; (case hc => (first | assumption | exact cpos (by omega) | exact cdiv (by omega) (by omega) | exact rng_side (by omega) | (unfold CPow; decide) | decide | omega))) | with_reducible refine M.T_cl ?_ | with_reducible refine M.T_orRl ?_ | with_reducible refine M.T_orRr ?_))
    omega
  (repeat' (first | with_reducible refine M.T_b ?_ | with_reducible refine M.T_ok ?_ | (with_reducible refine M.T_chk ?hc ?_; (case hc => (first | assumption | exact cpos (by omega) | exact cdiv (by omega) (by omega) | exact rng_side (by omega) | (unfold CPow; decide) | decide | omega))) | with_reducible refine M.T_cl ?_ | with_reducible refine M.T_orRl ?_ | with_reducible refine M.T_orRr ?_))
  refine M.T_rng (fun i (s : Int) => 0 ≤ s ∧ s.natAbs < 2 ^ (13 * i + 1)) ⟨by decide, by decide⟩ (fun i b hi ⟨hb0, hb⟩ => ?_) fun s h => h.1
  obtain ⟨x1, a1, l1, u1⟩ := at8 byL rfl (by decide) i
  obtain ⟨x2, a2, l2, u2⟩ := at8 primeL rfl (by decide) i
  have ej : (j : Int) + (i : Int) % 9 = ((j + i % 9 : Nat) : Int) := by omega
  have m0 := Int.emod_nonneg (cell ns (j + i % 9)) (show (10 : Int) ^ ((18 : Int).toNat) ≠ 0 by decide)
  have m1 := Int.emod_lt_of_pos (cell ns (j + i % 9)) (show (0 : Int) < 10 ^ ((18 : Int).toNat) by decide)
  have e10 : (10 : Int) ^ ((18 : Int).toNat) = 1000000000000000000 := by decide
  have h3 : (i : Int) * (i : Int) ≤ 60 * 60 := Int.mul_le_mul (by omega) (by omega) (by omega) (by omega)
  have h4 : 0 ≤ (i : Int) * (i : Int) := Int.mul_nonneg (by omega) (by omega)
  have cb : 0 ≤ cell ns (j + i % 9) % 10 ^ ((18 : Int).toNat) + 1 + (i : Int) * (i : Int) ∧ cell ns (j + i % 9) % 10 ^ ((18 : Int).toNat) + 1 + (i : Int) * (i : Int) < 2 ^ 61 := by
    rw [e10] at m0 m1 ⊢
    omega
  have w1 : CMulW (i : Int) (i : Int) := wide_mul (a := 6) (b := 6) (by omega) (by omega) (by decide) (by decide) (by decide)
  have w2 : CMulW b 7919 := wide_mul (a := 13 * i + 1) (b := 13) hb (by decide) (by omega) (by decide) (by omega)
  have w3 : CMulW (cell ns (j + i % 9) % 10 ^ ((18 : Int).toNat) + 1 + (i : Int) * (i : Int)) x1 := wide_mul (a := 61) (b := 17) (by omega) (by omega) (by decide) (by decide) (by decide)
  have w4 : (0 : Int) < 10 ^ ((18 : Int).toNat) := by decide
  (repeat' (first | with_reducible refine M.T_b ?_ | with_reducible refine M.T_ok ?_ | (with_reducible refine M.T_chk ?hc ?_; (case hc => (first | assumption | exact cpos (by omega) | exact cdiv (by omega) (by omega) | exact rng_side (by omega) | (unfold CPow; decide) | decide | omega))) | with_reducible refine M.T_cl ?_ | with_reducible refine M.T_orRl ?_ | with_reducible refine M.T_orRr ?_))
  rw [ej, cell_at]
  (repeat' (first | with_reducible refine M.T_b ?_ | with_reducible refine M.T_ok ?_ | (with_reducible refine M.T_chk ?hc ?_; (case hc => (first | assumption | exact cpos (by omega) | exact cdiv (by omega) (by omega) | exact rng_side (by omega) | (unfold CPow; decide) | decide | omega))) | with_reducible refine M.T_cl ?_ | with_reducible refine M.T_orRl ?_ | with_reducible refine M.T_orRr ?_))
  refine M.T_get a1 ?_
  (repeat' (first | with_reducible refine M.T_b ?_ | with_reducible refine M.T_ok ?_ | (with_reducible refine M.T_chk ?hc ?_; (case hc => (first | assumption | exact cpos (by omega) | exact cdiv (by omega) (by omega) | exact rng_side (by omega) | (unfold CPow; decide) | decide | omega))) | with_reducible refine M.T_cl ?_ | with_reducible refine M.T_orRl ?_ | with_reducible refine M.T_orRr ?_))
  refine M.T_get a2 ?_
  (repeat' (first | with_reducible refine M.T_b ?_ | with_reducible refine M.T_ok ?_ | (with_reducible refine M.T_chk ?hc ?_; (case hc => (first | assumption | exact cpos (by omega) | exact cdiv (by omega) (by omega) | exact rng_side (by omega) | (unfold CPow; decide) | decide | omega))) | with_reducible refine M.T_cl ?_ | with_reducible refine M.T_orRl ?_ | with_reducible refine M.T_orRr ?_))
  have q0 := Int.emod_nonneg ((cell ns (j + i % 9) % 10 ^ ((18 : Int).toNat) + 1 + (i : Int) * (i : Int)) * x1 % x2) (show (7919 : Int) ≠ 0 by decide)
  have q1 := Int.emod_lt_of_pos ((cell ns (j + i % 9) % 10 ^ ((18 : Int).toNat) + 1 + (i : Int) * (i : Int)) * x1 % x2) (show (0 : Int) < 7919 by decide)
  have e : 2 ^ (13 * (i + 1) + 1) = 2 ^ (13 * i + 1) * 8192 := by
    rw [show 13 * (i + 1) + 1 = (13 * i + 1) + 13 by omega, Nat.pow_add]
  refine ⟨by omega, ?_⟩
  rw [e]
  omega
theorem cell_T {ns : List Int} {n : Int} {p : Int → Prop} (h : 0 ≤ n) (k : p (cell ns n.toNat)) : (F__law_cell_at ⟨ns⟩ n).T p := by
  rw [show n = ((n.toNat : Nat) : Int) by omega, cell_at]
  exact k
theorem big_T {ns : List Int} {n : Int} {p : Int → Prop} (h : 0 ≤ n) (k : ∀ b, 0 ≤ b → p b) : (F__law_big ⟨ns⟩ n).T p := by
  rw [show n = ((n.toNat : Nat) : Int) by omega]
  exact (big_ok ns n.toNat).imp k
theorem names_ok (stem : Int) (n : Nat) (hn : n ≤ 1000) : F__law_names stem (n : Int) = .ok (namesOf stem n) := by
  refine M.T_is ?_
  unfold F__law_names
  have hs := size_of stem
  have m5 := Int.emod_nonneg (stem / 7) (show (5 : Int) ≠ 0 by decide)
  have m5' := Int.emod_lt_of_pos (stem / 7) (show (0 : Int) < 5 by decide)
  (repeat' (first | with_reducible refine M.T_b ?_ | with_reducible refine M.T_ok ?_ | (with_reducible refine M.T_chk ?hc ?_; (case hc => (first | assumption | exact cpos (by omega) | exact cdiv (by omega) (by omega) | exact rng_side (by omega) | (unfold CPow; decide) | decide | omega))) | with_reducible refine M.T_cl ?_ | with_reducible refine M.T_orRl ?_ | with_reducible refine M.T_orRr ?_))
  refine M.T_rng (fun i (s : List Str) => s = namesOf stem i) rfl (fun v zs hv e => ?_) fun s h => by (repeat' (first | with_reducible refine M.T_b ?_ | with_reducible refine M.T_ok ?_ | (with_reducible refine M.T_chk ?hc ?_; (case hc => (first | assumption | exact cpos (by omega) | exact cdiv (by omega) (by omega) | exact rng_side (by omega) | (unfold CPow; decide) | decide | omega))) | with_reducible refine M.T_cl ?_ | with_reducible refine M.T_orRl ?_ | with_reducible refine M.T_orRr ?_)); rw [h]; congr 1
  subst e
  (repeat' (first | with_reducible refine M.T_b ?_ | with_reducible refine M.T_ok ?_ | (with_reducible refine M.T_chk ?hc ?_; (case hc => (first | assumption | exact cpos (by omega) | exact cdiv (by omega) (by omega) | exact rng_side (by omega) | (unfold CPow; decide) | decide | omega))) | with_reducible refine M.T_cl ?_ | with_reducible refine M.T_orRl ?_ | with_reducible refine M.T_orRr ?_))
  refine M.T_rng (fun i (z : Str) => tl z = (List.range i).map (nameS stem v)) (by rw [tl_none]; rfl) (fun i z hi ez => ?_) fun z ez => ?_
  · have hzl : z.length = i := by
      rw [len_tl, ez, List.length_map, List.length_range]
    have w1 : CMulW (i : Int) (stem / 7 % 5) := wide_mul (a := 4) (b := 3) (by omega) (by omega) (by decide) (by decide) (by decide)
    refine M.T_b ?_
    (repeat' (first | with_reducible refine M.T_b ?_ | with_reducible refine M.T_ok ?_ | (with_reducible refine M.T_chk ?hc ?_; (case hc => (first | assumption | exact cpos (by omega) | exact cdiv (by omega) (by omega) | exact rng_side (by omega) | (unfold CPow; decide) | decide | omega))) | with_reducible refine M.T_cl ?_ | with_reducible refine M.T_orRl ?_ | with_reducible refine M.T_orRr ?_))
    refine M.T.imp (p := fun t => t = stem / 64 + (i : Int) * (stem / 7 % 5) + (if (i : Int) = stem / 8 % (1 + stem % 8) then (v : Int) else 0)) ?_ fun t et => ?_
    · refine M.T_ite (fun h => ?_) fun h => ?_
      · (repeat' (first | with_reducible refine M.T_b ?_ | with_reducible refine M.T_ok ?_ | (with_reducible refine M.T_chk ?hc ?_; (case hc => (first | assumption | exact cpos (by omega) | exact cdiv (by omega) (by omega) | exact rng_side (by omega) | (unfold CPow; decide) | decide | omega))) | with_reducible refine M.T_cl ?_ | with_reducible refine M.T_orRl ?_ | with_reducible refine M.T_orRr ?_))
        rw [if_pos (of_decide_eq_true h)]
      · (repeat' (first | with_reducible refine M.T_b ?_ | with_reducible refine M.T_ok ?_ | (with_reducible refine M.T_chk ?hc ?_; (case hc => (first | assumption | exact cpos (by omega) | exact cdiv (by omega) (by omega) | exact rng_side (by omega) | (unfold CPow; decide) | decide | omega))) | with_reducible refine M.T_cl ?_ | with_reducible refine M.T_orRl ?_ | with_reducible refine M.T_orRr ?_))
        rw [if_neg (fun w => h (decide_eq_true w)), Int.add_zero]
    · (repeat' (first | with_reducible refine M.T_b ?_ | with_reducible refine M.T_ok ?_ | (with_reducible refine M.T_chk ?hc ?_; (case hc => (first | assumption | exact cpos (by omega) | exact cdiv (by omega) (by omega) | exact rng_side (by omega) | (unfold CPow; decide) | decide | omega))) | with_reducible refine M.T_cl ?_ | with_reducible refine M.T_orRl ?_ | with_reducible refine M.T_orRr ?_))
      refine M.T_get (sgn_at t) ?_
      (repeat' (first | with_reducible refine M.T_b ?_ | with_reducible refine M.T_ok ?_ | (with_reducible refine M.T_chk ?hc ?_; (case hc => (first | assumption | exact cpos (by omega) | exact cdiv (by omega) (by omega) | exact rng_side (by omega) | (unfold CPow; decide) | decide | omega))) | with_reducible refine M.T_cl ?_ | with_reducible refine M.T_orRl ?_ | with_reducible refine M.T_orRr ?_))
      refine M.T_chk (line_of (by show z.length + 1 ≤ 100000; omega)) ?_
      (repeat' (first | with_reducible refine M.T_b ?_ | with_reducible refine M.T_ok ?_ | (with_reducible refine M.T_chk ?hc ?_; (case hc => (first | assumption | exact cpos (by omega) | exact cdiv (by omega) (by omega) | exact rng_side (by omega) | (unfold CPow; decide) | decide | omega))) | with_reducible refine M.T_cl ?_ | with_reducible refine M.T_orRl ?_ | with_reducible refine M.T_orRr ?_))
      rw [tl_append, ez, List.range_succ, List.map_append, et]
      rfl
  · (repeat' (first | with_reducible refine M.T_b ?_ | with_reducible refine M.T_ok ?_ | (with_reducible refine M.T_chk ?hc ?_; (case hc => (first | assumption | exact cpos (by omega) | exact cdiv (by omega) (by omega) | exact rng_side (by omega) | (unfold CPow; decide) | decide | omega))) | with_reducible refine M.T_cl ?_ | with_reducible refine M.T_orRl ?_ | with_reducible refine M.T_orRr ?_))
    refine M.T_ite (fun h => ?_) fun h => ?_
    · have e2 := of_decide_eq_true h
      (repeat' (first | with_reducible refine M.T_b ?_ | with_reducible refine M.T_ok ?_ | (with_reducible refine M.T_chk ?hc ?_; (case hc => (first | assumption | exact cpos (by omega) | exact cdiv (by omega) (by omega) | exact rng_side (by omega) | (unfold CPow; decide) | decide | omega))) | with_reducible refine M.T_cl ?_ | with_reducible refine M.T_orRl ?_ | with_reducible refine M.T_orRr ?_))
      refine M.T_get (sgn_at _) ?_
      (repeat' (first | with_reducible refine M.T_b ?_ | with_reducible refine M.T_ok ?_ | (with_reducible refine M.T_chk ?hc ?_; (case hc => (first | assumption | exact cpos (by omega) | exact cdiv (by omega) (by omega) | exact rng_side (by omega) | (unfold CPow; decide) | decide | omega))) | with_reducible refine M.T_cl ?_ | with_reducible refine M.T_orRl ?_ | with_reducible refine M.T_orRr ?_))
      refine M.T_chk (mul_ok _ _ (show 1 ≤ 30 by decide) (by omega)) ?_
      (repeat' (first | with_reducible refine M.T_b ?_ | with_reducible refine M.T_ok ?_ | (with_reducible refine M.T_chk ?hc ?_; (case hc => (first | assumption | exact cpos (by omega) | exact cdiv (by omega) (by omega) | exact rng_side (by omega) | (unfold CPow; decide) | decide | omega))) | with_reducible refine M.T_cl ?_ | with_reducible refine M.T_orRl ?_ | with_reducible refine M.T_orRr ?_))
      refine M.T_chk (line_lt (by rw [names_len]; omega)) ?_
      (repeat' (first | with_reducible refine M.T_b ?_ | with_reducible refine M.T_ok ?_ | (with_reducible refine M.T_chk ?hc ?_; (case hc => (first | assumption | exact cpos (by omega) | exact cdiv (by omega) (by omega) | exact rng_side (by omega) | (unfold CPow; decide) | decide | omega))) | with_reducible refine M.T_cl ?_ | with_reducible refine M.T_orRl ?_ | with_reducible refine M.T_orRr ?_))
      have en : Txt.mul ⟨#[sgn (stem / 64 + (v : Int) / 8)]⟩ (1 + (v : Int) % 8) = nameOf stem v := by
        refine ext_tl ?_
        rw [tl_mul_one _ _ (by omega), tl_nameOf]
        unfold nameL
        rw [if_pos e2, show ((1 + (v : Int) % 8).toNat) = 1 + v % 8 by omega, show ((v / 8 : Nat) : Int) = (v : Int) / 8 by omega]
      rw [en]
      unfold namesOf
      rw [List.range_succ, List.map_append]
      rfl
    · (repeat' (first | with_reducible refine M.T_b ?_ | with_reducible refine M.T_ok ?_ | (with_reducible refine M.T_chk ?hc ?_; (case hc => (first | assumption | exact cpos (by omega) | exact cdiv (by omega) (by omega) | exact rng_side (by omega) | (unfold CPow; decide) | decide | omega))) | with_reducible refine M.T_cl ?_ | with_reducible refine M.T_orRl ?_ | with_reducible refine M.T_orRr ?_))
      refine M.T_chk (line_lt (by rw [names_len]; omega)) ?_
      (repeat' (first | with_reducible refine M.T_b ?_ | with_reducible refine M.T_ok ?_ | (with_reducible refine M.T_chk ?hc ?_; (case hc => (first | assumption | exact cpos (by omega) | exact cdiv (by omega) (by omega) | exact rng_side (by omega) | (unfold CPow; decide) | decide | omega))) | with_reducible refine M.T_cl ?_ | with_reducible refine M.T_orRl ?_ | with_reducible refine M.T_orRr ?_))
      have en : z = nameOf stem v := by
        refine ext_tl ?_
        rw [ez, tl_nameOf]
        unfold nameL
        rw [if_neg fun w => h (decide_eq_true w)]
      rw [en]
      unfold namesOf
      rw [List.range_succ, List.map_append]
      rfl
end Tw
set_option Elab.async false
set_option linter.all false
set_option maxRecDepth 100000
set_option maxHeartbeats 4000000
namespace Tw
theorem nodup_le {α : Type} [DecidableEq α] : ∀ {s l : List α}, s.Nodup → (∀ x ∈ s, x ∈ l) → s.length ≤ l.length
  | [], _, _, _ => Nat.zero_le _
  | a :: r, l, h, k => by
    have h1 := List.nodup_cons.mp h
    have h2 := nodup_le (l := l.erase a) h1.2 fun x hx => (List.mem_erase_of_ne (fun e => h1.1 (by rw [← e]; exact hx))).mpr (k x (List.mem_cons_of_mem _ hx))
    have ha := k a List.mem_cons_self
    rw [List.length_erase_of_mem ha] at h2
    have := List.length_pos_of_mem ha
    rw [List.length_cons]
    omega
def itr {α : Type} (f : α → α) : Nat → α → α
  | 0, x => x
  | n + 1, x => f (itr f n x)
theorem itr_add {α : Type} (f : α → α) (x : α) (m : Nat) : ∀ n, itr f (n + m) x = itr f n (itr f m x)
  | 0 => by rw [Nat.zero_add]; rfl
  | n + 1 => by rw [show n + 1 + m = (n + m) + 1 by omega]; show f (itr f (n + m) x) = _; rw [itr_add f x m n]; rfl
section
variable {α : Type} [DecidableEq α] {f : α → α} {L : List α}
/-- f maps L into itself, no two to one -/
structure Inj (f : α → α) (L : List α) : Prop where
  to : ∀ x ∈ L, f x ∈ L
  inj : ∀ x ∈ L, ∀ y ∈ L, f x = f y → x = y
theorem Inj.itr (h : Inj f L) {x : α} (hx : x ∈ L) : ∀ n, itr f n x ∈ L
  | 0 => hx
  | n + 1 => h.to _ (h.itr hx n)
theorem Inj.back (h : Inj f L) {x : α} (hx : x ∈ L) : ∀ (i n : Nat), Tw.itr f (i + n) x = Tw.itr f i x → Tw.itr f n x = x
  | 0, n, e => by rw [Nat.zero_add] at e; exact e
  | i + 1, n, e => by
    refine h.back hx i n ?_
    refine h.inj _ (h.itr hx _) _ (h.itr hx _) ?_
    rw [show i + 1 + n = (i + n) + 1 by omega] at e
    exact e
theorem nodup_of_inj {β : Type} (g : Nat → β) (n : Nat) (h : ∀ i j, i < j → j < n → g i ≠ g j) : ((List.range n).map g).Nodup := by
  rw [List.nodup_iff_pairwise_ne, List.pairwise_map]
  refine List.Pairwise.imp_of_mem (fun {a b} ha hb hab => ?_) (List.pairwise_lt_range (n := n))
  exact h a b hab (List.mem_range.mp hb)
theorem Inj.period (h : Inj f L) {x : α} (hx : x ∈ L) : ∃ k, 1 ≤ k ∧ k ≤ L.length ∧ Tw.itr f k x = x ∧ ∀ j, 1 ≤ j → j < k → Tw.itr f j x ≠ x := by
  classical
  have ex : ∃ k, 1 ≤ k ∧ k ≤ L.length ∧ Tw.itr f k x = x := by
    refine Classical.byContradiction fun no => ?_
    have nd := nodup_of_inj (fun i => Tw.itr f i x) (L.length + 1) fun i j hij hj e => by
      refine no ⟨j - i, by omega, by omega, h.back hx i (j - i) ?_⟩
      rw [show i + (j - i) = j by omega]
      exact e.symm
    have := nodup_le nd fun y hy => by
      obtain ⟨i, _, rfl⟩ := List.mem_map.mp hy
      exact h.itr hx i
    rw [List.length_map, List.length_range] at this
    omega
  have key : ∀ n, (∃ k, k ≤ n ∧ 1 ≤ k ∧ k ≤ L.length ∧ Tw.itr f k x = x) → ∃ k, 1 ≤ k ∧ k ≤ L.length ∧ Tw.itr f k x = x ∧ ∀ j, 1 ≤ j → j < k → Tw.itr f j x ≠ x := by
    intro n
    induction n with
    | zero => rintro ⟨k, h1, h2, _⟩; omega
    | succ n ih =>
      rintro ⟨k, h1, h2, h3, h4⟩
      by_cases q : ∃ j, j < k ∧ 1 ≤ j ∧ Tw.itr f j x = x
      · obtain ⟨j, q1, q2, q3⟩ := q
        exact ih ⟨j, by omega, q2, by omega, q3⟩
      · exact ⟨k, h2, h3, h4, fun j j1 j2 e => q ⟨j, j2, j1, e⟩⟩
  obtain ⟨k, h1, h2, h3⟩ := ex
  exact key k ⟨k, Nat.le_refl _, h1, h2, h3⟩
/-- the orbit, once round -/
def orb (f : α → α) (x : α) (k : Nat) : List α := (List.range k).map fun i => itr f i x
open Classical in
noncomputable def per (f : α → α) (L : List α) (x : α) : Nat := if h : ∃ k, 1 ≤ k ∧ k ≤ L.length ∧ itr f k x = x ∧ ∀ j, 1 ≤ j → j < k → itr f j x ≠ x then h.choose else 0
theorem Inj.perd (h : Inj f L) {x : α} (hx : x ∈ L) : 1 ≤ per f L x ∧ per f L x ≤ L.length ∧ Tw.itr f (per f L x) x = x ∧ ∀ j, 1 ≤ j → j < per f L x → Tw.itr f j x ≠ x := by
  unfold Tw.per
  rw [dif_pos (h.period hx)]
  exact (h.period hx).choose_spec
noncomputable def face (f : α → α) (L : List α) (x : α) : List α := orb f x (per f L x)
theorem Inj.face_nodup (h : Inj f L) {x : α} (hx : x ∈ L) : (face f L x).Nodup := by
  obtain ⟨h1, h2, h3, h4⟩ := h.perd hx
  refine nodup_of_inj _ _ fun i j hij hj e => h4 (j - i) (by omega) (by omega) ?_
  refine h.back hx i (j - i) ?_
  rw [show i + (j - i) = j by omega]
  exact e.symm
theorem Inj.face_sub (h : Inj f L) {x : α} (hx : x ∈ L) : ∀ y ∈ face f L x, y ∈ L := fun y hy => by
  obtain ⟨i, _, rfl⟩ := List.mem_map.mp hy
  exact h.itr hx i
theorem itr_mod {x : α} {k : Nat} (e : itr f k x = x) : ∀ n, itr f (n * k) x = x
  | 0 => by rw [Nat.zero_mul]; rfl
  | n + 1 => by rw [Nat.add_mul, Nat.one_mul, itr_add, e, itr_mod e n]
theorem Inj.mem_face (h : Inj f L) {x : α} (hx : x ∈ L) (n : Nat) : Tw.itr f n x ∈ face f L x := by
  obtain ⟨h1, h2, h3, h4⟩ := h.perd hx
  refine List.mem_map.mpr ⟨n % per f L x, List.mem_range.mpr (Nat.mod_lt _ (by omega)), ?_⟩
  have e : n = n % per f L x + n / per f L x * per f L x := by rw [Nat.mul_comm]; exact (Nat.mod_add_div n _).symm
  show Tw.itr f (n % per f L x) x = Tw.itr f n x
  conv => rhs; rw [e, itr_add, itr_mod h3]
theorem Inj.face_iff (h : Inj f L) {x : α} (hx : x ∈ L) {y : α} : y ∈ face f L x ↔ ∃ n, y = Tw.itr f n x := by
  constructor
  · intro hy
    obtain ⟨i, _, rfl⟩ := List.mem_map.mp hy
    exact ⟨i, rfl⟩
  · rintro ⟨n, rfl⟩
    exact h.mem_face hx n
theorem Inj.self_mem (h : Inj f L) {x : α} (hx : x ∈ L) : x ∈ face f L x := h.mem_face hx 0
/-- one comes back -/
theorem Inj.symm (h : Inj f L) {x y : α} (hx : x ∈ L) (hy : y ∈ face f L x) : x ∈ face f L y := by
  obtain ⟨n, rfl⟩ := (h.face_iff hx).mp hy
  obtain ⟨h1, h2, h3, h4⟩ := h.perd hx
  have hm : n ≤ n * per f L x := Nat.le_mul_of_pos_right _ (by omega)
  refine (h.face_iff (h.itr hx n)).mpr ⟨n * per f L x - n, ?_⟩
  rw [← itr_add, show n * per f L x - n + n = n * per f L x by omega, itr_mod h3]
theorem Inj.trans (h : Inj f L) {x y z : α} (hx : x ∈ L) (hy : y ∈ face f L x) (hz : z ∈ face f L y) : z ∈ face f L x := by
  obtain ⟨n, rfl⟩ := (h.face_iff hx).mp hy
  obtain ⟨m, rfl⟩ := (h.face_iff (h.itr hx n)).mp hz
  rw [← itr_add]
  exact h.mem_face hx _
theorem Inj.same (h : Inj f L) {x y z : α} (hx : x ∈ L) (hy : y ∈ face f L x) : z ∈ face f L y ↔ z ∈ face f L x :=
  ⟨fun hz => h.trans hx hy hz, fun hz => h.trans (h.face_sub hx y hy) (h.symm hx hy) hz⟩
theorem Inj.step_mem (h : Inj f L) {x y : α} (hx : x ∈ L) (hy : y ∈ face f L x) : f y ∈ face f L x := by
  obtain ⟨n, rfl⟩ := (h.face_iff hx).mp hy
  exact h.mem_face hx (n + 1)
end
end Tw
set_option Elab.async false
set_option linter.all false
set_option maxRecDepth 100000
set_option maxHeartbeats 4000000
namespace Tw
open PySem PySem.Spec L2 TL
open PyProof.Rows hiding St
abbrev NE := Nat × Nat
def rowT (rows : RowsT) (r : Nat) : List Str := ((rows[r]?).map (·.2)).getD []
def tie? (rows : RowsT) (e : NE) : Option Str := (rowT rows e.1)[e.2]?
def allE (rows : RowsT) : List NE := (List.range rows.length).flatMap fun r => (List.range (rowT rows r).length).map fun p => (r, p)
def ties (rows : RowsT) : List Str := rows.flatMap (·.2)
def cI (e : NE) : Int × Int := ((e.1 : Int), (e.2 : Int))
theorem cI_inj {a b : NE} (h : cI a = cI b) : a = b := by
  have h1 := congrArg Prod.fst h
  have h2 := congrArg Prod.snd h
  simp only [cI] at h1 h2
  exact Prod.ext (by omega) (by omega)
theorem row_none {rows : RowsT} {r : Nat} (h : rows.length ≤ r) : rowT rows r = [] := by
  unfold rowT
  rw [List.getElem?_eq_none h]
  rfl
theorem row_some {rows : RowsT} {r : Nat} {x : Str × List Str} (h : rows[r]? = some x) : rowT rows r = x.2 := by
  unfold rowT
  rw [h]
  rfl
theorem mem_allE {rows : RowsT} {e : NE} : e ∈ allE rows ↔ e.2 < (rowT rows e.1).length := by
  unfold allE
  rw [List.mem_flatMap]
  constructor
  · rintro ⟨r, hr, h⟩
    obtain ⟨p, hp, rfl⟩ := List.mem_map.mp h
    exact List.mem_range.mp hp
  · intro h
    have hl : e.1 < rows.length := by
      refine Classical.byContradiction fun w => ?_
      rw [row_none (by omega)] at h
      simp at h
    exact ⟨e.1, List.mem_range.mpr hl, List.mem_map.mpr ⟨e.2, List.mem_range.mpr h, rfl⟩⟩
theorem allE_row {rows : RowsT} {e : NE} (h : e ∈ allE rows) : e.1 < rows.length := by
  refine Classical.byContradiction fun w => ?_
  rw [mem_allE, row_none (by omega)] at h
  simp at h
theorem allE_nodup (rows : RowsT) : (allE rows).Nodup := by
  unfold allE
  rw [List.nodup_iff_pairwise_ne, List.flatMap_def, List.pairwise_flatten]
  refine ⟨fun l hl => ?_, ?_⟩
  · obtain ⟨r, _, rfl⟩ := List.mem_map.mp hl
    rw [List.pairwise_map]
    exact (List.nodup_iff_pairwise_ne.mp List.nodup_range).imp fun h e => h (congrArg Prod.snd e)
  · rw [List.pairwise_map]
    refine (List.nodup_iff_pairwise_ne.mp List.nodup_range).imp fun h x hx y hy e => h ?_
    obtain ⟨p, _, rfl⟩ := List.mem_map.mp hx
    obtain ⟨q, _, rfl⟩ := List.mem_map.mp hy
    exact congrArg Prod.fst e
theorem tie_some {rows : RowsT} {e : NE} (h : e ∈ allE rows) : ∃ t, tie? rows e = some t := ⟨_, List.getElem?_eq_getElem (mem_allE.mp h)⟩
theorem tie_mem {rows : RowsT} {e : NE} {t : Str} (h : tie? rows e = some t) : e ∈ allE rows := mem_allE.mpr (List.getElem?_eq_some_iff.mp h).1
theorem map_get {α : Type} (l : List α) : (List.range l.length).map (fun i => l[i]?) = l.map some := by
  refine List.ext_getElem? fun i => ?_
  rw [List.getElem?_map, List.getElem?_map]
  by_cases h : i < l.length
  · rw [List.getElem?_range h, List.getElem?_eq_getElem h]
    show some (l[i]?) = some (some l[i])
    rw [List.getElem?_eq_getElem h]
  · rw [List.getElem?_eq_none (by rw [List.length_range]; omega), List.getElem?_eq_none (by omega)]
    rfl
/-- the ends' ties are the rows' ties -/
theorem allE_ties (rows : RowsT) : (allE rows).map (tie? rows) = (ties rows).map some := by
  unfold allE ties
  rw [List.map_flatMap, List.map_flatMap]
  have h1 : ∀ r, ((List.range (rowT rows r).length).map fun p => (r, p)).map (tie? rows) = (rowT rows r).map some := fun r => by
    rw [List.map_map]
    exact map_get (rowT rows r)
  simp only [h1]
  have h2 : rows = (List.range rows.length).map fun r => ((rows[r]? : Option (Str × List Str))).getD ((Str.ofString "", []) : Str × List Str) := by
    refine List.ext_getElem? fun i => ?_
    rw [List.getElem?_map]
    by_cases h : i < rows.length
    · rw [List.getElem?_range h]
      simp [h]
    · rw [List.getElem?_eq_none (by omega), List.getElem?_eq_none (by rw [List.length_range]; omega)]
      rfl
  conv => rhs; rw [h2, List.flatMap_map]
  rw [List.flatMap_def, List.flatMap_def]
  congr 1
  refine List.map_congr_left fun r hr => ?_
  have := List.mem_range.mp hr
  unfold rowT
  rw [List.getElem?_eq_getElem this]
  rfl
/-- the ends of a tie -/
def seatL (rows : RowsT) (t : Str) : List NE := (allE rows).filter fun e => decide (tie? rows e = some t)
theorem seat_len (rows : RowsT) (t : Str) : (seatL rows t).length = (ties rows).count t := by
  unfold seatL
  rw [← List.countP_eq_length_filter]
  have h1 : List.countP (fun e => decide (tie? rows e = some t)) (allE rows) = ((allE rows).map (tie? rows)).countP fun o => decide (o = some t) := by
    rw [List.countP_map]
    rfl
  rw [h1, allE_ties, List.countP_map, List.count]
  congr 1
  funext u
  show decide (some u = some t) = (u == t)
  by_cases e : u = t <;> simp [e]
theorem mem_seat {rows : RowsT} {t : Str} {e : NE} : e ∈ seatL rows t ↔ tie? rows e = some t := by
  unfold seatL
  rw [List.mem_filter, decide_eq_true_iff]
  exact ⟨fun h => h.2, fun h => ⟨tie_mem h, h⟩⟩
theorem seat_nodup (rows : RowsT) (t : Str) : (seatL rows t).Nodup := (allE_nodup rows).filter _
/-- each tie has two ends -/
def Twice (rows : RowsT) : Prop := ∀ t ∈ ties rows, (ties rows).count t = 2
theorem tie_in {rows : RowsT} {e : NE} {t : Str} (h : tie? rows e = some t) : t ∈ ties rows := by
  have : some t ∈ (allE rows).map (tie? rows) := List.mem_map.mpr ⟨e, tie_mem h, h⟩
  rw [allE_ties] at this
  obtain ⟨u, hu, e⟩ := List.mem_map.mp this
  cases e
  exact hu
theorem seat_two {rows : RowsT} (h : Twice rows) {t : Str} (ht : t ∈ ties rows) : ∃ a b, seatL rows t = [a, b] ∧ a ≠ b := by
  have h1 := seat_len rows t
  rw [h t ht] at h1
  have h2 := seat_nodup rows t
  match hs : seatL rows t with
  | [] => rw [hs] at h1; cases h1
  | [_] => rw [hs] at h1; cases h1
  | [a, b] =>
    rw [hs] at h2
    exact ⟨a, b, rfl, fun e => by rw [e] at h2; simp at h2⟩
  | _ :: _ :: _ :: _ => rw [hs] at h1; simp at h1
/-- the other end of the tie -/
def mate (rows : RowsT) (e : NE) : NE := match tie? rows e with
  | none => e
  | some t => match seatL rows t with
    | [a, b] => if a = e then b else a
    | _ => e
theorem mate_of {rows : RowsT} (h : Twice rows) {e : NE} {t : Str} (ht : tie? rows e = some t) : tie? rows (mate rows e) = some t ∧ mate rows e ≠ e ∧ ∀ d, tie? rows d = some t → d = e ∨ d = mate rows e := by
  obtain ⟨a, b, hs, ne⟩ := seat_two h (tie_in ht)
  have he : e ∈ seatL rows t := mem_seat.mpr ht
  have ha : tie? rows a = some t := mem_seat.mp (by rw [hs]; simp)
  have hb : tie? rows b = some t := mem_seat.mp (by rw [hs]; simp)
  have hd : ∀ d, tie? rows d = some t → d = a ∨ d = b := fun d hd => by
    have := mem_seat.mpr hd
    rw [hs] at this
    simpa using this
  have em : mate rows e = if a = e then b else a := by
    unfold mate
    rw [ht]
    simp only [hs]
  rw [em]
  by_cases ea : a = e
  · rw [if_pos ea]
    exact ⟨hb, fun z => ne (ea.trans z.symm), fun d w => by rcases hd d w with w | w; exact .inl (w.trans ea); exact .inr w⟩
  · rw [if_neg ea]
    have eb : e = b := by rcases hd e ht with w | w; exact absurd w.symm ea; exact w
    exact ⟨ha, ea, fun d w => by rcases hd d w with w | w; exact .inr w; exact .inl (w.trans eb.symm)⟩
theorem mate_mem {rows : RowsT} (h : Twice rows) {e : NE} (he : e ∈ allE rows) : mate rows e ∈ allE rows := by
  obtain ⟨t, ht⟩ := tie_some he
  exact tie_mem (mate_of h ht).1
theorem mate_mate {rows : RowsT} (h : Twice rows) {e : NE} (he : e ∈ allE rows) : mate rows (mate rows e) = e := by
  obtain ⟨t, ht⟩ := tie_some he
  obtain ⟨h1, h2, h3⟩ := mate_of h ht
  obtain ⟨k1, k2, k3⟩ := mate_of h h1
  rcases k3 e ht with w | w
  · exact absurd w.symm h2
  · exact w.symm
/-- round the point -/
def rot (rows : RowsT) (k : Nat) (e : NE) : NE := (e.1, (e.2 + k) % (rowT rows e.1).length)
theorem rot_mem {rows : RowsT} (k : Nat) {e : NE} (h : e ∈ allE rows) : rot rows k e ∈ allE rows := by
  have := mem_allE.mp h
  exact mem_allE.mpr (Nat.mod_lt _ (by omega))
def stp (rows : RowsT) (e : NE) : NE := rot rows 1 (mate rows e)
theorem rot_inj {rows : RowsT} {a b : NE} (ha : a ∈ allE rows) (hb : b ∈ allE rows) (h : rot rows 1 a = rot rows 1 b) : a = b := by
  have h1 : a.1 = b.1 := show (rot rows 1 a).1 = (rot rows 1 b).1 by rw [h]
  have h2 : (a.2 + 1) % (rowT rows a.1).length = (b.2 + 1) % (rowT rows b.1).length := show (rot rows 1 a).2 = (rot rows 1 b).2 by rw [h]
  have h3 := mem_allE.mp ha
  have h4 := mem_allE.mp hb
  rw [← h1] at h2 h4
  refine Prod.ext h1 ?_
  by_cases q1 : a.2 + 1 = (rowT rows a.1).length
  · by_cases q2 : b.2 + 1 = (rowT rows a.1).length
    · omega
    · rw [q1, Nat.mod_self, Nat.mod_eq_of_lt (by omega)] at h2; omega
  · by_cases q2 : b.2 + 1 = (rowT rows a.1).length
    · rw [q2, Nat.mod_self, Nat.mod_eq_of_lt (by omega)] at h2; omega
    · rw [Nat.mod_eq_of_lt (by omega), Nat.mod_eq_of_lt (by omega)] at h2; omega
theorem stp_inj {rows : RowsT} (h : Twice rows) : Inj (stp rows) (allE rows) where
  to := fun e he => rot_mem 1 (mate_mem h he)
  inj := fun a ha b hb e => by
    have := rot_inj (mate_mem h ha) (mate_mem h hb) e
    rw [← mate_mate h ha, this, mate_mate h hb]
end Tw
set_option Elab.async false
set_option linter.all false
set_option maxRecDepth 100000
set_option maxHeartbeats 4000000
namespace Tw
open PySem PySem.Spec L2 TL
open PyProof.Rows hiding St
section
variable {κ α : Type} [DecidableEq κ]
theorem dget_cons {p : κ × α} {l : List (κ × α)} {k : κ} : dget (p :: l) k = if p.1 = k then some p.2 else dget l k := by
  unfold dget
  rw [List.find?_cons]
  by_cases e : p.1 = k <;> simp [e]
theorem dget_append {l m : List (κ × α)} {k : κ} : dget (l ++ m) k = (dget l k).or (dget m k) := by
  induction l with
  | nil => rfl
  | cons p r ih =>
    rw [List.cons_append, dget_cons, dget_cons, ih]
    by_cases e : p.1 = k <;> simp [e]
theorem dget_none {l : List (κ × α)} {k : κ} : dget l k = none ↔ k ∉ l.map (·.1) := by
  unfold dget
  rw [Option.map_eq_none_iff, List.find?_eq_none]
  constructor
  · intro h w
    obtain ⟨p, hp, e⟩ := List.mem_map.mp w
    exact h p hp (decide_eq_true e)
  · intro h p hp w
    exact h (List.mem_map.mpr ⟨p, hp, of_decide_eq_true w⟩)
theorem any_key {l : List (κ × α)} {k : κ} : (l.any fun p => decide (p.1 = k)) = true ↔ k ∈ l.map (·.1) := by
  rw [List.any_eq_true, List.mem_map]
  exact ⟨fun ⟨p, h1, h2⟩ => ⟨p, h1, of_decide_eq_true h2⟩, fun ⟨p, h1, h2⟩ => ⟨p, h1, decide_eq_true h2⟩⟩
theorem dget_dput (l : List (κ × α)) (k k' : κ) (a : α) : dget (dput l k a) k' = if k = k' then some a else dget l k' := by
  unfold dput
  by_cases h : (l.any fun p => decide (p.1 = k)) = true
  · rw [if_pos h]
    have h2 := any_key.mp h
    clear h
    induction l with
    | nil => cases h2
    | cons p r ih =>
      rw [List.map_cons, dget_cons]
      by_cases e : p.1 = k
      · rw [if_pos e]
        by_cases e2 : k = k'
        · rw [if_pos e2, if_pos (e.trans e2)]
        · rw [if_neg e2, if_neg (fun w => e2 (e.symm.trans w)), dget_cons, if_neg (fun w => e2 (e.symm.trans w))]
          by_cases hr : k ∈ r.map (·.1)
          · rw [ih hr, if_neg e2]
          · have : r.map (fun p => if p.1 = k then (p.1, a) else p) = r := by
              conv => rhs; rw [← List.map_id r]
              refine List.map_congr_left fun q hq => ?_
              rw [if_neg (fun w => hr (List.mem_map.mpr ⟨q, hq, w⟩))]
              rfl
            rw [this]
      · rw [if_neg e, dget_cons]
        have hr : k ∈ r.map (·.1) := by
          rcases List.mem_cons.mp h2 with w | w
          · exact absurd w.symm e
          · exact w
        rw [ih hr]
        by_cases e2 : p.1 = k'
        · rw [if_pos e2, if_pos e2, if_neg (fun w => e (e2.trans w.symm))]
        · rw [if_neg e2, if_neg e2]
  · rw [if_neg h, dget_append]
    have hn : k ∉ l.map (·.1) := fun w => h (any_key.mpr w)
    by_cases e : k = k'
    · subst e
      rw [dget_none.mpr hn, if_pos rfl, dget_cons, if_pos rfl]
      rfl
    · rw [if_neg e, dget_cons, if_neg e]
      cases dget l k' <;> rfl
theorem dput_keys (l : List (κ × α)) (k : κ) (a : α) : (dput l k a).map (·.1) = if k ∈ l.map (·.1) then l.map (·.1) else l.map (·.1) ++ [k] := by
  unfold dput
  by_cases h : (l.any fun p => decide (p.1 = k)) = true
  · rw [if_pos h, if_pos (any_key.mp h), List.map_map]
    refine List.map_congr_left fun p hp => ?_
    show (if p.1 = k then (p.1, a) else p).1 = p.1
    split <;> rfl
  · rw [if_neg h, if_neg (fun w => h (any_key.mpr w)), List.map_append]
    rfl
theorem dput_nodup {l : List (κ × α)} {k : κ} {a : α} (h : (l.map (·.1)).Nodup) : ((dput l k a).map (·.1)).Nodup := by
  rw [dput_keys]
  split
  · exact h
  · rename_i hk
    rw [List.nodup_append]
    exact ⟨h, by simp, fun x hx y hy e => hk (by rw [show y = k by simpa using hy] at e; rw [← e]; exact hx)⟩
theorem dput_len (l : List (κ × α)) (k : κ) (a : α) : (dput l k a).length ≤ l.length + 1 := by
  have := congrArg List.length (dput_keys l k a)
  rw [List.length_map] at this
  rw [this]
  split
  · rw [List.length_map]; omega
  · rw [List.length_append, List.length_map]; simp
theorem dput_mem {l : List (κ × α)} {k : κ} {a : α} : ∀ x, x ∈ (dput l k a).map (·.1) ↔ x ∈ l.map (·.1) ∨ x = k := fun x => by
  rw [dput_keys]
  split
  · exact ⟨.inl, fun h => h.elim id fun e => by rw [e]; assumption⟩
  · rw [List.mem_append]; simp
end
theorem snoc_ind {α : Type} {p : List α → Prop} (h0 : p []) (hs : ∀ l a, p l → p (l ++ [a])) (l : List α) : p l := by
  have : ∀ l : List α, p l.reverse := fun l => by
    induction l with
    | nil => exact h0
    | cons a r ih => rw [List.reverse_cons]; exact hs _ a ih
  have h := this l.reverse
  rw [List.reverse_reverse] at h
  exact h
section
variable {κ α : Type} [DecidableEq κ]
def grp (L : List (κ × α)) : List (κ × List α) := L.foldl (fun d p => dapp d p.1 p.2) []
theorem grp_snoc (L : List (κ × α)) (k : κ) (a : α) : grp (L ++ [(k, a)]) = dapp (grp L) k a := by
  unfold grp
  rw [List.foldl_append]
  rfl
def valsOf (L : List (κ × α)) (k : κ) : List α := (L.filter fun p => decide (p.1 = k)).map (·.2)
theorem vals_snoc (L : List (κ × α)) (k k' : κ) (a : α) : valsOf (L ++ [(k, a)]) k' = valsOf L k' ++ (if k = k' then [a] else []) := by
  unfold valsOf
  rw [List.filter_append, List.map_append]
  congr 1
  by_cases e : k = k' <;> simp [e]
theorem dapp_get (d : List (κ × List α)) (k k' : κ) (a : α) : dget (dapp d k a) k' = if k = k' then some ((dget d k).getD [] ++ [a]) else dget d k' := by
  unfold dapp
  cases e : dget d k with
  | some l => rw [dget_dput]; rfl
  | none =>
    rw [dget_append, dget_cons]
    by_cases z : k = k'
    · subst z
      simp [e]
    · simp [z]
      cases dget d k' <;> rfl
theorem grp_get (L : List (κ × α)) (k : κ) : dget (grp L) k = if valsOf L k = [] then none else some (valsOf L k) := by
  refine snoc_ind (p := fun L => dget (grp L) k = if valsOf L k = [] then none else some (valsOf L k)) rfl (fun L p ih => ?_) L
  · obtain ⟨k', a⟩ := p
    rw [grp_snoc, dapp_get, vals_snoc]
    by_cases e : k' = k
    · subst e
      have e2 : ¬ valsOf L k' ++ [a] = [] := fun w => by simp at w
      rw [if_pos rfl, if_pos rfl, if_neg e2, ih]
      by_cases z : valsOf L k' = []
      · rw [if_pos z, z]; rfl
      · rw [if_neg z]; rfl
    · rw [if_neg e, if_neg e, List.append_nil]
      exact ih
theorem dapp_keys (d : List (κ × List α)) (k : κ) (a : α) (h : (d.map (·.1)).Nodup) : ((dapp d k a).map (·.1)).Nodup ∧ (dapp d k a).length ≤ d.length + 1 ∧ ∀ x, x ∈ (dapp d k a).map (·.1) ↔ x ∈ d.map (·.1) ∨ x = k := by
  unfold dapp
  cases e : dget d k with
  | some l => exact ⟨dput_nodup h, dput_len _ _ _, dput_mem⟩
  | none =>
    have hn := dget_none.mp e
    refine ⟨?_, by simp, fun x => by rw [List.map_append, List.mem_append]; simp⟩
    rw [List.map_append, List.nodup_append]
    exact ⟨h, by simp, fun x hx y hy e => hn (by rw [show y = k by simpa using hy] at e; rw [← e]; exact hx)⟩
theorem grp_keys (L : List (κ × α)) : ((grp L).map (·.1)).Nodup ∧ (grp L).length ≤ L.length ∧ ∀ x, x ∈ (grp L).map (·.1) ↔ x ∈ L.map (·.1) := by
  refine snoc_ind (p := fun L => ((grp L).map (·.1)).Nodup ∧ (grp L).length ≤ L.length ∧ ∀ x, x ∈ (grp L).map (·.1) ↔ x ∈ L.map (·.1)) ⟨.nil, Nat.le_refl _, fun _ => Iff.rfl⟩ (fun L p ih => ?_) L
  · obtain ⟨k', a⟩ := p
    rw [grp_snoc]
    obtain ⟨h1, h2, h3⟩ := dapp_keys (grp L) k' a ih.1
    refine ⟨h1, by rw [List.length_append]; have := ih.2.1; simp; omega, fun x => ?_⟩
    rw [h3, ih.2.2, List.map_append, List.mem_append]
    simp
theorem vals_len (L : List (κ × α)) (k : κ) : (valsOf L k).length ≤ L.length := by
  unfold valsOf
  rw [List.length_map]
  exact List.length_filter_le _ _
/-- what the step of a group asks -/
theorem grp_side (L : List (κ × α)) (k : κ) (h : L.length ≤ 1000) : ((grp L).map (·.1)).Nodup ∧ (grp L).length < sizeLine ∧ ∀ l, dget (grp L) k = some l → l.length < sizeLine := by
  refine ⟨(grp_keys L).1, line_lt (Nat.le_trans (grp_keys L).2.1 (by omega)), fun l hl => ?_⟩
  rw [grp_get] at hl
  split at hl
  · cases hl
  · cases hl
    exact line_lt (Nat.le_trans (vals_len L k) (by omega))
end
abbrev n__law_seats : List Str := ["_law_rows", "_law_seats_here", "_law_r", "_law_place"]
noncomputable def F__law_seats (p0 : (List (Str × (List Str)))) : M (Dk Str (List (Int × Int))) :=
  (M.b (M.b (M.chk (-(2 ^ 62) ≤ ((p0.length : Nat) : Int) ∧ ((p0.length : Nat) : Int) < 2 ^ 62) (M.ok (rng 0 ((p0.length : Nat) : Int)))) fun x15 => (M.for_ (fun (s2 : (List (Str × (List (Int × Int))))) (x3 : Int) => (M.b (M.b (M.b (M.b (M.b (M.get (atI p0 x3)) fun x4 => (M.ok x4.2)) fun x5 => (M.ok ((x5.length : Nat) : Int))) fun x6 => (M.chk (-(2 ^ 62) ≤ x6 ∧ x6 < 2 ^ 62) (M.ok (rng 0 x6)))) fun x13 => (M.for_ (fun (s7 : (List (Str × (List (Int × Int))))) (x8 : Int) => (M.b (M.b (M.b (M.get (atI p0 x3)) fun x9 => (M.ok x9.2)) fun x10 => (M.get (atI x10 x8))) fun k11 => M.chk ((s7.map (·.1)).Nodup ∧ s7.length < sizeLine ∧ ∀ l, dget s7 k11 = some l → l.length < sizeLine) (M.b (M.ok (x3, x8)) fun a12 => (M.ok (dapp s7 k11 a12))))) x13 s2)) fun s14 => (M.ok s14))) x15 ([] : List (Str × (List (Int × Int)))))) fun s16 => (M.ok (⟨s16⟩ : (Dk Str (List (Int × Int))))))
def sp__law_seats (G : Gb) : Sp := spA G (fun (p : (List (Str × (List Str)))) => [.bw p]) (rpN G) (fun (p : (List (Str × (List Str)))) => F__law_seats p)
def t__law_seats (G : Gb) : TS :=
  (tSeq (tAsg tDNewK (gName 1)) (tSeq (tFor (iRng1 (tCons (tCB (qLenQ G.K) (tCons (tVar 0) tNil)) tNil)) (gName 2)
  (tFor (iRng1 (tCons (tCB (qLenQ G.K) (tCons (tOp (rIxT G.K) (tOp (rIxL G.K) (tVar 0) (tVar 2)) (tC (.int 1))) tNil)) tNil)) (gName 3)
  (tDrop (tBM G.K "list" rAppend (tDSetd (tVar 1) (tOp (rIxL G.K) (tOp (rIxT G.K) (tOp (rIxL G.K) (tVar 0) (tVar 2)) (tC (.int 1))) (tVar 3)) (tLst tNil)) (tCons (tTup (tCons (tVar 2) (tCons (tVar 3) tNil))) tNil)))))
  (tRet (tVar 1))))
theorem len__law_seats {G : Gb} (vs : List V) (H : Hp) (Q : VK) (E : XK) (h : sp__law_seats G vs H Q E) : vs.length = 1 := spA_len h fun _ => rfl
theorem rn__law_seats {G : Gb} {B : Hp} {E : XK} (p0 : (List (Str × (List Str)))) : Run G B E (oR G B (rpN G)) [some (.bw p0), none, none, none] (t__law_seats G) (F__law_seats p0) := by
  have h : Run G B E (oR G B (rpN G)) [some (.bw p0), none, none, none] (t__law_seats G) _ := (run_ddNew (κ := Str) (α := (Int × Int)) (fun q1 => (run_seq (EX := fun (s : (List (Str × (List (Int × Int))))) => [some (.bw p0), some (.dd q1 s), none, none]) (run_for (bind := fun (x : Int) (r : Evr) => (r.set 2 (some (.fz x)))) (s0 := ([] : List (Str × (List (Int × Int))))) (ew_rng1 (ev_len (mr := .F) (ev_bw rfl)) tg_S) (.keep (.keep (.drop (.drop Wk.nil)))) (fun s2 x3 => (run_last (run_seq (EX := fun (s : (List (Str × (List (Int × Int))))) => [some (.bw p0), some (.dd q1 s), some (.fz x3), none]) (run_for (bind := fun (x : Int) (r : Evr) => (r.set 3 (some (.fz x)))) (s0 := s2) (ew_rng1 (ev_len (mr := .F) (ev_p2 (ev_ix (ev_bw rfl) (ev_fz rfl)))) tg_S) (.keep (.keep (.keep (.drop Wk.nil)))) (fun s7 x8 => (run_last (run_setApp rfl (ev_ix (ev_p2 (ev_ix (ev_bw rfl) (ev_fz rfl))) (ev_fz rfl)) (ev_pair (ev_fz rfl) (ev_fz rfl)) (fun k11 a12 => (run_next (s := (dapp s7 k11 a12)) (.keep (.keep (.keep (.drop Wk.nil)))))))))) (fun s14 => (run_next (s := s14) (.keep (.keep (.drop (.drop Wk.nil)))))))))) (fun s16 => (run_retQ rfl)))))
  exact h
theorem run__law_seats {G : Gb} {vs : List V} {H : Hp} {Q : VK} {E : XK} (h : sp__law_seats G vs H Q E) : t__law_seats G (dEnd Q) (start n__law_seats vs) H := spA_run (n := 3) h (fun _ => rfl) fun p B => rn__law_seats p
abbrev n__law_other : List Str := ["_law_rows", "_law_seats_here", "_law_end", "_law_pair"]
noncomputable def F__law_other (p0 : (List (Str × (List Str)))) (p1 : (Dk Str (List (Int × Int)))) (p2 : (Int × Int)) : M (Int × Int) :=
  (M.b (M.b (M.b (M.b (M.get (atI p0 p2.1)) fun x1 => (M.ok x1.2)) fun x2 => (M.get (atI x2 p2.2))) fun x3 => (M.get (dget p1.l x3))) fun v4 => (M.b (M.b (M.b (M.get (atI v4 (0 : Int))) fun x5 => (M.chk (Dd.Ok x5 ∧ Dd.Ok p2) (M.ok (decide (x5 = p2))))) fun x6 => (M.ok (if x6 = true then (1 : Int) else 0))) fun x7 => (M.get (atI v4 x7))))
def sp__law_other (G : Gb) : Sp := spA G (fun (p : (List (Str × (List Str))) × (Dk Str (List (Int × Int))) × (Int × Int)) => [.bw (p.1), .fz (p.2.1), .bw (p.2.2)]) (rpF G) (fun (p : (List (Str × (List Str))) × (Dk Str (List (Int × Int))) × (Int × Int)) => F__law_other (p.1) (p.2.1) (p.2.2))
def t__law_other (G : Gb) : TS :=
  (tSeq (tAsg (tDGet (tVar 1) (tOp (rIxL G.K) (tOp (rIxT G.K) (tOp (rIxL G.K) (tVar 0) (tOp (rIxT G.K) (tVar 2) (tC (.int 0)))) (tC (.int 1))) (tOp (rIxT G.K) (tVar 2) (tC (.int 1))))) (gName 3)) (tRet (tOp (rIxL G.K) (tVar 3) (tCB qInt1 (tCons (tOp (rEqD G.K) (tOp (rIxL G.K) (tVar 3) (tC (.int 0))) (tVar 2)) tNil)))))
theorem len__law_other {G : Gb} (vs : List V) (H : Hp) (Q : VK) (E : XK) (h : sp__law_other G vs H Q E) : vs.length = 3 := spA_len h fun _ => rfl
theorem rn__law_other {G : Gb} {B : Hp} {E : XK} (p0 : (List (Str × (List Str)))) (p1 : (Dk Str (List (Int × Int)))) (p2 : (Int × Int)) : Run G B E (oR G B (rpF G)) [some (.bw p0), some (.fz p1), some (.bw p2), none] (t__law_other G) (F__law_other p0 p1 p2) := by
  have h : Run G B E (oR G B (rpF G)) [some (.bw p0), some (.fz p1), some (.bw p2), none] (t__law_other G) _ := (run_asg (bind := fun (x : (List (Int × Int))) (r : Evr) => (r.set 3 (some (.fz x)))) (ev_dgetK (ev_fz rfl) (ev_ix (ev_p2 (ev_ix (ev_bw rfl) (ev_p1 (ev_bw rfl)))) (ev_p2 (ev_bw rfl)))) tg_F (fun v4 => (run_ret (ev_ix (ev_fz rfl) (ev_intB (mr := .F) (ev_eqD (mr := .F) (by decide) (ev_ix (ev_fz rfl) (ev_int (md := .F))) (ev_bw rfl)))))))
  exact h
theorem run__law_other {G : Gb} {vs : List V} {H : Hp} {Q : VK} {E : XK} (h : sp__law_other G vs H Q E) : t__law_other G (dEnd Q) (start n__law_other vs) H := spA_run (n := 1) h (fun _ => rfl) fun p B => rn__law_other (p.1) (p.2.1) (p.2.2)
abbrev n__law_step : List Str := ["_law_rows", "_law_seats_here", "_law_end", "_law_turn", "_law_other_here"]
noncomputable def F__law_step (p0 : (List (Str × (List Str)))) (p1 : (Dk Str (List (Int × Int)))) (p2 : (Int × Int)) (p3 : Int) : M (Int × Int) :=
  (M.b (M.cl (F__law_other p0 p1 p2)) fun v1 => (M.b (M.b (M.b (M.b (M.get (atI p0 v1.1)) fun x2 => (M.ok x2.2)) fun x3 => (M.ok ((x3.length : Nat) : Int))) fun x4 => (M.chk (CPos (v1.2 + p3) x4) (M.ok ((v1.2 + p3) % x4)))) fun x5 => (M.ok (v1.1, x5))))
def sp__law_step (G : Gb) : Sp := spA G (fun (p : (List (Str × (List Str))) × (Dk Str (List (Int × Int))) × (Int × Int) × Int) => [.bw (p.1), .fz (p.2.1), .bw (p.2.2.1), .fz (p.2.2.2)]) (rpF G) (fun (p : (List (Str × (List Str))) × (Dk Str (List (Int × Int))) × (Int × Int) × Int) => F__law_step (p.1) (p.2.1) (p.2.2.1) (p.2.2.2))
def t__law_step (G : Gb) : TS :=
  (tSeq (tAsg (tCall (sp__law_other G) [] E0 (tCons (tVar 0) (tCons (tVar 1) (tCons (tVar 2) tNil)))) (gName 4)) (tRet (tTup (tCons (tOp (rIxT G.K) (tVar 4) (tC (.int 0))) (tCons (tOp qMod (tOp qAdd (tOp (rIxT G.K) (tVar 4) (tC (.int 1))) (tVar 3)) (tCB (qLenQ G.K) (tCons (tOp (rIxT G.K) (tOp (rIxL G.K) (tVar 0) (tOp (rIxT G.K) (tVar 4) (tC (.int 0)))) (tC (.int 1))) tNil))) tNil)))))
theorem len__law_step {G : Gb} (vs : List V) (H : Hp) (Q : VK) (E : XK) (h : sp__law_step G vs H Q E) : vs.length = 4 := spA_len h fun _ => rfl
theorem rn__law_step {G : Gb} {B : Hp} {E : XK} (p0 : (List (Str × (List Str)))) (p1 : (Dk Str (List (Int × Int)))) (p2 : (Int × Int)) (p3 : Int) : Run G B E (oR G B (rpF G)) [some (.bw p0), some (.fz p1), some (.bw p2), some (.fz p3), none] (t__law_step G) (F__law_step p0 p1 p2 p3) := by
  have h : Run G B E (oR G B (rpF G)) [some (.bw p0), some (.fz p1), some (.bw p2), some (.fz p3), none] (t__law_step G) _ := (run_asg (bind := fun (x : (Int × Int)) (r : Evr) => (r.set 4 (some (.fz x)))) (ev_call3 (f := F__law_other) (ev_bw rfl) ps_B (ev_fz rfl) ps_F (ev_bw rfl) ps_B) tg_F (fun v1 => (run_ret (ev_pair (ev_p1 (ev_fz rfl)) (ev_mod (mr := .F) (ev_add (mr := .F) (ev_p2 (ev_fz rfl)) (ev_fz rfl)) (ev_len (mr := .F) (ev_p2 (ev_ix (ev_bw rfl) (ev_p1 (ev_fz rfl))))))))))
  exact h
theorem run__law_step {G : Gb} {vs : List V} {H : Hp} {Q : VK} {E : XK} (h : sp__law_step G vs H Q E) : t__law_step G (dEnd Q) (start n__law_step vs) H := spA_run (n := 1) h (fun _ => rfl) fun p B => rn__law_step (p.1) (p.2.1) (p.2.2.1) (p.2.2.2)
abbrev n__law_face : List Str := ["_law_rows", "_law_seats_here", "_law_end", "_law_face_here", "_law_here"]
noncomputable def F__law_face (p0 : (List (Str × (List Str)))) (p1 : (Dk Str (List (Int × Int)))) (p2 : (Int × Int)) : M (List (Int × Int)) :=
  (M.b (M.chk ((p2 :: []).length ≤ sizeLine) (M.ok (p2 :: []))) fun v1 => (M.b (M.cl (F__law_step p0 p1 p2 (1 : Int))) fun v2 => (M.b (M.wh (fun (s3 : (List (Int × Int)) × (Int × Int)) => (M.chk (Dd.Ok s3.2 ∧ Dd.Ok p2) (M.ok (!decide (s3.2 = p2))))) (fun (s3 : (List (Int × Int)) × (Int × Int)) => (M.b (M.ok s3.2) fun a4 => M.chk (s3.1.length < sizeLine) (M.b (M.cl (F__law_step p0 p1 s3.2 (1 : Int))) fun v5 => (M.ok ((s3.1 ++ [a4]), v5))))) (v1, v2)) fun s6 => (M.ok s6.1))))
def sp__law_face (G : Gb) : Sp := spA G (fun (p : (List (Str × (List Str))) × (Dk Str (List (Int × Int))) × (Int × Int)) => [.bw (p.1), .fz (p.2.1), .fz (p.2.2)]) (rpN G) (fun (p : (List (Str × (List Str))) × (Dk Str (List (Int × Int))) × (Int × Int)) => F__law_face (p.1) (p.2.1) (p.2.2))
def t__law_face (G : Gb) : TS :=
  (tSeq (tAsg (tLst (tCons (tVar 2) tNil)) (gName 3)) (tSeq (tAsg (tCall (sp__law_step G) [] E0 (tCons (tVar 0) (tCons (tVar 1) (tCons (tVar 2) (tCons (tC (.int 1)) tNil))))) (gName 4)) (tSeq (tWhile (tTest (tOp (rNeD G.K) (tVar 4) (tVar 2)))
  (tSeq (tDrop (tBM G.K "list" rAppend (tVar 3) (tCons (tVar 4) tNil))) (tAsg (tCall (sp__law_step G) [] E0 (tCons (tVar 0) (tCons (tVar 1) (tCons (tVar 4) (tCons (tC (.int 1)) tNil))))) (gName 4))))
  (tRet (tVar 3)))))
theorem len__law_face {G : Gb} (vs : List V) (H : Hp) (Q : VK) (E : XK) (h : sp__law_face G vs H Q E) : vs.length = 3 := spA_len h fun _ => rfl
theorem rn__law_face {G : Gb} {B : Hp} {E : XK} (p0 : (List (Str × (List Str)))) (p1 : (Dk Str (List (Int × Int)))) (p2 : (Int × Int)) : Run G B E (oR G B (rpN G)) [some (.bw p0), some (.fz p1), some (.fz p2), none, none] (t__law_face G) (F__law_face p0 p1 p2) := by
  have h : Run G B E (oR G B (rpN G)) [some (.bw p0), some (.fz p1), some (.fz p2), none, none] (t__law_face G) _ := (run_asgN (en_lst (el_cons (ev_fz rfl) (el_nil (α := (Int × Int))))) (fun v1 => (run_asg (bind := fun (x : (Int × Int)) (r : Evr) => (r.set 4 (some (.fz x)))) (ev_call4 (f := F__law_step) (ev_bw rfl) ps_B (ev_fz rfl) ps_F (ev_fz rfl) ps_B (ev_int (md := .F)) ps_F) tg_F (fun v2 => (run_seq (EX := fun (s : (List (Int × Int)) × (Int × Int)) => [some (.bw p0), some (.fz p1), some (.fz p2), some (.ow s.1), some (.fz s.2)]) (run_while (s0 := (v1, v2)) (fun s3 => (evT_T (ev_neD (mr := .F) (by decide) (ev_fz rfl) (ev_fz rfl)))) (.keep (.keep (.keep (.keep (.keep Wk.nil))))) (fun s3 => (run_append rfl (ev_fz rfl) (fun a4 => (run_last (run_asg (bind := fun (x : (Int × Int)) (r : Evr) => (r.set 4 (some (.fz x)))) (ev_call4 (f := F__law_step) (ev_bw rfl) ps_B (ev_fz rfl) ps_F (ev_fz rfl) ps_B (ev_int (md := .F)) ps_F) tg_F (fun v5 => (run_next (s := ((s3.1 ++ [a4]), v5)) (.keep (.keep (.keep (.keep (.keep Wk.nil))))))))))))) (fun s6 => (run_retO rfl)))))))
  exact h
theorem run__law_face {G : Gb} {vs : List V} {H : Hp} {Q : VK} {E : XK} (h : sp__law_face G vs H Q E) : t__law_face G (dEnd Q) (start n__law_face vs) H := spA_run (n := 2) h (fun _ => rfl) fun p B => rn__law_face (p.1) (p.2.1) (p.2.2)
def tieD (rows : RowsT) (e : NE) : Str := (tie? rows e).getD (Str.ofString "")
def endL (rows : RowsT) : List (Str × (Int × Int)) := (allE rows).map fun e => (tieD rows e, cI e)
theorem at_row {rows : RowsT} {r : Nat} (h : r < rows.length) : ∃ x, atI rows (r : Int) = some x ∧ x.2 = rowT rows r := ⟨rows[r], atI_nat (List.getElem?_eq_getElem h), (row_some (List.getElem?_eq_getElem h)).symm⟩
theorem at_tie {rows : RowsT} {e : NE} (h : e ∈ allE rows) : atI (rowT rows e.1) (e.2 : Int) = some (tieD rows e) := by
  refine atI_nat ?_
  obtain ⟨t, ht⟩ := tie_some h
  unfold tieD
  rw [ht]
  exact ht
/-- a net that is small -/
def Sm (rows : RowsT) : Prop := rows.length ≤ 200 ∧ (allE rows).length ≤ 800
theorem pre_len {rows : RowsT} (r p : Nat) (hr : r < rows.length) (hp : p ≤ (rowT rows r).length) : ((List.range r).flatMap fun r => (List.range (rowT rows r).length).map fun p => (tieD rows (r, p), cI (r, p))).length + p ≤ (allE rows).length := by
  unfold allE
  have h1 : ∀ n, ((List.range n).flatMap fun r => (List.range (rowT rows r).length).map fun p => (tieD rows (r, p), cI (r, p))).length = ((List.range n).flatMap fun r => (List.range (rowT rows r).length).map fun p => (r, p)).length := fun n => by
    rw [List.length_flatMap, List.length_flatMap]
    congr 1
    refine List.map_congr_left fun r _ => ?_
    simp
  rw [h1]
  have h2 : ∀ n, r < n → ((List.range r).flatMap fun r => (List.range (rowT rows r).length).map fun p => (r, p)).length + (rowT rows r).length ≤ ((List.range n).flatMap fun r => (List.range (rowT rows r).length).map fun p => (r, p)).length := by
    intro n
    induction n with
    | zero => omega
    | succ n ih =>
      intro hn
      rw [List.range_succ, List.flatMap_append, List.length_append]
      by_cases e : r = n
      · subst e; simp
      · have := ih (by omega); omega
  have := h2 rows.length hr
  omega
theorem seats_ok {rows : RowsT} (h : Sm rows) : F__law_seats rows = .ok ⟨grp (endL rows)⟩ := by
  refine M.T_is ?_
  unfold F__law_seats
  have hl := h.1
  refine M.T_b (M.T_b (M.T_chk (rng_side (by omega)) (M.T_ok ?_)))
  let pre : Nat → List (Str × (Int × Int)) := fun n => (List.range n).flatMap fun r => (List.range (rowT rows r).length).map fun p => (tieD rows (r, p), cI (r, p))
  refine M.T_rng (fun i (s : List (Str × List (Int × Int))) => s = grp (pre i)) rfl (fun r s hr e => ?_) fun s e => ?_
  · subst e
    have hr' : r < rows.length := by omega
    obtain ⟨x, ex, ex2⟩ := at_row hr'
    rw [ex]
    have hlen : (rowT rows r).length ≤ 1000 := by
      have := pre_len r (rowT rows r).length hr' (Nat.le_refl _)
      have := h.2
      omega
    (repeat' (first | with_reducible refine M.T_b ?_ | with_reducible refine M.T_ok ?_ | (with_reducible refine M.T_chk ?hc ?_; (case hc => (first | assumption | exact cpos (by omega) | exact cdiv (by omega) (by omega) | exact rng_side (by omega) | (unfold CPow; decide) | decide | omega))) | with_reducible refine M.T_cl ?_ | with_reducible refine M.T_orRl ?_ | with_reducible refine M.T_orRr ?_))
    refine M.T_get rfl ?_
    (repeat' (first | with_reducible refine M.T_b ?_ | with_reducible refine M.T_ok ?_ | (with_reducible refine M.T_chk ?hc ?_; (case hc => (first | assumption | exact cpos (by omega) | exact cdiv (by omega) (by omega) | exact rng_side (by omega) | (unfold CPow; decide) | decide | omega))) | with_reducible refine M.T_cl ?_ | with_reducible refine M.T_orRl ?_ | with_reducible refine M.T_orRr ?_))
    rw [ex2]
    refine M.T_chk (rng_side (by omega)) ?_
    (repeat' (first | with_reducible refine M.T_b ?_ | with_reducible refine M.T_ok ?_ | (with_reducible refine M.T_chk ?hc ?_; (case hc => (first | assumption | exact cpos (by omega) | exact cdiv (by omega) (by omega) | exact rng_side (by omega) | (unfold CPow; decide) | decide | omega))) | with_reducible refine M.T_cl ?_ | with_reducible refine M.T_orRl ?_ | with_reducible refine M.T_orRr ?_))
    refine M.T_rng (fun i (s : List (Str × List (Int × Int))) => s = grp (pre r ++ (List.range i).map fun p => (tieD rows (r, p), cI (r, p)))) (by simp) (fun p s hp e => ?_) fun s e => ?_
    · subst e
      have hp' : p < (rowT rows r).length := by omega
      have hpl := pre_len r p hr' (by omega)
      have hE : ((r, p) : NE) ∈ allE rows := mem_allE.mpr hp'
      (repeat' (first | with_reducible refine M.T_b ?_ | with_reducible refine M.T_ok ?_ | (with_reducible refine M.T_chk ?hc ?_; (case hc => (first | assumption | exact cpos (by omega) | exact cdiv (by omega) (by omega) | exact rng_side (by omega) | (unfold CPow; decide) | decide | omega))) | with_reducible refine M.T_cl ?_ | with_reducible refine M.T_orRl ?_ | with_reducible refine M.T_orRr ?_))
      refine M.T_get rfl ?_
      (repeat' (first | with_reducible refine M.T_b ?_ | with_reducible refine M.T_ok ?_ | (with_reducible refine M.T_chk ?hc ?_; (case hc => (first | assumption | exact cpos (by omega) | exact cdiv (by omega) (by omega) | exact rng_side (by omega) | (unfold CPow; decide) | decide | omega))) | with_reducible refine M.T_cl ?_ | with_reducible refine M.T_orRl ?_ | with_reducible refine M.T_orRr ?_))
      rw [ex2]
      refine M.T_get (at_tie hE) ?_
      refine M.T_chk (grp_side _ _ ?_) ?_
      · rw [List.length_append, List.length_map, List.length_range]
        have := h.2
        show (pre r).length + p ≤ 1000
        have : (pre r).length + p ≤ (allE rows).length := hpl
        omega
      (repeat' (first | with_reducible refine M.T_b ?_ | with_reducible refine M.T_ok ?_ | (with_reducible refine M.T_chk ?hc ?_; (case hc => (first | assumption | exact cpos (by omega) | exact cdiv (by omega) (by omega) | exact rng_side (by omega) | (unfold CPow; decide) | decide | omega))) | with_reducible refine M.T_cl ?_ | with_reducible refine M.T_orRl ?_ | with_reducible refine M.T_orRr ?_))
      rw [List.range_succ, List.map_append, ← List.append_assoc]
      exact (grp_snoc _ _ _).symm
    · (repeat' (first | with_reducible refine M.T_b ?_ | with_reducible refine M.T_ok ?_ | (with_reducible refine M.T_chk ?hc ?_; (case hc => (first | assumption | exact cpos (by omega) | exact cdiv (by omega) (by omega) | exact rng_side (by omega) | (unfold CPow; decide) | decide | omega))) | with_reducible refine M.T_cl ?_ | with_reducible refine M.T_orRl ?_ | with_reducible refine M.T_orRr ?_))
      rw [e]
      show grp _ = grp _
      congr 1
      show _ = (List.range (r + 1)).flatMap _
      rw [List.range_succ, List.flatMap_append]
      simp [pre]
  · (repeat' (first | with_reducible refine M.T_b ?_ | with_reducible refine M.T_ok ?_ | (with_reducible refine M.T_chk ?hc ?_; (case hc => (first | assumption | exact cpos (by omega) | exact cdiv (by omega) (by omega) | exact rng_side (by omega) | (unfold CPow; decide) | decide | omega))) | with_reducible refine M.T_cl ?_ | with_reducible refine M.T_orRl ?_ | with_reducible refine M.T_orRr ?_))
    rw [e, show ((rows.length : Nat) : Int).toNat = rows.length by omega]
    congr 2
    unfold endL allE
    rw [List.map_flatMap]
    simp only [List.map_map]
    rfl
theorem vals_end {rows : RowsT} {t : Str} : valsOf (endL rows) t = (if t ∈ ties rows then seatL rows t else []).map cI := by
  unfold valsOf endL
  rw [List.filter_map, List.map_map]
  split
  · rename_i h
    unfold seatL
    have : (fun p : Str × (Int × Int) => decide (p.1 = t)) ∘ (fun e => (tieD rows e, cI e)) = fun e => decide (tieD rows e = t) := rfl
    rw [this]
    have h2 : (allE rows).filter (fun e => decide (tieD rows e = t)) = (allE rows).filter fun e => decide (tie? rows e = some t) := by
      refine List.filter_congr fun e he => ?_
      obtain ⟨u, hu⟩ := tie_some he
      unfold tieD
      rw [hu]
      by_cases z : u = t <;> simp [z]
    rw [h2]
    rfl
  · rename_i h
    rw [List.filter_eq_nil_iff.mpr]
    · rfl
    · intro e he w
      obtain ⟨u, hu⟩ := tie_some he
      have w2 : tieD rows e = t := of_decide_eq_true w
      unfold tieD at w2
      rw [hu] at w2
      exact h (by rw [← w2]; exact tie_in hu)
theorem okI (e : Int × Int) : Dd.Ok e := ⟨trivial, trivial⟩
theorem other_ok {rows : RowsT} (h : Twice rows) {e : NE} (he : e ∈ allE rows) : F__law_other rows ⟨grp (endL rows)⟩ (cI e) = .ok (cI (mate rows e)) := by
  refine M.T_is ?_
  unfold F__law_other
  obtain ⟨t, ht⟩ := tie_some he
  obtain ⟨x, ex, ex2⟩ := at_row (allE_row he)
  obtain ⟨a, b, hs, ne⟩ := seat_two h (tie_in ht)
  have et : tieD rows e = t := by unfold tieD; rw [ht]; rfl
  have eg : dget (grp (endL rows)) t = some [cI a, cI b] := by
    rw [grp_get, vals_end, if_pos (tie_in ht), hs]
    rfl
  have em : mate rows e = if a = e then b else a := by
    unfold mate
    rw [ht]
    simp only [hs]
  (repeat' (first | with_reducible refine M.T_b ?_ | with_reducible refine M.T_ok ?_ | (with_reducible refine M.T_chk ?hc ?_; (case hc => (first | assumption | exact cpos (by omega) | exact cdiv (by omega) (by omega) | exact rng_side (by omega) | (unfold CPow; decide) | decide | omega))) | with_reducible refine M.T_cl ?_ | with_reducible refine M.T_orRl ?_ | with_reducible refine M.T_orRr ?_))
  refine M.T_get ex ?_
  (repeat' (first | with_reducible refine M.T_b ?_ | with_reducible refine M.T_ok ?_ | (with_reducible refine M.T_chk ?hc ?_; (case hc => (first | assumption | exact cpos (by omega) | exact cdiv (by omega) (by omega) | exact rng_side (by omega) | (unfold CPow; decide) | decide | omega))) | with_reducible refine M.T_cl ?_ | with_reducible refine M.T_orRl ?_ | with_reducible refine M.T_orRr ?_))
  rw [ex2]
  refine M.T_get (at_tie he) ?_
  rw [et]
  refine M.T_get eg ?_
  (repeat' (first | with_reducible refine M.T_b ?_ | with_reducible refine M.T_ok ?_ | (with_reducible refine M.T_chk ?hc ?_; (case hc => (first | assumption | exact cpos (by omega) | exact cdiv (by omega) (by omega) | exact rng_side (by omega) | (unfold CPow; decide) | decide | omega))) | with_reducible refine M.T_cl ?_ | with_reducible refine M.T_orRl ?_ | with_reducible refine M.T_orRr ?_))
  refine M.T_get (a := cI a) rfl ?_
  refine M.T_chk ⟨okI _, okI _⟩ ?_
  (repeat' (first | with_reducible refine M.T_b ?_ | with_reducible refine M.T_ok ?_ | (with_reducible refine M.T_chk ?hc ?_; (case hc => (first | assumption | exact cpos (by omega) | exact cdiv (by omega) (by omega) | exact rng_side (by omega) | (unfold CPow; decide) | decide | omega))) | with_reducible refine M.T_cl ?_ | with_reducible refine M.T_orRl ?_ | with_reducible refine M.T_orRr ?_))
  by_cases z : a = e
  · rw [if_pos (decide_eq_true (by rw [z]))]
    refine M.T_get (a := cI b) rfl ?_
    rw [em, if_pos z]
  · rw [if_neg (fun w => z (cI_inj (of_decide_eq_true w)))]
    refine M.T_get (a := cI a) rfl ?_
    rw [em, if_neg z]
theorem step_ok {rows : RowsT} (h : Twice rows) {e : NE} (he : e ∈ allE rows) : F__law_step rows ⟨grp (endL rows)⟩ (cI e) 1 = .ok (cI (stp rows e)) := by
  refine M.T_is ?_
  unfold F__law_step
  rw [other_ok h he]
  have hm := mate_mem h he
  obtain ⟨x, ex, ex2⟩ := at_row (allE_row hm)
  have hp := mem_allE.mp hm
  (repeat' (first | with_reducible refine M.T_b ?_ | with_reducible refine M.T_ok ?_ | (with_reducible refine M.T_chk ?hc ?_; (case hc => (first | assumption | exact cpos (by omega) | exact cdiv (by omega) (by omega) | exact rng_side (by omega) | (unfold CPow; decide) | decide | omega))) | with_reducible refine M.T_cl ?_ | with_reducible refine M.T_orRl ?_ | with_reducible refine M.T_orRr ?_))
  refine M.T_get ex ?_
  (repeat' (first | with_reducible refine M.T_b ?_ | with_reducible refine M.T_ok ?_ | (with_reducible refine M.T_chk ?hc ?_; (case hc => (first | assumption | exact cpos (by omega) | exact cdiv (by omega) (by omega) | exact rng_side (by omega) | (unfold CPow; decide) | decide | omega))) | with_reducible refine M.T_cl ?_ | with_reducible refine M.T_orRl ?_ | with_reducible refine M.T_orRr ?_))
  rw [ex2]
  refine M.T_chk (cpos (by omega)) ?_
  (repeat' (first | with_reducible refine M.T_b ?_ | with_reducible refine M.T_ok ?_ | (with_reducible refine M.T_chk ?hc ?_; (case hc => (first | assumption | exact cpos (by omega) | exact cdiv (by omega) (by omega) | exact rng_side (by omega) | (unfold CPow; decide) | decide | omega))) | with_reducible refine M.T_cl ?_ | with_reducible refine M.T_orRl ?_ | with_reducible refine M.T_orRr ?_))
  unfold stp rot cI
  refine Prod.ext rfl ?_
  show (((mate rows e).2 : Int) + 1) % ((rowT rows (mate rows e).1).length : Int) = ((((mate rows e).2 + 1) % (rowT rows (mate rows e).1).length : Nat) : Int)
  norm_cast
noncomputable def faceE (rows : RowsT) (e : NE) : List NE := face (stp rows) (allE rows) e
theorem face_ok {rows : RowsT} (h : Twice rows) (hs : Sm rows) {e : NE} (he : e ∈ allE rows) : F__law_face rows ⟨grp (endL rows)⟩ (cI e) = .ok ((faceE rows e).map cI) := by
  refine M.T_is ?_
  unfold F__law_face
  have I := stp_inj h
  obtain ⟨k1, k2, k3, k4⟩ := I.perd he
  have hl := hs.2
  refine M.T_b (M.T_chk (line_of (show 1 ≤ 100000 by decide)) (M.T_ok ?_))
  rw [step_ok h he]
  (repeat' (first | with_reducible refine M.T_b ?_ | with_reducible refine M.T_ok ?_ | (with_reducible refine M.T_chk ?hc ?_; (case hc => (first | assumption | exact cpos (by omega) | exact cdiv (by omega) (by omega) | exact rng_side (by omega) | (unfold CPow; decide) | decide | omega))) | with_reducible refine M.T_cl ?_ | with_reducible refine M.T_orRl ?_ | with_reducible refine M.T_orRr ?_))
  obtain ⟨s, es, ⟨j, hj1, hj2, rfl⟩, hc⟩ := M.wh_inv (c := fun (s3 : (List (Int × Int)) × (Int × Int)) => (M.chk (Dd.Ok s3.2 ∧ Dd.Ok (cI e)) (M.ok (!decide (s3.2 = cI e))))) (f := fun (s3 : (List (Int × Int)) × (Int × Int)) => (M.b (M.ok s3.2) fun a4 => M.chk (s3.1.length < sizeLine) (M.b (M.cl (F__law_step rows ⟨grp (endL rows)⟩ s3.2 (1 : Int))) fun v5 => (M.ok ((s3.1 ++ [a4]), v5)))))
    (fun s => ∃ j, 1 ≤ j ∧ j ≤ per (stp rows) (allE rows) e ∧ s = (((List.range j).map fun i => cI (itr (stp rows) i e)), cI (itr (stp rows) j e)))
    (fun s => per (stp rows) (allE rows) e + 1 - s.1.length) (fun s ⟨j, hj1, hj2, hs⟩ => by
      subst hs
      rw [M.chk_of ⟨okI _, okI _⟩]
      by_cases z : j = per (stp rows) (allE rows) e
      · left
        rw [z, k3]
        simp
      · right
        have hne : itr (stp rows) j e ≠ e := k4 j hj1 (by omega)
        refine ⟨by rw [decide_eq_false (fun w => hne (cI_inj w))]; rfl, (((List.range (j + 1)).map fun i => cI (itr (stp rows) i e)), cI (itr (stp rows) (j + 1) e)), ?_, ⟨j + 1, by omega, by omega, rfl⟩, ?_⟩
        · rw [M.b_ok, M.chk_of (line_lt (by rw [List.length_map, List.length_range]; omega)), step_ok h (I.itr he j), M.cl_ok, M.b_ok, List.range_succ, List.map_append]
          rfl
        · show _ - ((List.range (j + 1)).map _).length < _ - ((List.range j).map _).length
          rw [List.length_map, List.length_map, List.length_range, List.length_range]
          omega) ([cI e], cI (stp rows e)) ⟨1, Nat.le_refl _, k1, rfl⟩
  refine M.T_of es ?_
  (repeat' (first | with_reducible refine M.T_b ?_ | with_reducible refine M.T_ok ?_ | (with_reducible refine M.T_chk ?hc ?_; (case hc => (first | assumption | exact cpos (by omega) | exact cdiv (by omega) (by omega) | exact rng_side (by omega) | (unfold CPow; decide) | decide | omega))) | with_reducible refine M.T_cl ?_ | with_reducible refine M.T_orRl ?_ | with_reducible refine M.T_orRr ?_))
  rw [M.chk_of ⟨okI _, okI _⟩] at hc
  have z : itr (stp rows) j e = e := by
    have : (!decide (cI (itr (stp rows) j e) = cI e)) = false := by injection hc
    refine cI_inj (of_decide_eq_true ?_)
    simpa using this
  have ej : j = per (stp rows) (allE rows) e := Classical.byContradiction fun w => k4 j hj1 (by omega) z
  rw [ej]
  unfold faceE face orb
  rw [List.map_map]
  rfl
end Tw
set_option Elab.async false
set_option linter.all false
set_option maxRecDepth 100000
set_option maxHeartbeats 4000000
namespace Tw
open PySem PySem.Spec L2 TL
open PyProof.Rows hiding St
theorem rowIns_len (rows : RowsT) (k : Nat) (j : Int) (a : Str) : (rowIns rows k j a).length = rows.length := List.length_modify ..
theorem rowIns_names (rows : RowsT) (k : Nat) (j : Int) (a : Str) : (rowIns rows k j a).map (·.1) = rows.map (·.1) := by
  refine List.ext_getElem? fun i => ?_
  unfold rowIns
  rw [List.getElem?_map, List.getElem?_modify, List.getElem?_map]
  cases rows[i]? with
  | none => rfl
  | some x => by_cases e : k = i <;> simp [e]
theorem rowIns_row (rows : RowsT) (k r : Nat) (j : Int) (a : Str) (h : k < rows.length) : rowT (rowIns rows k j a) r = if k = r then insAt (rowT rows r) j a else rowT rows r := by
  unfold rowIns rowT
  rw [List.getElem?_modify]
  by_cases e : k = r
  · subst e
    rw [List.getElem?_eq_getElem h]
    simp
  · simp [e]
theorem insAt_perm (ts : List Str) (j : Int) (a : Str) : (insAt ts j a).Perm (a :: ts) := by
  unfold insAt
  have h1 : (ts.take j.toNat ++ [a] ++ ts.drop j.toNat).Perm ([a] ++ ts.take j.toNat ++ ts.drop j.toNat) := List.Perm.append_right _ List.perm_append_comm
  refine h1.trans ?_
  rw [List.append_assoc, List.take_append_drop]
  exact List.Perm.refl _
theorem insAt_len (ts : List Str) (j : Int) (a : Str) : (insAt ts j a).length = ts.length + 1 := (insAt_perm ts j a).length_eq
theorem ties_ins : ∀ (rows : RowsT) (k : Nat) (j : Int) (a : Str), k < rows.length → (ties (rowIns rows k j a)).Perm (a :: ties rows)
  | [], k, j, a, h => by simp at h
  | x :: r, 0, j, a, _ => by
    show (((insAt x.2 j a) ++ ties r)).Perm (a :: (x.2 ++ ties r))
    exact (insAt_perm x.2 j a).append_right _
  | x :: r, k + 1, j, a, h => by
    show (x.2 ++ ties (rowIns r k j a)).Perm (a :: (x.2 ++ ties r))
    refine ((ties_ins r k j a (by simpa using h)).append_left _).trans ?_
    exact List.perm_middle
theorem ties_app (a b : RowsT) : ties (a ++ b) = ties a ++ ties b := List.flatMap_append
theorem ends_len (rows : RowsT) : (allE rows).length = (ties rows).length := by
  have := congrArg List.length (allE_ties rows)
  rw [List.length_map, List.length_map] at this
  exact this
def allC (rows : RowsT) : List NE := (List.range rows.length).flatMap fun r => (List.range (max 1 (rowT rows r).length)).map fun p => (r, p)
theorem mem_allC {rows : RowsT} {e : NE} : e ∈ allC rows ↔ e.1 < rows.length ∧ e.2 < max 1 (rowT rows e.1).length := by
  unfold allC
  rw [List.mem_flatMap]
  constructor
  · rintro ⟨r, hr, h⟩
    obtain ⟨p, hp, rfl⟩ := List.mem_map.mp h
    exact ⟨List.mem_range.mp hr, List.mem_range.mp hp⟩
  · rintro ⟨h1, h2⟩
    exact ⟨e.1, List.mem_range.mpr h1, List.mem_map.mpr ⟨e.2, List.mem_range.mpr h2, rfl⟩⟩
theorem allE_allC {rows : RowsT} {e : NE} (h : e ∈ allE rows) : e ∈ allC rows := mem_allC.mpr ⟨allE_row h, by have := mem_allE.mp h; omega⟩
noncomputable def faceC (rows : RowsT) (a : NE) : List NE := if rowT rows 0 = [] then [a] else faceE rows a
/-- a before b -/
def leE (a b : NE) : Bool := decide (a.1 < b.1 ∨ (a.1 = b.1 ∧ a.2 ≤ b.2))
def ins2 (rows : RowsT) (a b : NE) (t : Str) : RowsT := if leE a b = true then rowIns (rowIns rows b.1 (b.2 : Int) t) a.1 (a.2 : Int) t else rowIns (rowIns rows a.1 (a.2 : Int) t) b.1 (b.2 : Int) t
inductive Made : RowsT → Prop
  | bare (n : Str) : Made [(n, [])]
  | spike {rows : RowsT} {e : NE} {t n : Str} : Made rows → e ∈ allC rows → t ∉ ties rows → n ∉ rows.map (·.1) → Made (rowIns rows e.1 (e.2 : Int) t ++ [(n, [t])])
  | link {rows : RowsT} {a b : NE} {t : Str} : Made rows → a ∈ allC rows → b ∈ faceC rows a → t ∉ ties rows → Made (ins2 rows a b t)
theorem ins2_ties {rows : RowsT} {a b : NE} {t : Str} (ha : a.1 < rows.length) (hb : b.1 < rows.length) : (ties (ins2 rows a b t)).Perm (t :: t :: ties rows) := by
  unfold ins2
  split
  · exact (ties_ins _ _ _ _ (by rw [rowIns_len]; exact ha)).trans ((ties_ins _ _ _ _ hb).cons _)
  · exact (ties_ins _ _ _ _ (by rw [rowIns_len]; exact hb)).trans ((ties_ins _ _ _ _ ha).cons _)
theorem ins2_names (rows : RowsT) (a b : NE) (t : Str) : (ins2 rows a b t).map (·.1) = rows.map (·.1) := by
  unfold ins2
  split <;> rw [rowIns_names, rowIns_names]
theorem spike_ties {rows : RowsT} {e : NE} {t n : Str} (he : e.1 < rows.length) : (ties (rowIns rows e.1 (e.2 : Int) t ++ [(n, [t])])).Perm (t :: t :: ties rows) := by
  rw [ties_app]
  refine ((ties_ins _ _ _ _ he).append_right _).trans ?_
  show (t :: (ties rows ++ [t])).Perm _
  exact List.Perm.cons _ (List.perm_append_comm)
theorem twice_add {rows rows' : RowsT} {t : Str} (h : Twice rows) (p : (ties rows').Perm (t :: t :: ties rows)) (ht : t ∉ ties rows) : Twice rows' := fun u hu => by
  rw [p.count_eq]
  have hu' := p.mem_iff.mp hu
  by_cases e : u = t
  · subst e
    rw [List.count_cons_self, List.count_cons_self, List.count_eq_zero.mpr ht]
  · rw [List.count_cons_of_ne (Ne.symm e), List.count_cons_of_ne (Ne.symm e)]
    refine h u ?_
    rcases List.mem_cons.mp hu' with w | w
    · exact absurd w e
    · rcases List.mem_cons.mp w with w | w
      · exact absurd w e
      · exact w
/-- bare, or each point has an end -/
def Full (rows : RowsT) : Prop := (∃ n, rows = [(n, [])]) ∨ (rows ≠ [] ∧ ∀ r, r < rows.length → rowT rows r ≠ [])
theorem Full.ends {rows : RowsT} (h : Full rows) (h0 : rowT rows 0 ≠ []) {e : NE} (he : e ∈ allC rows) : e ∈ allE rows := by
  rcases h with ⟨n, rfl⟩ | ⟨_, h⟩
  · exact absurd rfl h0
  · obtain ⟨h1, h2⟩ := mem_allC.mp he
    have := List.length_pos_iff.mpr (h e.1 h1)
    exact mem_allE.mpr (by omega)
theorem Full.bare {rows : RowsT} (h : Full rows) (h0 : rowT rows 0 = []) : ∃ n, rows = [(n, [])] := by
  rcases h with h | ⟨h1, h⟩
  · exact h
  · exact absurd h0 (h 0 (List.length_pos_iff.mpr h1))
structure MadeP (rows : RowsT) : Prop where
  two : Twice rows
  full : Full rows
  nd : (rows.map (·.1)).Nodup
theorem faceC_mem {rows : RowsT} (h : MadeP rows) {a b : NE} (ha : a ∈ allC rows) (hb : b ∈ faceC rows a) : b ∈ allC rows := by
  unfold faceC at hb
  split at hb
  · rw [List.mem_singleton.mp hb]; exact ha
  · rename_i h0
    exact allE_allC ((stp_inj h.two).face_sub (h.full.ends h0 ha) b hb)
theorem ins_ne {rows : RowsT} (h : Full rows) (hr : rows.length ≠ 0) {k : Nat} {j : Int} {t : Str} (hk : k < rows.length) : ∀ r, r < rows.length → rowT (rowIns rows k j t) r ≠ [] := fun r hr2 => by
  rw [rowIns_row _ _ _ _ _ hk]
  have li : ∀ ts : List Str, insAt ts j t ≠ [] := fun ts e => by have := insAt_len ts j t; rw [e] at this; simp at this
  split
  · exact li _
  · rename_i ne
    rcases h with ⟨n, rfl⟩ | ⟨_, h⟩
    · simp at hk hr2; omega
    · exact h r hr2
theorem Made.props {rows : RowsT} (h : Made rows) : MadeP rows := by
  induction h with
  | bare n => exact ⟨fun t ht => by simp [ties] at ht, .inl ⟨n, rfl⟩, by simp⟩
  | @spike rows e t n h he ht hn ih =>
    have he1 := (mem_allC.mp he).1
    refine ⟨twice_add ih.two (spike_ties he1) ht, .inr ⟨by simp, fun r hr => ?_⟩, ?_⟩
    · rw [List.length_append, rowIns_len] at hr
      simp only [List.length_singleton] at hr
      by_cases q : r < rows.length
      · have h1 := ins_ne ih.full (by omega) (j := (e.2 : Int)) (t := t) he1 r q
        intro w
        refine h1 ?_
        unfold rowT at w ⊢
        rw [List.getElem?_append_left (by rw [rowIns_len]; exact q)] at w
        exact w
      · have e2 : r = rows.length := by omega
        intro w
        unfold rowT at w
        rw [List.getElem?_append_right (by rw [rowIns_len]; omega), rowIns_len, e2, Nat.sub_self] at w
        simp at w
    · rw [List.map_append, rowIns_names, List.nodup_append]
      exact ⟨ih.nd, by simp, fun x hx y hy e => hn (by rw [show y = n by simpa using hy] at e; rw [← e]; exact hx)⟩
  | @link rows a b t h ha hb ht ih =>
    have hb1 := faceC_mem ih ha hb
    have ha' := (mem_allC.mp ha).1
    have hb' := (mem_allC.mp hb1).1
    refine ⟨twice_add ih.two (ins2_ties ha' hb') ht, .inr ⟨?_, ?_⟩, by rw [ins2_names]; exact ih.nd⟩
    · intro w
      have := congrArg List.length w
      unfold ins2 at this
      split at this <;> rw [rowIns_len, rowIns_len] at this <;> simp at this <;> rw [this] at ha' <;> simp at ha'
    · intro r hr
      have two : ∀ (k k' : Nat) (j j' : Int), k < rows.length → k' < rows.length → r < rows.length → rowT (rowIns (rowIns rows k j t) k' j' t) r ≠ [] := fun k k' j j' hk hk' hr2 => by
        rw [rowIns_row _ _ _ _ _ (by rw [rowIns_len]; exact hk')]
        have h1 := ins_ne ih.full (by omega) (j := j) (t := t) hk r hr2
        split
        · intro w
          have := insAt_len (rowT (rowIns rows k j t) r) j' t
          rw [w] at this
          simp at this
        · exact h1
      unfold ins2 at hr ⊢
      split at hr <;> rw [rowIns_len, rowIns_len] at hr
      · rename_i z
        rw [if_pos z]
        exact two _ _ _ _ hb' ha' hr
      · rename_i z
        rw [if_neg z]
        exact two _ _ _ _ ha' hb' hr
end Tw
set_option Elab.async false
set_option linter.all false
set_option maxRecDepth 100000
set_option maxHeartbeats 4000000
namespace Tw
open PySem PySem.Spec L2 TL
open PyProof.Rows hiding St
abbrev n__law_put : List Str := ["_law_rows", "_law_big_here", "_law_tie", "_law_point", "_law_corners", "_law_r", "_law_place", "_law_one", "_law_kind", "_law_face_here", "_law_other_here", "_law_spot"]
noncomputable def F__law_put (p0 : RowsT) (p1 : Int) (p2 : Str) (p3 : Str) : M (Int × RowsT) :=
  (M.b (M.ok ([] : (List (Int × Int)))) fun v1 => (M.b (M.b (M.chk (-(2 ^ 62) ≤ ((p0.length : Nat) : Int) ∧ ((p0.length : Nat) : Int) < 2 ^ 62) (M.ok (rng 0 ((p0.length : Nat) : Int)))) fun x13 => (M.for_ (fun (s2 : (List (Int × Int))) (x3 : Int) => (M.b (M.b (M.b (M.b (M.b (M.b (M.get (atI p0 x3)) fun x4 => (M.ok x4.2)) fun x5 => (M.ok ((x5.length : Nat) : Int))) fun x6 => (M.ok (if x6 > (1 : Int) then x6 else (1 : Int)))) fun x7 => (M.chk (-(2 ^ 62) ≤ x7 ∧ x7 < 2 ^ 62) (M.ok (rng 0 x7)))) fun x11 => (M.for_ (fun (s8 : (List (Int × Int))) (x9 : Int) => (M.b (M.ok (x3, x9)) fun a10 => M.chk (s8.length < sizeLine) (M.ok (s8 ++ [a10])))) x11 s2)) fun s12 => (M.ok s12))) x13 v1)) fun s14 => (M.b (M.b (M.chk (CPos p1 ((s14.length : Nat) : Int)) (M.ok (p1 % ((s14.length : Nat) : Int)))) fun x15 => (M.get (atI s14 x15))) fun v16 => (M.b (M.chk (CDivW p1 ((s14.length : Nat) : Int)) (M.ok (p1 / ((s14.length : Nat) : Int)))) fun v17 => (M.b (M.chk (CPos v17 (3 : Int)) (M.ok (v17 % (3 : Int)))) fun v18 => (M.b (M.chk (CDivW v17 (3 : Int)) (M.ok (v17 / (3 : Int)))) fun v19 => (if (decide (v18 = (0 : Int))) = true then (M.b (M.ok v16.1) fun r21 => M.b (M.get (ixN p0.length r21)) fun n22 => M.b (M.ok v16.2) fun j23 => M.b (M.ok p2) fun a24 => M.chk ((∀ x, p0[n22]? = some x → x.2.length < sizeLine) ∧ 0 ≤ j23 ∧ j23 < 2 ^ 63) (M.b (M.ok p3) fun a26 => M.b (M.chk ((p2 :: []).length ≤ sizeLine) (M.ok (p2 :: []))) fun l27 => M.chk ((rowIns p0 n22 j23 a24).length < sizeLine) (M.ok (v19, ((rowIns p0 n22 j23 a24) ++ [(a26, l27)]))))) else (M.b (M.chk ((v16 :: []).length ≤ sizeLine) (M.ok (v16 :: []))) fun v28 => (M.b (M.b (M.b (M.b (M.get (atI p0 (0 : Int))) fun x29 => (M.ok x29.2)) fun x30 => (M.chk (Dd.Ok x30 ∧ Dd.Ok ([] : (List Str))) (M.ok (!decide (x30 = ([] : (List Str))))))) fun x49 => (if x49 = true then (M.b (M.b (M.cl (F__law_seats p0)) fun x33 => (M.cl (F__law_face p0 x33 v16))) fun v34 => (M.ok v34)) else (M.ok v28))) fun s35 => (M.b (M.b (M.chk (CPos v19 ((s35.length : Nat) : Int)) (M.ok (v19 % ((s35.length : Nat) : Int)))) fun x36 => (M.get (atI s35 x36))) fun v37 => (M.b (M.b (M.b (M.chk ((v16 :: (v37 :: [])).length ≤ sizeLine) (M.ok (v16 :: (v37 :: [])))) fun x38 => (M.ok (srtPR x38))) fun x46 => (M.for_ (fun (s39 : (List (Str × (List Str)))) (x40 : (Int × Int)) => (M.b (M.ok x40.1) fun r42 => M.b (M.get (ixN s39.length r42)) fun n43 => M.b (M.ok x40.2) fun j44 => M.b (M.ok p2) fun a45 => M.chk ((∀ x, s39[n43]? = some x → x.2.length < sizeLine) ∧ 0 ≤ j44 ∧ j44 < 2 ^ 63) (M.ok (rowIns s39 n43 j44 a45)))) x46 p0)) fun s47 => (M.b (M.chk (CDivW v19 ((s35.length : Nat) : Int)) (M.ok (v19 / ((s35.length : Nat) : Int)))) fun x48 => (M.ok (x48, s47))))))))))))))
def sp__law_put (G : Gb) : Sp := spD G (fun (p : Int × Str × Str) => [.fz (p.1), .fz (p.2.1), .fz (p.2.2)]) (rpF G) (fun (rows : RowsT) (p : Int × Str × Str) => F__law_put rows (p.1) (p.2.1) (p.2.2))
def t__law_put (G : Gb) : TS :=
  (tSeq (tAsg (tLst tNil) (gName 4)) (tSeq (tFor (iRng1 (tCons (tCB (qLenQ G.K) (tCons (tVar 0) tNil)) tNil)) (gName 5)
  (tFor (iRng1 (tCons (tCB qMax2 (tCons (tC (.int 1)) (tCons (tCB (qLenQ G.K) (tCons (tOp (rIxT G.K) (tOp (rIxL G.K) (tVar 0) (tVar 5)) (tC (.int 1))) tNil)) tNil))) tNil)) (gName 6)
  (tDrop (tBM G.K "list" rAppend (tVar 4) (tCons (tTup (tCons (tVar 5) (tCons (tVar 6) tNil))) tNil)))))
  (tSeq (tAsg (tOp (rIxL G.K) (tVar 4) (tOp qMod (tVar 1) (tCB (qLenQ G.K) (tCons (tVar 4) tNil)))) (gName 7)) (tSeq (tAsg (tOp qDiv (tVar 1) (tCB (qLenQ G.K) (tCons (tVar 4) tNil))) (gName 1)) (tSeq (tAsg (tOp qMod (tVar 1) (tC (.int 3))) (gName 8)) (tSeq (tAsg (tOp qDiv (tVar 1) (tC (.int 3))) (gName 1)) (tSeq (tIfS (tTest (tOp rEq (tVar 8) (tC (.int 0))))
  (tSeq (tDrop (tBM G.K "list" qInsert (tOp (rIxT G.K) (tOp (rIxL G.K) (tVar 0) (tOp (rIxT G.K) (tVar 7) (tC (.int 0)))) (tC (.int 1))) (tCons (tOp (rIxT G.K) (tVar 7) (tC (.int 1))) (tCons (tVar 2) tNil)))) (tSeq (tDrop (tBM G.K "list" rAppend (tVar 0) (tCons (tTup (tCons (tVar 3) (tCons (tLst (tCons (tVar 2) tNil)) tNil))) tNil))) (tRet (tVar 1))))
  tNext)
  (tSeq (tAsg (tLst (tCons (tVar 7) tNil)) (gName 9)) (tSeq (tIfS (tTest (tOp (rNeD G.K) (tOp (rIxT G.K) (tOp (rIxL G.K) (tVar 0) (tC (.int 0))) (tC (.int 1))) (tLst tNil)))
  (tAsg (tCall (sp__law_face G) [] E0 (tCons (tVar 0) (tCons (tCall (sp__law_seats G) [] E0 (tCons (tVar 0) tNil)) (tCons (tVar 7) tNil)))) (gName 9))
  tNext)
  (tSeq (tAsg (tOp (rIxL G.K) (tVar 9) (tOp qMod (tVar 1) (tCB (qLenQ G.K) (tCons (tVar 9) tNil)))) (gName 10)) (tSeq (tFor (iList G.K (tCKw (rSortedPR G.K) (tCons (tLst (tCons (tVar 7) (tCons (tVar 10) tNil))) tNil) (tCons (tC (.bl true)) tNil))) (gName 11)
  (tDrop (tBM G.K "list" qInsert (tOp (rIxT G.K) (tOp (rIxL G.K) (tVar 0) (tOp (rIxT G.K) (tVar 11) (tC (.int 0)))) (tC (.int 1))) (tCons (tOp (rIxT G.K) (tVar 11) (tC (.int 1))) (tCons (tVar 2) tNil)))))
  (tRet (tOp qDiv (tVar 1) (tCB (qLenQ G.K) (tCons (tVar 9) tNil)))))))))))))))
theorem len__law_put {G : Gb} (vs : List V) (H : Hp) (Q : VK) (E : XK) (h : sp__law_put G vs H Q E) : vs.length = 4 := spD_len h fun _ => rfl
theorem rn__law_put {G : Gb} {B : Hp} {E : XK} {pa : Addr} (p0 : RowsT) (p1 : Int) (p2 : Str) (p3 : Str) : Run G B E (oD G B (rpF G) pa) [some (.dr pa p0), some (.fz p1), some (.fz p2), some (.fz p3), none, none, none, none, none, none, none, none] (t__law_put G) (F__law_put p0 p1 p2 p3) := by
  have h : Run G B E (oD G B (rpF G) pa) [some (.dr pa p0), some (.fz p1), some (.fz p2), some (.fz p3), none, none, none, none, none, none, none, none] (t__law_put G) _ := (run_asgN (en_nil (α := (Int × Int))) (fun v1 => (run_seq (EX := fun (s : (List (Int × Int))) => [some (.dr pa p0), some (.fz p1), some (.fz p2), some (.fz p3), some (.ow s), none, none, none, none, none, none, none]) (run_for (bind := fun (x : Int) (r : Evr) => (r.set 5 (some (.fz x)))) (s0 := v1) (ew_rng1 (ev_len (mr := .F) (ev_dr rfl)) tg_S) (.keep (.keep (.keep (.keep (.keep (.drop (.drop (.drop (.drop (.drop (.drop (.drop Wk.nil)))))))))))) (fun s2 x3 => (run_last (run_seq (EX := fun (s : (List (Int × Int))) => [some (.dr pa p0), some (.fz p1), some (.fz p2), some (.fz p3), some (.ow s), some (.fz x3), none, none, none, none, none, none]) (run_for (bind := fun (x : Int) (r : Evr) => (r.set 6 (some (.fz x)))) (s0 := s2) (ew_rng1 (ev_max2 (mr := .F) (ev_int (md := .F)) (ev_len (mr := .F) (ev_p2 (ev_ix (ev_dr rfl) (ev_fz rfl))))) tg_S) (.keep (.keep (.keep (.keep (.keep (.keep (.drop (.drop (.drop (.drop (.drop (.drop Wk.nil)))))))))))) (fun s8 x9 => (run_last (run_append rfl (ev_pair (ev_fz rfl) (ev_fz rfl)) (fun a10 => (run_next (s := (s8 ++ [a10])) (.keep (.keep (.keep (.keep (.keep (.keep (.drop (.drop (.drop (.drop (.drop (.drop Wk.nil)))))))))))))))))) (fun s12 => (run_next (s := s12) (.keep (.keep (.keep (.keep (.keep (.drop (.drop (.drop (.drop (.drop (.drop (.drop Wk.nil)))))))))))))))))) (fun s14 => (run_asg (bind := fun (x : (Int × Int)) (r : Evr) => (r.set 7 (some (.fz x)))) (ev_ixS (es_ow rfl) (ev_mod (mr := .F) (ev_fz rfl) (ev_len (mr := .F) (ev_ow rfl)))) tg_F (fun v16 => (run_asg (bind := fun (x : Int) (r : Evr) => (r.set 1 (some (.fz x)))) (ev_div (mr := .F) (ev_fz rfl) (ev_len (mr := .F) (ev_ow rfl))) tg_S (fun v17 => (run_asg (bind := fun (x : Int) (r : Evr) => (r.set 8 (some (.fz x)))) (ev_mod (mr := .F) (ev_fz rfl) (ev_int (md := .F))) tg_S (fun v18 => (run_asg (bind := fun (x : Int) (r : Evr) => (r.set 1 (some (.fz x)))) (ev_div (mr := .F) (ev_fz rfl) (ev_int (md := .F))) tg_S (fun v19 => (run_ifS (evT_T (ev_eq (mr := .F) (ev_fz rfl) (ev_int (md := .F)))) (run_cutD (run_rowIns rfl (ev_p1 (ev_fz rfl)) (ev_p2 (ev_fz rfl)) (ev_fz rfl) (fun r21 n22 j23 a24 => (run_rowApp rfl (ev_fz rfl) (en_lst (el_cons (ev_fz rfl) (el_nil (α := Str)))) (fun a26 l27 => (run_retD (i := 0) rfl (ev_fz rfl))))))) (run_skip (run_asgN (en_lst (el_cons (ev_fz rfl) (el_nil (α := (Int × Int))))) (fun v28 => (run_seq (EX := fun (s : (List (Int × Int))) => [some (.dr pa p0), some (.fz v19), some (.fz p2), some (.fz p3), some (.ow s14), none, none, some (.fz v16), some (.fz v18), some (.ow s), none, none]) (run_if (evT_T (ev_neD (mr := .F) (by decide) (ev_p2 (ev_ix (ev_dr rfl) (ev_int (md := .F)))) (EvN.H (en_nil (α := Str))))) (run_last (run_asgN (en_call3 (f := F__law_face) (ev_dr rfl) ps_B (EvN.F (en_call1 (f := F__law_seats) (ev_dr rfl) ps_B)) ps_F (ev_fz rfl) ps_F) (fun v34 => (run_next (s := v34) (.keep (.keep (.keep (.keep (.keep (.drop (.drop (.keep (.keep (.keep (.drop (.drop Wk.nil)))))))))))))))) (run_next (s := v28) (.keep (.keep (.keep (.keep (.keep (.drop (.drop (.keep (.keep (.keep (.drop (.drop Wk.nil)))))))))))))) (fun s35 => (run_asg (bind := fun (x : (Int × Int)) (r : Evr) => (r.set 10 (some (.fz x)))) (ev_ixS (es_ow rfl) (ev_mod (mr := .F) (ev_fz rfl) (ev_len (mr := .F) (ev_ow rfl)))) tg_F (fun v37 => (run_seq (EX := fun (s : (List (Str × (List Str)))) => [some (.dr pa s), some (.fz v19), some (.fz p2), some (.fz p3), some (.ow s14), none, none, some (.fz v16), some (.fz v18), some (.ow s35), some (.fz v37), none]) (run_for (bind := fun (x : (Int × Int)) (r : Evr) => (r.set 11 (some (.fz x)))) (s0 := p0) (ew_F (EvN.F (en_sortPR (es_N (en_lst (el_cons (ev_fz rfl) (el_cons (ev_fz rfl) (el_nil (α := (Int × Int))))))))) tg_F) (.keep (.keep (.keep (.keep (.keep (.drop (.drop (.keep (.keep (.keep (.keep (.drop Wk.nil)))))))))))) (fun s39 x40 => (run_last (run_rowIns rfl (ev_p1 (ev_fz rfl)) (ev_p2 (ev_fz rfl)) (ev_fz rfl) (fun r42 n43 j44 a45 => (run_next (s := (rowIns s39 n43 j44 a45)) (.keep (.keep (.keep (.keep (.keep (.drop (.drop (.keep (.keep (.keep (.keep (.drop Wk.nil)))))))))))))))))) (fun s47 => (run_retD (i := 0) rfl (ev_div (mr := .F) (ev_fz rfl) (ev_len (mr := .F) (ev_ow rfl))))))))))))))))))))))))))
  exact h
theorem run__law_put {G : Gb} {vs : List V} {H : Hp} {Q : VK} {E : XK} (h : sp__law_put G vs H Q E) : t__law_put G (dEnd Q) (start n__law_put vs) H := spD_run (n := 8) h (fun _ => rfl) fun p a rows B => rn__law_put rows (p.1) (p.2.1) (p.2.2)
abbrev n__law_net_by : List Str := ["_law_big_here", "_law_most", "_law_stem", "_law_many", "_law_ties", "_law_points", "_law_rows", "_law_k", "_law_told", "_law_row", "_law_size"]
noncomputable def F__law_net_by (p0 : Int) (p1 : Int) (p2 : Int) : M (List (Str × (List Str))) :=
  (M.b (M.chk (CPos p0 (p1 + (1 : Int))) (M.ok (p0 % (p1 + (1 : Int))))) fun v1 => (M.b (M.chk (CDivW p0 (p1 + (1 : Int))) (M.ok (p0 / (p1 + (1 : Int))))) fun v2 => (M.b (M.cl (F__law_names p2 v1)) fun v3 => (M.b (M.b (M.b (M.b (M.b (M.b (M.chk (CDivW p2 (3 : Int)) (M.ok (p2 / (3 : Int)))) fun x4 => (M.ok (x4 + (1 : Int)))) fun x5 => (M.ok (x5 :: (p2 :: [])))) fun x6 => (M.chk (x6.length ≤ sizeLine) (M.ok x6))) fun x9 => (M.b (M.b (M.b (M.chk (CPos p2 (4 : Int)) (M.ok (p2 % (4 : Int)))) fun x7 => (M.ok (decide (x7 = (1 : Int))))) fun x8 => (M.ok (if x8 = true then (1 : Int) else 0))) fun x10 => (M.get (atI x9 x10)))) fun x11 => (M.cl (F__law_names x11 (v1 + (1 : Int))))) fun v12 => (M.b (M.get (atI v12 (0 : Int))) fun a17 => M.b (M.ok ([] : (List Str))) fun l18 => (M.b (M.b (M.chk (-(2 ^ 62) ≤ v1 ∧ v1 < 2 ^ 62) (M.ok (rng 0 v1))) fun x26 => (M.for_ (fun (s19 : Int × (List (Str × (List Str)))) (x20 : Int) => (M.b (M.get (atI v3 x20)) fun x24 => (M.b (M.get (atI v12 ((s19.2.length : Nat) : Int))) fun x25 => (M.b (M.cl (F__law_put s19.2 s19.1 x24 x25)) fun r21 => M.b (M.ok r21.1) fun a22 => M.b (M.ok r21.2) fun w23 => (M.ok (a22, w23)))))) x26 (v2, [(a17, l18)]))) fun s27 => (M.b (M.ok ([] : (List (Str × (List Str))))) fun v28 => (M.b (M.wh (fun (s29 : (List (Str × (List Str))) × Int × (List (Str × (List Str)))) => (M.chk (Dd.Ok s29.1 ∧ Dd.Ok ([] : (List (Str × (List Str))))) (M.ok (!decide (s29.1 = ([] : (List (Str × (List Str))))))))) (fun (s29 : (List (Str × (List Str))) × Int × (List (Str × (List Str)))) => (M.b (M.chk (CPos s29.2.1 ((s29.1.length : Nat) : Int)) (M.ok (s29.2.1 % ((s29.1.length : Nat) : Int)))) fun j30 => M.chk (-(2 ^ 63) ≤ j30 ∧ j30 < 2 ^ 63) (M.b (M.get (seqIndex? j30 s29.1.length)) fun n31 => M.b (M.get (s29.1[n31]?)) fun v32 => (M.b (M.b (M.ok ((((s29.1.eraseIdx n31).length : Nat) : Int) + (1 : Int))) fun x33 => (M.chk (CDivW s29.2.1 x33) (M.ok (s29.2.1 / x33)))) fun v34 => (M.b (M.ok (if ((v32.2.length : Nat) : Int) > (1 : Int) then ((v32.2.length : Nat) : Int) else (1 : Int))) fun v35 => (M.b (M.b (M.b (M.b (M.b (M.chk (CPos v34 v35) (M.ok (v34 % v35))) fun x36 => (M.ok (some (x36)))) fun x37 => (M.ok (cutL v32.2 x37 none))) fun x40 => (M.b (M.b (M.b (M.chk (CPos v34 v35) (M.ok (v34 % v35))) fun x38 => (M.ok (some (x38)))) fun x39 => (M.ok (cutL v32.2 none x39))) fun x41 => (M.chk (x40.length + x41.length ≤ sizeLine) (M.ok (x40 ++ x41))))) fun x42 => (M.ok (v32.1, x42))) fun a43 => M.chk (s29.2.2.length < sizeLine) (M.b (M.chk (CDivW v34 v35) (M.ok (v34 / v35))) fun v44 => (M.ok ((s29.1.eraseIdx n31), v44, (s29.2.2 ++ [a43])))))))))) (s27.2, s27.1, v28)) fun s45 => (M.ok s45.2.2)))))))))
def sp__law_net_by (G : Gb) : Sp := spA G (fun (p : Int × Int × Int) => [.fz (p.1), .fz (p.2.1), .fz (p.2.2)]) (rpN G) (fun (p : Int × Int × Int) => F__law_net_by (p.1) (p.2.1) (p.2.2))
def t__law_net_by (G : Gb) : TS :=
  (tSeq (tAsg (tOp qMod (tVar 0) (tOp qAdd (tVar 1) (tC (.int 1)))) (gName 3)) (tSeq (tAsg (tOp qDiv (tVar 0) (tOp qAdd (tVar 1) (tC (.int 1)))) (gName 0)) (tSeq (tAsg (tCall (sp__law_names G) [] E0 (tCons (tVar 2) (tCons (tVar 3) tNil))) (gName 4)) (tSeq (tAsg (tCall (sp__law_names G) [] E0 (tCons (tOp (rIxL G.K) (tLst (tCons (tOp qAdd (tOp qDiv (tVar 2) (tC (.int 3))) (tC (.int 1))) (tCons (tVar 2) tNil))) (tCB qInt1 (tCons (tOp rEq (tOp qMod (tVar 2) (tC (.int 4))) (tC (.int 1))) tNil))) (tCons (tOp qAdd (tVar 3) (tC (.int 1))) tNil))) (gName 5)) (tSeq (tAsg (tLst (tCons (tTup (tCons (tOp (rIxL G.K) (tVar 5) (tC (.int 0))) (tCons (tLst tNil) tNil))) tNil)) (gName 6)) (tSeq (tFor (iRng1 (tCons (tVar 3) tNil)) (gName 7)
  (tAsg (tCall (sp__law_put G) [] E0 (tCons (tVar 6) (tCons (tVar 0) (tCons (tOp (rIxL G.K) (tVar 4) (tVar 7)) (tCons (tOp (rIxL G.K) (tVar 5) (tCB (qLenQ G.K) (tCons (tVar 6) tNil))) tNil))))) (gName 0)))
  (tSeq (tAsg (tLst tNil) (gName 8)) (tSeq (tWhile (tTest (tOp (rNeD G.K) (tVar 6) (tLst tNil)))
  (tSeq (tAsg (tBM G.K "list" rPopAt (tVar 6) (tCons (tOp qMod (tVar 0) (tCB (qLenQ G.K) (tCons (tVar 6) tNil))) tNil)) (gName 9)) (tSeq (tAsg (tOp qDiv (tVar 0) (tOp qAdd (tCB (qLenQ G.K) (tCons (tVar 6) tNil)) (tC (.int 1)))) (gName 0)) (tSeq (tAsg (tCB qMax2 (tCons (tC (.int 1)) (tCons (tCB (qLenQ G.K) (tCons (tOp (rIxT G.K) (tVar 9) (tC (.int 1))) tNil)) tNil))) (gName 10)) (tSeq (tDrop (tBM G.K "list" rAppend (tVar 8) (tCons (tTup (tCons (tOp (rIxT G.K) (tVar 9) (tC (.int 0))) (tCons (tOp rCat (tSl (rSlL G.K) (tOp (rIxT G.K) (tVar 9) (tC (.int 1))) (tPart (tOp qMod (tVar 0) (tVar 10))) tNoPart) (tSl (rSlL G.K) (tOp (rIxT G.K) (tVar 9) (tC (.int 1))) tNoPart (tPart (tOp qMod (tVar 0) (tVar 10))))) tNil))) tNil))) (tAsg (tOp qDiv (tVar 0) (tVar 10)) (gName 0)))))))
  (tRet (tVar 8))))))))))
theorem len__law_net_by {G : Gb} (vs : List V) (H : Hp) (Q : VK) (E : XK) (h : sp__law_net_by G vs H Q E) : vs.length = 3 := spA_len h fun _ => rfl
theorem rn__law_net_by {G : Gb} {B : Hp} {E : XK} (p0 : Int) (p1 : Int) (p2 : Int) : Run G B E (oR G B (rpN G)) [some (.fz p0), some (.fz p1), some (.fz p2), none, none, none, none, none, none, none, none] (t__law_net_by G) (F__law_net_by p0 p1 p2) := by
  have h : Run G B E (oR G B (rpN G)) [some (.fz p0), some (.fz p1), some (.fz p2), none, none, none, none, none, none, none, none] (t__law_net_by G) _ := (run_asg (bind := fun (x : Int) (r : Evr) => (r.set 3 (some (.fz x)))) (ev_mod (mr := .F) (ev_fz rfl) (ev_add (mr := .F) (ev_fz rfl) (ev_int (md := .F)))) tg_S (fun v1 => (run_asg (bind := fun (x : Int) (r : Evr) => (r.set 0 (some (.fz x)))) (ev_div (mr := .F) (ev_fz rfl) (ev_add (mr := .F) (ev_fz rfl) (ev_int (md := .F)))) tg_S (fun v2 => (run_asgN (en_call2 (f := F__law_names) (ev_fz rfl) ps_F (ev_fz rfl) ps_F) (fun v3 => (run_asgN (en_call2 (f := F__law_names) (ev_ixS (es_N (en_lst (el_cons (ev_add (mr := .F) (ev_div (mr := .F) (ev_fz rfl) (ev_int (md := .F))) (ev_int (md := .F))) (el_cons (ev_fz rfl) (el_nil (α := Int)))))) (ev_intB (mr := .F) (ev_eq (mr := .F) (ev_mod (mr := .F) (ev_fz rfl) (ev_int (md := .F))) (ev_int (md := .F))))) ps_F (ev_add (mr := .F) (ev_fz rfl) (ev_int (md := .F))) ps_F) (fun v12 => (run_rowNew (ev_ixS (es_ow rfl) (ev_int (md := .F))) (en_nil (α := Str)) (fun q16 a17 l18 => (run_seq (EX := fun (s : Int × (List (Str × (List Str)))) => [some (.fz s.1), some (.fz p1), some (.fz p2), some (.fz v1), some (.ow v3), some (.ow v12), some (.dr q16 s.2), none, none, none, none]) (run_for (bind := fun (x : Int) (r : Evr) => (r.set 7 (some (.fz x)))) (s0 := (v2, [(a17, l18)])) (ew_rng1 (ev_fz rfl) tg_S) (.keep (.keep (.keep (.keep (.keep (.keep (.keep (.drop (.drop (.drop (.drop Wk.nil))))))))))) (fun s19 x20 => (run_last (run_ioS3 (bind := fun (x : Int) (r : Evr) => (r.set 0 (some (.fz x)))) (f := F__law_put) rfl (ev_fz rfl) (ev_ixS (es_ow rfl) (ev_fz rfl)) (ev_ixS (es_ow rfl) (ev_len (mr := .F) (ev_dr rfl))) tg_S (fun a22 w23 => (run_next (s := (a22, w23)) (.keep (.keep (.keep (.keep (.keep (.keep (.keep (.drop (.drop (.drop (.drop Wk.nil))))))))))))))))) (fun s27 => (run_asgN (en_nil (α := (Str × (List Str)))) (fun v28 => (run_seq (EX := fun (s : (List (Str × (List Str))) × Int × (List (Str × (List Str)))) => [some (.fz s.2.1), some (.fz p1), some (.fz p2), some (.fz v1), some (.ow v3), some (.ow v12), some (.dr q16 s.1), none, some (.ow s.2.2), none, none]) (run_while (s0 := (s27.2, s27.1, v28)) (fun s29 => (evT_T (ev_neD (mr := .F) (by decide) (ev_dr rfl) (EvN.H (en_nil (α := (Str × (List Str)))))))) (.keep (.keep (.keep (.keep (.keep (.keep (.keep (.drop (.keep (.drop (.drop Wk.nil))))))))))) (fun s29 => (run_rowPop (bind := fun (x : (Str × (List Str))) (r : Evr) => (r.set 9 (some (.fz x)))) rfl (ev_mod (mr := .F) (ev_fz rfl) (ev_len (mr := .F) (ev_dr rfl))) tg_F (fun j30 n31 v32 => (run_asg (bind := fun (x : Int) (r : Evr) => (r.set 0 (some (.fz x)))) (ev_div (mr := .F) (ev_fz rfl) (ev_add (mr := .F) (ev_len (mr := .F) (ev_dr rfl)) (ev_int (md := .F)))) tg_S (fun v34 => (run_asg (bind := fun (x : Int) (r : Evr) => (r.set 10 (some (.fz x)))) (ev_max2 (mr := .F) (ev_int (md := .F)) (ev_len (mr := .F) (ev_p2 (ev_fz rfl)))) tg_S (fun v35 => (run_append rfl (ev_pair (ev_p1 (ev_fz rfl)) (EvN.F (en_cat (es_N (en_slice (es_F (ev_p2 (ev_fz rfl))) (eo_some (ev_mod (mr := .F) (ev_fz rfl) (ev_fz rfl))) eo_none)) (es_N (en_slice (es_F (ev_p2 (ev_fz rfl))) eo_none (eo_some (ev_mod (mr := .F) (ev_fz rfl) (ev_fz rfl)))))))) (fun a43 => (run_last (run_asg (bind := fun (x : Int) (r : Evr) => (r.set 0 (some (.fz x)))) (ev_div (mr := .F) (ev_fz rfl) (ev_fz rfl)) tg_S (fun v44 => (run_next (s := ((s29.1.eraseIdx n31), v44, (s29.2.2 ++ [a43]))) (.keep (.keep (.keep (.keep (.keep (.keep (.keep (.drop (.keep (.drop (.drop Wk.nil))))))))))))))))))))))))) (fun s45 => (run_retO rfl)))))))))))))))))
  exact h
theorem run__law_net_by {G : Gb} {vs : List V} {H : Hp} {Q : VK} {E : XK} (h : sp__law_net_by G vs H Q E) : t__law_net_by G (dEnd Q) (start n__law_net_by vs) H := spA_run (n := 8) h (fun _ => rfl) fun p B => rn__law_net_by (p.1) (p.2.1) (p.2.2)
theorem ixN_nat {n k : Nat} (h : k < n) : ixN n (k : Int) = some k := by
  unfold ixN
  rw [if_pos (by omega), if_pos (by omega)]
  simp
theorem srtPR_two (a b : NE) : srtPR [cI a, cI b] = if leE a b = true then [cI b, cI a] else [cI a, cI b] := by
  by_cases h : leE a b = true
  · rw [if_pos h]
    refine (srtPR_uniq (m := [cI a, cI b]) ?_ (List.Perm.refl _)).symm
    refine .cons (fun x hx => ?_) (.cons (fun x hx => by cases hx) .nil)
    rw [List.mem_singleton.mp hx, leP_iff]
    have := of_decide_eq_true h
    show (a.1 : Int) < (b.1 : Int) ∨ ((a.1 : Int) = (b.1 : Int) ∧ (a.2 : Int) ≤ (b.2 : Int))
    omega
  · rw [if_neg h]
    refine (srtPR_uniq (m := [cI b, cI a]) ?_ (List.Perm.swap _ _ _)).symm
    refine .cons (fun x hx => ?_) (.cons (fun x hx => by cases hx) .nil)
    rw [List.mem_singleton.mp hx, leP_iff]
    have : ¬ (a.1 < b.1 ∨ (a.1 = b.1 ∧ a.2 ≤ b.2)) := fun w => h (decide_eq_true w)
    show (b.1 : Int) < (a.1 : Int) ∨ ((b.1 : Int) = (a.1 : Int) ∧ (b.2 : Int) ≤ (a.2 : Int))
    omega
theorem allC_pos {rows : RowsT} (h : rows ≠ []) : 0 < (allC rows).length := by
  have : ((0, 0) : NE) ∈ allC rows := mem_allC.mpr ⟨List.length_pos_iff.mpr h, by show 0 < max 1 _; omega⟩
  exact List.length_pos_of_mem this
theorem allC_le {rows : RowsT} (h : Sm rows) : (allC rows).length ≤ 1000 := by
  unfold allC
  have h1 := h.2
  have h2 := h.1
  unfold allE at h1
  rw [List.length_flatMap] at h1 ⊢
  have : ∀ l : List Nat, (l.map fun r => ((List.range (max 1 (rowT rows r).length)).map fun p => (r, p)).length).sum ≤ l.length + (l.map fun r => ((List.range (rowT rows r).length).map fun p => (r, p)).length).sum := by
    intro l
    induction l with
    | nil => simp
    | cons r q ih =>
      simp only [List.map_cons, List.sum_cons, List.length_cons, List.length_map, List.length_range] at ih ⊢
      omega
  have := this (List.range rows.length)
  rw [List.length_range] at this
  omega
theorem at_mod {α : Type} (l : List α) (hl : 0 < l.length) {b : Int} (h0 : 0 ≤ b) : ∃ x ∈ l, atI l (b % ((l.length : Nat) : Int)) = some x := by
  have h1 := Int.emod_nonneg b (show (l.length : Int) ≠ 0 by omega)
  have h2 := Int.emod_lt_of_pos b (show (0 : Int) < (l.length : Int) by omega)
  have hk : (b % (l.length : Int)).toNat < l.length := by omega
  refine ⟨l[(b % (l.length : Int)).toNat], List.getElem_mem hk, ?_⟩
  have := atI_nat (List.getElem?_eq_getElem hk)
  rw [show (((b % (l.length : Int)).toNat : Nat) : Int) = b % (l.length : Int) by omega] at this
  exact this
theorem corner_at {rows : RowsT} {b : Int} (h0 : 0 ≤ b) (hr : rows ≠ []) : ∃ e ∈ allC rows, atI ((allC rows).map cI) (b % (((allC rows).map cI).length : Int)) = some (cI e) := by
  obtain ⟨x, hx, e⟩ := at_mod ((allC rows).map cI) (by rw [List.length_map]; exact allC_pos hr) h0
  obtain ⟨d, hd, rfl⟩ := List.mem_map.mp hx
  exact ⟨d, hd, e⟩
structure PutP (rows : RowsT) (t n : Str) (rows' : RowsT) : Prop where
  made : Made rows'
  ties : (ties rows').Perm (t :: t :: Tw.ties rows)
  names : rows'.map (·.1) = rows.map (·.1) ∨ rows'.map (·.1) = rows.map (·.1) ++ [n]
theorem div_nn {a b : Int} (h : 0 ≤ a) (hb : 0 ≤ b) : 0 ≤ a / b := Int.ediv_nonneg h hb
theorem row_small {rows : RowsT} (h : Sm rows) (r : Nat) : (rowT rows r).length ≤ 800 := by
  by_cases q : r < rows.length
  · have := pre_len r (rowT rows r).length q (Nat.le_refl _)
    have := h.2
    omega
  · rw [row_none (by omega)]; simp
theorem put_T {rows : RowsT} {b : Int} {t n : Str} (hm : Made rows) (hs : Sm rows) (h0 : 0 ≤ b) (ht : t ∉ ties rows) (hn : n ∉ rows.map (·.1)) (okr : ∀ u ∈ ties rows, Dd.Ok u) : (F__law_put rows b t n).T fun r => 0 ≤ r.1 ∧ PutP rows t n r.2 := by
  have P := hm.props
  have hne : rows ≠ [] := by
    rcases P.full with ⟨n, rfl⟩ | ⟨h, _⟩
    · simp
    · exact h
  have hlen := hs.1
  have hcl := allC_le hs
  have hcp := allC_pos hne
  unfold F__law_put
  refine M.T_b (M.T_ok (M.T_b (M.T_b (M.T_chk (rng_side (by omega)) (M.T_ok ?_)))))
  -- the corners
  refine M.T.imp (p := fun s => s = (allC rows).map cI) ?_ fun s es => ?_
  · let pre : Nat → List (Int × Int) := fun k => ((List.range k).flatMap fun r => (List.range (max 1 (rowT rows r).length)).map fun p => cI (r, p))
    refine M.T_rng (fun i (s : List (Int × Int)) => s = pre i) rfl (fun r s hr e => ?_) fun s e => ?_
    · subst e
      have hr' : r < rows.length := by omega
      obtain ⟨x, ex, ex2⟩ := at_row hr'
      have hrow := row_small hs r
      have hpl : (pre r).length + max 1 (rowT rows r).length ≤ 1000 := by
        have h2 : ∀ m, r < m → (pre r).length + max 1 (rowT rows r).length ≤ (pre m).length := by
          intro m
          induction m with
          | zero => omega
          | succ m ih =>
            intro hm
            show _ ≤ ((List.range (m + 1)).flatMap _).length
            rw [List.range_succ, List.flatMap_append, List.length_append]
            by_cases e : r = m
            · subst e
              simp [pre]
            · have := ih (by omega)
              show _ ≤ (pre m).length + _
              omega
        have h3 := h2 rows.length hr'
        have h4 : (pre rows.length).length = (allC rows).length := by
          show ((List.range rows.length).flatMap _).length = ((List.range rows.length).flatMap _).length
          rw [List.length_flatMap, List.length_flatMap]
          congr 1
          refine List.map_congr_left fun r _ => ?_
          simp
        omega
      (repeat' (first | with_reducible refine M.T_b ?_ | with_reducible refine M.T_ok ?_ | (with_reducible refine M.T_chk ?hc ?_; (case hc => (first | assumption | exact cpos (by omega) | exact cdiv (by omega) (by omega) | exact rng_side (by omega) | (unfold CPow; decide) | decide | omega))) | with_reducible refine M.T_cl ?_ | with_reducible refine M.T_orRl ?_ | with_reducible refine M.T_orRr ?_))
      refine M.T_get ex ?_
      (repeat' (first | with_reducible refine M.T_b ?_ | with_reducible refine M.T_ok ?_ | (with_reducible refine M.T_chk ?hc ?_; (case hc => (first | assumption | exact cpos (by omega) | exact cdiv (by omega) (by omega) | exact rng_side (by omega) | (unfold CPow; decide) | decide | omega))) | with_reducible refine M.T_cl ?_ | with_reducible refine M.T_orRl ?_ | with_reducible refine M.T_orRr ?_))
      rw [ex2]
      have em : (if ((rowT rows r).length : Int) > 1 then ((rowT rows r).length : Int) else 1) = ((max 1 (rowT rows r).length : Nat) : Int) := by
        split <;> omega
      rw [em]
      refine M.T_chk (rng_side (by omega)) ?_
      (repeat' (first | with_reducible refine M.T_b ?_ | with_reducible refine M.T_ok ?_ | (with_reducible refine M.T_chk ?hc ?_; (case hc => (first | assumption | exact cpos (by omega) | exact cdiv (by omega) (by omega) | exact rng_side (by omega) | (unfold CPow; decide) | decide | omega))) | with_reducible refine M.T_cl ?_ | with_reducible refine M.T_orRl ?_ | with_reducible refine M.T_orRr ?_))
      refine M.T_rng (fun i (s : List (Int × Int)) => s = pre r ++ (List.range i).map fun p => cI (r, p)) (by simp) (fun p s hp e => ?_) fun s e => ?_
      · subst e
        (repeat' (first | with_reducible refine M.T_b ?_ | with_reducible refine M.T_ok ?_ | (with_reducible refine M.T_chk ?hc ?_; (case hc => (first | assumption | exact cpos (by omega) | exact cdiv (by omega) (by omega) | exact rng_side (by omega) | (unfold CPow; decide) | decide | omega))) | with_reducible refine M.T_cl ?_ | with_reducible refine M.T_orRl ?_ | with_reducible refine M.T_orRr ?_))
        refine M.T_chk (line_lt (by rw [List.length_append, List.length_map, List.length_range]; omega)) ?_
        (repeat' (first | with_reducible refine M.T_b ?_ | with_reducible refine M.T_ok ?_ | (with_reducible refine M.T_chk ?hc ?_; (case hc => (first | assumption | exact cpos (by omega) | exact cdiv (by omega) (by omega) | exact rng_side (by omega) | (unfold CPow; decide) | decide | omega))) | with_reducible refine M.T_cl ?_ | with_reducible refine M.T_orRl ?_ | with_reducible refine M.T_orRr ?_))
        rw [List.range_succ, List.map_append, ← List.append_assoc]
        rfl
      · (repeat' (first | with_reducible refine M.T_b ?_ | with_reducible refine M.T_ok ?_ | (with_reducible refine M.T_chk ?hc ?_; (case hc => (first | assumption | exact cpos (by omega) | exact cdiv (by omega) (by omega) | exact rng_side (by omega) | (unfold CPow; decide) | decide | omega))) | with_reducible refine M.T_cl ?_ | with_reducible refine M.T_orRl ?_ | with_reducible refine M.T_orRr ?_))
        rw [e, show (((max 1 (rowT rows r).length : Nat) : Int)).toNat = max 1 (rowT rows r).length by omega]
        show _ = (List.range (r + 1)).flatMap _
        rw [List.range_succ, List.flatMap_append]
        simp [pre]
    · rw [e, show ((rows.length : Nat) : Int).toNat = rows.length by omega]
      show (List.range rows.length).flatMap _ = _
      unfold allC
      rw [List.map_flatMap]
      simp only [List.map_map]
      rfl
  subst es
  obtain ⟨e, he, ee⟩ := corner_at h0 hne
  obtain ⟨he1, he2⟩ := mem_allC.mp he
  have l0 : (((allC rows).map cI).length : Int) = ((allC rows).length : Int) := by rw [List.length_map]
  refine M.T_b (M.T_b (M.T_chk (cpos (by rw [l0]; omega)) (M.T_ok (M.T_get ee (M.T_b (M.T_chk (cdiv (by rw [l0]; omega) (by rw [l0]; omega)) (M.T_ok ?_)))))))
  have b1 := div_nn (b := (((allC rows).map cI).length : Int)) h0 (by omega)
  generalize b / (((allC rows).map cI).length : Int) = b1' at b1 ⊢
  refine M.T_b (M.T_chk (cpos (by decide)) (M.T_ok (M.T_b (M.T_chk (cdiv (by decide) (by decide)) (M.T_ok ?_)))))
  have b2 := div_nn (b := 3) b1 (by decide)
  generalize b1' / 3 = b2' at b2 ⊢
  have rl : ∀ x : Str × List Str, rows[e.1]? = some x → x.2.length < sizeLine := fun x hx => by
    have := row_small hs e.1
    rw [row_some hx] at this
    exact line_lt (by omega)
  refine M.T_ite (fun _ => ?_) fun _ => ?_
  · -- a spike
    (repeat' (first | with_reducible refine M.T_b ?_ | with_reducible refine M.T_ok ?_ | (with_reducible refine M.T_chk ?hc ?_; (case hc => (first | assumption | exact cpos (by omega) | exact cdiv (by omega) (by omega) | exact rng_side (by omega) | (unfold CPow; decide) | decide | omega))) | with_reducible refine M.T_cl ?_ | with_reducible refine M.T_orRl ?_ | with_reducible refine M.T_orRr ?_))
    refine M.T_get (ixN_nat he1) ?_
    (repeat' (first | with_reducible refine M.T_b ?_ | with_reducible refine M.T_ok ?_ | (with_reducible refine M.T_chk ?hc ?_; (case hc => (first | assumption | exact cpos (by omega) | exact cdiv (by omega) (by omega) | exact rng_side (by omega) | (unfold CPow; decide) | decide | omega))) | with_reducible refine M.T_cl ?_ | with_reducible refine M.T_orRl ?_ | with_reducible refine M.T_orRr ?_))
    refine M.T_chk ⟨rl, by show (0 : Int) ≤ (e.2 : Int); omega, ?_⟩ ?_
    · have := row_small hs e.1
      show (e.2 : Int) < 2 ^ 63
      omega
    (repeat' (first | with_reducible refine M.T_b ?_ | with_reducible refine M.T_ok ?_ | (with_reducible refine M.T_chk ?hc ?_; (case hc => (first | assumption | exact cpos (by omega) | exact cdiv (by omega) (by omega) | exact rng_side (by omega) | (unfold CPow; decide) | decide | omega))) | with_reducible refine M.T_cl ?_ | with_reducible refine M.T_orRl ?_ | with_reducible refine M.T_orRr ?_))
    refine M.T_chk (line_of (show 1 ≤ 100000 by decide)) ?_
    (repeat' (first | with_reducible refine M.T_b ?_ | with_reducible refine M.T_ok ?_ | (with_reducible refine M.T_chk ?hc ?_; (case hc => (first | assumption | exact cpos (by omega) | exact cdiv (by omega) (by omega) | exact rng_side (by omega) | (unfold CPow; decide) | decide | omega))) | with_reducible refine M.T_cl ?_ | with_reducible refine M.T_orRl ?_ | with_reducible refine M.T_orRr ?_))
    refine M.T_chk (line_lt (by rw [rowIns_len]; omega)) ?_
    (repeat' (first | with_reducible refine M.T_b ?_ | with_reducible refine M.T_ok ?_ | (with_reducible refine M.T_chk ?hc ?_; (case hc => (first | assumption | exact cpos (by omega) | exact cdiv (by omega) (by omega) | exact rng_side (by omega) | (unfold CPow; decide) | decide | omega))) | with_reducible refine M.T_cl ?_ | with_reducible refine M.T_orRl ?_ | with_reducible refine M.T_orRr ?_))
    exact ⟨b2, .spike hm he ht hn, spike_ties he1, .inr (by rw [List.map_append, rowIns_names]; rfl)⟩
  · -- a tie between two corners of a face
    refine M.T_b (M.T_chk (line_of (show 1 ≤ 100000 by decide)) (M.T_ok ?_))
    obtain ⟨x0, ex0, ex02⟩ := at_row (rows := rows) (r := 0) (List.length_pos_iff.mpr hne)
    have ok0 : Dd.Ok (rowT rows 0) := fun u hu => okr u (by
      obtain ⟨i, hi⟩ := List.mem_iff_getElem?.mp hu
      exact tie_in (e := (0, i)) hi)
    refine M.T_b (M.T.imp (p := fun s => ∃ l, s = l.map cI ∧ l = faceC rows e ∧ 0 < l.length ∧ l.length ≤ 1000) ?_ fun s ⟨l, es, el, lp, lq⟩ => ?_)
    · refine M.T_b (M.T_b (M.T_b (M.T_get ex0 (M.T_ok ?_))))
      rw [ex02]
      refine M.T_chk ⟨ok0, fun x hx => by cases hx⟩ (M.T_ok ?_)
      refine M.T_ite (fun w => ?_) fun w => ?_
      · have h00 : rowT rows 0 ≠ [] := fun z => by rw [z] at w; simp at w
        have heE := P.full.ends h00 he
        rw [seats_ok hs]
        (repeat' (first | with_reducible refine M.T_b ?_ | with_reducible refine M.T_ok ?_ | (with_reducible refine M.T_chk ?hc ?_; (case hc => (first | assumption | exact cpos (by omega) | exact cdiv (by omega) (by omega) | exact rng_side (by omega) | (unfold CPow; decide) | decide | omega))) | with_reducible refine M.T_cl ?_ | with_reducible refine M.T_orRl ?_ | with_reducible refine M.T_orRr ?_))
        rw [face_ok P.two hs heE]
        (repeat' (first | with_reducible refine M.T_b ?_ | with_reducible refine M.T_ok ?_ | (with_reducible refine M.T_chk ?hc ?_; (case hc => (first | assumption | exact cpos (by omega) | exact cdiv (by omega) (by omega) | exact rng_side (by omega) | (unfold CPow; decide) | decide | omega))) | with_reducible refine M.T_cl ?_ | with_reducible refine M.T_orRl ?_ | with_reducible refine M.T_orRr ?_))
        refine ⟨faceE rows e, rfl, by unfold faceC; rw [if_neg h00], ?_, ?_⟩
        · exact List.length_pos_of_mem ((stp_inj P.two).self_mem heE)
        · have := nodup_le ((stp_inj P.two).face_nodup heE) ((stp_inj P.two).face_sub heE)
          have := hs.2
          show (face _ _ _).length ≤ 1000
          omega
      · have h00 : rowT rows 0 = [] := by
          refine Classical.byContradiction fun z => w ?_
          rw [decide_eq_false z]
          rfl
        (repeat' (first | with_reducible refine M.T_b ?_ | with_reducible refine M.T_ok ?_ | (with_reducible refine M.T_chk ?hc ?_; (case hc => (first | assumption | exact cpos (by omega) | exact cdiv (by omega) (by omega) | exact rng_side (by omega) | (unfold CPow; decide) | decide | omega))) | with_reducible refine M.T_cl ?_ | with_reducible refine M.T_orRl ?_ | with_reducible refine M.T_orRr ?_))
        exact ⟨[e], rfl, by unfold faceC; rw [if_pos h00], by simp, by simp⟩
    subst es
    have lm : ((l.map cI).length : Int) = (l.length : Int) := by rw [List.length_map]
    obtain ⟨y, hy, ey⟩ := at_mod (l.map cI) (by rw [List.length_map]; exact lp) b2
    obtain ⟨d, hd, rfl⟩ := List.mem_map.mp hy
    rw [el] at hd
    have hdC := faceC_mem P he hd
    obtain ⟨hd1, hd2⟩ := mem_allC.mp hdC
    refine M.T_b (M.T_b (M.T_chk (cpos (by rw [lm]; omega)) (M.T_ok (M.T_get ey (M.T_b (M.T_b (M.T_b (M.T_chk (line_of (show 2 ≤ 100000 by decide)) (M.T_ok (M.T_ok ?_))))))))))
    rw [srtPR_two]
    have big : ∀ f ∈ allC rows, (0 : Int) ≤ (f.2 : Int) ∧ (f.2 : Int) < 2 ^ 63 := fun f hf => by
      have := (mem_allC.mp hf).2
      have := row_small hs f.1
      omega
    have rs : ∀ (r : RowsT) (k k2 : Nat) (j : Int) (x : Str × List Str), r = rows ∨ (r = rowIns rows k2 j t ∧ k2 < rows.length) → r[k]? = some x → x.2.length < sizeLine := fun r k k2 j x hr hx => by
      have h1 := row_small hs k
      rcases hr with rfl | ⟨rfl, hk2⟩
      · rw [row_some hx] at h1; exact line_lt (by omega)
      · have h2 := rowIns_row rows k2 k j t hk2
        rw [row_some hx] at h2
        refine line_lt ?_
        rw [h2]
        split
        · rw [insAt_len]; omega
        · omega
    have turn : ∀ (f g : NE) (q : RowsT → Prop), f ∈ allC rows → g ∈ allC rows → q (rowIns (rowIns rows f.1 (f.2 : Int) t) g.1 (g.2 : Int) t) →
        (M.for_ (fun (s39 : (List (Str × (List Str)))) (x40 : (Int × Int)) => (M.b (M.ok x40.1) fun r42 => M.b (M.get (ixN s39.length r42)) fun n43 => M.b (M.ok x40.2) fun j44 => M.b (M.ok t) fun a45 => M.chk ((∀ x, s39[n43]? = some x → x.2.length < sizeLine) ∧ 0 ≤ j44 ∧ j44 < 2 ^ 63) (M.ok (rowIns s39 n43 j44 a45)))) [cI f, cI g] rows).T q := fun f g q hf hg hq => by
      obtain ⟨hf1, _⟩ := mem_allC.mp hf
      obtain ⟨hg1, _⟩ := mem_allC.mp hg
      refine M.T_b ?_
      (repeat' (first | with_reducible refine M.T_b ?_ | with_reducible refine M.T_ok ?_ | (with_reducible refine M.T_chk ?hc ?_; (case hc => (first | assumption | exact cpos (by omega) | exact cdiv (by omega) (by omega) | exact rng_side (by omega) | (unfold CPow; decide) | decide | omega))) | with_reducible refine M.T_cl ?_ | with_reducible refine M.T_orRl ?_ | with_reducible refine M.T_orRr ?_))
      refine M.T_get (ixN_nat hf1) ?_
      (repeat' (first | with_reducible refine M.T_b ?_ | with_reducible refine M.T_ok ?_ | (with_reducible refine M.T_chk ?hc ?_; (case hc => (first | assumption | exact cpos (by omega) | exact cdiv (by omega) (by omega) | exact rng_side (by omega) | (unfold CPow; decide) | decide | omega))) | with_reducible refine M.T_cl ?_ | with_reducible refine M.T_orRl ?_ | with_reducible refine M.T_orRr ?_))
      refine M.T_chk ⟨fun x hx => rs rows f.1 0 0 x (.inl rfl) hx, big f hf⟩ (M.T_ok ?_)
      refine M.T_b ?_
      (repeat' (first | with_reducible refine M.T_b ?_ | with_reducible refine M.T_ok ?_ | (with_reducible refine M.T_chk ?hc ?_; (case hc => (first | assumption | exact cpos (by omega) | exact cdiv (by omega) (by omega) | exact rng_side (by omega) | (unfold CPow; decide) | decide | omega))) | with_reducible refine M.T_cl ?_ | with_reducible refine M.T_orRl ?_ | with_reducible refine M.T_orRr ?_))
      refine M.T_get (ixN_nat (by rw [rowIns_len]; exact hg1)) ?_
      (repeat' (first | with_reducible refine M.T_b ?_ | with_reducible refine M.T_ok ?_ | (with_reducible refine M.T_chk ?hc ?_; (case hc => (first | assumption | exact cpos (by omega) | exact cdiv (by omega) (by omega) | exact rng_side (by omega) | (unfold CPow; decide) | decide | omega))) | with_reducible refine M.T_cl ?_ | with_reducible refine M.T_orRl ?_ | with_reducible refine M.T_orRr ?_))
      refine M.T_chk ⟨fun x hx => rs _ g.1 f.1 f.2 x (.inr ⟨rfl, hf1⟩) hx, big g hg⟩ (M.T_ok ?_)
      exact hq
    have fin : ∀ rows', rows' = ins2 rows e d t → (M.b (M.chk (CDivW b2' (((l.map cI).length : Nat) : Int)) (M.ok (b2' / (((l.map cI).length : Nat) : Int)))) fun x48 => (M.ok (x48, rows'))).T fun r => 0 ≤ r.1 ∧ PutP rows t n r.2 := fun rows' er => by
      refine M.T_b (M.T_chk (cdiv (by rw [lm]; omega) (by rw [lm]; omega)) (M.T_ok (M.T_ok ⟨div_nn b2 (by omega), ?_⟩)))
      rw [er]
      exact ⟨.link hm he hd ht, ins2_ties he1 hd1, .inl (ins2_names _ _ _ _)⟩
    by_cases z : leE e d = true
    · rw [if_pos z]
      exact turn d e _ hdC he (fin _ (by unfold ins2; rw [if_pos z]))
    · rw [if_neg z]
      exact turn e d _ he hdC (fin _ (by unfold ins2; rw [if_neg z]))
end Tw
set_option Elab.async false
set_option linter.all false
set_option maxRecDepth 100000
set_option maxHeartbeats 4000000
namespace Tw
open PySem PySem.Spec L2 TL
open PyProof.Rows hiding St
def RotR (x y : Str × List Str) : Prop := x.1 = y.1 ∧ ∃ k, k ≤ x.2.length ∧ y.2 = x.2.drop k ++ x.2.take k
/-- the rows of a net made deed by deed, in any order, each list begun anywhere -/
structure GNet (rows : RowsT) (m : Nat) : Prop where
  src : ∃ rows0 done, Made rows0 ∧ rows0.Perm done ∧ All2 RotR done rows
  pn : ∀ n ∈ rows.map (·.1), isNm n = true
  tn : ∀ t ∈ ties rows, isNm t = true
  tl : (ties rows).length ≤ 2 * m
  rl : rows.length ≤ m + 1
theorem cut_drop {α : Type} (l : List α) (k : Nat) (h : k ≤ l.length) : cutL l (some (k : Int)) none = l.drop k := by
  unfold cutL
  rw [HT.sIx_nat, HT.sIx_none, Nat.min_eq_left h, List.take_of_length_le (by rw [List.length_drop]; omega)]
theorem cut_take {α : Type} (l : List α) (k : Nat) (h : k ≤ l.length) : cutL l none (some (k : Int)) = l.take k := by
  unfold cutL
  rw [HT.sIx_nat, HT.sIx_none, Nat.min_eq_left h]
  simp
theorem seqIx {n k : Nat} (h : k < n) : seqIndex? (k : Int) n = some k := by
  unfold seqIndex?
  have e : (if (k : Int) < 0 then (k : Int) + (n : Int) else (k : Int)) = (k : Int) := if_neg (by omega)
  rw [e]
  rw [if_pos (by simp; omega)]
  simp
theorem cons_erase_perm {α : Type} : ∀ (l : List α) (k : Nat) (h : k < l.length), (l[k] :: l.eraseIdx k).Perm l
  | [], _, h => absurd h (Nat.not_lt_zero _)
  | a :: l, 0, _ => .refl _
  | a :: l, k + 1, h => by
    rw [List.eraseIdx_cons_succ, List.getElem_cons_succ]
    exact (List.Perm.swap a _ _).trans ((cons_erase_perm l k (Nat.lt_of_succ_lt_succ h)).cons a)
theorem perm_ties {a b : RowsT} (h : a.Perm b) : (ties a).Perm (ties b) := by
  induction h with
  | nil => exact .refl _
  | cons x _ ih => exact ih.append_left x.2
  | swap x y l =>
    show (y.2 ++ (x.2 ++ ties l)).Perm (x.2 ++ (y.2 ++ ties l))
    rw [← List.append_assoc, ← List.append_assoc]
    exact List.perm_append_comm.append_right _
  | trans _ _ h1 h2 => exact h1.trans h2
theorem rot_ties : ∀ {a b : RowsT}, All2 RotR a b → (ties a).Perm (ties b) ∧ a.map (·.1) = b.map (·.1)
  | _, _, .nil => ⟨.refl _, rfl⟩
  | _, _, .cons (a := x) (b := y) ⟨h1, k, hk, h2⟩ t => by
    obtain ⟨p, q⟩ := rot_ties t
    refine ⟨?_, by rw [List.map_cons, List.map_cons, q, h1]⟩
    show (x.2 ++ _).Perm (y.2 ++ _)
    rw [h2]
    refine List.Perm.append ?_ p
    exact (List.Perm.of_eq (List.take_append_drop k x.2).symm).trans List.perm_append_comm
structure NetP (rows : RowsT) : Prop where
  two : Twice rows
  nd : (rows.map (·.1)).Nodup
  ne : rows ≠ []
theorem twice_perm {a b : RowsT} (h : (ties a).Perm (ties b)) (k : Twice a) : Twice b := fun t ht => by
  rw [← h.count_eq]
  exact k t (h.mem_iff.mpr ht)
theorem GNet.props {rows : RowsT} {m : Nat} (h : GNet rows m) : NetP rows := by
  obtain ⟨rows0, done, hm, hp, ha⟩ := h.src
  have P := hm.props
  obtain ⟨h1, h2⟩ := rot_ties ha
  refine ⟨twice_perm h1 (twice_perm (perm_ties hp) P.two), ?_, ?_⟩
  · rw [← h2]
    exact ((hp.map (·.1)).nodup_iff).mp P.nd
  · intro w
    rw [w] at ha
    cases ha
    have := hp.eq_nil
    rw [this] at hm
    have := hm.props.full
    rcases this with ⟨n, e⟩ | ⟨e, _⟩
    · cases e
    · exact e rfl
theorem GNet.sm {rows : RowsT} {m : Nat} (h : GNet rows m) (hm : m ≤ 100) : Sm rows := ⟨by have := h.rl; omega, by rw [ends_len]; have := h.tl; omega⟩
theorem dbl_count {l : List Str} {t : Str} : t ∈ (l.flatMap fun t => [t, t]) ↔ t ∈ l := by
  rw [List.mem_flatMap]
  constructor
  · rintro ⟨u, hu, h⟩
    rcases List.mem_cons.mp h with e | h
    · rw [e]; exact hu
    · rw [List.mem_singleton.mp h]; exact hu
  · exact fun h => ⟨t, h, by simp⟩
theorem nm_okS {z : Str} (h : isNm z = true) : Dd.Ok z := by
  unfold isNm at h
  rw [Bool.and_eq_true, List.all_eq_true] at h
  have h2 : ∀ c ∈ SG, c < 0x110000 := by decide +kernel
  show z.cps.all (· < 0x110000) = true
  rw [← Array.all_toList, List.all_eq_true]
  intro c hc
  exact decide_eq_true (h2 c (of_decide_eq_true (h.2 c hc)))
theorem okRows {rows : RowsT} (h1 : ∀ n ∈ rows.map (·.1), isNm n = true) (h2 : ∀ t ∈ ties rows, isNm t = true) : Dd.Ok rows := fun x hx => ⟨nm_okS (h1 _ (List.mem_map.mpr ⟨x, hx, rfl⟩)), fun t ht => nm_okS (h2 t (List.mem_flatMap.mpr ⟨x, hx, ht⟩))⟩
theorem names_at {stem : Int} {n i : Nat} (h : i < n) : (namesOf stem n)[i]? = some (nameOf stem i) := by
  unfold namesOf
  rw [List.getElem?_map, List.getElem?_range h]
  rfl
theorem not_in_names {stem : Int} {i : Nat} (h : i < 36) : nameOf stem i ∉ namesOf stem i := fun w => by
  obtain ⟨j, hj, e⟩ := List.mem_map.mp w
  have hj' := List.mem_range.mp hj
  have := name_inj (by omega) (by omega) e
  omega
theorem net_TN {big most stem : Int} (h0 : 0 ≤ big) (hm0 : 0 ≤ most) (hm1 : most ≤ 35) : (F__law_net_by big most stem).T fun rows => GNet rows most.toNat ∧ (ties rows).length = 2 * (big % (most + 1)).toNat := by
  unfold F__law_net_by
  have k0 := Int.emod_nonneg big (show most + 1 ≠ 0 by omega)
  have k1 := Int.emod_lt_of_pos big (show 0 < most + 1 by omega)
  refine M.T_b (M.T_chk (cpos (by omega)) (M.T_ok (M.T_b (M.T_chk (cdiv (by omega) (by omega)) (M.T_ok ?_)))))
  have b0 := div_nn (b := most + 1) h0 (by omega)
  generalize big / (most + 1) = b at b0 ⊢
  obtain ⟨m, hm⟩ : ∃ m : Nat, big % (most + 1) = (m : Int) := ⟨(big % (most + 1)).toNat, by omega⟩
  rw [hm] at k0 k1 ⊢
  rw [show ((m : Nat) : Int).toNat = m by omega]
  have hmm : m ≤ 35 := by omega
  have hmost : m ≤ most.toNat := by omega
  rw [names_ok stem m (by omega)]
  refine M.T_b (M.T_cl (M.T_ok ?_))
  obtain ⟨pst, hps⟩ : ∃ pst : Int, atI [stem / 3 + 1, stem] (if decide (stem % 4 = 1) = true then (1 : Int) else 0) = some pst := by
    split
    · exact ⟨stem, rfl⟩
    · exact ⟨stem / 3 + 1, rfl⟩
  refine M.T_b ?_
  (repeat' (first | with_reducible refine M.T_b ?_ | with_reducible refine M.T_ok ?_ | (with_reducible refine M.T_chk ?hc ?_; (case hc => (first | assumption | exact cpos (by omega) | exact cdiv (by omega) (by omega) | exact rng_side (by omega) | (unfold CPow; decide) | decide | omega))) | with_reducible refine M.T_cl ?_ | with_reducible refine M.T_orRl ?_ | with_reducible refine M.T_orRr ?_))
  refine M.T_chk (line_of (show 2 ≤ 100000 by decide)) ?_
  (repeat' (first | with_reducible refine M.T_b ?_ | with_reducible refine M.T_ok ?_ | (with_reducible refine M.T_chk ?hc ?_; (case hc => (first | assumption | exact cpos (by omega) | exact cdiv (by omega) (by omega) | exact rng_side (by omega) | (unfold CPow; decide) | decide | omega))) | with_reducible refine M.T_cl ?_ | with_reducible refine M.T_orRl ?_ | with_reducible refine M.T_orRr ?_))
  refine M.T_get hps ?_
  (repeat' (first | with_reducible refine M.T_b ?_ | with_reducible refine M.T_ok ?_ | (with_reducible refine M.T_chk ?hc ?_; (case hc => (first | assumption | exact cpos (by omega) | exact cdiv (by omega) (by omega) | exact rng_side (by omega) | (unfold CPow; decide) | decide | omega))) | with_reducible refine M.T_cl ?_ | with_reducible refine M.T_orRl ?_ | with_reducible refine M.T_orRr ?_))
  rw [show (m : Int) + 1 = ((m + 1 : Nat) : Int) by omega, names_ok pst (m + 1) (by omega)]
  (repeat' (first | with_reducible refine M.T_b ?_ | with_reducible refine M.T_ok ?_ | (with_reducible refine M.T_chk ?hc ?_; (case hc => (first | assumption | exact cpos (by omega) | exact cdiv (by omega) (by omega) | exact rng_side (by omega) | (unfold CPow; decide) | decide | omega))) | with_reducible refine M.T_cl ?_ | with_reducible refine M.T_orRl ?_ | with_reducible refine M.T_orRr ?_))
  refine M.T_get (atI_nat (j := 0) (names_at (by omega))) ?_
  (repeat' (first | with_reducible refine M.T_b ?_ | with_reducible refine M.T_ok ?_ | (with_reducible refine M.T_chk ?hc ?_; (case hc => (first | assumption | exact cpos (by omega) | exact cdiv (by omega) (by omega) | exact rng_side (by omega) | (unfold CPow; decide) | decide | omega))) | with_reducible refine M.T_cl ?_ | with_reducible refine M.T_orRl ?_ | with_reducible refine M.T_orRr ?_))
  -- the deeds
  refine M.T.imp (p := fun (s : Int × RowsT) => 0 ≤ s.1 ∧ Made s.2 ∧ s.2.map (·.1) = namesOf pst s.2.length ∧ s.2.length ≤ m + 1 ∧ (ties s.2).Perm ((namesOf stem m).flatMap fun t => [t, t])) ?_ fun s ⟨s0, s1, s2, s3, s4⟩ => ?_
  · refine M.T_rng (fun i (s : Int × RowsT) => 0 ≤ s.1 ∧ Made s.2 ∧ s.2.map (·.1) = namesOf pst s.2.length ∧ s.2.length ≤ i + 1 ∧ (ties s.2).Perm ((namesOf stem i).flatMap fun t => [t, t])) ⟨b0, .bare _, rfl, Nat.le_refl _, .refl _⟩ (fun i s hi ⟨q0, q1, q2, q3, q4⟩ => ?_) fun s h => ?_
    · have hi' : i < m := by omega
      refine M.T_b (M.T_get (atI_nat (names_at hi')) (M.T_b (M.T_get (atI_nat (names_at (show s.2.length < m + 1 by omega))) ?_)))
      have tl := q4.length_eq
      have ht : nameOf stem i ∉ ties s.2 := fun w => not_in_names (stem := stem) (i := i) (by omega) (dbl_count.mp (q4.mem_iff.mp w))
      have hn : nameOf pst s.2.length ∉ s.2.map (·.1) := fun w => by rw [q2] at w; exact not_in_names (by omega) w
      have sm : Sm s.2 := ⟨by omega, by
        rw [ends_len, tl]
        have : ∀ l : List Str, (l.flatMap fun t => [t, t]).length = 2 * l.length := fun l => by
          induction l with
          | nil => rfl
          | cons a r ih => rw [List.flatMap_cons, List.length_append, ih, List.length_cons]; simp; omega
        rw [this, names_len]
        omega⟩
      refine M.T_b (M.T_cl ((put_T q1 sm q0 ht hn fun u hu => nm_okS (names_nm stem i u (dbl_count.mp (q4.mem_iff.mp hu)))).imp fun r ⟨r0, r1⟩ => ?_))
      (repeat' (first | with_reducible refine M.T_b ?_ | with_reducible refine M.T_ok ?_ | (with_reducible refine M.T_chk ?hc ?_; (case hc => (first | assumption | exact cpos (by omega) | exact cdiv (by omega) (by omega) | exact rng_side (by omega) | (unfold CPow; decide) | decide | omega))) | with_reducible refine M.T_cl ?_ | with_reducible refine M.T_orRl ?_ | with_reducible refine M.T_orRr ?_))
      refine ⟨r0, r1.made, ?_, ?_, ?_⟩
      · show r.2.map (·.1) = namesOf pst r.2.length
        rcases r1.names with e | e
        · have := congrArg List.length e
          rw [List.length_map, List.length_map] at this
          rw [e, this, q2]
        · have := congrArg List.length e
          rw [List.length_map, List.length_append, List.length_map] at this
          simp only [List.length_singleton] at this
          rw [e, this, q2]
          unfold namesOf
          rw [List.range_succ, List.map_append]
          rfl
      · show r.2.length ≤ i + 1 + 1
        rcases r1.names with e | e
        · have := congrArg List.length e
          rw [List.length_map, List.length_map] at this
          omega
        · have := congrArg List.length e
          rw [List.length_map, List.length_append, List.length_map] at this
          simp only [List.length_singleton] at this
          omega
      · refine r1.ties.trans ?_
        have e : (namesOf stem (i + 1)).flatMap (fun t => [t, t]) = (namesOf stem i).flatMap (fun t => [t, t]) ++ [nameOf stem i, nameOf stem i] := by
          unfold namesOf
          rw [List.range_succ, List.map_append, List.flatMap_append]
          rfl
        rw [e]
        exact ((q4.cons _).cons _).trans (List.perm_append_comm (l₁ := [nameOf stem i, nameOf stem i]))
    · rw [show ((m : Nat) : Int).toNat = m by omega] at h
      exact h
  (repeat' (first | with_reducible refine M.T_b ?_ | with_reducible refine M.T_ok ?_ | (with_reducible refine M.T_chk ?hc ?_; (case hc => (first | assumption | exact cpos (by omega) | exact cdiv (by omega) (by omega) | exact rng_side (by omega) | (unfold CPow; decide) | decide | omega))) | with_reducible refine M.T_cl ?_ | with_reducible refine M.T_orRl ?_ | with_reducible refine M.T_orRr ?_))
  -- the rows in any order, the lists begun anywhere
  have tlen : (ties s.2).length = 2 * m := by
    rw [s4.length_eq]
    have : ∀ l : List Str, (l.flatMap fun t => [t, t]).length = 2 * l.length := fun l => by
      induction l with
      | nil => rfl
      | cons a r ih => rw [List.flatMap_cons, List.length_append, ih, List.length_cons]; simp; omega
    rw [this, names_len]
  have okn : ∀ x ∈ s.2, Dd.Ok x := okRows (fun n hn => by rw [s2] at hn; exact names_nm _ _ n hn) (fun t ht => names_nm _ _ t (dbl_count.mp (s4.mem_iff.mp ht)))
  obtain ⟨w, ew, ⟨done, w1, w2, w3⟩, wc⟩ := M.wh_inv (c := (fun (s29 : (List (Str × (List Str))) × Int × (List (Str × (List Str)))) => (M.chk (Dd.Ok s29.1 ∧ Dd.Ok ([] : (List (Str × (List Str))))) (M.ok (!decide (s29.1 = ([] : (List (Str × (List Str)))))))))) (f := (fun (s29 : (List (Str × (List Str))) × Int × (List (Str × (List Str)))) => (M.b (M.chk (CPos s29.2.1 ((s29.1.length : Nat) : Int)) (M.ok (s29.2.1 % ((s29.1.length : Nat) : Int)))) fun j30 => M.chk (-(2 ^ 63) ≤ j30 ∧ j30 < 2 ^ 63) (M.b (M.get (seqIndex? j30 s29.1.length)) fun n31 => M.b (M.get (s29.1[n31]?)) fun v32 => (M.b (M.b (M.ok ((((s29.1.eraseIdx n31).length : Nat) : Int) + (1 : Int))) fun x33 => (M.chk (CDivW s29.2.1 x33) (M.ok (s29.2.1 / x33)))) fun v34 => (M.b (M.ok (if ((v32.2.length : Nat) : Int) > (1 : Int) then ((v32.2.length : Nat) : Int) else (1 : Int))) fun v35 => (M.b (M.b (M.b (M.b (M.b (M.chk (CPos v34 v35) (M.ok (v34 % v35))) fun x36 => (M.ok (some (x36)))) fun x37 => (M.ok (cutL v32.2 x37 none))) fun x40 => (M.b (M.b (M.b (M.chk (CPos v34 v35) (M.ok (v34 % v35))) fun x38 => (M.ok (some (x38)))) fun x39 => (M.ok (cutL v32.2 none x39))) fun x41 => (M.chk (x40.length + x41.length ≤ sizeLine) (M.ok (x40 ++ x41))))) fun x42 => (M.ok (v32.1, x42))) fun a43 => M.chk (s29.2.2.length < sizeLine) (M.b (M.chk (CDivW v34 v35) (M.ok (v34 / v35))) fun v44 => (M.ok ((s29.1.eraseIdx n31), v44, (s29.2.2 ++ [a43])))))))))))
    (fun q => ∃ done, s.2.Perm (done ++ q.1) ∧ All2 RotR done q.2.2 ∧ 0 ≤ q.2.1) (fun q => q.1.length) (fun q ⟨done, d1, d2, d3⟩ => by
      have okq : Dd.Ok q.1 := fun x hx => okn x (d1.mem_iff.mpr (List.mem_append_right _ hx))
      have okc : Dd.Ok q.1 ∧ Dd.Ok ([] : RowsT) := ⟨okq, fun x hx => by cases hx⟩
      rw [M.chk_of okc]
      by_cases z : q.1 = []
      · left
        rw [decide_eq_true z]
        rfl
      · right
        refine ⟨by rw [decide_eq_false z]; rfl, M.T_eq ?_⟩
        have lp := List.length_pos_iff.mpr z
        have lb : q.1.length ≤ 36 ∧ done.length ≤ 36 := by
          have := d1.length_eq
          rw [List.length_append] at this
          omega
        have m0 := Int.emod_nonneg q.2.1 (show (q.1.length : Int) ≠ 0 by omega)
        have m1 := Int.emod_lt_of_pos q.2.1 (show (0 : Int) < (q.1.length : Int) by omega)
        obtain ⟨k, hk⟩ : ∃ k : Nat, q.2.1 % (q.1.length : Int) = (k : Int) := ⟨(q.2.1 % (q.1.length : Int)).toNat, by omega⟩
        have hkl : k < q.1.length := by omega
        refine M.T_b (M.T_chk (cpos (by omega)) (M.T_ok ?_))
        rw [hk]
        refine M.T_chk (show -(2 ^ 63) ≤ (k : Int) ∧ (k : Int) < 2 ^ 63 from ⟨by omega, by omega⟩) ?_
        refine M.T_b (M.T_get (seqIx hkl) (M.T_b (M.T_get (List.getElem?_eq_getElem hkl) ?_)))
        have el : (((q.1.eraseIdx k).length : Nat) : Int) + 1 = ((q.1.length : Nat) : Int) := by
          rw [List.length_eraseIdx_of_lt hkl]
          omega
        refine M.T_b (M.T_b (M.T_ok ?_))
        rw [el]
        refine M.T_chk (cdiv (by omega) (by omega)) (M.T_ok ?_)
        have e0 := div_nn (b := ((q.1.length : Nat) : Int)) d3 (by omega)
        generalize q.2.1 / ((q.1.length : Nat) : Int) = v34 at e0 ⊢
        have hrow : (q.1[k]).2.length ≤ 80 := by
          have h1 : q.1[k] ∈ s.2 := d1.mem_iff.mpr (List.mem_append_right _ (List.getElem_mem hkl))
          obtain ⟨i, hi⟩ := List.mem_iff_getElem?.mp h1
          have h2 := pre_len (rows := s.2) i (rowT s.2 i).length (List.getElem?_eq_some_iff.mp hi).1 (Nat.le_refl _)
          rw [ends_len] at h2
          rw [row_some hi] at h2
          omega
        have hper : (q.1[k] :: q.1.eraseIdx k).Perm q.1 := cons_erase_perm _ k hkl
        generalize q.1[k] = v32 at hrow hper ⊢
        obtain ⟨sz, hsz⟩ : ∃ sz : Nat, (if ((v32.2.length : Nat) : Int) > (1 : Int) then ((v32.2.length : Nat) : Int) else (1 : Int)) = (sz : Int) ∧ 1 ≤ sz ∧ sz ≤ 80 ∧ (sz ≤ v32.2.length ∨ sz = 1) := by
          refine ⟨max 1 v32.2.length, ?_, by omega, by omega, by omega⟩
          split <;> omega
        obtain ⟨hz0, hz1, hz2, hz3⟩ := hsz
        refine M.T_b (M.T_ok ?_)
        rw [hz0]
        have n0 := Int.emod_nonneg v34 (show (sz : Int) ≠ 0 by omega)
        have n1 := Int.emod_lt_of_pos v34 (show (0 : Int) < (sz : Int) by omega)
        obtain ⟨c, hc⟩ : ∃ c : Nat, v34 % (sz : Int) = (c : Int) := ⟨(v34 % (sz : Int)).toNat, by omega⟩
        have hcl : c ≤ v32.2.length := by omega
        refine M.T_b (M.T_b (M.T_b (M.T_b (M.T_b (M.T_chk (cpos (by omega)) (M.T_ok (M.T_ok (M.T_ok ?_))))))))
        refine M.T_b (M.T_b (M.T_b (M.T_chk (cpos (by omega)) (M.T_ok (M.T_ok (M.T_ok ?_))))))
        rw [hc, cut_drop _ _ hcl, cut_take _ _ hcl]
        refine M.T_chk (line_of (by rw [List.length_drop, List.length_take]; omega)) ?_
        (repeat' (first | with_reducible refine M.T_b ?_ | with_reducible refine M.T_ok ?_ | (with_reducible refine M.T_chk ?hc ?_; (case hc => (first | assumption | exact cpos (by omega) | exact cdiv (by omega) (by omega) | exact rng_side (by omega) | (unfold CPow; decide) | decide | omega))) | with_reducible refine M.T_cl ?_ | with_reducible refine M.T_orRl ?_ | with_reducible refine M.T_orRr ?_))
        refine M.T_chk (line_lt (by rw [← d2.len]; omega)) ?_
        refine M.T_b (M.T_chk (cdiv (by omega) (by omega)) (M.T_ok (M.T_ok ⟨⟨done ++ [v32], ?_, ?_, ?_⟩, ?_⟩)))
        · refine d1.trans ?_
          rw [List.append_assoc]
          exact (hper.symm.append_left _)
        · exact d2.snoc ⟨rfl, c, hcl, rfl⟩
        · exact div_nn e0 (by omega)
        · show (q.1.eraseIdx k).length < q.1.length
          rw [List.length_eraseIdx_of_lt hkl]
          omega) (s.2, s.1, []) ⟨[], .refl _, .nil, s0⟩
  refine M.T_of ew (M.T_ok ?_)
  have w0 : w.1 = [] := by
    have okw : Dd.Ok w.1 ∧ Dd.Ok ([] : RowsT) := ⟨fun x hx => okn x (w1.mem_iff.mpr (List.mem_append_right _ hx)), fun x hx => by cases hx⟩
    rw [M.chk_of okw] at wc
    have : (!decide (w.1 = [])) = false := by injection wc
    exact of_decide_eq_true (by simpa using this)
  rw [w0, List.append_nil] at w1
  obtain ⟨r1, r2⟩ := rot_ties w2
  have pt := (perm_ties w1).trans r1
  refine ⟨⟨⟨s.2, done, s1, w1, w2⟩, fun n hn => ?_, fun t ht => ?_, by rw [← pt.length_eq]; omega, by rw [← w2.len, ← w1.length_eq]; omega⟩, by rw [← pt.length_eq]; exact tlen⟩
  · rw [← r2] at hn
    have := ((w1.map (·.1)).mem_iff).mpr hn
    rw [s2] at this
    exact names_nm _ _ n this
  · exact names_nm _ _ t (dbl_count.mp (s4.mem_iff.mp (pt.mem_iff.mpr ht)))
end Tw
set_option Elab.async false
set_option linter.all false
set_option maxRecDepth 100000
set_option maxHeartbeats 4000000
namespace Tw
open PySem PySem.Spec L2 TL
open PyProof.Rows hiding St
abbrev n_Turns_init : List Str := ["self", "rows", "first", "point", "ties", "place", "tie", "end"]
noncomputable def F_Turns_init (p1 : (List (Str × (List Str)))) : M TurnsD :=
  (M.b (M.ok ([] : (List (Str × Int)))) fun a2 => (M.b (M.ok (⟨[]⟩ : (Dk Str Int))) fun a4 => (M.b (M.ok (⟨[]⟩ : (Dt (Str × Int) Str))) fun a6 => (M.b (M.ok (⟨[]⟩ : (Dt (Str × Int) (Str × Int)))) fun a8 => (M.b (M.ok (⟨[]⟩ : (Dk Str (Str × Int)))) fun v9 => (M.b (M.for_ (fun (s10 : TurnsD × (Dk Str (Str × Int))) (x11 : (Str × (List Str))) => (M.b (M.ok ((x11.2.length : Nat) : Int)) fun a12 => M.b (M.ok x11.1) fun k13 => M.chk (s10.1.sizes.l.length < sizeLine) (M.b (M.for_ (fun (s14 : TurnsD × (Dk Str (Str × Int))) (x15 : (Int × Str)) => (M.b (M.ok (x11.1, x15.1)) fun v16 => (M.b (M.ok v16) fun a17 => M.chk (s14.1.order.length < sizeLine) (M.b (M.ok x15.2) fun a18 => M.b (M.ok v16) fun k19 => M.chk (s14.1.signs.l.length < sizeLine) (if ((dget s14.2.l x15.2).isSome) = true then (M.b (M.get (dget s14.2.l x15.2)) fun a20 => M.b (M.ok v16) fun k21 => M.chk (s14.1.mates.l.length < sizeLine) (M.b (M.ok v16) fun a22 => M.b (M.get (dget s14.2.l x15.2)) fun k23 => M.chk ((⟨dput s14.1.mates.l k21 a20⟩ : (Dt (Str × Int) (Str × Int))).l.length < sizeLine) (M.ok ((⟨(s14.1.order ++ [a17]), s14.1.sizes, (⟨dput s14.1.signs.l k19 a18⟩ : (Dt (Str × Int) Str)), (⟨dput (⟨dput s14.1.mates.l k21 a20⟩ : (Dt (Str × Int) (Str × Int))).l k23 a22⟩ : (Dt (Str × Int) (Str × Int)))⟩ : TurnsD), s14.2)))) else (M.b (M.ok v16) fun a24 => M.b (M.ok x15.2) fun k25 => M.chk (s14.2.l.length < sizeLine) (M.ok ((⟨(s14.1.order ++ [a17]), s14.1.sizes, (⟨dput s14.1.signs.l k19 a18⟩ : (Dt (Str × Int) Str)), s14.1.mates⟩ : TurnsD), (⟨dput s14.2.l k25 a24⟩ : (Dk Str (Str × Int))))))))))) (enu x11.2) ((⟨s10.1.order, (⟨dput s10.1.sizes.l k13 a12⟩ : (Dk Str Int)), s10.1.signs, s10.1.mates⟩ : TurnsD), s10.2)) fun s26 => (M.ok ((⟨s26.1.order, s26.1.sizes, s26.1.signs, s26.1.mates⟩ : TurnsD), s26.2))))) p1 ((⟨a2, a4, a6, a8⟩ : TurnsD), v9)) fun s27 => (M.ok (⟨s27.1.order, s27.1.sizes, s27.1.signs, s27.1.mates⟩ : TurnsD))))))))
def sp_Turns_init (G : Gb) : Sp := spI G (fun (p : (List (Str × (List Str)))) => [.bw p]) (fun (p : (List (Str × (List Str)))) => F_Turns_init p)
def t_Turns_init (G : Gb) : TS :=
  (tSeq (sFld G.K (tVar 0) (tLst tNil) "order") (tSeq (sFld G.K (tVar 0) tDNewK "sizes") (tSeq (sFld G.K (tVar 0) tDNewT "signs") (tSeq (sFld G.K (tVar 0) tDNewT "mates") (tSeq (tAsg tDNewK (gName 2)) (tFor (iList G.K (tVar 1)) (gTup G.K 2 (gCons (gName 3) (gCons (gName 4) gNil)))
  (tSeq (sDPut (tFld G.K (tVar 0) "sizes") (tVar 3) (tCB (qLenQ G.K) (tCons (tVar 4) tNil))) (tFor (iEnum G.K (tCons (tVar 4) tNil)) (gTup G.K 2 (gCons (gName 5) (gCons (gName 6) gNil)))
  (tSeq (tAsg (tTup (tCons (tVar 3) (tCons (tVar 5) tNil))) (gName 7)) (tSeq (tDrop (tBM G.K "list" rAppend (tFld G.K (tVar 0) "order") (tCons (tVar 7) tNil))) (tSeq (sDPut (tFld G.K (tVar 0) "signs") (tVar 7) (tVar 6)) (tIfS (tB (tDIn (tVar 6) (tVar 2)))
  (tSeq (sDPut (tFld G.K (tVar 0) "mates") (tVar 7) (tDGet (tVar 2) (tVar 6))) (sDPut (tFld G.K (tVar 0) "mates") (tDGet (tVar 2) (tVar 6)) (tVar 7)))
  (sDPut (tVar 2) (tVar 6) (tVar 7))))))))))))))
theorem len_Turns_init {G : Gb} (vs : List V) (H : Hp) (Q : VK) (E : XK) (h : sp_Turns_init G vs H Q E) : vs.length = 2 := spI_len h fun _ => rfl
theorem rn_Turns_init {G : Gb} [ClsF G TurnsD] {B : Hp} {E : XK} {pa dx : Addr} (p1 : (List (Str × (List Str)))) : Run G B E (oI G B pa dx) [some (.ins pa (G.cl (Ins.nm TurnsD)) dx (Ins.ns TurnsD) []), some (.bw p1), none, none, none, none, none, none] (t_Turns_init G) (F_Turns_init p1) := by
  have h : Run G B E (oI (D := TurnsD) G B pa dx) [some (.ins pa (G.cl (Ins.nm TurnsD)) dx (Ins.ns TurnsD) []), some (.bw p1), none, none, none, none, none, none] (t_Turns_init G) _ := (runI_new (D := TurnsD) (i := 0) (j := 0) (f := "order") rfl rfl (by decide +kernel) (by decide) (en_nil (α := (Str × Int))) (fun q1 a2 => (runI_new (D := TurnsD) (i := 0) (j := 1) (f := "sizes") rfl rfl (by decide +kernel) (by decide) (en_dK (κ := Str) (α := Int)) (fun q3 a4 => (runI_new (D := TurnsD) (i := 0) (j := 2) (f := "signs") rfl rfl (by decide +kernel) (by decide) (en_dT (κ := (Str × Int)) (α := Str)) (fun q5 a6 => (runI_new (D := TurnsD) (i := 0) (j := 3) (f := "mates") rfl rfl (by decide +kernel) (by decide) (en_dT (κ := (Str × Int)) (α := (Str × Int))) (fun q7 a8 => (run_asgN (en_dK (κ := Str) (α := (Str × Int))) (fun v9 => (run_last (run_seq (EX := fun (s : TurnsD × (Dk Str (Str × Int))) => [some (.ins pa (G.cl (Ins.nm TurnsD)) dx (Ins.ns TurnsD) [(q1, ⟨s.1.order⟩), (q3, ⟨s.1.sizes⟩), (q5, ⟨s.1.signs⟩), (q7, ⟨s.1.mates⟩)]), some (.bw p1), some (.ow s.2), none, none, none, none, none]) (run_for (bind := fun (x : (Str × (List Str))) (r : Evr) => ((r.set 3 (some (.fz x.1))).set 4 (some (.bw x.2)))) (s0 := ((⟨a2, a4, a6, a8⟩ : TurnsD), v9)) (ew_B (ev_bw rfl) (tg_pair tg_S tg_B)) (.keep (.keep (.keep (.drop (.drop (.drop (.drop (.drop Wk.nil)))))))) (fun s10 x11 => (runI_dputK (D := TurnsD) (i := 0) (j := 1) (f := "sizes") rfl (by decide +kernel) rfl (ev_len (mr := .F) (ev_bw rfl)) (ev_fz rfl) (fun a12 k13 => (run_last (run_seq (EX := fun (s : TurnsD × (Dk Str (Str × Int))) => [some (.ins pa (G.cl (Ins.nm TurnsD)) dx (Ins.ns TurnsD) [(q1, ⟨s.1.order⟩), (q3, ⟨s.1.sizes⟩), (q5, ⟨s.1.signs⟩), (q7, ⟨s.1.mates⟩)]), some (.bw p1), some (.ow s.2), some (.fz x11.1), some (.bw x11.2), none, none, none]) (run_for (bind := fun (x : (Int × Str)) (r : Evr) => ((r.set 5 (some (.fz x.1))).set 6 (some (.fz x.2)))) (s0 := ((⟨s10.1.order, (⟨dput s10.1.sizes.l k13 a12⟩ : (Dk Str Int)), s10.1.signs, s10.1.mates⟩ : TurnsD), s10.2)) (ew_enuB (ev_bw rfl) tg_S tg_S) (.keep (.keep (.keep (.keep (.keep (.drop (.drop (.drop Wk.nil)))))))) (fun s14 x15 => (run_asg (bind := fun (x : (Str × Int)) (r : Evr) => (r.set 7 (some (.fz x)))) (ev_pair (ev_fz rfl) (ev_fz rfl)) tg_F (fun v16 => (runI_app (D := TurnsD) (i := 0) (j := 0) (f := "order") rfl (by decide +kernel) rfl (ev_fz rfl) (fun a17 => (runI_dputT (D := TurnsD) (i := 0) (j := 2) (f := "signs") rfl (by decide +kernel) rfl (ev_fz rfl) (ev_fz rfl) (fun a18 k19 => (run_if (evT_B (ev_dinK (mr := .F) (ev_fz rfl) (ev_ow rfl))) (runI_dputT (D := TurnsD) (i := 0) (j := 3) (f := "mates") rfl (by decide +kernel) rfl (ev_dgetKo rfl (ev_fz rfl)) (ev_fz rfl) (fun a20 k21 => (run_last (runI_dputT (D := TurnsD) (i := 0) (j := 3) (f := "mates") rfl (by decide +kernel) rfl (ev_fz rfl) (ev_dgetKo rfl (ev_fz rfl)) (fun a22 k23 => (run_next (s := ((⟨(s14.1.order ++ [a17]), s14.1.sizes, (⟨dput s14.1.signs.l k19 a18⟩ : (Dt (Str × Int) Str)), (⟨dput (⟨dput s14.1.mates.l k21 a20⟩ : (Dt (Str × Int) (Str × Int))).l k23 a22⟩ : (Dt (Str × Int) (Str × Int)))⟩ : TurnsD), s14.2)) (.keep (.keep (.keep (.keep (.keep (.drop (.drop (.drop Wk.nil)))))))))))))) (run_last (run_dputK rfl (ev_fz rfl) (ev_fz rfl) (fun a24 k25 => (run_next (s := ((⟨(s14.1.order ++ [a17]), s14.1.sizes, (⟨dput s14.1.signs.l k19 a18⟩ : (Dt (Str × Int) Str)), s14.1.mates⟩ : TurnsD), (⟨dput s14.2.l k25 a24⟩ : (Dk Str (Str × Int))))) (.keep (.keep (.keep (.keep (.keep (.drop (.drop (.drop Wk.nil))))))))))))))))))))) (fun s26 => (run_next (s := ((⟨s26.1.order, s26.1.sizes, s26.1.signs, s26.1.mates⟩ : TurnsD), s26.2)) (.keep (.keep (.keep (.drop (.drop (.drop (.drop (.drop Wk.nil)))))))))))))))) (fun s27 => (run_nextI (i := 0) rfl rfl))))))))))))))
  exact h
theorem run_Turns_init {G : Gb} [ClsF G TurnsD] {vs : List V} {H : Hp} {Q : VK} {E : XK} (h : sp_Turns_init G vs H Q E) : t_Turns_init G (dEnd Q) (start n_Turns_init vs) H := spI_run (n := 6) h (fun _ => rfl) fun p a dx B => rn_Turns_init p
abbrev n_Turns_over : List Str := ["self", "end"]
noncomputable def F_Turns_over (p0 : TurnsD) (p1 : (Str × Int)) : M (Str × Int) :=
  (M.get (dget p0.mates.l p1))
def sp_Turns_over (G : Gb) : Sp := spA G (fun (p : TurnsD × (Str × Int)) => [.fz (p.1), .bw (p.2)]) (rpF G) (fun (p : TurnsD × (Str × Int)) => F_Turns_over (p.1) (p.2))
def t_Turns_over (G : Gb) : TS :=
  (tRet (tDGet (tFld G.K (tVar 0) "mates") (tVar 1)))
theorem len_Turns_over {G : Gb} (vs : List V) (H : Hp) (Q : VK) (E : XK) (h : sp_Turns_over G vs H Q E) : vs.length = 2 := spA_len h fun _ => rfl
theorem rn_Turns_over {G : Gb} [ClsF G TurnsD] {B : Hp} {E : XK} (p0 : TurnsD) (p1 : (Str × Int)) : Run G B E (oR G B (rpF G)) [some (.fz p0), some (.bw p1)] (t_Turns_over G) (F_Turns_over p0 p1) := by
  have h : Run G B E (oR G B (rpF G)) [some (.fz p0), some (.bw p1)] (t_Turns_over G) _ := (run_ret (ev_dgetT (ev_fld (D := TurnsD) (f := "mates") (j := 3) (g := TurnsD.mates) (ev_fz rfl) (by decide +kernel) (fun _ => rfl)) (ev_bw rfl)))
  exact h
theorem run_Turns_over {G : Gb} [ClsF G TurnsD] {vs : List V} {H : Hp} {Q : VK} {E : XK} (h : sp_Turns_over G vs H Q E) : t_Turns_over G (dEnd Q) (start n_Turns_over vs) H := spA_run (n := 0) h (fun _ => rfl) fun p B => rn_Turns_over (p.1) (p.2)
end Tw
set_option Elab.async false
set_option linter.all false
set_option maxRecDepth 100000
set_option maxHeartbeats 4000000
namespace Tw
open PySem PySem.Spec L2 TL
open PyProof.Rows hiding St
def pnm (rows : RowsT) (r : Nat) : Str := ((rows[r]?).map (·.1)).getD (Str.ofString "")
def nE (rows : RowsT) (e : NE) : Str × Int := (pnm rows e.1, (e.2 : Int))
theorem pnm_at {rows : RowsT} {r : Nat} {x : Str × List Str} (h : rows[r]? = some x) : pnm rows r = x.1 := by
  unfold pnm
  rw [h]
  rfl
theorem pnm_inj {rows : RowsT} (nd : (rows.map (·.1)).Nodup) {a b : Nat} (ha : a < rows.length) (hb : b < rows.length) (h : pnm rows a = pnm rows b) : a = b := by
  rw [pnm_at (List.getElem?_eq_getElem ha), pnm_at (List.getElem?_eq_getElem hb)] at h
  refine (List.getElem?_inj (l := rows.map (·.1)) (by rw [List.length_map]; exact ha) nd).mp ?_
  rw [List.getElem?_map, List.getElem?_map, List.getElem?_eq_getElem ha, List.getElem?_eq_getElem hb]
  exact congrArg some h
theorem nE_inj {rows : RowsT} (nd : (rows.map (·.1)).Nodup) {a b : NE} (ha : a ∈ allE rows) (hb : b ∈ allE rows) (h : nE rows a = nE rows b) : a = b := by
  have h1 := pnm_inj nd (allE_row ha) (allE_row hb) (congrArg Prod.fst h)
  have h2 : (a.2 : Int) = (b.2 : Int) := congrArg Prod.snd h
  exact Prod.ext h1 (by omega)
structure TnOk (rows : RowsT) (t : TurnsD) : Prop where
  order : t.order = (allE rows).map (nE rows)
  sizes : ∀ r, r < rows.length → dget t.sizes.l (pnm rows r) = some ((rowT rows r).length : Int)
  signs : ∀ e ∈ allE rows, dget t.signs.l (nE rows e) = some (tieD rows e)
  mates : ∀ e ∈ allE rows, dget t.mates.l (nE rows e) = some (nE rows (mate rows e))
structure TI (rows : RowsT) (P : List NE) (n : Nat) (s : TurnsD × Dk Str (Str × Int)) : Prop where
  order : s.1.order = P.map (nE rows)
  sizes : ∀ r, r < n → dget s.1.sizes.l (pnm rows r) = some ((rowT rows r).length : Int)
  sizesL : s.1.sizes.l.length ≤ n
  signs : ∀ e ∈ P, dget s.1.signs.l (nE rows e) = some (tieD rows e)
  signsL : s.1.signs.l.length ≤ P.length
  first : ∀ t, dget s.2.l t = ((P.filter fun e => decide (tie? rows e = some t)).head?).map (nE rows)
  firstL : s.2.l.length ≤ P.length
  mates : ∀ e ∈ P, mate rows e ∈ P → dget s.1.mates.l (nE rows e) = some (nE rows (mate rows e))
  matesL : s.1.mates.l.length ≤ 2 * P.length
def preE (rows : RowsT) (n : Nat) : List NE := (List.range n).flatMap fun r => (List.range (rowT rows r).length).map fun p => (r, p)
def seqE (rows : RowsT) (n p : Nat) : List NE := preE rows n ++ (List.range p).map fun p => (n, p)
theorem preE_all (rows : RowsT) : preE rows rows.length = allE rows := rfl
theorem seqE_full (rows : RowsT) (n : Nat) : seqE rows n (rowT rows n).length = preE rows (n + 1) := by
  unfold seqE preE
  rw [List.range_succ, List.flatMap_append]
  simp
theorem seqE_zero (rows : RowsT) (n : Nat) : seqE rows n 0 = preE rows n := by unfold seqE; simp
theorem seqE_succ (rows : RowsT) (n p : Nat) : seqE rows n (p + 1) = seqE rows n p ++ [(n, p)] := by
  unfold seqE
  rw [List.range_succ, List.map_append, List.append_assoc]
  rfl
theorem mem_preE {rows : RowsT} {n : Nat} {e : NE} : e ∈ preE rows n ↔ e.1 < n ∧ e.2 < (rowT rows e.1).length := by
  unfold preE
  rw [List.mem_flatMap]
  constructor
  · rintro ⟨r, hr, h⟩
    obtain ⟨p, hp, rfl⟩ := List.mem_map.mp h
    exact ⟨List.mem_range.mp hr, List.mem_range.mp hp⟩
  · rintro ⟨h1, h2⟩
    exact ⟨e.1, List.mem_range.mpr h1, List.mem_map.mpr ⟨e.2, List.mem_range.mpr h2, rfl⟩⟩
theorem mem_seqE {rows : RowsT} {n p : Nat} {e : NE} : e ∈ seqE rows n p ↔ (e.1 < n ∧ e.2 < (rowT rows e.1).length) ∨ (e.1 = n ∧ e.2 < p) := by
  unfold seqE
  rw [List.mem_append, mem_preE, List.mem_map]
  constructor
  · rintro (h | ⟨q, hq, rfl⟩)
    · exact .inl h
    · exact .inr ⟨rfl, List.mem_range.mp hq⟩
  · rintro (h | ⟨h1, h2⟩)
    · exact .inl h
    · exact .inr ⟨e.2, List.mem_range.mpr h2, by rw [← h1]⟩
theorem seqE_len {rows : RowsT} {r p : Nat} (hr : r < rows.length) (hp : p ≤ (rowT rows r).length) : (seqE rows r p).length ≤ (allE rows).length := by
  have h := pre_len (rows := rows) r p hr hp
  have : ((List.range r).flatMap fun r => (List.range (rowT rows r).length).map fun p => (tieD rows (r, p), cI (r, p))).length = (preE rows r).length := by
    unfold preE
    rw [List.length_flatMap, List.length_flatMap]
    congr 1
    refine List.map_congr_left fun r _ => ?_
    simp
  unfold seqE
  rw [List.length_append, List.length_map, List.length_range]
  omega
theorem head_filter_mem {α : Type} {l : List α} {p : α → Bool} {a : α} (h : (l.filter p).head? = some a) : a ∈ l ∧ p a = true := List.mem_filter.mp (List.mem_of_mem_head? h)
end Tw
set_option Elab.async false
set_option linter.all false
set_option maxRecDepth 100000
set_option maxHeartbeats 4000000
namespace Tw
open PySem PySem.Spec L2 TL
open PyProof.Rows hiding St
/-- one end more -/
theorem TI.step {rows : RowsT} (h : NetP rows) {P : List NE} {n : Nat} {s : TurnsD × Dk Str (Str × Int)} (I : TI rows P n s) (hP : ∀ d ∈ P, d ∈ allE rows) {e : NE} (he : e ∈ allE rows) (hn : e ∉ P) {t : Str} (ht : tie? rows e = some t) :
    (∀ d, dget s.2.l t = some d → TI rows (P ++ [e]) n (⟨s.1.order ++ [nE rows e], s.1.sizes, ⟨dput s.1.signs.l (nE rows e) t⟩, ⟨dput (dput s.1.mates.l (nE rows e) d) d (nE rows e)⟩⟩, s.2)) ∧
    (dget s.2.l t = none → TI rows (P ++ [e]) n (⟨s.1.order ++ [nE rows e], s.1.sizes, ⟨dput s.1.signs.l (nE rows e) t⟩, s.1.mates⟩, ⟨dput s.2.l t (nE rows e)⟩)) := by
  have et : tieD rows e = t := by unfold tieD; rw [ht]; rfl
  obtain ⟨m1, m2, m3⟩ := mate_of h.two ht
  have hm := mate_mem h.two he
  have ord : s.1.order ++ [nE rows e] = (P ++ [e]).map (nE rows) := by rw [I.order, List.map_append]; rfl
  have sg : ∀ d ∈ P ++ [e], dget (dput s.1.signs.l (nE rows e) t) (nE rows d) = some (tieD rows d) := fun d hd => by
    rw [dget_dput]
    rcases List.mem_append.mp hd with w | w
    · rw [if_neg (fun z => hn (by rw [nE_inj h.nd he (hP d w) z]; exact w))]
      exact I.signs d w
    · rw [List.mem_singleton.mp w, if_pos rfl, et]
  have sgl : (dput s.1.signs.l (nE rows e) t).length ≤ (P ++ [e]).length := by
    have := dput_len s.1.signs.l (nE rows e) t
    have := I.signsL
    rw [List.length_append, List.length_singleton]
    omega
  have hl : (P ++ [e]).length = P.length + 1 := by simp
  constructor
  · intro d hd
    have hf := I.first t
    rw [hd] at hf
    obtain ⟨c, hc, rfl⟩ := Option.map_eq_some_iff.mp hf.symm
    obtain ⟨c1, c2⟩ := head_filter_mem hc
    have cm : c = mate rows e := by
      rcases m3 c (of_decide_eq_true c2) with w | w
      · exact absurd (w ▸ c1) hn
      · exact w
    subst cm
    refine ⟨ord, I.sizes, I.sizesL, sg, sgl, fun u => ?_, by rw [hl]; have := I.firstL; show s.2.l.length ≤ _; omega, fun a ha hb => ?_, ?_⟩
    · show dget s.2.l u = _
      rw [I.first u, List.filter_append]
      by_cases z : u = t
      · subst z
        rw [List.head?_append, hc]
        rfl
      · have : ([e].filter fun e => decide (tie? rows e = some u)) = [] := by
          rw [List.filter_eq_nil_iff]
          intro x hx w
          rw [List.mem_singleton.mp hx, ht] at w
          simp at w
          exact z w.symm
        rw [this, List.append_nil]
    · show dget (dput (dput s.1.mates.l (nE rows e) (nE rows (mate rows e))) (nE rows (mate rows e)) (nE rows e)) (nE rows a) = _
      rw [dget_dput, dget_dput]
      rcases List.mem_append.mp ha with w | w
      · by_cases z : a = mate rows e
        · rw [if_pos (by rw [z]), z, mate_mate h.two he]
        · rw [if_neg (fun q => z (nE_inj h.nd hm (hP a w) q).symm), if_neg (fun q => hn (by rw [nE_inj h.nd he (hP a w) q]; exact w))]
          refine I.mates a w ?_
          rcases List.mem_append.mp hb with v | v
          · exact v
          · exact absurd (by rw [← List.mem_singleton.mp v, mate_mate h.two (hP a w)]) z
      · rw [List.mem_singleton.mp w, if_neg (fun q => m2 (nE_inj h.nd hm he q)), if_pos rfl]
    · have q1 := dput_len s.1.mates.l (nE rows e) (nE rows (mate rows e))
      have q2 := dput_len (dput s.1.mates.l (nE rows e) (nE rows (mate rows e))) (nE rows (mate rows e)) (nE rows e)
      have := I.matesL
      rw [hl]
      show (dput (dput s.1.mates.l (nE rows e) (nE rows (mate rows e))) (nE rows (mate rows e)) (nE rows e)).length ≤ _
      omega
  · intro hd
    have hf := I.first t
    rw [hd] at hf
    have hnil : (P.filter fun e => decide (tie? rows e = some t)) = [] := by
      cases z : P.filter fun e => decide (tie? rows e = some t) with
      | nil => rfl
      | cons a r => rw [z] at hf; cases hf
    have no : ∀ c ∈ P, tie? rows c ≠ some t := fun c hc w => by
      have := List.filter_eq_nil_iff.mp hnil c hc
      exact this (decide_eq_true w)
    refine ⟨ord, I.sizes, I.sizesL, sg, sgl, fun u => ?_, ?_, fun a ha hb => ?_, by rw [hl]; have := I.matesL; show s.1.mates.l.length ≤ _; omega⟩
    · show dget (dput s.2.l t (nE rows e)) u = _
      rw [dget_dput, List.filter_append]
      by_cases z : t = u
      · subst z
        rw [if_pos rfl, hnil]
        simp [ht]
      · rw [if_neg z, I.first u]
        have : ([e].filter fun e => decide (tie? rows e = some u)) = [] := by
          rw [List.filter_eq_nil_iff]
          intro x hx w
          rw [List.mem_singleton.mp hx, ht] at w
          simp at w
          exact z w
        rw [this, List.append_nil]
    · have q1 := dput_len s.2.l t (nE rows e)
      have := I.firstL
      rw [hl]
      show (dput s.2.l t (nE rows e)).length ≤ _
      omega
    · show dget s.1.mates.l (nE rows a) = _
      rcases List.mem_append.mp ha with w | w
      · refine I.mates a w ?_
        rcases List.mem_append.mp hb with v | v
        · exact v
        · exfalso
          obtain ⟨u, hu⟩ := tie_some (hP a w)
          have := (mate_of h.two hu).1
          rw [List.mem_singleton.mp v, ht] at this
          cases this
          exact no a w hu
      · exfalso
        rw [List.mem_singleton.mp w] at hb
        rcases List.mem_append.mp hb with v | v
        · exact no _ v m1
        · exact m2 (List.mem_singleton.mp v)
theorem turns_T {rows : RowsT} (h : NetP rows) (hs : Sm rows) : (F_Turns_init rows).T (TnOk rows) := by
  unfold F_Turns_init
  have hl1 := hs.1
  have hl2 := hs.2
  (repeat' (first | with_reducible refine M.T_b ?_ | with_reducible refine M.T_ok ?_ | (with_reducible refine M.T_chk ?hc ?_; (case hc => (first | assumption | exact cpos (by omega) | exact cdiv (by omega) (by omega) | exact rng_side (by omega) | (unfold CPow; decide) | decide | omega))) | with_reducible refine M.T_cl ?_ | with_reducible refine M.T_orRl ?_ | with_reducible refine M.T_orRr ?_))
  refine M.T_for (fun ys s => TI rows (preE rows ys.length) ys.length s) ⟨rfl, fun r hr => (by cases hr), Nat.le_refl _, fun e he => (by cases he), Nat.le_refl _, fun t => rfl, Nat.le_refl _, fun e he => (by cases he), Nat.le_refl _⟩ (fun ys x zs s e I => ?_) fun s I => ?_
  · have hx : rows[ys.length]? = some x := by rw [e]; simp
    have hr : ys.length < rows.length := (List.getElem?_eq_some_iff.mp hx).1
    have hrow := row_some hx
    have hp := pnm_at hx
    refine M.T_b (M.T_ok (M.T_b (M.T_ok (M.T_chk (line_lt (by have := I.sizesL; omega)) ?_))))
    have I0 : TI rows (seqE rows ys.length 0) (ys.length + 1) (⟨s.1.order, ⟨dput s.1.sizes.l x.1 ((x.2.length : Nat) : Int)⟩, s.1.signs, s.1.mates⟩, s.2) := by
      rw [seqE_zero]
      refine ⟨I.order, fun r hr2 => ?_, ?_, I.signs, I.signsL, I.first, I.firstL, I.mates, I.matesL⟩
      · show dget (dput s.1.sizes.l x.1 _) (pnm rows r) = _
        rw [dget_dput, ← hp]
        by_cases z : r = ys.length
        · rw [if_pos (by rw [z]), z, hrow]
        · rw [if_neg (fun w => z (pnm_inj h.nd hr (by omega) w).symm)]
          exact I.sizes r (by omega)
      · have := dput_len s.1.sizes.l x.1 ((x.2.length : Nat) : Int)
        have := I.sizesL
        show (dput s.1.sizes.l x.1 _).length ≤ _
        omega
    refine M.T_b ?_
    refine M.T_for (fun us s => TI rows (seqE rows ys.length us.length) (ys.length + 1) s) I0 (fun us y vs s2 e2 J => ?_) fun s2 J => ?_
    · have hy : (enu x.2)[us.length]? = some y := by rw [e2]; simp
      obtain ⟨y1, y2⟩ := enu_at hy
      have hlt : us.length < (rowT rows ys.length).length := by rw [hrow]; exact (List.getElem?_eq_some_iff.mp y1).1
      have hE : ((ys.length, us.length) : NE) ∈ allE rows := mem_allE.mpr hlt
      have ht : tie? rows (ys.length, us.length) = some y.2 := by
        show (rowT rows ys.length)[us.length]? = _
        rw [hrow]
        exact y1
      have en : ((x.1, y.1) : Str × Int) = nE rows (ys.length, us.length) := by unfold nE; rw [hp, y2]
      have hn : ((ys.length, us.length) : NE) ∉ seqE rows ys.length us.length := fun w => by
        rcases mem_seqE.mp w with ⟨w, _⟩ | ⟨_, w⟩
        · exact absurd w (Nat.lt_irrefl _)
        · exact absurd w (Nat.lt_irrefl _)
      have hP : ∀ d ∈ seqE rows ys.length us.length, d ∈ allE rows := fun d hd => by
        rcases mem_seqE.mp hd with ⟨_, w⟩ | ⟨w1, w2⟩
        · exact mem_allE.mpr w
        · refine mem_allE.mpr ?_
          rw [w1]
          omega
      have pl := seqE_len (rows := rows) hr (Nat.le_of_lt hlt)
      obtain ⟨S1, S2⟩ := J.step h hP hE hn ht
      have el : (us ++ [y]).length = us.length + 1 := by simp
      rw [el, seqE_succ]
      have b1 := J.signsL
      have b2 := J.firstL
      have b3 := J.matesL
      have b4 : s2.1.order.length = (seqE rows ys.length us.length).length := by rw [J.order, List.length_map]
      rw [en]
      refine M.T_b (M.T_ok (M.T_b (M.T_ok (M.T_chk (line_lt (by omega)) (M.T_b (M.T_ok (M.T_b (M.T_ok (M.T_chk (line_lt (by omega)) ?_)))))))))
      refine M.T_ite (fun z => ?_) fun z => ?_
      · obtain ⟨d, hd⟩ := Option.isSome_iff_exists.mp z
        have b5 := dput_len s2.1.mates.l (nE rows (ys.length, us.length)) d
        refine M.T_b (M.T_get hd ?_)
        refine M.T_b (M.T_ok (M.T_chk (line_lt (by omega)) ?_))
        refine M.T_b (M.T_ok (M.T_b (M.T_get hd ?_)))
        refine M.T_chk (line_lt (by show (dput s2.1.mates.l (nE rows (ys.length, us.length)) d).length ≤ _; omega)) (M.T_ok ?_)
        exact S1 d hd
      · have hd : dget s2.2.l y.2 = none := by
          cases q : dget s2.2.l y.2 with
          | none => rfl
          | some d => rw [q] at z; exact absurd rfl z
        refine M.T_b (M.T_ok (M.T_b (M.T_ok (M.T_chk (line_lt (by omega)) (M.T_ok ?_)))))
        exact S2 hd
    · rw [enu_len, ← hrow, seqE_full] at J
      have el : (ys ++ [x]).length = ys.length + 1 := by simp
      rw [el]
      exact M.T_ok J
  · rw [preE_all] at I
    exact M.T_ok ⟨I.order, I.sizes, I.signs, fun e he => I.mates e he (mate_mem h.two he)⟩
end Tw
set_option Elab.async false
set_option linter.all false
set_option maxRecDepth 100000
set_option maxHeartbeats 4000000
namespace Tw
open PySem PySem.Spec L2 TL
open PyProof.Rows hiding St
def sumS (a b : List Str) : List Str := srt (a.filter (fun x => !decide (x ∈ b)) ++ b.filter (fun x => !decide (x ∈ a)))
theorem mem_sum {a b : List Str} {x : Str} : x ∈ sumS a b ↔ (x ∈ a ∧ x ∉ b) ∨ (x ∈ b ∧ x ∉ a) := by
  unfold sumS
  rw [srt_mem, List.mem_append, List.mem_filter, List.mem_filter]
  simp
theorem sum_sorted (a b : List Str) : Sorted (sumS a b) := srt_sorted _
theorem sum_nodup {a b : List Str} (ha : a.Nodup) (hb : b.Nodup) : (sumS a b).Nodup := by
  refine srt_nodup (List.nodup_append.mpr ⟨ha.filter _, hb.filter _, fun x hx y hy e => ?_⟩)
  rw [← e] at hy
  have h1 := (List.mem_filter.mp hx).1
  have h2 := (List.mem_filter.mp hy).2
  simp [h1] at h2
end Tw
set_option Elab.async false
set_option linter.all false
set_option maxRecDepth 100000
set_option maxHeartbeats 4000000
namespace Tw
open PySem PySem.Spec L2 TL
open PyProof.Rows hiding St
abbrev n__law_copy : List Str := ["_law_rows", "_law_row"]
noncomputable def F__law_copy (p0 : (List (Str × (List Str)))) : M (List (Str × (List Str))) :=
  (M.chk (p0.length ≤ sizeLine) (M.lc (fun (y1 : (Str × (List Str))) => (M.ok true)) (fun (y1 : (Str × (List Str))) => (M.ok (y1.1, y1.2))) p0))
def sp__law_copy (G : Gb) : Sp := spA G (fun (p : (List (Str × (List Str)))) => [.bw p]) (rpN G) (fun (p : (List (Str × (List Str)))) => F__law_copy p)
def t__law_copy (G : Gb) : TS :=
  (tRet (tLc (iList G.K (tVar 0)) (gName 1) tYes (tTup (tCons (tOp (rIxT G.K) (tVar 1) (tC (.int 0))) (tCons (tCB (qListOf G.K) (tCons (tOp (rIxT G.K) (tVar 1) (tC (.int 1))) tNil)) tNil))) [1]))
theorem len__law_copy {G : Gb} (vs : List V) (H : Hp) (Q : VK) (E : XK) (h : sp__law_copy G vs H Q E) : vs.length = 1 := spA_len h fun _ => rfl
theorem rn__law_copy {G : Gb} {B : Hp} {E : XK} (p0 : (List (Str × (List Str)))) : Run G B E (oR G B (rpN G)) [some (.bw p0), none] (t__law_copy G) (F__law_copy p0) := by
  have h : Run G B E (oR G B (rpN G)) [some (.bw p0), none] (t__law_copy G) _ := (run_retN (en_lc (te := (tTup (tCons (tOp (rIxT G.K) (tVar 1) (tC (.int 0))) (tCons (tCB (qListOf G.K) (tCons (tOp (rIxT G.K) (tVar 1) (tC (.int 1))) tNil)) tNil)))) (bind := fun (x : (Str × (List Str))) (r : Evr) => (r.set 1 (some (.bw x)))) (ew_B (ev_bw rfl) tg_B) (fun y1 => evT_yes) (fun y1 => (ev_pair (Ev.sc (md' := .F) (ev_p1 (ev_bw rfl))) (EvN.F (en_listOf (es_sc (ev_p2 (ev_bw rfl)))))))))
  exact h
theorem run__law_copy {G : Gb} {vs : List V} {H : Hp} {Q : VK} {E : XK} (h : sp__law_copy G vs H Q E) : t__law_copy G (dEnd Q) (start n__law_copy vs) H := spA_run (n := 1) h (fun _ => rfl) fun p B => rn__law_copy p
theorem copy_ok (rows : RowsT) (h : rows.length ≤ 1000) : F__law_copy rows = .ok rows := by
  unfold F__law_copy
  rw [chk_line (by omega), M.lc_mapp]
  simp
/-- the keys of the seats -/
theorem seat_keys {rows : RowsT} {x : Str} : x ∈ (grp (endL rows)).map (·.1) ↔ x ∈ ties rows := by
  rw [(grp_keys (endL rows)).2.2]
  unfold endL
  rw [List.map_map, List.mem_map]
  constructor
  · rintro ⟨e, he, rfl⟩
    obtain ⟨t, ht⟩ := tie_some he
    show tieD rows e ∈ _
    unfold tieD
    rw [ht]
    exact tie_in ht
  · intro h
    have : some x ∈ (ties rows).map some := List.mem_map.mpr ⟨x, h, rfl⟩
    rw [← allE_ties] at this
    obtain ⟨e, he, e2⟩ := List.mem_map.mp this
    refine ⟨e, he, ?_⟩
    show tieD rows e = x
    unfold tieD
    rw [e2]
    rfl
/-- the ties, in the order of the texts, once each -/
def tiesS (rows : RowsT) : List Str := srt ((grp (endL rows)).map (·.1))
theorem mem_tiesS {rows : RowsT} {x : Str} : x ∈ tiesS rows ↔ x ∈ ties rows := by
  unfold tiesS
  rw [srt_mem, seat_keys]
theorem dbl_len : ∀ (l : List Str), l.Nodup → ∀ m : List Str, (∀ x ∈ l, 2 ≤ m.count x) → 2 * l.length ≤ m.length
  | [], _, m, _ => Nat.zero_le _
  | a :: r, h, m, k => by
    have h1 := List.nodup_cons.mp h
    have h2 : ((m.erase a).erase a).length + 2 = m.length := by
      have c := k a (by simp)
      have m1 : a ∈ m := List.count_pos_iff.mp (by omega)
      have m2 : a ∈ m.erase a := List.count_pos_iff.mp (by rw [List.count_erase_self]; omega)
      have l1 := List.length_erase_of_mem m1
      have l2 := List.length_erase_of_mem m2
      have := List.length_pos_of_mem m1
      have := List.length_pos_of_mem m2
      omega
    have h3 := dbl_len r h1.2 ((m.erase a).erase a) fun x hx => by
      have ne : x ≠ a := fun e => h1.1 (e ▸ hx)
      rw [List.count_erase_of_ne ne, List.count_erase_of_ne ne]
      exact k x (by simp [hx])
    rw [List.length_cons]
    omega
end Tw
set_option Elab.async false
set_option linter.all false
set_option maxRecDepth 100000
set_option maxHeartbeats 4000000
set_option Elab.async false
set_option linter.all false
set_option maxRecDepth 100000
set_option maxHeartbeats 4000000
namespace Tw
open PySem PySem.Spec L2 TL
open PyProof.Rows hiding St
abbrev n_ties_of : List Str := ["rows", "seen", "point", "ties", "tie"]
noncomputable def F_ties_of (p0 : (List (Str × (List Str)))) : M (List Str) :=
  (M.b (M.ok (⟨[]⟩ : (Dk Str Bool))) fun v1 => (M.b (M.for_ (fun (s2 : (Dk Str Bool)) (x3 : (Str × (List Str))) => (M.b (M.for_ (fun (s4 : (Dk Str Bool)) (x5 : Str) => (M.b (M.ok true) fun a6 => M.b (M.ok x5) fun k7 => M.chk (s4.l.length < sizeLine) (M.ok (⟨dput s4.l k7 a6⟩ : (Dk Str Bool))))) x3.2 s2) fun s8 => (M.ok s8))) p0 v1) fun s9 => (M.chk ((keysOf s9).length < 64) (M.ok (srt (keysOf s9))))))
def sp_ties_of (G : Gb) : Sp := spA G (fun (p : (List (Str × (List Str)))) => [.bw p]) (rpN G) (fun (p : (List (Str × (List Str)))) => F_ties_of p)
def t_ties_of (G : Gb) : TS :=
  (tSeq (tAsg tDNewK (gName 1)) (tSeq (tFor (iList G.K (tVar 0)) (gTup G.K 2 (gCons (gName 2) (gCons (gName 3) gNil)))
  (tFor (iList G.K (tVar 3)) (gName 4)
  (sDPut (tVar 1) (tVar 4) (tC (.bl true)))))
  (tRet (tCB qSortedD (tCons (tVar 1) tNil)))))
theorem len_ties_of {G : Gb} (vs : List V) (H : Hp) (Q : VK) (E : XK) (h : sp_ties_of G vs H Q E) : vs.length = 1 := spA_len h fun _ => rfl
theorem rn_ties_of {G : Gb} {B : Hp} {E : XK} (p0 : (List (Str × (List Str)))) : Run G B E (oR G B (rpN G)) [some (.bw p0), none, none, none, none] (t_ties_of G) (F_ties_of p0) := by
  have h : Run G B E (oR G B (rpN G)) [some (.bw p0), none, none, none, none] (t_ties_of G) _ := (run_asgN (en_dK (κ := Str) (α := Bool)) (fun v1 => (run_seq (EX := fun (s : (Dk Str Bool)) => [some (.bw p0), some (.ow s), none, none, none]) (run_for (bind := fun (x : (Str × (List Str))) (r : Evr) => ((r.set 2 (some (.fz x.1))).set 3 (some (.bw x.2)))) (s0 := v1) (ew_B (ev_bw rfl) (tg_pair tg_S tg_B)) (.keep (.keep (.drop (.drop (.drop Wk.nil))))) (fun s2 x3 => (run_last (run_seq (EX := fun (s : (Dk Str Bool)) => [some (.bw p0), some (.ow s), some (.fz x3.1), some (.bw x3.2), none]) (run_for (bind := fun (x : Str) (r : Evr) => (r.set 4 (some (.fz x)))) (s0 := s2) (ew_B (ev_bw rfl) tg_S) (.keep (.keep (.keep (.keep (.drop Wk.nil))))) (fun s4 x5 => (run_last (run_dputK rfl (ev_bl (md := .F)) (ev_fz rfl) (fun a6 k7 => (run_next (s := (⟨dput s4.l k7 a6⟩ : (Dk Str Bool))) (.keep (.keep (.keep (.keep (.drop Wk.nil))))))))))) (fun s8 => (run_next (s := s8) (.keep (.keep (.drop (.drop (.drop Wk.nil))))))))))) (fun s9 => (run_retN (en_sortedD (ev_ow rfl)))))))
  exact h
theorem run_ties_of {G : Gb} {vs : List V} {H : Hp} {Q : VK} {E : XK} (h : sp_ties_of G vs H Q E) : t_ties_of G (dEnd Q) (start n_ties_of vs) H := spA_run (n := 4) h (fun _ => rfl) fun p B => rn_ties_of p
/-- rows by their numbers -/
theorem M.T_rngs {rows : RowsT} {S : Type} {g : S → Int → M S} {p : S → Prop} (I : List NE → S → Prop) {s0 : S} (h0 : I [] s0) (hs : ∀ (r : Nat) x s, rows[r]? = some x → I (preE rows r) s → (g s (r : Int)).T (I (preE rows (r + 1)))) (hp : ∀ s, I (allE rows) s → p s) : (M.for_ g (rng 0 ((rows.length : Nat) : Int)) s0).T p := by
  refine M.T_rng (fun i s => I (preE rows i) s) h0 (fun i s hi h => hs i _ s (List.getElem?_eq_getElem (by omega)) h) fun s h => hp s ?_
  rw [show ((rows.length : Nat) : Int).toNat = rows.length by omega, preE_all] at h
  exact h
/-- the places of a row -/
theorem M.T_places {rows : RowsT} {r : Nat} {x : Str × List Str} {S : Type} {f : S → Int → M S} {p : S → Prop} (I : List NE → S → Prop) {s0 : S} (hx : rows[r]? = some x) (h0 : I (preE rows r) s0)
    (hs : ∀ (i : Nat) s, (r, i) ∈ allE rows → i < x.2.length → I (seqE rows r i) s → (f s (i : Int)).T (I (seqE rows r i ++ [(r, i)]))) (hp : ∀ s, I (preE rows (r + 1)) s → p s) : (M.for_ f (rng 0 ((x.2.length : Nat) : Int)) s0).T p := by
  have hrow := row_some hx
  refine M.T_rng (fun i s => I (seqE rows r i) s) (by rw [seqE_zero]; exact h0) (fun i s hi h => ?_) fun s h => hp s ?_
  · rw [seqE_succ]
    have hi' : i < x.2.length := by omega
    exact hs i s (mem_allE.mpr (by show i < (rowT rows r).length; rw [hrow]; exact hi')) hi' h
  · rw [show ((x.2.length : Nat) : Int).toNat = (rowT rows r).length by rw [hrow]; omega, seqE_full] at h
    exact h
theorem row_len {rows : RowsT} {r : Nat} {x : Str × List Str} (hx : rows[r]? = some x) (hs : Sm rows) : x.2.length ≤ 800 := by
  rw [← row_some hx]
  exact row_small hs r
theorem tieD_mem {rows : RowsT} {e : NE} (h : e ∈ allE rows) : tieD rows e ∈ ties rows := by
  obtain ⟨t, ht⟩ := tie_some h
  unfold tieD
  rw [ht]
  exact tie_in ht
theorem tieD_of {rows : RowsT} {e : NE} {t : Str} (h : tie? rows e = some t) : tieD rows e = t := by
  unfold tieD
  rw [h]
  rfl
section
variable {κ α : Type} [DecidableEq κ]
def uniq (l : List κ) : List κ := l.foldl (fun d x => if x ∈ d then d else d ++ [x]) []
theorem uniq_snoc (l : List κ) (x : κ) : uniq (l ++ [x]) = if x ∈ uniq l then uniq l else uniq l ++ [x] := by
  unfold uniq
  rw [List.foldl_append]
  rfl
theorem uniq_props (l : List κ) : (uniq l).Nodup ∧ (∀ x, x ∈ uniq l ↔ x ∈ l) ∧ (uniq l).length ≤ l.length := by
  refine snoc_ind (p := fun l => (uniq l).Nodup ∧ (∀ x, x ∈ uniq l ↔ x ∈ l) ∧ (uniq l).length ≤ l.length) ⟨.nil, fun _ => Iff.rfl, Nat.le_refl _⟩ (fun l x ⟨h1, h2, h3⟩ => ?_) l
  rw [uniq_snoc]
  split
  · rename_i h
    refine ⟨h1, fun y => ?_, by rw [List.length_append]; omega⟩
    rw [List.mem_append, h2, List.mem_singleton]
    exact ⟨.inl, fun q => q.elim id fun e => by rw [e]; exact (h2 x).mp h⟩
  · rename_i h
    refine ⟨?_, fun y => ?_, by rw [List.length_append, List.length_append]; simpa using h3⟩
    · rw [List.nodup_append]
      exact ⟨h1, by simp, fun a ha b hb e => h (by rw [← show b = x by simpa using hb, ← e]; exact ha)⟩
    · rw [List.mem_append, List.mem_append, h2]
theorem dput_uniq {d : List (κ × α)} {l : List κ} {k : κ} {a : α} (h : d.map (·.1) = uniq l) : (dput d k a).map (·.1) = uniq (l ++ [k]) := by
  rw [dput_keys, uniq_snoc, h]
end
theorem uniq_half {l : List Str} (h : ∀ t ∈ l, l.count t = 2) : 2 * (uniq l).length ≤ l.length := dbl_len _ (uniq_props l).1 _ fun x hx => by rw [h x ((uniq_props l).2.1 x |>.mp hx)]; exact Nat.le_refl 2
theorem ties_of_ok {rows : RowsT} (hs : Sm rows) (hu : (uniq (ties rows)).length < 64) : F_ties_of rows = .ok (srt (uniq (ties rows))) := by
  refine M.T_is ?_
  unfold F_ties_of
  have hl := hs.2
  rw [ends_len] at hl
  (repeat' (first | with_reducible refine M.T_b ?_ | with_reducible refine M.T_ok ?_ | (with_reducible refine M.T_chk ?hc ?_; (case hc => (first | assumption | exact cpos (by omega) | exact cdiv (by omega) (by omega) | exact rng_side (by omega) | (unfold CPow; decide) | decide | omega))) | with_reducible refine M.T_cl ?_ | with_reducible refine M.T_orRl ?_ | with_reducible refine M.T_orRr ?_))
  refine M.T_for (fun ys (s : Dk Str Bool) => s.l.map (·.1) = uniq (ties ys)) rfl (fun ys x zs s e i => ?_) fun s i => ?_
  · (repeat' (first | with_reducible refine M.T_b ?_ | with_reducible refine M.T_ok ?_ | (with_reducible refine M.T_chk ?hc ?_; (case hc => (first | assumption | exact cpos (by omega) | exact cdiv (by omega) (by omega) | exact rng_side (by omega) | (unfold CPow; decide) | decide | omega))) | with_reducible refine M.T_cl ?_ | with_reducible refine M.T_orRl ?_ | with_reducible refine M.T_orRr ?_))
    have hb : (ties ys).length + x.2.length ≤ (ties rows).length := by
      rw [e, ties_app, List.length_append]
      show _ ≤ _ + (x.2 ++ ties zs).length
      rw [List.length_append]
      omega
    refine M.T_for (fun us (s : Dk Str Bool) => s.l.map (·.1) = uniq (ties ys ++ us)) (by rw [List.append_nil]; exact i) (fun us y vs s2 e2 j => ?_) fun s2 j => ?_
    · have l1 : s2.l.length ≤ 800 := by
        have h1 := congrArg List.length j
        rw [List.length_map] at h1
        have h2 := (uniq_props (ties ys ++ us)).2.2
        rw [List.length_append] at h2
        have h3 : us.length ≤ x.2.length := by rw [e2]; simp
        omega
      refine M.T_b (M.T_ok (M.T_b (M.T_ok (M.T_chk (line_lt (by omega)) (M.T_ok ?_)))))
      rw [← List.append_assoc]
      exact dput_uniq j
    · refine M.T_ok ?_
      rw [ties_app]
      show _ = uniq (ties ys ++ (x.2 ++ []))
      rw [List.append_nil]
      exact j
  · refine M.T_chk (by show (s.l.map (·.1)).length < 64; rw [i]; exact hu) (M.T_ok ?_)
    show srt (s.l.map (·.1)) = _
    rw [i]
end Tw
set_option Elab.async false
set_option linter.all false
set_option maxRecDepth 100000
set_option maxHeartbeats 4000000
namespace Tw
open PySem PySem.Spec L2 TL
open PyProof.Rows hiding St
abbrev n__law_ties : List Str := ["_law_rows", "_law_found", "_law_point", "_law_row", "_law_tie"]
noncomputable def F__law_ties (p0 : (List (Str × (List Str)))) : M (List Str) :=
  (M.b (M.ok (⟨[]⟩ : (Dk Str Bool))) fun v1 => (M.b (M.for_ (fun (s2 : (Dk Str Bool)) (x3 : (Str × (List Str))) => (M.b (M.for_ (fun (s4 : (Dk Str Bool)) (x5 : Str) => (M.b (M.ok true) fun a6 => M.b (M.ok x5) fun k7 => M.chk (s4.l.length < sizeLine) (M.ok (⟨dput s4.l k7 a6⟩ : (Dk Str Bool))))) x3.2 s2) fun s8 => (M.ok s8))) p0 v1) fun s9 => (M.chk ((keysOf s9).length < 64) (M.ok (srt (keysOf s9))))))
def sp__law_ties (G : Gb) : Sp := spA G (fun (p : (List (Str × (List Str)))) => [.bw p]) (rpN G) (fun (p : (List (Str × (List Str)))) => F__law_ties p)
def t__law_ties (G : Gb) : TS :=
  (tSeq (tAsg tDNewK (gName 1)) (tSeq (tFor (iList G.K (tVar 0)) (gTup G.K 2 (gCons (gName 2) (gCons (gName 3) gNil)))
  (tFor (iList G.K (tVar 3)) (gName 4)
  (sDPut (tVar 1) (tVar 4) (tC (.bl true)))))
  (tRet (tCB (rSortedS G.K) (tCons (tCB qListD (tCons (tVar 1) tNil)) tNil)))))
theorem len__law_ties {G : Gb} (vs : List V) (H : Hp) (Q : VK) (E : XK) (h : sp__law_ties G vs H Q E) : vs.length = 1 := spA_len h fun _ => rfl
theorem rn__law_ties {G : Gb} {B : Hp} {E : XK} (p0 : (List (Str × (List Str)))) : Run G B E (oR G B (rpN G)) [some (.bw p0), none, none, none, none] (t__law_ties G) (F__law_ties p0) := by
  have h : Run G B E (oR G B (rpN G)) [some (.bw p0), none, none, none, none] (t__law_ties G) _ := (run_asgN (en_dK (κ := Str) (α := Bool)) (fun v1 => (run_seq (EX := fun (s : (Dk Str Bool)) => [some (.bw p0), some (.ow s), none, none, none]) (run_for (bind := fun (x : (Str × (List Str))) (r : Evr) => ((r.set 2 (some (.fz x.1))).set 3 (some (.bw x.2)))) (s0 := v1) (ew_B (ev_bw rfl) (tg_pair tg_S tg_B)) (.keep (.keep (.drop (.drop (.drop Wk.nil))))) (fun s2 x3 => (run_last (run_seq (EX := fun (s : (Dk Str Bool)) => [some (.bw p0), some (.ow s), some (.fz x3.1), some (.bw x3.2), none]) (run_for (bind := fun (x : Str) (r : Evr) => (r.set 4 (some (.fz x)))) (s0 := s2) (ew_B (ev_bw rfl) tg_S) (.keep (.keep (.keep (.keep (.drop Wk.nil))))) (fun s4 x5 => (run_last (run_dputK rfl (ev_bl (md := .F)) (ev_fz rfl) (fun a6 k7 => (run_next (s := (⟨dput s4.l k7 a6⟩ : (Dk Str Bool))) (.keep (.keep (.keep (.keep (.drop Wk.nil))))))))))) (fun s8 => (run_next (s := s8) (.keep (.keep (.drop (.drop (.drop Wk.nil))))))))))) (fun s9 => (run_retN (en_sorted (EvN.H (en_listD (ev_ow rfl)))))))))
  exact h
theorem run__law_ties {G : Gb} {vs : List V} {H : Hp} {Q : VK} {E : XK} (h : sp__law_ties G vs H Q E) : t__law_ties G (dEnd Q) (start n__law_ties vs) H := spA_run (n := 4) h (fun _ => rfl) fun p B => rn__law_ties p
theorem lties_ok {rows : RowsT} (hs : Sm rows) (hu : (uniq (ties rows)).length < 64) : F__law_ties rows = .ok (srt (uniq (ties rows))) := ties_of_ok hs hu
end Tw
set_option Elab.async false
set_option linter.all false
set_option maxRecDepth 100000
set_option maxHeartbeats 4000000
namespace Tw
open PySem PySem.Spec L2 TL
open PyProof.Rows hiding St
section
variable {κ α ε R : Type} [DecidableEq κ]
abbrev FlA (α : Type) := List (Nat × α) × List Nat
def est (up : α → ε → α) (ck : α → ε → α → Bool) (v : Nat) (A : FlA α) (e : Nat × ε) : Option (FlA α) := match dget A.1 v with
  | none => none
  | some x => match dget A.1 e.1 with
    | none => some (A.1 ++ [(e.1, up x e.2)], A.2 ++ [e.1])
    | some y => if ck x e.2 y = true then some A else none
def ests (up : α → ε → α) (ck : α → ε → α → Bool) (v : Nat) : FlA α → List (Nat × ε) → Option (FlA α)
  | A, [] => some A
  | A, e :: r => match est up ck v A e with
    | some A' => ests up ck v A' r
    | none => none
structure Fl (n : Nat) (out : Nat → List (Nat × ε)) (up : α → ε → α) (ck : α → ε → α → Bool) (Good : Nat → α → Prop) : Prop where
  lt : ∀ v, v < n → ∀ e ∈ out v, e.1 < n
  ok : ∀ x e, ck x e (up x e) = true
  go : ∀ v x, v < n → Good v x → ∀ e ∈ out v, Good e.1 (up x e.2)
/-- how it was come to -/
inductive FlT (out : Nat → List (Nat × ε)) (up : α → ε → α) (a0 : α) (b0 : Nat) : List (Nat × α) → Prop
  | zero : FlT out up a0 b0 [(b0, a0)]
  | step {L : List (Nat × α)} {v : Nat} {x : α} {e : Nat × ε} : FlT out up a0 b0 L → dget L v = some x → e ∈ out v → dget L e.1 = none → FlT out up a0 b0 (L ++ [(e.1, up x e.2)])
structure FlI (n : Nat) (out : Nat → List (Nat × ε)) (up : α → ε → α) (ck : α → ε → α → Bool) (Good : Nat → α → Prop) (a0 : α) (b0 : Nat) (ex : Nat → Prop) (A : FlA α) : Prop where
  nd : (A.1.map (·.1)).Nodup
  lt : ∀ p ∈ A.1, p.1 < n
  st : ∀ v ∈ A.2, v ∈ A.1.map (·.1)
  sn : A.2.Nodup
  good : ∀ v x, dget A.1 v = some x → Good v x
  zero : dget A.1 b0 = some a0
  tr : FlT out up a0 b0 A.1
  cl : ∀ v x, dget A.1 v = some x → v ∉ A.2 → ¬ ex v → ∀ e ∈ out v, ∃ y, dget A.1 e.1 = some y ∧ ck x e.2 y = true
/-- two that do not agree -/
def FlC (out : Nat → List (Nat × ε)) (ck : α → ε → α → Bool) (Good : Nat → α → Prop) : Prop := ∃ v x e y, Good v x ∧ e ∈ out v ∧ Good e.1 y ∧ ck x e.2 y = false
theorem dget_lt {A : FlA α} {v : Nat} {x : α} {n : Nat} (h : ∀ p ∈ A.1, p.1 < n) (e : dget A.1 v = some x) : v < n := by
  have : v ∈ A.1.map (·.1) := Classical.byContradiction fun w => by rw [dget_none.mpr w] at e; cases e
  obtain ⟨p, hp, rfl⟩ := List.mem_map.mp this
  exact h p hp
theorem mem_keys {κ β : Type} [DecidableEq κ] {L : List (κ × β)} {v : κ} : v ∈ L.map (·.1) ↔ ∃ x, dget L v = some x := by
  constructor
  · intro h
    cases e : dget L v with
    | none => exact absurd h (dget_none.mp e)
    | some x => exact ⟨x, rfl⟩
  · rintro ⟨x, e⟩
    exact Classical.byContradiction fun w => by rw [dget_none.mpr w] at e; cases e
variable {n : Nat} {out : Nat → List (Nat × ε)} {up : α → ε → α} {ck : α → ε → α → Bool} {Good : Nat → α → Prop} {a0 : α} {b0 : Nat}
theorem ests_inv (P : Fl n out up ck Good) {v : Nat} {x : α} : ∀ (es done : List (Nat × ε)) (A : FlA α), FlI n out up ck Good a0 b0 (· = v) A → dget A.1 v = some x → (∀ e ∈ done, ∃ y, dget A.1 e.1 = some y ∧ ck x e.2 y = true) → (∀ e ∈ es, e ∈ out v) →
    (∃ A', ests up ck v A es = some A' ∧ FlI n out up ck Good a0 b0 (· = v) A' ∧ dget A'.1 v = some x ∧ (∀ e ∈ done ++ es, ∃ y, dget A'.1 e.1 = some y ∧ ck x e.2 y = true) ∧ A'.1.length + A.2.length = A.1.length + A'.2.length ∧ A.1.length ≤ A'.1.length) ∨ (ests up ck v A es = none ∧ FlC out ck Good)
  | [], done, A, I, hv, hd, _ => .inl ⟨A, rfl, I, hv, by rw [List.append_nil]; exact hd, rfl, Nat.le_refl _⟩
  | e :: r, done, A, I, hv, hd, he => by
    have hve := he e List.mem_cons_self
    have hvn := dget_lt I.lt hv
    unfold ests est
    rw [hv]
    cases hw : dget A.1 e.1 with
    | none =>
      have ext : ∀ u y, dget A.1 u = some y → dget (A.1 ++ [(e.1, up x e.2)]) u = some y := fun u y h => by rw [dget_append, h]; rfl
      have new : dget (A.1 ++ [(e.1, up x e.2)]) e.1 = some (up x e.2) := by rw [dget_append, hw, dget_cons, if_pos rfl]; rfl
      have inv : ∀ u y, dget (A.1 ++ [(e.1, up x e.2)]) u = some y → dget A.1 u = some y ∨ (u = e.1 ∧ y = up x e.2) := fun u y h => by
        rw [dget_append] at h
        cases q : dget A.1 u with
        | some z => rw [q] at h; exact .inl h
        | none =>
          rw [q, dget_cons] at h
          by_cases z : e.1 = u
          · rw [if_pos z] at h; exact .inr ⟨z.symm, by cases h; rfl⟩
          · rw [if_neg z] at h; cases h
      have hns : e.1 ∉ A.2 := fun w => dget_none.mp hw (I.st _ w)
      have I' : FlI n out up ck Good a0 b0 (· = v) (A.1 ++ [(e.1, up x e.2)], A.2 ++ [e.1]) := by
        refine ⟨?_, fun p hp => ?_, fun u hu => ?_, ?_, fun u y h => ?_, ext _ _ I.zero, .step I.tr hv hve hw, fun u y h hu hex d hd2 => ?_⟩
        · show ((A.1 ++ [(e.1, up x e.2)]).map (·.1)).Nodup
          rw [List.map_append, List.nodup_append]
          exact ⟨I.nd, by simp, fun a ha b hb z => dget_none.mp hw (by rw [← show b = e.1 by simpa using hb, ← z]; exact ha)⟩
        · rcases List.mem_append.mp hp with h | h
          · exact I.lt p h
          · rw [List.mem_singleton.mp h]; exact P.lt v hvn e hve
        · show u ∈ (A.1 ++ [(e.1, up x e.2)]).map (·.1)
          rw [List.map_append, List.mem_append]
          rcases List.mem_append.mp hu with h | h
          · exact .inl (I.st u h)
          · exact .inr (by simpa using h)
        · show (A.2 ++ [e.1]).Nodup
          rw [List.nodup_append]
          exact ⟨I.sn, by simp, fun a ha b hb z => hns (by rw [← show b = e.1 by simpa using hb, ← z]; exact ha)⟩
        · rcases inv u y h with h | ⟨rfl, rfl⟩
          · exact I.good u y h
          · exact P.go v x hvn (I.good v x hv) e hve
        · rcases inv u y h with h | ⟨rfl, rfl⟩
          · obtain ⟨z, z1, z2⟩ := I.cl u y h (fun w => hu (List.mem_append_left _ w)) hex d hd2
            exact ⟨z, ext _ _ z1, z2⟩
          · exact absurd (List.mem_append_right _ (by simp)) hu
      rcases ests_inv P r (done ++ [e]) _ I' (ext _ _ hv) (fun d hd2 => by
        rcases List.mem_append.mp hd2 with h | h
        · obtain ⟨z, z1, z2⟩ := hd d h; exact ⟨z, ext _ _ z1, z2⟩
        · rw [List.mem_singleton.mp h]; exact ⟨_, new, P.ok _ _⟩) fun d h => he d (List.mem_cons_of_mem _ h) with ⟨A', k1, k2, k3, k4, k5, k6⟩ | ⟨k1, k2⟩
      · refine .inl ⟨A', k1, k2, k3, by rw [List.append_assoc] at k4; exact k4, ?_, ?_⟩
        · simp only [List.length_append, List.length_singleton] at k5; omega
        · simp only [List.length_append, List.length_singleton] at k6; omega
      · exact .inr ⟨k1, k2⟩
    | some y =>
      cases hc : ck x e.2 y with
      | true =>
        rcases ests_inv P r (done ++ [e]) A I hv (fun d hd2 => by
          rcases List.mem_append.mp hd2 with h | h
          · exact hd d h
          · rw [List.mem_singleton.mp h]; exact ⟨y, hw, hc⟩) fun d h => he d (List.mem_cons_of_mem _ h) with ⟨A', k1, k2, k3, k4, k5⟩ | ⟨k1, k2⟩
        · exact .inl ⟨A', by simp only [hc, if_pos]; exact k1, k2, k3, by rw [List.append_assoc] at k4; exact k4, k5⟩
        · exact .inr ⟨by simp only [hc, if_pos]; exact k1, k2⟩
      | false => exact .inr ⟨by simp [hc], v, x, e, y, I.good v x hv, hve, I.good _ y hw, hc⟩
/-- one turn -/
theorem turn_inv (P : Fl n out up ck Good) {A : FlA α} (I : FlI n out up ck Good a0 b0 (fun _ => False) A) {v : Nat} {st : List Nat} (hp : A.2.Perm (v :: st)) :
    (∃ A', ests up ck v (A.1, st) (out v) = some A' ∧ FlI n out up ck Good a0 b0 (fun _ => False) A' ∧ 2 * (n - A'.1.length) + A'.2.length < 2 * (n - A.1.length) + A.2.length) ∨ (ests up ck v (A.1, st) (out v) = none ∧ FlC out ck Good) := by
  have hv : v ∈ A.1.map (·.1) := I.st v (hp.mem_iff.mpr List.mem_cons_self)
  obtain ⟨x, hx⟩ := mem_keys.mp hv
  have nd := hp.nodup_iff.mp I.sn
  have I1 : FlI n out up ck Good a0 b0 (· = v) (A.1, st) := ⟨I.nd, I.lt, fun u hu => I.st u (hp.mem_iff.mpr (List.mem_cons_of_mem _ hu)), (List.nodup_cons.mp nd).2, I.good, I.zero, I.tr, fun u y h hu hex e he => I.cl u y h (fun w => by
    rcases List.mem_cons.mp (hp.mem_iff.mp w) with z | z
    · exact hex z
    · exact hu z) (fun w => w) e he⟩
  rcases ests_inv P (out v) [] (A.1, st) I1 hx (fun e he => by cases he) (fun e he => he) with ⟨A', k1, k2, k3, k4, k5, k6⟩ | k
  · refine .inl ⟨A', k1, ⟨k2.nd, k2.lt, k2.st, k2.sn, k2.good, k2.zero, k2.tr, fun u y h hu _ e he => ?_⟩, ?_⟩
    · by_cases z : u = v
      · rw [z, k3] at h
        cases h
        rw [z] at he
        exact k4 e (by simpa using he)
      · exact k2.cl u y h hu z e he
    · have hl := hp.length_eq
      have hn : A'.1.length ≤ n := by
        have h1 := k2.nd
        have h2 : ∀ u ∈ A'.1.map (·.1), u ∈ List.range n := fun u hu => by
          obtain ⟨p, hp, rfl⟩ := List.mem_map.mp hu
          exact List.mem_range.mpr (k2.lt p hp)
        have := nodup_le h1 h2
        rw [List.length_map, List.length_range] at this
        exact this
      simp only [List.length_cons] at hl k5 k6
      omega
  · exact .inr k
theorem FlI.len {A : FlA α} {ex : Nat → Prop} (I : FlI n out up ck Good a0 b0 ex A) : A.1.length ≤ n := by
  have h2 : ∀ u ∈ A.1.map (·.1), u ∈ List.range n := fun u hu => by
    obtain ⟨p, hp, rfl⟩ := List.mem_map.mp hu
    exact List.mem_range.mpr (I.lt p hp)
  have := nodup_le I.nd h2
  rw [List.length_map, List.length_range] at this
  exact this
def rpL (key : Nat → κ) (L : List (Nat × α)) : Dk κ α := ⟨L.map fun p => (key p.1, p.2)⟩
theorem fl0 (P : Fl n out up ck Good) (hb : b0 < n) (hg : Good b0 a0) : FlI n out up ck Good a0 b0 (fun _ => False) ([(b0, a0)], [b0]) :=
  ⟨by simp, fun p hp => by rw [List.mem_singleton.mp hp]; exact hb, fun v hv => by simpa using hv, by simp, (fun v x h => by
    rw [dget_cons] at h
    by_cases z : b0 = v
    · subst z; rw [if_pos rfl] at h; cases h; exact hg
    · rw [if_neg z] at h; cases h), (by rw [dget_cons, if_pos rfl]), .zero, (fun v x h hn _ e he => by
    rw [dget_cons] at h
    by_cases z : b0 = v
    · exact absurd (by rw [z]; simp) hn
    · rw [if_neg z] at h; cases h)⟩
/-- the flood that goes on to its end -/
theorem flood_N (P : Fl n out up ck Good) (hb : b0 < n) (hg : Good b0 a0) (hk : ∀ x e y, ck x e y = true) {S : Type} (rp : FlA α → S) {c : S → M Bool} {f : S → M S}
    (hc : ∀ A, FlI n out up ck Good a0 b0 (fun _ => False) A → c (rp A) = .ok (!decide (A.2 = [])))
    (hf : ∀ A, FlI n out up ck Good a0 b0 (fun _ => False) A → A.2 ≠ [] → ∃ v st, A.2.Perm (v :: st) ∧ ∀ A', ests up ck v (A.1, st) (out v) = some A' → f (rp A) = .ok (rp A')) :
    ∃ A, M.wh c f (rp ([(b0, a0)], [b0])) = .ok (rp A) ∧ FlI n out up ck Good a0 b0 (fun _ => False) A ∧ A.2 = [] := by
  suffices H : ∀ k (A : FlA α), 2 * (n - A.1.length) + A.2.length ≤ k → FlI n out up ck Good a0 b0 (fun _ => False) A → ∃ A', M.wh c f (rp A) = .ok (rp A') ∧ FlI n out up ck Good a0 b0 (fun _ => False) A' ∧ A'.2 = [] from H _ _ (Nat.le_refl _) (fl0 P hb hg)
  intro k
  induction k with
  | zero =>
    intro A hk I
    have e : A.2 = [] := List.length_eq_zero_iff.mp (by omega)
    exact ⟨A, M.wh_false (by rw [hc A I, decide_eq_true e]; rfl), I, e⟩
  | succ k ih =>
    intro A hk2 I
    by_cases e : A.2 = []
    · exact ⟨A, M.wh_false (by rw [hc A I, decide_eq_true e]; rfl), I, e⟩
    · obtain ⟨v, st, hp, ef⟩ := hf A I e
      rcases turn_inv P I hp with ⟨A', k1, k2, k3⟩ | ⟨k1, w, x, d, y, _, _, _, q⟩
      · rw [M.wh_true (by rw [hc A I, decide_eq_false e]; rfl) (ef A' k1)]
        exact ih A' (by omega) k2
      · rw [hk] at q; cases q
/-- what is come to -/
inductive Rch (out : Nat → List (Nat × ε)) (b0 : Nat) : Nat → Prop
  | zero : Rch out b0 b0
  | step {v : Nat} {e : Nat × ε} : Rch out b0 v → e ∈ out v → Rch out b0 e.1
theorem FlI.all {A : FlA α} (I : FlI n out up ck Good a0 b0 (fun _ => False) A) (he : A.2 = []) {v : Nat} (h : Rch out b0 v) : ∃ x, dget A.1 v = some x := by
  induction h with
  | zero => exact ⟨_, I.zero⟩
  | step _ hm ih =>
    obtain ⟨x, hx⟩ := ih
    obtain ⟨y, hy, _⟩ := I.cl _ x hx (by rw [he]; simp) (fun w => w) _ hm
    exact ⟨y, hy⟩
end
end Tw
set_option Elab.async false
set_option linter.all false
set_option maxRecDepth 100000
set_option maxHeartbeats 4000000
set_option Elab.async false
set_option linter.all false
set_option maxRecDepth 100000
set_option maxHeartbeats 4000000
namespace Tw
open PySem PySem.Spec L2 TL
open PyProof.Rows hiding St
section
variable {κ α ε R : Type} [DecidableEq κ] {n : Nat} {out : Nat → List (Nat × ε)} {up : α → ε → α} {ck : α → ε → α → Bool} {Good : Nat → α → Prop} {a0 : α} {b0 : Nat}
theorem est_inv (P : Fl n out up ck Good) {v : Nat} {x : α} {A A' : FlA α} {e : Nat × ε} (I : FlI n out up ck Good a0 b0 (· = v) A) (hv : dget A.1 v = some x) (he : e ∈ out v) (h : est up ck v A e = some A') : FlI n out up ck Good a0 b0 (· = v) A' ∧ dget A'.1 v = some x := by
  rcases ests_inv P [e] [] A I hv (fun d hd => by cases hd) (fun d hd => by rw [List.mem_singleton.mp hd]; exact he) with ⟨B, k1, k2, k3, _⟩ | ⟨k1, _⟩
  · unfold ests at k1
    rw [h] at k1
    cases k1
    exact ⟨k2, k3⟩
  · unfold ests at k1
    rw [h] at k1
    cases k1
theorem for_ests (P : Fl n out up ck Good) {S ι : Type} {rp : FlA α → S} {g : S → ι → M S} {v : Nat} {x : α} {edge : ι → Option (Nat × ε)} {xs0 : List ι}
    (hg : ∀ A i, i ∈ xs0 → FlI n out up ck Good a0 b0 (· = v) A → dget A.1 v = some x → match edge i with | none => g (rp A) i = .ok (rp A) | some e => ∀ A', est up ck v A e = some A' → g (rp A) i = .ok (rp A')) :
    ∀ (xs : List ι) (A A' : FlA α), (∀ i ∈ xs, i ∈ xs0 ∧ ∀ e, edge i = some e → e ∈ out v) → FlI n out up ck Good a0 b0 (· = v) A → dget A.1 v = some x → ests up ck v A (xs.filterMap edge) = some A' → M.for_ g xs (rp A) = .ok (rp A')
  | [], A, A', _, _, _, h => by cases h; rfl
  | i :: r, A, A', hi, I, hv, h => by
    have h0 := hi i List.mem_cons_self
    have hgi := hg A i h0.1 I hv
    rw [M.for_cons]
    cases q : edge i with
    | none =>
      rw [q] at hgi
      rw [List.filterMap_cons_none q] at h
      rw [hgi, M.b_ok]
      exact for_ests P hg r A A' (fun j hj => hi j (List.mem_cons_of_mem _ hj)) I hv h
    | some e =>
      rw [q] at hgi
      rw [List.filterMap_cons_some q] at h
      unfold ests at h
      cases w : est up ck v A e with
      | none => rw [w] at h; cases h
      | some B =>
        rw [w] at h
        obtain ⟨I', hv'⟩ := est_inv P I hv (h0.2 e q) w
        rw [hgi B w, M.b_ok]
        exact for_ests P hg r B A' (fun j hj => hi j (List.mem_cons_of_mem _ hj)) I' hv' h
theorem rpL_get {key : Nat → κ} (hk : ∀ v w, v < n → w < n → key v = key w → v = w) : ∀ {L : List (Nat × α)} {w : Nat}, (∀ p ∈ L, p.1 < n) → w < n → dget (rpL key L).l (key w) = dget L w
  | [], _, _, _ => rfl
  | p :: r, w, h, hw => by
    have hp := h p List.mem_cons_self
    show dget ((key p.1, p.2) :: (rpL key r).l) (key w) = _
    rw [dget_cons, dget_cons, rpL_get hk (fun q hq => h q (List.mem_cons_of_mem _ hq)) hw]
    by_cases z : p.1 = w
    · rw [if_pos z, if_pos (show key p.1 = key w by rw [z])]
    · rw [if_neg z, if_neg (fun q => z (hk _ _ hp hw q))]
theorem rpL_put {key : Nat → κ} (hk : ∀ v w, v < n → w < n → key v = key w → v = w) {L : List (Nat × α)} {w : Nat} {a : α} (h : ∀ p ∈ L, p.1 < n) (hw : w < n) (hn : dget L w = none) : dput (rpL key L).l (key w) a = (rpL key (L ++ [(w, a)])).l := by
  have h1 := rpL_get hk h hw
  rw [hn] at h1
  unfold dput
  rw [if_neg (fun z => dget_none.mp h1 (any_key.mp z))]
  unfold rpL
  rw [List.map_append]
  rfl
theorem rpL_len {key : Nat → κ} {L : List (Nat × α)} : (rpL key L).l.length = L.length := by unfold rpL; rw [List.length_map]
theorem FlI.stl {A : FlA α} {ex : Nat → Prop} (I : FlI n out up ck Good a0 b0 ex A) : A.2.length ≤ n := by
  have := nodup_le I.sn I.st
  rw [List.length_map] at this
  have := I.len
  omega
end
/-- rows that share a tie; all or none -/
def Hang (rows : RowsT) : Prop := ∀ S : Str → Prop, (∀ x ∈ rows, ∀ y ∈ rows, ∀ t, t ∈ x.2 → t ∈ y.2 → S x.1 → S y.1) → (∃ x ∈ rows, S x.1) → ∀ y ∈ rows, S y.1
theorem insAt_mem {ts : List Str} {j : Int} {a t : Str} : t ∈ insAt ts j a ↔ t = a ∨ t ∈ ts := by
  rw [(insAt_perm ts j a).mem_iff, List.mem_cons]
/-- the rows behind an insertion -/
theorem rowIns_at {rows : RowsT} {k i : Nat} {j : Int} {a : Str} {x : Str × List Str} (h : rows[i]? = some x) : (rowIns rows k j a)[i]? = some (if k = i then (x.1, insAt x.2 j a) else x) := by
  unfold rowIns
  rw [List.getElem?_modify, h]
  by_cases e : k = i <;> simp [e]
theorem rowIns_inv {rows : RowsT} {k i : Nat} {j : Int} {a : Str} {y : Str × List Str} (h : (rowIns rows k j a)[i]? = some y) : ∃ x, rows[i]? = some x ∧ y = if k = i then (x.1, insAt x.2 j a) else x := by
  have hi : i < rows.length := by have := (List.getElem?_eq_some_iff.mp h).1; rw [rowIns_len] at this; exact this
  refine ⟨rows[i], List.getElem?_eq_getElem hi, ?_⟩
  have := rowIns_at (k := k) (j := j) (a := a) (List.getElem?_eq_getElem hi)
  rw [h] at this
  exact Option.some.inj this
/-- rows with more ties hang together, too -/
theorem Hang.more {a b : RowsT} (h : Hang a) (k : ∀ y ∈ b, ∃ x ∈ a, x.1 = y.1 ∧ ∀ t ∈ x.2, t ∈ y.2) (k' : ∀ x ∈ a, ∃ y ∈ b, x.1 = y.1 ∧ ∀ t ∈ x.2, t ∈ y.2) : Hang b := fun S hS ⟨y, hy, sy⟩ z hz => by
  obtain ⟨x, hx, e, _⟩ := k y hy
  have hc : ∀ x ∈ a, ∀ y ∈ a, ∀ t, t ∈ x.2 → t ∈ y.2 → S x.1 → S y.1 := fun x1 h1 x2 h2 t t1 t2 s1 => by
    obtain ⟨y1, g1, e1, f1⟩ := k' x1 h1
    obtain ⟨y2, g2, e2, f2⟩ := k' x2 h2
    rw [e2]
    exact hS y1 g1 y2 g2 t (f1 t t1) (f2 t t2) (by rw [← e1]; exact s1)
  have := h S hc ⟨x, hx, by rw [e]; exact sy⟩
  obtain ⟨w, hw, e2, _⟩ := k z hz
  rw [← e2]
  exact this w hw
theorem rowIns_more {rows : RowsT} {k : Nat} {j : Int} {a : Str} : (∀ y ∈ rowIns rows k j a, ∃ x ∈ rows, x.1 = y.1 ∧ ∀ t ∈ x.2, t ∈ y.2) ∧ ∀ x ∈ rows, ∃ y ∈ rowIns rows k j a, x.1 = y.1 ∧ ∀ t ∈ x.2, t ∈ y.2 := by
  constructor
  · intro y hy
    obtain ⟨i, hi⟩ := List.mem_iff_getElem?.mp hy
    obtain ⟨x, hx, e⟩ := rowIns_inv hi
    refine ⟨x, List.mem_of_getElem? hx, ?_⟩
    rw [e]
    split
    · exact ⟨rfl, fun t ht => insAt_mem.mpr (.inr ht)⟩
    · exact ⟨rfl, fun t ht => ht⟩
  · intro x hx
    obtain ⟨i, hi⟩ := List.mem_iff_getElem?.mp hx
    refine ⟨_, List.mem_of_getElem? (rowIns_at hi), ?_⟩
    split
    · exact ⟨rfl, fun t ht => insAt_mem.mpr (.inr ht)⟩
    · exact ⟨rfl, fun t ht => ht⟩
theorem Hang.ins {rows : RowsT} (h : Hang rows) (k : Nat) (j : Int) (a : Str) : Hang (rowIns rows k j a) := h.more rowIns_more.1 rowIns_more.2
theorem Made.hang {rows : RowsT} (h : Made rows) : Hang rows := by
  induction h with
  | bare n => exact fun S _ ⟨x, hx, sx⟩ y hy => by rw [List.mem_singleton.mp hx] at sx; rw [List.mem_singleton.mp hy]; exact sx
  | @spike rows e t n hm he ht hn ih =>
    have he1 := (mem_allC.mp he).1
    have h1 := ih.ins e.1 (e.2 : Int) t
    have hat := rowIns_at (k := e.1) (j := (e.2 : Int)) (a := t) (List.getElem?_eq_getElem he1)
    rw [if_pos rfl] at hat
    have hmem := List.mem_of_getElem? hat
    intro S hS ⟨x, hx, sx⟩ y hy
    have share : ∀ z ∈ rowIns rows e.1 (e.2 : Int) t, z ∈ rowIns rows e.1 (e.2 : Int) t ++ [(n, [t])] := fun z hz => List.mem_append_left _ hz
    have hnew : (n, [t]) ∈ rowIns rows e.1 (e.2 : Int) t ++ [(n, [t])] := List.mem_append_right _ (by simp)
    have s1 : ∃ z ∈ rowIns rows e.1 (e.2 : Int) t, S z.1 := by
      rcases List.mem_append.mp hx with q | q
      · exact ⟨x, q, sx⟩
      · rw [List.mem_singleton.mp q] at sx
        exact ⟨_, hmem, hS _ hnew _ (share _ hmem) t (by simp) (insAt_mem.mpr (.inl rfl)) sx⟩
    have all := h1 S (fun a ha b hb u ua ub sa => hS a (share a ha) b (share b hb) u ua ub sa) s1
    rcases List.mem_append.mp hy with q | q
    · exact all y q
    · rw [List.mem_singleton.mp q]
      exact hS _ (share _ hmem) _ hnew t (insAt_mem.mpr (.inl rfl)) (by simp) (all _ hmem)
  | @link rows a b t hm ha hb ht ih =>
    unfold ins2
    split
    · exact (ih.ins _ _ _).ins _ _ _
    · exact (ih.ins _ _ _).ins _ _ _
theorem rot_mem2 : ∀ {a b : RowsT}, All2 RotR a b → (∀ y ∈ b, ∃ x ∈ a, x.1 = y.1 ∧ ∀ t ∈ x.2, t ∈ y.2) ∧ ∀ x ∈ a, ∃ y ∈ b, x.1 = y.1 ∧ ∀ t ∈ x.2, t ∈ y.2
  | _, _, .nil => ⟨(fun y hy => by cases hy), (fun y hy => by cases hy)⟩
  | _, _, .cons (a := x) (b := y) ⟨h1, k, hk, h2⟩ t => by
    obtain ⟨q1, q2⟩ := rot_mem2 t
    have hm : ∀ u ∈ x.2, u ∈ y.2 := fun u hu => by
      rw [h2, List.mem_append]
      rw [← List.take_append_drop k x.2, List.mem_append] at hu
      exact hu.symm
    refine ⟨fun z hz => ?_, fun z hz => ?_⟩
    · rcases List.mem_cons.mp hz with rfl | hz
      · exact ⟨x, List.mem_cons_self, h1, hm⟩
      · obtain ⟨w, hw, r⟩ := q1 z hz; exact ⟨w, List.mem_cons_of_mem _ hw, r⟩
    · rcases List.mem_cons.mp hz with rfl | hz
      · exact ⟨y, List.mem_cons_self, h1, hm⟩
      · obtain ⟨w, hw, r⟩ := q2 z hz; exact ⟨w, List.mem_cons_of_mem _ hw, r⟩
theorem GNet.hang {rows : RowsT} {m : Nat} (h : GNet rows m) : Hang rows := by
  obtain ⟨rows0, done, hm, hp, ha⟩ := h.src
  have h0 := hm.hang
  have h1 : Hang done := h0.more (fun y hy => ⟨y, hp.mem_iff.mpr hy, rfl, fun _ h => h⟩) fun x hx => ⟨x, hp.mem_iff.mp hx, rfl, fun _ h => h⟩
  exact h1.more (rot_mem2 ha).1 (rot_mem2 ha).2
/-- from a point along its ends -/
def outR (rows : RowsT) (v : Nat) : List (Nat × Str) := (List.range (rowT rows v).length).map fun p => ((mate rows (v, p)).1, tieD rows (v, p))
theorem mem_outR {rows : RowsT} {v : Nat} {e : Nat × Str} : e ∈ outR rows v ↔ ∃ p, (v, p) ∈ allE rows ∧ e = ((mate rows (v, p)).1, tieD rows (v, p)) := by
  unfold outR
  rw [List.mem_map]
  constructor
  · rintro ⟨p, hp, rfl⟩
    exact ⟨p, mem_allE.mpr (List.mem_range.mp hp), rfl⟩
  · rintro ⟨p, hp, rfl⟩
    exact ⟨p, List.mem_range.mpr (mem_allE.mp hp), rfl⟩
theorem outR_of {rows : RowsT} {e : NE} (h : e ∈ allE rows) : ((mate rows e).1, tieD rows e) ∈ outR rows e.1 := mem_outR.mpr ⟨e.2, h, rfl⟩
theorem outR_lt {rows : RowsT} (h : Twice rows) {v : Nat} {e : Nat × Str} (he : e ∈ outR rows v) : e.1 < rows.length := by
  obtain ⟨p, hp, rfl⟩ := mem_outR.mp he
  exact allE_row (mate_mem h hp)
theorem mem_end {rows : RowsT} {i : Nat} {x : Str × List Str} {t : Str} (hx : rows[i]? = some x) (ht : t ∈ x.2) : ∃ p, tie? rows (i, p) = some t := by
  obtain ⟨p, hp⟩ := List.mem_iff_getElem?.mp ht
  exact ⟨p, by unfold tie?; rw [row_some hx]; exact hp⟩
theorem Hang.rch {rows : RowsT} (h : Hang rows) (P : NetP rows) {b : Nat} (hb : b < rows.length) {v : Nat} (hv : v < rows.length) : Rch (outR rows) b v := by
  have := h (fun nm => ∃ w, w < rows.length ∧ pnm rows w = nm ∧ Rch (outR rows) b w) (fun x hx y hy t tx ty ⟨w, hw, ew, rw_⟩ => by
    obtain ⟨i, hi⟩ := List.mem_iff_getElem?.mp hx
    obtain ⟨j, hj⟩ := List.mem_iff_getElem?.mp hy
    have li := (List.getElem?_eq_some_iff.mp hi).1
    have lj := (List.getElem?_eq_some_iff.mp hj).1
    have : w = i := pnm_inj P.nd hw li (by rw [ew, pnm_at hi])
    subst this
    refine ⟨j, lj, pnm_at hj, ?_⟩
    obtain ⟨p, hp⟩ := mem_end hi tx
    obtain ⟨q, hq⟩ := mem_end hj ty
    rcases (mate_of P.two hp).2.2 (j, q) hq with z | z
    · rw [show j = w from congrArg Prod.fst z]; exact rw_
    · have s := Rch.step rw_ (outR_of (tie_mem hp))
      rw [show j = (mate rows (w, p)).1 from congrArg Prod.fst z]
      exact s) ⟨rows[b], List.getElem_mem hb, b, hb, pnm_at (List.getElem?_eq_getElem hb), .zero⟩ rows[v] (List.getElem_mem hv)
  obtain ⟨w, hw, ew, r⟩ := this
  have : w = v := pnm_inj P.nd hw hv (by rw [ew, pnm_at (List.getElem?_eq_getElem hv)])
  rw [← this]
  exact r
def heldL (rows : RowsT) : List (Str × Str) := (allE rows).map fun e => (tieD rows e, pnm rows e.1)
end Tw
set_option Elab.async false
set_option linter.all false
set_option maxRecDepth 100000
set_option maxHeartbeats 4000000
namespace Tw
open PySem PySem.Spec L2 TL
open PyProof.Rows hiding St
theorem for_map {α β S : Type} {g : S → β → M S} {h : α → β} : ∀ {l : List α} {s : S}, M.for_ g (l.map h) s = M.for_ (fun s a => g s (h a)) l s
  | [], _ => rfl
  | a :: r, s => by
    rw [List.map_cons, M.for_cons, M.for_cons]
    congr 1
    funext s
    exact for_map
theorem row_map (rows : RowsT) (v : Nat) : rowT rows v = (List.range (rowT rows v).length).map fun p => tieD rows (v, p) := by
  refine List.ext_getElem? fun p => ?_
  rw [List.getElem?_map]
  by_cases h : p < (rowT rows v).length
  · rw [List.getElem?_range h, List.getElem?_eq_getElem h]
    simp only [Option.map_some]
    congr 1
    exact (tieD_of (rows := rows) (e := (v, p)) (List.getElem?_eq_getElem h)).symm
  · rw [List.getElem?_eq_none (by omega), List.getElem?_eq_none (by rw [List.length_range]; omega)]
    rfl
/-- what is wanted of a net in all that follows -/
structure NetQ (rows : RowsT) : Prop extends NetP rows where
  sm : Sm rows
  few : rows.length < 64
  hang : Hang rows
  okn : ∀ n ∈ rows.map (·.1), Dd.Ok n
  okt : ∀ t ∈ ties rows, Dd.Ok t
theorem NetQ.pos {rows : RowsT} (Q : NetQ rows) : 0 < rows.length := List.length_pos_iff.mpr Q.ne
theorem NetQ.inj {rows : RowsT} (Q : NetQ rows) : ∀ v w, v < rows.length → w < rows.length → pnm rows v = pnm rows w → v = w := fun v w hv hw h => pnm_inj Q.nd hv hw h
theorem pnm_in {rows : RowsT} {r : Nat} (h : r < rows.length) : pnm rows r ∈ rows.map (·.1) := by
  rw [pnm_at (List.getElem?_eq_getElem h)]
  exact List.mem_map.mpr ⟨_, List.getElem_mem h, rfl⟩
theorem NetQ.rch {rows : RowsT} (Q : NetQ rows) {v : Nat} (h : v < rows.length) : Rch (outR rows) 0 v := Q.hang.rch Q.toNetP Q.pos h
theorem last_of {A : List Nat} (h : A ≠ []) : ∃ st v, A = st ++ [v] := ⟨A.dropLast, A.getLast h, (List.dropLast_concat_getLast h).symm⟩
section
variable {κ α ε R : Type} [DecidableEq κ] {n : Nat} {out : Nat → List (Nat × ε)} {up : α → ε → α} {ck : α → ε → α → Bool} {Good : Nat → α → Prop} {a0 : α} {b0 : Nat}
theorem M.T_floodN (P : Fl n out up ck Good) (hb : b0 < n) (hg : Good b0 a0) (hk : ∀ x e y, ck x e y = true) {S : Type} (rp : FlA α → S) {c : S → M Bool} {f : S → M S} {s0 : S} {p : S → Prop} (h0 : s0 = rp ([(b0, a0)], [b0]))
    (hc : ∀ A, FlI n out up ck Good a0 b0 (fun _ => False) A → (c (rp A)).T fun b => b = !decide (A.2 = []))
    (hf : ∀ A, FlI n out up ck Good a0 b0 (fun _ => False) A → A.2 ≠ [] → ∃ v st, A.2.Perm (v :: st) ∧ ∀ A', ests up ck v (A.1, st) (out v) = some A' → (f (rp A)).T fun c => c = rp A')
    (h1 : ∀ A, FlI n out up ck Good a0 b0 (fun _ => False) A → A.2 = [] → p (rp A)) : (M.wh c f s0).T p := by
  subst h0
  obtain ⟨A, e, I, e2⟩ := flood_N P hb hg hk rp (c := c) (f := f) (fun A I => M.T_is (hc A I)) (fun A I hne => by
    obtain ⟨v, st, hp, h⟩ := hf A I hne
    exact ⟨v, st, hp, fun A' h' => M.T_is (h A' h')⟩)
  exact M.T_of e (h1 A I e2)
theorem FlI.pop {A : FlA α} {v : Nat} {st : List Nat} (I : FlI n out up ck Good a0 b0 (fun _ => False) A) (hA : A.2.Perm (v :: st)) : FlI n out up ck Good a0 b0 (· = v) (A.1, st) ∧ (∃ x, dget A.1 v = some x) ∧ v < n := by
  obtain ⟨x, hx⟩ := mem_keys.mp (I.st v (hA.mem_iff.mpr List.mem_cons_self))
  have nd := hA.nodup_iff.mp I.sn
  exact ⟨⟨I.nd, I.lt, fun u hu => I.st u (hA.mem_iff.mpr (List.mem_cons_of_mem _ hu)), (List.nodup_cons.mp nd).2, I.good, I.zero, I.tr, fun u y h hu hex e he => I.cl u y h (fun w => by
    rcases List.mem_cons.mp (hA.mem_iff.mp w) with z | z
    · exact hex z
    · exact hu z) (fun w => w) e he⟩, ⟨x, hx⟩, dget_lt I.lt hx⟩
theorem M.T_estsN (P : Fl n out up ck Good) {S ι : Type} (rp : FlA α → S) (edge : ι → Option (Nat × ε)) {g : S → ι → M S} {v : Nat} {x : α} {xs : List ι} {s : S} {A A' : FlA α} {p : S → Prop} (h0 : s = rp A)
    (hi : ∀ i ∈ xs, ∀ e, edge i = some e → e ∈ out v) (I : FlI n out up ck Good a0 b0 (· = v) A) (hv : dget A.1 v = some x) (h : ests up ck v A (xs.filterMap edge) = some A')
    (hg : ∀ A i, i ∈ xs → FlI n out up ck Good a0 b0 (· = v) A → dget A.1 v = some x → match edge i with | none => (g (rp A) i).T fun c => c = rp A | some e => ∀ A', est up ck v A e = some A' → (g (rp A) i).T fun c => c = rp A')
    (hp : p (rp A')) : (M.for_ g xs s).T p := by
  subst h0
  refine M.T_of (for_ests P (rp := rp) (v := v) (x := x) (edge := edge) (xs0 := xs) (fun B i hB J hvB => ?_) xs A A' (fun i h => ⟨h, hi i h⟩) I hv h) hp
  have := hg B i hB J hvB
  cases q : edge i with
  | none => rw [q] at this; exact M.T_is this
  | some e => rw [q] at this; exact fun A' hA => M.T_is (this A' hA)
end
end Tw
set_option Elab.async false
set_option linter.all false
set_option maxRecDepth 100000
set_option maxHeartbeats 4000000
namespace Tw
open PySem PySem.Spec L2 TL
open PyProof.Rows hiding St
def nI (v : Nat) : Int := (v : Int)
theorem okLI (l : List Int) : Dd.Ok l := fun _ _ => trivial
def cnt (rows : RowsT) (S : List Str) (t : Str) : Nat := (rows.flatMap fun x => x.2.filter fun u => decide (u = t) && decide (x.1 ∈ S)).length
structure CtI (rows : RowsT) (S : List Str) (ys : RowsT) (zs : List Str) (n : Str) (d : List (Str × Int)) : Prop where
  keys : d.map (·.1) = uniq (ties ys ++ zs)
  val : ∀ t, (dget d t).getD 0 = ((cnt ys S t + (zs.filter fun u => decide (u = t) && decide (n ∈ S)).length : Nat) : Int)
theorem CtI.step {rows : RowsT} {S : List Str} {ys : RowsT} {zs : List Str} {n u : Str} {d : List (Str × Int)} (I : CtI rows S ys zs n d) : CtI rows S ys (zs ++ [u]) n (dput d u ((dget d u).getD 0 + (if decide (n ∈ S) = true then (1 : Int) else 0))) := by
  refine ⟨by rw [← List.append_assoc]; exact dput_uniq I.keys, fun t => ?_⟩
  rw [dget_dput, List.filter_append, List.length_append]
  by_cases z : u = t
  · subst z
    rw [if_pos rfl]
    show (dget d u).getD 0 + _ = _
    rw [I.val u]
    by_cases w : n ∈ S <;> simp [w] <;> omega
  · rw [if_neg z, I.val t]
    simp [z]
end Tw
set_option Elab.async false
set_option linter.all false
set_option maxRecDepth 100000
set_option maxHeartbeats 4000000
set_option Elab.async false
set_option linter.all false
set_option maxRecDepth 100000
set_option maxHeartbeats 4000000
set_option Elab.async false
set_option linter.all false
set_option maxRecDepth 100000
set_option maxHeartbeats 4000000
namespace Tw
open PySem PySem.Spec L2 TL
open PyProof.Rows hiding St
theorem passN {X : Cx} : Passes (L2N.CX X.prog X.w) X E0 := fun _ _ _ _ _ _ _ h => by
  obtain ⟨_, _, _, _, _, _, _, _, _, _, _, _, z⟩ := h
  exact z.elim
theorem takesN {X : Cx} : L2N.Takes X (fun _ _ _ _ => False) := fun _ _ x => by
  obtain ⟨_, _, _, _, _, _, _, _, _, _, _, _, _, _, _, _, z⟩ := x
  exact z.elim
section
variable {P : Program} {w : World} {K : PySem.W.Frag} {mg : Str → Option Value} {base : Heap}
theorem okN {x qual : Str} {st : Stmt} {f : Addr} {fd : FuncData} {N ps : List Str} {k : Nat} {sp : Sp} (F : Fun K x qual st f fd) (S : FnScope N ps (defScope st)) (len : ∀ vs H Q E, sp vs H Q E → vs.length = ps.length)
    (hb : ∀ (cdv : Value) (A : Around) (outer : List Env) (s : Shared) (H : Hp) (vs : List V) (Q : VK) (E : XK), Room k (A.deeper (envOfC qual (defScope st) s.heap.objs.size f cdv)) → sp vs H Q E → ∃ t, PSs (cxOf (L2N.CX P w) P w K mg base N qual (defScope st) f cdv A outer s H E) (defBody st) t ∧ t (dEnd Q) (start N vs) H) :
    FnOk P w K mg base (L2N.CX P w) (k + 1) f fd ps sp := by
  obtain ⟨oc, od, kV, doc, pm, an, cdv, ct, osl, rfl, lk, hcd⟩ := F.ex
  exact fn_of lk hcd S len fun A outer s H vs Q E hr h => hb cdv A outer s H vs Q E hr h
end
abbrev tRaise (G : Gb) (E : XK) (c : Str) : TS := fun _ _ H => E (.ref (G.cl c)) none H
/-- an exception in hand: where it stands, its class -/
structure Exn where
  a : Addr
  c : Str
instance : Rp Exn := ⟨fun _ _ v e => v = .ref e.a, fun _ h => h⟩
instance : Sc Exn := ⟨fun e => .ref e.a, fun _ _ _ _ => Iff.rfl⟩
def excIs (c T : Str) : Bool := decide (c = T) || decide (T = Str.ofString "NetError")
class ExF (G : Gb) (cs ts : List Str) : Prop where
  exc : ∀ c ∈ cs, ExcC G.K (G.cl c)
  one : ∀ c ∈ cs, ∀ T ∈ ts, PySem.W.kitOne G.K (.ref (G.cl c)) (.ref (G.cl T)) = some (excIs c T)
  vE : ∀ c ∈ cs, PySem.W.kitOne G.K (.ref (G.cl c)) (.type "ValueError") = some true
  exm : ∀ c ∈ cs, ∀ T ∈ ts, PySem.W.exmOne G.K (.ref (G.cl c)) (.ref (G.cl T)) = some (excIs c T)
theorem kit_ref {K : PySem.W.Frag} {D C : Addr} {b : Bool} (hs : PySem.W.subIn K (.ref D) (.ref D) = some true) (hd : PySem.W.hasDictIn K C = true) (ht : PySem.W.typeIn K (.ref C) = some (.type "type")) (h : PySem.W.subIn K (.ref D) (.ref C) = some b) : PySem.W.kitOne K (.ref D) (.ref C) = some b := by
  unfold PySem.W.kitOne
  by_cases e : (Value.ref D == Value.ref C) = true
  · rw [if_pos e]
    have e2 : D = C := Value.ref.inj (beq_iff_eq.mp e)
    rw [← e2, hs] at h
    exact h
  · rw [if_neg e]
    obtain ⟨cd, hc, _⟩ := PySem.W.any_some hd
    have e2 : ((PySem.W.clsIn K C).isSome && PySem.W.typeIn K (.ref C) == some (.type "type")) = true := by rw [hc, ht] <;> rfl
    show (if ((PySem.W.clsIn K C).isSome && PySem.W.typeIn K (.ref C) == some (.type "type")) = true then PySem.W.subIn K (.ref D) (.ref C) else none) = some b
    rw [if_pos e2]
    exact h
theorem kit_vE {K : PySem.W.Frag} {D : Addr} (h : PySem.W.subIn K (.ref D) (.type "ValueError") = some true) : PySem.W.kitOne K (.ref D) (.type "ValueError") = some true := by
  unfold PySem.W.kitOne
  rw [if_neg (by simp)]
  show (if PySem.W.kitMeta "ValueError" = true then PySem.W.subIn K (.ref D) (.type "ValueError") else none) = some true
  rw [if_pos (by decide +kernel)]
  exact h
theorem PSs_as {X : Cx} {b : List Stmt} {t t' : TS} (h : PSs X b t) (e : t = t') : PSs X b t' := e ▸ h
namespace M
/-- what is refused is taken -/
def tr {α : Type} (m : M α) (h : Str → M α) : M α := match m with
  | .ok a => .ok a
  | .exc c => h c
  | .bad => .bad
@[simp] theorem tr_ok {α : Type} (a : α) (h : Str → M α) : tr (.ok a) h = .ok a := rfl
@[simp] theorem tr_exc {α : Type} (c : Str) (h : Str → M α) : tr (.exc c : M α) h = h c := rfl
theorem P_tr {α : Type} {m : M α} {h : Str → M α} {p : α → Prop} {x : Str → Prop} : (tr m h).P p x ↔ m.P p fun c => (h c).P p x := by cases m <;> exact Iff.rfl
end M
def isFz : Option Slot → Bool
  | none => true
  | some (@Slot.fz _ _ _) => true
  | _ => false
theorem isFz_at {ρ : Evr} (h : ρ.all isFz = true) {i : Nat} {s : Option Slot} (hs : ρ[i]? = some s) : isFz s = true := List.all_eq_true.mp h s (List.mem_of_getElem? hs)
theorem isFz_own {s : Option Slot} (h : isFz s = true) : isOw s = false := by
  cases s with
  | none => rfl
  | some s => cases s <;> first | rfl | cases h
section
variable {G : Gb} {B : Hp} {E : XK} {ρ : Evr} {Ω S R : Type}
theorem Rel.rebase {F0 F H B2 F2 : Hp} {σ : L2.St} (R : Rel G B F0 F ρ σ H) (hz : ρ.all isFz = true) (sB : Same B2 H) (s0 : Same F2 F) (nw : ∀ a, F2 a = none → F a ≠ none → B2 a = none) : Rel G B2 F2 F ρ σ H where
  sB := sB
  sF := R.sF
  s0 := s0
  nw := nw
  len := R.len
  sl := fun i s x hs hx => by
    have ok := R.sl i s x hs hx
    have z := isFz_at hz hs
    cases s with
    | none => exact trivial
    | some s => cases s <;> first | exact ok | cases z
  ds := fun i j s t x y b hi hx hj hy f g => by
    have z := isFz_own (isFz_at hz hi)
    rw [f.own] at z
    cases z
theorem Rel.calmH {F0 F H : Hp} {σ : L2.St} (R : Rel G B F0 F ρ σ H) (hz : ρ.all isFz = true) : Rel G H F F ρ σ H := R.rebase hz (.refl _) (.refl _) fun a h q => absurd h q
theorem Fin.down {F0 F F' H H' : Hp} {σ : L2.St} (R : Rel G B F0 F ρ σ H) (f : Fin G H F F' H') : Fin G B F0 F' H' := ⟨R.sB.trans f.sB, f.sF, R.s0.trans f.s0, fun a h q => by
  cases z : F a with
  | none => exact R.sB.free (f.nw a z q)
  | some o => exact R.nw a h (by rw [z]; exact fun z => nomatch z)⟩
theorem Rel.down {F0 F F' H H' : Hp} {ρ' : Evr} {σ σ' : L2.St} (R : Rel G B F0 F ρ σ H) (R' : Rel G H F F' ρ' σ' H') (hz : ρ'.all isFz = true) : Rel G B F0 F' ρ' σ' H' :=
  R'.rebase hz (R.sB.trans R'.sB) (R.s0.trans R'.s0) (R'.fin.down R).nw
def GndU (G : Gb) (post : Hp → Hp → Ω → Ends → Prop) : Prop := ∀ {B F0 F H : Hp} {ρ : Evr} {σ : L2.St} {ω : Ω} {D : Ends}, Rel G B F0 F ρ σ H → post B F0 ω D → post H F ω D
theorem gndU_R {rp : RP R} (ha : Anti rp) : GndU G (fun B => oR G B rp) := fun RR h F' v H' f q => h F' v H' (f.down RR) (ha RR.sB q)
theorem gndU_N {EX : S → Evr} (hz : ∀ s, (EX s).all isFz = true) : GndU G (fun B => oN G B EX) := fun RR h F' σ' H' R' => h F' σ' H' (RR.down R' (hz _))
theorem gndU_C {EX : S → Evr} {rp : RP R} (ha : Anti rp) (hz : ∀ s, (EX s).all isFz = true) : GndU G (fun B => oC G B EX rp) := fun {B F0 F H ρ σ ω D} RR h => by
  cases ω with
  | inl s => exact gndU_N hz RR h
  | inr r => exact gndU_R (rp := rp) ha RR h
end
section
variable {G : Gb} {B : Hp} {E : XK} {ρ : Evr} {Ω S R : Type} {post : Hp → Ω → Ends → Prop} {mr : Md} {rest : TS}
theorem run_raise {c : Str} : Run G B E post ρ (tRaise G E c) (.exc c) := fun F0 F σ H D R q => q H R.sB
theorem run_raiseS {c : Str} : Run G B E post ρ (tSeq (tRaise G E c) rest) (.exc c) := fun F0 F σ H D R q => q H R.sB
end
end Tw
set_option Elab.async false
set_option linter.all false
set_option maxRecDepth 100000
set_option maxHeartbeats 4000000
set_option Elab.async false
set_option linter.all false
set_option maxRecDepth 100000
set_option maxHeartbeats 4000000
namespace Tw
open PySem PySem.Spec L2 TL
open PyProof.Rows hiding St
/-- no slot owns b -/
def Unow (ρ : Evr) (σ : L2.St) (H : Hp) (b : Addr) : Prop := ∀ (j : Nat) (s : Option Slot) (x : Option V), ρ[j]? = some s → σ[j]? = some x → ¬ Fp H s x b
/-- what no slot owns stays, and no slot takes it -/
def Kp (ρ ρ' : Evr) (σ : L2.St) (F F' H H' : Hp) : Prop := ∀ b o, H b = some o → F b = none → Unow ρ σ H b → H' b = some o ∧ F' b = none ∧ Unow ρ' σ H' b
theorem Kp.trans {ρ ρ1 ρ2 : Evr} {σ : L2.St} {F F1 F2 H H1 H2 : Hp} (a : Kp ρ ρ1 σ F F1 H H1) (b : Kp ρ1 ρ2 σ F1 F2 H1 H2) : Kp ρ ρ2 σ F F2 H H2 := fun c o h f u => (a c o h f u).elim fun h1 u1 => b c o h1 u1.1 u1.2
section
variable (G : Gb) (B : Hp) (E : XK) {α S : Type} [Rp α]
/-- te gives a value and leaves the slots as EX says -/
def EvX (md : Md) (ρ : Evr) (te : TE) (EX : S → Evr) (m : M (α × S)) : Prop := ∀ (F0 F : Hp) (σ : L2.St) (H : Hp) (Q : VK), Rel G B F0 F ρ σ H →
  m.P (fun r => ∀ (F' : Hp) (v : V) (H' : Hp), Rel G B F0 F' (EX r.2) σ H' → Same F F' → Kp ρ (EX r.2) σ F F' H H' → rep G (hpM md F' B H') v r.1 → Q v H') (Xc G B E) → te σ H Q
end
section
variable {G : Gb} {B : Hp} {E : XK} {ρ : Evr} {α β γ S S' Ω R : Type} [Rp α] [Rp β] [Rp γ] {md md' mr : Md} {ta tb te : TE} {EX : S → Evr} {EX' : S' → Evr} {post : Hp → Ω → Ends → Prop} {rest t1 t2 : TS} {r : R2}
theorem Kp.ext {F0 F H F' H' : Hp} {σ : L2.St} (R : Rel G B F0 F ρ σ H) (e : Ext F H F' H') : Kp ρ ρ σ F F' H H' := fun b o h f u => ⟨e.h _ _ h, e.non h f, fun j s x hs hx f => u j s x hs hx (Fp.lift (R.sl j s x hs hx) (fun b o _ z => e.h _ _ z) f)⟩
/-- a plain expression -/
theorem EvX.of {m : M α} (h : Ev G B E md ρ te m) : EvX G B E md ρ te (fun _ : Unit => ρ) (m.b fun a => .ok (a, ())) := fun F0 F σ H Q R q =>
  h.go R q fun a F' v H' e r R' q => q F' v H' R' e.f (Kp.ext R e) r
theorem EvX.go {ω : Type} {m : M (α × S)} {k : α × S → M ω} {p : ω → Prop} {F0 F : Hp} {σ : L2.St} {H : Hp} {Q : VK} (h : EvX G B E md ρ te EX m) (R : Rel G B F0 F ρ σ H) (q : (m.b k).P p (Xc G B E))
    (f : ∀ (x : α × S) (F' : Hp) (v : V) (H' : Hp), Rel G B F0 F' (EX x.2) σ H' → Same F F' → Kp ρ (EX x.2) σ F F' H H' → rep G (hpM md F' B H') v x.1 → (k x).P p (Xc G B E) → Q v H') : te σ H Q :=
  h F0 F σ H Q R ((M.P_b.mp q).imp (fun x k F' v H' R' s kp r => f x F' v H' R' s kp r k) fun _ x => x)
end
structure CellO where
  p : Addr
  c : Int
instance : Sh CellO where
  fp _ v := match v with
    | .ref p => [p]
    | _ => []
  ok _ _ H v a := v = .ref a.p ∧ H a.p = some (.lst [.int a.c])
  there := fun {G F H v a b} h hb => by
    obtain ⟨rfl, h1⟩ := h
    have : b = a.p := List.mem_singleton.mp hb
    rw [this]
    exact ⟨_, h1⟩
  keep := fun {G F F' H H' v a} h _ k => by
    obtain ⟨rfl, h1⟩ := h
    exact ⟨⟨rfl, k _ _ (List.mem_singleton.mpr rfl) h1⟩, rfl⟩
def lessA (H : Hp) (a : Addr) : Hp := fun b => if b = a then none else H b
theorem lessA_off {H : Hp} {a b : Addr} (h : b ≠ a) : lessA H a b = H b := if_neg h
section
variable {G : Gb} {B : Hp} {E : XK} {ρ : Evr} {α β S Ω R : Type} [Rp α] [Rp β] [Rp R] {md md' mr : Md} {ta tb te : TE} {EX : S → Evr} {post : Hp → Ω → Ends → Prop} {rest : TS} {i : Nat} {a : Addr} {c : Int}
theorem Rel.cell {F0 F H : Hp} {σ : L2.St} (R : Rel G B F0 F ρ σ H) (h : ρ[i]? = some (some (.sh (⟨a, c⟩ : CellO)))) : σ[i]? = some (some (.ref a)) ∧ H a = some (.lst [.int c]) ∧ B a = none ∧ F a = none := by
  obtain ⟨x, e, v, rfl, ⟨rfl, h1⟩, h2⟩ := R.at h
  obtain ⟨h3, h4⟩ := h2 a (List.mem_singleton.mpr rfl)
  exact ⟨e, h1, h3, h4⟩
theorem Kp.cell {F0 F F' H H' : Hp} {σ : L2.St} {c' : Int} (R : Rel G B F0 F ρ σ H) (h : ρ[i]? = some (some (.sh (⟨a, c⟩ : CellO)))) (k : Same (lessA H a) H') (nw : ∀ b, F b = none → F' b ≠ none → lessA H a b = none) : Kp ρ (ρ.set i (some (.sh (⟨a, c'⟩ : CellO)))) σ F F' H H' := fun b o hb fb u => by
  obtain ⟨e, h1, _, _⟩ := R.cell h
  have own : Fp H (some (.sh (⟨a, c⟩ : CellO))) (some (.ref a)) a := ⟨_, rfl, List.mem_singleton.mpr rfl⟩
  have ba : b ≠ a := fun z => u i _ _ h e (z ▸ own)
  refine ⟨k _ _ (by rw [lessA_off ba]; exact hb), Classical.byContradiction fun z => ?_, fun j s x hs hx f => ?_⟩
  · have := nw b fb z
    rw [lessA_off ba, hb] at this
    cases this
  by_cases q : i = j
  · subst q
    rw [e] at hx
    cases hx
    rw [List.getElem?_set_self (List.getElem?_eq_some_iff.mp h).1] at hs
    cases hs
    obtain ⟨w, ew, hw⟩ := f
    cases ew
    exact ba (List.mem_singleton.mp hw)
  · rw [List.getElem?_set_ne q] at hs
    exact u j s x hs hx (Fp.lift (R.sl j s x hs hx) (fun d o' fd z => k _ _ (by
      have da : d ≠ a := fun w => q (R.ds i j _ _ _ _ a h e hs hx own (by rw [← w]; exact fd))
      rw [lessA_off da]
      exact z)) f)
end
end Tw
set_option Elab.async false
set_option linter.all false
set_option maxRecDepth 100000
set_option maxHeartbeats 4000000
namespace Tw
open PySem PySem.Spec L2 TL
open PyProof.Rows hiding St
section
variable {G : Gb} {B : Hp} {E : XK} {ρ : Evr} {Ω S R : Type} {post : Hp → Ω → Ends → Prop} {EX : S → Evr} {rest t1 t2 : TS} {α : Type} [Rp α] {te : TE}
def two {α : Type} : List α → Option (α × α)
  | [a, b] => some (a, b)
  | _ => none
end
end Tw
set_option Elab.async false
set_option linter.all false
set_option maxRecDepth 100000
set_option maxHeartbeats 4000000
namespace Tw
open PySem PySem.Spec L2 TL
open PyProof.Rows hiding St
section
variable {G : Gb} {B : Hp} {E : XK} {ρ : Evr} {α β : Type} [Rp β] {md : Md} {te : TE} {g : TG} {ts : List Nat} {Ω : Type} {post : Hp → Ω → Ends → Prop} {rest : TS}
theorem eb_lc {per : Bool} {wi : L2.TI} {bind : α → Evr → Evr} {m : M (List α)} {tt : TT} {t : α → M Bool} {e : α → M β} (hw : EvW G B E per ρ wi g ts bind m) (ht : ∀ x, EvT G B E (bind x (wipeE ρ ts)) tt (t x)) (he : ∀ x, Ev G B E .B (bind x (wipeE ρ ts)) te (e x)) :
    EvB G B E ρ (tLc wi g tt te ts) (m.b fun xs => .chk (xs.length ≤ sizeLine) (M.lc t e xs)) := fun F0 F σ H Q R q => hw F0 F σ H _ R ((M.P_b.mp q).imp (fun xs q F1 H1 J e1 s1 wk D nD => by
  obtain ⟨cl, q⟩ := M.P_chk.mp q
  have R1 := R.ext e1 s1
  have hBD : B D = none := R1.sB.free nD
  refine ⟨fun i k H2 => k = xs.length - i ∧ i ≤ xs.length ∧ ∃ (F2 : Hp) (acc : List V) (ys : List β), Rel G B F0 F2 (wipeE ρ ts) (wipe σ ts) H2 ∧ Ext F1 H1 F2 H2 ∧ H2 D = some (.lst acc) ∧ F2 D = none ∧ reps G B acc ys ∧ ys.length ≤ i ∧
    (M.lc t e (xs.drop i)).P (fun r => ∀ (F' : Hp) (p : Addr) (o : HO) (H' : Hp), Ext F H F' H' → Same F' H' → H p = none → F' p = none → H' p = some o → con G B o (ys ++ r) → Q (.ref p) H') (Xc G B E), ⟨xs.length, by simp, Nat.zero_le _, F1, [], [], ?_, ?_, upd_same, s1.free nD, .nil, Nat.zero_le _, ?_⟩, ?_⟩
  · exact (R1.wipe ts).side hBD (s1.free nD) ((R1.wipe ts).fresh nD)
  · exact .new nD
  · rw [List.drop_zero]
    exact q
  rintro i k H2 ⟨rfl, hi, F2, acc, ys, R2, e2, hD, fD, ra, hy, q2⟩
  obtain ⟨w1, w2⟩ := wk i F0 F2 _ _ H2 ⟨e2.f, fun _ => e2.h⟩ R2
  by_cases hlt : i < xs.length
  · have hx : xs[i]? = some xs[i] := List.getElem?_eq_getElem hlt
    obtain ⟨g1, g2⟩ := w2 xs[i] hx
    rw [List.drop_eq_getElem_cons hlt] at q2
    refine .inr ⟨g1, fun H3 => ∃ m', m' < xs.length - i ∧ (m' = xs.length - (i + 1) ∧ i + 1 ≤ xs.length ∧ ∃ (F2 : Hp) (acc : List V) (ys : List β), Rel G B F0 F2 (wipeE ρ ts) (wipe σ ts) H3 ∧ Ext F1 H1 F2 H3 ∧ H3 D = some (.lst acc) ∧ F2 D = none ∧ reps G B acc ys ∧ ys.length ≤ i + 1 ∧
      (M.lc t e (xs.drop (i + 1))).P (fun r => ∀ (F' : Hp) (p : Addr) (o : HO) (H' : Hp), Ext F H F' H' → Same F' H' → H p = none → F' p = none → H' p = some o → con G B o (ys ++ r) → Q (.ref p) H') (Xc G B E)), fun H3 z => z, fun v H3 hyld => g2 v H3 hyld _ fun F3 σ3 H4 e3 ws R3 => ⟨ws.trans (wipe_idem σ ts), ?_⟩⟩
    have hm : xs.length - (i + 1) < xs.length - i := by omega
    have dn : ∀ {Fx Hx : Hp}, Ext F2 H2 Fx Hx → Hx D = some (.lst acc) ∧ Fx D = none := fun ex => ⟨ex.h _ _ hD, ex.non hD fD⟩
    refine (ht xs[i]).go R3 q2 fun c F4 H5 e4 R4 q3 => ?_
    have e24 := e3.trans e4
    have Rw : ∀ {Fx Hx : Hp}, Ext F2 H2 Fx Hx → Same Fx Hx → Rel G B F0 Fx (wipeE ρ ts) (wipe σ ts) Hx := fun ex sx => R2.ext ex sx
    cases c with
    | true =>
      refine iteT ((he xs[i]).go R4 q3 fun y F5 v2 H6 e5 r5 R5 q4 => ?_)
      have e25 := e24.trans e5
      obtain ⟨hD5, fD5⟩ := dn e25
      refine ⟨acc, hD5, by rw [ra.len]; omega, _, hm, rfl, hlt, F5, acc ++ [v2], ys ++ [y], ?_, ?_, upd_same, fD5, ra.snoc r5, by rw [List.length_append]; exact Nat.succ_le_succ hy, ?_⟩
      · have R6 := Rw e25 R5.sF
        exact R6.side hBD fD5 (fun j s x hs hx f => (R1.wipe ts).fresh nD j s x hs hx (Fp.lift ((R1.wipe ts).sl j s x hs hx) (fun b o _ z => (e2.trans e25).h _ _ z) f))
      · have e26 := e2.trans e25
        exact ⟨e26.f, fun b o hb => by rw [upd_ne (ne_of_none hb nD)]; exact e26.h _ _ hb, e26.n⟩
      · refine (M.P_b.mp q4).imp (fun r f F' p o H' a1 a2 a3 a4 a5 a6 => f F' p o H' a1 a2 a3 a4 a5 ?_) fun _ x => x
        rw [List.append_assoc] at a6
        exact a6
    | false =>
      refine iteF ?_
      obtain ⟨hD4, fD4⟩ := dn e24
      exact ⟨_, hm, rfl, hlt, F4, acc, ys, Rw e24 R4.sF, e2.trans e24, hD4, fD4, ra, Nat.le_succ_of_le hy, q3⟩
  · have em : i = xs.length := by omega
    refine .inl ⟨w1 (by omega), ?_⟩
    rw [List.drop_of_length_le (by omega)] at q2
    have q2 := (show (M.ok ([] : List β)).P _ _ from q2)
    exact q2 F2 D _ H2 (e1.trans e2) R2.sF (e1.h.free nD) fD hD ⟨acc, rfl, by rw [List.append_nil]; exact ra⟩) fun _ x => x)
theorem run_unl2B {i j : Nat} {m : M (List β)} {k : β → β → M Ω} (hij : i ≠ j) (he : Ev G B E .B ρ te m) (hk : ∀ a b, Run G B E post ((ρ.set i (some (.bw a))).set j (some (.bw b))) rest (k a b)) :
    Run G B E post ρ (tSeq (tAsg te (gUnl G.K 2 (gCons (gName i) (gCons (gName j) gNil)))) rest) (m.b fun l => (M.get (two l)).b fun p => k p.1 p.2) := fun F0 F σ H D R q =>
  he.go R q fun l F1 v H1 e1 r1 R1 q => by
    obtain ⟨⟨a, b⟩, hab, q⟩ := M.P_get.mp (M.P_b.mp q)
    have el : l = [a, b] := by
      match l, hab with
      | [x, y], h => cases h; rfl
    subst el
    obtain ⟨p, vs, rfl, g1, g2⟩ := r1
    cases g2 with
    | cons ra g2 =>
      cases g2 with
      | cons rb g2 =>
        cases g2
        refine ⟨p, _, rfl, .of (R1.sB _ _ g1), rfl, _, _, rfl, _, _, rfl, rfl, hk a b F0 F1 _ H1 D ?_ q⟩
        have Ra := R1.put (i := i) (s := .bw a) ⟨_, rfl, ra⟩ rfl
        exact Ra.put (i := j) (s := .bw b) ⟨_, rfl, rb⟩ rfl
end
end Tw
set_option Elab.async false
set_option linter.all false
set_option maxRecDepth 100000
set_option maxHeartbeats 4000000
set_option Elab.async false
set_option linter.all false
set_option maxRecDepth 100000
set_option maxHeartbeats 4000000
namespace Tw
open PySem PySem.Spec L2 TL
open PyProof.Rows hiding St
section
variable {G : Gb} {B : Hp} {E : XK} {ρ : Evr} {Ω : Type} {post : Hp → Ω → Ends → Prop} {te ta tb : TE} {md : Md} {rest : TS} {i : Nat} {g : TG} {ts : List Nat}
def EvDr (G : Gb) (B : Hp) (E : XK) (ρ : Evr) (te : TE) (m : M RowsT) : Prop := ∀ (F0 F : Hp) (σ : L2.St) (H : Hp) (Q : VK), Rel G B F0 F ρ σ H →
  m.P (fun a => ∀ (F' : Hp) (p : Addr) (H' : Hp), Ext F H F' H' → Same F' H' → DrAt H F' H' p a → Q (.ref p) H') (Xc G B E) → te σ H Q
theorem DrAt.freeze {A F H : Hp} {p : Addr} {a : RowsT} (d : DrAt A F H p a) (s : Same F H) : ∃ F', Same F F' ∧ Same F' H ∧ (∀ b, F b = none → F' b ≠ none → A b = none) ∧ rep G F' (.ref p) a := by
  classical
  obtain ⟨cs, h1, h2, h3⟩ := d
  let F' : Hp := fun b => if FpR p cs b then H b else F b
  have in' : ∀ {b}, FpR p cs b → F' b = H b := fun f => if_pos f
  have out' : ∀ {b}, ¬ FpR p cs b → F' b = F b := fun f => if_neg f
  refine ⟨F', fun b o e => ?_, fun b o e => ?_, fun b h q => ?_, ?_⟩
  · by_cases f : FpR p cs b
    · rw [(h3 b f).2] at e; cases e
    · rw [out' f]; exact e
  · by_cases f : FpR p cs b
    · rw [in' f] at e; exact e
    · rw [out' f] at e; exact s _ _ e
  · by_cases f : FpR p cs b
    · exact (h3 b f).1
    · rw [out' f] at q; exact absurd h q
  · have r' : Rows F' p cs := h1.keep fun b o f e => by rw [in' f]; exact e
    rw [← h2]
    exact r'.rep
theorem EvDr.F {m : M RowsT} (h : EvDr G B E ρ te m) : Ev G B E .F ρ te m := fun F0 F σ H Q R q => h F0 F σ H Q R (q.imp (fun a k F' p H' e s d => by
  obtain ⟨F2, s1, s2, s3, s4⟩ := d.freeze (G := G) s
  exact k F2 _ H' ⟨e.f.trans s1, e.h, fun b h q => by
    cases z : F' b with
    | none => exact s3 b z q
    | some o => exact e.n b h (by rw [z]; exact fun z => nomatch z)⟩ s2 s4) fun _ x => x)
end
end Tw
set_option Elab.async false
set_option linter.all false
set_option maxRecDepth 100000
set_option maxHeartbeats 4000000
namespace Tw
open PySem PySem.Spec L2 TL
open PyProof.Rows hiding St
def idxS : List Str → Str → Option Nat
  | [], _ => none
  | a :: r, t => if a = t then some 0 else (idxS r t).map (· + 1)
theorem idxS_spec : ∀ {l : List Str} {t : Str} {j : Nat}, idxS l t = some j → l[j]? = some t ∧ ∀ (m : Nat) (z : Str), m < j → l[m]? = some z → z ≠ t
  | [], _, _, h => by cases h
  | a :: r, t, j, h => by
    unfold idxS at h
    by_cases q : a = t
    · rw [if_pos q] at h
      cases h
      exact ⟨by rw [q]; rfl, fun m z hm => absurd hm (Nat.not_lt_zero _)⟩
    · rw [if_neg q] at h
      cases e : idxS r t with
      | none => rw [e] at h; cases h
      | some k =>
        rw [e] at h
        cases h
        obtain ⟨h1, h2⟩ := idxS_spec e
        refine ⟨h1, fun m z hm hz => ?_⟩
        cases m with
        | zero => injection hz with hz; rw [← hz]; exact q
        | succ m => exact h2 m z (Nat.lt_of_succ_lt_succ hm) hz
theorem idxS_mem : ∀ {l : List Str} {t : Str}, t ∈ l → ∃ j, idxS l t = some j
  | a :: r, t, h => by
    unfold idxS
    by_cases q : a = t
    · exact ⟨0, if_pos q⟩
    · rw [if_neg q]
      obtain ⟨j, hj⟩ := idxS_mem (l := r) ((List.mem_cons.mp h).resolve_left fun w => q w.symm)
      exact ⟨j + 1, by rw [hj]; rfl⟩
/-- (word, set) or (word, set, set) -/
structure Pt where
  w : Str
  a : List Str
  b : Option (List Str)
instance : Rp Pt where
  rep G H x t := match t.b with
    | none => rep G H x ((t.w, t.a) : Str × List Str)
    | some b => rep G H x (⟨t.w, t.a, b⟩ : T3 Str (List Str) (List Str))
  mono := fun {G H H' v t} s h => by
    obtain ⟨w, a, b⟩ := t
    cases b with
    | none => exact Rp.mono (α := Str × List Str) s h
    | some b => exact Rp.mono (α := T3 Str (List Str) (List Str)) s h
section
variable {G : Gb} {B : Hp} {E : XK} {ρ : Evr} {md md' mr : Md} {ta tb te : TE} {i : Nat} {p dx : Addr} {fl : List Fd}
theorem ev_index {m : M (List Str)} {n : M Str} (h : Ev G B E md ρ ta m) (k : Ev G B E md' ρ tb n) : Ev G B E mr ρ (tBM G.K "list" (rIndex G.K) ta (tCons tb tNil)) (m.b fun l => n.b fun x => (M.get (idxS l x)).b fun j => .ok ((j : Nat) : Int)) := fun F0 F σ H Q R q =>
  h.toH.go R q fun l F1 v H1 e1 r1 R1 q => by
    obtain ⟨p, vs, rfl, h1, h2⟩ := r1
    rw [strs_of h2] at h1
    refine ⟨.inl ⟨rfl, _, .of h1⟩, k.go R1 q fun x F2 w H2 e2 r2 R2 q => ?_⟩
    obtain ⟨j, hj, q⟩ := M.P_get.mp (M.P_b.mp q)
    obtain ⟨s1, s2⟩ := idxS_spec hj
    refine ⟨p, _, .str x, j, .str x, rfl, by rw [show w = .str x from r2], .of (e2.h _ _ h1), rfl, List.all_eq_true.mpr fun v hv => ?_, ?_, beq_self_eq_true x, fun m z' hm hz => ?_, q F2 _ H2 (e1.trans e2) R2.sF rfl⟩
    · obtain ⟨s, _, rfl⟩ := List.mem_map.mp hv
      rfl
    · rw [List.getElem?_map, s1]
      rfl
    · rw [List.getElem?_map] at hz
      cases ez : l[m]? with
      | none => rw [ez] at hz; cases hz
      | some s =>
        rw [ez] at hz
        cases hz
        exact beq_eq_false_iff_ne.mpr (s2 m s hm ez)
end
end Tw
set_option Elab.async false
set_option linter.all false
set_option maxRecDepth 100000
set_option maxHeartbeats 4000000
set_option Elab.async false
set_option linter.all false
set_option maxRecDepth 100000
set_option maxHeartbeats 4000000
namespace L2
open PySem PySem.Spec PyProof.Rows
end L2
set_option Elab.async false
set_option linter.all false
set_option maxRecDepth 100000
set_option maxHeartbeats 4000000
namespace Tw
open PySem PySem.Spec L2 TL
open PyProof.Rows hiding St
/-- one list of texts ahead of another -/
def ltLS : List Str → List Str → Bool
  | [], [] => false
  | [], _ :: _ => true
  | _ :: _, [] => false
  | x :: xs, y :: ys => if x = y then ltLS xs ys else decide (tl x < tl y)
theorem tl_lt_tri {x y : Str} (h : ¬ tl x < tl y) (e : x ≠ y) : tl y < tl x := by
  rcases List.le_iff_lt_or_eq.mp (List.not_lt.mp h) with z | z
  · exact z
  · exact absurd (ext_tl z).symm e
theorem ltLS_asym : ∀ xs ys : List Str, ltLS xs ys = true → ltLS ys xs = false
  | [], [], h => by cases h
  | [], y :: ys, _ => rfl
  | x :: xs, [], h => by cases h
  | x :: xs, y :: ys, h => by
    unfold ltLS at h ⊢
    by_cases e : x = y
    · rw [if_pos e] at h
      rw [if_pos e.symm]
      exact ltLS_asym xs ys h
    · rw [if_neg e] at h
      rw [if_neg (Ne.symm e)]
      exact decide_eq_false (List.lt_asymm (of_decide_eq_true h))
theorem ltLS_tr : ∀ xs ys zs : List Str, ltLS ys xs = false → ltLS zs ys = false → ltLS zs xs = false
  | [], ys, zs, _, _ => by cases zs <;> rfl
  | x :: xs, [], zs, h, _ => by cases h
  | x :: xs, y :: ys, [], _, h => by cases h
  | x :: xs, y :: ys, z :: zs, h1, h2 => by
    unfold ltLS at h1 h2 ⊢
    by_cases e1 : y = x
    · rw [if_pos e1] at h1
      by_cases e2 : z = y
      · rw [if_pos e2] at h2
        rw [if_pos (e2.trans e1)]
        exact ltLS_tr xs ys zs h1 h2
      · rw [if_neg e2] at h2
        rw [if_neg (fun q => e2 (q.trans e1.symm)), ← e1]
        exact h2
    · rw [if_neg e1] at h1
      have a := of_decide_eq_false h1
      by_cases e2 : z = y
      · rw [if_neg (fun q => e1 (e2.symm.trans q)), e2]
        exact h1
      · rw [if_neg e2] at h2
        have b := of_decide_eq_false h2
        have c : tl x < tl y := tl_lt_tri a e1
        have d : tl y < tl z := tl_lt_tri b e2
        have f := List.lt_trans c d
        have n : ¬ z = x := fun q => by rw [q] at f; exact List.lt_irrefl _ f
        rw [if_neg n]
        exact decide_eq_false (List.lt_asymm f)
theorem ltLS_swo {α : Type} (k : α → List Str) : SrtO.Swo (fun v u : α => ltLS (k v) (k u)) := ⟨fun x y h => ltLS_asym _ _ h, fun x y z h1 h2 => ltLS_tr _ _ _ h1 h2⟩
theorem ltLS_eq : ∀ {xs ys : List Str}, ltLS xs ys = false → ltLS ys xs = false → xs = ys
  | [], [], _, _ => rfl
  | [], y :: ys, h, _ => by cases h
  | x :: xs, [], _, h => by cases h
  | x :: xs, y :: ys, h1, h2 => by
    unfold ltLS at h1 h2
    by_cases e : x = y
    · rw [if_pos e] at h1
      rw [if_pos e.symm] at h2
      rw [e, ltLS_eq h1 h2]
    · rw [if_neg e] at h1
      rw [if_neg (Ne.symm e)] at h2
      exact absurd (tl_lt_tri (of_decide_eq_false h1) e) (of_decide_eq_false h2)
theorem firstLt_map {e r : Nat → Bool} {fin : Bool} : ∀ l : List Nat, SeqAt.firstLt e r fin (l.map Nat.succ) = SeqAt.firstLt (fun j => e (j + 1)) (fun j => r (j + 1)) fin l
  | [] => rfl
  | j :: t => by
    rw [List.map_cons]
    unfold SeqAt.firstLt
    rw [firstLt_map t]
theorem firstLt_ls : ∀ (xs ys : List Str), SeqAt.firstLt (fun j => xs.getD j default == ys.getD j default) (fun j => decide (tl (xs.getD j default) < tl (ys.getD j default))) (decide (xs.length < ys.length)) (List.range (min xs.length ys.length)) = ltLS xs ys
  | [], [] => rfl
  | [], y :: ys => by
    rw [show min ([] : List Str).length (y :: ys).length = 0 by simp]
    show decide _ = true
    exact decide_eq_true (Nat.succ_pos _)
  | x :: xs, [] => by
    rw [show min (x :: xs).length ([] : List Str).length = 0 by simp]
    show decide _ = false
    exact decide_eq_false (by simp)
  | x :: xs, y :: ys => by
    have e1 : min (x :: xs).length (y :: ys).length = min xs.length ys.length + 1 := by simp only [List.length_cons]; omega
    rw [e1, List.range_succ_eq_map]
    unfold ltLS
    have ih := firstLt_ls xs ys
    by_cases e : x = y
    · rw [if_pos e, SeqAt.firstLt_yes (by show (x == y) = true; rw [e]; exact beq_self_eq_true _), firstLt_map, ← ih]
      have e2 : decide ((x :: xs).length < (y :: ys).length) = decide (xs.length < ys.length) := by
        rw [decide_eq_decide, List.length_cons, List.length_cons]
        omega
      rw [e2]
      rfl
    · rw [if_neg e, SeqAt.firstLt_no (by show (x == y) = false; exact beq_eq_false_iff_ne.mpr e)]
      rfl
/-- v is a list that holds these texts -/
def IsLs (h : Heap) (v : Value) (xs : List Str) : Prop := ∃ (a : Addr) (its : List Value) (n : Nat), v = .ref a ∧ h.get? a = some (seqObj "list" its.toArray n) ∧ Vals (xs.map V.str) its
theorem IsLs.keeps {h h' : Heap} {v : Value} {xs : List Str} (x : IsLs h v xs) (k : ∀ b o, v = .ref b → h.get? b = some o → h'.get? b = some o) : IsLs h' v xs := by
  obtain ⟨a, its, n, e, g, i⟩ := x
  exact ⟨a, its, n, e, k _ _ e g, i⟩
theorem vals_str_at : ∀ {xs : List Str} {its : List Value}, Vals (xs.map V.str) its → ∀ {j : Nat} (h : j < its.length), ∃ t, its[j] = Value.str (xs.getD j default) t
  | [], _, r, j, h => by
    cases r
    cases h
  | x :: xs, _, r, j, h => by
    rw [List.map_cons] at r
    cases r with
    | cons h1 q =>
      cases j with
      | zero =>
        obtain ⟨t, rfl⟩ := h1
        exact ⟨t, rfl⟩
      | succ j => exact vals_str_at q (Nat.lt_of_succ_lt_succ h)
section
variable {prog : Program} {w : World} {A : Around} {s : Shared}
theorem lt_ls {v u : Value} {xs ys : List Str} {Q : Bool → Shared → Prop} {E : Value → Shared → Prop} (hu : A.units < cLine) (hv : IsLs s.heap v xs) (hw : IsLs s.heap u ys) (h : Q (ltLS xs ys) s) : wpAny (model prog w) A (keyLt' oneType' v u) Q E s := by
  obtain ⟨a, its, n, rfl, ga, ra⟩ := hv
  obtain ⟨b, its2, n2, rfl, gb, rb⟩ := hw
  have l1 : its.length = xs.length := by have := ra.length; rw [List.length_map] at this; exact this.symm
  have l2 : its2.length = ys.length := by have := rb.length; rw [List.length_map] at this; exact this.symm
  rw [keyLt'_oneType, oneLt'_eq]
  simp only [if_true]
  refine wpAny_bind (wpAny_cRoomFor hu ?_)
  refine wpAny_bind (PySem.wpAny_callSpecialIfBound?_slot (T := "list") ⟨_, ga, rfl⟩ PySem.F.slot_list_lt (PySem.SeqAt.call_list_lt (e := fun j => xs.getD j default == ys.getD j default) (r := fun j => decide (tl (xs.getD j default) < tl (ys.getD j default))) ⟨_, ga, rfl, _, rfl⟩ ⟨_, gb, rfl, _, rfl⟩ (fun j j1 j2 => ?_) (fun j j1 j2 hj => ?_) ?_))
  · obtain ⟨t1, e1⟩ := vals_str_at ra (j := j) (by simpa using j1)
    obtain ⟨t2, e2⟩ := vals_str_at rb (j := j) (by simpa using j2)
    have z1 : its.toArray[j] = its[j]'(by simpa using j1) := by simp
    have z2 : its2.toArray[j] = its2[j]'(by simpa using j2) := by simp
    rw [z1, z2, e1, e2]
    exact PySem.SeqAt.EqAt.str_str _ _ _ _
  · obtain ⟨t1, e1⟩ := vals_str_at ra (j := j) (by simpa using j1)
    obtain ⟨t2, e2⟩ := vals_str_at rb (j := j) (by simpa using j2)
    have z1 : its.toArray[j] = its[j]'(by simpa using j1) := by simp
    have z2 : its2.toArray[j] = its2[j]'(by simpa using j2) := by simp
    rw [z1, z2, e1, e2]
    intro prog' w' E' Q' hq
    exact DT.rcLt_str _ _ _ _ _ _ prog' w' E' Q' hq
  · refine wpAny_truthy_bool ?_
    have := firstLt_ls xs ys
    rw [← l1, ← l2] at this
    rw [show (its.toArray).size = its.length by simp, show (its2.toArray).size = its2.length by simp, this]
    exact h
theorem ls_sortable {a : Addr} {vs : List Value} {k : Value → List Str} (h2 : 2 ≤ vs.length) (hu : A.units < cLine) (hv : ∀ v ∈ vs, IsLs s.heap v (k v)) (ha : ∀ v ∈ vs, v ≠ .ref a) :
    SrtO.SortableO prog w A s a vs fun v u => ltLS (k v) (k u) := by
  intro h' keep
  have hv' : ∀ v ∈ vs, IsLs h' v (k v) := fun v hm => (hv v hm).keeps fun b o e g => keep b o (fun z => ha v hm (by rw [e, z])) g
  refine ⟨oneType', fun Q E hq => ?_, fun p q hp hq => lt_ls (s := { s with heap := h' }) (Q := fun r s' => s' = { s with heap := h' } ∧ r = ltLS (k p.1) (k q.1)) (E := fun _ _ => False) hu (hv' p.1 hp) (hv' q.1 hq) ⟨rfl, rfl⟩⟩
  refine PySem.W.kas_kind (s := { s with heap := h' }) (T := .type "list") h2 (fun v hm => ?_) (by rfl) (by rfl) hq
  obtain ⟨b, its, n, rfl, g, _⟩ := hv' v hm
  exact (PySem.W.Looks.ld g).andThen .now
end
/-- sorted(xs), xs a list of lists of texts (k says which): a new list, sorted -/
def rSortedLs (K : PySem.W.Frag) : List V → Hp → VK → Prop := fun vs H Q => ∃ (a : Addr) (xs : List V) (k : V → List Str), vs = [V.ref a] ∧ SqL K H a xs ∧ (∀ x ∈ xs, ∃ t, x = V.ref t ∧ H t = some (.lst ((k x).map V.str))) ∧
  ∀ ys p, SrtO.Srtd (fun x y => ltLS (k x) (k y)) ys → ys.Perm xs → H p = none → Q (.ref p) (upd H p (.lst ys))
section
variable {X : Cx}
theorem cr_sortedLs (hu : X.A.units + 64 < cLine) : CallR X (.builtin "sorted") (rSortedLs X.K) := by
  intro pins s σ H vs us Q I r h
  obtain ⟨a, xs, k, rfl, hs, hx, q⟩ := h
  obtain rfl := Vals.ref1 r
  obtain ⟨its, rv, hl, hz⟩ := I.list hs
  obtain ⟨e1, e2⟩ := refs_back rv fun x m => by
    obtain ⟨t, e, _⟩ := hx x m
    exact ⟨t, e⟩
  have hp : ∀ v ∈ its, IsLs s.heap v (k (backV v)) := fun v hv => by
    obtain ⟨t, rfl⟩ := e2 v hv
    have hm : V.ref t ∈ xs := by rw [e1]; exact List.mem_map.mpr ⟨_, hv, rfl⟩
    obtain ⟨t', e, ht⟩ := hx _ hm
    cases e
    obtain ⟨_, its2, n, r2, ho⟩ := I.hok _ _ ht
    exact ⟨t, its2, n, rfl, ho, r2⟩
  refine SrtO.sorted_ord (ltLS_swo fun u => k (backV u)) hl.isList (by rw [← rv.length]; exact hz) (fun h2 h₁ a' ha' kk => ls_sortable h2 (by have h : X.A.in1.in1.units = X.A.units + 1 + 1 := rfl; omega) (fun v hv => (hp v hv).keeps fun b o _ e => (kk b o e).2) fun v hv z => ?_) fun out h1 h2 => ?_
  · obtain ⟨b, its2, n, e, g, _⟩ := hp v hv
    rw [e] at z
    exact (kk b _ g).1 (Value.ref.inj z)
  · have h2p : out.Perm its := h2.perm
    have h3 : ∀ u ∈ out, ∃ a, u = Value.ref a := fun u hu => e2 u (h2p.mem_iff.mp hu)
    have hb : (out.map backV).Perm xs := by
      rw [e1]
      exact h2p.map backV
    obtain ⟨ep, he'⟩ := PyProof.Rows.sortedAll_at s.heap its out.toArray
    have hlen : (out.map backV).length ≤ sizeLine := by
      rw [hb.length_eq]
      exact hz
    exact ⟨.ref _, upd H (s.heap.objs.size + 1) (.lst (out.map backV)), I.laid (t' := s.toks) (fun _ _ => PyProof.Rows.sortedAll_old) (Nat.le_succ _) ⟨hlen, out, ep, vals_back h3, by simpa using he'⟩, rfl, q _ _ (SrtO.srtd_map h1) hb (I.hok.fresh (Nat.le_succ _))⟩
end
def leLS (a b : List Str) : Bool := !ltLS b a
def srtLs (l : List (List Str)) : List (List Str) := l.mergeSort leLS
theorem leLS_trans (a b c : List Str) (h1 : leLS a b = true) (h2 : leLS b c = true) : leLS a c = true := by
  unfold leLS at *
  rw [Bool.not_eq_true'] at *
  exact ltLS_tr _ _ _ h1 h2
theorem leLS_total (a b : List Str) : (leLS a b || leLS b a) = true := by
  unfold leLS
  cases h : ltLS b a with
  | false => rfl
  | true => rw [ltLS_asym _ _ h]; rfl
theorem leLS_anti {a b : List Str} (h1 : leLS a b = true) (h2 : leLS b a = true) : a = b := by
  unfold leLS at *
  rw [Bool.not_eq_true'] at *
  exact ltLS_eq h2 h1
theorem srtLs_perm (l : List (List Str)) : (srtLs l).Perm l := List.mergeSort_perm l leLS
theorem srtLs_uniq {l m : List (List Str)} (h : m.Pairwise fun a b => leLS a b = true) (p : m.Perm l) : m = srtLs l :=
  (p.trans (List.mergeSort_perm l leLS).symm).eq_of_pairwise (fun _ _ _ _ a b => leLS_anti a b) h (List.pairwise_mergeSort leLS_trans leLS_total l)
theorem srtLs_congr {l m : List (List Str)} (p : l.Perm m) : srtLs l = srtLs m := srtLs_uniq (List.pairwise_mergeSort leLS_trans leLS_total l) ((srtLs_perm l).trans p)
section
variable {G : Gb} {B : Hp} {E : XK} {ρ : Evr} {te : TE}
theorem ls_key {H : Hp} : ∀ {vs : List V} {l : List (List Str)}, reps G H vs l → ∃ k : V → List Str, (∀ v ∈ vs, ∃ t, v = V.ref t ∧ H t = some (.lst ((k v).map V.str))) ∧ vs.map k = l := by
  intro vs l h
  classical
  let k : V → List Str := fun v => if z : ∃ x : List Str, rep G H v x then z.choose else []
  have str_of : ∀ {us : List V} {x : List Str}, reps G H us x → us = x.map V.str := by
    intro us x hx
    induction hx with
    | nil => rfl
    | cons h1 t ih =>
      rw [List.map_cons, ← ih]
      exact congrArg (· :: _) h1
  have uni : ∀ {v : V} {x y : List Str}, rep G H v x → rep G H v y → x = y := by
    rintro v x y ⟨p, us, rfl, h1, r1⟩ ⟨q, us2, e, h2, r2⟩
    cases e
    rw [h1] at h2
    injection h2 with h2
    injection h2 with h2
    rw [str_of r1, str_of r2] at h2
    exact List.map_inj_right (fun _ _ z => V.str.inj z) |>.mp h2
  have kx : ∀ {v : V} {x : List Str}, rep G H v x → k v = x := fun {v x} hx => by
    have z : ∃ x : List Str, rep G H v x := ⟨x, hx⟩
    show (if z : ∃ x : List Str, rep G H v x then z.choose else []) = x
    rw [dif_pos z]
    exact uni z.choose_spec hx
  refine ⟨k, fun v hv => ?_, ?_⟩
  · obtain ⟨i, hi⟩ := List.mem_iff_getElem?.mp hv
    obtain ⟨x, _, hx⟩ := h.get hi
    rw [kx hx]
    obtain ⟨p, us, rfl, h1, r1⟩ := hx
    rw [str_of r1] at h1
    exact ⟨p, rfl, h1⟩
  · induction h with
    | nil => rfl
    | cons hx t ih => rw [List.map_cons, kx hx, ih]
theorem str_reps {H : Hp} : ∀ (x : List Str), reps G H (x.map V.str) x
  | [] => .nil
  | _ :: r => .cons rfl (str_reps r)
theorem ls_of_key {H : Hp} {k : V → List Str} : ∀ {vs : List V}, (∀ v ∈ vs, ∃ t, v = V.ref t ∧ H t = some (.lst ((k v).map V.str))) → reps G H vs (vs.map k)
  | [], _ => .nil
  | v :: r, h => .cons (by obtain ⟨t, e, ht⟩ := h v List.mem_cons_self; exact ⟨t, _, e, ht, str_reps _⟩) (ls_of_key fun u hu => h u (List.mem_cons_of_mem _ hu))
theorem en_sortLs {m : M (List (List Str))} (h : EvS G B E ρ te m) : EvN G B E ρ (tCB (rSortedLs G.K) (tCons te tNil)) (m.b fun l => .ok (srtLs l)) := fun F0 F σ H Q R q =>
  h.go R q fun l F1 p vs H1 e1 h1 h2 R1 q => by
    obtain ⟨k, k1, k2⟩ := ls_key h2
    refine ⟨p, vs, k, rfl, .of h1, fun v hv => ?_, fun ys d hs hp nd => ?_⟩
    · obtain ⟨t, e, ht⟩ := k1 v hv
      exact ⟨t, e, R1.sF _ _ ht⟩
    · refine q F1 d _ _ (e1.trans (.new nd)) (R1.sF.trans (same_upd nd)) (e1.h.free nd) (R1.sF.free nd) upd_same ⟨_, rfl, ?_⟩
      have hy : reps G F1 ys (ys.map k) := ls_of_key fun v hv => k1 v (hp.mem_iff.mp hv)
      have := srtLs_uniq (l := l) (m := ys.map k) (List.pairwise_map.mpr (hs.imp fun z => by show (!_) = true; rw [show ltLS _ _ = false from z]; rfl)) (by rw [← k2]; exact hp.map k)
      rw [← this]
      exact hy
end
end Tw
set_option Elab.async false
set_option linter.all false
set_option maxRecDepth 100000
set_option maxHeartbeats 4000000
namespace Tw
open PySem PySem.Spec L2 TL
open PyProof.Rows hiding St
/-- v is a tuple of a text and a whole number -/
def IsSI (h : Heap) (v : Value) (x : Str × Int) : Prop := ∃ a o t u n, v = .ref a ∧ h.get? a = some o ∧ o.cls = .type "tuple" ∧ o.data = .seq #[.str x.1 t, .int x.2 u] n
theorem IsSI.keeps {h h' : Heap} {v : Value} {x : Str × Int} (p : IsSI h v x) (k : ∀ b o, h.get? b = some o → o.cls = .type "tuple" → h'.get? b = some o) : IsSI h' v x := by
  obtain ⟨a, o, t, u, n, e, g, c, d⟩ := p
  exact ⟨a, o, t, u, n, e, k _ _ g c, c, d⟩
end Tw
set_option Elab.async false
set_option linter.all false
set_option maxRecDepth 100000
set_option maxHeartbeats 4000000
set_option Elab.async false
set_option linter.all false
set_option maxRecDepth 100000
set_option maxHeartbeats 4000000
namespace Tw
open PySem PySem.Spec L2 TL
open PyProof.Rows hiding St
/-- the ends of C that bear t -/
def nC (rows : RowsT) (C : List NE) (t : Str) : Nat := (C.filter fun e => decide (tie? rows e = some t)).length
theorem nC_snoc (rows : RowsT) (C : List NE) (e : NE) (t : Str) : nC rows (C ++ [e]) t = nC rows C t + if tie? rows e = some t then 1 else 0 := by
  unfold nC
  rw [List.filter_append, List.length_append]
  by_cases h : tie? rows e = some t <;> simp [h]
structure Tot (rows : RowsT) (C : List NE) (T : List Str) : Prop where
  srt : Sorted T
  nd : T.Nodup
  mem : ∀ t, t ∈ T ↔ nC rows C t % 2 = 1
theorem Tot.nil {rows : RowsT} : Tot rows [] [] := ⟨.nil, .nil, fun t => by simp [nC]⟩
theorem Tot.snoc {rows : RowsT} {C : List NE} {T : List Str} (h : Tot rows C T) {e : NE} {t : Str} (ht : tie? rows e = some t) : Tot rows (C ++ [e]) (sumS T [t]) where
  srt := sum_sorted _ _
  nd := sum_nodup h.nd (by simp)
  mem := fun u => by
    rw [mem_sum, nC_snoc, ht, h.mem]
    by_cases z : t = u
    · subst z
      simp
      omega
    · have z2 : ¬ u = t := fun w => z w.symm
      simp [z, z2]
theorem Tot.ties {rows : RowsT} {C : List NE} {T : List Str} (h : Tot rows C T) : ∀ t ∈ T, t ∈ ties rows := fun t ht => by
  have := (h.mem t).mp ht
  unfold nC at this
  match e : C.filter fun e => decide (tie? rows e = some t) with
  | [] => rw [e] at this; cases this
  | a :: _ =>
    have ha : a ∈ C.filter fun e => decide (tie? rows e = some t) := by rw [e]; simp
    exact tie_in (of_decide_eq_true (List.mem_filter.mp ha).2)
theorem Tot.len {rows : RowsT} {C : List NE} {T : List Str} (h : Tot rows C T) : T.length ≤ (tiesS rows).length := nodup_le h.nd fun t ht => mem_tiesS.mpr (h.ties t ht)
/-- whole faces only -/
def FC (rows : RowsT) (D : List NE) : Prop := ∀ e ∈ D, e ∈ allE rows ∧ ∀ d ∈ faceE rows e, d ∈ D
theorem FC.app {rows : RowsT} (h : Twice rows) {D : List NE} (k : FC rows D) {e : NE} (he : e ∈ allE rows) : FC rows (D ++ faceE rows e) := fun d hd => by
  have I := stp_inj h
  rcases List.mem_append.mp hd with w | w
  · exact ⟨(k d w).1, fun c hc => List.mem_append_left _ ((k d w).2 c hc)⟩
  · exact ⟨I.face_sub he d w, fun c hc => List.mem_append_right _ (I.trans he w hc)⟩
end Tw
set_option Elab.async false
set_option linter.all false
set_option maxRecDepth 100000
set_option maxHeartbeats 4000000
namespace Tw
open PySem PySem.Spec L2 TL
open PyProof.Rows hiding St
structure Dn (D : List NE) (d : List ((Int × Int) × Bool)) : Prop where
  nd : (d.map (·.1)).Nodup
  mem : ∀ k, k ∈ d.map (·.1) ↔ ∃ e ∈ D, k = cI e
theorem Dn.put {D : List NE} {d} (h : Dn D d) (e : NE) (b : Bool) : Dn (D ++ [e]) (dput d (cI e) b) := ⟨dput_nodup h.nd, fun k => by
  rw [dput_mem, h.mem]
  constructor
  · rintro (⟨c, hc, w⟩ | w)
    · exact ⟨c, List.mem_append_left _ hc, w⟩
    · exact ⟨e, by simp, w⟩
  · rintro ⟨c, hc, w⟩
    rcases List.mem_append.mp hc with q | q
    · exact .inl ⟨c, q, w⟩
    · rw [List.mem_singleton.mp q] at w
      exact .inr w⟩
theorem Dn.len {rows : RowsT} {D : List NE} {d} (h : Dn D d) (k : ∀ e ∈ D, e ∈ allE rows) : d.length ≤ (allE rows).length := by
  have := nodup_le (l := (allE rows).map cI) h.nd fun x hx => by
    obtain ⟨e, he, w⟩ := (h.mem x).mp hx
    exact List.mem_map.mpr ⟨e, k e he, w.symm⟩
  rw [List.length_map, List.length_map] at this
  exact this
theorem Dn.get {D : List NE} {d} (h : Dn D d) (e : NE) : (dget d (cI e)).isSome = true ↔ e ∈ D := by
  cases q : dget d (cI e) with
  | none =>
    refine ⟨fun w => (by cases w), fun w => absurd ((h.mem (cI e)).mpr ⟨e, w, rfl⟩) (dget_none.mp q)⟩
  | some v =>
    refine ⟨fun _ => ?_, fun _ => rfl⟩
    have : cI e ∈ d.map (·.1) := Classical.byContradiction fun w => by rw [dget_none.mpr w] at q; cases q
    obtain ⟨c, hc, w⟩ := (h.mem _).mp this
    rw [cI_inj w]
    exact hc
end Tw
set_option Elab.async false
set_option linter.all false
set_option maxRecDepth 100000
set_option maxHeartbeats 4000000
namespace Tw
open PySem PySem.Spec L2 TL
open PyProof.Rows hiding St
theorem GNet.Q {rows : RowsT} {m : Nat} (h : GNet rows m) (hm : m ≤ 62) : NetQ rows :=
  ⟨h.props, h.sm (by omega), by have := h.rl; omega, h.hang, fun n hn => nm_okS (h.pn n hn), fun t ht => nm_okS (h.tn t ht)⟩
theorem mem_uniqT {rows : RowsT} {t : Str} : t ∈ uniq (ties rows) ↔ t ∈ ties rows := (uniq_props _).2.1 t
end Tw
set_option Elab.async false
set_option linter.all false
set_option maxRecDepth 100000
set_option maxHeartbeats 4000000
namespace Tw
open PySem PySem.Spec L2 TL
open PyProof.Rows hiding St
section
variable {α β : Type}
/-- the sum, of two values -/
def px (f : α → Bool) : List α → Bool
  | [] => false
  | a :: r => xor (f a) (px f r)
theorem px_app (f : α → Bool) : ∀ a b : List α, px f (a ++ b) = xor (px f a) (px f b)
  | [], b => by simp [px]
  | x :: r, b => by simp [px, px_app f r b, Bool.xor_assoc]
theorem px_perm (f : α → Bool) {a b : List α} (h : a.Perm b) : px f a = px f b := by
  induction h with
  | nil => rfl
  | cons x _ ih => simp [px, ih]
  | swap x y l => simp only [px]; rw [← Bool.xor_assoc, ← Bool.xor_assoc, Bool.xor_comm (f y)]
  | trans _ _ h1 h2 => exact h1.trans h2
theorem px_congr {f g : α → Bool} {l : List α} (h : ∀ a ∈ l, f a = g a) : px f l = px g l := by
  induction l with
  | nil => rfl
  | cons a r ih => simp only [px]; rw [h a List.mem_cons_self, ih fun b hb => h b (List.mem_cons_of_mem _ hb)]
theorem px_false (l : List α) : px (fun _ => false) l = false := by
  induction l with
  | nil => rfl
  | cons a r ih => simp [px, ih]
theorem px_zero {f : α → Bool} {l : List α} (h : ∀ a ∈ l, f a = false) : px f l = false := by rw [px_congr h, px_false]
theorem px_xor (f g : α → Bool) (l : List α) : px (fun a => xor (f a) (g a)) l = xor (px f l) (px g l) := by
  induction l with
  | nil => rfl
  | cons a r ih =>
    simp only [px, ih]
    cases f a <;> cases g a <;> cases px f r <;> cases px g r <;> rfl
theorem px_and (c : Bool) (f : α → Bool) (l : List α) : px (fun a => c && f a) l = (c && px f l) := by
  induction l with
  | nil => simp [px]
  | cons a r ih => simp only [px, ih]; cases c <;> simp
theorem px_map (f : β → Bool) (h : α → β) (l : List α) : px f (l.map h) = px (fun a => f (h a)) l := by
  induction l with
  | nil => rfl
  | cons a r ih => simp [px, ih]
theorem px_flat (f : β → Bool) (h : α → List β) (l : List α) : px f (l.flatMap h) = px (fun a => px f (h a)) l := by
  induction l with
  | nil => rfl
  | cons a r ih => rw [List.flatMap_cons, px_app, ih]; rfl
theorem px_swap (f : α → β → Bool) (l : List α) (m : List β) : px (fun a => px (f a) m) l = px (fun b => px (fun a => f a b) l) m := by
  induction l with
  | nil => rw [px]; exact (px_false m).symm
  | cons a r ih => simp only [px]; rw [ih, ← px_xor]
end
theorem px_rows (g : NE → Bool) (rows : RowsT) : px g (allE rows) = px (fun v => px (fun p => g (v, p)) (List.range (rowT rows v).length)) (List.range rows.length) := by
  unfold allE
  rw [px_flat]
  refine px_congr fun v _ => ?_
  rw [px_map]
theorem allE_seats {rows : RowsT} : (allE rows).Perm ((uniq (ties rows)).flatMap (seatL rows)) := by
  rw [List.perm_iff_count]
  intro e
  by_cases he : e ∈ allE rows
  · obtain ⟨t, ht⟩ := tie_some he
    have h1 : (allE rows).count e = 1 := Nat.le_antisymm (List.nodup_iff_count.mp (allE_nodup rows) e) (List.count_pos_iff.mpr he)
    rw [h1, List.count_flatMap]
    have hm : t ∈ uniq (ties rows) := mem_uniqT.mpr (tie_in ht)
    have nd := (uniq_props (ties rows)).1
    generalize uniq (ties rows) = L at hm nd
    have hcnt : ∀ u, (seatL rows u).count e = if u = t then 1 else 0 := fun u => by
      by_cases z : u = t
      · rw [if_pos z, z]
        exact Nat.le_antisymm (List.nodup_iff_count.mp (seat_nodup rows t) e) (List.count_pos_iff.mpr (mem_seat.mpr ht))
      · rw [if_neg z]
        refine List.count_eq_zero.mpr fun w => z ?_
        have := mem_seat.mp w
        rw [ht] at this
        injection this with this
        exact this.symm
    have : ∀ L : List Str, L.Nodup → (L.map (List.count e ∘ seatL rows)).sum = if t ∈ L then 1 else 0 := by
      intro L
      induction L with
      | nil => intro _; rfl
      | cons a r ih =>
        intro nd
        have n1 := List.nodup_cons.mp nd
        rw [List.map_cons, List.sum_cons, ih n1.2]
        show (seatL rows a).count e + _ = _
        rw [hcnt a]
        by_cases z : a = t
        · subst z
          rw [if_pos rfl, if_neg n1.1]
          simp
        · rw [if_neg z]
          have z2 : ¬ t = a := fun w => z w.symm
          simp [z2]
    rw [this L nd, if_pos hm]
  · rw [List.count_eq_zero.mpr he]
    symm
    refine List.count_eq_zero.mpr fun w => he ?_
    obtain ⟨t, _, h⟩ := List.mem_flatMap.mp w
    exact tie_mem (mem_seat.mp h)
def seatA (rows : RowsT) (t : Str) : NE := (seatL rows t).headD (0, 0)
theorem seatA_of {rows : RowsT} (h : Twice rows) {t : Str} (ht : t ∈ ties rows) : tie? rows (seatA rows t) = some t ∧ (seatL rows t = [seatA rows t, mate rows (seatA rows t)]) := by
  obtain ⟨a, b, hs, ne⟩ := seat_two h ht
  have ea : seatA rows t = a := by unfold seatA; rw [hs]; rfl
  have ta : tie? rows a = some t := mem_seat.mp (by rw [hs]; simp)
  have tb : tie? rows b = some t := mem_seat.mp (by rw [hs]; simp)
  refine ⟨by rw [ea]; exact ta, ?_⟩
  rw [ea, hs]
  rcases (mate_of h ta).2.2 b tb with z | z
  · exact absurd z.symm ne
  · rw [z]
theorem seatA_mem {rows : RowsT} (h : Twice rows) {t : Str} (ht : t ∈ ties rows) : seatA rows t ∈ allE rows ∧ tieD rows (seatA rows t) = t := ⟨tie_mem (seatA_of h ht).1, tieD_of (seatA_of h ht).1⟩
theorem px_ties {rows : RowsT} (h : Twice rows) (g : NE → Bool) : px g (allE rows) = px (fun t => xor (g (seatA rows t)) (g (mate rows (seatA rows t)))) (uniq (ties rows)) := by
  rw [px_perm g allE_seats, px_flat]
  refine px_congr fun t ht => ?_
  rw [(seatA_of h (mem_uniqT.mp ht)).2]
  simp [px]
def inB (C : List Str) (t : Str) : Bool := decide (t ∈ C)
def RoundP (rows : RowsT) (c : Str → Bool) : Prop := ∀ v, v < rows.length → px c (rowT rows v) = false
def CutP (rows : RowsT) (c : Str → Bool) (f : Nat → Bool) : Prop := ∀ e ∈ allE rows, c (tieD rows e) = xor (f e.1) (f (mate rows e).1)
theorem row_px (rows : RowsT) (c : Str → Bool) (v : Nat) : px c (rowT rows v) = px (fun p => c (tieD rows (v, p))) (List.range (rowT rows v).length) := by
  conv => lhs; rw [row_map rows v]
  rw [px_map]
/-- a round and a cut meet an even number of times -/
theorem round_cut {rows : RowsT} (h : Twice rows) {c d : Str → Bool} {f : Nat → Bool} (hr : RoundP rows c) (hc : CutP rows d f) : px (fun t => c t && d t) (uniq (ties rows)) = false := by
  have e1 : px (fun e => f e.1 && c (tieD rows e)) (allE rows) = false := by
    rw [px_rows]
    refine px_zero fun v hv => ?_
    show px (fun p => f v && c (tieD rows (v, p))) _ = false
    rw [px_and, ← row_px, hr v (List.mem_range.mp hv), Bool.and_false]
  rw [px_ties h] at e1
  rw [← e1]
  refine px_congr fun t ht => ?_
  have ht' := mem_uniqT.mp ht
  obtain ⟨hm, et⟩ := seatA_mem h ht'
  have em : tieD rows (mate rows (seatA rows t)) = t := tieD_of (mate_of h (seatA_of h ht').1).1
  have hd := hc _ hm
  rw [et] at hd
  rw [et, em, hd]
  cases f (seatA rows t).1 <;> cases f (mate rows (seatA rows t)).1 <;> cases c t <;> rfl
theorem RoundP.xor {rows : RowsT} {c d : Str → Bool} (hc : RoundP rows c) (hd : RoundP rows d) : RoundP rows fun t => xor (c t) (d t) := fun v hv => by
  rw [px_xor, hc v hv, hd v hv]
  rfl
theorem CutP.xor {rows : RowsT} {c d : Str → Bool} {f g : Nat → Bool} (hc : CutP rows c f) (hd : CutP rows d g) : CutP rows (fun t => xor (c t) (d t)) fun v => xor (f v) (g v) := fun e he => by
  show Bool.xor (c (tieD rows e)) (d (tieD rows e)) = Bool.xor (Bool.xor (f e.1) (g e.1)) (Bool.xor (f (mate rows e).1) (g (mate rows e).1))
  rw [hc e he, hd e he]
  cases f e.1 <;> cases g e.1 <;> cases f (mate rows e).1 <;> cases g (mate rows e).1 <;> rfl
/-- a set of ties, as it is told -/
structure SetT (rows : RowsT) (C : List Str) : Prop where
  s : Sorted C
  n : C.Nodup
  t : ∀ t ∈ C, t ∈ ties rows
theorem SetT.len {rows : RowsT} {C : List Str} (h : SetT rows C) : C.length ≤ (tiesS rows).length := nodup_le h.n fun t ht => mem_tiesS.mpr (h.t t ht)
theorem SetT.sum {rows : RowsT} {a b : List Str} (ha : SetT rows a) (hb : SetT rows b) : SetT rows (sumS a b) := ⟨sum_sorted _ _, sum_nodup ha.n hb.n, fun t ht => (mem_sum.mp ht).elim (fun w => ha.t t w.1) fun w => hb.t t w.1⟩
theorem SetT.ok {rows : RowsT} (Q : NetQ rows) {C : List Str} (h : SetT rows C) : Dd.Ok C := fun t ht => Q.okt t (h.t t ht)
end Tw
set_option Elab.async false
set_option linter.all false
set_option maxRecDepth 100000
set_option maxHeartbeats 4000000
namespace Tw
open PySem PySem.Spec L2 TL
open PyProof.Rows hiding St
def outC (rows : RowsT) (c : Str → Bool) (v : Nat) : List (Nat × Str) := (outR rows v).filter fun e => c e.2
theorem mem_outC {rows : RowsT} {c : Str → Bool} {v : Nat} {e : Nat × Str} : e ∈ outC rows c v ↔ ∃ p, (v, p) ∈ allE rows ∧ e = ((mate rows (v, p)).1, tieD rows (v, p)) ∧ c (tieD rows (v, p)) = true := by
  unfold outC
  rw [List.mem_filter, mem_outR]
  constructor
  · rintro ⟨⟨p, hp, rfl⟩, h⟩; exact ⟨p, hp, rfl, h⟩
  · rintro ⟨p, hp, rfl, h⟩; exact ⟨⟨p, hp, rfl⟩, h⟩
def edgeC (rows : RowsT) (c : Str → Bool) (v p : Nat) : Option (Nat × Str) := if c (tieD rows (v, p)) = true then some ((mate rows (v, p)).1, tieD rows (v, p)) else none
theorem outC_map (rows : RowsT) (c : Str → Bool) (v : Nat) : (List.range (rowT rows v).length).filterMap (edgeC rows c v) = outC rows c v := by
  unfold outC outR
  have : ∀ l : List Nat, l.filterMap (edgeC rows c v) = (l.map fun p => ((mate rows (v, p)).1, tieD rows (v, p))).filter fun e => c e.2 := by
    intro l
    induction l with
    | nil => rfl
    | cons p r ih =>
      rw [List.map_cons, List.filter_cons]
      by_cases h : c (tieD rows (v, p)) = true
      · rw [List.filterMap_cons_some (show edgeC rows c v p = some _ from if_pos h), ih, if_pos h]
      · rw [List.filterMap_cons_none (show edgeC rows c v p = none from if_neg h), ih, if_neg h]
  exact this _
abbrev GoodR (rows : RowsT) (c : Str → Bool) (b0 : Nat) {α : Type} : Nat → α → Prop := fun v _ => Rch (outC rows c) b0 v
theorem flC {α : Type} {rows : RowsT} (h : Twice rows) (c : Str → Bool) (b0 : Nat) (up : α → Str → α) : Fl rows.length (outC rows c) up (fun _ _ _ => true) (GoodR rows c b0) where
  lt := fun v _ e he => outR_lt h (List.mem_filter.mp he).1
  ok := fun _ _ => rfl
  go := fun v x hv hg e he => .step hg he
theorem FlT.len {ε : Type} {out : Nat → List (Nat × ε)} {up : List ε → ε → List ε} (hu : ∀ x e, (up x e).length = x.length + 1) {b0 : Nat} {L : List (Nat × List ε)} (h : FlT out up [] b0 L) : ∀ v x, dget L v = some x → x.length < L.length := by
  induction h with
  | zero =>
    intro v x h
    rw [dget_cons] at h
    by_cases z : b0 = v
    · rw [if_pos z] at h; cases h; simp
    · rw [if_neg z] at h; cases h
  | @step L w y e _ hv he hn ih =>
    intro v x h
    rw [dget_append] at h
    rw [List.length_append, List.length_singleton]
    cases q : dget L v with
    | some z => rw [q] at h; cases h; have := ih v _ q; omega
    | none =>
      rw [q, dget_cons] at h
      by_cases z : e.1 = v
      · rw [if_pos z] at h
        cases h
        rw [hu]
        have := ih w y hv
        omega
      · rw [if_neg z] at h; cases h
theorem all_len {α : Type} {rows : RowsT} {c : Str → Bool} {b0 : Nat} {up : α → Str → α} {a0 : α} {A : FlA α} (I : FlI rows.length (outC rows c) up (fun _ _ _ => true) (GoodR rows c b0) a0 b0 (fun _ => False) A) (he : A.2 = []) : A.1.length = rows.length ↔ ∀ v, v < rows.length → Rch (outC rows c) b0 v := by
  have key : ∀ v, v ∈ A.1.map (·.1) ↔ Rch (outC rows c) b0 v := fun v => by
    constructor
    · intro h
      obtain ⟨x, hx⟩ := mem_keys.mp h
      exact I.good v x hx
    · intro h
      exact mem_keys.mpr (I.all he h)
  constructor
  · intro hl v hv
    refine (key v).mp (Classical.byContradiction fun w => ?_)
    have := nodup_le (s := v :: A.1.map (·.1)) (l := List.range rows.length) (List.nodup_cons.mpr ⟨w, I.nd⟩) fun u hu => by
      rcases List.mem_cons.mp hu with rfl | hu
      · exact List.mem_range.mpr hv
      · obtain ⟨p, hp, rfl⟩ := List.mem_map.mp hu; exact List.mem_range.mpr (I.lt p hp)
    rw [List.length_cons, List.length_map, List.length_range] at this
    omega
  · intro h
    have h1 := I.len
    have := nodup_le (s := List.range rows.length) (l := A.1.map (·.1)) List.nodup_range fun u hu => (key u).mpr (h u (List.mem_range.mp hu))
    rw [List.length_map, List.length_range] at this
    omega
def Joins (rows : RowsT) (C : List Str) : Prop := C.length + 1 = rows.length ∧ ∀ v, v < rows.length → Rch (outC rows (inB C)) 0 v
end Tw
set_option Elab.async false
set_option linter.all false
set_option maxRecDepth 100000
set_option maxHeartbeats 4000000
namespace Tw
open PySem PySem.Spec L2 TL
open PyProof.Rows hiding St
structure NetT (rows : RowsT) : Prop extends NetP rows where
  sm : Sm rows
  okn : ∀ n ∈ rows.map (·.1), Dd.Ok n
theorem pnm_inn {rows : RowsT} {r : Nat} (h : r < rows.length) : pnm rows r ∈ rows.map (·.1) := by
  rw [pnm_at (List.getElem?_eq_getElem h)]
  exact List.mem_map.mpr ⟨_, List.getElem_mem h, rfl⟩
theorem NetT.inj {rows : RowsT} (T : NetT rows) {a b : NE} (ha : a ∈ allE rows) (hb : b ∈ allE rows) (h : nE rows a = nE rows b) : a = b := nE_inj T.nd ha hb h
theorem M.T_whT {S : Type} {c : S → M Bool} {f : S → M S} {s0 : S} {p : S → Prop} (I : S → Prop) (μ : S → Nat) (h0 : I s0) (hs : ∀ s, I s → (c s).T fun b => (b = true → (f s).T fun s' => I s' ∧ μ s' < μ s) ∧ (b = false → p s)) : (M.wh c f s0).T p := by
  suffices H : ∀ n s, μ s ≤ n → I s → (M.wh c f s).T p from H _ s0 (Nat.le_refl _) h0
  intro n
  induction n with
  | zero =>
    intro s hm hi
    obtain ⟨b, e, h1, h2⟩ := M.T_eq (hs s hi)
    cases b with
    | false => rw [M.wh_false e]; exact h2 rfl
    | true => obtain ⟨s', e', hi', hl⟩ := M.T_eq (h1 rfl); omega
  | succ n ih =>
    intro s hm hi
    obtain ⟨b, e, h1, h2⟩ := M.T_eq (hs s hi)
    cases b with
    | false => rw [M.wh_false e]; exact h2 rfl
    | true =>
      obtain ⟨s', e', hi', hl⟩ := M.T_eq (h1 rfl)
      rw [M.wh_true e e']
      exact ih s' (by omega) hi'
theorem for_mapE {α β S : Type} {g : S → β → M S} {h : α → β} : ∀ {l : List α} {s : S}, M.for_ g (l.map h) s = M.for_ (fun s a => g s (h a)) l s
  | [], _ => rfl
  | a :: r, s => by
    rw [List.map_cons, M.for_cons, M.for_cons]
    congr 1
    funext s
    exact for_mapE
noncomputable def rgs (rows : RowsT) (P : List NE) : List (List NE) := P.foldl (fun acc e => if e ∈ acc.flatten then acc else acc ++ [faceE rows e]) []
theorem rgs_snoc (rows : RowsT) (P : List NE) (e : NE) : rgs rows (P ++ [e]) = if e ∈ (rgs rows P).flatten then rgs rows P else rgs rows P ++ [faceE rows e] := by
  unfold rgs
  rw [List.foldl_append]
  rfl
noncomputable def facesL (rows : RowsT) : List (List NE) := rgs rows (allE rows)
structure RgP (rows : RowsT) (P : List NE) : Prop where
  nd : (rgs rows P).flatten.Nodup
  sub : ∀ e ∈ (rgs rows P).flatten, e ∈ allE rows
  all : ∀ e ∈ P, e ∈ (rgs rows P).flatten
  fc : ∀ f ∈ rgs rows P, ∃ e ∈ P, f = faceE rows e
theorem rgs_P {rows : RowsT} (h : Twice rows) (P : List NE) (hP : ∀ e ∈ P, e ∈ allE rows) : RgP rows P := by
  refine snoc_ind (p := fun P => (∀ e ∈ P, e ∈ allE rows) → RgP rows P) (fun _ => ⟨.nil, (fun e he => by cases he), (fun e he => by cases he), fun f hf => by cases hf⟩) (fun P e ih hP => ?_) P hP
  have I := ih fun d hd => hP d (List.mem_append_left _ hd)
  have he := hP e (List.mem_append_right _ (by simp))
  have J := stp_inj h
  have er := rgs_snoc rows P e
  by_cases z : e ∈ (rgs rows P).flatten
  · rw [if_pos z] at er
    refine ⟨by rw [er]; exact I.nd, by rw [er]; exact I.sub, fun d hd => ?_, fun f hf => ?_⟩
    · rw [er]
      rcases List.mem_append.mp hd with w | w
      · exact I.all d w
      · rw [List.mem_singleton.mp w]; exact z
    · rw [er] at hf
      obtain ⟨d, hd, e2⟩ := I.fc f hf
      exact ⟨d, List.mem_append_left _ hd, e2⟩
  · rw [if_neg z] at er
    have ef : (rgs rows (P ++ [e])).flatten = (rgs rows P).flatten ++ faceE rows e := by rw [er, List.flatten_append]; simp
    refine ⟨?_, fun d hd => ?_, fun d hd => ?_, fun f hf => ?_⟩
    · rw [ef, List.nodup_append]
      refine ⟨I.nd, J.face_nodup he, fun a ha b hb q => z ?_⟩
      subst q
      obtain ⟨f, hf, haf⟩ := List.mem_flatten.mp ha
      obtain ⟨d, hd, e2⟩ := I.fc f hf
      subst e2
      have hdE := hP d (List.mem_append_left _ hd)
      refine List.mem_flatten.mpr ⟨_, hf, ?_⟩
      exact (J.same hdE haf).mp (J.symm he hb)
    · rw [ef] at hd
      rcases List.mem_append.mp hd with w | w
      · exact I.sub d w
      · exact J.face_sub he d w
    · rw [ef]
      rcases List.mem_append.mp hd with w | w
      · exact List.mem_append_left _ (I.all d w)
      · rw [List.mem_singleton.mp w]; exact List.mem_append_right _ (J.self_mem he)
    · rw [er] at hf
      rcases List.mem_append.mp hf with w | w
      · obtain ⟨d, hd, e2⟩ := I.fc f w
        exact ⟨d, List.mem_append_left _ hd, e2⟩
      · exact ⟨e, List.mem_append_right _ (by simp), List.mem_singleton.mp w⟩
/-- the marks: a dict by ends -/
structure SeenI {κ : Type} [DecidableEq κ] (key : NE → κ) (rows : RowsT) (D : List NE) (d : List (κ × Bool)) : Prop where
  get : ∀ e ∈ allE rows, (dget d (key e)).isSome = decide (e ∈ D)
  len : d.length ≤ D.length
theorem SeenI.put {κ : Type} [DecidableEq κ] {key : NE → κ} {rows : RowsT} (inj : ∀ a ∈ allE rows, ∀ b ∈ allE rows, key a = key b → a = b) {D : List NE} {d : List (κ × Bool)} (I : SeenI key rows D d) {x : NE} (hx : x ∈ allE rows) : SeenI key rows (D ++ [x]) (dput d (key x) true) := by
  refine ⟨fun e he => ?_, ?_⟩
  · rw [dget_dput]
    by_cases z : x = e
    · rw [if_pos (by rw [z]), decide_eq_true (by rw [z]; simp)]
      rfl
    · rw [if_neg (fun w => z (inj x hx e he w)), I.get e he]
      exact decide_eq_decide.mpr ⟨fun w => List.mem_append_left _ w, fun w => by
        rcases List.mem_append.mp w with q | q
        · exact q
        · exact absurd (List.mem_singleton.mp q).symm z⟩
  · have := dput_len d (key x) true
    rw [List.length_append, List.length_singleton]
    have := I.len
    omega
theorem ends_max {rows : RowsT} {D : List NE} (nd : D.Nodup) (h : ∀ e ∈ D, e ∈ allE rows) : D.length ≤ (allE rows).length := nodup_le nd h
end Tw
set_option Elab.async false
set_option linter.all false
set_option maxRecDepth 100000
set_option maxHeartbeats 4000000
namespace Tw
open PySem PySem.Spec L2 TL
open PyProof.Rows hiding St
abbrev n_reached : List Str := ["turns", "point", "seen", "left", "here", "place", "there"]
noncomputable def F_reached (p0 : TurnsD) (p1 : Str) : M (Dk Str Bool) :=
  (M.b (M.ok (⟨[(p1, true)]⟩ : (Dk Str Bool))) fun v1 => (M.b (M.chk ((p1 :: []).length ≤ sizeLine) (M.ok (p1 :: []))) fun v2 => (M.b (M.wh (fun (s3 : (List Str) × (Dk Str Bool)) => (M.chk (Dd.Ok s3.1 ∧ Dd.Ok ([] : (List Str))) (M.ok (!decide (s3.1 = ([] : (List Str))))))) (fun (s3 : (List Str) × (Dk Str Bool)) => (M.b (M.get (s3.1[s3.1.length - 1]?)) fun v4 => (M.b (M.b (M.b (M.get (dget p0.sizes.l v4)) fun x5 => (M.chk (-(2 ^ 62) ≤ x5 ∧ x5 < 2 ^ 62) (M.ok (rng 0 x5)))) fun x13 => (M.for_ (fun (s6 : (Dk Str Bool) × (List Str)) (x7 : Int) => (M.b (M.b (M.cl (F_Turns_over p0 (v4, x7))) fun x8 => (M.ok x8.1)) fun v9 => (if (!(dget s6.1.l v9).isSome) = true then (M.b (M.ok true) fun a10 => M.b (M.ok v9) fun k11 => M.chk (s6.1.l.length < sizeLine) (M.b (M.ok v9) fun a12 => M.chk (s6.2.length < sizeLine) (M.ok ((⟨dput s6.1.l k11 a10⟩ : (Dk Str Bool)), (s6.2 ++ [a12]))))) else (M.ok (s6.1, s6.2))))) x13 (s3.2, s3.1.dropLast))) fun s14 => (M.ok (s14.2, s14.1))))) (v2, v1)) fun s15 => (M.ok s15.2))))
def sp_reached (G : Gb) : Sp := spA G (fun (p : TurnsD × Str) => [.fz (p.1), .fz (p.2)]) (rpN G) (fun (p : TurnsD × Str) => F_reached (p.1) (p.2))
def t_reached (G : Gb) : TS :=
  (tSeq (tAsg (tDisp [((tVar 1), (tC (.bl true)))]) (gName 2)) (tSeq (tAsg (tLst (tCons (tVar 1) tNil)) (gName 3)) (tSeq (tWhile (tTest (tOp (rNeD G.K) (tVar 3) (tLst tNil)))
  (tSeq (tAsg (tBM0 G.K "list" rPop (tVar 3)) (gName 4)) (tFor (iRng1 (tCons (tDGet (tFld G.K (tVar 0) "sizes") (tVar 4)) tNil)) (gName 5)
  (tSeq (tAsg (tOp (rIxT G.K) (tMeth (G.cl (Ins.nm TurnsD)) "over" (sp_Turns_over G) [] E0 (tVar 0) (tCons (tTup (tCons (tVar 4) (tCons (tVar 5) tNil))) tNil)) (tC (.int 0))) (gName 6)) (tIfS (tB (tDNotIn (tVar 6) (tVar 2)))
  (tSeq (sDPut (tVar 2) (tVar 6) (tC (.bl true))) (tDrop (tBM G.K "list" rAppend (tVar 3) (tCons (tVar 6) tNil))))
  tNext)))))
  (tRet (tVar 2)))))
theorem len_reached {G : Gb} (vs : List V) (H : Hp) (Q : VK) (E : XK) (h : sp_reached G vs H Q E) : vs.length = 2 := spA_len h fun _ => rfl
theorem rn_reached {G : Gb} [ClsF G TurnsD] {B : Hp} {E : XK} (p0 : TurnsD) (p1 : Str) : Run G B E (oR G B (rpN G)) [some (.fz p0), some (.fz p1), none, none, none, none, none] (t_reached G) (F_reached p0 p1) := by
  have h : Run G B E (oR G B (rpN G)) [some (.fz p0), some (.fz p1), none, none, none, none, none] (t_reached G) _ := (run_asgN (en_disp1 (ev_fz rfl) (ev_bl (md := .F))) (fun v1 => (run_asgN (en_lst (el_cons (ev_fz rfl) (el_nil (α := Str)))) (fun v2 => (run_seq (EX := fun (s : (List Str) × (Dk Str Bool)) => [some (.fz p0), some (.fz p1), some (.ow s.2), some (.ow s.1), none, none, none]) (run_while (s0 := (v2, v1)) (fun s3 => (evT_T (ev_neD (mr := .F) (by decide) (ev_ow rfl) (EvN.H (en_nil (α := Str)))))) (.keep (.keep (.keep (.keep (.drop (.drop (.drop Wk.nil))))))) (fun s3 => (run_pop (bind := fun (x : Str) (r : Evr) => (r.set 4 (some (.fz x)))) rfl tg_S (fun v4 => (run_last (run_seq (EX := fun (s : (Dk Str Bool) × (List Str)) => [some (.fz p0), some (.fz p1), some (.ow s.1), some (.ow s.2), some (.fz v4), none, none]) (run_for (bind := fun (x : Int) (r : Evr) => (r.set 5 (some (.fz x)))) (s0 := (s3.2, s3.1.dropLast)) (ew_rng1 (ev_dgetK (ev_fld (D := TurnsD) (f := "sizes") (j := 1) (g := TurnsD.sizes) (ev_fz rfl) (by decide +kernel) (fun _ => rfl)) (ev_fz rfl)) tg_S) (.keep (.keep (.keep (.keep (.keep (.drop (.drop Wk.nil))))))) (fun s6 x7 => (run_asg (bind := fun (x : Str) (r : Evr) => (r.set 6 (some (.fz x)))) (ev_p1 (ev_meth1 (D := TurnsD) (mn := "over") (f := F_Turns_over) (ev_fz rfl) ps_F (ev_pair (ev_fz rfl) (ev_fz rfl)) ps_B (by decide +kernel))) tg_S (fun v9 => (run_if (evT_B (ev_dnotinK (mr := .F) (ev_fz rfl) (ev_ow rfl))) (run_dputK rfl (ev_bl (md := .F)) (ev_fz rfl) (fun a10 k11 => (run_last (run_append rfl (ev_fz rfl) (fun a12 => (run_next (s := ((⟨dput s6.1.l k11 a10⟩ : (Dk Str Bool)), (s6.2 ++ [a12]))) (.keep (.keep (.keep (.keep (.keep (.drop (.drop Wk.nil))))))))))))) (run_next (s := (s6.1, s6.2)) (.keep (.keep (.keep (.keep (.keep (.drop (.drop Wk.nil))))))))))))) (fun s14 => (run_next (s := (s14.2, s14.1)) (.keep (.keep (.keep (.keep (.drop (.drop (.drop Wk.nil))))))))))))))) (fun s15 => (run_retO rfl)))))))
  exact h
theorem run_reached {G : Gb} [ClsF G TurnsD] {vs : List V} {H : Hp} {Q : VK} {E : XK} (h : sp_reached G vs H Q E) : t_reached G (dEnd Q) (start n_reached vs) H := spA_run (n := 5) h (fun _ => rfl) fun p B => rn_reached (p.1) (p.2)
/-- rows that may be a net -/
structure NetV (rows : RowsT) : Prop extends NetT rows where
  few : rows.length < 64
  nmp : ∀ n ∈ rows.map (·.1), isNm n = true
  nmt : ∀ t ∈ ties rows, isNm t = true
theorem NetV.pos {rows : RowsT} (V : NetV rows) : 0 < rows.length := List.length_pos_iff.mpr V.ne
def allR (rows : RowsT) : Prop := ∀ v, v < rows.length → Rch (outC rows fun _ => true) 0 v
theorem reached_T {rows : RowsT} (V : NetV rows) {t : TurnsD} (ht : TnOk rows t) : (F_reached t (pnm rows 0)).T fun d => d.l.length ≤ rows.length ∧ (d.l.length = rows.length ↔ allR rows) := by
  unfold F_reached
  have hpos := V.pos
  have few := V.few
  refine M.T_b (M.T_ok (M.T_b (M.T_chk (line_of (by simp)) (M.T_ok ?_))))
  have P := flC (α := Bool) V.two (fun _ => true) 0 (fun _ _ => true)
  have inj : ∀ v w, v < rows.length → w < rows.length → pnm rows v = pnm rows w → v = w := fun v w hv hw h => pnm_inj V.nd hv hw h
  have okn : ∀ l : List Nat, (∀ v ∈ l, v < rows.length) → Dd.Ok (l.map (pnm rows)) := fun l hl n hn => by
    obtain ⟨v, hv, rfl⟩ := List.mem_map.mp hn
    exact V.okn _ (pnm_inn (hl v hv))
  refine M.T_b (M.T_floodN P hpos (a0 := true) (b0 := 0) .zero (fun _ _ _ => rfl) (fun A : FlA Bool => ((A.2.map (pnm rows), rpL (pnm rows) A.1) : List Str × Dk Str Bool)) rfl (fun A I => ?_) (fun A I hne => ?_) fun A I e2 => ?_)
  · refine M.T_chk ⟨okn _ fun v hv => ?_, okn [] fun v hv => by cases hv⟩ (M.T_ok ?_)
    · obtain ⟨x, hx⟩ := mem_keys.mp (I.st v hv)
      exact dget_lt I.lt hx
    · congr 1
      exact decide_eq_decide.mpr List.map_eq_nil_iff
  · obtain ⟨st, v, hA⟩ := last_of hne
    have hAp : A.2.Perm (v :: st) := by rw [hA]; exact List.perm_append_comm
    refine ⟨v, st, hAp, fun A' hA' => ?_⟩
    obtain ⟨I1, ⟨x, hx⟩, hv⟩ := I.pop hAp
    have hrl := row_small V.sm v
    have e1 : (A.2.map (pnm rows))[(A.2.map (pnm rows)).length - 1]? = some (pnm rows v) := by rw [hA]; simp
    have e2 : (A.2.map (pnm rows)).dropLast = st.map (pnm rows) := by rw [hA]; simp
    refine M.T_b (M.T_get e1 (M.T_b (M.T_b (M.T_b (M.T_get (ht.sizes v hv) (M.T_chk (rng_side (by omega)) (M.T_ok ?_)))))))
    rw [rng_nat, for_map]
    refine M.T_estsN P (fun A : FlA Bool => ((rpL (pnm rows) A.1, A.2.map (pnm rows)) : Dk Str Bool × List Str)) (edgeC rows (fun _ => true) v) (A := (A.1, st)) (A' := A') (Prod.ext rfl e2) (fun p hp e he => ?_) I1 hx (by rw [outC_map]; exact hA') (fun B p hp J hvB => ?_) (M.T_ok rfl)
    · unfold edgeC at he
      rw [if_pos rfl] at he
      cases he
      exact mem_outC.mpr ⟨p, mem_allE.mpr (List.mem_range.mp hp), rfl, rfl⟩
    · have hE : ((v, p) : NE) ∈ allE rows := mem_allE.mpr (List.mem_range.mp hp)
      have hw := allE_row (mate_mem V.two hE)
      have g2 := rpL_get inj J.lt hw
      have l1 := J.len
      have l2 := J.stl
      unfold edgeC
      rw [if_pos rfl]
      intro B' hB'
      refine M.T_b (M.T_b (M.T_cl (show (F_Turns_over t (nE rows (v, p))).T _ from M.T_get (ht.mates _ hE) (M.T_ok ?_))))
      show (if (!(dget (rpL (pnm rows) B.1).l (pnm rows (mate rows (v, p)).1)).isSome) = true then _ else _ : M _).T _
      rw [g2]
      unfold est at hB'
      rw [hvB] at hB'
      cases q : dget B.1 (mate rows (v, p)).1 with
      | none =>
        rw [q] at hB'
        cases hB'
        refine M.T_ite (fun _ => ?_) fun z => absurd rfl z
        refine M.T_b (M.T_ok (M.T_b (M.T_ok (M.T_chk (line_lt (by show (rpL (pnm rows) B.1).l.length ≤ _; rw [rpL_len]; omega)) (M.T_b (M.T_ok (M.T_chk (line_lt (by show (B.2.map (pnm rows)).length ≤ _; rw [List.length_map]; omega)) (M.T_ok ?_))))))))
        show ((⟨dput (rpL (pnm rows) B.1).l (pnm rows (mate rows (v, p)).1) _⟩ : Dk Str Bool), B.2.map (pnm rows) ++ [pnm rows (mate rows (v, p)).1]) = _
        rw [rpL_put inj J.lt hw q]
        simp only [List.map_append]
        rfl
      | some z =>
        rw [q] at hB'
        have hB2 : some B = some B' := hB'
        cases hB2
        exact M.T_ite (fun z => by cases z) fun _ => M.T_ok rfl
  · refine M.T_ok ⟨?_, ?_⟩
    · show (rpL (pnm rows) A.1).l.length ≤ _
      rw [rpL_len]
      exact I.len
    · show (rpL (pnm rows) A.1).l.length = _ ↔ _
      rw [rpL_len]
      exact all_len I e2
end Tw
set_option Elab.async false
set_option linter.all false
set_option maxRecDepth 100000
set_option maxHeartbeats 4000000
namespace Tw
open PySem PySem.Spec L2 TL
open PyProof.Rows hiding St
abbrev n_ask_known : List Str := ["rows", "tie"]
noncomputable def F_ask_known (p0 : (List (Str × (List Str)))) (p1 : Str) : M Unit :=
  (M.b (M.b (M.cl (F_ties_of p0)) fun x1 => (M.ok (!decide (p1 ∈ x1)))) fun x2 => (if x2 = true then (M.exc "NoTie") else (M.ok ())))
def sp_ask_known (G : Gb) : Sp := spA G (fun (p : (List (Str × (List Str))) × Str) => [.bw (p.1), .fz (p.2)]) rpV (fun (p : (List (Str × (List Str))) × Str) => F_ask_known (p.1) (p.2))
def t_ask_known (G : Gb) (E : XK) : TS :=
  (tIfS (tTest (tOp (rIn G.K true) (tVar 1) (tCall (sp_ties_of G) [] E0 (tCons (tVar 0) tNil))))
  (tRaise G E "NoTie")
  tNext)
theorem len_ask_known {G : Gb} (vs : List V) (H : Hp) (Q : VK) (E : XK) (h : sp_ask_known G vs H Q E) : vs.length = 2 := spA_len h fun _ => rfl
theorem rn_ask_known {G : Gb} {B : Hp} {E : XK} (p0 : (List (Str × (List Str)))) (p1 : Str) : Run G B E (oV G B) [some (.bw p0), some (.fz p1)] (t_ask_known G E) (F_ask_known p0 p1) := by
  have h : Run G B E (oV G B) [some (.bw p0), some (.fz p1)] (t_ask_known G E) _ := (run_if (evT_T (ev_notin (mr := .F) (ev_fz rfl) (EvN.H (en_call1 (f := F_ties_of) (ev_bw rfl) ps_B)))) run_raise run_nextV)
  exact h
theorem run_ask_known {G : Gb} {vs : List V} {H : Hp} {Q : VK} {E : XK} (h : sp_ask_known G vs H Q E) : t_ask_known G E (dEnd Q) (start n_ask_known vs) H := spV_run (n := 0) h (fun _ => rfl) fun p B => rn_ask_known (p.1) (p.2)
abbrev n_taken_out : List Str := ["rows", "tie", "made", "point", "ties", "name"]
noncomputable def F_taken_out (p0 : (List (Str × (List Str)))) (p1 : Str) : M (List (Str × (List Str))) :=
  (M.b (F_ask_known p0 p1) fun x11 => (M.b (M.chk (p0.length ≤ sizeLine) (M.lc (fun (y1 : (Str × (List Str))) => (M.ok true)) (fun (y1 : (Str × (List Str))) => (M.b (M.chk (y1.2.length ≤ sizeLine) (M.lc (fun (y2 : Str) => (M.ok (!decide (y2 = p1)))) (fun (y2 : Str) => (M.ok y2)) y1.2)) fun x3 => (M.ok (y1.1, x3)))) p0)) fun v4 => (M.b (M.b (M.b (M.b (M.cl (F_Turns_init v4)) fun x6 => (M.b (M.b (M.get (atI v4 (0 : Int))) fun x5 => (M.ok x5.1)) fun x7 => (M.cl (F_reached x6 x7)))) fun x8 => (M.ok ((x8.l.length : Nat) : Int))) fun x9 => (M.ok (decide (x9 < ((v4.length : Nat) : Int))))) fun x10 => (if x10 = true then (M.exc "Bridge") else (M.ok v4)))))
def sp_taken_out (G : Gb) : Sp := spA G (fun (p : (List (Str × (List Str))) × Str) => [.bw (p.1), .fz (p.2)]) (rpN G) (fun (p : (List (Str × (List Str))) × Str) => F_taken_out (p.1) (p.2))
def t_taken_out (G : Gb) (E : XK) : TS :=
  (tSeq (tDrop (tCall (sp_ask_known G) [] E (tCons (tVar 0) (tCons (tVar 1) tNil)))) (tSeq (tAsg (tLc (iList G.K (tVar 0)) (gTup G.K 2 (gCons (gName 3) (gCons (gName 4) gNil))) tYes (tTup (tCons (tVar 3) (tCons (tLc (iList G.K (tVar 4)) (gName 5) (tTest (tOp rNe (tVar 5) (tVar 1))) (tVar 5) [5]) tNil))) [3, 4]) (gName 2)) (tSeq (tIfS (tTest (tOp qLt (tCB qLenD (tCons (tCall (sp_reached G) [] E0 (tCons (tMake (G.cl (Ins.nm TurnsD)) (sp_Turns_init G) [] E0 (tCons (tVar 2) tNil)) (tCons (tOp (rIxT G.K) (tOp (rIxL G.K) (tVar 2) (tC (.int 0))) (tC (.int 0))) tNil))) tNil)) (tCB (qLenQ G.K) (tCons (tVar 2) tNil))))
  (tRaise G E "Bridge")
  tNext)
  (tRet (tVar 2)))))
theorem len_taken_out {G : Gb} (vs : List V) (H : Hp) (Q : VK) (E : XK) (h : sp_taken_out G vs H Q E) : vs.length = 2 := spA_len h fun _ => rfl
theorem rn_taken_out {G : Gb} [ClsF G TurnsD] {B : Hp} {E : XK} (p0 : (List (Str × (List Str)))) (p1 : Str) : Run G B E (oR G B (rpN G)) [some (.bw p0), some (.fz p1), none, none, none, none] (t_taken_out G E) (F_taken_out p0 p1) := by
  have h : Run G B E (oR G B (rpN G)) [some (.bw p0), some (.fz p1), none, none, none, none] (t_taken_out G E) _ := (run_expr (ev_callVX2 (f := F_ask_known) (mr := .F) (ev_bw rfl) ps_B (ev_fz rfl) ps_F) (run_asgN (en_lc (te := (tTup (tCons (tVar 3) (tCons (tLc (iList G.K (tVar 4)) (gName 5) (tTest (tOp rNe (tVar 5) (tVar 1))) (tVar 5) [5]) tNil)))) (bind := fun (x : (Str × (List Str))) (r : Evr) => ((r.set 3 (some (.fz x.1))).set 4 (some (.bw x.2)))) (ew_B (ev_bw rfl) (tg_pair tg_S tg_B)) (fun y1 => evT_yes) (fun y1 => (ev_pair (ev_fz rfl) (EvN.F (en_lc (te := (tVar 5)) (bind := fun (x : Str) (r : Evr) => (r.set 5 (some (.fz x)))) (ew_B (ev_bw rfl) tg_S) (fun y2 => (evT_T (ev_ne (mr := .F) (ev_fz rfl) (ev_fz rfl)))) (fun y2 => (ev_fz rfl))))))) (fun v4 => (run_ifS (evT_T (ev_lt (mr := .F) (ev_lenDN (mr := .F) (en_call2 (f := F_reached) (ev_make1 (D := TurnsD) (f := F_Turns_init) (ev_ow rfl) ps_B) ps_F (ev_p1 (ev_ixS (es_ow rfl) (ev_int (md := .F)))) ps_F)) (ev_len (mr := .F) (ev_ow rfl)))) run_raiseS (run_skip (run_retO rfl))))))
  exact h
theorem run_taken_out {G : Gb} [ClsF G TurnsD] {vs : List V} {H : Hp} {Q : VK} {E : XK} (h : sp_taken_out G vs H Q E) : t_taken_out G E (dEnd Q) (start n_taken_out vs) H := spA_run (n := 4) h (fun _ => rfl) fun p B => rn_taken_out (p.1) (p.2)
abbrev n_shrunk : List Str := ["rows", "tie", "holders", "stays", "goes", "at", "turned", "made", "point", "ties", "place", "row"]
noncomputable def F_shrunk (p0 : (List (Str × (List Str)))) (p1 : Str) : M (List (Str × (List Str))) :=
  (M.b (F_ask_known p0 p1) fun x17 => (M.b (M.chk (p0.length ≤ sizeLine) (M.lc (fun (y1 : (Str × (List Str))) => (M.ok (decide (p1 ∈ y1.2)))) (fun (y1 : (Str × (List Str))) => (M.ok y1)) p0)) fun v2 => (if (decide (((v2.length : Nat) : Int) = (1 : Int))) = true then (M.exc "Loop") else (M.b (M.get (two v2)) fun p5 => (fun v3 v4 => (M.b (M.b (M.get (idxS v4.2 p1)) fun j => M.ok ((j : Nat) : Int)) fun v6 => (M.b (M.chk ((cutL v4.2 (some ((v6 + (1 : Int)))) none).length + (cutL v4.2 none (some (v6))).length ≤ sizeLine) (M.ok ((cutL v4.2 (some ((v6 + (1 : Int)))) none) ++ (cutL v4.2 none (some (v6)))))) fun v7 => (M.b (M.ok ([] : (List (Str × (List Str))))) fun v8 => (M.b (M.for_ (fun (s9 : (List (Str × (List Str)))) (x10 : (Str × (List Str))) => (if (decide (x10.1 = v3.1)) = true then (M.b (M.b (M.get (idxS x10.2 p1)) fun j => M.ok ((j : Nat) : Int)) fun v11 => (M.b (M.b (M.b (M.chk ((cutL x10.2 none (some (v11))).length + v7.length ≤ sizeLine) (M.ok ((cutL x10.2 none (some (v11))) ++ v7))) fun x12 => (M.chk (x12.length + (cutL x10.2 (some ((v11 + (1 : Int)))) none).length ≤ sizeLine) (M.ok (x12 ++ (cutL x10.2 (some ((v11 + (1 : Int)))) none))))) fun x13 => (M.ok (x10.1, x13))) fun a14 => M.chk (s9.length < sizeLine) (M.ok (s9 ++ [a14])))) else (if (!decide (x10.1 = v4.1)) = true then (M.b (M.ok (x10.1, x10.2)) fun a15 => M.chk (s9.length < sizeLine) (M.ok (s9 ++ [a15]))) else (M.ok s9)))) p0 v8) fun s16 => (M.ok s16)))))) p5.1 p5.2))))
def sp_shrunk (G : Gb) : Sp := spA G (fun (p : (List (Str × (List Str))) × Str) => [.bw (p.1), .fz (p.2)]) (rpN G) (fun (p : (List (Str × (List Str))) × Str) => F_shrunk (p.1) (p.2))
def t_shrunk (G : Gb) (E : XK) : TS :=
  (tSeq (tDrop (tCall (sp_ask_known G) [] E (tCons (tVar 0) (tCons (tVar 1) tNil)))) (tSeq (tAsg (tLc (iList G.K (tVar 0)) (gName 11) (tTest (tOp (rIn G.K false) (tVar 1) (tOp (rIxT G.K) (tVar 11) (tC (.int 1))))) (tVar 11) [11]) (gName 2)) (tSeq (tIfS (tTest (tOp rEq (tCB (qLenQ G.K) (tCons (tVar 2) tNil)) (tC (.int 1))))
  (tRaise G E "Loop")
  tNext)
  (tSeq (tAsg (tVar 2) (gUnl G.K 2 (gCons (gName 3) (gCons (gName 4) gNil)))) (tSeq (tAsg (tBM G.K "list" (rIndex G.K) (tOp (rIxT G.K) (tVar 4) (tC (.int 1))) (tCons (tVar 1) tNil)) (gName 5)) (tSeq (tAsg (tOp rCat (tSl (rSlL G.K) (tOp (rIxT G.K) (tVar 4) (tC (.int 1))) (tPart (tOp qAdd (tVar 5) (tC (.int 1)))) tNoPart) (tSl (rSlL G.K) (tOp (rIxT G.K) (tVar 4) (tC (.int 1))) tNoPart (tPart (tVar 5)))) (gName 6)) (tSeq (tAsg (tLst tNil) (gName 7)) (tSeq (tFor (iList G.K (tVar 0)) (gTup G.K 2 (gCons (gName 8) (gCons (gName 9) gNil)))
  (tIfS (tTest (tOp rEq (tVar 8) (tOp (rIxT G.K) (tVar 3) (tC (.int 0)))))
  (tSeq (tAsg (tBM G.K "list" (rIndex G.K) (tVar 9) (tCons (tVar 1) tNil)) (gName 10)) (tDrop (tBM G.K "list" rAppend (tVar 7) (tCons (tTup (tCons (tVar 8) (tCons (tOp rCat (tOp rCat (tSl (rSlL G.K) (tVar 9) tNoPart (tPart (tVar 10))) (tVar 6)) (tSl (rSlL G.K) (tVar 9) (tPart (tOp qAdd (tVar 10) (tC (.int 1)))) tNoPart)) tNil))) tNil))))
  (tIfS (tTest (tOp rNe (tVar 8) (tOp (rIxT G.K) (tVar 4) (tC (.int 0)))))
  (tDrop (tBM G.K "list" rAppend (tVar 7) (tCons (tTup (tCons (tVar 8) (tCons (tCB (qListOf G.K) (tCons (tVar 9) tNil)) tNil))) tNil)))
  tNext)))
  (tRet (tVar 7))))))))))
theorem len_shrunk {G : Gb} (vs : List V) (H : Hp) (Q : VK) (E : XK) (h : sp_shrunk G vs H Q E) : vs.length = 2 := spA_len h fun _ => rfl
theorem rn_shrunk {G : Gb} {B : Hp} {E : XK} (p0 : (List (Str × (List Str)))) (p1 : Str) : Run G B E (oR G B (rpN G)) [some (.bw p0), some (.fz p1), none, none, none, none, none, none, none, none, none, none] (t_shrunk G E) (F_shrunk p0 p1) := by
  have h : Run G B E (oR G B (rpN G)) [some (.bw p0), some (.fz p1), none, none, none, none, none, none, none, none, none, none] (t_shrunk G E) _ := (run_expr (ev_callVX2 (f := F_ask_known) (mr := .F) (ev_bw rfl) ps_B (ev_fz rfl) ps_F) (run_lend antiN (eb_lc (te := (tVar 11)) (bind := fun (x : (Str × (List Str))) (r : Evr) => (r.set 11 (some (.bw x)))) (ew_B (ev_bw rfl) tg_B) (fun y1 => (evT_T (ev_in (mr := .F) (ev_fz rfl) (ev_p2 (ev_bw rfl))))) (fun y1 => (ev_bw rfl))) (fun _ v2 => (run_ifS (evT_T (ev_eq (mr := .F) (ev_len (mr := .F) (ev_bw rfl)) (ev_int (md := .F)))) run_raiseS (run_skip (run_unl2B (by decide) (ev_bw rfl) (fun v3 v4 => (run_asg (bind := fun (x : Int) (r : Evr) => (r.set 5 (some (.fz x)))) (ev_index (mr := .F) (ev_p2 (ev_bw rfl)) (ev_fz rfl)) tg_S (fun v6 => (run_asgN (en_cat (es_N (en_slice (es_sc (ev_p2 (ev_bw rfl))) (eo_some (ev_add (mr := .F) (ev_fz rfl) (ev_int (md := .F)))) eo_none)) (es_N (en_slice (es_sc (ev_p2 (ev_bw rfl))) eo_none (eo_some (ev_fz rfl))))) (fun v7 => (run_asgN (en_nil (α := (Str × (List Str)))) (fun v8 => (run_seq (EX := fun (s : (List (Str × (List Str)))) => [some (.bw p0), some (.fz p1), some (.bw v2), some (.bw v3), some (.bw v4), some (.fz v6), some (.ow v7), some (.ow s), none, none, none, none]) (run_for (bind := fun (x : (Str × (List Str))) (r : Evr) => ((r.set 8 (some (.fz x.1))).set 9 (some (.bw x.2)))) (s0 := v8) (ew_B (ev_bw rfl) (tg_pair tg_S tg_B)) (.keep (.keep (.keep (.keep (.keep (.keep (.keep (.keep (.drop (.drop (.drop (.drop Wk.nil)))))))))))) (fun s9 x10 => (run_if (evT_T (ev_eq (mr := .F) (ev_fz rfl) (ev_p1 (ev_bw rfl)))) (run_asg (bind := fun (x : Int) (r : Evr) => (r.set 10 (some (.fz x)))) (ev_index (mr := .F) (ev_bw rfl) (ev_fz rfl)) tg_S (fun v11 => (run_last (run_append rfl (ev_pair (ev_fz rfl) (EvN.F (en_cat (es_N (en_cat (es_N (en_slice (es_sc (ev_bw rfl)) eo_none (eo_some (ev_fz rfl)))) (es_ow rfl))) (es_N (en_slice (es_sc (ev_bw rfl)) (eo_some (ev_add (mr := .F) (ev_fz rfl) (ev_int (md := .F)))) eo_none))))) (fun a14 => (run_next (s := (s9 ++ [a14])) (.keep (.keep (.keep (.keep (.keep (.keep (.keep (.keep (.drop (.drop (.drop (.drop Wk.nil)))))))))))))))))) (run_if (evT_T (ev_ne (mr := .F) (ev_fz rfl) (ev_p1 (ev_bw rfl)))) (run_last (run_append rfl (ev_pair (ev_fz rfl) (EvN.F (en_listOf (es_sc (ev_bw rfl))))) (fun a15 => (run_next (s := (s9 ++ [a15])) (.keep (.keep (.keep (.keep (.keep (.keep (.keep (.keep (.drop (.drop (.drop (.drop Wk.nil)))))))))))))))) (run_next (s := s9) (.keep (.keep (.keep (.keep (.keep (.keep (.keep (.keep (.drop (.drop (.drop (.drop Wk.nil))))))))))))))))) (fun s16 => (run_retO rfl))))))))))))))))
  exact h
theorem run_shrunk {G : Gb} {vs : List V} {H : Hp} {Q : VK} {E : XK} (h : sp_shrunk G vs H Q E) : t_shrunk G E (dEnd Q) (start n_shrunk vs) H := spA_run (n := 10) h (fun _ => rfl) fun p B => rn_shrunk (p.1) (p.2)
end Tw
set_option Elab.async false
set_option linter.all false
set_option maxRecDepth 100000
set_option maxHeartbeats 4000000
namespace Tw
open PySem PySem.Spec L2 TL
open PyProof.Rows hiding St
variable {G : Gb} {B : Hp} {E : XK} {ρ ρ' : Evr} {Ω : Type} {post : Hp → Ω → Ends → Prop} {rest tb : TS} {g : TG}
/-- `for x in rows[left.pop()][1]` -/
theorem run_forPop {r l : Nat} {ls : List Int} {k : Int → M Ω} (hl : ρ[l]? = some (some (.ow ls)))
    (hk : ∀ v : Int, Run G B E post (ρ.set l (some (.ow ls.dropLast))) (tSeq (tFor (iList G.K (tOp (rIxT G.K) (tOp (rIxL G.K) (tVar r) (tC (.int v))) (tC (.int 1)))) g tb) rest) (k v)) :
    Run G B E post ρ (tSeq (tFor (iList G.K (tOp (rIxT G.K) (tOp (rIxL G.K) (tVar r) (tBM0 G.K "list" rPop (tVar l))) (tC (.int 1)))) g tb) rest) ((M.get ls[ls.length - 1]?).b k) := fun F0 F σ H D R q => by
  obtain ⟨p, o, e, h1, h2, h3, vs, rfl, h4⟩ := R.ow hl
  obtain ⟨a, ea, q⟩ := M.P_get.mp (M.P_b.mp q)
  obtain ⟨v, ev, rv⟩ := h4.get' ea
  rw [← h4.len] at ev
  have rv : v = .int a := rv
  subst rv
  have R2 := R.change (a := ls.dropLast) hl (show _ = _ from rfl) e h1 h2 ⟨_, rfl, h4.dl⟩
  obtain ⟨x, hx, w⟩ := hk a F0 F σ _ D R2 q
  exact ⟨x, hx, _, e, .inl ⟨rfl, vs, .of h3⟩, p, vs, .int a, rfl, rfl, h3, ev, w⟩
end Tw
set_option Elab.async false
set_option linter.all false
set_option maxRecDepth 100000
set_option maxHeartbeats 4000000
namespace Tw
open PySem PySem.Spec L2 TL
open PyProof.Rows hiding St
abbrev n__law_hangs : List Str := ["_law_rows", "_law_at", "_law_r", "_law_tie", "_law_met_here", "_law_left", "_law_there"]
noncomputable def F__law_hangs (p0 : (List (Str × (List Str)))) : M Bool :=
  (M.b (M.b (M.chk (-(2 ^ 62) ≤ ((p0.length : Nat) : Int) ∧ ((p0.length : Nat) : Int) < 2 ^ 62) (M.ok (rng 0 ((p0.length : Nat) : Int)))) fun x11 => (M.for_ (fun (s2 : (List (Str × (List Int)))) (x3 : Int) => (M.b (M.b (M.b (M.get (atI p0 x3)) fun x4 => (M.ok x4.2)) fun x9 => (M.for_ (fun (s5 : (List (Str × (List Int)))) (x6 : Str) => (M.b (M.ok x6) fun k7 => M.chk ((s5.map (·.1)).Nodup ∧ s5.length < sizeLine ∧ ∀ l, dget s5 k7 = some l → l.length < sizeLine) (M.b (M.ok x3) fun a8 => (M.ok (dapp s5 k7 a8))))) x9 s2)) fun s10 => (M.ok s10))) x11 ([] : List (Str × (List Int))))) fun s12 => (M.b (M.ok (⟨[((0 : Int), true)]⟩ : (Dk Int Bool))) fun v13 => (M.b (M.chk (((0 : Int) :: []).length ≤ sizeLine) (M.ok ((0 : Int) :: []))) fun v14 => (M.b (M.wh (fun (s15 : (List Int) × (Dk Int Bool)) => (M.chk (Dd.Ok s15.1 ∧ Dd.Ok ([] : (List Int))) (M.ok (!decide (s15.1 = ([] : (List Int))))))) (fun (s15 : (List Int) × (Dk Int Bool)) => (M.b (M.get (s15.1[s15.1.length - 1]?)) fun v16 => (M.b (M.b (M.b (M.get (atI p0 v16)) fun x17 => (M.ok x17.2)) fun x27 => (M.for_ (fun (s18 : (List Int) × (Dk Int Bool)) (x19 : Str) => (M.b (M.b (M.get (dget (⟨s12⟩ : (Dk Str (List Int))).l x19)) fun x25 => (M.for_ (fun (s20 : (Dk Int Bool) × (List Int)) (x21 : Int) => (if (!(dget s20.1.l x21).isSome) = true then (M.b (M.ok true) fun a22 => M.b (M.ok x21) fun k23 => M.chk (s20.1.l.length < sizeLine) (M.b (M.ok x21) fun a24 => M.chk (s20.2.length < sizeLine) (M.ok ((⟨dput s20.1.l k23 a22⟩ : (Dk Int Bool)), (s20.2 ++ [a24]))))) else (M.ok (s20.1, s20.2)))) x25 (s18.2, s18.1))) fun s26 => (M.ok (s26.2, s26.1)))) x27 (s15.1.dropLast, s15.2))) fun s28 => (M.ok (s28.1, s28.2))))) (v14, v13)) fun s29 => (M.ok (decide (((s29.2.l.length : Nat) : Int) = ((p0.length : Nat) : Int))))))))
def sp__law_hangs (G : Gb) : Sp := spA G (fun (p : (List (Str × (List Str)))) => [.bw p]) (rpF G) (fun (p : (List (Str × (List Str)))) => F__law_hangs p)
def t__law_hangs (G : Gb) : TS :=
  (tSeq (tAsg tDNewK (gName 1)) (tSeq (tFor (iRng1 (tCons (tCB (qLenQ G.K) (tCons (tVar 0) tNil)) tNil)) (gName 2)
  (tFor (iList G.K (tOp (rIxT G.K) (tOp (rIxL G.K) (tVar 0) (tVar 2)) (tC (.int 1)))) (gName 3)
  (tDrop (tBM G.K "list" rAppend (tDSetd (tVar 1) (tVar 3) (tLst tNil)) (tCons (tVar 2) tNil)))))
  (tSeq (tAsg (tDisp [((tC (.int 0)), (tC (.bl true)))]) (gName 4)) (tSeq (tAsg (tLst (tCons (tC (.int 0)) tNil)) (gName 5)) (tSeq (tWhile (tTest (tOp (rNeD G.K) (tVar 5) (tLst tNil)))
  (tFor (iList G.K (tOp (rIxT G.K) (tOp (rIxL G.K) (tVar 0) (tBM0 G.K "list" rPop (tVar 5))) (tC (.int 1)))) (gName 3)
  (tFor (iList G.K (tDGet (tVar 1) (tVar 3))) (gName 6)
  (tIfS (tB (tDNotIn (tVar 6) (tVar 4)))
  (tSeq (sDPut (tVar 4) (tVar 6) (tC (.bl true))) (tDrop (tBM G.K "list" rAppend (tVar 5) (tCons (tVar 6) tNil))))
  tNext))))
  (tRet (tOp rEq (tCB qLenD (tCons (tVar 4) tNil)) (tCB (qLenQ G.K) (tCons (tVar 0) tNil)))))))))
theorem len__law_hangs {G : Gb} (vs : List V) (H : Hp) (Q : VK) (E : XK) (h : sp__law_hangs G vs H Q E) : vs.length = 1 := spA_len h fun _ => rfl
theorem rn__law_hangs {G : Gb} {B : Hp} {E : XK} (p0 : (List (Str × (List Str)))) : Run G B E (oR G B (rpF G)) [some (.bw p0), none, none, none, none, none, none] (t__law_hangs G) (F__law_hangs p0) := by
  have h : Run G B E (oR G B (rpF G)) [some (.bw p0), none, none, none, none, none, none] (t__law_hangs G) _ := (run_ddNew (κ := Str) (α := Int) (fun q1 => (run_seq (EX := fun (s : (List (Str × (List Int)))) => [some (.bw p0), some (.dd q1 s), none, none, none, none, none]) (run_for (bind := fun (x : Int) (r : Evr) => (r.set 2 (some (.fz x)))) (s0 := ([] : List (Str × (List Int)))) (ew_rng1 (ev_len (mr := .F) (ev_bw rfl)) tg_S) (.keep (.keep (.drop (.drop (.drop (.drop (.drop Wk.nil))))))) (fun s2 x3 => (run_last (run_seq (EX := fun (s : (List (Str × (List Int)))) => [some (.bw p0), some (.dd q1 s), some (.fz x3), none, none, none, none]) (run_for (bind := fun (x : Str) (r : Evr) => (r.set 3 (some (.fz x)))) (s0 := s2) (ew_B (ev_p2 (ev_ix (ev_bw rfl) (ev_fz rfl))) tg_S) (.keep (.keep (.keep (.drop (.drop (.drop (.drop Wk.nil))))))) (fun s5 x6 => (run_last (run_setApp rfl (ev_fz rfl) (ev_fz rfl) (fun k7 a8 => (run_next (s := (dapp s5 k7 a8)) (.keep (.keep (.keep (.drop (.drop (.drop (.drop Wk.nil))))))))))))) (fun s10 => (run_next (s := s10) (.keep (.keep (.drop (.drop (.drop (.drop (.drop Wk.nil))))))))))))) (fun s12 => (run_asgN (en_disp1 (ev_int (md := .F)) (ev_bl (md := .F))) (fun v13 => (run_asgN (en_lst (el_cons (ev_int (md := .F)) (el_nil (α := Int)))) (fun v14 => (run_freezeD (i := 1) rfl (run_seq (EX := fun (s : (List Int) × (Dk Int Bool)) => [some (.bw p0), some (.fz (⟨s12⟩ : (Dk Str (List Int)))), none, none, some (.ow s.2), some (.ow s.1), none]) (run_while (s0 := (v14, v13)) (fun s15 => (evT_T (ev_neD (mr := .F) (by decide) (ev_ow rfl) (EvN.H (en_nil (α := Int)))))) (.keep (.keep (.drop (.drop (.keep (.keep (.drop Wk.nil))))))) (fun s15 => (run_last (run_forPop rfl (fun v16 => (run_seq (EX := fun (s : (List Int) × (Dk Int Bool)) => [some (.bw p0), some (.fz (⟨s12⟩ : (Dk Str (List Int)))), none, none, some (.ow s.2), some (.ow s.1), none]) (run_for (bind := fun (x : Str) (r : Evr) => (r.set 3 (some (.fz x)))) (s0 := (s15.1.dropLast, s15.2)) (ew_B (ev_p2 (ev_ix (ev_bw rfl) (ev_int (md := .F)))) tg_S) (.keep (.keep (.drop (.drop (.keep (.keep (.drop Wk.nil))))))) (fun s18 x19 => (run_last (run_seq (EX := fun (s : (Dk Int Bool) × (List Int)) => [some (.bw p0), some (.fz (⟨s12⟩ : (Dk Str (List Int)))), none, some (.fz x19), some (.ow s.1), some (.ow s.2), none]) (run_for (bind := fun (x : Int) (r : Evr) => (r.set 6 (some (.fz x)))) (s0 := (s18.2, s18.1)) (ew_F (ev_dgetK (ev_fz rfl) (ev_fz rfl)) tg_S) (.keep (.keep (.drop (.keep (.keep (.keep (.drop Wk.nil))))))) (fun s20 x21 => (run_if (evT_B (ev_dnotinK (mr := .F) (ev_fz rfl) (ev_ow rfl))) (run_dputK rfl (ev_bl (md := .F)) (ev_fz rfl) (fun a22 k23 => (run_last (run_append rfl (ev_fz rfl) (fun a24 => (run_next (s := ((⟨dput s20.1.l k23 a22⟩ : (Dk Int Bool)), (s20.2 ++ [a24]))) (.keep (.keep (.drop (.keep (.keep (.keep (.drop Wk.nil))))))))))))) (run_next (s := (s20.1, s20.2)) (.keep (.keep (.drop (.keep (.keep (.keep (.drop Wk.nil))))))))))) (fun s26 => (run_next (s := (s26.2, s26.1)) (.keep (.keep (.drop (.drop (.keep (.keep (.drop Wk.nil))))))))))))) (fun s28 => (run_next (s := (s28.1, s28.2)) (.keep (.keep (.drop (.drop (.keep (.keep (.drop Wk.nil))))))))))))))) (fun s29 => (run_ret (ev_eq (mr := .F) (ev_lenDo (mr := .F) rfl) (ev_len (mr := .F) (ev_bw rfl)))))))))))))))
  exact h
theorem run__law_hangs {G : Gb} {vs : List V} {H : Hp} {Q : VK} {E : XK} (h : sp__law_hangs G vs H Q E) : t__law_hangs G (dEnd Q) (start n__law_hangs vs) H := spA_run (n := 6) h (fun _ => rfl) fun p B => rn__law_hangs p
abbrev n__law_out : List Str := ["_law_rows", "_law_tie", "_law_point", "_law_row", "_law_name"]
noncomputable def F__law_out (p0 : (List (Str × (List Str)))) (p1 : Str) : M (List (Str × (List Str))) :=
  (M.chk (p0.length ≤ sizeLine) (M.lc (fun (y1 : (Str × (List Str))) => (M.ok true)) (fun (y1 : (Str × (List Str))) => (M.b (M.chk (y1.2.length ≤ sizeLine) (M.lc (fun (y2 : Str) => (M.ok (!decide (y2 = p1)))) (fun (y2 : Str) => (M.ok y2)) y1.2)) fun x3 => (M.ok (y1.1, x3)))) p0))
def sp__law_out (G : Gb) : Sp := spA G (fun (p : (List (Str × (List Str))) × Str) => [.bw (p.1), .fz (p.2)]) (rpN G) (fun (p : (List (Str × (List Str))) × Str) => F__law_out (p.1) (p.2))
def t__law_out (G : Gb) : TS :=
  (tRet (tLc (iList G.K (tVar 0)) (gTup G.K 2 (gCons (gName 2) (gCons (gName 3) gNil))) tYes (tTup (tCons (tVar 2) (tCons (tLc (iList G.K (tVar 3)) (gName 4) (tTest (tOp rNe (tVar 4) (tVar 1))) (tVar 4) [4]) tNil))) [2, 3]))
theorem len__law_out {G : Gb} (vs : List V) (H : Hp) (Q : VK) (E : XK) (h : sp__law_out G vs H Q E) : vs.length = 2 := spA_len h fun _ => rfl
theorem rn__law_out {G : Gb} {B : Hp} {E : XK} (p0 : (List (Str × (List Str)))) (p1 : Str) : Run G B E (oR G B (rpN G)) [some (.bw p0), some (.fz p1), none, none, none] (t__law_out G) (F__law_out p0 p1) := by
  have h : Run G B E (oR G B (rpN G)) [some (.bw p0), some (.fz p1), none, none, none] (t__law_out G) _ := (run_retN (en_lc (te := (tTup (tCons (tVar 2) (tCons (tLc (iList G.K (tVar 3)) (gName 4) (tTest (tOp rNe (tVar 4) (tVar 1))) (tVar 4) [4]) tNil)))) (bind := fun (x : (Str × (List Str))) (r : Evr) => ((r.set 2 (some (.fz x.1))).set 3 (some (.bw x.2)))) (ew_B (ev_bw rfl) (tg_pair tg_S tg_B)) (fun y1 => evT_yes) (fun y1 => (ev_pair (ev_fz rfl) (EvN.F (en_lc (te := (tVar 4)) (bind := fun (x : Str) (r : Evr) => (r.set 4 (some (.fz x)))) (ew_B (ev_bw rfl) tg_S) (fun y2 => (evT_T (ev_ne (mr := .F) (ev_fz rfl) (ev_fz rfl)))) (fun y2 => (ev_fz rfl))))))))
  exact h
theorem run__law_out {G : Gb} {vs : List V} {H : Hp} {Q : VK} {E : XK} (h : sp__law_out G vs H Q E) : t__law_out G (dEnd Q) (start n__law_out vs) H := spA_run (n := 3) h (fun _ => rfl) fun p B => rn__law_out (p.1) (p.2)
end Tw
set_option Elab.async false
set_option linter.all false
set_option maxRecDepth 100000
set_option maxHeartbeats 4000000
namespace Tw
open PySem PySem.Spec L2 TL
open PyProof.Rows hiding St
section
variable {rows : RowsT}
theorem known_ok (sm : Sm rows) (hu : (uniq (ties rows)).length < 64) (t : Str) : F_ask_known rows t = if t ∈ ties rows then .ok () else .exc "NoTie" := by
  unfold F_ask_known
  rw [ties_of_ok sm hu, M.cl_ok, M.b_ok, M.b_ok]
  by_cases w : t ∈ ties rows
  · rw [decide_eq_true (srt_mem.mpr (mem_uniqT.mpr w)), if_pos w]; rfl
  · rw [decide_eq_false (fun z => w (mem_uniqT.mp (srt_mem.mp z))), if_neg w]; rfl
/-- the rows without a tie -/
def less1 (rows : RowsT) (t : Str) : RowsT := rows.map fun x => (x.1, x.2.filter fun y => !decide (y = t))
open Classical in
theorem taken_ok (sm : Sm rows) (hu : (uniq (ties rows)).length < 64) (rl : ∀ x ∈ rows, x.2.length ≤ 1000) {t : Str} (V : t ∈ ties rows → NetV (less1 rows t)) :
    F_taken_out rows t = if t ∈ ties rows then if allR (less1 rows t) then .ok (less1 rows t) else .exc "Bridge" else .exc "NoTie" := by
  unfold F_taken_out
  rw [known_ok sm hu]
  by_cases k : t ∈ ties rows
  · rw [if_pos k, if_pos k, M.b_ok, chk_line (by have := sm.1; omega)]
    rw [M.lc_map (f := fun x : Str × List Str => (x.1, x.2.filter fun y => !decide (y = t))) rows fun x hx => by
      rw [chk_line (by have := rl x hx; omega), M.lc_filter (p := fun y => !decide (y = t)) x.2 fun _ _ => rfl]
      rfl]
    rw [M.b_ok]
    show (M.b (M.b (M.b (M.b (M.cl (F_Turns_init (less1 rows t))) fun x6 => (M.b (M.b (M.get (atI (less1 rows t) (0 : Int))) fun x5 => (M.ok x5.1)) fun x7 => (M.cl (F_reached x6 x7)))) fun x8 => (M.ok ((x8.l.length : Nat) : Int))) fun x9 => (M.ok (decide (x9 < (((less1 rows t).length : Nat) : Int))))) fun x10 => (if x10 = true then (M.exc "Bridge") else (M.ok (less1 rows t)))) = _
    have V := V k
    have step : (M.b (M.b (M.b (M.cl (F_Turns_init (less1 rows t))) fun x6 => (M.b (M.b (M.get (atI (less1 rows t) (0 : Int))) fun x5 => (M.ok x5.1)) fun x7 => (M.cl (F_reached x6 x7)))) fun x8 => (M.ok ((x8.l.length : Nat) : Int))) fun x9 => (M.ok (decide (x9 < (((less1 rows t).length : Nat) : Int))))) = .ok (!decide (allR (less1 rows t))) := by
      refine M.T_is ?_
      have pos := V.pos
      have g0 : atI (less1 rows t) (0 : Int) = some (less1 rows t)[0] := atI_nat (j := 0) (List.getElem?_eq_getElem pos)
      have n0 : pnm (less1 rows t) 0 = ((less1 rows t)[0]).1 := pnm_at (List.getElem?_eq_getElem pos)
      refine M.T_b (M.T_b (M.T_b (M.T_cl ((turns_T V.toNetP V.sm).imp fun tn ht => M.T_b (M.T_b (M.T_get g0 (M.T_ok ?_)))))))
      rw [← n0]
      refine M.T_cl ((reached_T V ht).imp fun d hd => M.T_ok (M.T_ok ?_))
      by_cases q : allR (less1 rows t)
      · rw [decide_eq_true q]
        exact decide_eq_false (by have := hd.2.mpr q; omega)
      · rw [decide_eq_false q]
        refine decide_eq_true ?_
        have : d.l.length ≠ (less1 rows t).length := fun w => q (hd.2.mp w)
        have := hd.1
        omega
    rw [step, M.b_ok]
    by_cases q : allR (less1 rows t)
    · rw [decide_eq_true q, if_pos q]; rfl
    · rw [decide_eq_false q, if_neg q]; rfl
  · rw [if_neg k, if_neg k]; rfl
/-- from behind the tie round to ahead of it -/
def turnS (t : Str) (l : List Str) : List Str := match idxS l t with
  | some k => l.drop (k + 1) ++ l.take k
  | none => []
def rplS (t : Str) (more l : List Str) : List Str := match idxS l t with
  | some k => l.take k ++ more ++ l.drop (k + 1)
  | none => l
def shrR (rows : RowsT) (t : Str) (s g : Str × List Str) : RowsT := rows.filterMap fun x => if x.1 = s.1 then some (x.1, rplS t (turnS t g.2) x.2) else if x.1 = g.1 then none else some x
theorem idx_lt {l : List Str} {t : Str} {k : Nat} (h : idxS l t = some k) : k < l.length := (List.getElem?_eq_some_iff.mp (idxS_spec h).1).1
theorem shrunk_ok (sm : Sm rows) (hu : (uniq (ties rows)).length < 64) (rl : ∀ x ∈ rows, x.2.length ≤ 1000) (nd : (rows.map (·.1)).Nodup) {t : Str} (ht : t ∈ ties rows) :
    F_shrunk rows t = match rows.filter (fun x => decide (t ∈ x.2)) with
      | [s, g] => .ok (shrR rows t s g)
      | [_] => .exc "Loop"
      | _ => .bad := by
  unfold F_shrunk
  rw [known_ok sm hu, if_pos ht, M.b_ok, chk_line (by have := sm.1; omega), M.lc_filter (p := fun x : Str × List Str => decide (t ∈ x.2)) rows fun _ _ => rfl, M.b_ok]
  have memf : ∀ x ∈ rows.filter (fun x => decide (t ∈ x.2)), x ∈ rows ∧ t ∈ x.2 := fun x hx => ⟨(List.mem_filter.mp hx).1, of_decide_eq_true (List.mem_filter.mp hx).2⟩
  generalize hf : rows.filter (fun x => decide (t ∈ x.2)) = L at memf ⊢
  match L, hf with
  | [], _ => rfl
  | [s], _ => rfl
  | a :: b :: c :: r, _ =>
    rw [if_neg (by rw [decide_eq_false]; exact Bool.false_ne_true; simp only [List.length_cons]; omega)]
    rfl
  | [s, g], hf =>
    obtain ⟨s1, s2⟩ := memf s (by simp)
    obtain ⟨g1, g2⟩ := memf g (by simp)
    obtain ⟨k, hk⟩ := idxS_mem g2
    have hkl := idx_lt hk
    have gl := rl g g1
    rw [if_neg (by rw [decide_eq_false]; exact Bool.false_ne_true; simp)]
    show (M.b (M.b (M.get (idxS g.2 t)) fun j => M.ok ((j : Nat) : Int)) _) = _
    rw [hk, M.get_some, M.b_ok, M.b_ok, show ((k : Nat) : Int) + 1 = ((k + 1 : Nat) : Int) by omega, cut_drop _ _ (by omega : k + 1 ≤ g.2.length), cut_take _ _ (by omega : k ≤ g.2.length), chk_line (by rw [List.length_drop, List.length_take]; omega), M.b_ok, M.b_ok]
    have et : turnS t g.2 = g.2.drop (k + 1) ++ g.2.take k := by unfold turnS; rw [hk]
    rw [← et]
    have tl : (turnS t g.2).length ≤ 1000 := by rw [et, List.length_append, List.length_drop, List.length_take]; omega
    have smr := sm.1
    refine M.T_is (M.T_b ?_)
    refine M.T_for (fun ys (l : RowsT) => l = shrR ys t s g) rfl (fun ys x zs l e i => ?_) fun l i => M.T_ok i
    subst i
    have hx : x ∈ rows := by rw [e]; simp
    have hyl := congrArg List.length e
    rw [List.length_append, List.length_cons] at hyl
    have sl : (shrR ys t s g).length ≤ ys.length := List.length_filterMap_le _ _
    have snoc : shrR (ys ++ [x]) t s g = shrR ys t s g ++ shrR [x] t s g := by unfold shrR; rw [List.filterMap_append]
    rw [snoc]
    by_cases q : x.1 = s.1
    · have xs : x = s := by
        obtain ⟨i, hi⟩ := List.mem_iff_getElem?.mp hx
        obtain ⟨j, hj⟩ := List.mem_iff_getElem?.mp s1
        have a1 : (rows.map (·.1))[i]? = some x.1 := by rw [List.getElem?_map, hi]; rfl
        have a2 : (rows.map (·.1))[j]? = some x.1 := by rw [List.getElem?_map, hj, q]; rfl
        have := (List.getElem?_inj (List.getElem?_eq_some_iff.mp a1).1 nd).mp (a1.trans a2.symm)
        rw [this, hj] at hi
        exact (Option.some.inj hi).symm
      subst xs
      obtain ⟨m, hm⟩ := idxS_mem s2
      have hml := idx_lt hm
      have xl := rl x hx
      refine M.T_ite (fun _ => ?_) fun z => absurd (decide_eq_true rfl) z
      refine M.T_b (M.T_b (M.T_get hm (M.T_ok ?_)))
      rw [show ((m : Nat) : Int) + 1 = ((m + 1 : Nat) : Int) by omega, cut_drop _ _ (by omega : m + 1 ≤ x.2.length), cut_take _ _ (by omega : m ≤ x.2.length)]
      refine M.T_b (M.T_b (M.T_b (M.T_chk (line_of (by rw [List.length_take]; omega)) (M.T_ok (M.T_chk (line_of (by rw [List.length_append, List.length_take, List.length_drop]; omega)) (M.T_ok (M.T_ok (M.T_chk (line_lt (by omega)) (M.T_ok ?_)))))))))
      congr 1
      show _ = shrR [x] t x g
      unfold shrR rplS
      rw [List.filterMap_cons, if_pos rfl, hm]
      rfl
    · refine M.T_ite (fun z => absurd (of_decide_eq_true z) q) fun _ => ?_
      by_cases w : x.1 = g.1
      · rw [decide_eq_true w]
        refine M.T_ite (fun z => nomatch z) fun _ => M.T_ok ?_
        have : shrR [x] t s g = [] := by unfold shrR; rw [List.filterMap_cons, if_neg q, if_pos w]; rfl
        rw [this, List.append_nil]
      · rw [decide_eq_false w]
        refine M.T_ite (fun _ => M.T_b (M.T_ok (M.T_chk (line_lt (by omega)) (M.T_ok ?_)))) fun z => absurd rfl z
        congr 1
        unfold shrR
        rw [List.filterMap_cons, if_neg q, if_neg w]
        rfl
end
end Tw
set_option Elab.async false
set_option linter.all false
set_option maxRecDepth 100000
set_option maxHeartbeats 4000000
set_option Elab.async false
set_option linter.all false
set_option maxRecDepth 100000
set_option maxHeartbeats 4000000
namespace Tw
open PySem PySem.Spec L2 TL
open PyProof.Rows hiding St
abbrev WE := NE × Bool
end Tw
set_option Elab.async false
set_option linter.all false
set_option maxRecDepth 100000
set_option maxHeartbeats 4000000
namespace Tw
open PySem PySem.Spec L2 TL
open PyProof.Rows hiding St
structure PlI (rows : RowsT) (P : List NE) (d : List ((Str × Int) × (Int × Int))) : Prop where
  get : ∀ e ∈ P, dget d (nE rows e) = some (cI e)
  len : d.length ≤ P.length
theorem PlI.put {rows : RowsT} (nd : (rows.map (·.1)).Nodup) {P : List NE} {d : List ((Str × Int) × (Int × Int))} (I : PlI rows P d) (hP : ∀ e ∈ P, e ∈ allE rows) {x : NE} (hx : x ∈ allE rows) : PlI rows (P ++ [x]) (dput d (nE rows x) (cI x)) := by
  refine ⟨fun e he => ?_, ?_⟩
  · rw [dget_dput]
    rcases List.mem_append.mp he with w | w
    · by_cases z : x = e
      · rw [if_pos (by rw [z]), z]
      · rw [if_neg (fun q => z (nE_inj nd hx (hP e w) q))]
        exact I.get e w
    · rw [List.mem_singleton.mp w, if_pos rfl]
  · have := dput_len d (nE rows x) (cI x)
    have := I.len
    rw [List.length_append, List.length_singleton]
    omega
end Tw
set_option Elab.async false
set_option linter.all false
set_option maxRecDepth 100000
set_option maxHeartbeats 4000000
set_option Elab.async false
set_option linter.all false
set_option maxRecDepth 100000
set_option maxHeartbeats 4000000
set_option Elab.async false
set_option linter.all false
set_option maxRecDepth 100000
set_option maxHeartbeats 4000000
namespace Tw
open PySem PySem.Spec L2 TL
open PyProof.Rows hiding St
theorem GNet.V {rows : RowsT} {m : Nat} (h : GNet rows m) (hm : m ≤ 62) : NetV rows := ⟨⟨h.props, h.sm (by omega), fun n hn => nm_okS (h.pn n hn)⟩, by have := h.rl; omega, h.pn, h.tn⟩
end Tw
set_option Elab.async false
set_option linter.all false
set_option maxRecDepth 100000
set_option maxHeartbeats 4000000
namespace Tw
open PySem PySem.Spec L2 TL
open PyProof.Rows hiding St
variable {rows : RowsT}
/-- each tie with the number of a row that has it -/
def holdL (rows : RowsT) (k : Nat) : List (Str × Int) := (List.range k).flatMap fun r => (rowT rows r).map fun t => (t, nI r)
theorem holdL_succ (k : Nat) : holdL rows (k + 1) = holdL rows k ++ (rowT rows k).map fun t => (t, nI k) := by
  unfold holdL
  rw [List.range_succ, List.flatMap_append]
  simp
theorem holdL_len : ∀ k, k ≤ rows.length → (holdL rows k).length ≤ (ties (rows.take k)).length
  | 0, _ => Nat.zero_le _
  | k + 1, h => by
    have hk : k < rows.length := h
    rw [holdL_succ, List.length_append, List.length_map, List.take_succ_eq_append_getElem hk, ties_app, List.length_append, row_some (List.getElem?_eq_getElem hk)]
    have := holdL_len k (by omega)
    have : (ties [rows[k]]).length = rows[k].2.length := by simp [ties]
    omega
theorem mem_holdL {k : Nat} {t : Str} {i : Int} : (t, i) ∈ holdL rows k ↔ ∃ r, r < k ∧ t ∈ rowT rows r ∧ i = nI r := by
  unfold holdL
  rw [List.mem_flatMap]
  constructor
  · rintro ⟨r, hr, h⟩
    obtain ⟨u, hu, e⟩ := List.mem_map.mp h
    cases e
    exact ⟨r, List.mem_range.mp hr, hu, rfl⟩
  · rintro ⟨r, hr, ht, rfl⟩
    exact ⟨r, List.mem_range.mpr hr, List.mem_map.mpr ⟨t, ht, rfl⟩⟩
theorem hold_get {t : Str} {v : Nat} (hv : v < rows.length) (ht : t ∈ rowT rows v) : ∃ ws, dget (grp (holdL rows rows.length)) t = some ws ∧ ∀ i, i ∈ ws ↔ ∃ w, w < rows.length ∧ t ∈ rowT rows w ∧ i = nI w := by
  have m : ∀ i, i ∈ valsOf (holdL rows rows.length) t ↔ ∃ w, w < rows.length ∧ t ∈ rowT rows w ∧ i = nI w := fun i => by
    rw [← mem_holdL]
    unfold valsOf
    rw [List.mem_map]
    constructor
    · rintro ⟨⟨u, j⟩, hu, rfl⟩
      obtain ⟨h1, h2⟩ := List.mem_filter.mp hu
      have := of_decide_eq_true h2
      exact this ▸ h1
    · intro h
      exact ⟨(t, i), List.mem_filter.mpr ⟨h, decide_eq_true rfl⟩, rfl⟩
  refine ⟨_, ?_, m⟩
  rw [grp_get, if_neg]
  intro w
  have := (m (nI v)).mpr ⟨v, hv, ht, rfl⟩
  rw [w] at this
  cases this
abbrev RchA (rows : RowsT) (v : Nat) : Prop := Rch (outC rows fun _ => true) 0 v
theorem rowE {v : Nat} {t : Str} (h : t ∈ rowT rows v) : ∃ p, tie? rows (v, p) = some t := by
  obtain ⟨p, hp⟩ := List.mem_iff_getElem?.mp h
  exact ⟨p, hp⟩
theorem rch_adj (two : Twice rows) {v w : Nat} {t : Str} (r : RchA rows v) (hv : t ∈ rowT rows v) (hw : t ∈ rowT rows w) : RchA rows w := by
  obtain ⟨p, hp⟩ := rowE hv
  obtain ⟨q, hq⟩ := rowE hw
  rcases (mate_of two hp).2.2 _ hq with e | e
  · have : w = v := congrArg Prod.fst e
    rw [this]; exact r
  · have : w = (mate rows (v, p)).1 := congrArg Prod.fst e
    rw [this]
    exact Rch.step (e := ((mate rows (v, p)).1, tieD rows (v, p))) r (mem_outC.mpr ⟨p, tie_mem hp, rfl, rfl⟩)
theorem dput_lenN {d : List (Int × Bool)} {k : Int} {a : Bool} (h : dget d k = none) : (dput d k a).length = d.length + 1 := by
  have := congrArg List.length (dput_keys d k a)
  rw [if_neg (dget_none.mp h), List.length_map, List.length_append, List.length_map] at this
  exact this
structure HgI (rows : RowsT) (ex : Nat → Prop) (left : List Int) (d : List (Int × Bool)) : Prop where
  nd : (d.map (·.1)).Nodup
  kr : ∀ k ∈ d.map (·.1), ∃ v, k = nI v ∧ v < rows.length ∧ RchA rows v
  z : nI 0 ∈ d.map (·.1)
  lf : ∀ k ∈ left, k ∈ d.map (·.1)
  ll : left.length ≤ d.length
  cl : ∀ v, nI v ∈ d.map (·.1) → nI v ∉ left → ¬ ex v → ∀ t ∈ rowT rows v, ∀ w, w < rows.length → t ∈ rowT rows w → nI w ∈ d.map (·.1)
theorem HgI.len {ex : Nat → Prop} {left : List Int} {d : List (Int × Bool)} (I : HgI rows ex left d) : d.length ≤ rows.length := by
  have := nodup_le I.nd (l := (List.range rows.length).map nI) fun k hk => by
    obtain ⟨v, rfl, hv, _⟩ := I.kr k hk
    exact List.mem_map.mpr ⟨v, List.mem_range.mpr hv, rfl⟩
  simpa using this
open Classical in
theorem hangs72_ok (two : Twice rows) (pos : 0 < rows.length) (hl : rows.length ≤ 400) (ht : (ties rows).length ≤ 1000) : F__law_hangs rows = .ok (decide (allR rows)) := by
  refine M.T_is ?_
  unfold F__law_hangs
  refine M.T_b (M.T_b (M.T_chk (rng_side (by omega)) (M.T_ok ?_)))
  refine M.T_rng (fun k s => s = grp (holdL rows k)) rfl (fun k s hk hs => ?_) fun s hs => ?_
  · have hk : k < rows.length := by omega
    subst hs
    refine M.T_b (M.T_b (M.T_b (M.T_get (atI_nat (List.getElem?_eq_getElem hk)) (M.T_ok ?_))))
    have er : rowT rows k = rows[k].2 := row_some (List.getElem?_eq_getElem hk)
    have l1 := holdL_len (rows := rows) (k + 1) (by omega)
    have l2 : (ties (rows.take (k + 1))).length ≤ (ties rows).length := by
      conv => rhs; rw [← List.take_append_drop (k + 1) rows, ties_app, List.length_append]
      omega
    rw [holdL_succ, List.length_append, List.length_map, er] at l1
    refine M.T_for (fun ys s => s = grp (holdL rows k ++ ys.map fun t => (t, nI k))) (by simp) (fun ys t zs s e hs => ?_) fun s hs => M.T_ok ?_
    · subst hs
      have := congrArg List.length e
      rw [List.length_append, List.length_cons] at this
      refine M.T_b (M.T_ok (M.T_chk (grp_side _ _ (by rw [List.length_append, List.length_map]; omega)) (M.T_b (M.T_ok (M.T_ok ?_)))))
      rw [List.map_append, ← List.append_assoc]
      exact (grp_snoc _ _ _).symm
    · rw [hs, holdL_succ, er]
  rw [show ((rows.length : Nat) : Int).toNat = rows.length by omega] at hs
  subst hs
  refine M.T_b (M.T_ok (M.T_b (M.T_chk (line_of (by simp)) (M.T_ok (M.T_b ?_)))))
  refine M.T_whT (fun s : List Int × Dk Int Bool => HgI rows (fun _ => False) s.1 s.2.l) (fun s => s.1.length + 2 * (rows.length - s.2.l.length)) ?_ (fun s I => ?_)
  · refine ⟨by simp, fun k hk => ⟨0, ?_, pos, .zero⟩, by simp [nI], fun k hk => hk, Nat.le_refl 1, fun v hv hn => ?_⟩
    · simp at hk; exact hk
    · exact absurd hv hn
  obtain ⟨left, ⟨d⟩⟩ := s
  refine M.T_chk ⟨okLI _, okLI _⟩ (M.T_ok ⟨fun b => ?_, fun b => M.T_ok ?_⟩)
  · have ne : left ≠ [] := fun w => by
      rw [decide_eq_true (show left = [] from w)] at b
      cases b
    obtain ⟨st, k, hA⟩ : ∃ st k, left = st ++ [k] := ⟨left.dropLast, left.getLast ne, (List.dropLast_concat_getLast ne).symm⟩
    subst hA
    have I : HgI rows (fun _ => False) (st ++ [k]) d := I
    have kin := I.lf k (by simp)
    obtain ⟨v, rfl, hv, rv⟩ := I.kr k kin
    have dl := I.len
    have il := I.ll
    rw [List.length_append] at il
    refine M.T_b (M.T_get (a := nI v) (by simp) (M.T_b (M.T_b (M.T_b (M.T_get (atI_nat (List.getElem?_eq_getElem hv)) (M.T_ok ?_))))))
    have er : rowT rows v = rows[v].2 := row_some (List.getElem?_eq_getElem hv)
    have I0 : HgI rows (· = v) st d := ⟨I.nd, I.kr, I.z, fun k hk => I.lf k (List.mem_append_left _ hk), by omega, fun u hu hn hx => I.cl u hu (fun w => by
      rcases List.mem_append.mp w with w | w
      · exact hn w
      · have : (u : Int) = (v : Int) := List.mem_singleton.mp w
        exact hx (by omega)) (fun w => w)⟩
    show (M.for_ _ rows[v].2 ((st ++ [nI v]).dropLast, (⟨d⟩ : Dk Int Bool))).T _
    rw [List.dropLast_concat]
    refine M.T_for (fun ys (s : List Int × Dk Int Bool) => HgI rows (· = v) s.1 s.2.l ∧ (∀ k ∈ d.map (·.1), k ∈ s.2.l.map (·.1)) ∧ s.1.length + d.length = st.length + s.2.l.length ∧ ∀ t ∈ ys, ∀ w, w < rows.length → t ∈ rowT rows w → nI w ∈ s.2.l.map (·.1)) ⟨I0, fun k hk => hk, by simp, fun t ht => by cases ht⟩ (fun ys t zs s e hs => ?_) fun s hs => M.T_ok ?_
    · obtain ⟨lf, ⟨d1⟩⟩ := s
      obtain ⟨J, s1, s2, s3⟩ := hs
      have tm : t ∈ rowT rows v := by rw [er, e]; simp
      obtain ⟨ws, gw, mw⟩ := hold_get hv tm
      refine M.T_b (M.T_b (M.T_get gw ?_))
      refine M.T_for (fun zs (s : Dk Int Bool × List Int) => HgI rows (· = v) s.2 s.1.l ∧ (∀ k ∈ d1.map (·.1), k ∈ s.1.l.map (·.1)) ∧ s.2.length + d1.length = lf.length + s.1.l.length ∧ ∀ i ∈ zs, i ∈ s.1.l.map (·.1)) ⟨J, fun k hk => hk, by simp, fun t ht => by cases ht⟩ (fun zs i us s e2 hs => ?_) fun s hs => M.T_ok ?_
      · obtain ⟨⟨d2⟩, lf2⟩ := s
        obtain ⟨J2, r1, r2, r3⟩ := hs
        obtain ⟨w, hw, tw, rfl⟩ := (mw i).mp (by rw [e2]; simp)
        have J2 : HgI rows (· = v) lf2 d2 := J2
        have len2 := J2.len
        have ll2 := J2.ll
        refine M.T_ite (fun z => ?_) fun z => ?_
        · have hn : dget d2 (nI w) = none := by
            cases q : dget d2 (nI w) with
            | none => rfl
            | some y =>
              have z : (!(dget d2 (nI w)).isSome) = true := z
              rw [q] at z
              cases z
          have dk := dput_keys d2 (nI w) true
          rw [if_neg (dget_none.mp hn)] at dk
          have dln := dput_lenN (a := true) hn
          refine M.T_b (M.T_ok (M.T_b (M.T_ok (M.T_chk (line_lt (by show d2.length ≤ _; omega)) (M.T_b (M.T_ok (M.T_chk (line_lt (by show lf2.length ≤ _; omega)) (M.T_ok ?_))))))))
          show HgI rows (· = v) (lf2 ++ [nI w]) (dput d2 (nI w) true) ∧ _
          refine ⟨⟨dput_nodup J2.nd, fun k hk => ?_, ?_, fun k hk => ?_, ?_, fun u hu hn hx t ht x hx2 htx => ?_⟩, fun k hk => ?_, ?_, fun j hj => ?_⟩
          · rw [dk] at hk
            rcases List.mem_append.mp hk with hk | hk
            · exact J2.kr k hk
            · exact ⟨w, List.mem_singleton.mp hk, hw, rch_adj two rv tm tw⟩
          · rw [dk]; exact List.mem_append_left _ J2.z
          · rw [dk]
            rcases List.mem_append.mp hk with hk | hk
            · exact List.mem_append_left _ (J2.lf k hk)
            · exact List.mem_append_right _ hk
          · rw [List.length_append, dln]; simp; exact ll2
          · rw [dk] at hu ⊢
            refine List.mem_append_left _ ?_
            rcases List.mem_append.mp hu with hu | hu
            · exact J2.cl u hu (fun z => hn (List.mem_append_left _ z)) hx t ht x hx2 htx
            · exact absurd (List.mem_append_right _ hu) hn
          · show k ∈ (dput d2 (nI w) true).map (·.1)
            rw [dk]; exact List.mem_append_left _ (r1 k hk)
          · show (lf2 ++ [nI w]).length + d1.length = lf.length + (dput d2 (nI w) true).length
            rw [List.length_append, dln]
            have r2 : lf2.length + d1.length = lf.length + d2.length := r2
            simp
            omega
          · show j ∈ (dput d2 (nI w) true).map (·.1)
            rw [dk]
            rcases List.mem_append.mp hj with hj | hj
            · exact List.mem_append_left _ (r3 j hj)
            · exact List.mem_append_right _ hj
        · refine M.T_ok ⟨J2, r1, r2, fun j hj => ?_⟩
          rcases List.mem_append.mp hj with hj | hj
          · exact r3 j hj
          · rw [List.mem_singleton.mp hj]
            show nI w ∈ d2.map (·.1)
            refine mem_keys.mpr ?_
            cases q : dget d2 (nI w) with
            | some y => exact ⟨y, rfl⟩
            | none =>
              refine absurd ?_ z
              show (!(dget d2 (nI w)).isSome) = true
              rw [q]
              rfl
      · obtain ⟨⟨d2⟩, lf2⟩ := s
        obtain ⟨J2, r1, r2, r3⟩ := hs
        refine ⟨J2, fun k hk => r1 k (s1 k hk), ?_, fun u hu w hw tw => ?_⟩
        · have s2 : lf.length + d.length = st.length + d1.length := s2
          have r2 : lf2.length + d1.length = lf.length + d2.length := r2
          show lf2.length + d.length = st.length + d2.length
          omega
        · rcases List.mem_append.mp hu with hu | hu
          · exact r1 _ (s3 u hu w hw tw)
          · rw [List.mem_singleton.mp hu] at tw
            exact r3 _ ((mw _).mpr ⟨w, hw, tw, rfl⟩)
    · obtain ⟨lf, ⟨d1⟩⟩ := s
      obtain ⟨J, s1, s2, s3⟩ := hs
      have J : HgI rows (· = v) lf d1 := J
      have s2 : lf.length + d.length = st.length + d1.length := s2
      refine ⟨⟨J.nd, J.kr, J.z, J.lf, J.ll, fun u hu hn _ t ht w hw tw => ?_⟩, ?_⟩
      · by_cases q : u = v
        · subst q
          rw [er] at ht
          exact s3 t ht w hw tw
        · exact J.cl u hu hn q t ht w hw tw
      · have := J.len
        show lf.length + 2 * (rows.length - d1.length) < (st ++ [nI v]).length + 2 * (rows.length - d.length)
        rw [List.length_append]
        have : d.length ≤ d1.length := by
          have := nodup_le I.nd (l := d1.map (·.1)) s1
          simpa using this
        simp
        omega
  · have le : left = [] := by
      by_cases w : left = []
      · exact w
      · rw [decide_eq_false (show ¬ left = [] from w)] at b
        cases b
    subst le
    have I : HgI rows (fun _ => False) [] d := I
    have dl := I.len
    have allk : ∀ v, RchA rows v → nI v ∈ d.map (·.1) := fun v r => by
      induction r with
      | zero => exact I.z
      | @step u e hr he ih =>
        obtain ⟨p, hp, rfl, _⟩ := mem_outC.mp he
        have hm := mate_mem two hp
        obtain ⟨t, htt⟩ := tie_some hp
        have h2 := (mate_of two htt).1
        exact I.cl u ih (by simp) (fun w => w) t (List.mem_of_getElem? htt) _ (allE_row hm) (List.mem_of_getElem? h2)
    refine decide_eq_decide.mpr ⟨fun h v hv => ?_, fun h => ?_⟩
    · have h : d.length = rows.length := by
        have h : ((d.length : Nat) : Int) = ((rows.length : Nat) : Int) := h
        omega
      by_cases q : nI v ∈ d.map (·.1)
      · obtain ⟨u, e, _, r⟩ := I.kr _ q
        have : (v : Int) = (u : Int) := e
        have : v = u := by omega
        rw [this]; exact r
      · have := nodup_le (s := nI v :: d.map (·.1)) (List.nodup_cons.mpr ⟨q, I.nd⟩) (l := (List.range rows.length).map nI) fun k hk => by
          rcases List.mem_cons.mp hk with rfl | hk
          · exact List.mem_map.mpr ⟨v, List.mem_range.mpr hv, rfl⟩
          · obtain ⟨u, rfl, hu, _⟩ := I.kr k hk
            exact List.mem_map.mpr ⟨u, List.mem_range.mpr hu, rfl⟩
        simp at this
        omega
    · have := nodup_le (s := (List.range rows.length).map nI) ?_ (l := d.map (·.1)) fun k hk => by
        obtain ⟨v, hv, rfl⟩ := List.mem_map.mp hk
        exact allk v (h v (List.mem_range.mp hv))
      · simp at this
        show ((d.length : Nat) : Int) = ((rows.length : Nat) : Int)
        omega
      · refine nodup_of_inj _ _ fun i j hij _ h => ?_
        have : (i : Int) = (j : Int) := h
        omega
theorem ties_less (t : Str) : ∀ l : RowsT, ties (less1 l t) = (ties l).filter fun y => !decide (y = t)
  | [] => rfl
  | x :: r => by
    have e1 : ties (x :: r) = x.2 ++ ties r := rfl
    have e2 : ties (less1 (x :: r) t) = (x.2.filter fun y => !decide (y = t)) ++ ties (less1 r t) := rfl
    rw [e1, e2, ties_less t r, List.filter_append]
theorem less_V (V : NetV rows) (t : Str) : NetV (less1 rows t) := by
  have nm : (less1 rows t).map (·.1) = rows.map (·.1) := by unfold less1; rw [List.map_map]; rfl
  have sm := V.sm
  have e1 := ends_len rows
  refine ⟨⟨⟨fun u hu => ?_, by rw [nm]; exact V.nd, fun w => V.ne (List.map_eq_nil_iff.mp w)⟩, ⟨?_, ?_⟩, by rw [nm]; exact V.okn⟩, ?_, by rw [nm]; exact V.nmp, fun u hu => V.nmt u ?_⟩
  · rw [ties_less] at hu ⊢
    obtain ⟨h1, h2⟩ := List.mem_filter.mp hu
    rw [List.count_filter (p := fun y => !decide (y = t)) h2]
    exact V.two u h1
  · show (rows.map _).length ≤ _
    rw [List.length_map]; exact sm.1
  · rw [ends_len, ties_less]
    have := List.length_filter_le (fun y => !decide (y = t)) (ties rows)
    have := sm.2
    omega
  · show (rows.map _).length < 64
    rw [List.length_map]; exact V.few
  · rw [ties_less] at hu
    exact (List.mem_filter.mp hu).1
theorem out_ok (hl : rows.length ≤ 200) (rl : ∀ x ∈ rows, x.2.length ≤ 400) (t : Str) : F__law_out rows t = .ok (less1 rows t) := by
  unfold F__law_out
  rw [chk_line (by omega), M.lc_map (f := fun x : Str × List Str => (x.1, x.2.filter fun y => !decide (y = t))) rows fun x hx => by
    rw [chk_line (by have := rl x hx; omega), M.lc_filter (p := fun y => !decide (y = t)) x.2 fun _ _ => rfl]
    rfl]
  rfl
end Tw
set_option Elab.async false
set_option linter.all false
set_option maxRecDepth 100000
set_option maxHeartbeats 4000000
set_option Elab.async false
set_option linter.all false
set_option maxRecDepth 100000
set_option maxHeartbeats 4000000
namespace Tw
open PySem PySem.Spec L2 TL
open PyProof.Rows hiding St
theorem at_modW {α : Type} (l : List α) (hl : 0 < l.length) (b : Int) : ∃ x ∈ l, atI l (b % ((l.length : Nat) : Int)) = some x := by
  have h0 := Int.emod_nonneg b (show ((l.length : Nat) : Int) ≠ 0 by omega)
  have h1 := Int.emod_lt_of_pos b (show (0 : Int) < ((l.length : Nat) : Int) by omega)
  obtain ⟨x, hx, e⟩ := at_mod l hl h0
  rw [Int.emod_emod_of_dvd _ (Int.dvd_refl _)] at e
  exact ⟨x, hx, e⟩
theorem flt_idx {l : RowsT} (q : Str × List Str → Bool) : l.filter q = ((List.range l.length).filter fun k => q (l.getD k ("", []))).map fun k => l.getD k ("", []) := by
  have e : l = (List.range l.length).map fun k => l.getD k ("", []) := by
    apply List.ext_getElem?
    intro i
    by_cases h : i < l.length
    · simp [h]
    · simp [h]
  conv => lhs; rw [e]
  rw [List.filter_map]
  rfl
theorem cnt_flt (t : Str) : ∀ l : RowsT, (l.filter fun x => decide (t ∈ x.2)).length ≤ (ties l).count t
  | [] => Nat.le_refl 0
  | x :: r => by
    have := cnt_flt t r
    have e : ties (x :: r) = x.2 ++ ties r := rfl
    rw [e, List.count_append, List.filter_cons]
    by_cases h : t ∈ x.2
    · rw [if_pos (decide_eq_true h), List.length_cons]
      have := List.count_pos_iff.mpr h
      omega
    · rw [if_neg (fun z => h (of_decide_eq_true z))]
      omega
theorem held_or {rows : RowsT} (two : Twice rows) {t : Str} (ht : t ∈ ties rows) : (∃ s, rows.filter (fun x => decide (t ∈ x.2)) = [s]) ∨ ∃ s g, rows.filter (fun x => decide (t ∈ x.2)) = [s, g] := by
  have h := cnt_flt t rows
  rw [two t ht] at h
  obtain ⟨x, hx, hm⟩ := List.mem_flatMap.mp ht
  have hx : x ∈ rows.filter (fun x => decide (t ∈ x.2)) := List.mem_filter.mpr ⟨hx, decide_eq_true hm⟩
  generalize rows.filter (fun x => decide (t ∈ x.2)) = F at h hx ⊢
  match F, h, hx with
  | [s], _, _ => exact .inl ⟨s, rfl⟩
  | [s, g], _, _ => exact .inr ⟨s, g, rfl⟩
  | _ :: _ :: _ :: _, h, _ => simp only [List.length_cons] at h; omega
end Tw
set_option Elab.async false
set_option linter.all false
set_option maxRecDepth 100000
set_option maxHeartbeats 4000000
namespace Tw
/-- past the row that is left out -/
def sk (i a : Nat) : Nat := if a < i then a else a + 1
end Tw
set_option Elab.async false
set_option linter.all false
set_option maxRecDepth 100000
set_option maxHeartbeats 4000000
set_option Elab.async false
set_option linter.all false
set_option maxRecDepth 100000
set_option maxHeartbeats 4000000
set_option Elab.async false
set_option linter.all false
set_option maxRecDepth 100000
set_option maxHeartbeats 4000000
set_option Elab.async false
set_option linter.all false
set_option maxRecDepth 100000
set_option maxHeartbeats 4000000
namespace Tw
def dl (a b : Nat) : Int := if a = b then 1 else 0
/-- part q is put to part p -/
def mrgP (P : Nat → Nat) (p q : Nat) : Nat → Nat := fun v => if P v = q then p else P v
end Tw
set_option Elab.async false
set_option linter.all false
set_option maxRecDepth 100000
set_option maxHeartbeats 4000000
namespace Tw
variable {n : Nat} {P : Nat → Nat}
/-- the step from a point to the name of its part -/
def cx (P : Nat → Nat) (x b : Nat) : Int := dl x b - dl (P x) b
end Tw
set_option Elab.async false
set_option linter.all false
set_option maxRecDepth 100000
set_option maxHeartbeats 4000000
set_option Elab.async false
set_option linter.all false
set_option maxRecDepth 100000
set_option maxHeartbeats 4000000
set_option Elab.async false
set_option linter.all false
set_option maxRecDepth 100000
set_option maxHeartbeats 4000000
namespace Tw
variable {n : Nat} {P : Nat → Nat}
/-- the number of ways to choose ties so that each joins two parts and all are one -/
def trees (n : Nat) : (Nat → Nat) → List (Nat × Nat) → Nat
  | P, [] => if (List.range n).all (fun v => decide (P v = P 0)) = true then 1 else 0
  | P, e :: es => trees n P es + if P e.1 = P e.2 then 0 else trees n (mrgP P (P e.1) (P e.2)) es
end Tw
set_option Elab.async false
set_option linter.all false
set_option maxRecDepth 100000
set_option maxHeartbeats 4000000
set_option Elab.async false
set_option linter.all false
set_option maxRecDepth 100000
set_option maxHeartbeats 4000000
set_option Elab.async false
set_option linter.all false
set_option maxRecDepth 100000
set_option maxHeartbeats 4000000
namespace Tw
open PySem PySem.Spec L2 TL
open PyProof.Rows hiding St
structure Mxo (α : Type) where
  p : Addr
  ps : List Addr
  a : List (List α)
def rfs : List V → List Addr
  | [] => []
  | .ref q :: r => q :: rfs r
  | _ :: r => rfs r
theorem rfs_map : ∀ ps : List Addr, rfs (ps.map V.ref) = ps
  | [] => rfl
  | q :: r => by rw [List.map_cons]; show q :: rfs _ = _; rw [rfs_map r]
def fpMx (H : Hp) : V → List Addr
  | .ref p => match H p with
    | some (.lst vs) => p :: rfs vs
    | _ => [p]
  | _ => []
section
variable {α : Type} [Rp α]
structure MxOk (G : Gb) (F H : Hp) (v : V) (m : Mxo α) : Prop where
  v : v = .ref m.p
  top : H m.p = some (.lst (m.ps.map V.ref))
  all : All2 (fun q (r : List α) => ∃ vs, H q = some (.lst vs) ∧ reps G F vs r) m.ps m.a
  nd : m.ps.Nodup
  ne : m.p ∉ m.ps
theorem MxOk.fp {G : Gb} {F H : Hp} {v : V} {m : Mxo α} (h : MxOk G F H v m) : fpMx H v = m.p :: m.ps := by
  rw [h.v]
  unfold fpMx
  simp only [h.top, rfs_map]
instance : Sh (Mxo α) where
  fp := fpMx
  ok := MxOk
  there := fun {G F H v a b} h hb => by
    rw [h.fp] at hb
    rcases List.mem_cons.mp hb with rfl | hb
    · exact ⟨_, h.top⟩
    · obtain ⟨r, _, vs, e, _⟩ := h.all.mem hb
      exact ⟨_, e⟩
  keep := fun {G F F' H H' v a} h sf k => by
    rw [h.fp] at k
    have h' : MxOk G F' H' v a := ⟨h.v, k _ _ List.mem_cons_self h.top, h.all.impm fun q r hq ⟨vs, e, f⟩ => ⟨vs, k _ _ (List.mem_cons_of_mem _ hq) e, reps_mono sf f⟩, h.nd, h.ne⟩
    exact ⟨h', by rw [h'.fp, h.fp]⟩
end
section
variable {G : Gb} {B : Hp} {E : XK} {ρ : Evr} {Ω : Type} {post : Hp → Ω → Ends → Prop} {α : Type} [Rp α] {te ta tb tl : TE} {md md' mr : Md} {rest : TS} {i j : Nat} {g : TG} {ts : List Nat}
/-- a value as it is -/
structure Ad where
  v : V
instance : Rp Ad := ⟨fun _ _ v a => v = a.v, fun _ h => h⟩
instance : Sc Ad := ⟨Ad.v, fun _ _ _ _ => Iff.rfl⟩
theorem EvW.map {γ δ : Type} {per : Bool} {wi : L2.TI} {bind : γ → Evr → Evr} {bind' : δ → Evr → Evr} {f : δ → γ} {m : M (List δ)} (hw : EvW G B E per ρ wi g ts bind (m.b fun xs => .ok (xs.map f))) (hb : ∀ n r, bind (f n) r = bind' n r) : EvW G B E per ρ wi g ts bind' m := fun F0 F σ H R RR q =>
  hw F0 F σ H R RR (M.P_b.mpr (q.imp (fun xs k F' H' J e s wk => k F' H' J e s fun i F0 F ρ σ H w R => by
    obtain ⟨w1, w2⟩ := wk i F0 F ρ σ H w R
    refine ⟨fun h => w1 (by rw [List.length_map]; exact h), fun x hx => ?_⟩
    obtain ⟨g1, g2⟩ := w2 (f x) (by rw [List.getElem?_map, hx]; rfl)
    exact ⟨g1, fun v H' y Qt k => g2 v H' y Qt (by rw [hb]; exact k)⟩) fun _ x => x))
end
end Tw
set_option Elab.async false
set_option linter.all false
set_option maxRecDepth 100000
set_option maxHeartbeats 4000000
set_option Elab.async false
set_option linter.all false
set_option maxRecDepth 100000
set_option maxHeartbeats 4000000
set_option Elab.async false
set_option linter.all false
set_option maxRecDepth 100000
set_option maxHeartbeats 4000000
set_option Elab.async false
set_option linter.all false
set_option maxRecDepth 100000
set_option maxHeartbeats 4000000
set_option Elab.async false
set_option linter.all false
set_option maxRecDepth 100000
set_option maxHeartbeats 4000000
set_option Elab.async false
set_option linter.all false
set_option maxRecDepth 100000
set_option maxHeartbeats 4000000
namespace Tw
open PySem PySem.Spec L2 TL
open PyProof.Rows hiding St
structure SumsD where
  leads : Dk Int (Int × Int)
  empty : List Int
instance : Ins SumsD := ⟨"Sums", ["leads", "empty"], fun t => [⟨t.leads⟩, ⟨t.empty⟩]⟩
end Tw
set_option Elab.async false
set_option linter.all false
set_option maxRecDepth 100000
set_option maxHeartbeats 4000000
namespace Tw
open PySem PySem.Spec L2 TL
open PyProof.Rows hiding St
theorem lead_of {a : Nat} (h : a ≠ 0) : a < 2 ^ (a.log2 + 1) ∧ a.testBit a.log2 = true := by
  have h1 := Nat.lt_log2_self (n := a)
  have h2 := Nat.log2_self_le h
  refine ⟨h1, ?_⟩
  rw [Nat.testBit_eq_decide_div_mod_eq]
  have : a / 2 ^ a.log2 = 1 := by
    have hp : 0 < 2 ^ a.log2 := Nat.two_pow_pos _
    have h3 : a / 2 ^ a.log2 < 2 := by
      rw [Nat.div_lt_iff_lt_mul hp, Nat.mul_comm, ← Nat.pow_succ]
      exact h1
    have h4 : 1 ≤ a / 2 ^ a.log2 := by
      rw [Nat.le_div_iff_mul_le hp]
      omega
    omega
  rw [this]
  rfl
theorem log2_of {a k : Nat} (h : a < 2 ^ (k + 1)) (t : a.testBit k = true) : a ≠ 0 ∧ a.log2 = k := by
  have h0 : a ≠ 0 := fun w => by rw [w, Nat.zero_testBit] at t; cases t
  obtain ⟨h1, h2⟩ := lead_of h0
  refine ⟨h0, ?_⟩
  rcases Nat.lt_trichotomy a.log2 k with q | q | q
  · have := Nat.testBit_lt_two_pow (Nat.lt_of_lt_of_le h1 (Nat.pow_le_pow_right (by decide) (show a.log2 + 1 ≤ k by omega)))
    rw [this] at t; cases t
  · exact q
  · have := Nat.testBit_lt_two_pow (Nat.lt_of_lt_of_le h (Nat.pow_le_pow_right (by decide) (show k + 1 ≤ a.log2 by omega)))
    rw [this] at h2; cases h2
/-- the lead of a sum of two with unlike leads -/
theorem log2_xor {a b : Nat} (ha : a ≠ 0) (hb : b ≠ 0) (h : b.log2 < a.log2) : a ^^^ b ≠ 0 ∧ (a ^^^ b).log2 = a.log2 := by
  obtain ⟨a1, a2⟩ := lead_of ha
  obtain ⟨b1, b2⟩ := lead_of hb
  have b3 : b < 2 ^ a.log2 := Nat.lt_of_lt_of_le b1 (Nat.pow_le_pow_right (by decide) h)
  refine log2_of (Nat.xor_lt_two_pow a1 (Nat.lt_of_lt_of_le b3 (Nat.pow_le_pow_right (by decide) (Nat.le_succ _)))) ?_
  rw [Nat.testBit_xor, a2, Nat.testBit_lt_two_pow b3]
  rfl
/-- the sum of f i over the bits i of u below n -/
def xs (f : Nat → Nat) : Nat → Nat → Nat
  | 0, _ => 0
  | n + 1, u => xs f n u ^^^ (if u.testBit n = true then f n else 0)
theorem xs_xor (f : Nat → Nat) : ∀ (n u w : Nat), xs f n (u ^^^ w) = xs f n u ^^^ xs f n w
  | 0, _, _ => (Nat.xor_zero 0).symm
  | n + 1, u, w => by
    show xs f n (u ^^^ w) ^^^ _ = (xs f n u ^^^ _) ^^^ (xs f n w ^^^ _)
    rw [xs_xor f n u w, Nat.testBit_xor]
    have e : ∀ a b c d : Nat, (a ^^^ b) ^^^ (c ^^^ d) = (a ^^^ c) ^^^ (b ^^^ d) := fun a b c d => by
      rw [Nat.xor_assoc, Nat.xor_assoc, ← Nat.xor_assoc b c d, Nat.xor_comm b c, Nat.xor_assoc c b d]
    rw [e]
    congr 1
    cases u.testBit n <;> cases w.testBit n <;> simp
theorem xs_zero (f : Nat → Nat) : ∀ n, xs f n 0 = 0
  | 0 => rfl
  | n + 1 => by
    show xs f n 0 ^^^ _ = 0
    rw [xs_zero f n, Nat.zero_testBit, if_neg Bool.false_ne_true, Nat.xor_zero]
theorem xs_one (f : Nat → Nat) (n : Nat) : xs f (n + 1) (2 ^ n) = f n := by
  have z : ∀ m, m ≤ n → xs f m (2 ^ n) = 0 := by
    intro m
    induction m with
    | zero => intro _; rfl
    | succ m ih =>
      intro hm
      show xs f m (2 ^ n) ^^^ _ = 0
      rw [ih (by omega), Nat.testBit_two_pow_of_ne (by omega), if_neg Bool.false_ne_true, Nat.xor_zero]
  show xs f n (2 ^ n) ^^^ _ = f n
  rw [z n (Nat.le_refl _), Nat.testBit_two_pow_self, if_pos rfl, Nat.zero_xor]
/-- what sums of a list come to -/
inductive Spn (L : List Nat) : Nat → Prop
  | zero : Spn L 0
  | add {r v : Nat} : r ∈ L → Spn L v → Spn L (v ^^^ r)
theorem Spn.xor {L : List Nat} {a b : Nat} (ha : Spn L a) (hb : Spn L b) : Spn L (a ^^^ b) := by
  induction hb with
  | zero => rw [Nat.xor_zero]; exact ha
  | add hr _ ih => rw [← Nat.xor_assoc]; exact .add hr ih
theorem Spn.mem {L : List Nat} {r : Nat} (h : r ∈ L) : Spn L r := by
  have := Spn.add h .zero
  rw [Nat.zero_xor] at this
  exact this
theorem Spn.mono {L L' : List Nat} (h : ∀ r ∈ L, Spn L' r) {v : Nat} (hv : Spn L v) : Spn L' v := by
  induction hv with
  | zero => exact .zero
  | add hr _ ih => exact ih.xor (h _ hr)
theorem Spn.cons {L : List Nat} {r v : Nat} (h : Spn (r :: L) v) : Spn L v ∨ Spn L (v ^^^ r) := by
  induction h with
  | zero => exact .inl .zero
  | @add s w hs _ ih =>
    rcases List.mem_cons.mp hs with q | q
    · rw [q]
      rcases ih with i | i
      · exact .inr (by rw [Nat.xor_assoc, Nat.xor_self, Nat.xor_zero]; exact i)
      · exact .inl i
    · rcases ih with i | i
      · exact .inl (.add q i)
      · refine .inr ?_
        have := Spn.add q i
        rw [Nat.xor_assoc, Nat.xor_comm r s, ← Nat.xor_assoc] at this
        exact this
/-- a list with unlike leads: what it comes to has the lead of one of it -/
def Led (L : List Nat) : Prop := ∀ v, v ≠ 0 → Spn L v → ∃ r ∈ L, r.log2 = v.log2
theorem Led.cons {L : List Nat} {r : Nat} (h : Led L) (h0 : r ≠ 0) (hn : ∀ s ∈ L, s.log2 ≠ r.log2) : Led (r :: L) := fun v v0 hv => by
  rcases hv.cons with i | i
  · obtain ⟨s, hs, e⟩ := h v v0 i
    exact ⟨s, List.mem_cons_of_mem _ hs, e⟩
  · by_cases q : v ^^^ r = 0
    · have : v = r := by
        have e := congrArg (· ^^^ r) q
        simp only [Nat.xor_assoc, Nat.xor_self, Nat.xor_zero, Nat.zero_xor] at e
        exact e
      exact ⟨r, List.mem_cons_self, by rw [this]⟩
    · obtain ⟨s, hs, e⟩ := h _ q i
      have ev : v = (v ^^^ r) ^^^ r := by rw [Nat.xor_assoc, Nat.xor_self, Nat.xor_zero]
      have ne := hn s hs
      rw [e] at ne
      rcases Nat.lt_or_gt_of_ne ne with q2 | q2
      · have := log2_xor h0 q q2
        rw [Nat.xor_comm, ← ev] at this
        exact ⟨r, List.mem_cons_self, this.2.symm⟩
      · have := log2_xor q h0 q2
        rw [← ev] at this
        exact ⟨s, List.mem_cons_of_mem _ hs, by rw [e]; exact this.2.symm⟩
theorem Led.nil : Led [] := fun v v0 hv => by
  cases hv with
  | zero => exact absurd rfl v0
  | add h _ => cases h
end Tw
set_option Elab.async false
set_option linter.all false
set_option maxRecDepth 100000
set_option maxHeartbeats 4000000
namespace Tw
open PySem PySem.Spec L2 TL
open PyProof.Rows hiding St
def leadE (p : Nat × Nat) : Int × (Int × Int) := (((p.1.log2 + 1 : Nat) : Int), ((p.1 : Int), (p.2 : Int)))
structure SmI (f : Nat → Nat) (n : Nat) (s : SumsD) (L : List (Nat × Nat)) (U : List Nat) : Prop where
  ld : s.leads.l = L.map leadE
  ok : ∀ p ∈ L, p.1 ≠ 0 ∧ p.1 = xs f n p.2 ∧ p.2 < 2 ^ n
  nd : (L.map fun p => p.1.log2).Nodup
  led : Led (L.map (·.1))
  sp : ∀ i, i < n → Spn (L.map (·.1)) (f i)
  em : s.empty = U.map fun u : Nat => (u : Int)
  uo : ∀ u ∈ U, xs f n u = 0 ∧ u < 2 ^ n
  ker : ∀ w, w < 2 ^ n → xs f n w = 0 → Spn U w
  len : L.length + U.length = n
section
variable {f : Nat → Nat} {n : Nat} {s : SumsD} {L : List (Nat × Nat)} {U : List Nat}
theorem SmI.span (I : SmI f n s L U) (w : Nat) : Spn (L.map (·.1)) (xs f n w) := by
  have : ∀ m, m ≤ n → Spn (L.map (·.1)) (xs f m w) := by
    intro m
    induction m with
    | zero => intro _; exact .zero
    | succ m ih =>
      intro hm
      refine (ih (by omega)).xor ?_
      split
      · exact I.sp m (by omega)
      · exact .zero
  exact this n (Nat.le_refl _)
theorem SmI.full (I : SmI f n s L U) {m d : Nat} (h : (m ^^^ xs f n d) = 0 ∨ ∀ p ∈ L, p.1.log2 ≠ (m ^^^ xs f n d).log2) {w : Nat} (hw : xs f n w = m) : m ^^^ xs f n d = 0 := by
  refine Classical.byContradiction fun q => ?_
  have hs : Spn (L.map (·.1)) (m ^^^ xs f n d) := by rw [← hw, ← xs_xor]; exact I.span _
  obtain ⟨r, hr, e⟩ := I.led _ q hs
  obtain ⟨p, hp, rfl⟩ := List.mem_map.mp hr
  rcases h with h | h
  · exact q h
  · exact h p hp e
end
theorem Led.perm {L L' : List Nat} (h : Led L) (k : ∀ x, x ∈ L' ↔ x ∈ L) : Led L' := fun v v0 hv => by
  obtain ⟨r, hr, e⟩ := h v v0 (hv.mono fun r hr => .mem ((k r).mp hr))
  exact ⟨r, (k r).mpr hr, e⟩
end Tw
set_option Elab.async false
set_option linter.all false
set_option maxRecDepth 100000
set_option maxHeartbeats 4000000
namespace Tw
open PySem PySem.Spec L2 TL
open PyProof.Rows hiding St
/-- the mask of the places that are so -/
def mk (p : Nat → Bool) : Nat → Nat
  | 0 => 0
  | n + 1 => mk p n ^^^ (if p n = true then 2 ^ n else 0)
theorem mk_lt (p : Nat → Bool) : ∀ n, mk p n < 2 ^ n
  | 0 => Nat.two_pow_pos 0
  | n + 1 => by
    refine Nat.xor_lt_two_pow (Nat.lt_of_lt_of_le (mk_lt p n) (Nat.pow_le_pow_right (by decide) (Nat.le_succ _))) ?_
    split
    · exact Nat.pow_lt_pow_right (by decide) (Nat.lt_succ_self _)
    · exact Nat.two_pow_pos _
theorem mk_bit (p : Nat → Bool) : ∀ (n i : Nat), i < n → (mk p n).testBit i = p i
  | 0, i, h => absurd h (Nat.not_lt_zero _)
  | n + 1, i, h => by
    show (mk p n ^^^ _).testBit i = _
    rw [Nat.testBit_xor]
    by_cases q : i = n
    · rw [q, Nat.testBit_lt_two_pow (mk_lt p n), Bool.false_xor]
      cases hp : p n
      · rw [if_neg Bool.false_ne_true, Nat.zero_testBit]
      · rw [if_pos rfl, Nat.testBit_two_pow_self]
    · rw [mk_bit p n i (by omega)]
      have : (if p n = true then 2 ^ n else 0).testBit i = false := by
        split
        · exact Nat.testBit_two_pow_of_ne (fun w => q w.symm)
        · exact Nat.zero_testBit _
      rw [this, Bool.xor_false]
def dot (N a b : Nat) : Bool := px (fun i => a.testBit i && b.testBit i) (List.range N)
theorem dot_xor (N a b c : Nat) : dot N (a ^^^ b) c = xor (dot N a c) (dot N b c) := by
  unfold dot
  rw [← px_xor]
  refine px_congr fun i _ => ?_
  rw [Nat.testBit_xor]
  cases a.testBit i <;> cases b.testBit i <;> cases c.testBit i <;> rfl
theorem dot_comm (N a b : Nat) : dot N a b = dot N b a := px_congr fun i _ => Bool.and_comm _ _
theorem dot_two {N i b : Nat} (h : i < N) : dot N (2 ^ i) b = b.testBit i := by
  unfold dot
  have : ∀ M, px (fun j => (2 ^ i).testBit j && b.testBit j) (List.range M) = (decide (i < M) && b.testBit i) := by
    intro M
    induction M with
    | zero => rfl
    | succ M ih =>
      rw [List.range_succ, px_app, ih]
      simp only [px, Bool.xor_false]
      by_cases q : i = M
      · subst q
        rw [Nat.testBit_two_pow_self, decide_eq_false (by omega), decide_eq_true (by omega)]
        simp
      · rw [Nat.testBit_two_pow_of_ne q]
        by_cases q2 : i < M
        · rw [decide_eq_true q2, decide_eq_true (by omega)]; simp
        · rw [decide_eq_false q2, decide_eq_false (by omega)]; simp
  rw [this, decide_eq_true h, Bool.true_and]
theorem fred (N : Nat) : ∀ (L : List Nat) (v : Nat), (∀ r ∈ L, r < 2 ^ N) → v < 2 ^ N → Spn L v ∨ ∃ w, w < 2 ^ N ∧ (∀ r ∈ L, dot N w r = false) ∧ dot N w v = true
  | [], v, _, hv => by
    by_cases z : v = 0
    · rw [z]; exact .inl .zero
    · obtain ⟨h1, h2⟩ := lead_of z
      have hl : v.log2 < N := by
        refine Nat.lt_of_not_le fun q => ?_
        rw [Nat.testBit_lt_two_pow (Nat.lt_of_lt_of_le hv (Nat.pow_le_pow_right (by decide) q))] at h2
        cases h2
      exact .inr ⟨2 ^ v.log2, Nat.pow_lt_pow_right (by decide) hl, (fun r hr => by cases hr), by rw [dot_two hl]; exact h2⟩
  | x :: L, v, hL, hv => by
    have hx := hL x List.mem_cons_self
    have hL := fun r hr => hL r (List.mem_cons_of_mem _ hr)
    have up : ∀ {a}, Spn L a → Spn (x :: L) a := fun h => h.mono fun r hr => .mem (List.mem_cons_of_mem _ hr)
    rcases fred N L v hL hv with h | ⟨w, w1, w2, w3⟩
    · exact .inl (up h)
    · cases wx : dot N w x with
      | false => exact .inr ⟨w, w1, fun r hr => by
          rcases List.mem_cons.mp hr with q | q
          · rw [q]; exact wx
          · exact w2 r q, w3⟩
      | true =>
        rcases fred N L (v ^^^ x) hL (Nat.xor_lt_two_pow hv hx) with h | ⟨z, z1, z2, z3⟩
        · refine .inl ?_
          have := (up h).xor (.mem (r := x) List.mem_cons_self)
          rw [Nat.xor_assoc, Nat.xor_self, Nat.xor_zero] at this
          exact this
        · have e : dot N z (v ^^^ x) = xor (dot N z v) (dot N z x) := by rw [dot_comm, dot_xor, dot_comm N v, dot_comm N x]
          rw [e] at z3
          cases zx : dot N z x with
          | false =>
            rw [zx, Bool.xor_false] at z3
            exact .inr ⟨z, z1, fun r hr => by
              rcases List.mem_cons.mp hr with q | q
              · rw [q]; exact zx
              · exact z2 r q, z3⟩
          | true =>
            have zv : dot N z v = false := by
              rw [zx] at z3
              cases q : dot N z v
              · rfl
              · rw [q] at z3; cases z3
            refine .inr ⟨w ^^^ z, Nat.xor_lt_two_pow w1 z1, fun r hr => ?_, ?_⟩
            · rw [dot_xor]
              rcases List.mem_cons.mp hr with q | q
              · rw [q, wx, zx]; rfl
              · rw [w2 r q, z2 r q]; rfl
            · rw [dot_xor, w3, zv]; rfl
end Tw
set_option Elab.async false
set_option linter.all false
set_option maxRecDepth 100000
set_option maxHeartbeats 4000000
namespace Tw
open PySem PySem.Spec L2 TL
open PyProof.Rows hiding St
theorem xs_bit (f : Nat → Nat) (u q : Nat) : ∀ n, (xs f n u).testBit q = px (fun i => u.testBit i && (f i).testBit q) (List.range n)
  | 0 => Nat.zero_testBit _
  | n + 1 => by
    show (xs f n u ^^^ _).testBit q = _
    rw [Nat.testBit_xor, xs_bit f u q n, List.range_succ, px_app]
    congr 1
    simp only [px, Bool.xor_false]
    cases u.testBit n
    · rw [if_neg Bool.false_ne_true, Nat.zero_testBit]; rfl
    · rw [if_pos rfl]; rfl
theorem px_at {n q : Nat} (h : q < n) (g : Nat → Bool) : px (fun v => decide (v = q) && g v) (List.range n) = g q := by
  have : ∀ m, px (fun v => decide (v = q) && g v) (List.range m) = (decide (q < m) && g q) := by
    intro m
    induction m with
    | zero => rfl
    | succ m ih =>
      rw [List.range_succ, px_app, ih]
      simp only [px, Bool.xor_false]
      by_cases z : m = q
      · subst z
        rw [decide_eq_false (by omega), decide_eq_true rfl, decide_eq_true (by omega)]
        simp
      · rw [decide_eq_false z]
        by_cases z2 : q < m
        · rw [decide_eq_true z2, decide_eq_true (by omega)]; simp
        · rw [decide_eq_false z2, decide_eq_false (by omega)]; simp
  rw [this, decide_eq_true h, Bool.true_and]
/-- rows as a net has them, perhaps apart -/
structure NetR (rows : RowsT) : Prop extends NetP rows where
  sm : Sm rows
  few : rows.length < 64
theorem NetR.inj {rows : RowsT} (Q : NetR rows) : ∀ v w, v < rows.length → w < rows.length → pnm rows v = pnm rows w → v = w := fun v w hv hw h => pnm_inj Q.nd hv hw h
theorem NetQ.R {rows : RowsT} (Q : NetQ rows) : NetR rows := ⟨Q.toNetP, Q.sm, Q.few⟩
end Tw
set_option Elab.async false
set_option linter.all false
set_option maxRecDepth 100000
set_option maxHeartbeats 4000000
namespace Tw
open PySem PySem.Spec L2 TL
open PyProof.Rows hiding St
def prT (rows : RowsT) (t : Str) : Nat × Nat := ((seatA rows t).1, (mate rows (seatA rows t)).1)
def tksH (rows : RowsT) : List Str := (grp (heldL rows)).map (·.1)
def esH (rows : RowsT) : List (Nat × Nat) := (tksH rows).map (prT rows)
end Tw
set_option Elab.async false
set_option linter.all false
set_option maxRecDepth 100000
set_option maxHeartbeats 4000000
namespace Tw
open PySem PySem.Spec L2 TL
open PyProof.Rows hiding St
theorem prT_lt {rows : RowsT} (two : Twice rows) {t : Str} (ht : t ∈ ties rows) : (prT rows t).1 < rows.length ∧ (prT rows t).2 < rows.length := by
  obtain ⟨hA, _⟩ := seatA_mem two ht
  exact ⟨show (seatA rows t).1 < _ from allE_row hA, show (mate rows (seatA rows t)).1 < _ from allE_row (mate_mem two hA)⟩
/-- the rows of a tie -/
theorem tie_rows {rows : RowsT} (two : Twice rows) {i : Nat} {x : Str × List Str} {t : Str} (hx : rows[i]? = some x) (ht : t ∈ x.2) : t ∈ ties rows ∧ (i = (prT rows t).1 ∨ i = (prT rows t).2) := by
  obtain ⟨p, hp⟩ := mem_end hx ht
  have hm := tie_in hp
  refine ⟨hm, ?_⟩
  have h1 := mem_seat.mpr hp
  rw [(seatA_of two hm).2] at h1
  rcases List.mem_cons.mp h1 with z | z
  · exact .inl (congrArg Prod.fst z)
  · exact .inr (congrArg Prod.fst (List.mem_singleton.mp z))
/-- the number of trees -/
def nT (rows : RowsT) : Nat := trees rows.length (fun v => v) (esH rows)
end Tw
set_option Elab.async false
set_option linter.all false
set_option maxRecDepth 100000
set_option maxHeartbeats 4000000
namespace Tw
open PySem PySem.Spec L2 TL
open PyProof.Rows hiding St
/-- the ties in order -/
def tsS (rows : RowsT) : List Str := srt (uniq (ties rows))
theorem tsS_mem {rows : RowsT} {t : Str} : t ∈ tsS rows ↔ t ∈ ties rows := srt_mem.trans mem_uniqT
end Tw
set_option Elab.async false
set_option linter.all false
set_option maxRecDepth 100000
set_option maxHeartbeats 4000000
namespace Tw
open PySem PySem.Spec L2 TL
open PyProof.Rows hiding St
/-- the two rows of a tie, whichever is first -/
theorem prT_of {rows : RowsT} (two : Twice rows) {t : Str} {a b : NE} (ha : tie? rows a = some t) (hb : tie? rows b = some t) (ne : a ≠ b) : prT rows t = (a.1, b.1) ∨ prT rows t = (b.1, a.1) := by
  have h := (seatA_of two (tie_in ha)).2
  have ma := mem_seat.mpr ha
  have mb := mem_seat.mpr hb
  rw [h] at ma mb
  unfold prT
  rcases List.mem_cons.mp ma with z | z <;> rcases List.mem_cons.mp mb with w | w
  · exact absurd (z.trans w.symm) ne
  · rw [List.mem_singleton.mp w, ← z]; exact .inl rfl
  · rw [List.mem_singleton.mp z, ← w]; exact .inr rfl
  · exact absurd ((List.mem_singleton.mp z).trans (List.mem_singleton.mp w).symm) ne
end Tw
set_option Elab.async false
set_option linter.all false
set_option maxRecDepth 100000
set_option maxHeartbeats 4000000
namespace Tw
open PySem PySem.Spec L2 TL
open PyProof.Rows hiding St
variable {rows : RowsT}
theorem flat_row {f : Nat → List NE} (hf : ∀ r, ∀ e ∈ f r, e.1 = r) (w : Nat) : ∀ n, ((List.range n).flatMap f).filter (fun e => decide (e.1 = w)) = if w < n then f w else []
  | 0 => by simp
  | n + 1 => by
    rw [List.range_succ, List.flatMap_append, List.filter_append, flat_row hf w n]
    simp only [List.flatMap_cons, List.flatMap_nil, List.append_nil]
    by_cases q : n = w
    · subst q
      rw [if_neg (Nat.lt_irrefl _), if_pos (Nat.lt_succ_self _), List.nil_append]
      exact List.filter_eq_self.mpr fun e he => decide_eq_true (hf _ e he)
    · rw [List.filter_eq_nil_iff.mpr fun e he z => q ((hf _ e he).symm.trans (of_decide_eq_true z)), List.append_nil]
      by_cases z : w < n
      · rw [if_pos z, if_pos (by omega)]
      · rw [if_neg z, if_neg (by omega)]
theorem cnt_row (u : Str) {w : Nat} (hw : w < rows.length) : (rowT rows w).count u = ((seatL rows u).filter fun e => decide (e.1 = w)).length := by
  unfold seatL
  rw [List.filter_filter]
  have e1 : (allE rows).filter (fun e => decide (e.1 = w) && decide (tie? rows e = some u)) = ((allE rows).filter fun e => decide (e.1 = w)).filter fun e => decide (tie? rows e = some u) := by
    rw [List.filter_filter]
    exact List.filter_congr fun e _ => Bool.and_comm _ _
  rw [e1]
  unfold allE
  rw [flat_row (fun r e he => by obtain ⟨p, _, rfl⟩ := List.mem_map.mp he; rfl) w, if_pos hw, ← List.countP_eq_length_filter, List.countP_map]
  have e2 : List.countP ((fun e => decide (tie? rows e = some u)) ∘ fun p => (w, p)) (List.range (rowT rows w).length) = ((List.range (rowT rows w).length).map fun i => (rowT rows w)[i]?).countP fun o => decide (o = some u) := by
    rw [List.countP_map]
    rfl
  rw [e2, map_get, List.countP_map, List.count]
  congr 1
  funext v
  show (v == u) = decide (some v = some u)
  by_cases e : v = u <;> simp [e]
theorem prT_cnt (two : Twice rows) {u : Str} (hu : u ∈ ties rows) {w : Nat} (hw : w < rows.length) : (rowT rows w).count u = (if (prT rows u).1 = w then 1 else 0) + if (prT rows u).2 = w then 1 else 0 := by
  rw [cnt_row u hw, (seatA_of two hu).2]
  show (List.filter _ [seatA rows u, mate rows (seatA rows u)]).length = (if (seatA rows u).1 = w then 1 else 0) + if (mate rows (seatA rows u)).1 = w then 1 else 0
  by_cases h1 : (seatA rows u).1 = w <;> by_cases h2 : (mate rows (seatA rows u)).1 = w <;> simp [h1, h2]
theorem pr_arith {n p q i j : Nat} (hp : p < n) (hq : q < n) (hi : i < n) (hj : j < n) (h : ∀ w, w < n → ((if p = w then 1 else 0) + if q = w then 1 else 0) = (if i = w then 1 else 0) + if j = w then 1 else 0) : (p, q) = (i, j) ∨ (p, q) = (j, i) := by
  have h1 := h p hp
  have h2 := h q hq
  have h3 := h i hi
  have h4 := h j hj
  rw [Prod.mk.injEq, Prod.mk.injEq]
  clear h
  by_cases a : p = i
  · subst a
    by_cases b : q = j
    · exact .inl ⟨rfl, b⟩
    · by_cases c : p = q
      · subst c
        rw [if_pos rfl, if_neg (show ¬ j = p from fun z => b z.symm)] at h1
        omega
      · rw [if_neg c, if_pos rfl, if_neg (show ¬ j = q from fun z => b z.symm)] at h2
        omega
  · by_cases b : p = j
    · subst b
      by_cases c : q = i
      · exact .inr ⟨rfl, c⟩
      · rw [if_neg a, if_neg c, if_pos rfl] at h3
        omega
    · rw [if_pos rfl, if_neg (show ¬ i = p from fun z => a z.symm), if_neg (show ¬ j = p from fun z => b z.symm)] at h1
      omega
theorem prT_by (two : Twice rows) {u : Str} (hu : u ∈ ties rows) {i j : Nat} (hi : i < rows.length) (hj : j < rows.length) (h : ∀ w, w < rows.length → (rowT rows w).count u = (if i = w then 1 else 0) + if j = w then 1 else 0) : prT rows u = (i, j) ∨ prT rows u = (j, i) := by
  obtain ⟨h1, h2⟩ := prT_lt two hu
  exact pr_arith h1 h2 hi hj fun w hw => (prT_cnt two hu hw).symm.trans (h w hw)
def HangN (rows : RowsT) : Prop := ∀ f : Nat → Bool, (∀ t ∈ ties rows, f (prT rows t).1 = f (prT rows t).2) → ∀ v, v < rows.length → f v = f 0
theorem prT_end (two : Twice rows) {e : NE} (he : e ∈ allE rows) : prT rows (tieD rows e) = (e.1, (mate rows e).1) ∨ prT rows (tieD rows e) = ((mate rows e).1, e.1) := by
  obtain ⟨t, ht⟩ := tie_some he
  obtain ⟨m1, m2, m3⟩ := mate_of two ht
  rw [tieD_of ht]
  exact prT_of two ht m1 fun z => m2 z.symm
theorem prT_row (two : Twice rows) {t : Str} (ht : t ∈ ties rows) : t ∈ rowT rows (prT rows t).1 ∧ t ∈ rowT rows (prT rows t).2 := by
  obtain ⟨h1, h2⟩ := prT_lt two ht
  have c1 := prT_cnt two ht h1
  have c2 := prT_cnt two ht h2
  rw [if_pos rfl] at c1
  rw [if_pos (c := (prT rows t).2 = (prT rows t).2) rfl] at c2
  exact ⟨List.count_pos_iff.mp (by omega), List.count_pos_iff.mp (by omega)⟩
theorem allR_hangN (two : Twice rows) (ne : rows ≠ []) : allR rows ↔ HangN rows := by
  constructor
  · intro h f hf v hv
    have := h v hv
    induction this with
    | zero => rfl
    | @step u e _ he ih =>
      obtain ⟨p, hp, rfl, _⟩ := mem_outC.mp he
      have iu := ih (allE_row hp)
      have hm := hf _ (tieD_mem hp)
      show f (mate rows (u, p)).1 = f 0
      rw [← iu]
      rcases prT_end two hp with z | z <;> rw [z] at hm
      · exact hm.symm
      · exact hm
  · intro h v hv
    have hc : ∀ {a b : Nat} {t : Str}, t ∈ rowT rows a → t ∈ rowT rows b → RchA rows a → RchA rows b := fun ha hb r => rch_adj two r ha hb
    have := h (fun v => @decide (RchA rows v) (Classical.propDecidable _)) (fun t ht => by
      obtain ⟨r1, r2⟩ := prT_row two ht
      exact decide_eq_decide.mpr ⟨hc r1 r2, hc r2 r1⟩) v hv
    exact @of_decide_eq_true _ (Classical.propDecidable _) (this.trans (@decide_eq_true _ (Classical.propDecidable _) .zero))
theorem mem_pnm {x : Str × List Str} (hx : x ∈ rows) : ∃ v, v < rows.length ∧ rows[v]? = some x ∧ x.1 = pnm rows v := by
  obtain ⟨v, hv⟩ := List.mem_iff_getElem?.mp hx
  exact ⟨v, (List.getElem?_eq_some_iff.mp hv).1, hv, (pnm_at hv).symm⟩
theorem hang_N (P : NetP rows) : Hang rows ↔ HangN rows := by
  constructor
  · intro h f hf v hv
    have pos : 0 < rows.length := List.length_pos_iff.mpr P.ne
    have := h (fun n => ∃ w, w < rows.length ∧ pnm rows w = n ∧ f w = f 0) (fun x hx y hy t tx ty ⟨w, hw, ew, fw⟩ => by
      obtain ⟨i, hi, gi, ei⟩ := mem_pnm hx
      obtain ⟨j, hj, gj, ej⟩ := mem_pnm hy
      have : w = i := pnm_inj P.nd hw hi (by rw [ew, ei])
      subst this
      obtain ⟨hm, a1⟩ := tie_rows P.two gi tx
      obtain ⟨_, a2⟩ := tie_rows P.two gj ty
      have fe := hf t hm
      refine ⟨j, hj, ej.symm, ?_⟩
      rcases a1 with a1 | a1 <;> rcases a2 with a2 | a2
      · rw [a2, ← a1]; exact fw
      · rw [a2, ← fe, ← a1]; exact fw
      · rw [a2, fe, ← a1]; exact fw
      · rw [a2, ← a1]; exact fw) ⟨rows[0], List.getElem_mem pos, 0, pos, pnm_at (List.getElem?_eq_getElem pos), rfl⟩ rows[v] (List.getElem_mem hv)
    obtain ⟨w, hw, ew, fw⟩ := this
    have : w = v := pnm_inj P.nd hw hv (by rw [ew, pnm_at (List.getElem?_eq_getElem hv)])
    rw [← this]
    exact fw
  · intro h S hS ⟨x, hx, sx⟩ y hy
    have key := h (fun v => @decide (S (pnm rows v)) (Classical.propDecidable _)) fun t ht => by
      obtain ⟨r1, r2⟩ := prT_row P.two ht
      obtain ⟨h1, h2⟩ := prT_lt P.two ht
      have g1 := List.getElem?_eq_getElem h1
      have g2 := List.getElem?_eq_getElem h2
      rw [row_some g1] at r1
      rw [row_some g2] at r2
      have p1 := pnm_at g1
      have p2 := pnm_at g2
      refine decide_eq_decide.mpr ⟨fun z => ?_, fun z => ?_⟩
      · rw [p2]; exact hS _ (List.getElem_mem h1) _ (List.getElem_mem h2) t r1 r2 (by rw [← p1]; exact z)
      · rw [p1]; exact hS _ (List.getElem_mem h2) _ (List.getElem_mem h1) t r2 r1 (by rw [← p2]; exact z)
    obtain ⟨i, hi, _, ei⟩ := mem_pnm hx
    obtain ⟨j, hj, _, ej⟩ := mem_pnm hy
    have := (key i hi).trans (key j hj).symm
    rw [ej]
    rw [ei] at sx
    exact @of_decide_eq_true _ (Classical.propDecidable _) (this.symm.trans (@decide_eq_true _ (Classical.propDecidable _) sx))
theorem less_len (t : Str) : (less1 rows t).length = rows.length := by unfold less1; rw [List.length_map]
theorem less_row (t : Str) (w : Nat) : rowT (less1 rows t) w = (rowT rows w).filter fun y => !decide (y = t) := by
  unfold rowT less1
  rw [List.getElem?_map]
  cases rows[w]? <;> rfl
theorem less_ties {t u : Str} : u ∈ ties (less1 rows t) ↔ u ∈ ties rows ∧ u ≠ t := by
  rw [ties_less, List.mem_filter]
  simp
theorem less_two (two : Twice rows) (t : Str) : Twice (less1 rows t) := fun u hu => by
  rw [ties_less] at hu ⊢
  obtain ⟨h1, h2⟩ := List.mem_filter.mp hu
  rw [List.count_filter (p := fun y => !decide (y = t)) h2]
  exact two u h1
theorem less_ne (t : Str) (ne : rows ≠ []) : less1 rows t ≠ [] := fun z => ne (List.map_eq_nil_iff.mp z)
theorem less_prT (two : Twice rows) {t u : Str} (hu : u ∈ ties rows) (ne : u ≠ t) : prT (less1 rows t) u = prT rows u ∨ prT (less1 rows t) u = ((prT rows u).2, (prT rows u).1) := by
  obtain ⟨h1, h2⟩ := prT_lt two hu
  refine prT_by (less_two two t) (less_ties.mpr ⟨hu, ne⟩) (by rw [less_len]; exact h1) (by rw [less_len]; exact h2) fun w hw => ?_
  rw [less_len] at hw
  rw [less_row, List.count_filter (by simpa using ne)]
  exact prT_cnt two hu hw
theorem less_hangN (two : Twice rows) (t : Str) : HangN (less1 rows t) ↔ ∀ f : Nat → Bool, (∀ u ∈ ties rows, u ≠ t → f (prT rows u).1 = f (prT rows u).2) → ∀ v, v < rows.length → f v = f 0 := by
  have e : ∀ f : Nat → Bool, (∀ u ∈ ties (less1 rows t), f (prT (less1 rows t) u).1 = f (prT (less1 rows t) u).2) ↔ ∀ u ∈ ties rows, u ≠ t → f (prT rows u).1 = f (prT rows u).2 := fun f => by
    constructor
    · intro h u hu ne
      have := h u (less_ties.mpr ⟨hu, ne⟩)
      rcases less_prT two hu ne with z | z <;> rw [z] at this
      · exact this
      · exact this.symm
    · intro h u hu
      obtain ⟨h1, h2⟩ := less_ties.mp hu
      have := h u h1 h2
      rcases less_prT two h1 h2 with z | z <;> rw [z]
      · exact this
      · exact this.symm
  unfold HangN
  rw [less_len]
  exact forall_congr' fun f => by rw [e f]
end Tw
set_option Elab.async false
set_option linter.all false
set_option maxRecDepth 100000
set_option maxHeartbeats 4000000
namespace Tw
open PySem PySem.Spec L2 TL
open PyProof.Rows hiding St
variable {rows : RowsT}
theorem filter_two {α : Type} {p : α → Bool} {l : List α} {s g : α} (h : l.filter p = [s, g]) : ∃ A B C, l = A ++ s :: (B ++ g :: C) ∧ (∀ x ∈ A, p x = false) ∧ (∀ x ∈ B, p x = false) ∧ (∀ x ∈ C, p x = false) ∧ p s = true ∧ p g = true := by
  obtain ⟨A, r, e1, hA, hs, e2⟩ := List.filter_eq_cons_iff.mp h
  obtain ⟨B, C, e3, hB, hg, e4⟩ := List.filter_eq_cons_iff.mp e2
  subst e1 e3
  have f : ∀ {L : List α}, (∀ x ∈ L, ¬ p x = true) → ∀ x ∈ L, p x = false := fun h x hx => by
    cases w : p x
    · rfl
    · exact absurd w (h x hx)
  exact ⟨A, B, C, rfl, f hA, f hB, f (List.filter_eq_nil_iff.mp e4), hs, hg⟩
/-- the rows around a tie's two points -/
structure Hold (rows : RowsT) (t : Str) (A B C : RowsT) (s g : Str × List Str) : Prop where
  eq : rows = A ++ s :: (B ++ g :: C)
  nA : ∀ x ∈ A, t ∉ x.2
  nB : ∀ x ∈ B, t ∉ x.2
  nC : ∀ x ∈ C, t ∉ x.2
  ms : t ∈ s.2
  mg : t ∈ g.2
theorem hold_of {t : Str} {s g : Str × List Str} (h : rows.filter (fun x => decide (t ∈ x.2)) = [s, g]) : ∃ A B C, Hold rows t A B C s g := by
  obtain ⟨A, B, C, h1, h2, h3, h4, h5, h6⟩ := filter_two h
  exact ⟨A, B, C, h1, fun x hx => of_decide_eq_false (h2 x hx), fun x hx => of_decide_eq_false (h3 x hx), fun x hx => of_decide_eq_false (h4 x hx), of_decide_eq_true h5, of_decide_eq_true h6⟩
variable {t : Str} {A B C : RowsT} {s g : Str × List Str}
def stay (t : Str) (s g : Str × List Str) : Str × List Str := (s.1, rplS t (turnS t g.2) s.2)
theorem fm_id {α : Type} {f : α → Option α} : ∀ L : List α, (∀ x ∈ L, f x = some x) → L.filterMap f = L
  | [], _ => rfl
  | x :: L, h => by rw [List.filterMap_cons, h x List.mem_cons_self, fm_id L fun y hy => h y (List.mem_cons_of_mem _ hy)]
theorem shr_split (H : Hold rows t A B C s g) (nd : (rows.map (·.1)).Nodup) : shrR rows t s g = A ++ stay t s g :: (B ++ C) := by
  rw [H.eq] at nd ⊢
  rw [List.map_append, List.map_cons, List.map_append, List.map_cons, List.nodup_append, List.nodup_cons, List.nodup_append, List.nodup_cons] at nd
  obtain ⟨_, ⟨sN, _, ⟨gC, _⟩, gBC⟩, sA⟩ := nd
  have keep : ∀ L : RowsT, (∀ x ∈ L, x.1 ≠ s.1 ∧ x.1 ≠ g.1) → shrR L t s g = L := fun L h => by
    unfold shrR
    exact fm_id L fun x hx => by rw [if_neg (h x hx).1, if_neg (h x hx).2]
  have kA := keep A fun x hx => ⟨fun z => sA x.1 (List.mem_map.mpr ⟨x, hx, rfl⟩) s.1 List.mem_cons_self z, fun z => sA x.1 (List.mem_map.mpr ⟨x, hx, rfl⟩) g.1 (by simp) z⟩
  have kB := keep B fun x hx => ⟨fun z => sN (by rw [← z]; exact List.mem_append_left _ (List.mem_map.mpr ⟨x, hx, rfl⟩)), fun z => gBC x.1 (List.mem_map.mpr ⟨x, hx, rfl⟩) g.1 List.mem_cons_self z⟩
  have kC := keep C fun x hx => ⟨fun z => sN (by rw [← z]; exact List.mem_append_right _ (List.mem_cons_of_mem _ (List.mem_map.mpr ⟨x, hx, rfl⟩))), fun z => gC (by rw [← z]; exact List.mem_map.mpr ⟨x, hx, rfl⟩)⟩
  have sg : g.1 ≠ s.1 := fun z => sN (by rw [← z]; simp)
  unfold shrR at kA kB kC ⊢
  rw [List.filterMap_append, List.filterMap_cons, List.filterMap_append, List.filterMap_cons, kA, kB, kC, if_pos rfl, if_neg sg, if_pos rfl]
  rfl
/-- the number of a row behind -/
def shN (a b v : Nat) : Nat := if v ≤ a + b then v else if v = a + 1 + b then a else v - 1
theorem Hold.len (H : Hold rows t A B C s g) : rows.length = A.length + 1 + B.length + 1 + C.length := by
  rw [H.eq]
  simp
  omega
theorem stay_cnt (ms : t ∈ s.2) (mg : t ∈ g.2) (u : Str) : (stay t s g).2.count u + (if u = t then 2 else 0) = s.2.count u + g.2.count u := by
  obtain ⟨p, hp⟩ := idxS_mem mg
  obtain ⟨q, hq⟩ := idxS_mem ms
  have lp := idx_lt hp
  have lq := idx_lt hq
  have gp : g.2[p] = t := by have := (idxS_spec hp).1; rw [List.getElem?_eq_getElem lp] at this; exact Option.some.inj this
  have gq : s.2[q] = t := by have := (idxS_spec hq).1; rw [List.getElem?_eq_getElem lq] at this; exact Option.some.inj this
  have tn : turnS t g.2 = g.2.drop (p + 1) ++ g.2.take p := by unfold turnS; rw [hp]
  have rp : rplS t (turnS t g.2) s.2 = s.2.take q ++ turnS t g.2 ++ s.2.drop (q + 1) := by unfold rplS; rw [hq]
  have cg : g.2.count u = (g.2.take p).count u + ((if u = t then 1 else 0) + (g.2.drop (p + 1)).count u) := by
    conv => lhs; rw [← List.take_append_drop p g.2, List.drop_eq_getElem_cons lp, List.count_append, List.count_cons, gp]
    by_cases z : u = t
    · subst z; simp; omega
    · rw [if_neg z, if_neg (by simpa using fun w : t = u => z w.symm)]; omega
  have cs : s.2.count u = (s.2.take q).count u + ((if u = t then 1 else 0) + (s.2.drop (q + 1)).count u) := by
    conv => lhs; rw [← List.take_append_drop q s.2, List.drop_eq_getElem_cons lq, List.count_append, List.count_cons, gq]
    by_cases z : u = t
    · subst z; simp; omega
    · rw [if_neg z, if_neg (by simpa using fun w : t = u => z w.symm)]; omega
  show (rplS t (turnS t g.2) s.2).count u + _ = _
  rw [rp, tn, List.count_append, List.count_append, List.count_append, cg, cs]
  by_cases z : u = t
  · simp only [if_pos z]; omega
  · simp only [if_neg z]; omega
theorem stay_len (ms : t ∈ s.2) (mg : t ∈ g.2) : (stay t s g).2.length ≤ s.2.length + g.2.length := by
  obtain ⟨p, hp⟩ := idxS_mem mg
  obtain ⟨q, hq⟩ := idxS_mem ms
  have tn : turnS t g.2 = g.2.drop (p + 1) ++ g.2.take p := by unfold turnS; rw [hp]
  have rp : rplS t (turnS t g.2) s.2 = s.2.take q ++ turnS t g.2 ++ s.2.drop (q + 1) := by unfold rplS; rw [hq]
  show (rplS t (turnS t g.2) s.2).length ≤ _
  rw [rp, tn]
  simp
  omega
theorem ties_cons (x : Str × List Str) (l : RowsT) : ties (x :: l) = x.2 ++ ties l := rfl
theorem shr_cnt (H : Hold rows t A B C s g) (nd : (rows.map (·.1)).Nodup) (u : Str) : (ties (shrR rows t s g)).count u + (if u = t then 2 else 0) = (ties rows).count u := by
  rw [shr_split H nd]
  conv => rhs; rw [H.eq]
  rw [ties_app, ties_cons, ties_app, ties_app, ties_cons, ties_app, ties_cons]
  simp only [List.count_append]
  have := stay_cnt H.ms H.mg u
  omega
theorem shr_ties (H : Hold rows t A B C s g) (two : Twice rows) (nd : (rows.map (·.1)).Nodup) {u : Str} : u ∈ ties (shrR rows t s g) ↔ u ∈ ties rows ∧ u ≠ t := by
  have c := shr_cnt H nd u
  rw [← List.count_pos_iff, ← List.count_pos_iff]
  by_cases z : u = t
  · rw [if_pos z] at c
    have ht : u ∈ ties rows := by rw [H.eq, ties_app, ties_cons, z]; exact List.mem_append_right _ (List.mem_append_left _ H.ms)
    have := two u ht
    exact ⟨fun q => by omega, fun q => absurd z q.2⟩
  · rw [if_neg z] at c
    exact ⟨fun q => ⟨by omega, z⟩, fun q => by omega⟩
theorem shr_two (H : Hold rows t A B C s g) (two : Twice rows) (nd : (rows.map (·.1)).Nodup) : Twice (shrR rows t s g) := fun u hu => by
  obtain ⟨h1, h2⟩ := (shr_ties H two nd).mp hu
  have c := shr_cnt H nd u
  rw [if_neg h2] at c
  rw [← two u h1, ← c]
  rfl
theorem shr_len (H : Hold rows t A B C s g) (nd : (rows.map (·.1)).Nodup) : (shrR rows t s g).length + 1 = rows.length := by
  rw [shr_split H nd, H.len]
  simp
  omega
theorem row_app (X Y : RowsT) (w : Nat) : rowT (X ++ Y) w = if w < X.length then rowT X w else rowT Y (w - X.length) := by
  unfold rowT
  by_cases h : w < X.length
  · rw [if_pos h, List.getElem?_append_left h]
  · rw [if_neg h, List.getElem?_append_right (by omega)]
theorem row_cons (x : Str × List Str) (l : RowsT) (w : Nat) : rowT (x :: l) w = if w = 0 then x.2 else rowT l (w - 1) := by
  cases w with
  | zero => rfl
  | succ w => rfl
theorem shr_row (H : Hold rows t A B C s g) (nd : (rows.map (·.1)).Nodup) {v : Nat} (n1 : v ≠ A.length) (n2 : v ≠ A.length + 1 + B.length) : rowT (shrR rows t s g) (shN A.length B.length v) = rowT rows v := by
  rw [shr_split H nd]
  conv => rhs; rw [H.eq]
  unfold shN
  rw [row_app, row_app A, row_cons, row_cons, row_app, row_app, row_cons]
  repeat' split
  all_goals first | omega | rfl | (congr 1; omega) | (exfalso; omega)
theorem shr_row0 (H : Hold rows t A B C s g) (nd : (rows.map (·.1)).Nodup) : rowT (shrR rows t s g) A.length = (stay t s g).2 ∧ rowT rows A.length = s.2 ∧ rowT rows (A.length + 1 + B.length) = g.2 := by
  refine ⟨?_, ?_, ?_⟩
  · rw [shr_split H nd, row_app, if_neg (by omega), Nat.sub_self]; rfl
  · conv => lhs; rw [H.eq]
    rw [row_app, if_neg (by omega), Nat.sub_self]; rfl
  · conv => lhs; rw [H.eq]
    rw [row_app, if_neg (by omega), row_cons, if_neg (by omega), row_app, if_neg (by omega), show A.length + 1 + B.length - A.length - 1 - B.length = 0 by omega]; rfl
theorem shN_lt {a b n v : Nat} (hn : a + 1 + b < n) (h : v < n) : shN a b v < n - 1 := by
  unfold shN
  split
  · omega
  · split <;> omega
theorem shN_on {a b n w : Nat} (hn : a + 1 + b < n) (h : w < n - 1) : ∃ v, v < n ∧ v ≠ a + 1 + b ∧ shN a b v = w := by
  unfold shN
  by_cases q : w ≤ a + b
  · exact ⟨w, by omega, by omega, by rw [if_pos q]⟩
  · exact ⟨w + 1, by omega, by omega, by rw [if_neg (by omega), if_neg (by omega)]; omega⟩
theorem shN_iff {a b v w : Nat} : shN a b v = shN a b w ↔ v = w ∨ ((v = a ∨ v = a + 1 + b) ∧ (w = a ∨ w = a + 1 + b)) := by
  unfold shN
  split <;> split <;> (try split) <;> (try split) <;> omega
theorem Hold.lt (H : Hold rows t A B C s g) : A.length + 1 + B.length < rows.length := by have := H.len; omega
theorem shr_prT (H : Hold rows t A B C s g) (two : Twice rows) (nd : (rows.map (·.1)).Nodup) {u : Str} (hu : u ∈ ties rows) (ne : u ≠ t) :
    prT (shrR rows t s g) u = (shN A.length B.length (prT rows u).1, shN A.length B.length (prT rows u).2) ∨ prT (shrR rows t s g) u = (shN A.length B.length (prT rows u).2, shN A.length B.length (prT rows u).1) := by
  have l1 := shr_len H nd
  have l2 := H.lt
  obtain ⟨h1, h2⟩ := prT_lt two hu
  refine prT_by (shr_two H two nd) ((shr_ties H two nd).mpr ⟨hu, ne⟩) (by have := shN_lt l2 h1; omega) (by have := shN_lt l2 h2; omega) fun w hw => ?_
  obtain ⟨v, hv, vne, rfl⟩ := shN_on (w := w) l2 (by omega)
  have iff1 : ∀ p, (shN A.length B.length p = shN A.length B.length v) ↔ p = v ∨ (v = A.length ∧ p = A.length + 1 + B.length) := fun p => by
    rw [shN_iff]
    omega
  by_cases q : v = A.length
  · subst q
    have cs := prT_cnt two hu (w := A.length) (by omega)
    have cg := prT_cnt two hu (w := A.length + 1 + B.length) (by omega)
    obtain ⟨r0, r1, r2⟩ := shr_row0 H nd
    have c := stay_cnt H.ms H.mg u
    rw [r1] at cs
    rw [r2] at cg
    rw [if_neg ne] at c
    rw [show shN A.length B.length A.length = A.length by unfold shN; rw [if_pos (by omega)]] at iff1 ⊢
    have sp : ∀ p : Nat, (if shN A.length B.length p = A.length then 1 else 0) = (if p = A.length then 1 else 0) + if p = A.length + 1 + B.length then 1 else 0 := fun p => by
      by_cases z1 : p = A.length
      · rw [if_pos ((iff1 p).mpr (.inl z1)), if_pos z1, if_neg (by omega)]
      · by_cases z2 : p = A.length + 1 + B.length
        · rw [if_pos ((iff1 p).mpr (.inr ⟨rfl, z2⟩)), if_neg z1, if_pos z2]
        · rw [if_neg (fun z => ((iff1 p).mp z).elim z1 fun w => z2 w.2), if_neg z1, if_neg z2]
    rw [r0, sp, sp]
    omega
  · rw [shr_row H nd q vne, prT_cnt two hu hv]
    have sp : ∀ p : Nat, (if shN A.length B.length p = shN A.length B.length v then 1 else 0) = if p = v then 1 else 0 := fun p => by
      by_cases z1 : p = v
      · rw [if_pos ((iff1 p).mpr (.inl z1)), if_pos z1]
      · rw [if_neg (fun z => ((iff1 p).mp z).elim z1 fun w => q w.1), if_neg z1]
    rw [sp, sp]
theorem hold_prT (H : Hold rows t A B C s g) (two : Twice rows) (nd : (rows.map (·.1)).Nodup) : t ∈ ties rows ∧ (prT rows t = (A.length, A.length + 1 + B.length) ∨ prT rows t = (A.length + 1 + B.length, A.length)) := by
  have ht : t ∈ ties rows := by rw [H.eq, ties_app, ties_cons]; exact List.mem_append_right _ (List.mem_append_left _ H.ms)
  obtain ⟨_, r1, r2⟩ := shr_row0 H nd
  have l2 := H.lt
  refine ⟨ht, ?_⟩
  obtain ⟨p, hp⟩ := rowE (rows := rows) (v := A.length) (t := t) (by rw [r1]; exact H.ms)
  obtain ⟨q, hq⟩ := rowE (rows := rows) (v := A.length + 1 + B.length) (t := t) (by rw [r2]; exact H.mg)
  exact prT_of two hp hq fun z => by have := congrArg Prod.fst z; simp at this; omega
theorem shr_NetR (H : Hold rows t A B C s g) (R : NetR rows) : NetR (shrR rows t s g) := by
  have e := shr_split H R.nd
  have l := shr_len H R.nd
  have few := R.few
  refine ⟨⟨shr_two H R.two R.nd, ?_, ?_⟩, ⟨by have := R.sm.1; omega, ?_⟩, by omega⟩
  · have nd := R.nd
    rw [e]
    rw [H.eq] at nd
    refine nd.sublist ?_
    rw [List.map_append, List.map_append, List.map_cons, List.map_cons, List.map_append, List.map_append, List.map_cons]
    exact (List.Sublist.refl _).append (((List.Sublist.refl _).append (List.sublist_cons_self _ _)).cons₂ _)
  · rw [e]; simp
  · have c : (ties (shrR rows t s g)).length ≤ (ties rows).length := by
      rw [e]
      conv => rhs; rw [H.eq]
      rw [ties_app, ties_cons, ties_app, ties_app, ties_cons, ties_app, ties_cons]
      simp only [List.length_append]
      have := stay_len H.ms H.mg
      omega
    have := R.sm.2
    rw [ends_len] at this ⊢
    omega
theorem shr_hangN (H : Hold rows t A B C s g) (two : Twice rows) (nd : (rows.map (·.1)).Nodup) (h : HangN rows) : HangN (shrR rows t s g) := fun f hf w hw => by
  have l1 := shr_len H nd
  have l2 := H.lt
  obtain ⟨ht, pt⟩ := hold_prT H two nd
  have key := h (fun v => f (shN A.length B.length v)) fun u hu => by
    by_cases q : u = t
    · subst q
      have e : shN A.length B.length A.length = shN A.length B.length (A.length + 1 + B.length) := shN_iff.mpr (.inr ⟨.inl rfl, .inr rfl⟩)
      rcases pt with z | z <;> rw [z]
      · show f _ = f _; rw [e]
      · show f _ = f _; rw [e]
    · have := hf u ((shr_ties H two nd).mpr ⟨hu, q⟩)
      rcases shr_prT H two nd hu q with z | z <;> rw [z] at this
      · exact this
      · exact this.symm
  obtain ⟨v, hv, _, rfl⟩ := shN_on (w := w) l2 (by omega)
  have h0 : shN A.length B.length 0 = 0 := by unfold shN; rw [if_pos (by omega)]
  have k := key v hv
  rw [h0] at k
  exact k
end Tw
set_option Elab.async false
set_option linter.all false
set_option maxRecDepth 100000
set_option maxHeartbeats 4000000
namespace Tw
open PySem PySem.Spec L2 TL
open PyProof.Rows hiding St
variable {rows : RowsT}
theorem loop_hang (two : Twice rows) {t : Str} (h : HangN rows) (hl : (prT rows t).1 = (prT rows t).2) : HangN (less1 rows t) := (less_hangN two t).mpr fun f hf => h f fun u hu => by
  by_cases q : u = t
  · rw [q, hl]
  · exact hf u hu q
/-- a tie of which no row has two ends has two rows -/
theorem hold_or (two : Twice rows) {t : Str} (ht : t ∈ ties rows) : ((prT rows t).1 = (prT rows t).2 ∧ ∃ x ∈ rows, x.2.count t = 2) ∨ ((prT rows t).1 ≠ (prT rows t).2 ∧ (∀ x ∈ rows, x.2.count t ≠ 2) ∧ ∃ s g, rows.filter (fun x => decide (t ∈ x.2)) = [s, g]) := by
  obtain ⟨h1, h2⟩ := prT_lt two ht
  by_cases q : (prT rows t).1 = (prT rows t).2
  · left
    refine ⟨q, rows[(prT rows t).1], List.getElem_mem h1, ?_⟩
    have := prT_cnt two ht h1
    rw [if_pos rfl, if_pos q.symm, row_some (List.getElem?_eq_getElem h1)] at this
    exact this
  · right
    refine ⟨q, fun x hx z => ?_, ?_⟩
    · obtain ⟨v, hv, gv, _⟩ := mem_pnm hx
      have := prT_cnt two ht hv
      rw [row_some gv, z] at this
      by_cases a : (prT rows t).1 = v
      · rw [if_pos a, if_neg (fun w => q (a.trans w.symm))] at this; omega
      · rw [if_neg a] at this
        by_cases b : (prT rows t).2 = v
        · rw [if_pos b] at this; omega
        · rw [if_neg b] at this; omega
    · rcases held_or two ht with ⟨s, hs⟩ | h
      · exfalso
        obtain ⟨r1, r2⟩ := prT_row two ht
        have g1 := List.getElem?_eq_getElem h1
        have g2 := List.getElem?_eq_getElem h2
        rw [row_some g1] at r1
        rw [row_some g2] at r2
        -- both rows are in the list, at two places
        have two_le : 2 ≤ (rows.filter fun x => decide (t ∈ x.2)).length := by
          rw [flt_idx, List.length_map]
          have nd2 : [(prT rows t).1, (prT rows t).2].Nodup := by simp [q]
          have := nodup_le nd2 (l := (List.range rows.length).filter fun k => decide (t ∈ (rows.getD k ("", [])).2)) fun k hk => by
            rw [List.mem_filter, List.mem_range]
            rcases List.mem_cons.mp hk with z | z
            · rw [z]; exact ⟨h1, decide_eq_true (by simpa [h1] using r1)⟩
            · rw [List.mem_singleton.mp z]; exact ⟨h2, decide_eq_true (by simpa [h2] using r2)⟩
          exact this
        rw [hs] at two_le
        simp at two_le
      · exact h
end Tw
set_option Elab.async false
set_option linter.all false
set_option maxRecDepth 100000
set_option maxHeartbeats 4000000
namespace Tw
open PySem PySem.Spec L2 TL
open PyProof.Rows hiding St
abbrev n__law_sort : List Str := ["_law_rows", "_law_tie", "_law_point", "_law_row"]
noncomputable def F__law_sort (p0 : (List (Str × (List Str)))) (p1 : Str) : M Str :=
  (M.b (M.forR (fun (s1 : Unit) (x2 : (Str × (List Str))) => (M.b (M.ok (decide (((x2.2.count p1 : Nat) : Int) = (2 : Int)))) fun x3 => (if x3 = true then (M.ok (.inr (Str.ofString "loop"))) else (M.ok (.inl ()))))) p0 ()) (M.orR fun s4 => (M.b (M.b (M.cl (F__law_out p0 p1)) fun x5 => (M.cl (F__law_hangs x5))) fun x6 => (if x6 = true then (M.ok (Str.ofString "free")) else (M.ok (Str.ofString "bridge"))))))
def sp__law_sort (G : Gb) : Sp := spA G (fun (p : (List (Str × (List Str))) × Str) => [.bw (p.1), .fz (p.2)]) (rpF G) (fun (p : (List (Str × (List Str))) × Str) => F__law_sort (p.1) (p.2))
def t__law_sort (G : Gb) : TS :=
  (tSeq (tFor (iList G.K (tVar 0)) (gTup G.K 2 (gCons (gName 2) (gCons (gName 3) gNil)))
  (tIfS (tTest (tOp rEq (tBM G.K "list" (rCntS G.K) (tVar 3) (tCons (tVar 1) tNil)) (tC (.int 2))))
  (tRet (tC (.str "loop")))
  tNext))
  (tSeq (tIfS (tB (tCall (sp__law_hangs G) [] E0 (tCons (tCall (sp__law_out G) [] E0 (tCons (tVar 0) (tCons (tVar 1) tNil))) tNil)))
  (tRet (tC (.str "free")))
  tNext)
  (tRet (tC (.str "bridge")))))
theorem len__law_sort {G : Gb} (vs : List V) (H : Hp) (Q : VK) (E : XK) (h : sp__law_sort G vs H Q E) : vs.length = 2 := spA_len h fun _ => rfl
theorem rn__law_sort {G : Gb} {B : Hp} {E : XK} (p0 : (List (Str × (List Str)))) (p1 : Str) : Run G B E (oR G B (rpF G)) [some (.bw p0), some (.fz p1), none, none] (t__law_sort G) (F__law_sort p0 p1) := by
  have h : Run G B E (oR G B (rpF G)) [some (.bw p0), some (.fz p1), none, none] (t__law_sort G) _ := (run_seqR (EX := fun (s : Unit) => [some (.bw p0), some (.fz p1), none, none]) (run_forR (bind := fun (x : (Str × (List Str))) (r : Evr) => ((r.set 2 (some (.fz x.1))).set 3 (some (.bw x.2)))) (s0 := ()) (ew_B (ev_bw rfl) (tg_pair tg_S tg_B)) (.keep (.keep (.drop (.drop Wk.nil)))) (fun s1 x2 => (run_if (evT_T (ev_eq (mr := .F) (ev_lcount (mr := .F) (ev_bw rfl) (ev_fz rfl)) (ev_int (md := .F)))) (run_retC (ev_str (md := .F))) (run_nextC (s := ()) (.keep (.keep (.drop (.drop Wk.nil)))))))) (fun s4 => (run_ifS (evT_B (ev_call1 (f := F__law_hangs) (EvN.H (en_call2 (f := F__law_out) (ev_bw rfl) ps_B (ev_fz rfl) ps_F)) ps_B)) (run_cutR (run_ret (ev_str (md := .F)))) (run_skip (run_ret (ev_str (md := .F)))))))
  exact h
theorem run__law_sort {G : Gb} {vs : List V} {H : Hp} {Q : VK} {E : XK} (h : sp__law_sort G vs H Q E) : t__law_sort G (dEnd Q) (start n__law_sort vs) H := spA_run (n := 2) h (fun _ => rfl) fun p B => rn__law_sort (p.1) (p.2)
end Tw
set_option Elab.async false
set_option linter.all false
set_option maxRecDepth 100000
set_option maxHeartbeats 4000000
namespace Tw
open PySem PySem.Spec L2 TL
open PyProof.Rows hiding St
section
variable {prog : Program} {w : World} {A : Around}
theorem rc_ls {s : Shared} {v u : Value} {xs ys : List Str} {Q E : Value → Shared → Prop} (hu : A.units < cLine) (hv : IsLs s.heap v xs) (hw : IsLs s.heap u ys) (h : Q (.bool (ltLS xs ys)) s) :
    wpAny (model prog w) A (richCompare .Lt v u) Q E s := by
  obtain ⟨a, its, n, rfl, ga, ra⟩ := hv
  obtain ⟨b, its2, n2, rfl, gb, rb⟩ := hw
  have l1 : its.length = xs.length := by have := ra.length; rw [List.length_map] at this; exact this.symm
  have l2 : its2.length = ys.length := by have := rb.length; rw [List.length_map] at this; exact this.symm
  have z : PySem.SeqAt.RcLt A s (.ref a) (.ref b) _ := PySem.SeqAt.RcLt.lists (items := its.toArray) (items2 := its2.toArray) (e := fun j => xs.getD j default == ys.getD j default) (r := fun j => decide (tl (xs.getD j default) < tl (ys.getD j default))) ⟨_, ga, rfl, _, rfl⟩ ⟨_, gb, rfl, _, rfl⟩ hu (fun j j1 j2 => ?_) (fun j j1 j2 hj => ?_)
  · refine z prog w E Q ?_
    have := firstLt_ls xs ys
    rw [← l1, ← l2] at this
    rw [show (its.toArray).size = its.length by simp, show (its2.toArray).size = its2.length by simp, this]
    exact h
  · obtain ⟨t1, e1⟩ := vals_str_at ra (j := j) (by simpa using j1)
    obtain ⟨t2, e2⟩ := vals_str_at rb (j := j) (by simpa using j2)
    have z1 : its.toArray[j] = its[j]'(by simpa using j1) := by simp
    have z2 : its2.toArray[j] = its2[j]'(by simpa using j2) := by simp
    rw [z1, z2, e1, e2]
    exact PySem.SeqAt.EqAt.str_str _ _ _ _
  · obtain ⟨t1, e1⟩ := vals_str_at ra (j := j) (by simpa using j1)
    obtain ⟨t2, e2⟩ := vals_str_at rb (j := j) (by simpa using j2)
    have z1 : its.toArray[j] = its[j]'(by simpa using j1) := by simp
    have z2 : its2.toArray[j] = its2[j]'(by simpa using j2) := by simp
    rw [z1, z2, e1, e2]
    intro prog' w' E' Q' hq
    exact DT.rcLt_str _ _ _ _ _ _ prog' w' E' Q' hq
/-- the walk over the lists stands ahead of place i -/
structure MinAt (k : Value → List Str) (xs : List Value) (it l : Addr) (i : Nat) (h : Heap) : Prop where
  at' : h.IsListIter it l i
  ls : h.IsList l xs.toArray
  el : ∀ v ∈ xs, IsLs h v (k v)
theorem MinAt.same {k : Value → List Str} {xs : List Value} {it l : Addr} {i : Nat} {h h' : Heap} (x : MinAt k xs it l i h) (q : ∀ b, (b = it ∨ b = l ∨ .ref b ∈ xs) → ∀ o, h.get? b = some o → h'.get? b = some o) : MinAt k xs it l i h' :=
  ⟨x.at'.at (q it (.inl rfl)), let ⟨o, g, r⟩ := x.ls; ⟨o, q l (.inr (.inl rfl)) o g, r⟩, fun v hv => (x.el v hv).keeps fun b o e g => q b (.inr (.inr (e ▸ hv))) o g⟩
theorem min_go {R : Result → Shared → Prop} (calm : A.handled = none) (hu : A.in1.units < cLine) {k : Value → List Str} {xs : List Value} {it l S : Addr} (n1 : l ≠ it) (n2 : S ≠ it) (n3 : S ≠ l) (n4 : ∀ v ∈ xs, v ≠ .ref it ∧ v ≠ .ref S) :
    ∀ (m j : Nat) (s : Shared) (vb : Value) (c : Nat), xs.length - j = m → j ≤ xs.length → MinAt k xs it l j s.heap → s.heap.get? S = some (seqObj "list" #[vb, vb] c) → vb ∈ xs → (∀ v ∈ xs.take j, ltLS (k v) (k vb) = false) →
    (∀ v h' tk, v ∈ xs → (∀ u ∈ xs, ltLS (k u) (k v) = false) → (∀ b o, b ≠ it → b ≠ S → s.heap.get? b = some o → h'.get? b = some o) → R (.ok (.ret v)) { s with heap := h', toks := tk }) →
    codeAny (model prog w) A (.builtin "min.loop" ⟨[.ref it, .none, .ref S], []⟩) R s := by
  have nm : (toString "min" ++ toString ".loop" : String) = "min.loop" := by decide
  have wk := fun (xs : Array Value) => Walks.list (prog := prog) (w := w) (A := A.in1) calm it l n1 xs
  intro m
  induction m with
  | zero =>
    intro j s vb c hm hj st gS mb best cont
    have ej : j = xs.length := by omega
    subst ej
    refine codeAny_builtin PySem.F.entry_min_loop ?_
    rw [Around.under_plainId PySem.F.plain_min_loop _]
    show wpAny _ A.in1 (seqItems? (.ref S) >>= fun _ => _) _ _ s
    refine wpAny_bind (wpAny_seqItems gS rfl ?_)
    show wpAny _ A.in1 (tryCatch (pyNext (.ref it)) (fun _ => _) >>= fun _ => _) _ _ s
    refine wpAny_bind (wpAny_tryCatch ((wk xs.toArray).done s _ _ ⟨by simpa using st.at', st.ls⟩ fun h' tk kp => ?_))
    have gS' := kp S _ (by simpa using n2) gS
    show wpAny _ A.in1 (updateSeq S (fun _ => #[]) >>= fun _ => _) _ _ { s with heap := h', toks := tk }
    refine wpAny_bind (wpAny_updateSeq gS' rfl (wpAny_bind (wpAny_letGo (wpAny_pure ?_))))
    refine cont vb _ tk mb (fun u hu => best u (by rw [List.take_length]; exact hu)) fun b o b1 b2 e => (Heap.get?_update_other _ _ (Ne.symm b2)).trans (kp b o (by simpa using b1) e)
  | succ m ih =>
    intro j s vb c hm hj st gS mb best cont
    have lt : j < xs.length := by omega
    refine codeAny_builtin PySem.F.entry_min_loop ?_
    rw [Around.under_plainId PySem.F.plain_min_loop _]
    show wpAny _ A.in1 (seqItems? (.ref S) >>= fun _ => _) _ _ s
    refine wpAny_bind (wpAny_seqItems gS rfl ?_)
    show wpAny _ A.in1 (tryCatch (pyNext (.ref it)) (fun _ => _) >>= fun _ => _) _ _ s
    refine wpAny_bind (wpAny_tryCatch ((wk xs.toArray).item j s _ _ (by simpa using lt) ⟨st.at', st.ls⟩ fun v h' tk hv st' kp => ?_))
    have hv' : xs[j]? = some v := by simpa using hv
    have mv : v ∈ xs := List.mem_of_getElem? hv'
    have gS' := kp S _ (by simpa using n2) gS
    have st2 : MinAt k xs it l (j + 1) h' := ⟨st'.1, st'.2, fun u hu => (st.el u hu).keeps fun b o e g => kp b o (by
      have := (n4 u hu).1
      rw [e] at this
      simpa using this) g⟩
    have tk1 : xs.take (j + 1) = xs.take j ++ [v] := by rw [List.take_add_one, hv']; rfl
    show wpAny _ A.in1 (tryCatch (holding [v, v] (richCompare .Lt v vb >>= fun _ => _)) (fun _ => _) >>= fun _ => _) _ _ { s with heap := h', toks := tk }
    refine wpAny_bind (wpAny_tryCatch (wpAny_holding (wpAny_bind (rc_ls hu (st2.el v mv) (st2.el vb mb) ?_))))
    refine wpAny_bind (wpAny_holding (wpAny_truthy_bool ?_))
    refine wpAny_bind (wpAny_letGo (wpAny_pure ?_))
    cases hb : ltLS (k v) (k vb) with
    | true =>
      rw [if_pos rfl]
      refine wpAny_bind (wpAny_updateSeq gS' rfl (wpAny_bind (wpAny_letGo ?_)))
      rw [nm]
      refine wpAny_pure ⟨plainId_quiet PySem.F.plain_min_loop _, ih (j + 1) _ v _ (by omega) lt (st2.same fun b hb o g => ?_) (Heap.get?_update_self _ gS' rfl) mv (fun u hu => ?_) fun v' h'' tk'' a b cc => ?_⟩
      · refine (Heap.get?_update_other _ _ ?_).trans g
        rcases hb with rfl | rfl | hb
        · exact n2
        · exact n3
        · exact fun z => (n4 _ hb).2 (by rw [z])
      · rw [tk1] at hu
        rcases List.mem_append.mp hu with hu | hu
        · exact ltLS_tr _ _ _ (ltLS_asym _ _ hb) (best u hu)
        · rw [List.mem_singleton.mp hu]
          cases z : ltLS (k v) (k v) with
          | false => rfl
          | true => rw [ltLS_asym _ _ z] at z; exact z.symm
      · exact cont v' h'' tk'' a b fun b o b1 b2 e => cc b o b1 b2 ((Heap.get?_update_other _ _ (Ne.symm b2)).trans (kp b o (by simpa using b1) e))
    | false =>
      rw [if_neg Bool.false_ne_true]
      refine wpAny_bind (wpAny_letGo ?_)
      rw [nm]
      refine wpAny_pure ⟨plainId_quiet PySem.F.plain_min_loop _, ih (j + 1) _ vb c (by omega) lt st2 gS' mb (fun u hu => ?_) fun v' h'' tk'' a b cc => ?_⟩
      · rw [tk1] at hu
        rcases List.mem_append.mp hu with hu | hu
        · exact best u hu
        · rw [List.mem_singleton.mp hu]; exact hb
      · exact cont v' h'' tk'' a b fun b o b1 b2 e => cc b o b1 b2 (kp b o (by simpa using b1) e)
theorem min_one {R : Result → Shared → Prop} (calm : A.handled = none) (hu : A.in1.units < cLine) {k : Value → List Str} {xs : List Value} {it l S : Addr} (n1 : l ≠ it) (n2 : S ≠ it) (n3 : S ≠ l) (n4 : ∀ v ∈ xs, v ≠ .ref it ∧ v ≠ .ref S) (ne : 0 < xs.length)
    {s : Shared} {c : Nat} (st : MinAt k xs it l 0 s.heap) (gS : s.heap.get? S = some (seqObj "list" #[] c))
    (cont : ∀ v h' tk, v ∈ xs → (∀ u ∈ xs, ltLS (k u) (k v) = false) → (∀ b o, b ≠ it → b ≠ S → s.heap.get? b = some o → h'.get? b = some o) → R (.ok (.ret v)) { s with heap := h', toks := tk }) :
    codeAny (model prog w) A (.builtin "min.loop" ⟨[.ref it, .none, .ref S], []⟩) R s := by
  have nm : (toString "min" ++ toString ".loop" : String) = "min.loop" := by decide
  refine codeAny_builtin PySem.F.entry_min_loop ?_
  rw [Around.under_plainId PySem.F.plain_min_loop _]
  show wpAny _ A.in1 (seqItems? (.ref S) >>= fun _ => _) _ _ s
  refine wpAny_bind (wpAny_seqItems gS rfl ?_)
  show wpAny _ A.in1 (tryCatch (pyNext (.ref it)) (fun _ => _) >>= fun _ => _) _ _ s
  refine wpAny_bind (wpAny_tryCatch ((Walks.list (prog := prog) (w := w) (A := A.in1) calm it l n1 xs.toArray).item 0 s _ _ (by simpa using ne) ⟨st.at', st.ls⟩ fun v h' tk hv st' kp => ?_))
  have hv' : xs[0]? = some v := by simpa using hv
  have mv : v ∈ xs := List.mem_of_getElem? hv'
  have gS' := kp S _ (by simpa using n2) gS
  have st2 : MinAt k xs it l 1 h' := ⟨st'.1, st'.2, fun u hu => (st.el u hu).keeps fun b o e g => kp b o (by
    have := (n4 u hu).1
    rw [e] at this
    simpa using this) g⟩
  show wpAny _ A.in1 (updateSeq S (fun _ => #[v, v]) >>= fun _ => _) _ _ { s with heap := h', toks := tk }
  refine wpAny_bind (wpAny_updateSeq gS' rfl ?_)
  rw [nm]
  refine wpAny_pure ⟨plainId_quiet PySem.F.plain_min_loop _, min_go calm hu n1 n2 n3 n4 _ 1 _ v _ rfl ne (st2.same fun b hb o g => ?_) (Heap.get?_update_self _ gS' rfl) mv (fun u hu => ?_) fun v' h'' tk'' a b cc => ?_⟩
  · refine (Heap.get?_update_other _ _ ?_).trans g
    rcases hb with rfl | rfl | hb
    · exact n2
    · exact n3
    · exact fun z => (n4 _ hb).2 (by rw [z])
  · have : u = v := by
      rw [show xs.take 1 = [v] by rw [List.take_one]; rw [List.head?_eq_getElem?, hv']; rfl] at hu
      exact List.mem_singleton.mp hu
    rw [this]
    cases z : ltLS (k v) (k v) with
    | false => rfl
    | true => rw [ltLS_asym _ _ z] at z; exact z.symm
  · exact cont v' h'' tk'' a b fun b o b1 b2 e => cc b o b1 b2 ((Heap.get?_update_other _ _ (Ne.symm b2)).trans (kp b o (by simpa using b1) e))
theorem call_minLs {s : Shared} {Q E : Value → Shared → Prop} (calm : A.handled = none) (hu : A.in1.units < cLine) {k : Value → List Str} {xs : List Value} {l : Addr} (hl : s.heap.IsList l xs.toArray) (he : ∀ v ∈ xs, IsLs s.heap v (k v)) (ne : 0 < xs.length)
    (h : ∀ v h' tk, v ∈ xs → (∀ u ∈ xs, ltLS (k u) (k v) = false) → (∀ b o, s.heap.get? b = some o → h'.get? b = some o) → Q v { s with heap := h', toks := tk }) :
    wpAny (model prog w) A (call (.builtin "min") [.ref l]) Q E s := by
  have nm : (toString "min" ++ toString ".loop" : String) = "min.loop" := by decide
  have ll : l < s.heap.objs.size := by obtain ⟨_, e, _⟩ := hl; exact Heap.lt_size e
  have lv : ∀ v ∈ xs, ∀ b, v = .ref b → b < s.heap.objs.size := fun v hv b e => by
    obtain ⟨a, _, _, e2, g, _⟩ := he v hv
    rw [e] at e2
    cases e2
    exact Heap.lt_size g
  refine call_function_tree PySem.F.kind_min PySem.F.plain_min PySem.F.entry_min (PySem.F.args_min1 _) ?_
  show wpAny _ A.in1 (Builtin.Builtins.bindParams "min" ["key", "default"] 0 ⟨[], []⟩ >>= fun _ => _) _ _ s
  refine wpAny_bind (wpAny_of_eq (show Builtin.Builtins.bindParams "min" ["key", "default"] 0 ⟨[], []⟩ = Pure.pure [none, none] from rfl) (wpAny_bind (wpAny_pure (wpAny_bind (wpAny_pyIter_list hl ?_)))))
  refine wpAny_bind (wpAny_newObj_type ?_)
  rw [nm]
  have up := fun (b : Addr) (o : Obj) (z : s.heap.get? b = some o) => Heap.get?_push_of_some (h := s.heap.push { cls := .type "list_iterator", data := .fields #[.ref l, .int 0 0] }) (a := b) { cls := .type "list", data := .seq #[] } (Heap.get?_push_of_some (h := s.heap) { cls := .type "list_iterator", data := .fields #[.ref l, .int 0 0] } z)
  have sz := Heap.size_push s.heap { cls := .type "list_iterator", data := .fields #[.ref l, .int 0 0] }
  refine wpAny_pure ⟨plainId_quiet PySem.F.plain_min_loop _, min_one (A := A) (it := s.heap.objs.size) (S := (s.heap.push { cls := .type "list_iterator", data := .fields #[.ref l, .int 0 0] }).objs.size) (l := l) calm hu (Nat.ne_of_lt ll) ?_ ?_ (fun v hv => ⟨fun z => ?_, fun z => ?_⟩) ne ⟨⟨_, Heap.get?_push_of_some _ (Heap.get?_push_size _ rfl), rfl, rfl⟩, (hl.push _).push _, fun v hv => (he v hv).keeps fun b o _ g => up b o g⟩ (Heap.get?_push_size _ rfl) fun v h' tk a b kp => ?_⟩
  · exact fun z => absurd (sz.symm.trans z) (Nat.succ_ne_self _)
  · rw [sz]; exact Nat.ne_of_gt (Nat.lt_succ_of_lt ll)
  · exact absurd (lv v hv _ z) (Nat.lt_irrefl _)
  · have := lv v hv _ z
    rw [sz] at this
    exact absurd this (Nat.not_lt.mpr (Nat.le_succ _))
  · refine h v h' tk a b fun b o e => ?_
    have lb : b < s.heap.objs.size := Heap.lt_size e
    exact kp b o (Nat.ne_of_lt lb) (fun z => by rw [sz] at z; exact absurd lb (by rw [z]; exact Nat.not_lt.mpr (Nat.le_succ _))) (up b o e)
end
/-- min(xs), xs a list of lists of texts (k says which) -/
def rMinLs (K : PySem.W.Frag) : List V → Hp → VK → Prop := fun vs H Q => ∃ (a : Addr) (xs : List V) (k : V → List Str), vs = [V.ref a] ∧ SqL K H a xs ∧ (∀ x ∈ xs, ∃ t, x = V.ref t ∧ H t = some (.lst ((k x).map V.str))) ∧ 0 < xs.length ∧
  ∀ x ∈ xs, (∀ y ∈ xs, ltLS (k y) (k x) = false) → Q x H
section
variable {X : Cx}
theorem cr_minLs (hc : X.calm = true) (hu : X.A.units + 64 < cLine) : CallR X (.builtin "min") (rMinLs X.K) := by
  intro pins s σ H vs us Q I r h
  obtain ⟨a, xs, k, rfl, hs, hx, ne, q⟩ := h
  obtain rfl := Vals.ref1 r
  obtain ⟨its, rv, hl, hz⟩ := I.list hs
  obtain ⟨e1, e2⟩ := refs_back rv fun x m => by
    obtain ⟨t, e, _⟩ := hx x m
    exact ⟨t, e⟩
  have hp : ∀ v ∈ its, IsLs s.heap v (k (backV v)) := fun v hv => by
    obtain ⟨t, rfl⟩ := e2 v hv
    have hm : V.ref t ∈ xs := by rw [e1]; exact List.mem_map.mpr ⟨_, hv, rfl⟩
    obtain ⟨t', e, ht⟩ := hx _ hm
    cases e
    obtain ⟨_, its2, n, r2, ho⟩ := I.hok _ _ ht
    exact ⟨t, its2, n, rfl, ho, r2⟩
  refine call_minLs (I.ok.hd hc) (by have h : X.A.in1.units = X.A.units + 1 := rfl; omega) hl.isList hp (by rw [← rv.length]; exact ne) fun v h' tk m1 m2 kp => ⟨backV v, H, I.kept kp, ?_, q _ (by rw [e1]; exact List.mem_map.mpr ⟨_, m1, rfl⟩) fun y hy => ?_⟩
  · obtain ⟨t, rfl⟩ := e2 v m1
    rfl
  · rw [e1] at hy
    obtain ⟨u, hu, rfl⟩ := List.mem_map.mp hy
    exact m2 u hu
end
def minLs : List (List Str) → List Str
  | [] => []
  | x :: r => r.foldl (fun b y => if ltLS y b = true then y else b) x
theorem ltLS_self (x : List Str) : ltLS x x = false := by
  cases z : ltLS x x with
  | false => rfl
  | true => rw [ltLS_asym _ _ z] at z; exact z.symm
theorem minLs_foldl : ∀ (r : List (List Str)) (x : List Str), (r.foldl (fun b y => if ltLS y b = true then y else b) x ∈ x :: r) ∧ ∀ y ∈ x :: r, ltLS y (r.foldl (fun b y => if ltLS y b = true then y else b) x) = false
  | [], x => ⟨List.mem_cons_self, fun y hy => by rw [List.mem_singleton.mp hy]; exact ltLS_self x⟩
  | z :: r, x => by
    rw [List.foldl_cons]
    by_cases h : ltLS z x = true
    · rw [if_pos h]
      obtain ⟨a, b⟩ := minLs_foldl r z
      refine ⟨List.mem_cons_of_mem _ a, fun y hy => ?_⟩
      rcases List.mem_cons.mp hy with rfl | hy
      · exact ltLS_tr _ _ _ (b z List.mem_cons_self) (ltLS_asym _ _ h)
      · exact b y hy
    · rw [if_neg h]
      obtain ⟨a, b⟩ := minLs_foldl r x
      refine ⟨?_, fun y hy => ?_⟩
      · rcases List.mem_cons.mp a with a | a
        · rw [a]; exact List.mem_cons_self
        · exact List.mem_cons_of_mem _ (List.mem_cons_of_mem _ a)
      · rcases List.mem_cons.mp hy with rfl | hy
        · exact b y List.mem_cons_self
        · rcases List.mem_cons.mp hy with rfl | hy
          · exact ltLS_tr _ _ _ (b x List.mem_cons_self) (Bool.eq_false_iff.mpr h)
          · exact b y (List.mem_cons_of_mem _ hy)
theorem minLs_mem {l : List (List Str)} (h : 0 < l.length) : minLs l ∈ l := by
  cases l with
  | nil => cases h
  | cons x r => exact (minLs_foldl r x).1
theorem minLs_le {l : List (List Str)} {y : List Str} (h : y ∈ l) : ltLS y (minLs l) = false := by
  cases l with
  | nil => cases h
  | cons x r => exact (minLs_foldl r x).2 y h
theorem minLs_uniq {l : List (List Str)} {x : List Str} (m : x ∈ l) (h : ∀ y ∈ l, ltLS y x = false) : x = minLs l :=
  ltLS_eq (minLs_le m) (h _ (minLs_mem (List.length_pos_of_mem m)))
theorem minLs_congr {l m : List (List Str)} (h : ∀ x, x ∈ l ↔ x ∈ m) : minLs l = minLs m := by
  cases l with
  | nil =>
    cases m with
    | nil => rfl
    | cons y r => exact absurd ((h y).mpr List.mem_cons_self) (by simp)
  | cons x r => exact minLs_uniq ((h _).mp (minLs_mem (Nat.succ_pos _))) fun y hy => minLs_le ((h y).mpr hy)
section
variable {G : Gb} {B : Hp} {E : XK} {ρ : Evr} {te : TE}
theorem ev_minLs {m : M (List (List Str))} (h : EvS G B E ρ te m) : Ev G B E .F ρ (tCB (rMinLs G.K) (tCons te tNil)) (m.b fun l => .chk (0 < l.length) (.ok (minLs l))) := fun F0 F σ H Q R q =>
  h.go R q fun l F1 p vs H1 e1 h1 h2 R1 q => by
    obtain ⟨c, q⟩ := M.P_chk.mp q
    obtain ⟨k, k1, k2⟩ := ls_key h2
    refine ⟨p, vs, k, rfl, .of h1, fun v hv => ?_, by rw [← k2, List.length_map] at c; exact c, fun x hx hm => ?_⟩
    · obtain ⟨t, e, ht⟩ := k1 v hv
      exact ⟨t, e, R1.sF _ _ ht⟩
    · have e : k x = minLs l := minLs_uniq (by rw [← k2]; exact List.mem_map.mpr ⟨_, hx, rfl⟩) fun y hy => by
        rw [← k2] at hy
        obtain ⟨v, hv, rfl⟩ := List.mem_map.mp hy
        exact hm v hv
      refine q F1 x H1 e1 R1.sF ?_
      obtain ⟨t, e2, ht⟩ := k1 x hx
      rw [← e]
      exact ⟨t, _, e2, ht, str_reps _⟩
end
end Tw
set_option Elab.async false
set_option linter.all false
set_option maxRecDepth 100000
set_option maxHeartbeats 4000000
namespace Tw
open PySem PySem.Spec L2 TL
open PyProof.Rows hiding St
section
variable {G : Gb} {B : Hp} {E : XK} {ρ : Evr} {Ω S R : Type}
def tTryM2 (K : PySem.W.Frag) (c d : Value) (tb : XK → TS) (ts us : Addr → Value → Option Addr → TS) : TS := fun D σ H => tb (L2.WE (wMany K (fun _ _ _ _ => False) D [(c, ts), (d, us)]) σ) D σ H
abbrev tTryOn2 (G : Gb) (T U : Str) (tb : XK → TS) (ts us : Addr → Value → Option Addr → TS) : TS := tTryM2 G.K (.ref (G.cl T)) (.ref (G.cl U)) tb ts us
theorem ps_tryOn2 {X : Cx} {x y : Str} {c d : Value} {body suite suite2 : List Stmt} {b₀ b₁ : Stmt} {np np2 pos pos' pos2 : Pos} {tb : XK → TS} {ts us : Addr → Value → Option Addr → TS} (hs : X.stack = X.env :: X.outer) (hf : X.env.frame = some X.env.locals) (hc : Names X x c) (hd : Names X y d)
    (hb : ∀ (W : WX) (pn : List (Addr × Obj)) (xe : Value → Shared → Prop), L2N.Takes (X.tr pn xe) W → PassesOwn (model X.prog X.w) X.A X.env xe → PSs (X.tr pn xe) body (fun D σ H => tb (L2.WE W σ) D σ H))
    (hsu : ∀ (a : Addr) (oe : Obj) (cls : Value) (d : Option Addr) (pn : List (Addr × Obj)), L2N.Zn cls d oe → (∃ vs, oe.data = .fields vs) → PSs (X.suite a ((a, oe) :: pn)) (b₀ :: suite) (ts a cls d))
    (hsv : ∀ (a : Addr) (oe : Obj) (cls : Value) (d : Option Addr) (pn : List (Addr × Obj)), L2N.Zn cls d oe → (∃ vs, oe.data = .fields vs) → PSs (X.suite a ((a, oe) :: pn)) (b₁ :: suite2) (us a cls d)) :
    PS X (.Try body [.ExceptHandler (some (.Name x np)) none (b₀ :: suite) pos', .ExceptHandler (some (.Name y np2)) none (b₁ :: suite2) pos2] [] [] pos) (tTryM2 X.K c d tb ts us) := L2N.ps_try_many (tb := fun W D σ H => tb (L2.WE W σ) D σ H) hs hf takesN hb (.cons hc hsu (.cons hd hsv .nil))
theorem run_tryOn2 {post : Hp → Hp → Ω → Ends → Prop} {cs ts' : List Str} [X : ExF G cs ts'] {T U : Str} {tb : XK → TS} {ts us : Addr → Value → Option Addr → TS} {mb : M Ω} {ms ns : Str → M Ω} (hT : T ∈ ts') (hU : U ∈ ts') (hg : GndU G post) (hz : ρ.all isFz = true)
    (hb : ∀ B E, Run G B E (post B) ρ (tb E) mb) (hs : ∀ a c, Run G B E (post B) ρ (ts a (.ref (G.cl c)) none) (ms c)) (hu : ∀ a c, Run G B E (post B) ρ (us a (.ref (G.cl c)) none) (ns c)) :
    Run G B E (post B) ρ (tTryOn2 G T U tb ts us) (mb.tr fun c => M.chk (c ∈ cs) (if excIs c T = true then ms c else M.chk (excIs c U = true) (ns c))) := fun F0 F σ H D R q => by
  refine hb H _ F F σ H D (R.calmH hz) ((M.P_tr.mp q).imp (fun ω k => hg R k) fun c k H' sH => ?_)
  obtain ⟨c1, k⟩ := M.P_chk.mp k
  have R1 := R.ext ⟨.refl _, sH, fun a h q => absurd h q⟩ (R.sF.trans sH)
  refine ⟨excIs c T, X.exm c c1 T hT, fun z a ha => ?_, fun z => ?_⟩
  · rw [if_pos z] at k
    exact hs a c F0 F _ H' _ R1 k
  · rw [if_neg (by rw [z]; exact Bool.false_ne_true)] at k
    obtain ⟨c2, k⟩ := M.P_chk.mp k
    exact ⟨true, by rw [X.exm c c1 U hU, c2], fun _ a ha => hu a c F0 F _ H' _ R1 k, fun z => nomatch z⟩
end
end Tw
set_option Elab.async false
set_option linter.all false
set_option maxRecDepth 100000
set_option maxHeartbeats 4000000
namespace Tw
open PySem PySem.Spec L2 TL
open PyProof.Rows hiding St
abbrev XC : List Str := ["Bridge", "Loop"]
abbrev XT : List Str := ["Bridge", "Loop"]
abbrev n__law_canon : List Str := ["_law_rows", "_law_found", "_law_point", "_law_row", "_law_rounds", "_law_k"]
noncomputable def F__law_canon (p0 : (List (Str × (List Str)))) : M (List (List Str)) :=
  (M.b (M.ok ([] : (List (List Str)))) fun v1 => (M.b (M.for_ (fun (s2 : (List (List Str))) (x3 : (Str × (List Str))) => (M.b (M.b (M.chk (-(2 ^ 62) ≤ ((x3.2.length : Nat) : Int) ∧ ((x3.2.length : Nat) : Int) < 2 ^ 62) (M.ok (rng 0 ((x3.2.length : Nat) : Int)))) fun x5 => (M.chk (x5.length ≤ sizeLine) (M.lc (fun (y4 : Int) => (M.ok true)) (fun (y4 : Int) => (M.chk ((cutL x3.2 (some (y4)) none).length + (cutL x3.2 none (some (y4))).length ≤ sizeLine) (M.ok ((cutL x3.2 (some (y4)) none) ++ (cutL x3.2 none (some (y4))))))) x5))) fun v6 => (M.b (M.b (M.chk (Dd.Ok v6 ∧ Dd.Ok ([] : (List (List Str)))) (M.ok (decide (v6 = ([] : (List (List Str))))))) fun x11 => (if x11 = true then (M.b (M.chk ((([] : (List Str)) :: []).length ≤ sizeLine) (M.ok (([] : (List Str)) :: []))) fun v8 => (M.ok v8)) else (M.ok v6))) fun s9 => (M.b (M.chk (0 < s9.length) (M.ok (minLs s9))) fun a10 => M.chk (s2.length < sizeLine) (M.ok (s2 ++ [a10])))))) p0 v1) fun s12 => (M.ok (srtLs s12))))
def sp__law_canon (G : Gb) : Sp := spA G (fun (p : (List (Str × (List Str)))) => [.bw p]) (rpN G) (fun (p : (List (Str × (List Str)))) => F__law_canon p)
def t__law_canon (G : Gb) : TS :=
  (tSeq (tAsg (tLst tNil) (gName 1)) (tSeq (tFor (iList G.K (tVar 0)) (gTup G.K 2 (gCons (gName 2) (gCons (gName 3) gNil)))
  (tSeq (tAsg (tLc (iRng1 (tCons (tCB (qLenQ G.K) (tCons (tVar 3) tNil)) tNil)) (gName 5) tYes (tOp rCat (tSl (rSlL G.K) (tVar 3) (tPart (tVar 5)) tNoPart) (tSl (rSlL G.K) (tVar 3) tNoPart (tPart (tVar 5)))) [5]) (gName 4)) (tSeq (tIfS (tTest (tOp (rEqD G.K) (tVar 4) (tLst tNil)))
  (tAsg (tLst (tCons (tLst tNil) tNil)) (gName 4))
  tNext)
  (tDrop (tBM G.K "list" rAppend (tVar 1) (tCons (tCB (rMinLs G.K) (tCons (tVar 4) tNil)) tNil))))))
  (tRet (tCB (rSortedLs G.K) (tCons (tVar 1) tNil)))))
theorem len__law_canon {G : Gb} (vs : List V) (H : Hp) (Q : VK) (E : XK) (h : sp__law_canon G vs H Q E) : vs.length = 1 := spA_len h fun _ => rfl
theorem rn__law_canon {G : Gb} {B : Hp} {E : XK} (p0 : (List (Str × (List Str)))) : Run G B E (oR G B (rpN G)) [some (.bw p0), none, none, none, none, none] (t__law_canon G) (F__law_canon p0) := by
  have h : Run G B E (oR G B (rpN G)) [some (.bw p0), none, none, none, none, none] (t__law_canon G) _ := (run_asgN (en_nil (α := (List Str))) (fun v1 => (run_seq (EX := fun (s : (List (List Str))) => [some (.bw p0), some (.ow s), none, none, none, none]) (run_for (bind := fun (x : (Str × (List Str))) (r : Evr) => ((r.set 2 (some (.fz x.1))).set 3 (some (.bw x.2)))) (s0 := v1) (ew_B (ev_bw rfl) (tg_pair tg_S tg_B)) (.keep (.keep (.drop (.drop (.drop (.drop Wk.nil)))))) (fun s2 x3 => (run_asgN (en_lc (te := (tOp rCat (tSl (rSlL G.K) (tVar 3) (tPart (tVar 5)) tNoPart) (tSl (rSlL G.K) (tVar 3) tNoPart (tPart (tVar 5))))) (bind := fun (x : Int) (r : Evr) => (r.set 5 (some (.fz x)))) (ew_rng1 (ev_len (mr := .F) (ev_bw rfl)) tg_S) (fun y4 => evT_yes) (fun y4 => (EvN.F (en_cat (es_N (en_slice (es_sc (ev_bw rfl)) (eo_some (ev_fz rfl)) eo_none)) (es_N (en_slice (es_sc (ev_bw rfl)) eo_none (eo_some (ev_fz rfl)))))))) (fun v6 => (run_seq (EX := fun (s : (List (List Str))) => [some (.bw p0), some (.ow s2), some (.fz x3.1), some (.bw x3.2), some (.ow s), none]) (run_if (evT_T (ev_eqD (mr := .F) (by decide) (ev_ow rfl) (EvN.H (en_nil (α := (List Str)))))) (run_last (run_asgN (en_lst (el_cons (EvN.F (en_nil (α := Str))) (el_nil (α := (List Str))))) (fun v8 => (run_next (s := v8) (.keep (.keep (.keep (.keep (.keep (.drop Wk.nil)))))))))) (run_next (s := v6) (.keep (.keep (.keep (.keep (.keep (.drop Wk.nil)))))))) (fun s9 => (run_last (run_append rfl (ev_minLs (es_ow rfl)) (fun a10 => (run_next (s := (s2 ++ [a10])) (.keep (.keep (.drop (.drop (.drop (.drop Wk.nil)))))))))))))))) (fun s12 => (run_retN (en_sortLs (es_ow rfl)))))))
  exact h
theorem run__law_canon {G : Gb} {vs : List V} {H : Hp} {Q : VK} {E : XK} (h : sp__law_canon G vs H Q E) : t__law_canon G (dEnd Q) (start n__law_canon vs) H := spA_run (n := 5) h (fun _ => rfl) fun p B => rn__law_canon p
abbrev n__law_other_net : List Str := ["_law_rows", "_law_seats_here", "_law_met", "_law_made", "_law_r", "_law_place", "_law_face_here", "_law_end"]
noncomputable def F__law_other_net (p0 : (List (Str × (List Str)))) : M (List (Str × (List Str))) :=
  (M.b (M.cl (F__law_seats p0)) fun v1 => (M.b (M.ok (⟨[]⟩ : (Dt (Int × Int) Bool))) fun v2 => (M.b (M.ok ([] : (List (Str × (List Str))))) fun v3 => (M.b (M.b (M.chk (-(2 ^ 62) ≤ ((p0.length : Nat) : Int) ∧ ((p0.length : Nat) : Int) < 2 ^ 62) (M.ok (rng 0 ((p0.length : Nat) : Int)))) fun x26 => (M.for_ (fun (s4 : (List (Str × (List Str))) × (Dt (Int × Int) Bool)) (x5 : Int) => (M.b (M.b (M.b (M.b (M.b (M.get (atI p0 x5)) fun x6 => (M.ok x6.2)) fun x7 => (M.ok ((x7.length : Nat) : Int))) fun x8 => (M.chk (-(2 ^ 62) ≤ x8 ∧ x8 < 2 ^ 62) (M.ok (rng 0 x8)))) fun x24 => (M.for_ (fun (s9 : (List (Str × (List Str))) × (Dt (Int × Int) Bool)) (x10 : Int) => (if (!(dget s9.2.l (x5, x10)).isSome) = true then (M.b (M.cl (F__law_face p0 v1 (x5, x10))) fun v11 => (M.b (M.b (M.b (M.chk ((((s9.1.length : Nat) : Int)).natAbs.log2 < 1920) (M.ok (toString (((s9.1.length : Nat) : Int)) : Str))) fun x12 => (M.chk ((Str.ofString "q").length + x12.length ≤ sizeLine) (M.ok ((Str.ofString "q") ++ x12)))) fun x16 => (M.b (M.chk (v11.length ≤ sizeLine) (M.lc (fun (y13 : (Int × Int)) => (M.ok true)) (fun (y13 : (Int × Int)) => (M.b (M.b (M.get (atI p0 y13.1)) fun x14 => (M.ok x14.2)) fun x15 => (M.get (atI x15 y13.2)))) v11)) fun x17 => (M.ok (x16, x17)))) fun a18 => M.chk (s9.1.length < sizeLine) (M.b (M.for_ (fun (s19 : (Dt (Int × Int) Bool)) (x20 : (Int × Int)) => (M.b (M.ok true) fun a21 => M.b (M.ok x20) fun k22 => M.chk (s19.l.length < sizeLine) (M.ok (⟨dput s19.l k22 a21⟩ : (Dt (Int × Int) Bool))))) v11 s9.2) fun s23 => (M.ok ((s9.1 ++ [a18]), s23))))) else (M.ok (s9.1, s9.2)))) x24 (s4.1, s4.2))) fun s25 => (M.ok (s25.1, s25.2)))) x26 (v3, v2))) fun s27 => (M.b (M.chk (Dd.Ok s27.1 ∧ Dd.Ok ([] : (List (Str × (List Str))))) (M.ok (decide (s27.1 = ([] : (List (Str × (List Str)))))))) fun x28 => (if x28 = true then (M.chk ((((Str.ofString "q0"), ([] : (List Str))) :: []).length ≤ sizeLine) (M.ok (((Str.ofString "q0"), ([] : (List Str))) :: []))) else (M.ok s27.1)))))))
def sp__law_other_net (G : Gb) : Sp := spA G (fun (p : (List (Str × (List Str)))) => [.bw p]) (rpN G) (fun (p : (List (Str × (List Str)))) => F__law_other_net p)
def t__law_other_net (G : Gb) : TS :=
  (tSeq (tAsg (tCall (sp__law_seats G) [] E0 (tCons (tVar 0) tNil)) (gName 1)) (tSeq (tAsg tDNewT (gName 2)) (tSeq (tAsg (tLst tNil) (gName 3)) (tSeq (tFor (iRng1 (tCons (tCB (qLenQ G.K) (tCons (tVar 0) tNil)) tNil)) (gName 4)
  (tFor (iRng1 (tCons (tCB (qLenQ G.K) (tCons (tOp (rIxT G.K) (tOp (rIxL G.K) (tVar 0) (tVar 4)) (tC (.int 1))) tNil)) tNil)) (gName 5)
  (tIfS (tB (tDNotIn (tTup (tCons (tVar 4) (tCons (tVar 5) tNil))) (tVar 2)))
  (tSeq (tAsg (tCall (sp__law_face G) [] E0 (tCons (tVar 0) (tCons (tVar 1) (tCons (tTup (tCons (tVar 4) (tCons (tVar 5) tNil))) tNil)))) (gName 6)) (tSeq (tDrop (tBM G.K "list" rAppend (tVar 3) (tCons (tTup (tCons (tOp qCatS (tC (.str "q")) (tCB qStrI (tCons (tCB (qLenQ G.K) (tCons (tVar 3) tNil)) tNil))) (tCons (tLc (iList G.K (tVar 6)) (gName 7) tYes (tOp (rIxL G.K) (tOp (rIxT G.K) (tOp (rIxL G.K) (tVar 0) (tOp (rIxT G.K) (tVar 7) (tC (.int 0)))) (tC (.int 1))) (tOp (rIxT G.K) (tVar 7) (tC (.int 1)))) [7]) tNil))) tNil))) (tFor (iList G.K (tVar 6)) (gName 7)
  (sDPut (tVar 2) (tVar 7) (tC (.bl true))))))
  tNext)))
  (tSeq (tIfS (tTest (tOp (rEqD G.K) (tVar 3) (tLst tNil)))
  (tRet (tLst (tCons (tTup (tCons (tC (.str "q0")) (tCons (tLst tNil) tNil))) tNil)))
  tNext)
  (tRet (tVar 3)))))))
theorem len__law_other_net {G : Gb} (vs : List V) (H : Hp) (Q : VK) (E : XK) (h : sp__law_other_net G vs H Q E) : vs.length = 1 := spA_len h fun _ => rfl
theorem rn__law_other_net {G : Gb} {B : Hp} {E : XK} (p0 : (List (Str × (List Str)))) : Run G B E (oR G B (rpN G)) [some (.bw p0), none, none, none, none, none, none, none] (t__law_other_net G) (F__law_other_net p0) := by
  have h : Run G B E (oR G B (rpN G)) [some (.bw p0), none, none, none, none, none, none, none] (t__law_other_net G) _ := (run_asgN (en_call1 (f := F__law_seats) (ev_bw rfl) ps_B) (fun v1 => (run_asgN (en_dT (κ := (Int × Int)) (α := Bool)) (fun v2 => (run_asgN (en_nil (α := (Str × (List Str)))) (fun v3 => (run_freeze (i := 1) rfl (run_seq (EX := fun (s : (List (Str × (List Str))) × (Dt (Int × Int) Bool)) => [some (.bw p0), some (.fz v1), some (.ow s.2), some (.ow s.1), none, none, none, none]) (run_for (bind := fun (x : Int) (r : Evr) => (r.set 4 (some (.fz x)))) (s0 := (v3, v2)) (ew_rng1 (ev_len (mr := .F) (ev_bw rfl)) tg_S) (.keep (.keep (.keep (.keep (.drop (.drop (.drop (.drop Wk.nil)))))))) (fun s4 x5 => (run_last (run_seq (EX := fun (s : (List (Str × (List Str))) × (Dt (Int × Int) Bool)) => [some (.bw p0), some (.fz v1), some (.ow s.2), some (.ow s.1), some (.fz x5), none, none, none]) (run_for (bind := fun (x : Int) (r : Evr) => (r.set 5 (some (.fz x)))) (s0 := (s4.1, s4.2)) (ew_rng1 (ev_len (mr := .F) (ev_p2 (ev_ix (ev_bw rfl) (ev_fz rfl)))) tg_S) (.keep (.keep (.keep (.keep (.keep (.drop (.drop (.drop Wk.nil)))))))) (fun s9 x10 => (run_if (evT_B (ev_dnotinT (mr := .F) (ev_pair (ev_fz rfl) (ev_fz rfl)) (ev_ow rfl))) (run_asgN (en_call3 (f := F__law_face) (ev_bw rfl) ps_B (ev_fz rfl) ps_F (ev_pair (ev_fz rfl) (ev_fz rfl)) ps_F) (fun v11 => (run_append rfl (ev_pair (ev_catStr (mr := .F) (ev_str (md := .F)) (ev_strI (mr := .F) (ev_len (mr := .F) (ev_ow rfl)))) (EvN.F (en_lc (te := (tOp (rIxL G.K) (tOp (rIxT G.K) (tOp (rIxL G.K) (tVar 0) (tOp (rIxT G.K) (tVar 7) (tC (.int 0)))) (tC (.int 1))) (tOp (rIxT G.K) (tVar 7) (tC (.int 1))))) (bind := fun (x : (Int × Int)) (r : Evr) => (r.set 7 (some (.fz x)))) (ew_S (es_ow rfl) tg_F) (fun y13 => evT_yes) (fun y13 => (Ev.sc (md' := .F) (ev_ix (ev_p2 (ev_ix (ev_bw rfl) (ev_p1 (ev_fz rfl)))) (ev_p2 (ev_fz rfl)))))))) (fun a18 => (run_freeze (i := 6) rfl (run_last (run_seq (EX := fun (s : (Dt (Int × Int) Bool)) => [some (.bw p0), some (.fz v1), some (.ow s), some (.ow (s9.1 ++ [a18])), some (.fz x5), some (.fz x10), some (.fz v11), none]) (run_for (bind := fun (x : (Int × Int)) (r : Evr) => (r.set 7 (some (.fz x)))) (s0 := s9.2) (ew_F (ev_fz rfl) tg_F) (.keep (.keep (.keep (.keep (.keep (.keep (.keep (.drop Wk.nil)))))))) (fun s19 x20 => (run_last (run_dputT rfl (ev_bl (md := .F)) (ev_fz rfl) (fun a21 k22 => (run_next (s := (⟨dput s19.l k22 a21⟩ : (Dt (Int × Int) Bool))) (.keep (.keep (.keep (.keep (.keep (.keep (.keep (.drop Wk.nil)))))))))))))) (fun s23 => (run_next (s := ((s9.1 ++ [a18]), s23)) (.keep (.keep (.keep (.keep (.keep (.drop (.drop (.drop Wk.nil))))))))))))))))) (run_next (s := (s9.1, s9.2)) (.keep (.keep (.keep (.keep (.keep (.drop (.drop (.drop Wk.nil)))))))))))) (fun s25 => (run_next (s := (s25.1, s25.2)) (.keep (.keep (.keep (.keep (.drop (.drop (.drop (.drop Wk.nil)))))))))))))) (fun s27 => (run_ifS (evT_T (ev_eqD (mr := .F) (by decide) (ev_ow rfl) (EvN.H (en_nil (α := (Str × (List Str))))))) (run_cutR (run_retN (en_lst (el_cons (ev_pair (ev_str (md := .F)) (EvN.F (en_nil (α := Str)))) (el_nil (α := (Str × (List Str)))))))) (run_skip (run_retO rfl))))))))))))
  exact h
theorem run__law_other_net {G : Gb} {vs : List V} {H : Hp} {Q : VK} {E : XK} (h : sp__law_other_net G vs H Q E) : t__law_other_net G (dEnd Q) (start n__law_other_net vs) H := spA_run (n := 7) h (fun _ => rfl) fun p B => rn__law_other_net p
abbrev n__law_refused : List Str := ["_law_rows", "_law_tie", "_law_out_here"]
noncomputable def F__law_refused (p0 : (List (Str × (List Str)))) (p1 : Str) (p2 : Bool) : M Str :=
  (M.b (M.tr (if p2 = true then (M.b (F_taken_out p0 p1) fun x7 => (M.ok (.inl ()))) else (M.b (F_shrunk p0 p1) fun x8 => (M.ok (.inl ())))) fun xc2 => M.chk (xc2 ∈ XC) (if excIs xc2 "Bridge" = true then (M.ok (.inr (Str.ofString "bridge"))) else M.chk (excIs xc2 "Loop" = true) (M.ok (.inr (Str.ofString "loop"))))) (M.orR fun s9 => (M.ok (Str.ofString "none"))))
def sp__law_refused (G : Gb) : Sp := spA G (fun (p : (List (Str × (List Str))) × Str × Bool) => [.fz (p.1), .fz (p.2.1), .fz (p.2.2)]) (rpF G) (fun (p : (List (Str × (List Str))) × Str × Bool) => F__law_refused (p.1) (p.2.1) (p.2.2))
def t__law_refused (G : Gb) : TS :=
  (tSeq (tTryOn2 G "Bridge" "Loop" (fun E => (tIfS (tB (tVar 2))
  (tDrop (tCall (sp_taken_out G) [] E (tCons (tVar 0) (tCons (tVar 1) tNil))))
  (tDrop (tCall (sp_shrunk G) [] E (tCons (tVar 0) (tCons (tVar 1) tNil)))))) (fun xa1 xl3 xd4 => (tRet (tC (.str "bridge")))) (fun xa1 xl3 xd4 => (tRet (tC (.str "loop")))))
  (tRet (tC (.str "none"))))
theorem len__law_refused {G : Gb} (vs : List V) (H : Hp) (Q : VK) (E : XK) (h : sp__law_refused G vs H Q E) : vs.length = 3 := spA_len h fun _ => rfl
theorem rn__law_refused {G : Gb} [ClsF G TurnsD] [ExF G XC XT] {B : Hp} {E : XK} (p0 : (List (Str × (List Str)))) (p1 : Str) (p2 : Bool) : Run G B E (oR G B (rpF G)) [some (.fz p0), some (.fz p1), some (.fz p2)] (t__law_refused G) (F__law_refused p0 p1 p2) := by
  have h : Run G B E (oR G B (rpF G)) [some (.fz p0), some (.fz p1), some (.fz p2)] (t__law_refused G) _ := (run_seqR (EX := fun (s : Unit) => [some (.fz p0), some (.fz p1), some (.fz p2)]) (run_weak (ρ' := [some (.fz p0), some (.fz p1), some (.fz p2)]) (.keep (.keep (.keep Wk.nil))) (run_tryOn2 (post := fun B => oC G B (fun (s : Unit) => [some (.fz p0), some (.fz p1), some (.fz p2)]) (rpF G)) (ρ := [some (.fz p0), some (.fz p1), some (.fz p2)]) (cs := XC) (ts' := XT) (T := "Bridge") (U := "Loop") (by decide) (by decide) (gndU_C (rp := (rpF G)) (@antiF _ _ _) (fun _ => rfl)) rfl (fun _ _ => (run_if (evT_B (ev_fz rfl)) (run_last (run_expr (EvN.H (en_callX2 (f := F_taken_out) (ev_fz rfl) ps_B (ev_fz rfl) ps_F)) (run_nextC (s := ()) (.keep (.keep (.keep Wk.nil)))))) (run_last (run_expr (EvN.H (en_callX2 (f := F_shrunk) (ev_fz rfl) ps_B (ev_fz rfl) ps_F)) (run_nextC (s := ()) (.keep (.keep (.keep Wk.nil)))))))) (fun xa1 xc2 => (run_retC (ev_str (md := .F)))) (fun xa1 xc2 => (run_retC (ev_str (md := .F)))))) (fun s9 => (run_ret (ev_str (md := .F)))))
  exact h
theorem run__law_refused {G : Gb} [ClsF G TurnsD] [ExF G XC XT] {vs : List V} {H : Hp} {Q : VK} {E : XK} (h : sp__law_refused G vs H Q E) : t__law_refused G (dEnd Q) (start n__law_refused vs) H := spA_run (n := 0) h (fun _ => rfl) fun p B => rn__law_refused (p.1) (p.2.1) (p.2.2)
abbrev n_law : List Str := ["_law_script", "_law_stem", "_law_rows", "_law_names_here", "_law_tie", "_law_other_here", "_law_kind", "_law_here"]
noncomputable def F_law (p0 : Scr) : M Bool :=
  (M.b (M.b (M.cl (F__law_cell_at p0 (0 : Int))) fun x1 => (M.b (M.chk (CPow (10 : Int) (18 : Int)) (M.ok ((10 : Int) ^ ((18 : Int) : Int).toNat))) fun x2 => (M.chk (CPos x1 x2) (M.ok (x1 % x2))))) fun v3 => (M.b (M.b (M.b (M.b (M.b (M.cl (F__law_big p0 (1 : Int))) fun x4 => (M.chk (CMulK x4 (25 : Int)) (M.ok (x4 * (25 : Int))))) fun x5 => (M.ok (x5 + (1 : Int)))) fun x7 => (M.b (M.b (M.cl (F__law_cell_at p0 (2 : Int))) fun x6 => (M.chk (CPos x6 (24 : Int)) (M.ok (x6 % (24 : Int))))) fun x8 => (M.ok (x7 + x8)))) fun x9 => (M.cl (F__law_net_by x9 (24 : Int) v3))) fun v10 => (M.b (M.cl (F__law_ties v10)) fun v11 => (M.b (M.b (M.b (M.b (M.cl (F__law_cell_at p0 (2 : Int))) fun x12 => (M.chk (CDivW x12 (24 : Int)) (M.ok (x12 / (24 : Int))))) fun x13 => (M.chk (CPos x13 ((v11.length : Nat) : Int)) (M.ok (x13 % ((v11.length : Nat) : Int))))) fun x14 => (M.get (atI v11 x14))) fun v15 => (M.b (M.cl (F__law_other_net v10)) fun v16 => (M.b (M.cl (F__law_sort v10 v15)) fun v17 => (M.b (if (decide (v17 = (Str.ofString "bridge"))) = true then (M.b (M.b (M.b (M.cl (F__law_refused v10 v15 true)) fun x30 => (M.ok (!decide (x30 = (Str.ofString "bridge"))))) fun x32 => (if x32 = true then M.ok true else (M.b (M.cl (F__law_refused v16 v15 false)) fun x31 => (M.ok (!decide (x31 = (Str.ofString "loop"))))))) fun x33 => (if x33 = true then (M.ok (.inr false)) else (M.ok (.inl (v10, v16))))) else (M.b (M.b (M.b (M.cl (F__law_copy v10)) fun x34 => (M.cl (F_taken_out x34 v15))) fun x35 => (M.cl (F__law_other_net x35))) fun v36 => (M.b (M.b (M.cl (F__law_canon v36)) fun x39 => (M.b (M.b (M.b (M.cl (F__law_copy v16)) fun x37 => (M.cl (F_shrunk x37 v15))) fun x38 => (M.cl (F__law_canon x38))) fun x40 => (M.chk (Dd.Ok x39 ∧ Dd.Ok x40) (M.ok (!decide (x39 = x40)))))) fun x41 => (if x41 = true then (M.ok (.inr false)) else (M.ok (.inl (v10, v16))))))) (M.orR fun s42 => (if (decide (v17 = (Str.ofString "loop"))) = true then (M.b (M.b (M.cl (F__law_refused s42.1 v15 false)) fun x43 => (M.ok (decide (x43 = (Str.ofString "loop"))))) fun x45 => (if x45 = true then (M.b (M.cl (F__law_refused s42.2 v15 true)) fun x44 => (M.ok (decide (x44 = (Str.ofString "bridge"))))) else M.ok false)) else (M.b (M.b (M.b (M.cl (F__law_copy s42.1)) fun x46 => (M.cl (F_shrunk x46 v15))) fun x47 => (M.cl (F__law_other_net x47))) fun v48 => (M.b (M.cl (F__law_canon v48)) fun x51 => (M.b (M.b (M.b (M.cl (F__law_copy s42.2)) fun x49 => (M.cl (F_taken_out x49 v15))) fun x50 => (M.cl (F__law_canon x50))) fun x52 => (M.chk (Dd.Ok x51 ∧ Dd.Ok x52) (M.ok (decide (x51 = x52))))))))))))))))
def sp_law (G : Gb) : Sp := spA G (fun (p : Scr) => [.bw p]) (rpF G) (fun (p : Scr) => F_law p)
def t_law (G : Gb) : TS :=
  (tSeq (tAsg (tOp qMod (tCall (sp__law_cell_at G) [] E0 (tCons (tVar 0) (tCons (tC (.int 0)) tNil))) (tOp qPow (tC (.int 10)) (tC (.int 18)))) (gName 1)) (tSeq (tAsg (tCall (sp__law_net_by G) [] E0 (tCons (tOp qAdd (tOp qAdd (tOp qMulK (tCall (sp__law_big G) [] E0 (tCons (tVar 0) (tCons (tC (.int 1)) tNil))) (tC (.int 25))) (tC (.int 1))) (tOp qMod (tCall (sp__law_cell_at G) [] E0 (tCons (tVar 0) (tCons (tC (.int 2)) tNil))) (tC (.int 24)))) (tCons (tC (.int 24)) (tCons (tVar 1) tNil)))) (gName 2)) (tSeq (tAsg (tCall (sp__law_ties G) [] E0 (tCons (tVar 2) tNil)) (gName 3)) (tSeq (tAsg (tOp (rIxL G.K) (tVar 3) (tOp qMod (tOp qDiv (tCall (sp__law_cell_at G) [] E0 (tCons (tVar 0) (tCons (tC (.int 2)) tNil))) (tC (.int 24))) (tCB (qLenQ G.K) (tCons (tVar 3) tNil)))) (gName 4)) (tSeq (tAsg (tCall (sp__law_other_net G) [] E0 (tCons (tVar 2) tNil)) (gName 5)) (tSeq (tAsg (tCall (sp__law_sort G) [] E0 (tCons (tVar 2) (tCons (tVar 4) tNil))) (gName 6)) (tSeq (tIfS (tTest (tOp rEq (tVar 6) (tC (.str "bridge"))))
  (tIfS (tOr (tTest (tOp rNe (tCall (sp__law_refused G) [] E0 (tCons (tVar 2) (tCons (tVar 4) (tCons (tC (.bl true)) tNil)))) (tC (.str "bridge")))) (tTest (tOp rNe (tCall (sp__law_refused G) [] E0 (tCons (tVar 5) (tCons (tVar 4) (tCons (tC (.bl false)) tNil)))) (tC (.str "loop")))))
  (tRet (tC (.bl false)))
  tNext)
  (tSeq (tAsg (tCall (sp__law_other_net G) [] E0 (tCons (tCall (sp_taken_out G) [] E0 (tCons (tCall (sp__law_copy G) [] E0 (tCons (tVar 2) tNil)) (tCons (tVar 4) tNil))) tNil)) (gName 7)) (tIfS (tTest (tOp (rNeD G.K) (tCall (sp__law_canon G) [] E0 (tCons (tVar 7) tNil)) (tCall (sp__law_canon G) [] E0 (tCons (tCall (sp_shrunk G) [] E0 (tCons (tCall (sp__law_copy G) [] E0 (tCons (tVar 5) tNil)) (tCons (tVar 4) tNil))) tNil))))
  (tRet (tC (.bl false)))
  tNext)))
  (tSeq (tIfS (tTest (tOp rEq (tVar 6) (tC (.str "loop"))))
  (tRet (tAndV (tOp rEq (tCall (sp__law_refused G) [] E0 (tCons (tVar 2) (tCons (tVar 4) (tCons (tC (.bl false)) tNil)))) (tC (.str "loop"))) (tOp rEq (tCall (sp__law_refused G) [] E0 (tCons (tVar 5) (tCons (tVar 4) (tCons (tC (.bl true)) tNil)))) (tC (.str "bridge")))))
  tNext)
  (tSeq (tAsg (tCall (sp__law_other_net G) [] E0 (tCons (tCall (sp_shrunk G) [] E0 (tCons (tCall (sp__law_copy G) [] E0 (tCons (tVar 2) tNil)) (tCons (tVar 4) tNil))) tNil)) (gName 7)) (tRet (tOp (rEqD G.K) (tCall (sp__law_canon G) [] E0 (tCons (tVar 7) tNil)) (tCall (sp__law_canon G) [] E0 (tCons (tCall (sp_taken_out G) [] E0 (tCons (tCall (sp__law_copy G) [] E0 (tCons (tVar 5) tNil)) (tCons (tVar 4) tNil))) tNil)))))))))))))
theorem len_law {G : Gb} (vs : List V) (H : Hp) (Q : VK) (E : XK) (h : sp_law G vs H Q E) : vs.length = 1 := spA_len h fun _ => rfl
theorem rn_law {G : Gb} [ClsF G TurnsD] {B : Hp} {E : XK} (p0 : Scr) : Run G B E (oR G B (rpF G)) [some (.bw p0), none, none, none, none, none, none, none] (t_law G) (F_law p0) := by
  have h : Run G B E (oR G B (rpF G)) [some (.bw p0), none, none, none, none, none, none, none] (t_law G) _ := (run_asg (bind := fun (x : Int) (r : Evr) => (r.set 1 (some (.fz x)))) (ev_mod (mr := .F) (ev_call2 (f := F__law_cell_at) (ev_bw rfl) ps_B (ev_int (md := .F)) ps_F) (ev_pow (mr := .F) (ev_int (md := .F)) (ev_int (md := .F)))) tg_S (fun v3 => (run_asgN (en_call3 (f := F__law_net_by) (ev_add (mr := .F) (ev_add (mr := .F) (ev_mulK (mr := .F) (ev_call2 (f := F__law_big) (ev_bw rfl) ps_B (ev_int (md := .F)) ps_F) (ev_int (md := .F))) (ev_int (md := .F))) (ev_mod (mr := .F) (ev_call2 (f := F__law_cell_at) (ev_bw rfl) ps_B (ev_int (md := .F)) ps_F) (ev_int (md := .F)))) ps_F (ev_int (md := .F)) ps_F (ev_fz rfl) ps_F) (fun v10 => (run_asgN (en_call1 (f := F__law_ties) (ev_ow rfl) ps_B) (fun v11 => (run_asg (bind := fun (x : Str) (r : Evr) => (r.set 4 (some (.fz x)))) (ev_ixS (es_ow rfl) (ev_mod (mr := .F) (ev_div (mr := .F) (ev_call2 (f := F__law_cell_at) (ev_bw rfl) ps_B (ev_int (md := .F)) ps_F) (ev_int (md := .F))) (ev_len (mr := .F) (ev_ow rfl)))) tg_S (fun v15 => (run_asgN (en_call1 (f := F__law_other_net) (ev_ow rfl) ps_B) (fun v16 => (run_asg (bind := fun (x : Str) (r : Evr) => (r.set 6 (some (.fz x)))) (ev_call2 (f := F__law_sort) (ev_ow rfl) ps_B (ev_fz rfl) ps_F) tg_S (fun v17 => (run_seqR (EX := fun (s : (List (Str × (List Str))) × (List (Str × (List Str)))) => [some (.bw p0), some (.fz v3), some (.fz s.1), some (.ow v11), some (.fz v15), some (.fz s.2), some (.fz v17), none]) (run_if (evT_T (ev_eq (mr := .F) (ev_fz rfl) (ev_str (md := .F)))) (run_freeze (i := 2) rfl (run_freeze (i := 5) rfl (run_if (evT_or (evT_T (ev_ne (mr := .F) (ev_call3 (f := F__law_refused) (ev_fz rfl) ps_F (ev_fz rfl) ps_F (ev_bl (md := .F)) ps_F) (ev_str (md := .F)))) (evT_T (ev_ne (mr := .F) (ev_call3 (f := F__law_refused) (ev_fz rfl) ps_F (ev_fz rfl) ps_F (ev_bl (md := .F)) ps_F) (ev_str (md := .F))))) (run_retC (ev_bl (md := .F))) (run_nextC (s := (v10, v16)) (.keep (.keep (.keep (.keep (.keep (.keep (.keep (.drop Wk.nil)))))))))))) (run_asgN (en_call1 (f := F__law_other_net) (EvN.H (en_call2 (f := F_taken_out) (EvN.H (en_call1 (f := F__law_copy) (ev_ow rfl) ps_B)) ps_B (ev_fz rfl) ps_F)) ps_B) (fun v36 => (run_if (evT_T (ev_neD (mr := .F) (by decide) (EvN.H (en_call1 (f := F__law_canon) (ev_ow rfl) ps_B)) (EvN.H (en_call1 (f := F__law_canon) (EvN.H (en_call2 (f := F_shrunk) (EvN.H (en_call1 (f := F__law_copy) (ev_ow rfl) ps_B)) ps_B (ev_fz rfl) ps_F)) ps_B)))) (run_retC (ev_bl (md := .F))) (run_freeze (i := 2) rfl (run_freeze (i := 5) rfl (run_nextC (s := (v10, v16)) (.keep (.keep (.keep (.keep (.keep (.keep (.keep (.drop Wk.nil))))))))))))))) (fun s42 => (run_ifS (evT_T (ev_eq (mr := .F) (ev_fz rfl) (ev_str (md := .F)))) (run_cutR (run_ret (ev_andV (mr := .F) (ev_eq (mr := .F) (ev_call3 (f := F__law_refused) (ev_fz rfl) ps_F (ev_fz rfl) ps_F (ev_bl (md := .F)) ps_F) (ev_str (md := .F))) (ev_eq (mr := .F) (ev_call3 (f := F__law_refused) (ev_fz rfl) ps_F (ev_fz rfl) ps_F (ev_bl (md := .F)) ps_F) (ev_str (md := .F)))))) (run_skip (run_asgN (en_call1 (f := F__law_other_net) (EvN.H (en_call2 (f := F_shrunk) (EvN.H (en_call1 (f := F__law_copy) (ev_fz rfl) ps_B)) ps_B (ev_fz rfl) ps_F)) ps_B) (fun v48 => (run_ret (ev_eqD (mr := .F) (by decide) (EvN.H (en_call1 (f := F__law_canon) (ev_ow rfl) ps_B)) (EvN.H (en_call1 (f := F__law_canon) (EvN.H (en_call2 (f := F_taken_out) (EvN.H (en_call1 (f := F__law_copy) (ev_fz rfl) ps_B)) ps_B (ev_fz rfl) ps_F)) ps_B))))))))))))))))))))))
  exact h
theorem run_law {G : Gb} [ClsF G TurnsD] {vs : List V} {H : Hp} {Q : VK} {E : XK} (h : sp_law G vs H Q E) : t_law G (dEnd Q) (start n_law vs) H := spA_run (n := 7) h (fun _ => rfl) fun p B => rn_law p
end Tw
set_option Elab.async false
set_option linter.all false
set_option maxRecDepth 100000
set_option maxHeartbeats 4000000
namespace Tw
open PySem PySem.Spec L2 TL
open PyProof.Rows hiding St
def shI (x e : NE) : NE := if e.1 = x.1 ∧ x.2 ≤ e.2 then (e.1, e.2 + 1) else e
theorem shI_up {x e : NE} (h1 : e.1 = x.1) (h2 : x.2 ≤ e.2) : shI x e = (e.1, e.2 + 1) := if_pos ⟨h1, h2⟩
theorem shI_dn {x e : NE} (h : ¬ (e.1 = x.1 ∧ x.2 ≤ e.2)) : shI x e = e := if_neg h
theorem shI_fst (x e : NE) : (shI x e).1 = e.1 := by
  unfold shI
  split <;> rfl
theorem shI_ne (x e : NE) : shI x e ≠ x := fun w => by
  by_cases q : e.1 = x.1 ∧ x.2 ≤ e.2
  · rw [shI_up q.1 q.2] at w
    have := congrArg Prod.snd w
    simp only at this
    omega
  · rw [shI_dn q] at w
    rw [w] at q
    exact q ⟨rfl, Nat.le_refl _⟩
theorem shI_inj (x : NE) {a b : NE} (h : shI x a = shI x b) : a = b := by
  have h1 : a.1 = b.1 := by rw [← shI_fst x a, h, shI_fst]
  by_cases q : a.1 = x.1 ∧ x.2 ≤ a.2
  · by_cases r : b.1 = x.1 ∧ x.2 ≤ b.2
    · rw [shI_up q.1 q.2, shI_up r.1 r.2] at h
      have := congrArg Prod.snd h
      simp only at this
      exact Prod.ext h1 (by omega)
    · rw [shI_up q.1 q.2, shI_dn r] at h
      have h2 := congrArg Prod.snd h
      simp only at h2
      exact absurd ⟨h1 ▸ q.1, by omega⟩ r
  · by_cases r : b.1 = x.1 ∧ x.2 ≤ b.2
    · rw [shI_dn q, shI_up r.1 r.2] at h
      have h2 := congrArg Prod.snd h
      simp only at h2
      exact absurd ⟨h1 ▸ r.1, by omega⟩ q
    · rw [shI_dn q, shI_dn r] at h
      exact h
theorem insAt_get (ts : List Str) {j : Nat} (hj : j ≤ ts.length) (a : Str) (p : Nat) : (insAt ts (j : Int) a)[p]? = if p < j then ts[p]? else if p = j then some a else ts[p - 1]? := by
  unfold insAt
  rw [Int.toNat_natCast, List.append_assoc]
  have hl : (ts.take j).length = j := by rw [List.length_take]; omega
  by_cases q : p < j
  · rw [if_pos q, List.getElem?_append_left (by omega), List.getElem?_take_of_lt q]
  · rw [if_neg q, List.getElem?_append_right (by omega), hl]
    by_cases q2 : p = j
    · rw [if_pos q2, q2, Nat.sub_self]
      rfl
    · rw [if_neg q2, show p - j = (p - 1 - j) + 1 by omega]
      show (ts.drop j)[p - 1 - j]? = _
      rw [List.getElem?_drop, show j + (p - 1 - j) = p - 1 by omega]
section
variable {rows : RowsT} {x : NE} {t : Str}
theorem corner_le (hx : x ∈ allC rows) : x.1 < rows.length ∧ x.2 ≤ (rowT rows x.1).length := by
  obtain ⟨h1, h2⟩ := mem_allC.mp hx
  exact ⟨h1, by omega⟩
theorem ins_tie (hx : x ∈ allC rows) (e : NE) : tie? (rowIns rows x.1 (x.2 : Int) t) (shI x e) = tie? rows e := by
  obtain ⟨h1, h2⟩ := corner_le hx
  unfold tie?
  rw [shI_fst, rowIns_row _ _ _ _ _ h1]
  by_cases q : x.1 = e.1
  · rw [if_pos q, insAt_get _ (by rw [← q]; exact h2)]
    by_cases q2 : x.2 ≤ e.2
    · rw [shI_up q.symm q2]
      show (if e.2 + 1 < x.2 then _ else _) = _
      rw [if_neg (by omega), if_neg (by show ¬ e.2 + 1 = x.2; omega)]
      rfl
    · rw [shI_dn fun w => q2 w.2, if_pos (by omega)]
  · rw [if_neg q, shI_dn fun w => q w.1.symm]
theorem ins_new (hx : x ∈ allC rows) : tie? (rowIns rows x.1 (x.2 : Int) t) x = some t := by
  obtain ⟨h1, h2⟩ := corner_le hx
  unfold tie?
  rw [rowIns_row _ _ _ _ _ h1, if_pos rfl, insAt_get _ h2, if_neg (by omega), if_pos rfl]
theorem ins_all (hx : x ∈ allC rows) {e : NE} (he : e ∈ allE (rowIns rows x.1 (x.2 : Int) t)) : e = x ∨ ∃ d ∈ allE rows, shI x d = e := by
  obtain ⟨h1, h2⟩ := corner_le hx
  have hp := mem_allE.mp he
  rw [rowIns_row _ _ _ _ _ h1] at hp
  by_cases q : x.1 = e.1
  · rw [if_pos q, insAt_len] at hp
    by_cases q2 : e.2 < x.2
    · exact .inr ⟨e, mem_allE.mpr (by rw [q] at h2; omega), shI_dn fun w => by omega⟩
    · by_cases q3 : e.2 = x.2
      · exact .inl (Prod.ext q.symm q3)
      · refine .inr ⟨(e.1, e.2 - 1), mem_allE.mpr (by show e.2 - 1 < (rowT rows e.1).length; omega), ?_⟩
        rw [shI_up (e := (e.1, e.2 - 1)) q.symm (by show x.2 ≤ e.2 - 1; omega)]
        exact Prod.ext rfl (by show e.2 - 1 + 1 = e.2; omega)
  · rw [if_neg q] at hp
    exact .inr ⟨e, mem_allE.mpr hp, shI_dn fun w => q w.1.symm⟩
theorem ins_rot (hx : x ∈ allC rows) {e : NE} (he : e ∈ allE rows) : rot (rowIns rows x.1 (x.2 : Int) t) 1 (shI x e) = if rot rows 1 e = x then x else shI x (rot rows 1 e) := by
  obtain ⟨h1, h2⟩ := mem_allC.mp hx
  have hp := mem_allE.mp he
  unfold rot
  rw [shI_fst, rowIns_row _ _ _ _ _ h1]
  by_cases q : x.1 = e.1
  · rw [if_pos q, insAt_len]
    rw [q] at h2
    have h3 : x.2 < (rowT rows e.1).length := by omega
    generalize (rowT rows e.1).length = n at hp h3
    by_cases q2 : x.2 ≤ e.2
    · rw [shI_up q.symm q2]
      by_cases q3 : e.2 + 1 < n
      · rw [Nat.mod_eq_of_lt q3, Nat.mod_eq_of_lt (by show e.2 + 1 + 1 < n + 1; omega), if_neg (fun w => by have := congrArg Prod.snd w; simp only at this; omega), shI_up (e := (e.1, e.2 + 1)) q.symm (by show x.2 ≤ e.2 + 1; omega)]
      · have e1 : e.2 + 1 = n := by omega
        rw [show (e.1, e.2 + 1).2 + 1 = n + 1 by show e.2 + 1 + 1 = n + 1; omega, Nat.mod_self, e1, Nat.mod_self]
        by_cases q4 : x.2 = 0
        · have : (e.1, 0) = x := Prod.ext q.symm q4.symm
          rw [if_pos this, this]
        · rw [if_neg (fun w => by have := congrArg Prod.snd w; simp only at this; omega), shI_dn (fun w => by have := w.2; simp only at this; omega)]
    · rw [shI_dn (fun w => q2 w.2), Nat.mod_eq_of_lt (show e.2 + 1 < n + 1 by omega), Nat.mod_eq_of_lt (show e.2 + 1 < n by omega)]
      by_cases q4 : e.2 + 1 = x.2
      · have : (e.1, e.2 + 1) = x := Prod.ext q.symm q4
        rw [if_pos this, this]
      · rw [if_neg (fun w => q4 (congrArg Prod.snd w)), shI_dn (fun w => by have := w.2; simp only at this; omega)]
  · have nx : ¬ ((e.1, (e.2 + 1) % (rowT rows e.1).length) = x) := fun w => q (congrArg Prod.fst w).symm
    rw [if_neg q, shI_dn (e := e) (fun w => q w.1.symm), if_neg nx, shI_dn (e := (e.1, (e.2 + 1) % (rowT rows e.1).length)) (fun w => q w.1.symm)]
theorem ins_rotx (hx : x ∈ allE rows) : rot (rowIns rows x.1 (x.2 : Int) t) 1 x = shI x x := by
  have h1 := allE_row hx
  have hp := mem_allE.mp hx
  unfold rot
  rw [rowIns_row _ _ _ _ _ h1, if_pos rfl, insAt_len, Nat.mod_eq_of_lt (by omega), shI_up rfl (Nat.le_refl _)]
end
theorem mate_map {rows rows' : RowsT} (h : Twice rows) (h' : Twice rows') {ι : NE → NE} (inj : ∀ a ∈ allE rows, ∀ b ∈ allE rows, ι a = ι b → a = b) (ht : ∀ e ∈ allE rows, tie? rows' (ι e) = tie? rows e) {e : NE} (he : e ∈ allE rows) : mate rows' (ι e) = ι (mate rows e) := by
  obtain ⟨t, et⟩ := tie_some he
  obtain ⟨m1, m2, _⟩ := mate_of h et
  have hm := mate_mem h he
  have e1 : tie? rows' (ι e) = some t := by rw [ht e he, et]
  have e2 : tie? rows' (ι (mate rows e)) = some t := by rw [ht _ hm, m1]
  rcases (mate_of h' e1).2.2 _ e2 with w | w
  · exact absurd (inj _ hm _ he w) m2
  · exact w.symm
theorem mate_new {rows : RowsT} (h : Twice rows) {u w : NE} {t : Str} (hu : tie? rows u = some t) (hw : tie? rows w = some t) (ne : u ≠ w) : mate rows u = w ∧ mate rows w = u := by
  constructor
  · rcases (mate_of h hu).2.2 w hw with q | q
    · exact absurd q.symm ne
    · exact q.symm
  · rcases (mate_of h hw).2.2 u hu with q | q
    · exact absurd q ne
    · exact q.symm
theorem CutP.grow {rows rows' : RowsT} {c : Str → Bool} {f f' : Nat → Bool} (h : Twice rows) (h' : Twice rows') {ι : NE → NE} (inj : ∀ a ∈ allE rows, ∀ b ∈ allE rows, ι a = ι b → a = b) (ht : ∀ e ∈ allE rows, tie? rows' (ι e) = tie? rows e) (fst : ∀ e, (ι e).1 = e.1) {u w : NE} {t : Str} (hall : ∀ e ∈ allE rows', e = u ∨ e = w ∨ ∃ d ∈ allE rows, ι d = e) (hu : tie? rows' u = some t) (hw : tie? rows' w = some t) (ne : u ≠ w) (ff : ∀ v, v < rows.length → f' v = f v) (hc : c t = Bool.xor (f' u.1) (f' w.1)) (hf : CutP rows c f) : CutP rows' c f' := fun e he => by
  obtain ⟨m1, m2⟩ := mate_new h' hu hw ne
  rcases hall e he with q | q | ⟨d, hd, q⟩
  · rw [q, m1, tieD_of hu, hc]
  · rw [q, m2, tieD_of hw, hc]
    exact Bool.xor_comm _ _
  · obtain ⟨s, hs⟩ := tie_some hd
    rw [← q, mate_map h h' inj ht hd, fst, fst, ff _ (allE_row hd), ff _ (allE_row (mate_mem h hd)), ← hf d hd, tieD_of ((ht d hd).trans hs), tieD_of hs]
/-- sums along the faces come out -/
def Loc (rows : RowsT) (c : Str → Bool) (g : NE → Bool) : Prop := ∀ e ∈ allE rows, g (stp rows e) = xor (g e) (c (tieD rows e))
def Plane (rows : RowsT) : Prop := ∀ c g, Loc rows c g → ∃ f, CutP rows c f
theorem loc_at {rows : RowsT} {c : Str → Bool} {g : NE → Bool} (h : Loc rows c g) {e : NE} {t : Str} (ht : tie? rows e = some t) : g (stp rows e) = xor (g e) (c t) := by
  rw [h e (tie_mem ht), tieD_of ht]
theorem plane_bare (n : Str) : Plane [(n, [])] := fun c g _ => ⟨fun _ => false, fun e he => by
  have h1 := allE_row he
  have hp := mem_allE.mp he
  have : e.1 = 0 := by simp at h1; exact h1
  rw [this] at hp
  exact absurd hp (Nat.not_lt_zero _)⟩
theorem app_tie {rows : RowsT} {y : Str × List Str} {e : NE} (h : e.1 < rows.length) : tie? (rows ++ [y]) e = tie? rows e := by
  unfold tie? rowT
  rw [List.getElem?_append_left h]
theorem app_row {rows : RowsT} {y : Str × List Str} {r : Nat} (h : r < rows.length) : rowT (rows ++ [y]) r = rowT rows r := by
  unfold rowT
  rw [List.getElem?_append_left h]
theorem app_new {rows : RowsT} {y : Str × List Str} : rowT (rows ++ [y]) rows.length = y.2 := by
  unfold rowT
  rw [List.getElem?_append_right (Nat.le_refl _), Nat.sub_self]
  rfl
theorem app_rot {rows : RowsT} {y : Str × List Str} {e : NE} (h : e.1 < rows.length) : rot (rows ++ [y]) 1 e = rot rows 1 e := by
  unfold rot
  rw [app_row h]
theorem plane_spike {rows : RowsT} (P : MadeP rows) {x : NE} {t n : Str} (hx : x ∈ allC rows) (h' : Twice (rowIns rows x.1 (x.2 : Int) t ++ [(n, [t])])) (H : Plane rows) : Plane (rowIns rows x.1 (x.2 : Int) t ++ [(n, [t])]) := fun c g' L => by
  have h := P.two
  have len : (rowIns rows x.1 (x.2 : Int) t).length = rows.length := rowIns_len _ _ _ _
  have h1 := (corner_le hx).1
  have inj : ∀ a ∈ allE rows, ∀ b ∈ allE rows, shI x a = shI x b → a = b := fun a _ b _ e => shI_inj x e
  have ht : ∀ e ∈ allE rows, tie? (rowIns rows x.1 (x.2 : Int) t ++ [(n, [t])]) (shI x e) = tie? rows e := fun e he => by
    rw [app_tie (by rw [shI_fst, len]; exact allE_row he), ins_tie hx]
  have hu : tie? (rowIns rows x.1 (x.2 : Int) t ++ [(n, [t])]) x = some t := by rw [app_tie (by rw [len]; exact h1), ins_new hx]
  have hw : tie? (rowIns rows x.1 (x.2 : Int) t ++ [(n, [t])]) (rows.length, 0) = some t := by
    unfold tie?
    show (rowT _ rows.length)[0]? = _
    rw [← len, app_new]
    rfl
  have ne : x ≠ (rows.length, 0) := fun w => by rw [w] at h1; exact Nat.lt_irrefl _ h1
  obtain ⟨m1, m2⟩ := mate_new h' hu hw ne
  have r2 : rot (rowIns rows x.1 (x.2 : Int) t ++ [(n, [t])]) 1 (rows.length, 0) = (rows.length, 0) := by
    unfold rot
    show (rows.length, _ % (rowT _ rows.length).length) = _
    rw [← len, app_new]
    exact Prod.ext rfl (show (0 + 1) % (0 + 1) = 0 from rfl)
  have hs : ∀ d ∈ allE rows, stp (rowIns rows x.1 (x.2 : Int) t ++ [(n, [t])]) (shI x d) = if stp rows d = x then x else shI x (stp rows d) := fun d hd => by
    unfold stp
    rw [mate_map h h' inj ht hd, app_rot (by rw [shI_fst, len]; exact allE_row (mate_mem h hd)), ins_rot hx (mate_mem h hd)]
  have Lu := loc_at L hu
  have Lw := loc_at L hw
  rw [show stp (rowIns rows x.1 (x.2 : Int) t ++ [(n, [t])]) x = (rows.length, 0) by unfold stp; rw [m1, r2]] at Lu
  have gl : Loc rows c fun d => g' (shI x d) := fun d hd => by
    obtain ⟨s, es⟩ := tie_some hd
    have Ld := loc_at L ((ht d hd).trans es)
    rw [hs d hd] at Ld
    rw [tieD_of es]
    show g' (shI x (stp rows d)) = Bool.xor (g' (shI x d)) (c s)
    by_cases q : stp rows d = x
    · rw [if_pos q] at Ld
      have xE : x ∈ allE rows := by rw [← q]; exact (stp_inj h).to d hd
      rw [show stp (rowIns rows x.1 (x.2 : Int) t ++ [(n, [t])]) (rows.length, 0) = shI x x by unfold stp; rw [m2, app_rot (by rw [len]; exact h1), ins_rotx xE]] at Lw
      rw [q, Lw, Lu, Ld]
      cases g' (shI x d) <;> cases c t <;> cases c s <;> rfl
    · rw [if_neg q] at Ld
      exact Ld
  obtain ⟨f, hf⟩ := H c _ gl
  refine ⟨fun v => if v = rows.length then xor (f x.1) (c t) else f v, CutP.grow h h' inj ht (fun e => shI_fst x e) (u := x) (w := (rows.length, 0)) (fun e he => ?_) hu hw ne (fun v hv => if_neg (by omega)) ?_ hf⟩
  · have hr := allE_row he
    rw [List.length_append, List.length_singleton, len] at hr
    by_cases q : e.1 = rows.length
    · have hp := mem_allE.mp he
      rw [q, ← len, app_new] at hp
      simp at hp
      exact .inr (.inl (Prod.ext q hp))
    · have he' : e ∈ allE (rowIns rows x.1 (x.2 : Int) t) := by
        have hp := mem_allE.mp he
        rw [app_row (by rw [len]; omega)] at hp
        exact mem_allE.mpr hp
      rcases ins_all hx he' with w | w
      · exact .inl w
      · exact .inr (.inr w)
  · show c t = xor (if x.1 = rows.length then _ else f x.1) (if rows.length = rows.length then _ else _)
    rw [if_neg (by omega), if_pos rfl]
    cases f x.1 <;> cases c t <;> rfl
theorem plane_link {rows : RowsT} (P : MadeP rows) {lo hi : NE} {t : Str} (hlo : lo ∈ allC rows) (hhi : hi ∈ faceC rows lo) (hle : leE lo hi = true) (h' : Twice (rowIns (rowIns rows hi.1 (hi.2 : Int) t) lo.1 (lo.2 : Int) t)) (H : Plane rows) : Plane (rowIns (rowIns rows hi.1 (hi.2 : Int) t) lo.1 (lo.2 : Int) t) := fun c g' L => by
  have h := P.two
  have hhi' := faceC_mem P hlo hhi
  have hle' := of_decide_eq_true hle
  have h1 := (corner_le hlo).1
  have h2 := (corner_le hhi').1
  have lo1 : lo ∈ allE (rowIns rows hi.1 (hi.2 : Int) t) := by
    refine mem_allE.mpr ?_
    rw [rowIns_row _ _ _ _ _ h2]
    obtain ⟨_, k⟩ := mem_allC.mp hlo
    obtain ⟨_, k2⟩ := mem_allC.mp hhi'
    by_cases q : hi.1 = lo.1
    · rw [if_pos q, insAt_len]
      omega
    · rw [if_neg q]
      have z : rowT rows 0 ≠ [] := fun z => by
        unfold faceC at hhi
        rw [if_pos z] at hhi
        exact q (congrArg Prod.fst (List.mem_singleton.mp hhi))
      exact mem_allE.mp (P.full.ends z hlo)
  have lo1C := allE_allC lo1
  have inj : ∀ a ∈ allE rows, ∀ b ∈ allE rows, shI lo (shI hi a) = shI lo (shI hi b) → a = b := fun a _ b _ e => shI_inj hi (shI_inj lo e)
  have ht : ∀ e ∈ allE rows, tie? (rowIns (rowIns rows hi.1 (hi.2 : Int) t) lo.1 (lo.2 : Int) t) (shI lo (shI hi e)) = tie? rows e := fun e he => by rw [ins_tie lo1C, ins_tie hhi']
  have hu : tie? (rowIns (rowIns rows hi.1 (hi.2 : Int) t) lo.1 (lo.2 : Int) t) (shI lo hi) = some t := by rw [ins_tie lo1C, ins_new hhi']
  have hw : tie? (rowIns (rowIns rows hi.1 (hi.2 : Int) t) lo.1 (lo.2 : Int) t) lo = some t := ins_new lo1C
  have ne : shI lo hi ≠ lo := shI_ne lo hi
  obtain ⟨m1, m2⟩ := mate_new h' hu hw ne
  have hiN : hi ∈ allE (rowIns rows hi.1 (hi.2 : Int) t) := tie_mem (ins_new hhi')
  have old : ∀ d ∈ allE rows, shI hi d ∈ allE (rowIns rows hi.1 (hi.2 : Int) t) := fun d hd => by
    obtain ⟨s, es⟩ := tie_some hd
    exact tie_mem ((ins_tie (t := t) hhi' d).trans es)
  have hall : ∀ e ∈ allE (rowIns (rowIns rows hi.1 (hi.2 : Int) t) lo.1 (lo.2 : Int) t), e = shI lo hi ∨ e = lo ∨ ∃ d ∈ allE rows, shI lo (shI hi d) = e := fun e he => by
    rcases ins_all lo1C he with w | ⟨d, hd, w⟩
    · exact .inr (.inl w)
    · rcases ins_all hhi' hd with w2 | ⟨d2, hd2, w2⟩
      · exact .inl (by rw [← w, w2])
      · exact .inr (.inr ⟨d2, hd2, by rw [w2, w]⟩)
  have fst : ∀ e, (shI lo (shI hi e)).1 = e.1 := fun e => by rw [shI_fst, shI_fst]
  have hs : ∀ d ∈ allE rows, stp (rowIns (rowIns rows hi.1 (hi.2 : Int) t) lo.1 (lo.2 : Int) t) (shI lo (shI hi d)) = (let r := if stp rows d = hi then hi else shI hi (stp rows d); if r = lo then lo else shI lo r) := fun d hd => by
    unfold stp
    rw [mate_map h h' inj ht hd, ins_rot lo1C (old _ (mate_mem h hd)), ins_rot hhi' (mate_mem h hd)]
  have s1 : stp (rowIns (rowIns rows hi.1 (hi.2 : Int) t) lo.1 (lo.2 : Int) t) (shI lo hi) = shI lo lo := by unfold stp; rw [m1, ins_rotx lo1]
  have Lu := loc_at L hu
  have Lw := loc_at L hw
  rw [s1] at Lu
  by_cases q : lo = hi
  · rw [← q] at hu hw Lu hall hs ht
    have ct : c t = false := by
      cases z : c t
      · rfl
      · rw [z] at Lu
        cases w : g' (shI lo lo) <;> rw [w] at Lu <;> cases Lu
    have gl : Loc rows c fun d => g' (shI lo (shI lo d)) := fun d hd => by
      obtain ⟨s, es⟩ := tie_some hd
      have Ld := loc_at L (by rw [← q]; exact (ht d hd).trans es : tie? _ (shI lo (shI hi d)) = some s)
      have hsd := hs d hd
      rw [← q] at Ld
      rw [tieD_of es]
      show g' (shI lo (shI lo (stp rows d))) = Bool.xor (g' (shI lo (shI lo d))) (c s)
      by_cases z : stp rows d = lo
      · rw [hsd] at Ld
        simp only [if_pos z, if_pos] at Ld
        have xE : lo ∈ allE rows := by rw [← z]; exact (stp_inj h).to d hd
        have s2 : stp (rowIns (rowIns rows hi.1 (hi.2 : Int) t) lo.1 (lo.2 : Int) t) lo = shI lo (shI lo lo) := by
          unfold stp
          rw [m2, ins_rot lo1C hiN, ← q, ins_rotx xE, if_neg (shI_ne lo lo)]
        rw [s2, ct] at Lw
        rw [z, Lw, Ld]
        cases g' (shI lo (shI lo d)) <;> cases c s <;> rfl
      · rw [hsd] at Ld
        simp only [if_neg z] at Ld
        rw [if_neg (shI_ne lo _)] at Ld
        exact Ld
    obtain ⟨f, hf⟩ := H c _ gl
    have hu' := hu
    refine ⟨f, CutP.grow h h' (ι := fun e => shI lo (shI hi e)) inj (fun e he => by rw [← q]; rw [← q] at *; exact ht e he) fst (u := shI lo hi) (w := lo) (by rw [← q]; rw [← q] at *; exact hall) (by rw [← q]; rw [← q] at *; exact hu) (by rw [← q]; rw [← q] at *; exact hw) ne (fun _ _ => rfl) ?_ hf⟩
    rw [ct, shI_fst, ← q]
    cases f lo.1 <;> rfl
  · have z : rowT rows 0 ≠ [] := fun z => by
      unfold faceC at hhi
      rw [if_pos z] at hhi
      exact q (List.mem_singleton.mp hhi).symm
    have loE := P.full.ends z hlo
    have I := stp_inj h
    have hf : hi ∈ faceE rows lo := by
      unfold faceC at hhi
      rwa [if_neg z] at hhi
    have hiE := I.face_sub loE hi hf
    obtain ⟨p1, p2, p3, p4⟩ := I.perd loE
    obtain ⟨k, hk, ek⟩ := List.mem_map.mp hf
    have hk := List.mem_range.mp hk
    have ek : itr (stp rows) k lo = hi := ek
    have k1 : 1 ≤ k := by
      cases k with
      | zero => exact absurd ek q
      | succ => omega
    have dist : ∀ i j, i < j → j < per (stp rows) (allE rows) lo → itr (stp rows) i lo ≠ itr (stp rows) j lo := fun i j hij hj e => p4 (j - i) (by omega) (by omega) (I.back loE i (j - i) (by rw [show i + (j - i) = j by omega]; exact e.symm))
    have sl : shI hi lo = lo := shI_dn fun w => by
      rcases hle' with w2 | w2
      · omega
      · exact q (Prod.ext w2.1 (by omega))
    have slx : ∀ d, shI hi d = lo → d = lo := fun d e => shI_inj hi (by rw [e, sl])
    have hs1 : ∀ d ∈ allE rows, stp rows d = hi → stp (rowIns (rowIns rows hi.1 (hi.2 : Int) t) lo.1 (lo.2 : Int) t) (shI lo (shI hi d)) = shI lo hi := fun d hd e => by
      rw [hs d hd]
      show (if (if stp rows d = hi then hi else shI hi (stp rows d)) = lo then lo else shI lo (if stp rows d = hi then hi else shI hi (stp rows d))) = _
      rw [if_pos e, if_neg fun w => q w.symm]
    have hs2 : ∀ d ∈ allE rows, stp rows d = lo → stp (rowIns (rowIns rows hi.1 (hi.2 : Int) t) lo.1 (lo.2 : Int) t) (shI lo (shI hi d)) = lo := fun d hd e => by
      rw [hs d hd]
      show (if (if stp rows d = hi then hi else shI hi (stp rows d)) = lo then lo else shI lo (if stp rows d = hi then hi else shI hi (stp rows d))) = _
      rw [e, if_neg q, sl, if_pos rfl]
    have hs3 : ∀ d ∈ allE rows, stp rows d ≠ hi → stp rows d ≠ lo → stp (rowIns (rowIns rows hi.1 (hi.2 : Int) t) lo.1 (lo.2 : Int) t) (shI lo (shI hi d)) = shI lo (shI hi (stp rows d)) := fun d hd e1 e2 => by
      rw [hs d hd]
      show (if (if stp rows d = hi then hi else shI hi (stp rows d)) = lo then lo else shI lo (if stp rows d = hi then hi else shI hi (stp rows d))) = _
      rw [if_neg e1, if_neg fun w => e2 (slx _ w)]
    have s2 : stp (rowIns (rowIns rows hi.1 (hi.2 : Int) t) lo.1 (lo.2 : Int) t) lo = shI lo (shI hi hi) := by
      unfold stp
      rw [m2, ins_rot lo1C hiN, ins_rotx hiE, if_neg fun w => q (slx _ w).symm]
    rw [s2] at Lw
    rw [show shI lo lo = shI lo (shI hi lo) by rw [sl]] at Lu
    let G : NE → Bool := fun d => g' (shI lo (shI hi d))
    have LE : ∀ d ∈ allE rows, stp rows d ≠ hi → stp rows d ≠ lo → G (stp rows d) = Bool.xor (G d) (c (tieD rows d)) := fun d hd e1 e2 => by
      obtain ⟨s, es⟩ := tie_some hd
      have Ld := loc_at L ((ht d hd).trans es)
      rw [hs3 d hd e1 e2] at Ld
      rw [tieD_of es]
      exact Ld
    have LH : ∀ d ∈ allE rows, stp rows d = hi → g' (shI lo hi) = Bool.xor (G d) (c (tieD rows d)) := fun d hd e1 => by
      obtain ⟨s, es⟩ := tie_some hd
      have Ld := loc_at L ((ht d hd).trans es)
      rw [hs1 d hd e1] at Ld
      rw [tieD_of es]
      exact Ld
    have LL : ∀ d ∈ allE rows, stp rows d = lo → g' lo = Bool.xor (G d) (c (tieD rows d)) := fun d hd e1 => by
      obtain ⟨s, es⟩ := tie_some hd
      have Ld := loc_at L ((ht d hd).trans es)
      rw [hs2 d hd e1] at Ld
      rw [tieD_of es]
      exact Ld
    have N1 : G lo = Bool.xor (g' (shI lo hi)) (c t) := Lu
    have N2 : G hi = Bool.xor (g' lo) (c t) := Lw
    let A : NE → Prop := fun d => ∃ i, i < k ∧ d = itr (stp rows) i lo
    have hiA : ¬ A hi := fun ⟨i, hi1, e⟩ => dist i k hi1 hk (by rw [ek, e])
    have loA : A lo := ⟨0, k1, rfl⟩
    have in1 : ∀ i, i + 1 < k → stp rows (itr (stp rows) i lo) ≠ hi ∧ stp rows (itr (stp rows) i lo) ≠ lo := fun i hi1 => ⟨fun e => dist (i + 1) k hi1 hk (by rw [ek]; exact e), fun e => dist 0 (i + 1) (by omega) (by omega) e.symm⟩
    have in2 : ∀ i, i + 1 = k → stp rows (itr (stp rows) i lo) = hi := fun i hi1 => by rw [← ek, ← hi1]; rfl
    classical
    have gl : Loc rows c fun d => if A d then Bool.xor (G d) (Bool.xor (G lo) (g' lo)) else G d := fun d hd => by
      show (if A (stp rows d) then Bool.xor (G (stp rows d)) (Bool.xor (G lo) (g' lo)) else G (stp rows d)) = Bool.xor (if A d then Bool.xor (G d) (Bool.xor (G lo) (g' lo)) else G d) (c (tieD rows d))
      by_cases a : A d
      · rw [if_pos a]
        obtain ⟨i, i1, i2⟩ := a
        by_cases ik : i + 1 < k
        · obtain ⟨n1, n2⟩ := in1 i ik
          have sA : A (stp rows d) := ⟨i + 1, ik, by rw [i2]; rfl⟩
          rw [if_pos sA, LE d hd (by rw [i2]; exact n1) (by rw [i2]; exact n2)]
          cases G d <;> cases c (tieD rows d) <;> cases Bool.xor (G lo) (g' lo) <;> rfl
        · have e1 : stp rows d = hi := by rw [i2]; exact in2 i (by omega)
          have h3 := LH d hd e1
          rw [e1, if_neg hiA, N2]
          rw [h3] at N1
          rw [N1]
          cases G d <;> cases c (tieD rows d) <;> cases c t <;> cases g' lo <;> rfl
      · rw [if_neg a]
        by_cases e1 : stp rows d = lo
        · rw [e1, if_pos loA, ← LL d hd e1]
          cases G lo <;> cases g' lo <;> rfl
        · have sA : ¬ A (stp rows d) := fun ⟨i, i1, i2⟩ => by
            cases i with
            | zero => exact e1 i2
            | succ i => exact a ⟨i, by omega, I.inj _ hd _ (I.itr loE i) i2⟩
          rw [if_neg sA]
          refine LE d hd (fun e2 => a ⟨k - 1, by omega, I.inj _ hd _ (I.itr loE _) ?_⟩) e1
          rw [e2, in2 (k - 1) (by omega)]
    obtain ⟨f, hf⟩ := H c _ gl
    have ff : ∀ d ∈ allE rows, f (stp rows d).1 = Bool.xor (f d.1) (c (tieD rows d)) := fun d hd => by
      rw [hf d hd]
      show f (mate rows d).1 = _
      cases f d.1 <;> cases f (mate rows d).1 <;> rfl
    have tel : ∀ i, i < k → G (itr (stp rows) i lo) = Bool.xor (G lo) (Bool.xor (f lo.1) (f (itr (stp rows) i lo).1)) := by
      intro i
      induction i with
      | zero =>
        intro _
        show G lo = Bool.xor (G lo) (Bool.xor (f lo.1) (f lo.1))
        cases G lo <;> cases f lo.1 <;> rfl
      | succ i ih =>
        intro hi1
        have hd := I.itr loE i
        obtain ⟨n1, n2⟩ := in1 i hi1
        show G (stp rows (itr (stp rows) i lo)) = Bool.xor (G lo) (Bool.xor (f lo.1) (f (stp rows (itr (stp rows) i lo)).1))
        rw [LE _ hd n1 n2, ih (by omega), ff _ hd]
        cases G lo <;> cases f lo.1 <;> cases f (itr (stp rows) i lo).1 <;> cases c (tieD rows (itr (stp rows) i lo)) <;> rfl
    refine ⟨f, CutP.grow h h' (ι := fun e => shI lo (shI hi e)) inj ht fst (u := shI lo hi) (w := lo) hall hu hw ne (fun _ _ => rfl) ?_ hf⟩
    have hd := I.itr loE (k - 1)
    have h3 := LH _ hd (in2 (k - 1) (by omega))
    have h4 := ff _ hd
    rw [in2 (k - 1) (by omega)] at h4
    rw [tel (k - 1) (by omega)] at h3
    rw [h3] at N1
    rw [shI_fst, h4]
    revert N1
    cases G lo <;> cases f lo.1 <;> cases f (itr (stp rows) (k - 1) lo).1 <;> cases c (tieD rows (itr (stp rows) (k - 1) lo)) <;> cases c t <;> simp
theorem Made.plane {rows : RowsT} (h : Made rows) : Plane rows := by
  induction h with
  | bare n => exact plane_bare n
  | spike hm he ht hn ih => exact plane_spike hm.props he (Made.spike hm he ht hn).props.two ih
  | @link rows a b t hm ha hb ht ih =>
    have P := hm.props
    have h2 := (Made.link hm ha hb ht).props.two
    have hb' := faceC_mem P ha hb
    unfold ins2 at h2 ⊢
    by_cases q : leE a b = true
    · rw [if_pos q] at h2 ⊢
      exact plane_link P ha hb q h2 ih
    · rw [if_neg q] at h2 ⊢
      refine plane_link P hb' ?_ ?_ h2 ih
      · unfold faceC at hb ⊢
        by_cases z : rowT rows 0 = []
        · rw [if_pos z] at hb ⊢
          rw [List.mem_singleton.mp hb]
          exact List.mem_singleton.mpr rfl
        · rw [if_neg z] at hb ⊢
          exact (stp_inj P.two).symm (P.full.ends z ha) hb
      · unfold leE at q ⊢
        have q' : ¬ (a.1 < b.1 ∨ (a.1 = b.1 ∧ a.2 ≤ b.2)) := fun w => q (decide_eq_true w)
        exact decide_eq_true (by omega)
theorem Plane.iso {rows rows' : RowsT} (h : Twice rows) (h' : Twice rows') {θ : NE → NE} {σ : Nat → Nat} (hm : ∀ e ∈ allE rows, θ e ∈ allE rows') (inj : ∀ a ∈ allE rows, ∀ b ∈ allE rows, θ a = θ b → a = b) (ht : ∀ e ∈ allE rows, tie? rows' (θ e) = tie? rows e) (hr : ∀ e ∈ allE rows, θ (rot rows 1 e) = rot rows' 1 (θ e)) (hv : ∀ e ∈ allE rows, (θ e).1 = σ e.1) (hi : ∀ v w, v < rows.length → w < rows.length → σ v = σ w → v = w) (sur : ∀ e ∈ allE rows', ∃ d ∈ allE rows, θ d = e) (H : Plane rows) : Plane rows' := fun c g L => by
  have ms : ∀ e ∈ allE rows, mate rows' (θ e) = θ (mate rows e) := fun e he => mate_map h h' inj ht he
  have gl : Loc rows c fun d => g (θ d) := fun d hd => by
    obtain ⟨s, es⟩ := tie_some hd
    have Ld := loc_at L ((ht d hd).trans es)
    rw [tieD_of es]
    show g (θ (rot rows 1 (mate rows d))) = _
    rw [hr _ (mate_mem h hd), ← ms d hd]
    exact Ld
  obtain ⟨f, hf⟩ := H c _ gl
  classical
  have fw : ∀ v, v < rows.length → (fun w => if z : ∃ v, v < rows.length ∧ σ v = w then f z.choose else false) (σ v) = f v := fun v hv2 => by
    have z : ∃ u, u < rows.length ∧ σ u = σ v := ⟨v, hv2, rfl⟩
    show (if z : ∃ u, u < rows.length ∧ σ u = σ v then f z.choose else false) = f v
    rw [dif_pos z, hi _ _ z.choose_spec.1 hv2 z.choose_spec.2]
  refine ⟨fun w => if z : ∃ v, v < rows.length ∧ σ v = w then f z.choose else false, fun e he => ?_⟩
  obtain ⟨d, hd, rfl⟩ := sur e he
  obtain ⟨s, es⟩ := tie_some hd
  have md := mate_mem h hd
  rw [ms d hd, hv d hd, hv _ md]
  have e1 := fw _ (allE_row hd)
  have e2 := fw _ (allE_row md)
  rw [e1, e2, ← hf d hd, tieD_of ((ht d hd).trans es), tieD_of es]
theorem turn_get (l : List Str) {k p : Nat} (hk : k ≤ l.length) (hp : p < l.length) : (l.drop k ++ l.take k)[(p + (l.length - k)) % l.length]? = l[p]? := by
  have hd : (l.drop k).length = l.length - k := List.length_drop
  by_cases q : k ≤ p
  · have e : (p + (l.length - k)) % l.length = p - k := by
      rw [show p + (l.length - k) = (p - k) + l.length by omega, Nat.add_mod_right, Nat.mod_eq_of_lt (by omega)]
    rw [e, List.getElem?_append_left (by omega), List.getElem?_drop, show k + (p - k) = p by omega]
  · rw [Nat.mod_eq_of_lt (by omega), List.getElem?_append_right (by omega), hd, show p + (l.length - k) - (l.length - k) = p by omega, List.getElem?_take_of_lt (by omega)]
theorem All2.nth {α β : Type} {R : α → β → Prop} : ∀ {a : List α} {b : List β}, All2 R a b → ∀ {i : Nat} {x : α}, a[i]? = some x → ∃ y, b[i]? = some y ∧ R x y
  | _, _, .nil, i, x, h => by cases h
  | _, _, .cons r t, 0, x, h => by
    injection h with h
    subst h
    exact ⟨_, rfl, r⟩
  | _, _, .cons r t, i + 1, x, h => All2.nth t (i := i) h
theorem GNet.plane {rows : RowsT} {m : Nat} (h : GNet rows m) : Plane rows := by
  have P := h.props
  obtain ⟨rows0, done, hm, hp, ha⟩ := h.src
  have P0 := hm.props
  obtain ⟨_, hnames⟩ := rot_ties ha
  have ex : ∀ v, v < rows0.length → ∃ w k, w < rows.length ∧ pnm rows w = pnm rows0 v ∧ k ≤ (rowT rows0 v).length ∧ rowT rows w = (rowT rows0 v).drop k ++ (rowT rows0 v).take k := fun v hv => by
    have hx := List.getElem?_eq_getElem hv
    obtain ⟨i, hi⟩ := List.mem_iff_getElem?.mp (hp.mem_iff.mp (List.mem_of_getElem? hx))
    obtain ⟨y, hy, r1, k, r2, r3⟩ := All2.nth ha hi
    refine ⟨i, k, (List.getElem?_eq_some_iff.mp hy).1, by rw [pnm_at hy, pnm_at hx, r1], by rw [row_some hx]; exact r2, by rw [row_some hy, row_some hx, r3]⟩
  classical
  have ex2 : ∀ v, ∃ wk : Nat × Nat, v < rows0.length → wk.1 < rows.length ∧ pnm rows wk.1 = pnm rows0 v ∧ wk.2 ≤ (rowT rows0 v).length ∧ rowT rows wk.1 = (rowT rows0 v).drop wk.2 ++ (rowT rows0 v).take wk.2 := fun v => by
    by_cases hv : v < rows0.length
    · obtain ⟨w, k, q⟩ := ex v hv
      exact ⟨(w, k), fun _ => q⟩
    · exact ⟨(0, 0), fun w => absurd w hv⟩
  obtain ⟨F, hF⟩ := Classical.axiomOfChoice ex2
  have len : ∀ v, v < rows0.length → (rowT rows (F v).1).length = (rowT rows0 v).length := fun v hv => by
    rw [(hF v hv).2.2.2, List.length_append, List.length_drop, List.length_take]
    have := (hF v hv).2.2.1
    omega
  have si : ∀ v w, v < rows0.length → w < rows0.length → (F v).1 = (F w).1 → v = w := fun v w hv hw e => pnm_inj P0.nd hv hw (by rw [← (hF v hv).2.1, e, (hF w hw).2.1])
  have back : ∀ {p n k : Nat}, p < n → k ≤ n → ((p + (n - k)) % n + k) % n = p := fun {p n k} h1 h2 => by
    rw [Nat.mod_add_mod, show p + (n - k) + k = p + n by omega, Nat.add_mod_right, Nat.mod_eq_of_lt h1]
  refine Plane.iso (rows := rows0) P0.two P.two (θ := fun e => ((F e.1).1, (e.2 + ((rowT rows0 e.1).length - (F e.1).2)) % (rowT rows0 e.1).length)) (σ := fun v => (F v).1) (fun e he => ?_) (fun a ha2 b hb2 e => ?_) (fun e he => ?_) (fun e he => ?_) (fun _ _ => rfl) si (fun e he => ?_) hm.plane
  · have hv := allE_row he
    have hp2 := mem_allE.mp he
    refine mem_allE.mpr ?_
    show _ % _ < (rowT rows (F e.1).1).length
    rw [len _ hv]
    exact Nat.mod_lt _ (by omega)
  · have e0 := congrArg Prod.fst e
    have e1 : (F a.1).1 = (F b.1).1 := e0
    have e2 := congrArg Prod.snd e
    have h1 := si _ _ (allE_row ha2) (allE_row hb2) e1
    have pa := mem_allE.mp ha2
    have pb := mem_allE.mp hb2
    simp only [h1] at e2 pa
    have hk := (hF _ (allE_row hb2)).2.2.1
    refine Prod.ext h1 ?_
    rw [← back pa hk, e2, back pb hk]
  · have hv := allE_row he
    have hp2 := mem_allE.mp he
    unfold tie?
    show (rowT rows (F e.1).1)[_]? = _
    rw [(hF _ hv).2.2.2]
    exact turn_get _ (hF _ hv).2.2.1 hp2
  · have hv := allE_row he
    unfold rot
    show ((F e.1).1, _) = ((F e.1).1, _ % (rowT rows (F e.1).1).length)
    rw [len _ hv]
    refine Prod.ext rfl ?_
    show ((e.2 + 1) % (rowT rows0 e.1).length + ((rowT rows0 e.1).length - (F e.1).2)) % (rowT rows0 e.1).length = ((e.2 + ((rowT rows0 e.1).length - (F e.1).2)) % (rowT rows0 e.1).length + 1) % (rowT rows0 e.1).length
    rw [Nat.mod_add_mod, Nat.mod_add_mod]
    congr 1
    omega
  · have hv := allE_row he
    have hp2 := mem_allE.mp he
    have hn : pnm rows e.1 ∈ rows0.map (·.1) := by
      rw [(hp.map (·.1)).mem_iff, hnames]
      exact pnm_in hv
    obtain ⟨x, hx, ex3⟩ := List.mem_map.mp hn
    obtain ⟨v, hv0⟩ := List.mem_iff_getElem?.mp hx
    have hvl := (List.getElem?_eq_some_iff.mp hv0).1
    have e1 : (F v).1 = e.1 := pnm_inj P.nd (hF v hvl).1 hv (by rw [(hF v hvl).2.1, pnm_at hv0, ex3])
    have l1 := len v hvl
    rw [e1] at l1
    have hk := (hF v hvl).2.2.1
    rw [l1] at hp2
    refine ⟨(v, (e.2 + (F v).2) % (rowT rows0 v).length), mem_allE.mpr (Nat.mod_lt _ (by omega)), ?_⟩
    refine Prod.ext e1 ?_
    show ((e.2 + (F v).2) % (rowT rows0 v).length + ((rowT rows0 v).length - (F v).2)) % (rowT rows0 v).length = e.2
    rw [Nat.mod_add_mod, show e.2 + (F v).2 + ((rowT rows0 v).length - (F v).2) = e.2 + (rowT rows0 v).length by omega, Nat.add_mod_right, Nat.mod_eq_of_lt hp2]
end Tw
set_option Elab.async false
set_option linter.all false
set_option maxRecDepth 100000
set_option maxHeartbeats 4000000
namespace Tw
open PySem PySem.Spec L2 TL
open PyProof.Rows hiding St
theorem sp_xs {f : Nat → Nat} {n v : Nat} (h : Spn ((List.range n).map f) v) : ∃ w, w < 2 ^ n ∧ xs f n w = v := by
  induction h with
  | zero => exact ⟨0, Nat.two_pow_pos _, xs_zero f n⟩
  | @add r v hr _ ih =>
    obtain ⟨i, hi, rfl⟩ := List.mem_map.mp hr
    have hi := List.mem_range.mp hi
    obtain ⟨w, w1, w2⟩ := ih
    refine ⟨w ^^^ 2 ^ i, Nat.xor_lt_two_pow w1 (Nat.pow_lt_pow_right (by decide) hi), ?_⟩
    rw [xs_xor, w2]
    congr 1
    have : ∀ m, i < m → xs f m (2 ^ i) = f i := by
      intro m
      induction m with
      | zero => intro h; exact absurd h (Nat.not_lt_zero _)
      | succ m ihm =>
        intro hm
        by_cases q : i = m
        · subst q; exact xs_one f i
        · show xs f m (2 ^ i) ^^^ _ = f i
          rw [ihm (by omega), Nat.testBit_two_pow_of_ne q, if_neg Bool.false_ne_true, Nat.xor_zero]
    exact this n hi
end Tw
set_option Elab.async false
set_option linter.all false
set_option maxRecDepth 100000
set_option maxHeartbeats 4000000
namespace Tw
open PySem PySem.Spec L2 TL
open PyProof.Rows hiding St
section
variable {rows : RowsT}
theorem co_walk (h : Twice rows) {c : Str → Bool} {f : Nat → Bool} (hc : CutP rows c f) {e : NE} (he : e ∈ allE rows) : ∀ n, px (fun d => c (tieD rows d)) ((List.range n).map fun i => itr (stp rows) i e) = xor (f e.1) (f (itr (stp rows) n e).1)
  | 0 => (Bool.xor_self _).symm
  | n + 1 => by
    have hd := (stp_inj h).itr he n
    rw [List.range_succ, List.map_append, px_app, co_walk h hc he n]
    simp only [List.map_cons, List.map_nil, px, Bool.xor_false]
    rw [hc _ hd]
    show _ = Bool.xor (f e.1) (f (mate rows (itr (stp rows) n e)).1)
    cases f e.1 <;> cases f (itr (stp rows) n e).1 <;> cases f (mate rows (itr (stp rows) n e)).1 <;> rfl
theorem co_even (h : Twice rows) {c : Str → Bool} {f : Nat → Bool} (hc : CutP rows c f) {e : NE} (he : e ∈ allE rows) : px (fun d => c (tieD rows d)) (faceE rows e) = false := by
  have := co_walk h hc he (per (stp rows) (allE rows) e)
  rw [((stp_inj h).perd he).2.2.1, Bool.xor_self] at this
  exact this
/-- the face's first end -/
noncomputable def repF (rows : RowsT) (e : NE) : NE := ((allE rows).find? fun d => decide (d ∈ faceE rows e)).getD e
theorem repF_P (h : Twice rows) {e : NE} (he : e ∈ allE rows) : repF rows e ∈ allE rows ∧ e ∈ faceE rows (repF rows e) ∧ repF rows e ∈ faceE rows e := by
  have I := stp_inj h
  have hs := I.self_mem he
  unfold repF
  cases q : (allE rows).find? fun d => decide (d ∈ faceE rows e) with
  | none => exact absurd (decide_eq_true hs) (by have := List.find?_eq_none.mp q e he; exact this)
  | some d =>
    have h0 : decide (d ∈ faceE rows e) = true := List.find?_some (p := fun d => decide (d ∈ faceE rows e)) q
    have h1 := of_decide_eq_true h0
    exact ⟨List.mem_of_find?_eq_some q, I.symm he h1, h1⟩
theorem repF_step (h : Twice rows) {e : NE} (he : e ∈ allE rows) : repF rows (stp rows e) = repF rows e := by
  have I := stp_inj h
  have hs : stp rows e ∈ faceE rows e := I.step_mem he (I.self_mem he)
  have hp : (fun d => decide (d ∈ faceE rows (stp rows e))) = fun d => decide (d ∈ faceE rows e) := by
    funext d
    exact decide_eq_decide.mpr (I.same he hs)
  have hm := repF_P h (I.to e he)
  have hm2 := repF_P h he
  unfold repF at hm hm2 ⊢
  rw [hp] at hm ⊢
  cases q : (allE rows).find? fun d => decide (d ∈ faceE rows e) with
  | none => exact absurd (decide_eq_true (I.self_mem he)) (by have := List.find?_eq_none.mp q e he; exact this)
  | some d => rfl
open Classical in
noncomputable def ixF (rows : RowsT) (e : NE) : Nat := if h : ∃ k, k < per (stp rows) (allE rows) (repF rows e) ∧ e = itr (stp rows) k (repF rows e) then h.choose else 0
theorem ixF_P (h : Twice rows) {e : NE} (he : e ∈ allE rows) : ixF rows e < per (stp rows) (allE rows) (repF rows e) ∧ e = itr (stp rows) (ixF rows e) (repF rows e) := by
  obtain ⟨_, h2, _⟩ := repF_P h he
  have ex : ∃ k, k < per (stp rows) (allE rows) (repF rows e) ∧ e = itr (stp rows) k (repF rows e) := by
    obtain ⟨k, hk, ek⟩ := List.mem_map.mp h2
    exact ⟨k, List.mem_range.mp hk, ek.symm⟩
  unfold ixF
  rw [dif_pos ex]
  exact ex.choose_spec
/-- even on each face: sums along the faces come out -/
theorem loc_of_even (h : Twice rows) {c : Str → Bool} (hc : ∀ e ∈ allE rows, px (fun d => c (tieD rows d)) (faceE rows e) = false) : Loc rows c fun e => px (fun d => c (tieD rows d)) ((List.range (ixF rows e)).map fun i => itr (stp rows) i (repF rows e)) := fun e he => by
  have I := stp_inj h
  obtain ⟨r1, _, _⟩ := repF_P h he
  obtain ⟨p1, p2, p3, p4⟩ := I.perd r1
  obtain ⟨k1, k2⟩ := ixF_P h he
  obtain ⟨m1, m2⟩ := ixF_P h (I.to e he)
  rw [repF_step h he] at m1 m2
  show px _ ((List.range (ixF rows (stp rows e))).map fun i => itr (stp rows) i (repF rows (stp rows e))) = _
  rw [repF_step h he]
  have se : stp rows e = itr (stp rows) (ixF rows e + 1) (repF rows e) := by
    show _ = stp rows (itr (stp rows) (ixF rows e) (repF rows e))
    rw [← k2]
  have nx : px (fun d => c (tieD rows d)) ((List.range (ixF rows e + 1)).map fun i => itr (stp rows) i (repF rows e)) = xor (px (fun d => c (tieD rows d)) ((List.range (ixF rows e)).map fun i => itr (stp rows) i (repF rows e))) (c (tieD rows e)) := by
    rw [List.range_succ, List.map_append, px_app]
    simp only [List.map_cons, List.map_nil, px, Bool.xor_false]
    rw [← k2]
  have dist : ∀ i j, i < j → j < per (stp rows) (allE rows) (repF rows e) → itr (stp rows) i (repF rows e) ≠ itr (stp rows) j (repF rows e) := fun i j hij hj w => p4 (j - i) (by omega) (by omega) (I.back r1 i (j - i) (by rw [show i + (j - i) = j by omega]; exact w.symm))
  by_cases q : ixF rows e + 1 < per (stp rows) (allE rows) (repF rows e)
  · have ei : ixF rows (stp rows e) = ixF rows e + 1 := by
      generalize ixF rows (stp rows e) = m at m1 m2
      have m3 := m2.symm.trans se
      rcases Nat.lt_trichotomy m (ixF rows e + 1) with w | w | w
      · exact absurd m3 (dist _ _ w q)
      · exact w
      · exact absurd m3.symm (dist _ _ w m1)
    rw [ei, nx]
  · have eq : ixF rows e + 1 = per (stp rows) (allE rows) (repF rows e) := by omega
    have s0 : stp rows e = repF rows e := by rw [se, eq, p3]
    have ei : ixF rows (stp rows e) = 0 := by
      refine Classical.byContradiction fun w => ?_
      rw [s0] at m2
      have := dist 0 (ixF rows (stp rows e)) (by omega) m1
      rw [s0] at this
      exact this m2
    rw [ei, ← nx, eq]
    exact (hc _ r1).symm
theorem px_face {l : List NE} (h : Twice rows) (hl : l.Nodup) (hs : ∀ x ∈ l, x ∈ allE rows) {e : NE} (he : e ∈ allE rows) : px (fun x => decide (tieD rows x = tieD rows e)) l = xor (decide (e ∈ l)) (decide (mate rows e ∈ l)) := by
  induction l with
  | nil => rfl
  | cons a r ih =>
    have nd := List.nodup_cons.mp hl
    simp only [px]
    rw [ih nd.2 fun x hx => hs x (List.mem_cons_of_mem _ hx)]
    have ha := hs a List.mem_cons_self
    obtain ⟨t, ht⟩ := tie_some he
    obtain ⟨m1, m2, m3⟩ := mate_of h ht
    have key : decide (tieD rows a = tieD rows e) = xor (decide (a = e)) (decide (a = mate rows e)) := by
      obtain ⟨u, hu⟩ := tie_some ha
      rw [tieD_of hu, tieD_of ht]
      by_cases q : u = t
      · subst q
        rcases m3 a hu with w | w
        · rw [decide_eq_true rfl, decide_eq_true w, w, decide_eq_false (fun z => m2 z.symm)]; rfl
        · rw [decide_eq_true rfl, decide_eq_true w, w, decide_eq_false m2]; rfl
      · rw [decide_eq_false q, decide_eq_false, decide_eq_false]
        · rfl
        · intro w; rw [w, m1] at hu; exact q (Option.some.inj hu).symm
        · intro w; rw [w, ht] at hu; exact q (Option.some.inj hu).symm
    rw [key]
    have e1 : decide (e ∈ a :: r) = xor (decide (a = e)) (decide (e ∈ r)) := by
      by_cases q : a = e
      · subst q; simp [nd.1]
      · have : ¬ e = a := fun w => q w.symm
        simp [q, this]
    have e2 : decide (mate rows e ∈ a :: r) = xor (decide (a = mate rows e)) (decide (mate rows e ∈ r)) := by
      by_cases q : a = mate rows e
      · rw [decide_eq_true q, ← q]; simp [nd.1]
      · have : ¬ mate rows e = a := fun w => q w.symm
        simp [q, this]
    rw [e1, e2]
    cases decide (a = e) <;> cases decide (a = mate rows e) <;> cases decide (e ∈ r) <;> cases decide (mate rows e ∈ r) <;> rfl
theorem face_stp (h : Twice rows) {f : List NE} (hf : f ∈ facesL rows) {e : NE} (he : e ∈ allE rows) : stp rows e ∈ f ↔ e ∈ f := by
  have I := stp_inj h
  have RP := rgs_P h (allE rows) fun e he => he
  obtain ⟨d, hd, rfl⟩ := RP.fc f hf
  have hs : stp rows e ∈ faceE rows e := I.step_mem he (I.self_mem he)
  constructor
  · intro w
    have h1 := I.symm hd w
    have h2 := (I.same he hs).mp h1
    exact I.symm he h2
  · intro w
    exact I.step_mem hd w
theorem coplane (h : Twice rows) (hp : Plane rows) {c : Str → Bool} (hc : RoundP rows c) : ∃ G : NE → Bool, (∀ e ∈ allE rows, G (stp rows e) = G e) ∧ ∀ e ∈ allE rows, c (tieD rows e) = xor (G e) (G (mate rows e)) := by
  generalize eN : (uniq (ties rows)).length = N
  generalize eF : (facesL rows).length = F
  let tl : Nat → Str := fun i => (uniq (ties rows)).getD i default
  let fc : Nat → List NE := fun j => (facesL rows).getD j []
  let f : Nat → Nat := fun j => mk (fun i => px (fun e => decide (tieD rows e = tl i)) (fc j)) N
  have RP := rgs_P h (allE rows) fun e he => he
  have tlm : ∀ i, i < N → tl i ∈ uniq (ties rows) := fun i hi => by
    show (uniq (ties rows)).getD i default ∈ _
    rw [List.getD_eq_getElem?_getD, List.getElem?_eq_getElem (by omega)]
    exact List.getElem_mem _
  have fcm : ∀ j, j < F → fc j ∈ facesL rows := fun j hj => by
    show (facesL rows).getD j [] ∈ _
    rw [List.getD_eq_getElem?_getD, List.getElem?_eq_getElem (by omega)]
    exact List.getElem_mem _
  have pxu : ∀ g : Str → Bool, px g (uniq (ties rows)) = px (fun i => g (tl i)) (List.range N) := fun g => by
    have : uniq (ties rows) = (List.range N).map tl := by
      refine List.ext_getElem? fun i => ?_
      rw [List.getElem?_map]
      by_cases q : i < N
      · rw [List.getElem?_range q, List.getElem?_eq_getElem (by omega)]
        show _ = some ((uniq (ties rows)).getD i default)
        rw [List.getD_eq_getElem?_getD, List.getElem?_eq_getElem (by omega)]
        rfl
      · rw [List.getElem?_eq_none (by omega), List.getElem?_eq_none (by rw [List.length_range]; omega)]
        rfl
    conv => lhs; rw [this]
    rw [px_map]
  have tie_ix : ∀ t ∈ ties rows, ∃ i, i < N ∧ tl i = t := fun t ht => by
    obtain ⟨i, hi⟩ := List.mem_iff_getElem?.mp (mem_uniqT.mpr ht)
    have hl := (List.getElem?_eq_some_iff.mp hi).1
    refine ⟨i, by omega, ?_⟩
    show (uniq (ties rows)).getD i default = t
    rw [List.getD_eq_getElem?_getD, hi]
    rfl
  rcases fred N ((List.range F).map f) (mk (fun i => c (tl i)) N) (fun r hr => by
    obtain ⟨j, _, rfl⟩ := List.mem_map.mp hr
    exact mk_lt _ _) (mk_lt _ _) with hs | ⟨w, w1, w2, w3⟩
  · obtain ⟨u, _, hu⟩ := sp_xs hs
    refine ⟨fun e => px (fun j => u.testBit j && decide (e ∈ fc j)) (List.range F), fun e he => px_congr fun j hj => ?_, fun e he => ?_⟩
    · rw [decide_eq_decide.mpr (face_stp h (fcm j (List.mem_range.mp hj)) he)]
    · obtain ⟨i, hi, ei⟩ := tie_ix _ (tieD_mem he)
      have e1 : (xs f F u).testBit i = (mk (fun i => c (tl i)) N).testBit i := by rw [hu]
      rw [xs_bit, mk_bit _ _ _ hi, ei] at e1
      rw [← e1, ← px_xor]
      refine px_congr fun j hj => ?_
      have hf := fcm j (List.mem_range.mp hj)
      obtain ⟨d, hd, ed⟩ := RP.fc _ hf
      have I := stp_inj h
      rw [mk_bit _ _ _ hi, ei, px_face h (by rw [ed]; exact I.face_nodup hd) (by rw [ed]; exact I.face_sub hd) he]
      cases u.testBit j <;> cases decide (e ∈ fc j) <;> cases decide (mate rows e ∈ fc j) <;> rfl
  · let wf : Str → Bool := fun t => px (fun i => w.testBit i && decide (tl i = t)) (List.range N)
    have tlinj : ∀ i j, i < N → j < N → tl i = tl j → i = j := fun i j hi hj e => by
      have nd := (uniq_props (ties rows)).1
      refine (List.getElem?_inj (l := uniq (ties rows)) (by omega) nd).mp ?_
      have e2 : (uniq (ties rows)).getD i default = (uniq (ties rows)).getD j default := e
      rw [List.getD_eq_getElem?_getD, List.getD_eq_getElem?_getD, List.getElem?_eq_getElem (by omega), List.getElem?_eq_getElem (by omega)] at e2
      rw [List.getElem?_eq_getElem (by omega), List.getElem?_eq_getElem (by omega)]
      exact congrArg some e2
    have wft : ∀ i, i < N → wf (tl i) = w.testBit i := fun i hi => by
      rw [← px_at hi fun j => w.testBit j]
      refine px_congr fun j hj => ?_
      rw [Bool.and_comm]
      congr 1
      exact decide_eq_decide.mpr ⟨fun e => tlinj j i (List.mem_range.mp hj) hi e, fun e => by rw [e]⟩
    have ev : ∀ e ∈ allE rows, px (fun d => wf (tieD rows d)) (faceE rows e) = false := fun e he => by
      obtain ⟨g, hg, heg⟩ := List.mem_flatten.mp (RP.all e he)
      obtain ⟨d, hd, ed⟩ := RP.fc g hg
      have I := stp_inj h
      have e1 : px (fun d => wf (tieD rows d)) g = false := by
        obtain ⟨j, hj⟩ := List.mem_iff_getElem?.mp hg
        have hjl := (List.getElem?_eq_some_iff.mp hj).1
        have hjF : j < F := by rw [← eF]; exact hjl
        have ef : fc j = g := by
          show (facesL rows).getD j [] = g
          rw [List.getD_eq_getElem?_getD, show (facesL rows)[j]? = some g from hj]
          rfl
        have z := w2 (f j) (List.mem_map.mpr ⟨j, List.mem_range.mpr hjF, rfl⟩)
        rw [← z]
        unfold dot
        have z2 : px (fun i => w.testBit i && (f j).testBit i) (List.range N) = px (fun i => px (fun d => w.testBit i && decide (tieD rows d = tl i)) g) (List.range N) := px_congr fun i hi => by
          rw [mk_bit _ _ _ (List.mem_range.mp hi), ef, px_and]
        rw [z2, px_swap]
        refine px_congr fun d _ => px_congr fun i _ => ?_
        congr 1
        exact decide_eq_decide.mpr ⟨fun e => e.symm, fun e => e.symm⟩
      rw [← e1, ed]
      rw [ed] at heg
      refine px_perm _ ((List.perm_ext_iff_of_nodup (I.face_nodup he) (I.face_nodup hd)).mpr fun x => I.same hd heg)
    obtain ⟨g, hg⟩ := hp wf _ (loc_of_even h ev)
    have rc := round_cut h hc hg
    rw [pxu] at rc
    have : dot N w (mk (fun i => c (tl i)) N) = px (fun i => c (tl i) && wf (tl i)) (List.range N) := px_congr fun i hi => by
      rw [mk_bit _ _ _ (List.mem_range.mp hi), wft i (List.mem_range.mp hi), Bool.and_comm]
    rw [this, rc] at w3
    cases w3
end
end Tw
set_option Elab.async false
set_option linter.all false
set_option maxRecDepth 100000
set_option maxHeartbeats 4000000
namespace Tw
open PySem PySem.Spec L2 TL
open PyProof.Rows hiding St
def fkI (i : Int) : Str := (Str.ofString "f") ++ (toString i : Str)
theorem fk_small : ∀ k : Nat, k < 100 → (((k : Int)).natAbs.log2 < 1920) ∧ ((Str.ofString "f").length + (toString (k : Int) : Str).length ≤ 1000) ∧ ((fkI (k : Int)).cps.all (· < 0x110000) = true) := by decide +kernel
noncomputable def facesN (rows : RowsT) : List (List NE) := if allE rows = [] then [[]] else facesL rows
noncomputable def othN (rows : RowsT) : RowsT := (enu (facesN rows)).map fun y => (fkI y.1, y.2.map (tieD rows))
theorem facesL_len {rows : RowsT} (h : Twice rows) : (facesL rows).length ≤ (allE rows).length ∧ (∀ f ∈ facesL rows, f ≠ []) ∧ ∀ f ∈ facesL rows, f.length ≤ (allE rows).length := by
  have RP := rgs_P h (allE rows) fun e he => he
  have J := stp_inj h
  have ne : ∀ f ∈ facesL rows, f ≠ [] := fun f hf w => by
    obtain ⟨d, hd, e2⟩ := RP.fc f hf
    have := J.self_mem hd
    rw [e2] at w
    have w2 : face (stp rows) (allE rows) d = [] := w
    rw [w2] at this
    cases this
  refine ⟨?_, ne, fun f hf => ?_⟩
  · have : ∀ R : List (List NE), (∀ f ∈ R, f ≠ []) → R.length ≤ R.flatten.length := by
      intro R
      induction R with
      | nil => intro _; simp
      | cons f r ih =>
        intro hf
        have h1 := List.length_pos_iff.mpr (hf f List.mem_cons_self)
        have h2 := ih fun g hg => hf g (List.mem_cons_of_mem _ hg)
        rw [List.flatten_cons, List.length_append, List.length_cons]
        omega
    exact Nat.le_trans (this _ ne) (ends_max RP.nd RP.sub)
  · obtain ⟨d, hd, rfl⟩ := RP.fc f hf
    exact nodup_le (J.face_nodup hd) fun y hy => J.face_sub hd y hy
theorem facesN_len {rows : RowsT} (h : Twice rows) : (facesN rows).length ≤ (allE rows).length + 1 ∧ ∀ f ∈ facesN rows, f.length ≤ (allE rows).length ∧ ∀ e ∈ f, e ∈ allE rows := by
  unfold facesN
  split
  · exact ⟨by simp, fun f hf => by rw [List.mem_singleton.mp hf]; exact ⟨by simp, fun e he => by cases he⟩⟩
  · have F := facesL_len h
    have RP := rgs_P h (allE rows) fun e he => he
    exact ⟨by omega, fun f hf => ⟨F.2.2 f hf, fun e he => RP.sub e (List.mem_flatten.mpr ⟨f, hf, he⟩)⟩⟩
theorem enu_mem {α : Type} {l : List α} {y : Int × α} (h : y ∈ enu l) : ∃ k : Nat, k < l.length ∧ y.1 = (k : Int) ∧ l[k]? = some y.2 := by
  obtain ⟨k, hk⟩ := List.mem_iff_getElem?.mp h
  obtain ⟨h1, h2⟩ := enu_at hk
  exact ⟨k, (List.getElem?_eq_some_iff.mp h1).1, h2, h1⟩
end Tw
set_option Elab.async false
set_option linter.all false
set_option maxRecDepth 100000
set_option maxHeartbeats 4000000
namespace Tw
open PySem PySem.Spec L2 TL
open PyProof.Rows hiding St
section
variable {rows : RowsT}
theorem rng_turnO (n : Nat) : ((List.range n).map fun p => (p + 1) % n).Perm (List.range n) := by
  rw [List.perm_ext_iff_of_nodup (nodup_of_inj _ _ fun i j hij hj w => ?_) List.nodup_range]
  · intro p
    rw [List.mem_map, List.mem_range]
    constructor
    · rintro ⟨q, hq, rfl⟩
      exact Nat.mod_lt _ (by have := List.mem_range.mp hq; omega)
    · intro hp
      by_cases z : p = 0
      · exact ⟨n - 1, List.mem_range.mpr (by omega), by rw [show n - 1 + 1 = n by omega, Nat.mod_self, z]⟩
      · exact ⟨p - 1, List.mem_range.mpr (by omega), by rw [show p - 1 + 1 = p by omega, Nat.mod_eq_of_lt hp]⟩
  · rw [Nat.mod_eq_of_lt (show i + 1 < n by omega)] at w
    by_cases z : j + 1 = n
    · rw [z, Nat.mod_self] at w; omega
    · rw [Nat.mod_eq_of_lt (by omega)] at w; omega
noncomputable def thE (rows : RowsT) (e : NE) : NE := (((facesN rows)[e.1]?).bind fun f => f[e.2]?).getD e
theorem oth_len : (othN rows).length = (facesN rows).length := by unfold othN; rw [List.length_map, enu_len]
theorem enu_get {α : Type} {l : List α} {k : Nat} {x : α} (h : l[k]? = some x) : (enu l)[k]? = some ((k : Int), x) := by
  have hk := (List.getElem?_eq_some_iff.mp h).1
  have h2 : (enu l)[k]? = some ((enu l)[k]'(by rw [enu_len]; exact hk)) := List.getElem?_eq_getElem _
  obtain ⟨a, b⟩ := enu_at h2
  rw [h2]
  congr 1
  refine Prod.ext b ?_
  rw [h] at a
  exact (Option.some.inj a).symm
theorem oth_get {j : Nat} {f : List NE} (h : (facesN rows)[j]? = some f) : (othN rows)[j]? = some (fkI (j : Int), f.map (tieD rows)) := by
  unfold othN
  rw [List.getElem?_map, enu_get h]
  rfl
theorem oth_row {j : Nat} {f : List NE} (h : (facesN rows)[j]? = some f) : rowT (othN rows) j = f.map (tieD rows) := row_some (oth_get h)
theorem facesN_flat : (facesN rows).flatten = (facesL rows).flatten := by
  unfold facesN
  split
  · rename_i h
    unfold facesL
    rw [h]
    rfl
  · rfl
theorem flat_perm (h : Twice rows) : (facesN rows).flatten.Perm (allE rows) := by
  have RP := rgs_P h (allE rows) fun e he => he
  rw [facesN_flat]
  exact (List.perm_ext_iff_of_nodup RP.nd (allE_nodup rows)).mpr fun e => ⟨RP.sub e, RP.all e⟩
theorem oth_ties : ties (othN rows) = (facesN rows).flatten.map (tieD rows) := by
  unfold othN ties
  rw [List.flatMap_def, List.map_map, List.map_flatten]
  congr 1
  have : ∀ l : List (List NE), (enu l).map ((fun x : Str × List Str => x.2) ∘ fun y : Int × List NE => (fkI y.1, y.2.map (tieD rows))) = l.map fun f => f.map (tieD rows) := fun l => by
    have e : ((fun x : Str × List Str => x.2) ∘ fun y : Int × List NE => (fkI y.1, y.2.map (tieD rows))) = (fun f => f.map (tieD rows)) ∘ (·.2) := rfl
    rw [e, ← List.map_map]
    congr 1
    unfold enu
    rw [List.map_map]
    have e2 : ((fun x : Int × List NE => x.2) ∘ fun y : List NE × Nat => ((y.2 : Int), y.1)) = Prod.fst := rfl
    first
      | rw [e2]; simp
      | simp
  exact this _
theorem ties_all : (allE rows).map (tieD rows) = ties rows := by
  have h := allE_ties rows
  have h2 : ((allE rows).map (tie? rows)).map (fun o : Option Str => o.getD (Str.ofString "")) = ((ties rows).map some).map fun o : Option Str => o.getD (Str.ofString "") := by rw [h]
  rw [List.map_map, List.map_map] at h2
  have e3 : ((fun o : Option Str => o.getD (Str.ofString "")) ∘ some) = id := rfl
  rw [e3, List.map_id] at h2
  exact h2
theorem oth_perm (h : Twice rows) : (ties (othN rows)).Perm (ties rows) := by
  rw [oth_ties, ← ties_all (rows := rows)]
  exact (flat_perm h).map _
theorem oth_twice (h : Twice rows) : Twice (othN rows) := twice_perm (oth_perm h).symm h
theorem th_at {e : NE} (he : e ∈ allE (othN rows)) : ∃ f, (facesN rows)[e.1]? = some f ∧ f[e.2]? = some (thE rows e) := by
  have h1 := allE_row he
  rw [oth_len] at h1
  have h2 := List.getElem?_eq_getElem h1
  have h3 := mem_allE.mp he
  rw [oth_row h2, List.length_map] at h3
  refine ⟨_, h2, ?_⟩
  unfold thE
  rw [h2]
  show _ = some (((facesN rows)[e.1])[e.2]?.getD e)
  rw [List.getElem?_eq_getElem h3]
  rfl
theorem th_mem (h : Twice rows) {e : NE} (he : e ∈ allE (othN rows)) : thE rows e ∈ allE rows := by
  obtain ⟨f, h1, h2⟩ := th_at he
  exact (facesN_len h).2 f (List.mem_of_getElem? h1) |>.2 _ (List.mem_of_getElem? h2)
theorem th_tie (h : Twice rows) {e : NE} (he : e ∈ allE (othN rows)) : tie? rows (thE rows e) = tie? (othN rows) e := by
  obtain ⟨f, h1, h2⟩ := th_at he
  unfold tie?
  rw [oth_row h1, List.getElem?_map, h2]
  show tie? rows _ = some (tieD rows (thE rows e))
  obtain ⟨t, ht⟩ := tie_some (th_mem h he)
  rw [ht, tieD_of ht]
theorem flat_one {α : Type} : ∀ {L : List (List α)}, L.flatten.Nodup → ∀ {i j k l : Nat} {f g : List α} {x : α}, L[i]? = some f → L[j]? = some g → f[k]? = some x → g[l]? = some x → i = j ∧ k = l
  | [], _, i, j, k, l, f, g, x, h1, _, _, _ => by simp at h1
  | a :: r, nd, i, j, k, l, f, g, x, h1, h2, h3, h4 => by
    rw [List.flatten_cons] at nd
    obtain ⟨n1, n2, n3⟩ := List.nodup_append.mp nd
    have q : ∀ {i : Nat} {f : List α} {k : Nat}, r[i]? = some f → f[k]? = some x → x ∈ r.flatten := fun h3 h4 => List.mem_flatten.mpr ⟨_, List.mem_of_getElem? h3, List.mem_of_getElem? h4⟩
    cases i with
    | zero =>
      cases j with
      | zero =>
        simp at h1 h2
        subst h1 h2
        refine ⟨rfl, ?_⟩
        have l1 := (List.getElem?_eq_some_iff.mp h3).1
        exact (List.getElem?_inj l1 n1).mp (by rw [h3, h4])
      | succ j =>
        simp at h1 h2
        subst h1
        exact absurd rfl (n3 x (List.mem_of_getElem? h3) x (q h2 h4))
    | succ i =>
      cases j with
      | zero =>
        simp at h1 h2
        subst h2
        exact absurd rfl (n3 x (List.mem_of_getElem? h4) x (q h1 h3))
      | succ j =>
        simp at h1 h2
        obtain ⟨a, b⟩ := flat_one n2 h1 h2 h3 h4
        exact ⟨by omega, b⟩
theorem flat_nd (h : Twice rows) : (facesN rows).flatten.Nodup := (flat_perm h).nodup_iff.mpr (allE_nodup rows)
theorem th_inj (h : Twice rows) : ∀ a ∈ allE (othN rows), ∀ b ∈ allE (othN rows), thE rows a = thE rows b → a = b := fun a ha b hb e => by
  obtain ⟨f, f1, f2⟩ := th_at ha
  obtain ⟨g, g1, g2⟩ := th_at hb
  rw [e] at f2
  obtain ⟨h1, h2⟩ := flat_one (flat_nd h) f1 g1 f2 g2
  exact Prod.ext h1 h2
theorem th_mate (h : Twice rows) {e : NE} (he : e ∈ allE (othN rows)) : mate rows (thE rows e) = thE rows (mate (othN rows) e) := mate_map (oth_twice h) h (th_inj h) (fun e he => th_tie h he) he
theorem th_tieD (h : Twice rows) {e : NE} (he : e ∈ allE (othN rows)) : tieD (othN rows) e = tieD rows (thE rows e) := by
  unfold tieD
  rw [th_tie h he]
/-- every end lies in a face -/
theorem th_on (h : Twice rows) {d : NE} (hd : d ∈ allE rows) : ∃ e ∈ allE (othN rows), thE rows e = d := by
  obtain ⟨f, hf, hx⟩ := List.mem_flatten.mp ((flat_perm h).mem_iff.mpr hd)
  obtain ⟨j, hj⟩ := List.mem_iff_getElem?.mp hf
  obtain ⟨k, hk⟩ := List.mem_iff_getElem?.mp hx
  have he : ((j, k) : NE) ∈ allE (othN rows) := mem_allE.mpr (by
    rw [oth_row hj, List.length_map]
    exact (List.getElem?_eq_some_iff.mp hk).1)
  refine ⟨(j, k), he, ?_⟩
  obtain ⟨g, g1, g2⟩ := th_at he
  rw [show (facesN rows)[((j, k) : NE).1]? = some f from hj] at g1
  cases g1
  rw [show f[((j, k) : NE).2]? = some d from hk] at g2
  exact (Option.some.inj g2).symm
theorem faceN_P (h : Twice rows) {f : List NE} (hf : f ∈ facesN rows) {d : NE} (hd : d ∈ f) : f ∈ facesL rows := by
  unfold facesN at hf
  split at hf
  · rw [List.mem_singleton.mp hf] at hd; cases hd
  · exact hf
/-- two ends of a face have one face-number -/
theorem th_face (h : Twice rows) {a b : NE} (ha : a ∈ allE (othN rows)) (hb : b ∈ allE (othN rows)) (e : thE rows b = stp rows (thE rows a)) : b.1 = a.1 := by
  obtain ⟨f, f1, f2⟩ := th_at ha
  obtain ⟨g, g1, g2⟩ := th_at hb
  have hfa := List.mem_of_getElem? f2
  have hf := faceN_P h (List.mem_of_getElem? f1) hfa
  have h1 : thE rows b ∈ f := by
    rw [e]
    exact (face_stp h hf (th_mem h ha)).mpr hfa
  obtain ⟨k, hk⟩ := List.mem_iff_getElem?.mp h1
  exact (flat_one (flat_nd h) f1 g1 hk g2).1.symm
theorem face_px (h : Twice rows) (c : Str → Bool) {f : List NE} (hf : f ∈ facesL rows) {e : NE} (he : e ∈ f) : px (fun d => c (tieD rows d)) (faceE rows e) = px (fun d => c (tieD rows d)) f := by
  have RP := rgs_P h (allE rows) fun e he => he
  have I := stp_inj h
  obtain ⟨d, hd, rfl⟩ := RP.fc f hf
  have hE : e ∈ allE rows := I.face_sub hd e he
  exact px_perm _ ((List.perm_ext_iff_of_nodup (I.face_nodup hE) (I.face_nodup hd)).mpr fun x => I.same hd he)
theorem oth_round (h : Twice rows) (hp : Plane rows) {c : Str → Bool} (hc : RoundP (othN rows) c) : ∃ f, CutP rows c f := by
  refine hp c _ (loc_of_even h fun e he => ?_)
  obtain ⟨d, hd, rfl⟩ := th_on h he
  obtain ⟨f, f1, f2⟩ := th_at hd
  have hm := List.mem_of_getElem? f2
  rw [face_px h c (faceN_P h (List.mem_of_getElem? f1) hm) hm]
  have := hc d.1 (allE_row hd)
  rw [oth_row f1, px_map] at this
  exact this
theorem oth_round' (h : Twice rows) {c : Str → Bool} {f : Nat → Bool} (hc : CutP rows c f) : RoundP (othN rows) c := fun j hj => by
  rw [oth_len] at hj
  have h2 := List.getElem?_eq_getElem hj
  rw [oth_row h2, px_map]
  cases q : (facesN rows)[j] with
  | nil => rfl
  | cons e r =>
    have hm : e ∈ (facesN rows)[j] := by rw [q]; simp
    have hf := faceN_P h (List.getElem_mem hj) hm
    rw [← q]
    have := face_px h c hf hm
    rw [← this]
    exact co_even h hc ((facesN_len h).2 _ (List.getElem_mem hj) |>.2 e hm)
theorem oth_cut (h : Twice rows) {c : Str → Bool} {g : Nat → Bool} (hc : CutP (othN rows) c g) : RoundP rows c := by
  have hO := oth_twice h
  -- the label of an end: that of its face
  have key : ∀ e ∈ allE rows, ∀ a ∈ allE (othN rows), ∀ b ∈ allE (othN rows), thE rows a = e → thE rows b = rot rows 1 e → c (tieD rows e) = xor (g a.1) (g b.1) := fun e he a ha b hb ea eb => by
    have h1 := hc a ha
    rw [th_tieD h ha, ea] at h1
    rw [h1]
    congr 2
    have hm := mate_mem hO ha
    have e3 : thE rows b = stp rows (thE rows (mate (othN rows) a)) := by
      rw [← th_mate h ha, eb]
      unfold stp
      rw [mate_mate h (th_mem h ha), ea]
    exact (th_face h hm hb e3).symm
  classical
  let G : NE → Bool := fun e => if w : ∃ a ∈ allE (othN rows), thE rows a = e then g w.choose.1 else false
  have GP : ∀ a ∈ allE (othN rows), G (thE rows a) = g a.1 := fun a ha => by
    have w : ∃ b ∈ allE (othN rows), thE rows b = thE rows a := ⟨a, ha, rfl⟩
    show (if w : ∃ b ∈ allE (othN rows), thE rows b = thE rows a then g w.choose.1 else false) = _
    rw [dif_pos w]
    rw [th_inj h _ w.choose_spec.1 _ ha w.choose_spec.2]
  have key2 : ∀ e ∈ allE rows, c (tieD rows e) = xor (G e) (G (rot rows 1 e)) := fun e he => by
    obtain ⟨a, ha, ea⟩ := th_on h he
    obtain ⟨b, hb, eb⟩ := th_on h (rot_mem 1 he)
    rw [key e he a ha b hb ea eb, ← GP a ha, ← GP b hb, ea, eb]
  intro v hv
  have e1 : rowT rows v = (List.range (rowT rows v).length).map fun k => tieD rows (v, k) := by
    refine List.ext_getElem? fun k => ?_
    rw [List.getElem?_map]
    by_cases q : k < (rowT rows v).length
    · rw [List.getElem?_range q]
      show _ = some (tieD rows (v, k))
      unfold tieD tie?
      rw [List.getElem?_eq_getElem q]
      rfl
    · rw [List.getElem?_eq_none (by omega), List.getElem?_eq_none (by rw [List.length_range]; omega)]
      rfl
  rw [e1, px_map]
  have e2 : px (fun k => c (tieD rows (v, k))) (List.range (rowT rows v).length) = px (fun k => xor (G (v, k)) (G (rot rows 1 (v, k)))) (List.range (rowT rows v).length) := px_congr fun k hk => key2 (v, k) (mem_allE.mpr (List.mem_range.mp hk))
  rw [e2, px_xor]
  have e3 : px (fun k => G (rot rows 1 (v, k))) (List.range (rowT rows v).length) = px (fun k => G (v, k)) (List.range (rowT rows v).length) := by
    rw [← px_perm (fun k => G (v, k)) (rng_turnO (rowT rows v).length), px_map]
    rfl
  rw [e3, Bool.xor_self]
theorem oth_cut' (h : Twice rows) (hp : Plane rows) {c : Str → Bool} (hc : RoundP rows c) : ∃ g, CutP (othN rows) c g := by
  have hO := oth_twice h
  obtain ⟨G, G1, G2⟩ := coplane h hp hc
  have RP := rgs_P h (allE rows) fun e he => he
  have I := stp_inj h
  have hG : ∀ f ∈ facesL rows, ∀ a ∈ f, ∀ b ∈ f, G a = G b := fun f hf => by
    obtain ⟨d, hd, rfl⟩ := RP.fc f hf
    have : ∀ x ∈ faceE rows d, G x = G d := fun x hx => by
      obtain ⟨k, hk, rfl⟩ := List.mem_map.mp hx
      clear hx hk
      induction k with
      | zero => rfl
      | succ k ih =>
        have := G1 _ (I.itr hd k)
        exact this.trans ih
    intro a ha b hb
    rw [this a ha, this b hb]
  refine ⟨fun j => G (((facesN rows)[j]?.bind fun f => f[0]?).getD (0, 0)), fun e he => ?_⟩
  have lab : ∀ e ∈ allE (othN rows), G (((facesN rows)[e.1]?.bind fun f => f[0]?).getD (0, 0)) = G (thE rows e) := fun e he => by
    obtain ⟨f, f1, f2⟩ := th_at he
    have hm := List.mem_of_getElem? f2
    have hf := faceN_P h (List.mem_of_getElem? f1) hm
    rw [f1]
    show G ((f[0]?).getD (0, 0)) = _
    cases f with
    | nil => cases hm
    | cons x r => exact hG _ hf _ (by simp) _ hm
  show c (tieD (othN rows) e) = xor (G _) (G _)
  rw [lab e he, lab _ (mate_mem hO he), ← th_mate h he, th_tieD h he]
  exact G2 _ (th_mem h he)
theorem fk_nd : ((List.range 64).map fun k : Nat => fkI (k : Int)).Nodup := by decide +kernel
theorem oth_names (hl : (facesN rows).length ≤ 64) : ((othN rows).map (·.1)).Nodup := by
  have e : (othN rows).map (·.1) = (((List.range 64).map fun k : Nat => fkI (k : Int)).take (facesN rows).length) := by
    refine List.ext_getElem? fun i => ?_
    rw [List.getElem?_map, List.getElem?_take]
    by_cases q : i < (facesN rows).length
    · rw [oth_get (List.getElem?_eq_getElem q), if_pos q, List.getElem?_map, List.getElem?_range (by omega)]
      rfl
    · rw [List.getElem?_eq_none (by rw [oth_len]; omega), if_neg q]
      rfl
  rw [e]
  exact fk_nd.sublist (List.take_sublist _ _)
theorem oth_R (h : Twice rows) (hl : (allE rows).length ≤ 62) : NetR (othN rows) := by
  have FN := facesN_len h
  have e1 : (allE (othN rows)).length = (allE rows).length := by
    rw [ends_len, ends_len, (oth_perm h).length_eq]
  refine ⟨⟨oth_twice h, oth_names (by omega), fun w => ?_⟩, ⟨by rw [oth_len]; omega, by omega⟩, by rw [oth_len]; omega⟩
  have := congrArg List.length w
  rw [oth_len] at this
  unfold facesN at this
  split at this
  · simp at this
  · rename_i q
    have h0 := (flat_perm h).length_eq
    rw [facesN_flat, List.eq_nil_of_length_eq_zero this] at h0
    exact q (List.eq_nil_of_length_eq_zero h0.symm)
end
end Tw
set_option Elab.async false
set_option linter.all false
set_option maxRecDepth 100000
set_option maxHeartbeats 4000000
namespace Tw
open PySem PySem.Spec L2 TL
open PyProof.Rows hiding St
theorem Rch.trans {ε : Type} {out : Nat → List (Nat × ε)} {a b c : Nat} (h : Rch out a b) (k : Rch out b c) : Rch out a c := by
  induction k with
  | zero => exact h
  | step _ he ih => exact .step ih he
theorem outC_back {rows : RowsT} (h : Twice rows) {c : Str → Bool} {v : Nat} {e : Nat × Str} (he : e ∈ outC rows c v) : (v, e.2) ∈ outC rows c e.1 := by
  obtain ⟨p, hp, rfl, hc⟩ := mem_outC.mp he
  have hm := mate_mem h hp
  have em : tieD rows (mate rows (v, p)) = tieD rows (v, p) := by
    obtain ⟨t, ht⟩ := tie_some hp
    rw [tieD_of ht, tieD_of (mate_of h ht).1]
  refine mem_outC.mpr ⟨(mate rows (v, p)).2, hm, ?_, by rw [show ((mate rows (v, p)).1, (mate rows (v, p)).2) = mate rows (v, p) from rfl, em]; exact hc⟩
  rw [show ((mate rows (v, p)).1, (mate rows (v, p)).2) = mate rows (v, p) from rfl, mate_mate h hp, em]
theorem Rch.symm {rows : RowsT} (h : Twice rows) {c : Str → Bool} {a b : Nat} (k : Rch (outC rows c) a b) : Rch (outC rows c) b a := by
  induction k with
  | zero => exact .zero
  | step _ he ih => exact Rch.trans (.step .zero (outC_back h he)) ih
theorem Rch.mono {rows : RowsT} {c c' : Str → Bool} (h : ∀ t, c t = true → c' t = true) {a b : Nat} (k : Rch (outC rows c) a b) : Rch (outC rows c') a b := by
  induction k with
  | zero => exact .zero
  | step _ he ih =>
    obtain ⟨p, hp, rfl, hc⟩ := mem_outC.mp he
    exact .step ih (mem_outC.mpr ⟨p, hp, rfl, h _ hc⟩)
def imgs (n : Nat) (f : Nat → Nat) : List Nat := uniq ((List.range n).map f)
theorem mem_imgs {n : Nat} {f : Nat → Nat} {x : Nat} : x ∈ imgs n f ↔ ∃ r, r < n ∧ f r = x := by
  unfold imgs
  rw [(uniq_props _).2.1, List.mem_map]
  exact ⟨fun ⟨r, h, e⟩ => ⟨r, List.mem_range.mp h, e⟩, fun ⟨r, h, e⟩ => ⟨r, List.mem_range.mpr h, e⟩⟩
structure LmI (rows : RowsT) (left tree : List Str) (f : Nat → Nat) : Prop where
  ln : left.Nodup
  lt : ∀ t ∈ left, t ∈ ties rows
  tn : tree.Nodup
  tt : ∀ t ∈ tree, t ∈ ties rows ∧ t ∉ left
  con : ∀ r s, r < rows.length → s < rows.length → f r = f s → Rch (outC rows (inB tree)) r s
  same : ∀ e ∈ allE rows, tieD rows e ∉ left → f e.1 = f (mate rows e).1
  cnt : (imgs rows.length f).length + tree.length = rows.length
  fl : ∀ r, r < rows.length → f r < rows.length
theorem LmI.done {rows : RowsT} (Q : NetQ rows) {tree : List Str} {f : Nat → Nat} (I : LmI rows [] tree f) : SetT rows (srt tree) ∧ Joins rows (srt tree) := by
  have same : ∀ v, v < rows.length → f v = f 0 := fun v hv => by
    have := Q.rch hv
    induction this with
    | zero => rfl
    | @step u e hr he ih =>
      obtain ⟨p, hp, rfl⟩ := mem_outR.mp he
      rw [← ih (allE_row hp)]
      exact (I.same (u, p) hp (by simp)).symm
  have one : (imgs rows.length f).length = 1 := by
    have h1 : ∀ x ∈ imgs rows.length f, x ∈ [f 0] := fun x hx => by
      obtain ⟨r, hr, e⟩ := mem_imgs.mp hx
      rw [← e, same r hr]
      simp
    have h2 := nodup_le (uniq_props _).1 h1
    have h3 : f 0 ∈ imgs rows.length f := mem_imgs.mpr ⟨0, Q.pos, rfl⟩
    have h4 := List.length_pos_of_mem h3
    have h5 : (imgs rows.length f).length ≤ 1 := h2
    omega
  refine ⟨⟨srt_sorted _, srt_nodup I.tn, fun t ht => (I.tt t (srt_mem.mp ht)).1⟩, ?_, fun v hv => ?_⟩
  · rw [srt_len]
    have := I.cnt
    omega
  · refine (I.con 0 v Q.pos hv (same v hv).symm).mono fun t ht => ?_
    unfold inB at ht ⊢
    exact decide_eq_true (srt_mem.mpr (of_decide_eq_true ht))
end Tw
set_option Elab.async false
set_option linter.all false
set_option maxRecDepth 100000
set_option maxHeartbeats 4000000
namespace Tw
open PySem PySem.Spec L2 TL
open PyProof.Rows hiding St
theorem Joins.rch {rows : RowsT} (h : Twice rows) {T : List Str} (J : Joins rows T) {a b : Nat} (ha : a < rows.length) (hb : b < rows.length) : Rch (outC rows (inB T)) a b := ((J.2 a ha).symm h).trans (J.2 b hb)
end Tw
set_option Elab.async false
set_option linter.all false
set_option maxRecDepth 100000
set_option maxHeartbeats 4000000
set_option Elab.async false
set_option linter.all false
set_option maxRecDepth 100000
set_option maxHeartbeats 4000000
namespace Tw
open PySem PySem.Spec L2 TL
open PyProof.Rows hiding St
section
variable {rows : RowsT}
/-- a label that stays round each point and along each tie is one alone -/
theorem lab_const (Q : NetQ rows) {G : NE → Bool} (hr : ∀ d ∈ allE rows, G (rot rows 1 d) = G d) (hm : ∀ d ∈ allE rows, G (mate rows d) = G d) : ∀ a ∈ allE rows, ∀ b ∈ allE rows, G a = G b := by
  have h := Q.two
  have nd := Q.nd
  have row : ∀ v k, (v, k) ∈ allE rows → G (v, k) = G (v, 0) := by
    intro v k
    induction k with
    | zero => intro _; rfl
    | succ k ih =>
      intro hk
      have hk2 := mem_allE.mp hk
      have h0 : ((v, k) : NE) ∈ allE rows := mem_allE.mpr (by show k < (rowT rows v).length; have : k + 1 < (rowT rows v).length := hk2; omega)
      have e1 : rot rows 1 (v, k) = (v, k + 1) := by
        unfold rot
        refine Prod.ext rfl ?_
        exact Nat.mod_eq_of_lt hk2
      rw [← e1, hr _ h0]
      exact ih h0
  intro a ha b hb
  have ra := allE_row ha
  have rb := allE_row hb
  have hS := Q.hang (fun n => ∀ d ∈ allE rows, pnm rows d.1 = n → G d = G a) ?_ ⟨rows[a.1], List.getElem_mem ra, ?_⟩ rows[b.1] (List.getElem_mem rb)
  · exact (hS b hb (pnm_at (List.getElem?_eq_getElem rb))).symm
  · intro x hx y hy t htx hty hSx d hd ed
    obtain ⟨i, hi⟩ := List.mem_iff_getElem?.mp hx
    obtain ⟨j, hj⟩ := List.mem_iff_getElem?.mp hy
    obtain ⟨k, hk⟩ := List.mem_iff_getElem?.mp htx
    obtain ⟨l, hl⟩ := List.mem_iff_getElem?.mp hty
    have t1 : tie? rows (i, k) = some t := by unfold tie?; rw [row_some hi]; exact hk
    have t2 : tie? rows (j, l) = some t := by unfold tie?; rw [row_some hj]; exact hl
    have m1 := tie_mem t1
    have m2 := tie_mem t2
    have e1 : G (i, k) = G a := hSx _ m1 (pnm_at hi)
    have e2 : G (j, l) = G (i, k) := by
      rcases (mate_of h t1).2.2 _ t2 with w | w
      · rw [w]
      · rw [w]; exact hm _ m1
    have ej : d.1 = j := pnm_inj nd (allE_row hd) (List.getElem?_eq_some_iff.mp hj).1 (by rw [ed, pnm_at hj])
    have e3 : G d = G (j, l) := by
      have q1 := row d.1 d.2 hd
      have q2 := row j l m2
      rw [ej] at q1
      rw [q2, ← q1, ← ej]
    rw [e3, e2, e1]
  · intro d hd ed
    have ea : d.1 = a.1 := pnm_inj nd (allE_row hd) ra (by rw [ed, pnm_at (List.getElem?_eq_getElem ra)])
    have q1 := row d.1 d.2 hd
    have q2 := row a.1 a.2 ha
    rw [ea] at q1
    show G (d.1, d.2) = G (a.1, a.2)
    rw [q2, ← q1, ← ea]
theorem oth_hang (Q : NetQ rows) (hE : (allE rows).length ≤ 62) : Hang (othN rows) := by
  have h := Q.two
  have R := oth_R h hE
  intro S hS ⟨x0, hx0, s0⟩ y hy
  classical
  obtain ⟨i0, hi0⟩ := List.mem_iff_getElem?.mp hx0
  obtain ⟨j, hj⟩ := List.mem_iff_getElem?.mp hy
  have li := (List.getElem?_eq_some_iff.mp hi0).1
  have lj := (List.getElem?_eq_some_iff.mp hj).1
  have hO := oth_twice h
  -- the label of a face
  let g : Nat → Bool := fun k => decide (S (pnm (othN rows) k))
  have gt : ∀ e ∈ allE (othN rows), g (mate (othN rows) e).1 = g e.1 := fun e he => by
    have hm := mate_mem hO he
    have r1 := allE_row he
    have r2 := allE_row hm
    obtain ⟨t, ht⟩ := tie_some he
    have tm := (mate_of hO ht).1
    have k1 : t ∈ (othN rows)[e.1].2 := by
      have := List.mem_of_getElem? ht
      rw [row_some (List.getElem?_eq_getElem r1)] at this
      exact this
    have k2 : t ∈ (othN rows)[(mate (othN rows) e).1].2 := by
      have := List.mem_of_getElem? tm
      rw [row_some (List.getElem?_eq_getElem r2)] at this
      exact this
    refine decide_eq_decide.mpr ?_
    rw [pnm_at (List.getElem?_eq_getElem r1), pnm_at (List.getElem?_eq_getElem r2)]
    exact ⟨hS _ (List.getElem_mem r2) _ (List.getElem_mem r1) t k2 k1, hS _ (List.getElem_mem r1) _ (List.getElem_mem r2) t k1 k2⟩
  by_cases q : allE rows = []
  · -- the bare point
    have e1 : (othN rows).length = 1 := by
      rw [oth_len]
      unfold facesN
      rw [if_pos q]
      rfl
    have : i0 = j := by omega
    subst this
    rw [hi0] at hj
    cases hj
    exact s0
  · have full : ∀ k, k < (othN rows).length → ∃ e ∈ allE (othN rows), e.1 = k := fun k hk => by
      rw [oth_len] at hk
      have hf := List.getElem_mem hk
      have hne : (facesN rows)[k] ≠ [] := by
        have : (facesN rows) = facesL rows := by unfold facesN; rw [if_neg q]
        exact (facesL_len h).2.1 _ (by rw [← this]; exact hf)
      refine ⟨(k, 0), mem_allE.mpr ?_, rfl⟩
      show 0 < (rowT (othN rows) k).length
      rw [oth_row (List.getElem?_eq_getElem hk), List.length_map]
      exact List.length_pos_iff.mpr hne
    obtain ⟨a, ha, ea⟩ := full i0 li
    obtain ⟨b, hb, eb⟩ := full j lj
    let G : NE → Bool := fun e => if w : ∃ a ∈ allE (othN rows), thE rows a = e then g w.choose.1 else false
    have GP : ∀ a ∈ allE (othN rows), G (thE rows a) = g a.1 := fun a ha => by
      have w : ∃ b ∈ allE (othN rows), thE rows b = thE rows a := ⟨a, ha, rfl⟩
      show (if w : ∃ b ∈ allE (othN rows), thE rows b = thE rows a then g w.choose.1 else false) = _
      rw [dif_pos w]
      rw [th_inj h _ w.choose_spec.1 _ ha w.choose_spec.2]
    have Gm : ∀ d ∈ allE rows, G (mate rows d) = G d := fun d hd => by
      obtain ⟨a, ha, rfl⟩ := th_on h hd
      rw [th_mate h ha, GP _ (mate_mem hO ha), GP _ ha, gt a ha]
    have Gs : ∀ d ∈ allE rows, G (stp rows d) = G d := fun d hd => by
      obtain ⟨a, ha, rfl⟩ := th_on h hd
      obtain ⟨b, hb, eb⟩ := th_on h ((stp_inj h).to _ hd)
      rw [← eb, GP b hb, GP a ha, th_face h ha hb eb]
    have Gr : ∀ d ∈ allE rows, G (rot rows 1 d) = G d := fun d hd => by
      have := Gs _ (mate_mem h hd)
      unfold stp at this
      rw [mate_mate h hd, Gm d hd] at this
      exact this
    have key := lab_const Q Gr Gm _ (th_mem h ha) _ (th_mem h hb)
    rw [GP a ha, GP b hb, ea, eb] at key
    have k1 : g i0 = true := decide_eq_true (by rw [pnm_at hi0]; exact s0)
    rw [k1] at key
    have k2 := of_decide_eq_true key.symm
    rw [pnm_at hj] at k2
    exact k2
theorem oth_Q (Q : NetQ rows) (hE : (allE rows).length ≤ 62) : NetQ (othN rows) := by
  have h := Q.two
  have R := oth_R h hE
  have FN := facesN_len h
  refine ⟨R.toNetP, R.sm, R.few, oth_hang Q hE, fun n hn => ?_, fun t ht => Q.okt t ((oth_perm h).mem_iff.mp ht)⟩
  obtain ⟨x, hx, rfl⟩ := List.mem_map.mp hn
  obtain ⟨y, hy, rfl⟩ := List.mem_map.mp hx
  obtain ⟨k, hk, e1, _⟩ := enu_mem hy
  show PyData.strOk (fkI y.1) = true
  rw [e1]
  exact (fk_small k (by omega)).2.2
end
end Tw
set_option Elab.async false
set_option linter.all false
set_option maxRecDepth 100000
set_option maxHeartbeats 4000000
namespace Tw
open PySem PySem.Spec L2 TL
open PyProof.Rows hiding St
variable {rows : RowsT}
theorem cut_iff (two : Twice rows) {c : Str → Bool} {f : Nat → Bool} : CutP rows c f ↔ ∀ t ∈ ties rows, c t = xor (f (prT rows t).1) (f (prT rows t).2) := by
  constructor
  · intro h t ht
    obtain ⟨hA, eA⟩ := seatA_mem two ht
    have := h _ hA
    rw [eA] at this
    exact this
  · intro h e he
    rw [h _ (tieD_mem he)]
    rcases prT_end two he with z | z <;> rw [z]
    exact Bool.xor_comm _ _
end Tw
set_option Elab.async false
set_option linter.all false
set_option maxRecDepth 100000
set_option maxHeartbeats 4000000
namespace Tw
open PySem PySem.Spec L2 TL
open PyProof.Rows hiding St
theorem flt_rank {α : Type} (P : α → Bool) : ∀ (l : List α) (p : Nat) (x : α), l[p]? = some x → P x = true → (l.filter P)[((l.take p).filter P).length]? = some x
  | [], _, _, h, _ => by simp at h
  | a :: l, 0, x, h, hx => by
    have h : a = x := by simpa using h
    subst h
    simp [hx]
  | a :: l, p + 1, x, h, hx => by
    have ih := flt_rank P l p x (by simpa using h) hx
    rw [List.take_succ_cons, List.filter_cons, List.filter_cons]
    by_cases q : P a = true
    · rw [if_pos q, if_pos q]
      simpa using ih
    · rw [if_neg q, if_neg q]
      exact ih
def rankL (t : Str) (l : List Str) (p : Nat) : Nat := ((l.take p).filter fun y => !decide (y = t)).length
theorem rank_succ {t : Str} {l : List Str} {p : Nat} {x : Str} (h : l[p]? = some x) : rankL t l (p + 1) = rankL t l p + if x = t then 0 else 1 := by
  unfold rankL
  rw [List.take_add_one, h, Option.toList_some, List.filter_append, List.length_append]
  by_cases q : x = t <;> simp [q]
theorem rank_mono {t : Str} {l : List Str} {p q : Nat} (h : p ≤ q) : rankL t l p ≤ rankL t l q := by
  unfold rankL
  have : (l.take p).Sublist (l.take q) := by
    rw [← Nat.min_eq_left h, ← List.take_take]
    exact List.take_sublist _ _
  exact (this.filter _).length_le
theorem rank_full (t : Str) (l : List Str) : rankL t l l.length = (l.filter fun y => !decide (y = t)).length := by
  unfold rankL
  rw [List.take_length]
def kapL (rows : RowsT) (t : Str) (e : NE) : NE := (e.1, rankL t (rowT rows e.1) e.2 % (rowT (less1 rows t) e.1).length)
theorem kap_lt {rows : RowsT} {t : Str} {e : NE} (he : e ∈ allE rows) (ne : tieD rows e ≠ t) : rankL t (rowT rows e.1) e.2 < (rowT (less1 rows t) e.1).length ∧ tie? (less1 rows t) (e.1, rankL t (rowT rows e.1) e.2) = some (tieD rows e) := by
  obtain ⟨s, es⟩ := tie_some he
  have g := flt_rank (fun y => !decide (y = t)) (rowT rows e.1) e.2 s es (by rw [decide_eq_false (by rw [← tieD_of es]; exact ne)]; rfl)
  have e2 : tie? (less1 rows t) (e.1, rankL t (rowT rows e.1) e.2) = some s := by
    unfold tie?
    rw [less_row]
    exact g
  rw [tieD_of es]
  refine ⟨?_, e2⟩
  exact (List.getElem?_eq_some_iff.mp e2).1
theorem kap_eq {rows : RowsT} {t : Str} {e : NE} (he : e ∈ allE rows) (ne : tieD rows e ≠ t) : kapL rows t e = (e.1, rankL t (rowT rows e.1) e.2) := by
  unfold kapL
  rw [Nat.mod_eq_of_lt (kap_lt he ne).1]
theorem kap_rot {rows : RowsT} {t : Str} {e : NE} (he : e ∈ allE rows) : kapL rows t (rot rows 1 e) = (e.1, (rankL t (rowT rows e.1) e.2 + if tieD rows e = t then 0 else 1) % (rowT (less1 rows t) e.1).length) := by
  obtain ⟨s, es⟩ := tie_some he
  have hp := mem_allE.mp he
  have e3 : (rowT rows e.1)[e.2]? = some s := es
  have rs := rank_succ (t := t) e3
  rw [tieD_of es, ← rs]
  unfold kapL rot
  by_cases c : e.2 + 1 < (rowT rows e.1).length
  · rw [Nat.mod_eq_of_lt c]
  · have : e.2 + 1 = (rowT rows e.1).length := by omega
    rw [this, Nat.mod_self, rank_full, ← less_row, Nat.mod_self]
    show (e.1, 0 % _) = _
    rw [Nat.zero_mod]
end Tw
set_option Elab.async false
set_option linter.all false
set_option maxRecDepth 100000
set_option maxHeartbeats 4000000
namespace Tw
open PySem PySem.Spec L2 TL
open PyProof.Rows hiding St
def fA (p k i : Nat) : Nat := if i ≤ p then i else i + k - 2
def fB (q k j : Nat) : Nat := if q < j then j - q - 1 else j + k - q - 1
section
variable {S s g : List Str} {p q : Nat}
theorem glue_len (hp : p < s.length) (hq : q < g.length) (e : S = s.take p ++ (g.drop (q + 1) ++ g.take q) ++ s.drop (p + 1)) : S.length = s.length + g.length - 2 := by
  rw [e]
  simp
  omega
theorem glue_A (hp : p < s.length) (hq : q < g.length) (e : S = s.take p ++ (g.drop (q + 1) ++ g.take q) ++ s.drop (p + 1)) {i : Nat} (hi : i < s.length) (ne : i ≠ p) : S[fA p g.length i]? = s[i]? := by
  have l1 : (s.take p ++ (g.drop (q + 1) ++ g.take q)).length = p + g.length - 1 := by simp; omega
  have l2 : (s.take p).length = p := by simp; omega
  unfold fA
  rw [e]
  by_cases c : i ≤ p
  · rw [if_pos c, List.getElem?_append_left (by omega), List.getElem?_append_left (by omega), List.getElem?_take_of_lt (by omega)]
  · rw [if_neg c, List.getElem?_append_right (by omega), l1, List.getElem?_drop]
    congr 1
    omega
theorem glue_B (hp : p < s.length) (hq : q < g.length) (e : S = s.take p ++ (g.drop (q + 1) ++ g.take q) ++ s.drop (p + 1)) {j : Nat} (hj : j < g.length) (ne : j ≠ q) : S[p + fB q g.length j]? = g[j]? := by
  have l1 : (s.take p ++ (g.drop (q + 1) ++ g.take q)).length = p + g.length - 1 := by simp; omega
  have l2 : (s.take p).length = p := by simp; omega
  have l3 : (g.drop (q + 1)).length = g.length - q - 1 := by simp; omega
  unfold fB
  rw [e]
  by_cases c : q < j
  · rw [if_pos c, List.getElem?_append_left (by omega), List.getElem?_append_right (by omega), l2, List.getElem?_append_left (by omega), List.getElem?_drop]
    congr 1
    omega
  · rw [if_neg c, List.getElem?_append_left (by omega), List.getElem?_append_right (by omega), l2, List.getElem?_append_right (by omega), l3, List.getElem?_take_of_lt (by omega)]
    congr 1
    omega
end
section
variable {rows : RowsT} {t : Str} {A B C : RowsT} {s g : Str × List Str}
theorem stay_eq {p q : Nat} (hp : idxS s.2 t = some p) (hq : idxS g.2 t = some q) : (stay t s g).2 = s.2.take p ++ (g.2.drop (q + 1) ++ g.2.take q) ++ s.2.drop (p + 1) := by
  unfold stay rplS turnS
  rw [hp, hq]
def kapS (A B : RowsT) (s g : Str × List Str) (p q : Nat) (e : NE) : NE :=
  if e.1 = A.length then (A.length, fA p g.2.length e.2 % (s.2.length + g.2.length - 2))
  else if e.1 = A.length + 1 + B.length then (A.length, (p + fB q g.2.length e.2) % (s.2.length + g.2.length - 2))
  else (shN A.length B.length e.1, e.2)
end
end Tw
set_option Elab.async false
set_option linter.all false
set_option maxRecDepth 100000
set_option maxHeartbeats 4000000
namespace Tw
open PySem PySem.Spec L2 TL
open PyProof.Rows hiding St
variable {rows : RowsT}
theorem orb_get {f : NE → NE} {x : NE} {k i : Nat} (h : i < k) : (orb f x k)[i]? = some (itr f i x) := by
  unfold orb
  rw [List.getElem?_map, List.getElem?_range h]
  rfl
theorem face_next (h : Twice rows) {f : List NE} (hf : f ∈ facesL rows) {p : Nat} {d : NE} (hd : f[p]? = some d) : f[(p + 1) % f.length]? = some (stp rows d) := by
  have RP := rgs_P h (allE rows) fun e he => he
  obtain ⟨x, hx, rfl⟩ := RP.fc f hf
  have P := (stp_inj h).perd hx
  have hl : (faceE rows x).length = per (stp rows) (allE rows) x := by
    show (orb (stp rows) x _).length = _
    unfold orb
    rw [List.length_map, List.length_range]
  have hp := (List.getElem?_eq_some_iff.mp hd).1
  rw [hl] at hp ⊢
  have e0 : (faceE rows x)[p]? = some (itr (stp rows) p x) := orb_get hp
  rw [hd] at e0
  have e0 := Option.some.inj e0
  by_cases q : p + 1 < per (stp rows) (allE rows) x
  · rw [Nat.mod_eq_of_lt q]
    rw [show (faceE rows x)[p + 1]? = some (itr (stp rows) (p + 1) x) from orb_get q, e0]
    rfl
  · have q : p + 1 = per (stp rows) (allE rows) x := by omega
    rw [q, Nat.mod_self, show (faceE rows x)[0]? = some (itr (stp rows) 0 x) from orb_get (by omega), e0]
    have := P.2.2.1
    rw [← q] at this
    exact congrArg some this.symm
theorem th_rot (h : Twice rows) {e : NE} (he : e ∈ allE (othN rows)) : thE rows (rot (othN rows) 1 e) = stp rows (thE rows e) := by
  obtain ⟨f, f1, f2⟩ := th_at he
  have hf := faceN_P h (List.mem_of_getElem? f1) (List.mem_of_getElem? f2)
  have n := face_next h hf f2
  have lf : (rowT (othN rows) e.1).length = f.length := by rw [oth_row f1, List.length_map]
  have e1 : thE rows (rot (othN rows) 1 e) = (((facesN rows)[e.1]?).bind fun f => f[(e.2 + 1) % (rowT (othN rows) e.1).length]?).getD (rot (othN rows) 1 e) := rfl
  rw [e1, f1, lf]
  show (f[(e.2 + 1) % f.length]?).getD _ = _
  rw [n]
  rfl
theorem th_stp (h : Twice rows) {e : NE} (he : e ∈ allE (othN rows)) : thE rows (stp (othN rows) e) = rot rows 1 (thE rows e) := by
  unfold stp
  rw [th_rot h (mate_mem (oth_twice h) he), ← th_mate h he]
  unfold stp
  rw [mate_mate h (th_mem h he)]
end Tw
set_option Elab.async false
set_option linter.all false
set_option maxRecDepth 100000
set_option maxHeartbeats 4000000
namespace Tw
open PySem PySem.Spec L2 TL
open PyProof.Rows hiding St
structure Mtc (W1 W2 : RowsT) (ψ : NE → NE) : Prop where
  mem : ∀ e, e ∈ allE W2 → ψ e ∈ allE W1
  inj : ∀ a ∈ allE W2, ∀ b ∈ allE W2, ψ a = ψ b → a = b
  onto : ∀ d, d ∈ allE W1 → ∃ e ∈ allE W2, ψ e = d
  tie : ∀ e, e ∈ allE W2 → tieD W1 (ψ e) = tieD W2 e
  step : ∀ e, e ∈ allE W2 → ψ (stp W2 e) = rot W1 1 (ψ e)
variable {W1 W2 : RowsT} {ψ : NE → NE}
theorem mt_itr (m : Mtc W1 W2 ψ) (h : Twice W2) {e : NE} (he : e ∈ allE W2) (i : Nat) : ψ (itr (stp W2) i e) = ((ψ e).1, ((ψ e).2 + i) % (rowT W1 (ψ e).1).length) := by
  induction i with
  | zero =>
    have := mem_allE.mp (m.mem _ he)
    show ψ e = _
    rw [Nat.add_zero, Nat.mod_eq_of_lt this]
  | succ i ih =>
    show ψ (stp W2 (itr (stp W2) i e)) = _
    rw [m.step _ ((stp_inj h).itr he i), ih]
    show ((ψ e).1, (((ψ e).2 + i) % (rowT W1 (ψ e).1).length + 1) % (rowT W1 (ψ e).1).length) = _
    rw [Nat.mod_add_mod]
    rfl
/-- the faces of the other net are the points -/
theorem mt_len (m : Mtc W1 W2 ψ) (h : Twice W2) {x : NE} (hx : x ∈ allE W2) : (faceE W2 x).length = (rowT W1 (ψ x).1).length := by
  have P := (stp_inj h).perd hx
  have hp := mem_allE.mp (m.mem _ hx)
  have hl : (faceE W2 x).length = per (stp W2) (allE W2) x := by
    show (orb (stp W2) x _).length = _
    unfold orb
    rw [List.length_map, List.length_range]
  rw [hl]
  generalize per (stp W2) (allE W2) x = k at P
  have I := stp_inj h
  generalize hn : (rowT W1 (ψ x).1).length = n at hp
  have e1 := mt_itr m h hx k
  rw [P.2.2.1, hn] at e1
  have e1 : (ψ x).2 = ((ψ x).2 + k) % n := congrArg Prod.snd e1
  have dv : k % n = 0 := by
    have := Nat.add_mod (ψ x).2 k n
    rw [← e1, Nat.mod_eq_of_lt hp] at this
    have hk := Nat.mod_lt k (show 0 < n by omega)
    by_cases q : (ψ x).2 + k % n < n
    · rw [Nat.mod_eq_of_lt q] at this
      omega
    · have w : ((ψ x).2 + k % n) % n = (ψ x).2 + k % n - n := by
        rw [Nat.mod_eq_sub_mod (by omega), Nat.mod_eq_of_lt (by omega)]
      omega
  have kn : n ≤ k := Nat.le_of_dvd (by omega) (Nat.dvd_of_mod_eq_zero dv)
  have e2 := mt_itr m h hx n
  rw [hn, Nat.add_mod_right, Nat.mod_eq_of_lt hp] at e2
  have e3 : itr (stp W2) n x = x := m.inj _ (I.itr hx n) _ hx e2
  have := P.2.2.2 n (by omega)
  by_cases q : n < k
  · exact absurd e3 (this q)
  · omega
theorem mt_get (m : Mtc W1 W2 ψ) (h : Twice W2) {x : NE} (hx : x ∈ allE W2) {i : Nat} (hi : i < (rowT W1 (ψ x).1).length) : ∃ y ∈ allE W2, (faceE W2 x)[i]? = some y ∧ ψ y = ((ψ x).1, ((ψ x).2 + i) % (rowT W1 (ψ x).1).length) := by
  refine ⟨itr (stp W2) i x, (stp_inj h).itr hx i, ?_, mt_itr m h hx i⟩
  rw [← mt_len m h hx] at hi
  have hl : (faceE W2 x).length = per (stp W2) (allE W2) x := by
    show (orb (stp W2) x _).length = _
    unfold orb
    rw [List.length_map, List.length_range]
  rw [hl] at hi
  exact orb_get hi
/-- the point of a face of the other net -/
def ptM (ψ : NE → NE) (f : List NE) : Nat := (ψ (f.getD 0 (0, 0))).1
theorem mt_pt (m : Mtc W1 W2 ψ) (h : Twice W2) {f : List NE} (hf : f ∈ facesL W2) {y : NE} (hy : y ∈ f) : (ψ y).1 = ptM ψ f := by
  have RP := rgs_P h (allE W2) fun e he => he
  obtain ⟨x, hx, rfl⟩ := RP.fc f hf
  have hp := mem_allE.mp (m.mem _ hx)
  obtain ⟨i, hi⟩ := List.mem_iff_getElem?.mp hy
  have li := (List.getElem?_eq_some_iff.mp hi).1
  rw [mt_len m h hx] at li
  obtain ⟨z, _, z1, z2⟩ := mt_get m h hx li
  rw [hi] at z1
  cases z1
  obtain ⟨w, _, w1, w2⟩ := mt_get m h hx (i := 0) (by omega)
  unfold ptM
  rw [List.getD_eq_getElem?_getD, w1]
  show (ψ y).1 = (ψ w).1
  rw [z2, w2]
theorem mt_perm (m : Mtc W1 W2 ψ) (h : Twice W2) (full : ∀ r, r < W1.length → rowT W1 r ≠ []) : ((facesL W2).map (ptM ψ)).Perm (List.range W1.length) := by
  have RP := rgs_P h (allE W2) fun e he => he
  have FL := facesL_len h
  have nd : ((facesL W2).map (ptM ψ)).Nodup := by
    have fnd : (facesL W2).flatten.Nodup := RP.nd
    refine List.pairwise_iff_getElem.mpr fun i j hi hj hij e => ?_
    rw [List.length_map] at hi hj
    rw [List.getElem_map, List.getElem_map] at e
    -- an end at that point lies in both
    have hfi := List.getElem_mem (show i < (facesL W2).length by omega)
    have hfj := List.getElem_mem hj
    obtain ⟨x, hx, ex⟩ := RP.fc _ hfi
    obtain ⟨y, hy, ey⟩ := RP.fc _ hfj
    have I := stp_inj h
    have px : (ψ x).1 = ptM ψ (facesL W2)[i] := mt_pt m h hfi (by rw [ex]; exact I.self_mem hx)
    have py : (ψ y).1 = ptM ψ (facesL W2)[j] := mt_pt m h hfj (by rw [ey]; exact I.self_mem hy)
    have pe : (ψ x).1 = (ψ y).1 := by rw [px, py]; exact e
    have lx := mem_allE.mp (m.mem _ hx)
    have ly := mem_allE.mp (m.mem _ hy)
    rw [← pe] at ly
    -- y is reached from x
    let k := ((ψ y).2 + ((rowT W1 (ψ x).1).length - (ψ x).2)) % (rowT W1 (ψ x).1).length
    have hk : k < (rowT W1 (ψ x).1).length := Nat.mod_lt _ (by omega)
    obtain ⟨z, hz, z1, z2⟩ := mt_get m h hx hk
    have e2 : ((ψ x).2 + k) % (rowT W1 (ψ x).1).length = (ψ y).2 := by
      show ((ψ x).2 + ((ψ y).2 + ((rowT W1 (ψ x).1).length - (ψ x).2)) % (rowT W1 (ψ x).1).length) % _ = _
      rw [Nat.add_mod_mod, show (ψ x).2 + ((ψ y).2 + ((rowT W1 (ψ x).1).length - (ψ x).2)) = (ψ y).2 + (rowT W1 (ψ x).1).length by omega, Nat.add_mod_right, Nat.mod_eq_of_lt ly]
    have zy : z = y := m.inj _ hz _ hy (by rw [z2, e2]; exact Prod.ext pe rfl)
    subst zy
    obtain ⟨m, hm⟩ := List.mem_iff_getElem?.mp (show z ∈ (facesL W2)[j] by rw [ey]; exact I.self_mem hy)
    have := (flat_one fnd (List.getElem?_eq_getElem (show i < (facesL W2).length by omega)) (List.getElem?_eq_getElem hj) (by rw [ex]; exact z1) hm).1
    omega
  rw [List.perm_ext_iff_of_nodup nd List.nodup_range]
  intro r
  rw [List.mem_range]
  constructor
  · intro hr
    obtain ⟨f, hf, rfl⟩ := List.mem_map.mp hr
    obtain ⟨x, hx, ex⟩ := RP.fc f hf
    rw [← mt_pt m h hf (y := x) (by rw [ex]; exact (stp_inj h).self_mem hx)]
    exact allE_row (m.mem _ hx)
  · intro hr
    have := List.length_pos_iff.mpr (full r hr)
    obtain ⟨e, he, te⟩ := m.onto (r, 0) (mem_allE.mpr this)
    obtain ⟨f, hf, hef⟩ := List.mem_flatten.mp (RP.all e he)
    refine List.mem_map.mpr ⟨f, hf, ?_⟩
    rw [← mt_pt m h hf hef, te]
/-- a list turned -/
def IsRot (l x : List Str) : Prop := x.length = l.length ∧ ∃ k, ∀ i, i < l.length → x[i]? = l[(k + i) % l.length]?
theorem IsRot.symm {l x : List Str} (h : IsRot l x) : IsRot x l := by
  obtain ⟨e, k, g⟩ := h
  refine ⟨e.symm, x.length - k % x.length, fun i hi => ?_⟩
  have lt := Nat.mod_lt k (show 0 < x.length by omega)
  rw [g _ (by rw [← e]; exact Nat.mod_lt _ (by omega)), ← e, Nat.add_mod_mod]
  congr 1
  have : k + (x.length - k % x.length + i) = i + x.length * (k / x.length + 1) := by
    have := Nat.div_add_mod k x.length
    rw [Nat.mul_add]
    omega
  rw [this, Nat.add_mul_mod_self_left, Nat.mod_eq_of_lt hi]
theorem IsRot.trans {l x y : List Str} (h : IsRot l x) (h2 : IsRot x y) : IsRot l y := by
  obtain ⟨e, k, g⟩ := h
  obtain ⟨e2, j, g2⟩ := h2
  refine ⟨e2.trans e, k + j, fun i hi => ?_⟩
  rw [g2 i (by omega), g _ (by rw [e]; exact Nat.mod_lt _ (by omega)), e, Nat.add_mod_mod, Nat.add_assoc]
def rots (l : List Str) : List (List Str) := if l = [] then [[]] else (List.range l.length).map fun k => l.drop k ++ l.take k
theorem turn_at {l : List Str} {k i : Nat} (hk : k < l.length) (hi : i < l.length) : (l.drop k ++ l.take k)[i]? = l[(k + i) % l.length]? := by
  by_cases c : i < l.length - k
  · rw [List.getElem?_append_left (by rw [List.length_drop]; exact c), List.getElem?_drop, Nat.mod_eq_of_lt (by omega)]
  · rw [List.getElem?_append_right (by rw [List.length_drop]; omega), List.length_drop, List.getElem?_take_of_lt (by omega)]
    congr 1
    rw [Nat.mod_eq_sub_mod (by omega), Nat.mod_eq_of_lt (by omega)]
    omega
theorem mem_rots {l x : List Str} : x ∈ rots l ↔ IsRot l x := by
  unfold rots
  by_cases q : l = []
  · subst q
    rw [if_pos rfl, List.mem_singleton]
    exact ⟨fun e => ⟨by rw [e], 0, fun i hi => by cases hi⟩, fun h => List.eq_nil_of_length_eq_zero h.1⟩
  · rw [if_neg q, List.mem_map]
    have pos := List.length_pos_iff.mpr q
    constructor
    · rintro ⟨k, hk, rfl⟩
      have hk := List.mem_range.mp hk
      exact ⟨by simp; omega, k, fun i hi => turn_at hk hi⟩
    · rintro ⟨e, k, g⟩
      refine ⟨k % l.length, List.mem_range.mpr (Nat.mod_lt _ pos), List.ext_getElem? fun i => ?_⟩
      by_cases c : i < l.length
      · rw [turn_at (Nat.mod_lt _ pos) c, g i c, Nat.mod_add_mod]
      · rw [List.getElem?_eq_none (by simp; omega), List.getElem?_eq_none (by omega)]
def cyc (l : List Str) : List Str := minLs (rots l)
theorem cyc_rot {l x : List Str} (h : IsRot l x) : cyc l = cyc x :=
  minLs_congr fun y => ⟨fun m => mem_rots.mpr (h.symm.trans (mem_rots.mp m)), fun m => mem_rots.mpr (h.trans (mem_rots.mp m))⟩
theorem mt_row (m : Mtc W1 W2 ψ) (h : Twice W2) {f : List NE} (hf : f ∈ facesL W2) : IsRot (rowT W1 (ptM ψ f)) (f.map (tieD W2)) := by
  have RP := rgs_P h (allE W2) fun e he => he
  obtain ⟨x, hx, rfl⟩ := RP.fc f hf
  have p := mt_pt m h hf ((stp_inj h).self_mem hx)
  have l := mt_len m h hx
  rw [← p]
  refine ⟨by rw [List.length_map]; exact l, (ψ x).2, fun i hi => ?_⟩
  obtain ⟨y, hy, y1, y2⟩ := mt_get m h hx hi
  rw [List.getElem?_map, y1]
  show some (tieD W2 y) = _
  rw [← m.tie y hy]
  obtain ⟨u, eu⟩ := tie_some (m.mem y hy)
  rw [tieD_of eu, ← eu, y2]
  rfl
theorem mt_cyc (m : Mtc W1 W2 ψ) (h : Twice W2) (full : ∀ r, r < W1.length → rowT W1 r ≠ []) : ((facesL W2).map fun f => cyc (f.map (tieD W2))).Perm (W1.map fun x => cyc x.2) := by
  have e : ((facesL W2).map fun f => cyc (f.map (tieD W2))) = ((facesL W2).map (ptM ψ)).map fun r => cyc (rowT W1 r) := by
    rw [List.map_map]
    exact List.map_congr_left fun f hf => (cyc_rot (mt_row m h hf)).symm
  have e2 : (W1.map fun x => cyc x.2) = (List.range W1.length).map fun r => cyc (rowT W1 r) := by
    refine List.ext_getElem? fun i => ?_
    rw [List.getElem?_map, List.getElem?_map]
    by_cases c : i < W1.length
    · rw [List.getElem?_range c, List.getElem?_eq_getElem c]
      show some (cyc _) = some (cyc (rowT W1 i))
      rw [row_some (List.getElem?_eq_getElem c)]
    · rw [List.getElem?_eq_none (by omega), List.getElem?_eq_none (by simp; omega)]
      rfl
  rw [e, e2]
  exact (mt_perm m h full).map _
end Tw
set_option Elab.async false
set_option linter.all false
set_option maxRecDepth 100000
set_option maxHeartbeats 4000000
namespace Tw
open PySem PySem.Spec L2 TL
open PyProof.Rows hiding St
structure KpE (rows rows' : RowsT) (t : Str) (κ : NE → NE) : Prop where
  two : Twice rows
  two' : Twice rows'
  sub : ∀ u ∈ ties rows', u ∈ ties rows ∧ u ≠ t
  tie : ∀ e ∈ allE rows, tieD rows e ≠ t → tie? rows' (κ e) = some (tieD rows e)
  ne : ∀ e ∈ allE rows, tieD rows e ≠ t → κ e ≠ κ (mate rows e)
  rot : ∀ e ∈ allE rows, tieD rows e ≠ t → κ (rot rows 1 e) = Tw.rot rows' 1 (κ e)
section
variable {rows rows' : RowsT} {t : Str} {κ : NE → NE}
theorem tieD_mate (two : Twice rows) {e : NE} (he : e ∈ allE rows) : tieD rows (mate rows e) = tieD rows e := by
  obtain ⟨s, es⟩ := tie_some he
  rw [tieD_of (mate_of two es).1, tieD_of es]
theorem KpE.mem (K : KpE rows rows' t κ) {e : NE} (he : e ∈ allE rows) (n : tieD rows e ≠ t) : κ e ∈ allE rows' := tie_mem (K.tie e he n)
theorem KpE.lab (K : KpE rows rows' t κ) {e : NE} (he : e ∈ allE rows) (n : tieD rows e ≠ t) : tieD rows' (κ e) = tieD rows e := tieD_of (K.tie e he n)
theorem KpE.mate (K : KpE rows rows' t κ) {e : NE} (he : e ∈ allE rows) (n : tieD rows e ≠ t) : mate rows' (κ e) = κ (mate rows e) := by
  have k1 := K.tie e he n
  have k2 := K.tie _ (mate_mem K.two he) (by rw [tieD_mate K.two he]; exact n)
  rw [tieD_mate K.two he] at k2
  rcases (mate_of K.two' k1).2.2 _ k2 with w | w
  · exact absurd w.symm (K.ne e he n)
  · exact w.symm
theorem KpE.stp (K : KpE rows rows' t κ) {e : NE} (he : e ∈ allE rows) (n : tieD rows e ≠ t) : stp rows' (κ e) = κ (stp rows e) := by
  show Tw.rot rows' 1 (Tw.mate rows' (κ e)) = κ (Tw.rot rows 1 (Tw.mate rows e))
  rw [K.mate he n, K.rot _ (mate_mem K.two he) (by rw [tieD_mate K.two he]; exact n)]
theorem KpE.inj (K : KpE rows rows' t κ) {a b : NE} (ha : a ∈ allE rows) (na : tieD rows a ≠ t) (hb : b ∈ allE rows) (nb : tieD rows b ≠ t) (e : κ a = κ b) : a = b := by
  have l1 := K.lab ha na
  have l2 := K.lab hb nb
  rw [← e, l1] at l2
  obtain ⟨s, es⟩ := tie_some ha
  obtain ⟨s2, es2⟩ := tie_some hb
  rw [tieD_of es, tieD_of es2] at l2
  subst l2
  rcases (mate_of K.two es).2.2 _ es2 with w | w
  · exact w.symm
  · rw [w] at e
    exact absurd e (K.ne a ha na)
theorem KpE.onto (K : KpE rows rows' t κ) {d : NE} (hd : d ∈ allE rows') : ∃ e ∈ allE rows, tieD rows e ≠ t ∧ κ e = d := by
  obtain ⟨u, eu⟩ := tie_some hd
  obtain ⟨hu, nu⟩ := K.sub u (tie_in eu)
  have : some u ∈ (allE rows).map (tie? rows) := by rw [allE_ties]; exact List.mem_map.mpr ⟨u, hu, rfl⟩
  obtain ⟨e, he, te⟩ := List.mem_map.mp this
  have n : tieD rows e ≠ t := by rw [tieD_of te]; exact nu
  have k := K.tie e he n
  rw [tieD_of te] at k
  rcases (mate_of K.two' k).2.2 _ eu with w | w
  · exact ⟨e, he, n, w.symm⟩
  · exact ⟨Tw.mate rows e, mate_mem K.two he, by rw [tieD_mate K.two he]; exact n, by rw [w, K.mate he n]⟩
theorem kpL (two : Twice rows) (t : Str) : KpE rows (less1 rows t) t (kapL rows t) where
  two := two
  two' := less_two two t
  sub := fun u hu => less_ties.mp hu
  tie := fun e he ne => by rw [kap_eq he ne]; exact (kap_lt he ne).2
  rot := fun e he ne => by
    rw [kap_rot he, if_neg ne, kap_eq he ne]
    rfl
  ne := fun e he ne w => by
    obtain ⟨s, es⟩ := tie_some he
    have mm := mate_of two es
    have tm : tieD rows (Tw.mate rows e) ≠ t := by rw [tieD_of mm.1, ← tieD_of es]; exact ne
    rw [kap_eq he ne, kap_eq (mate_mem two he) tm] at w
    have w1 := congrArg Prod.fst w
    have w2 := congrArg Prod.snd w
    simp only at w1 w2
    have n2 : e.2 ≠ (Tw.mate rows e).2 := fun z => mm.2.1 (Prod.ext w1.symm z.symm)
    have e3 : (rowT rows e.1)[e.2]? = some s := es
    have m3 : (rowT rows e.1)[(Tw.mate rows e).2]? = some s := by rw [w1]; exact mm.1
    have sn : s ≠ t := by rw [← tieD_of es]; exact ne
    rw [← w1] at w2
    have r1 := rank_succ (t := t) e3
    have r2 := rank_succ (t := t) m3
    rw [if_neg sn] at r1 r2
    rcases Nat.lt_or_ge e.2 (Tw.mate rows e).2 with q | q
    · have := rank_mono (t := t) (l := rowT rows e.1) (show e.2 + 1 ≤ (Tw.mate rows e).2 by omega); omega
    · have := rank_mono (t := t) (l := rowT rows e.1) (show (Tw.mate rows e).2 + 1 ≤ e.2 by omega); omega
theorem kpL_t {e : NE} (he : e ∈ allE rows) (z : tieD rows e = t) : kapL rows t (rot rows 1 e) = kapL rows t e := by
  rw [kap_rot he, if_pos z, Nat.add_zero]
  rfl
end
section
variable {rows : RowsT} {t : Str} {A B C : RowsT} {s g : Str × List Str}
theorem kpS_all (H : Hold rows t A B C s g) (two : Twice rows) (nd : (rows.map (·.1)).Nodup) {p q : Nat} (hp : idxS s.2 t = some p) (hq : idxS g.2 t = some q) :
    KpE rows (shrR rows t s g) t (kapS A B s g p q) ∧ ∀ e ∈ allE rows, tieD rows e = t → kapS A B s g p q (rot rows 1 (mate rows e)) = kapS A B s g p q e := by
  have lp := idx_lt hp
  have lq := idx_lt hq
  have tp := (idxS_spec hp).1
  have tq := (idxS_spec hq).1
  obtain ⟨r0, r1, r2⟩ := shr_row0 H nd
  have two' := shr_two H two nd
  have se := stay_eq hp hq
  have sl := glue_len lp lq se
  have ta : tie? rows (A.length, p) = some t := by show (rowT rows A.length)[p]? = _; rw [r1]; exact tp
  have tb : tie? rows (A.length + 1 + B.length, q) = some t := by show (rowT rows (A.length + 1 + B.length))[q]? = _; rw [r2]; exact tq
  have mm := mate_of two ta
  have mab : mate rows (A.length, p) = (A.length + 1 + B.length, q) := by
    rcases mm.2.2 _ tb with w | w
    · have := congrArg Prod.fst w; simp at this; omega
    · exact w.symm
  have mba : mate rows (A.length + 1 + B.length, q) = (A.length, p) := by rw [← mab, mate_mate two (tie_mem ta)]
  have onlyt : ∀ e ∈ allE rows, tieD rows e = t → e = (A.length, p) ∨ e = (A.length + 1 + B.length, q) := fun e he z => by
    obtain ⟨u, eu⟩ := tie_some he
    have us : u = t := by rw [← tieD_of eu]; exact z
    rw [us] at eu
    have := mm.2.2 _ eu
    rw [mab] at this
    exact this
  have nA : ∀ e ∈ allE rows, tieD rows e ≠ t → e.1 = A.length → e.2 ≠ p := fun e he ne h1 h2 => ne (by rw [show e = (A.length, p) from Prod.ext h1 h2]; exact tieD_of ta)
  have nB : ∀ e ∈ allE rows, tieD rows e ≠ t → e.1 = A.length + 1 + B.length → e.2 ≠ q := fun e he ne h1 h2 => ne (by rw [show e = (A.length + 1 + B.length, q) from Prod.ext h1 h2]; exact tieD_of tb)
  have lA : ∀ e ∈ allE rows, e.1 = A.length → e.2 < s.2.length := fun e he h1 => by have := mem_allE.mp he; rw [h1, r1] at this; exact this
  have lB : ∀ e ∈ allE rows, e.1 = A.length + 1 + B.length → e.2 < g.2.length := fun e he h1 => by have := mem_allE.mp he; rw [h1, r2] at this; exact this
  have kA : ∀ e ∈ allE rows, tieD rows e ≠ t → e.1 = A.length → kapS A B s g p q e = (A.length, fA p g.2.length e.2) ∧ fA p g.2.length e.2 < s.2.length + g.2.length - 2 := fun e he ne h1 => by
    have i1 := lA e he h1
    have i2 := nA e he ne h1
    have lt : fA p g.2.length e.2 < s.2.length + g.2.length - 2 := by unfold fA; split <;> omega
    unfold kapS
    rw [if_pos h1, Nat.mod_eq_of_lt lt]
    exact ⟨rfl, lt⟩
  have kB : ∀ e ∈ allE rows, tieD rows e ≠ t → e.1 = A.length + 1 + B.length → kapS A B s g p q e = (A.length, p + fB q g.2.length e.2) ∧ p + fB q g.2.length e.2 < s.2.length + g.2.length - 2 ∧ fB q g.2.length e.2 + 1 < g.2.length := fun e he ne h1 => by
    have i1 := lB e he h1
    have i2 := nB e he ne h1
    have lt0 : fB q g.2.length e.2 + 1 < g.2.length := by unfold fB; split <;> omega
    have lt : p + fB q g.2.length e.2 < s.2.length + g.2.length - 2 := by omega
    unfold kapS
    rw [if_neg (by omega), if_pos h1, Nat.mod_eq_of_lt lt]
    exact ⟨rfl, lt, lt0⟩
  have kO : ∀ e : NE, e.1 ≠ A.length → e.1 ≠ A.length + 1 + B.length → kapS A B s g p q e = (shN A.length B.length e.1, e.2) := fun e h1 h2 => by
    unfold kapS
    rw [if_neg h1, if_neg h2]
  have shA : shN A.length B.length A.length = A.length := by unfold shN; rw [if_pos (by omega)]
  have ht : ∀ e ∈ allE rows, tieD rows e ≠ t → tie? (shrR rows t s g) (kapS A B s g p q e) = some (tieD rows e) := fun e he ne => by
    obtain ⟨u, eu⟩ := tie_some he
    rw [tieD_of eu]
    have eu : (rowT rows e.1)[e.2]? = some u := eu
    by_cases h1 : e.1 = A.length
    · rw [(kA e he ne h1).1]
      show (rowT (shrR rows t s g) A.length)[_]? = _
      rw [h1, r1] at eu
      rw [r0, glue_A lp lq se (lA e he h1) (nA e he ne h1)]
      exact eu
    · by_cases h2 : e.1 = A.length + 1 + B.length
      · rw [(kB e he ne h2).1]
        show (rowT (shrR rows t s g) A.length)[_]? = _
        rw [h2, r2] at eu
        rw [r0, glue_B lp lq se (lB e he h2) (nB e he ne h2)]
        exact eu
      · rw [kO e h1 h2]
        show (rowT (shrR rows t s g) (shN A.length B.length e.1))[_]? = _
        rw [shr_row H nd h1 h2]
        exact eu
  have inj : ∀ e ∈ allE rows, tieD rows e ≠ t → kapS A B s g p q e ≠ kapS A B s g p q (mate rows e) := fun e he ne w => by
    have md := mate_mem two he
    obtain ⟨u, eu⟩ := tie_some he
    have m1 := mate_of two eu
    have ne' : tieD rows (mate rows e) ≠ t := by rw [tieD_of m1.1, ← tieD_of eu]; exact ne
    have all : ∀ d ∈ allE rows, tieD rows d ≠ t → ∀ d' ∈ allE rows, tieD rows d' ≠ t → kapS A B s g p q d = kapS A B s g p q d' → d.1 = A.length → d = d' := fun d hd nd1 d' hd' nd2 w h1 => by
      have a1 := lA d hd h1
      have a2 := nA d hd nd1 h1
      rw [(kA d hd nd1 h1).1] at w
      by_cases h2 : d'.1 = A.length
      · rw [(kA d' hd' nd2 h2).1] at w
        have b2 := nA d' hd' nd2 h2
        have w2 := congrArg Prod.snd w
        simp only [fA] at w2
        refine Prod.ext (h1.trans h2.symm) ?_
        split at w2 <;> split at w2 <;> omega
      · by_cases h3 : d'.1 = A.length + 1 + B.length
        · obtain ⟨k1, k2, k3⟩ := kB d' hd' nd2 h3
          rw [k1] at w
          have w2 := congrArg Prod.snd w
          simp only [fA] at w2
          split at w2 <;> omega
        · rw [kO d' h2 h3] at w
          have w1 := congrArg Prod.fst w
          simp only at w1
          have := shN_iff.mp (shA.trans w1)
          omega
    by_cases h1 : e.1 = A.length
    · exact m1.2.1 (all e he ne _ md ne' w h1).symm
    · by_cases h2 : (mate rows e).1 = A.length
      · exact m1.2.1 (all _ md ne' e he ne w.symm h2)
      · by_cases h3 : e.1 = A.length + 1 + B.length
        · obtain ⟨k1, k2, k3⟩ := kB e he ne h3
          have a2 := nB e he ne h3
          have a3 := lB e he h3
          rw [k1] at w
          by_cases h4 : (mate rows e).1 = A.length + 1 + B.length
          · obtain ⟨k4, k5, k6⟩ := kB _ md ne' h4
            have b2 := nB _ md ne' h4
            have b3 := lB _ md h4
            rw [k4] at w
            have w2 := congrArg Prod.snd w
            simp only [fB] at w2
            refine m1.2.1 (Prod.ext (h4.trans h3.symm) ?_)
            split at w2 <;> split at w2 <;> omega
          · rw [kO _ h2 h4] at w
            have w1 := congrArg Prod.fst w
            simp only at w1
            have := shN_iff.mp (shA.trans w1)
            omega
        · rw [kO e h1 h3] at w
          by_cases h4 : (mate rows e).1 = A.length + 1 + B.length
          · rw [(kB _ md ne' h4).1] at w
            have w1 := congrArg Prod.fst w
            simp only at w1
            have := shN_iff.mp (shA.trans w1.symm)
            omega
          · rw [kO _ h2 h4] at w
            have w1 := congrArg Prod.fst w
            have w2 := congrArg Prod.snd w
            simp only at w1 w2
            have := shN_iff.mp w1
            exact m1.2.1 (Prod.ext (by omega) w2.symm)
  have hr : ∀ e ∈ allE rows, tieD rows e ≠ t → kapS A B s g p q (rot rows 1 e) = rot (shrR rows t s g) 1 (kapS A B s g p q e) := fun e he ne => by
    by_cases h1 : e.1 = A.length
    · obtain ⟨k1, k2⟩ := kA e he ne h1
      have a1 := lA e he h1
      have a2 := nA e he ne h1
      rw [k1]
      unfold rot kapS
      simp only
      rw [if_pos h1, h1, r1, r0, sl]
      congr 1
      by_cases c : e.2 + 1 < s.2.length
      · rw [Nat.mod_eq_of_lt c]
        congr 1
        unfold fA
        split <;> split <;> omega
      · have c : e.2 + 1 = s.2.length := by omega
        rw [c, Nat.mod_self]
        have : fA p g.2.length e.2 + 1 = s.2.length + g.2.length - 2 := by
          unfold fA at k2 ⊢
          split <;> omega
        rw [this, Nat.mod_self]
        unfold fA
        rw [if_pos (by omega), Nat.zero_mod]
    · by_cases h2 : e.1 = A.length + 1 + B.length
      · obtain ⟨k1, k2, k3⟩ := kB e he ne h2
        have a1 := lB e he h2
        have a2 := nB e he ne h2
        rw [k1]
        unfold rot kapS
        simp only
        rw [if_neg h1, if_pos h2, h2, r2, r0, sl]
        congr 1
        by_cases c : e.2 + 1 < g.2.length
        · rw [Nat.mod_eq_of_lt c]
          congr 1
          unfold fB
          split <;> split <;> omega
        · have c : e.2 + 1 = g.2.length := by omega
          rw [c, Nat.mod_self]
          congr 1
          unfold fB
          split <;> split <;> omega
      · rw [kO e h1 h2, kO (rot rows 1 e) h1 h2]
        unfold rot
        simp only
        rw [shr_row H nd h1 h2]
  refine ⟨⟨two, two', fun u hu => (shr_ties H two nd).mp hu, ht, inj, hr⟩, fun e he z => ?_⟩
  rcases onlyt e he z with w | w
  · rw [w, mab]
    unfold rot kapS
    simp only
    rw [if_neg (by omega), if_pos trivial, if_pos trivial, r2]
    congr 1
    by_cases c : q + 1 < g.2.length
    · rw [Nat.mod_eq_of_lt c]
      congr 1
      unfold fA fB
      rw [if_pos (by omega), if_pos (Nat.le_refl _)]
      omega
    · have c : q + 1 = g.2.length := by omega
      rw [c, Nat.mod_self]
      congr 1
      unfold fA fB
      rw [if_neg (by omega), if_pos (Nat.le_refl _)]
      omega
  · rw [w, mba]
    unfold rot kapS
    simp only
    rw [if_pos trivial, if_neg (by omega), if_pos trivial, r1]
    congr 1
    by_cases c : p + 1 < s.2.length
    · rw [Nat.mod_eq_of_lt c]
      congr 1
      unfold fA fB
      rw [if_neg (by omega), if_neg (by omega)]
      omega
    · have c : p + 1 = s.2.length := by omega
      rw [c, Nat.mod_self]
      have : p + fB q g.2.length q = s.2.length + g.2.length - 2 := by
        unfold fB
        rw [if_neg (by omega)]
        omega
      rw [this, Nat.mod_self]
      unfold fA
      rw [if_pos (by omega), Nat.zero_mod]
end
end Tw
set_option Elab.async false
set_option linter.all false
set_option maxRecDepth 100000
set_option maxHeartbeats 4000000
namespace Tw
open PySem PySem.Spec L2 TL
open PyProof.Rows hiding St
section
variable {rows D W1 W2 : RowsT} {t : Str} {κ1 κ2 th : NE → NE}
/-- D has the ties of the other net of rows, th says which end here stands there -/
structure ThE (rows D : RowsT) (th : NE → NE) : Prop where
  two : Twice rows
  twoD : Twice D
  mem : ∀ e ∈ allE D, th e ∈ allE rows
  inj : ∀ a ∈ allE D, ∀ b ∈ allE D, th a = th b → a = b
  onto : ∀ d ∈ allE rows, ∃ e ∈ allE D, th e = d
  tie : ∀ e ∈ allE D, tieD rows (th e) = tieD D e
  rot : ∀ e ∈ allE D, th (rot D 1 e) = stp rows (th e)
  stp : ∀ e ∈ allE D, th (stp D e) = Tw.rot rows 1 (th e)
/-- from two maps of the ends that are left to what turns along -/
theorem mtc_of (T : ThE rows D th) (K1 : KpE D W1 t κ1) (K2 : KpE rows W2 t κ2) (nx : ∀ e ∈ allE D, tieD D e ≠ t → ∃ n ∈ allE D, tieD D n ≠ t ∧ κ1 (rot D 1 e) = κ1 n ∧ κ2 (th (rot D 1 e)) = κ2 (th n)) :
    ∃ ψ, Mtc W1 W2 ψ := by
  classical
  have pre : ∀ y ∈ allE W2, ∃ e, e ∈ allE D ∧ tieD D e ≠ t ∧ κ2 (th e) = y := fun y hy => by
    obtain ⟨d, hd, nd, ed⟩ := K2.onto hy
    obtain ⟨e, he, ee⟩ := T.onto d hd
    exact ⟨e, he, by rw [← T.tie e he, ee]; exact nd, by rw [ee]; exact ed⟩
  let ψ : NE → NE := fun y => if h : y ∈ allE W2 then κ1 (pre y h).choose else y
  have uni : ∀ a ∈ allE D, tieD D a ≠ t → ∀ b ∈ allE D, tieD D b ≠ t → κ2 (th a) = κ2 (th b) → a = b := fun a ha na b hb nb e =>
    T.inj a ha b hb (K2.inj (T.mem a ha) (by rw [T.tie a ha]; exact na) (T.mem b hb) (by rw [T.tie b hb]; exact nb) e)
  have m2 : ∀ e ∈ allE D, tieD D e ≠ t → κ2 (th e) ∈ allE W2 := fun e he n => K2.mem (T.mem e he) (by rw [T.tie e he]; exact n)
  have val : ∀ e ∈ allE D, tieD D e ≠ t → ψ (κ2 (th e)) = κ1 e := fun e he n => by
    have h := m2 e he n
    show (if h : κ2 (th e) ∈ allE W2 then κ1 (pre _ h).choose else κ2 (th e)) = κ1 e
    rw [dif_pos h]
    obtain ⟨c1, c2, c3⟩ := (pre _ h).choose_spec
    rw [uni _ c1 c2 e he n c3]
  refine ⟨ψ, ⟨fun y hy => ?_, fun a ha b hb e => ?_, fun d hd => ?_, fun y hy => ?_, fun y hy => ?_⟩⟩
  · obtain ⟨e, he, n, rfl⟩ := pre y hy
    rw [val e he n]
    exact K1.mem he n
  · obtain ⟨x, hx, nx, rfl⟩ := pre a ha
    obtain ⟨y, hy, ny, rfl⟩ := pre b hb
    rw [val x hx nx, val y hy ny] at e
    rw [K1.inj hx nx hy ny e]
  · obtain ⟨e, he, n, rfl⟩ := K1.onto hd
    exact ⟨_, m2 e he n, val e he n⟩
  · obtain ⟨e, he, n, rfl⟩ := pre y hy
    rw [val e he n, K1.lab he n, K2.lab (T.mem e he) (by rw [T.tie e he]; exact n), T.tie e he]
  · obtain ⟨e, he, n, rfl⟩ := pre y hy
    obtain ⟨m, hm, nm, e1, e2⟩ := nx e he n
    rw [val e he n, ← K1.rot e he n, K2.stp (T.mem e he) (by rw [T.tie e he]; exact n), ← T.rot e he, e1, e2, val m hm nm]
theorem two_ends (two : Twice D) {a e : NE} (ha : a ∈ allE D) (za : tieD D a = t) (he : e ∈ allE D) (ze : tieD D e = t) : e = a ∨ e = mate D a := by
  obtain ⟨s, es⟩ := tie_some ha
  obtain ⟨s2, es2⟩ := tie_some he
  rw [tieD_of es] at za
  rw [tieD_of es2] at ze
  subst za
  subst ze
  exact (mate_of two es).2.2 _ es2
/-- shrunk there, taken out here -/
theorem mtc_less (T : ThE rows D th) {A B C : RowsT} {s g : Str × List Str} (H : Hold D t A B C s g) (nd : (D.map (·.1)).Nodup) : ∃ ψ, Mtc (shrR D t s g) (less1 rows t) ψ := by
  obtain ⟨p, hp⟩ := idxS_mem H.ms
  obtain ⟨q, hq⟩ := idxS_mem H.mg
  obtain ⟨K1, k1⟩ := kpS_all H T.twoD nd hp hq
  have two := T.twoD
  refine mtc_of T K1 (kpL T.two t) fun e he n => ?_
  have hpr := (hold_prT H two nd).2
  -- ends of t stand in two rows
  have apart : ∀ a ∈ allE D, tieD D a = t → (mate D a).1 ≠ a.1 := fun a ha za w => by
    have := prT_end two ha
    rw [za] at this
    rcases this with z | z <;> rcases hpr with y | y <;> (rw [z] at y; have y1 := congrArg Prod.fst y; have y2 := congrArg Prod.snd y; simp only at y1 y2; omega)
  have stay : ∀ x ∈ allE D, tieD D x = t → kapS A B s g p q x = kapS A B s g p q (stp D x) ∧ kapL rows t (th x) = kapL rows t (th (stp D x)) := fun x hx zx => by
    refine ⟨(k1 x hx zx).symm, ?_⟩
    rw [T.stp x hx, kpL_t (T.mem x hx) (by rw [T.tie x hx]; exact zx)]
  have hx := rot_mem 1 he
  by_cases z1 : tieD D (rot D 1 e) = t
  · have hs := (stp_inj two).to _ hx
    have hmx := mate_mem two hx
    obtain ⟨s1, s2⟩ := stay _ hx z1
    by_cases z2 : tieD D (stp D (rot D 1 e)) = t
    · obtain ⟨s3, s4⟩ := stay _ hs z2
      have hb : stp D (rot D 1 e) = mate D (rot D 1 e) := by
        rcases two_ends two hx z1 hs z2 with w | w
        · exact absurd (show (stp D (rot D 1 e)).1 = (rot D 1 e).1 from congrArg Prod.fst w) (apart _ hx z1)
        · exact w
      refine ⟨stp D (stp D (rot D 1 e)), (stp_inj two).to _ hs, fun z3 => ?_, s1.trans s3, s2.trans s4⟩
      have e3 : stp D (stp D (rot D 1 e)) = rot D 1 (rot D 1 e) := by
        rw [hb]
        show rot D 1 (mate D (mate D (rot D 1 e))) = _
        rw [mate_mate two hx]
      rw [e3] at z3
      rcases two_ends two hx z1 (rot_mem 1 hx) z3 with w | w
      · have := rot_inj hx he w
        rw [← this] at n
        exact n z1
      · exact apart _ hx z1 (by rw [← w]; rfl)
    · exact ⟨_, hs, z2, s1, s2⟩
  · exact ⟨_, hx, z1, rfl, rfl⟩
/-- taken out there, shrunk here -/
theorem mtc_shr (T : ThE rows D th) {A B C : RowsT} {s g : Str × List Str} (H : Hold rows t A B C s g) (nd : (rows.map (·.1)).Nodup) : ∃ ψ, Mtc (less1 D t) (shrR rows t s g) ψ := by
  obtain ⟨p, hp⟩ := idxS_mem H.ms
  obtain ⟨q, hq⟩ := idxS_mem H.mg
  obtain ⟨K2, k2⟩ := kpS_all H T.two nd hp hq
  have two := T.twoD
  refine mtc_of T (kpL two t) K2 fun e he n => ?_
  have stay : ∀ x ∈ allE D, tieD D x = t → kapL D t x = kapL D t (rot D 1 x) ∧ kapS A B s g p q (th x) = kapS A B s g p q (th (rot D 1 x)) := fun x hx zx => by
    refine ⟨(kpL_t hx zx).symm, ?_⟩
    rw [T.rot x hx]
    exact (k2 _ (T.mem x hx) (by rw [T.tie x hx]; exact zx)).symm
  have hx := rot_mem 1 he
  by_cases z1 : tieD D (rot D 1 e) = t
  · have hs := rot_mem 1 hx
    obtain ⟨s1, s2⟩ := stay _ hx z1
    by_cases z2 : tieD D (rot D 1 (rot D 1 e)) = t
    · obtain ⟨s3, s4⟩ := stay _ hs z2
      refine ⟨rot D 1 (rot D 1 (rot D 1 e)), rot_mem 1 hs, fun z3 => ?_, s1.trans s3, s2.trans s4⟩
      have hne : rot D 1 (rot D 1 e) ≠ rot D 1 e := fun w => by
        have := rot_inj hx he w
        rw [← this] at n
        exact n z1
      rcases two_ends two hx z1 hs z2 with w | w
      · exact hne w
      · rcases two_ends two hx z1 (rot_mem 1 hs) z3 with w3 | w3
        · have := rot_inj hs he w3
          rw [← this] at n
          exact n z2
        · rw [← w] at w3
          exact hne (rot_inj hs hx w3)
    · exact ⟨_, hs, z2, s1, s2⟩
  · exact ⟨_, hx, z1, rfl, rfl⟩
end
end Tw
set_option Elab.async false
set_option linter.all false
set_option maxRecDepth 100000
set_option maxHeartbeats 4000000
namespace Tw
open PySem PySem.Spec L2 TL
open PyProof.Rows hiding St
def qkI (i : Int) : Str := (Str.ofString "q") ++ (toString i : Str)
theorem qk_small : ∀ k : Nat, k < 100 → (((k : Int)).natAbs.log2 < 1920) ∧ ((Str.ofString "q").length + (toString (k : Int) : Str).length ≤ 1000) ∧ ((qkI (k : Int)).cps.all (· < 0x110000) = true) ∧ isNm (qkI (k : Int)) = true := by decide +kernel
theorem qk_nd : ((List.range 64).map fun k : Nat => qkI (k : Int)).Nodup := by decide +kernel
noncomputable def othQ (rows : RowsT) : RowsT := (enu (facesN rows)).map fun y => (qkI y.1, y.2.map (tieD rows))
variable {rows : RowsT}
theorem othQ_like (rows : RowsT) : (othN rows).map (·.2) = (othQ rows).map (·.2) := by
  unfold othN othQ
  rw [List.map_map, List.map_map]
  rfl
theorem othQ_rows (rows : RowsT) : (othQ rows).map (·.2) = (facesN rows).map fun f => f.map (tieD rows) := by
  refine List.ext_getElem? fun i => ?_
  unfold othQ
  rw [List.map_map, List.getElem?_map, List.getElem?_map]
  by_cases c : i < (facesN rows).length
  · rw [enu_get (List.getElem?_eq_getElem c), List.getElem?_eq_getElem c]
    rfl
  · rw [List.getElem?_eq_none (by rw [enu_len]; omega), List.getElem?_eq_none (by omega)]
    rfl
structure Like (rows rows' : RowsT) : Prop where
  len : rows.length = rows'.length
  row : rowT rows = rowT rows'
  tie : tie? rows = tie? rows'
  all : allE rows = allE rows'
  mate : mate rows = mate rows'
  ties : ties rows = Tw.ties rows'
  prT : prT rows = Tw.prT rows'
theorem like_of {rows rows' : RowsT} (h : rows.map (·.2) = rows'.map (·.2)) : Like rows rows' := by
  have hl : rows.length = rows'.length := by have := congrArg List.length h; simpa using this
  have hr : rowT rows = rowT rows' := funext fun r => by
    have := congrArg (fun l : List (List Str) => l[r]?) h
    simp only [List.getElem?_map] at this
    unfold rowT
    rw [this]
  have ht : tie? rows = tie? rows' := funext fun e => by unfold tie?; rw [hr]
  have ha : allE rows = allE rows' := by unfold allE; rw [hl, hr]
  have hs : seatL rows = seatL rows' := funext fun t => by unfold seatL; rw [ha, ht]
  have hA : seatA rows = seatA rows' := funext fun t => by unfold seatA; rw [hs]
  have hm : mate rows = mate rows' := funext fun e => by unfold mate; rw [ht, hs]
  refine ⟨hl, hr, ht, ha, hm, ?_, funext fun t => by unfold prT; rw [hA, hm]⟩
  unfold ties
  rw [List.flatMap_def, List.flatMap_def, h]
theorem Like.two {rows rows' : RowsT} (L : Like rows rows') (h : Twice rows) : Twice rows' := fun t ht => by rw [← L.ties] at ht ⊢; exact h t ht
theorem Like.hang {rows rows' : RowsT} (L : Like rows rows') : HangN rows ↔ HangN rows' := by unfold HangN; rw [L.ties, L.prT, L.len]
theorem Like.tieD {rows rows' : RowsT} (L : Like rows rows') : tieD rows = Tw.tieD rows' := funext fun e => by unfold Tw.tieD; rw [L.tie]
theorem Like.rot {rows rows' : RowsT} (L : Like rows rows') : rot rows = Tw.rot rows' := funext fun k => funext fun e => by unfold Tw.rot; rw [L.row]
theorem Like.stp {rows rows' : RowsT} (L : Like rows rows') : stp rows = Tw.stp rows' := funext fun e => by unfold Tw.stp; rw [L.rot, L.mate]
theorem less_like {rows rows' : RowsT} (h : rows.map (·.2) = rows'.map (·.2)) (t : Str) : (less1 rows t).map (·.2) = (less1 rows' t).map (·.2) := by
  have e : ∀ l : RowsT, (less1 l t).map (·.2) = (l.map (·.2)).map fun x => x.filter fun y => !decide (y = t) := fun l => by
    unfold less1
    rw [List.map_map, List.map_map]
    rfl
  rw [e, e, h]
theorem the_Q (h : Twice rows) : ThE rows (othQ rows) (thE rows) := by
  have L := like_of (othQ_like rows)
  have hm : ∀ {e}, e ∈ allE (othQ rows) → e ∈ allE (othN rows) := fun h => by rw [L.all]; exact h
  refine ⟨h, L.two (oth_twice h), fun e he => th_mem h (hm he), fun a ha b hb => th_inj h a (hm ha) b (hm hb), fun d hd => ?_, fun e he => ?_, fun e he => ?_, fun e he => ?_⟩
  · obtain ⟨e, he, k⟩ := th_on h hd
    exact ⟨e, by rw [← L.all]; exact he, k⟩
  · rw [← L.tieD]
    exact (th_tieD h (hm he)).symm
  · rw [← L.rot]
    exact th_rot h (hm he)
  · rw [← L.stp]
    exact th_stp h (hm he)
theorem othQ_V (V : NetV rows) (hE : (allE rows).length ≤ 62) : NetV (othQ rows) := by
  have h := V.two
  have R := oth_R h hE
  have L := like_of (othQ_like rows)
  have fl := (facesN_len h).1
  have nm : (othQ rows).map (·.1) = (((List.range 64).map fun k : Nat => qkI (k : Int)).take (facesN rows).length) := by
    refine List.ext_getElem? fun i => ?_
    unfold othQ
    rw [List.map_map, List.getElem?_map, List.getElem?_take]
    by_cases q : i < (facesN rows).length
    · rw [enu_get (List.getElem?_eq_getElem q), if_pos q, List.getElem?_map, List.getElem?_range (by omega)]
      rfl
    · rw [List.getElem?_eq_none (by rw [enu_len]; omega), if_neg q]
      rfl
  have nms : ∀ n ∈ (othQ rows).map (·.1), ∃ k : Nat, k < 64 ∧ n = qkI (k : Int) := fun n hn => by
    rw [nm] at hn
    obtain ⟨k, hk, e⟩ := List.mem_map.mp (List.mem_of_mem_take hn)
    exact ⟨k, List.mem_range.mp hk, e.symm⟩
  refine ⟨⟨⟨L.two (oth_twice h), by rw [nm]; exact qk_nd.sublist (List.take_sublist _ _), fun w => R.ne (List.length_eq_zero_iff.mp (by rw [L.len, w]; rfl))⟩, ⟨by rw [← L.len]; exact R.sm.1, by rw [← L.all]; exact R.sm.2⟩, fun n hn => ?_⟩, by rw [← L.len]; exact R.few, fun n hn => ?_, fun t ht => V.nmt t ?_⟩
  · obtain ⟨k, hk, rfl⟩ := nms n hn
    exact (qk_small k (by omega)).2.2.1
  · obtain ⟨k, hk, rfl⟩ := nms n hn
    exact (qk_small k (by omega)).2.2.2
  · rw [← L.ties] at ht
    exact (oth_perm h).mem_iff.mp ht
theorem othQ_hang (Q : NetQ rows) (hE : (allE rows).length ≤ 62) : HangN (othQ rows) := (like_of (othQ_like rows)).hang.mp ((hang_N (oth_Q Q hE).toNetP).mp (oth_hang Q hE))
theorem px_cnt (t : Str) : ∀ l : List Str, px (inB [t]) l = decide (l.count t % 2 = 1)
  | [] => rfl
  | a :: l => by
    have ih := px_cnt t l
    show xor (inB [t] a) (px (inB [t]) l) = _
    rw [ih, List.count_cons]
    by_cases q : a = t
    · subst q
      rw [show inB [a] a = true from decide_eq_true (List.mem_singleton.mpr rfl), if_pos (beq_self_eq_true _)]
      rcases Nat.mod_two_eq_zero_or_one (l.count a) with z | z
      · rw [decide_eq_false (by omega), decide_eq_true (by omega)]; rfl
      · rw [decide_eq_true z, decide_eq_false (by omega)]; rfl
    · rw [show inB [t] a = false from decide_eq_false (fun z => q (List.mem_singleton.mp z)), if_neg (by simpa using q), Bool.false_xor, Nat.add_zero]
theorem loop_round (two : Twice rows) {t : Str} (ht : t ∈ ties rows) : RoundP rows (inB [t]) ↔ (prT rows t).1 = (prT rows t).2 := by
  obtain ⟨l1, l2⟩ := prT_lt two ht
  constructor
  · intro h
    have := h _ l1
    rw [px_cnt, prT_cnt two ht l1, if_pos rfl] at this
    refine Classical.byContradiction fun q => ?_
    rw [if_neg (fun w => q w.symm)] at this
    revert this
    decide
  · intro e v hv
    rw [px_cnt, prT_cnt two ht hv, e]
    refine decide_eq_false fun w => ?_
    split at w <;> omega
theorem bridge_cut (two : Twice rows) (hN : HangN rows) {t : Str} (ht : t ∈ ties rows) : ¬ HangN (less1 rows t) ↔ ∃ f, CutP rows (inB [t]) f := by
  obtain ⟨l1, l2⟩ := prT_lt two ht
  rw [less_hangN two t]
  have it : inB [t] t = true := decide_eq_true (List.mem_singleton.mpr rfl)
  have io : ∀ u, u ≠ t → inB [t] u = false := fun u ne => decide_eq_false fun z => ne (List.mem_singleton.mp z)
  constructor
  · intro h
    refine Classical.byContradiction fun q => h fun f hf v hv => ?_
    by_cases e : f (prT rows t).1 = f (prT rows t).2
    · refine hN f (fun u hu => ?_) v hv
      by_cases ut : u = t
      · rw [ut]; exact e
      · exact hf u hu ut
    · refine absurd ⟨f, (cut_iff two).mpr fun u hu => ?_⟩ q
      by_cases ut : u = t
      · rw [ut, it]
        revert e
        cases f (prT rows t).1 <;> cases f (prT rows t).2 <;> simp
      · rw [io u ut, hf u hu ut, Bool.xor_self]
  · rintro ⟨f, hf⟩ h
    have hf := (cut_iff two).mp hf
    have c := h f fun u hu ut => by
      have := hf u hu
      rw [io u ut] at this
      revert this
      cases f (prT rows u).1 <;> cases f (prT rows u).2 <;> simp
    have := hf t ht
    rw [it, c _ l1, c _ l2, Bool.xor_self] at this
    cases this
theorem othQ_in (h : Twice rows) {t : Str} : t ∈ ties (othQ rows) ↔ t ∈ ties rows := by
  rw [← (like_of (othQ_like rows)).ties]
  exact (oth_perm h).mem_iff
/-- a loop there is a bridge here -/
theorem dual_loop (Q : NetQ rows) (hp : Plane rows) (hN : HangN rows) {t : Str} (ht : t ∈ ties rows) : (prT (othQ rows) t).1 = (prT (othQ rows) t).2 ↔ ¬ HangN (less1 rows t) := by
  have h := Q.two
  have L := like_of (othQ_like rows)
  rw [← L.prT, ← loop_round (oth_twice h) ((oth_perm h).mem_iff.mpr ht), bridge_cut h hN ht]
  exact ⟨fun k => oth_round h hp k, fun ⟨f, k⟩ => oth_round' h k⟩
/-- a bridge there is a loop here -/
theorem dual_bridge (Q : NetQ rows) (hp : Plane rows) (hE : (allE rows).length ≤ 62) {t : Str} (ht : t ∈ ties rows) : ¬ HangN (less1 (othQ rows) t) ↔ (prT rows t).1 = (prT rows t).2 := by
  have h := Q.two
  have L := like_of (othQ_like rows)
  have O := oth_Q Q hE
  rw [← (like_of (less_like (othQ_like rows) t)).hang, bridge_cut O.two ((hang_N O.toNetP).mp O.hang) ((oth_perm h).mem_iff.mpr ht), ← loop_round h ht]
  exact ⟨fun ⟨g, k⟩ => oth_cut h k, fun k => oth_cut' h hp k⟩
noncomputable def canR (rows : RowsT) : List (List Str) := srtLs (rows.map fun x => cyc x.2)
theorem canR_of {rows : RowsT} {l : List (List Str)} (h : rows.map (·.2) = l) : canR rows = srtLs (l.map cyc) := by
  unfold canR
  rw [← h, List.map_map]
  rfl
theorem full_or {W : RowsT} (two : Twice W) (hN : HangN W) (ne : W ≠ []) : (∃ n, W = [(n, [])]) ∨ ∀ r, r < W.length → rowT W r ≠ [] := by
  by_cases q : ∀ r, r < W.length → rowT W r ≠ []
  · exact .inr q
  · refine .inl ?_
    have q : ∃ r, r < W.length ∧ rowT W r = [] := Classical.byContradiction fun w => q fun r hr e => w ⟨r, hr, e⟩
    obtain ⟨r, hr, er⟩ := q
    have c := hN (fun v => decide (v = r)) fun u hu => by
      obtain ⟨m1, m2⟩ := prT_row two hu
      have n1 : (prT W u).1 ≠ r := fun w => by rw [w, er] at m1; cases m1
      have n2 : (prT W u).2 ≠ r := fun w => by rw [w, er] at m2; cases m2
      show decide ((prT W u).1 = r) = decide ((prT W u).2 = r)
      rw [decide_eq_false n1, decide_eq_false n2]
    have r0 : r = 0 := by
      have := c r hr
      rw [decide_eq_true rfl] at this
      exact (of_decide_eq_true this.symm).symm
    subst r0
    have len : W.length = 1 := by
      refine Classical.byContradiction fun w => ?_
      have := c 1 (by omega)
      rw [decide_eq_true rfl] at this
      have := of_decide_eq_true this
      omega
    match W, len, er with
    | [(n, l)], _, er =>
      refine ⟨n, ?_⟩
      have : l = [] := er
      rw [this]
theorem canon_eq {W1 W2 : RowsT} {ψ : NE → NE} (m : Mtc W1 W2 ψ) (h2 : Twice W2) (two : Twice W1) (hN : HangN W1) (ne : W1 ≠ []) : canR (othQ W2) = canR W1 := by
  rw [canR_of (othQ_rows W2), List.map_map]
  by_cases q : allE W2 = []
  · have e : facesN W2 = [[]] := by unfold facesN; rw [if_pos q]
    have e1 : allE W1 = [] := List.eq_nil_iff_forall_not_mem.mpr fun d hd => by
      obtain ⟨e, he, _⟩ := m.onto d hd
      rw [q] at he
      cases he
    rcases full_or two hN ne with ⟨n, w⟩ | w
    · rw [e, w]; rfl
    · have := List.length_pos_iff.mpr (w 0 (List.length_pos_iff.mpr ne))
      have : ((0, 0) : NE) ∈ allE W1 := mem_allE.mpr this
      rw [e1] at this
      cases this
  · have e : facesN W2 = facesL W2 := by unfold facesN; rw [if_neg q]
    rcases full_or two hN ne with ⟨n, w⟩ | w
    · obtain ⟨d, hd⟩ := List.exists_mem_of_ne_nil _ q
      have := m.mem d hd
      rw [w] at this
      have := allE_row this
      have h3 := mem_allE.mp (m.mem d hd)
      rw [w] at h3
      have e0 : (ψ d).1 = 0 := by simp at this; omega
      rw [e0] at h3
      exact absurd h3 (Nat.not_lt_zero _)
    · rw [e]
      exact srtLs_congr (mt_cyc m h2 w)
section
variable {t : Str}
theorem main_less (Q : NetQ rows) (V : NetV rows) (hp : Plane rows) (hE : (allE rows).length ≤ 62) (ht : t ∈ ties rows) (nb : HangN (less1 rows t)) :
    ∃ s g, (othQ rows).filter (fun x => decide (t ∈ x.2)) = [s, g] ∧ canR (othQ (less1 rows t)) = canR (shrR (othQ rows) t s g) := by
  have h := Q.two
  have hN := (hang_N Q.toNetP).mp Q.hang
  have T := the_Q h
  have DV := othQ_V V hE
  rcases hold_or T.twoD ((othQ_in h).mpr ht) with ⟨q, _⟩ | ⟨_, _, s, g, hf⟩
  · exact absurd nb ((dual_loop Q hp hN ht).mp q)
  · obtain ⟨A, B, C, H⟩ := hold_of hf
    obtain ⟨ψ, m⟩ := mtc_less T H DV.nd
    refine ⟨s, g, hf, canon_eq m (less_two h t) (shr_two H T.twoD DV.nd) (shr_hangN H T.twoD DV.nd (othQ_hang Q hE)) fun w => ?_⟩
    have := shr_len H DV.nd
    rw [w] at this
    have l2 := H.len
    simp at this
    omega
theorem main_shr (Q : NetQ rows) (V : NetV rows) (hp : Plane rows) (hE : (allE rows).length ≤ 62) (ht : t ∈ ties rows) (nl : (prT rows t).1 ≠ (prT rows t).2) :
    ∃ A B C s g, rows.filter (fun x => decide (t ∈ x.2)) = [s, g] ∧ Hold rows t A B C s g ∧ canR (othQ (shrR rows t s g)) = canR (less1 (othQ rows) t) := by
  have h := Q.two
  have T := the_Q h
  have DV := othQ_V V hE
  rcases hold_or h ht with ⟨q, _⟩ | ⟨_, _, s, g, hf⟩
  · exact absurd q nl
  · obtain ⟨A, B, C, H⟩ := hold_of hf
    obtain ⟨ψ, m⟩ := mtc_shr T H Q.nd
    refine ⟨A, B, C, s, g, hf, H, canon_eq m (shr_two H h Q.nd) (less_two T.twoD t) ?_ (less_ne t DV.ne)⟩
    exact Classical.byContradiction fun w => nl ((dual_bridge Q hp hE ht).mp w)
end
end Tw
set_option Elab.async false
set_option linter.all false
set_option maxRecDepth 100000
set_option maxHeartbeats 4000000
namespace Tw
open PySem PySem.Spec L2 TL
open PyProof.Rows hiding St
theorem cI_injE75 {rows : RowsT} : ∀ a ∈ allE rows, ∀ b ∈ allE rows, cI a = cI b → a = b := fun a _ b _ w => cI_inj w
theorem enu_snoc75 {α : Type} (l : List α) (a : α) : enu (l ++ [a]) = enu l ++ [((l.length : Int), a)] := by
  unfold enu
  rw [List.zipIdx_append, List.map_append]
  simp
theorem other75_ok {rows : RowsT} (T : NetT rows) (hs : (allE rows).length ≤ 90) (okt : ∀ t ∈ ties rows, Dd.Ok t) : F__law_other_net rows = .ok (othQ rows) := by
  refine M.T_is ?_
  unfold F__law_other_net
  have two := T.two
  have J := stp_inj two
  have hl1 := T.sm.1
  have hl2 := T.sm.2
  rw [seats_ok T.sm]
  refine M.T_b (M.T_cl (M.T_ok (M.T_b (M.T_ok (M.T_b (M.T_ok (M.T_b (M.T_b (M.T_chk (rng_side (by omega)) (M.T_ok ?_))))))))))
  let Iv : List NE → RowsT × Dt (Int × Int) Bool → Prop := fun P s => s.1 = (enu (rgs rows P)).map (fun (y : Int × List NE) => (qkI y.1, y.2.map (tieD rows))) ∧ SeenI cI rows (rgs rows P).flatten s.2.l
  refine M.T_rngs Iv ⟨rfl, fun e _ => rfl, Nat.le_refl _⟩ (fun r x s hx i => ?_) fun s ⟨i1, _⟩ => ?_
  · have hxl := row_len hx T.sm
    refine M.T_b (M.T_b (M.T_b (M.T_b (M.T_b (M.T_get (atI_nat hx) (M.T_ok (M.T_ok (M.T_chk (rng_side (by omega)) (M.T_ok ?_)))))))))
    refine M.T_places Iv hx i (fun p s hE hi ⟨i1, i2⟩ => ?_) fun s j => M.T_ok j
    have hP : ∀ d ∈ seqE rows r p, d ∈ allE rows := fun d hd => by
      rcases mem_seqE.mp hd with ⟨_, w⟩ | ⟨w1, w2⟩
      · exact mem_allE.mpr w
      · have := mem_allE.mp hE
        refine mem_allE.mpr ?_
        rw [w1]
        show d.2 < (rowT rows r).length
        have : p < (rowT rows r).length := this
        omega
    have RP := rgs_P two _ hP
    have er := rgs_snoc rows (seqE rows r p) (r, p)
    refine M.T_ite (fun z => ?_) fun z => ?_
    · have hn : ((r, p) : NE) ∉ (rgs rows (seqE rows r p)).flatten := fun w => by
        have z2 : (!(dget s.2.l (cI (r, p))).isSome) = true := z
        rw [i2.get _ hE, decide_eq_true w] at z2
        cases z2
      rw [if_neg hn] at er
      have RP2 := rgs_P two (seqE rows r p ++ [(r, p)]) fun d hd => by
        rcases List.mem_append.mp hd with w | w
        · exact hP d w
        · rw [List.mem_singleton.mp w]; exact hE
      have ef : (rgs rows (seqE rows r p ++ [(r, p)])).flatten = (rgs rows (seqE rows r p)).flatten ++ faceE rows (r, p) := by rw [er, List.flatten_append]; simp
      have lmax := ends_max RP2.nd RP2.sub
      rw [ef, List.length_append] at lmax
      have lr : (rgs rows (seqE rows r p)).length ≤ (rgs rows (seqE rows r p)).flatten.length := by
        have : ∀ R : List (List NE), (∀ f ∈ R, f ≠ []) → R.length ≤ R.flatten.length := by
          intro R
          induction R with
          | nil => intro _; simp
          | cons f r ih =>
            intro hf
            have h1 := List.length_pos_iff.mpr (hf f List.mem_cons_self)
            have h2 := ih fun g hg => hf g (List.mem_cons_of_mem _ hg)
            rw [List.flatten_cons, List.length_append, List.length_cons]
            omega
        refine this _ fun f hf w => ?_
        obtain ⟨d, hd, e2⟩ := RP.fc f hf
        have := J.self_mem (hP d hd)
        rw [e2] at w
        have w2 : face (stp rows) (allE rows) d = [] := w
        rw [w2] at this
        cases this
      show (M.b (M.cl (F__law_face rows ⟨grp (endL rows)⟩ (cI (r, p)))) _).T _
      rw [face_ok two T.sm hE]
      have hsl : s.1.length = (rgs rows (seqE rows r p)).length := by rw [i1, List.length_map, enu_len]
      obtain ⟨f1, f2, _⟩ := qk_small s.1.length (by omega)
      have lc := M.lc_map (e := fun (y18 : Int × Int) => (M.b (M.b (M.get (atI rows y18.1)) fun x19 => (M.ok x19.2)) fun x20 => (M.get (atI x20 y18.2)))) (f := fun y => tieD rows (y.1.toNat, y.2.toNat)) ((faceE rows (r, p)).map cI) (fun y hy => by
        obtain ⟨d, hd, rfl⟩ := List.mem_map.mp hy
        have hdE := J.face_sub hE d hd
        obtain ⟨w, w1, w2⟩ := at_row (allE_row hdE)
        show M.b (M.b (M.get (atI rows (d.1 : Int))) _) _ = _
        rw [w1]
        show M.get (atI w.2 (d.2 : Int)) = _
        rw [w2, at_tie hdE]
        rfl)
      refine M.T_b (M.T_cl (M.T_ok (M.T_b (M.T_b (M.T_b (M.T_chk f1 (M.T_ok (M.T_chk (line_of (by omega)) (M.T_ok (M.T_b (M.T_chk (line_of (by rw [List.length_map]; omega)) (M.T_of lc (M.T_ok (M.T_chk (line_lt (by omega)) (M.T_b ?_)))))))))))))))
      rw [for_mapE]
      refine M.T_for (fun D (d : Dt (Int × Int) Bool) => SeenI cI rows ((rgs rows (seqE rows r p)).flatten ++ D) d.l) (by rw [List.append_nil]; exact i2) (fun D y W d hD j => ?_) fun d j => ?_
      · have hy : y ∈ faceE rows (r, p) := by rw [hD]; simp
        have hDl : D.length ≤ (faceE rows (r, p)).length := by rw [hD]; simp
        have := j.len
        rw [List.length_append] at this
        refine M.T_b (M.T_ok (M.T_b (M.T_ok (M.T_chk (line_lt (by omega)) (M.T_ok ?_)))))
        rw [← List.append_assoc]
        exact j.put cI_injE75 (J.face_sub hE y hy)
      · refine M.T_ok ⟨?_, ?_⟩
        · show s.1 ++ [_] = (enu (rgs rows (seqE rows r p ++ [(r, p)]))).map _
          rw [er, enu_snoc75, List.map_append, ← i1, hsl]
          congr 1
          show [(qkI _, ((faceE rows (r, p)).map cI).map _)] = [(qkI _, (faceE rows (r, p)).map (tieD rows))]
          rw [List.map_map]
          rfl
        · rw [ef]; exact j
    · have hn : ((r, p) : NE) ∈ (rgs rows (seqE rows r p)).flatten := by
        refine Classical.byContradiction fun w => z ?_
        show (!(dget s.2.l (cI (r, p))).isSome) = true
        rw [i2.get _ hE, decide_eq_false w]
        rfl
      rw [if_pos hn] at er
      refine M.T_ok ⟨?_, ?_⟩
      · rw [er]; exact i1
      · rw [er]; exact i2
  · have FL := facesL_len two
    have FE := rgs_P two (allE rows) fun e he => he
    have ok : Dd.Ok s.1 := by
      rw [i1]
      intro x hx
      obtain ⟨y, hy, rfl⟩ := List.mem_map.mp hx
      obtain ⟨k, hk, e1, e2⟩ := enu_mem hy
      refine ⟨?_, fun t ht => ?_⟩
      · show (qkI y.1).cps.all (· < 0x110000) = true
        rw [e1]
        have hk2 : k < (facesL rows).length := hk
        exact (qk_small k (by omega)).2.2.1
      · obtain ⟨d, hd, rfl⟩ := List.mem_map.mp ht
        exact okt _ (tieD_mem (FE.sub d (List.mem_flatten.mpr ⟨_, List.mem_of_getElem? e2, hd⟩)))
    refine M.T_b (M.T_chk ⟨ok, fun x hx => by cases hx⟩ (M.T_ok ?_))
    unfold othQ facesN
    by_cases q : allE rows = []
    · have : s.1 = [] := by rw [i1, q]; rfl
      rw [decide_eq_true this, if_pos rfl, if_pos q]
      exact M.T_chk (line_of (show 1 ≤ 100000 by decide)) (M.T_ok (by show [(Str.ofString "q0", [])] = [(qkI 0, ([] : List Str))]; rw [show qkI 0 = Str.ofString "q0" by decide +kernel]))
    · have : ¬ s.1 = [] := fun w => by
        rw [i1] at w
        have w2 := List.map_eq_nil_iff.mp w
        have w3 := congrArg List.length w2
        rw [enu_len] at w3
        have w4 : rgs rows (allE rows) = [] := List.length_eq_zero_iff.mp w3
        obtain ⟨e, he⟩ := List.exists_mem_of_ne_nil _ q
        have := FE.all e he
        rw [w4] at this
        cases this
      rw [decide_eq_false this, if_neg (fun z => nomatch z), if_neg q]
      exact M.T_ok i1
variable {rows : RowsT}
open Classical in
/-- the sort of a tie -/
noncomputable def sort75W (rows : RowsT) (t : Str) : Str := if (prT rows t).1 = (prT rows t).2 then Str.ofString "loop" else if HangN (less1 rows t) then Str.ofString "free" else Str.ofString "bridge"
theorem sort75_ok (V : NetV rows) (hl : rows.length ≤ 200) (rl : ∀ x ∈ rows, x.2.length ≤ 400) {t : Str} (ht : t ∈ ties rows) : F__law_sort rows t = .ok (sort75W rows t) := by
  refine M.T_is ?_
  unfold F__law_sort sort75W
  have V2 := less_V V t
  rcases hold_or V.two ht with ⟨q, x, hx, cx⟩ | ⟨q, nx, s, g, hf⟩
  · rw [if_pos q]
    obtain ⟨k, hk⟩ := List.mem_iff_getElem?.mp hx
    refine M.T_b (M.T.imp (p := fun c => c = .inr (Str.ofString "loop")) ?_ fun c hc => by subst hc; exact M.T_orRr rfl)
    refine M.T_forR (fun ys _ => ∀ y ∈ ys, y.2.count t ≠ 2) (fun y hy => by cases hy) (fun ys y zs s e h => ?_) fun s h => absurd cx (h x hx)
    refine M.T_b (M.T_ok (M.T_ite (fun z => M.T_ok rfl) fun z => M.T_ok fun w hw => ?_))
    rcases List.mem_append.mp hw with hw | hw
    · exact h w hw
    · rw [List.mem_singleton.mp hw]
      exact fun c => z (decide_eq_true (by rw [c]; rfl))
  · rw [if_neg q]
    refine M.T_b (M.T.imp (p := fun c => c = .inl ()) ?_ fun c hc => ?_)
    · refine M.T_forR (fun _ _ => True) trivial (fun ys y zs s e _ => ?_) fun s _ => rfl
      refine M.T_b (M.T_ok (M.T_ite (fun z => ?_) fun z => M.T_ok trivial))
      exact absurd (by have := of_decide_eq_true z; omega) (nx y (by rw [e]; simp))
    · subst hc
      refine M.T_orRl (M.T_b (M.T_b ?_))
      rw [out_ok hl rl]
      refine M.T_cl (M.T_ok ?_)
      rw [hangs72_ok V2.two V2.pos (by have := V2.few; omega) (by have := V2.sm.2; rw [ends_len] at this; omega)]
      refine M.T_cl (M.T_ok ?_)
      have ar := allR_hangN V2.two V2.ne
      by_cases w : HangN (less1 rows t)
      · rw [if_pos w]
        refine M.T_ite (fun _ => M.T_ok rfl) fun z => absurd (@decide_eq_true _ (Classical.propDecidable _) (ar.mpr w)) z
      · rw [if_neg w]
        refine M.T_ite (fun z => absurd (ar.mp (@of_decide_eq_true _ (Classical.propDecidable _) z)) w) fun _ => M.T_ok rfl
theorem sort_bridge {t : Str} : sort75W rows t = Str.ofString "bridge" ↔ (prT rows t).1 ≠ (prT rows t).2 ∧ ¬ HangN (less1 rows t) := by
  unfold sort75W
  by_cases q : (prT rows t).1 = (prT rows t).2
  · rw [if_pos q]; exact ⟨fun z => absurd z (by decide), fun z => absurd q z.1⟩
  · rw [if_neg q]
    by_cases w : HangN (less1 rows t)
    · rw [if_pos w]; exact ⟨fun z => absurd z (by decide), fun z => absurd w z.2⟩
    · rw [if_neg w]; exact ⟨fun _ => ⟨q, w⟩, fun _ => rfl⟩
theorem sort_loop {t : Str} : sort75W rows t = Str.ofString "loop" ↔ (prT rows t).1 = (prT rows t).2 := by
  unfold sort75W
  by_cases q : (prT rows t).1 = (prT rows t).2
  · rw [if_pos q]; exact ⟨fun _ => q, fun _ => rfl⟩
  · rw [if_neg q]
    by_cases w : HangN (less1 rows t)
    · rw [if_pos w]; exact ⟨fun z => absurd z (by decide), fun z => absurd z q⟩
    · rw [if_neg w]; exact ⟨fun z => absurd z (by decide), fun z => absurd z q⟩
theorem rots_eq (l : List Str) : (if (List.range l.length).map (fun k => l.drop k ++ l.take k) = [] then [[]] else (List.range l.length).map fun k => l.drop k ++ l.take k) = rots l := by
  unfold rots
  by_cases q : l = []
  · subst q; rfl
  · have : (List.range l.length).map (fun k => l.drop k ++ l.take k) ≠ [] := fun w => q (List.length_eq_zero_iff.mp (by have := congrArg List.length w; simpa using this))
    rw [if_neg this, if_neg q]
theorem cyc_mem {l : List Str} {x : Str} (h : x ∈ cyc l) : x ∈ l := by
  have m : cyc l ∈ rots l := minLs_mem (by unfold rots; split <;> simp; rename_i q; exact List.length_pos_iff.mpr q)
  generalize cyc l = c at h m
  unfold rots at m
  split at m
  · rw [List.mem_singleton.mp m] at h; cases h
  · obtain ⟨k, _, rfl⟩ := List.mem_map.mp m
    rcases List.mem_append.mp h with w | w
    · exact List.mem_of_mem_drop w
    · exact List.mem_of_mem_take w
theorem canR_ok (ok : ∀ t ∈ ties rows, Dd.Ok t) : Dd.Ok (canR rows) := fun l hl t ht => by
  obtain ⟨x, hx, rfl⟩ := List.mem_map.mp ((srtLs_perm _).mem_iff.mp hl)
  exact ok t (List.mem_flatMap.mpr ⟨x, hx, cyc_mem ht⟩)
theorem canon_ok (hl : rows.length ≤ 1000) (rl : ∀ x ∈ rows, x.2.length ≤ 400) (ok : ∀ t ∈ ties rows, Dd.Ok t) : F__law_canon rows = .ok (canR rows) := by
  refine M.T_is ?_
  unfold F__law_canon
  refine M.T_b (M.T_ok (M.T_b ?_))
  refine M.T_for (fun (ys : RowsT) (s : List (List Str)) => s = ys.map fun x => cyc x.2) rfl (fun ys x zs s e h => ?_) fun s h => M.T_ok (by rw [h]; rfl)
  have hx : x ∈ rows := by rw [e]; simp
  have hxl := rl x hx
  have hy : ys.length < rows.length := by rw [e]; simp
  have lc := M.lc_map (e := fun (y4 : Int) => (M.chk ((cutL x.2 (some (y4)) none).length + (cutL x.2 none (some (y4))).length ≤ sizeLine) (M.ok ((cutL x.2 (some (y4)) none) ++ (cutL x.2 none (some (y4))))))) (f := fun y => x.2.drop y.toNat ++ x.2.take y.toNat) (rng 0 ((x.2.length : Nat) : Int)) (fun y hy => by
    rw [rng_nat] at hy
    obtain ⟨k, hk, rfl⟩ := List.mem_map.mp hy
    have hk := List.mem_range.mp hk
    rw [cut_drop _ _ (by omega), cut_take _ _ (by omega), M.chk_of (line_of (by rw [List.length_drop, List.length_take]; omega))]
    rfl)
  refine M.T_b (M.T_b (M.T_chk (rng_side (by omega)) (M.T_ok (M.T_chk (line_of (by rw [rng_nat, List.length_map, List.length_range]; omega)) (M.T_of lc (M.T_b ?_))))))
  have e1 : (rng 0 ((x.2.length : Nat) : Int)).map (fun y => x.2.drop y.toNat ++ x.2.take y.toNat) = (List.range x.2.length).map fun k => x.2.drop k ++ x.2.take k := by
    rw [rng_nat, List.map_map]
    rfl
  rw [e1]
  have okl : Dd.Ok ((List.range x.2.length).map fun k => x.2.drop k ++ x.2.take k) := fun l hl t ht => by
    obtain ⟨k, _, rfl⟩ := List.mem_map.mp hl
    refine ok t (List.mem_flatMap.mpr ⟨x, hx, ?_⟩)
    rcases List.mem_append.mp ht with w | w
    · exact List.mem_of_mem_drop w
    · exact List.mem_of_mem_take w
  refine M.T.imp (p := fun l => l = rots x.2) ?_ fun l hl => ?_
  · refine M.T_b (M.T_chk ⟨okl, fun x hx => by cases hx⟩ (M.T_ok (M.T_ite (fun z => ?_) fun z => ?_)))
    · refine M.T_b (M.T_chk (line_of (by decide)) (M.T_ok (M.T_ok ?_)))
      rw [← rots_eq, if_pos (of_decide_eq_true z)]
    · refine M.T_ok ?_
      rw [← rots_eq, if_neg (fun w => z (decide_eq_true w))]
  · subst hl
    have pos : 0 < (rots x.2).length := by unfold rots; split <;> simp; rename_i q; exact List.length_pos_iff.mpr q
    refine M.T_b (M.T_chk pos (M.T_ok (M.T_chk (line_lt (by rw [h, List.length_map]; omega)) (M.T_ok ?_))))
    rw [h, List.map_append]
    rfl
theorem refused_bridge (V : NetV rows) (hu : (uniq (ties rows)).length < 64) (rl : ∀ x ∈ rows, x.2.length ≤ 1000) {t : Str} (ht : t ∈ ties rows) (w : ¬ HangN (less1 rows t)) : F__law_refused rows t true = .ok (Str.ofString "bridge") := by
  have V2 := less_V V t
  unfold F__law_refused
  rw [if_pos rfl, taken_ok V.sm hu rl (fun _ => V2), if_pos ht, if_neg (fun a => w ((allR_hangN V2.two V2.ne).mp a))]
  simp only [M.b_exc, M.tr_exc]
  rw [M.chk_of (by decide), if_pos (by decide)]
  rfl
theorem refused_loop (V : NetV rows) (hu : (uniq (ties rows)).length < 64) (rl : ∀ x ∈ rows, x.2.length ≤ 1000) {t : Str} (ht : t ∈ ties rows) (q : (prT rows t).1 = (prT rows t).2) : F__law_refused rows t false = .ok (Str.ofString "loop") := by
  have hf : ∃ s, rows.filter (fun x => decide (t ∈ x.2)) = [s] := by
    rcases held_or V.two ht with h | ⟨s, g, h⟩
    · exact h
    · obtain ⟨A, B, C, H⟩ := hold_of h
      rcases (hold_prT H V.two V.nd).2 with z | z
      · rw [z] at q; simp only at q; omega
      · rw [z] at q; simp only at q; omega
  obtain ⟨s, hf⟩ := hf
  unfold F__law_refused
  rw [if_neg Bool.false_ne_true, shrunk_ok V.sm hu rl V.nd ht, hf]
  simp only [M.b_exc, M.tr_exc]
  rw [M.chk_of (by decide), if_neg (by decide), M.chk_of (by decide)]
  rfl
theorem law_true (ns : List Int) (h : ns.length ≤ 63) : F_law ⟨ns⟩ = .ok true := by
  refine M.T_is ?_
  unfold F_law
  refine M.T_b (M.T_b (M.T_cl (cell_T (by omega) (M.T_b (M.T_chk ⟨by decide, by decide, by decide⟩ (M.T_ok (M.T_chk (cpos (by decide)) (M.T_ok ?_))))))))
  refine M.T_b (M.T_b (M.T_b (M.T_b (M.T_b (M.T_cl (big_T (by omega) fun b hb => M.T_chk (by unfold CMulK; decide +kernel) (M.T_ok (M.T_ok ?_))))))))
  refine M.T_b (M.T_b (M.T_cl (cell_T (by omega) (M.T_chk (cpos (by decide)) (M.T_ok (M.T_ok ?_))))))
  obtain ⟨c2, hc2⟩ : ∃ c2, cell ns (2 : Int).toNat = c2 := ⟨_, rfl⟩
  rw [hc2]
  have m0 := Int.emod_nonneg c2 (show (24 : Int) ≠ 0 by decide)
  have m1 := Int.emod_lt_of_pos c2 (show (0 : Int) < 24 by decide)
  refine M.T_cl ((net_TN (by omega) (by omega) (by omega)).imp fun rows ⟨hg, hlen⟩ => ?_)
  have hb25 : (b * 25 + 1 + c2 % 24) % (24 + 1) = 1 + c2 % 24 := by omega
  rw [hb25] at hlen
  have V := hg.V (by decide)
  have Q := hg.Q (by decide)
  have hP := hg.plane
  have two := Q.two
  have tl := hg.tl
  have rl := hg.rl
  have tl2 : (24 : Int).toNat = 24 := rfl
  have uh := uniq_half two
  have hu : (uniq (ties rows)).length ≤ 24 := by omega
  have hE : (allE rows).length ≤ 48 := by rw [ends_len]; omega
  have row_le : ∀ {W : RowsT}, (allE W).length ≤ 48 → ∀ x ∈ W, x.2.length ≤ 400 := fun {W} hW x hx => by
    obtain ⟨r, hr⟩ := List.mem_iff_getElem?.mp hx
    have h1 := pre_len r (rowT W r).length (List.getElem?_eq_some_iff.mp hr).1 (Nat.le_refl _)
    rw [row_some hr] at h1
    omega
  have rr := row_le hE
  have hN := (hang_N Q.toNetP).mp Q.hang
  rw [lties_ok Q.sm (by omega)]
  refine M.T_b (M.T_cl (M.T_ok ?_))
  have lpos : 0 < (tsS rows).length := by
    have hm : 0 < (ties rows).length := by omega
    obtain ⟨t, ht⟩ := List.exists_mem_of_length_pos hm
    exact List.length_pos_iff.mpr fun z => by have := tsS_mem.mpr ht; rw [z] at this; cases this
  obtain ⟨t, ht, gt⟩ := at_modW (tsS rows) lpos (c2 / 24)
  have ht := tsS_mem.mp ht
  refine M.T_b (M.T_b (M.T_b (M.T_b (M.T_cl (cell_T (by omega) (M.T_chk (cdiv (by decide) (by decide)) (M.T_ok (M.T_chk (cpos (by show (0 : Int) < (((tsS rows).length : Nat) : Int); omega)) (M.T_ok ?_)))))))))
  rw [hc2]
  refine M.T_get gt ?_
  -- the other net
  have okT : ∀ {W : RowsT}, NetV W → ∀ u ∈ ties W, Dd.Ok u := fun VW u hu => nm_okS (VW.nmt u hu)
  have DV := othQ_V V (by omega)
  have DE : (allE (othQ rows)).length ≤ 48 := by rw [← (like_of (othQ_like rows)).all, ends_len, (oth_perm two).length_eq, ← ends_len]; exact hE
  have Du : (uniq (ties (othQ rows))).length ≤ 24 := by have := uniq_half DV.two; rw [ends_len] at DE; omega
  have Dr := row_le DE
  have Dt := (othQ_in two).mpr ht
  have lessE : ∀ {W : RowsT}, (allE W).length ≤ 48 → (allE (less1 W t)).length ≤ 48 := fun {W} hW => by
    rw [ends_len] at hW ⊢
    rw [ties_less]
    exact Nat.le_trans (List.length_filter_le _ _) hW
  have V2 := less_V V t
  have D2 := less_V DV t
  rw [other75_ok V.toNetT (by omega) (okT V), sort75_ok V (by omega) rr ht]
  refine M.T_b (M.T_cl (M.T_ok (M.T_b (M.T_cl (M.T_ok (M.T_b (M.T.imp (p := fun c => c = .inl (rows, othQ rows)) ?_ fun c hc => ?_))))))) 
  · refine M.T_ite (fun z => ?_) fun z => ?_
    · -- a bridge
      obtain ⟨q, w⟩ := sort_bridge.mp (of_decide_eq_true z)
      rw [refused_bridge V (by omega) (fun x hx => by have := rr x hx; omega) ht w, refused_loop DV (by omega) (fun x hx => by have := Dr x hx; omega) Dt ((dual_loop Q hP hN ht).mpr w)]
      refine M.T_b (M.T_b (M.T_b (M.T_cl (M.T_ok (M.T_ok ?_)))))
      rw [decide_eq_true rfl]
      refine M.T_ite (fun z => nomatch z) fun _ => M.T_b (M.T_cl (M.T_ok (M.T_ok ?_)))
      rw [decide_eq_true rfl]
      exact M.T_ite (fun z => nomatch z) fun _ => M.T_ok rfl
    · have w : HangN (less1 rows t) := Classical.byContradiction fun w => by
        by_cases q : (prT rows t).1 = (prT rows t).2
        · exact w (loop_hang two hN q)
        · exact z (decide_eq_true (sort_bridge.mpr ⟨q, w⟩))
      obtain ⟨s, g, hf, e⟩ := main_less Q V hP (by omega) ht w
      obtain ⟨A, B, C, H⟩ := hold_of hf
      have s2 := shr_two H DV.two DV.nd
      rw [copy_ok rows (by omega), copy_ok (othQ rows) (by have := DV.few; omega)]
      refine M.T_b (M.T_b (M.T_b (M.T_cl (M.T_ok (M.T_cl (M.T_of (show F_taken_out rows t = .ok (less1 rows t) by rw [taken_ok Q.sm (by omega) (fun x hx => by have := rr x hx; omega) fun _ => V2, if_pos ht, if_pos ((allR_hangN V2.two V2.ne).mpr w)]) ?_))))))
      rw [other75_ok V2.toNetT (by have := lessE hE; omega) (okT V2)]
      have O2 := othQ_V V2 (by have := lessE hE; omega)
      have O2E : (allE (othQ (less1 rows t))).length ≤ 48 := by rw [← (like_of (othQ_like (less1 rows t))).all, ends_len, (oth_perm V2.two).length_eq, ← ends_len]; exact lessE hE
      have sle : (ties (shrR (othQ rows) t s g)).length ≤ (ties (othQ rows)).length := by
        have p : (ties (shrR (othQ rows) t s g) ++ [t, t]).Perm (ties (othQ rows)) := List.perm_iff_count.mpr fun u => by
          rw [← shr_cnt H DV.nd u, List.count_append]
          congr 1
          rw [List.count_cons, List.count_cons, List.count_nil]
          by_cases q : u = t
          · subst q; simp
          · have q2 : ¬ t = u := fun z => q z.symm
            simp [q, q2]
        have := p.length_eq
        rw [List.length_append] at this
        omega
      have sE : (allE (shrR (othQ rows) t s g)).length ≤ 48 := by rw [ends_len] at DE ⊢; omega
      have sk : ∀ u ∈ ties (shrR (othQ rows) t s g), Dd.Ok u := fun u hu => okT DV u ((shr_ties H DV.two DV.nd).mp hu).1
      have sl := shr_len H DV.nd
      have Df := DV.few
      refine M.T_cl (M.T_ok (M.T_b (M.T_b (M.T_cl (M.T_of (canon_ok (by have := O2.few; omega) (row_le O2E) (okT O2)) (M.T_b (M.T_b (M.T_b (M.T_cl (M.T_ok (M.T_cl (M.T_of (show F_shrunk (othQ rows) t = .ok (shrR (othQ rows) t s g) by rw [shrunk_ok DV.sm (by omega) (fun x hx => by have := Dr x hx; omega) DV.nd Dt, hf]) (M.T_cl (M.T_of (canon_ok (by omega) (row_le sE) sk) (M.T_chk ⟨canR_ok (okT O2), canR_ok sk⟩ (M.T_ok ?_))))))))))))))))
      rw [e, decide_eq_true rfl]
      exact M.T_ite (fun z => nomatch z) fun _ => M.T_ok rfl
  · subst hc
    refine M.T_orRl (M.T_ite (fun z => ?_) fun z => ?_)
    · have q := sort_loop.mp (of_decide_eq_true z)
      rw [refused_loop V (by omega) (fun x hx => by have := rr x hx; omega) ht q, refused_bridge DV (by omega) (fun x hx => by have := Dr x hx; omega) Dt ((dual_bridge Q hP (by omega) ht).mpr q)]
      refine M.T_b (M.T_b (M.T_cl (M.T_ok (M.T_ok ?_))))
      rw [decide_eq_true rfl]
      exact M.T_ite (fun _ => M.T_b (M.T_cl (M.T_ok (M.T_ok (decide_eq_true rfl))))) fun z => absurd rfl z
    · have q : (prT rows t).1 ≠ (prT rows t).2 := fun q => z (decide_eq_true (sort_loop.mpr q))
      obtain ⟨A, B, C, s, g, hf, H, e⟩ := main_shr Q V hP (by omega) ht q
      have R3 := shr_NetR H Q.R
      have sle : (ties (shrR rows t s g)).length ≤ (ties rows).length := by
        have p : (ties (shrR rows t s g) ++ [t, t]).Perm (ties rows) := List.perm_iff_count.mpr fun u => by
          rw [← shr_cnt H Q.nd u, List.count_append]
          congr 1
          rw [List.count_cons, List.count_cons, List.count_nil]
          by_cases q : u = t
          · subst q; simp
          · have q2 : ¬ t = u := fun z => q z.symm
            simp [q, q2]
        have := p.length_eq
        rw [List.length_append] at this
        omega
      have sE : (allE (shrR rows t s g)).length ≤ 48 := by rw [ends_len] at hE ⊢; omega
      have V3 : NetV (shrR rows t s g) := by
        have nm : ∀ n ∈ (shrR rows t s g).map (·.1), n ∈ rows.map (·.1) := fun n hn => by
          rw [shr_split H Q.nd] at hn
          rw [H.eq]
          simp only [List.map_append, List.map_cons, List.mem_append, List.mem_cons] at hn ⊢
          have : (stay t s g).1 = s.1 := rfl
          rw [this] at hn
          rcases hn with z | z | z | z
          · exact .inl z
          · exact .inr (.inl z)
          · exact .inr (.inr (.inl z))
          · exact .inr (.inr (.inr (.inr z)))
        exact ⟨⟨R3.toNetP, R3.sm, fun n hn => V.okn n (nm n hn)⟩, R3.few, fun n hn => V.nmp n (nm n hn), fun u hu => V.nmt u ((shr_ties H two Q.nd).mp hu).1⟩
      rw [copy_ok rows (by omega), copy_ok (othQ rows) (by have := DV.few; omega)]
      refine M.T_b (M.T_b (M.T_b (M.T_cl (M.T_ok (M.T_cl (M.T_of (show F_shrunk rows t = .ok (shrR rows t s g) by rw [shrunk_ok Q.sm (by omega) (fun x hx => by have := rr x hx; omega) Q.nd ht, hf]) ?_))))))
      rw [other75_ok V3.toNetT (by omega) (okT V3)]
      have O3 := othQ_V V3 (by omega)
      have O3E : (allE (othQ (shrR rows t s g))).length ≤ 48 := by rw [← (like_of (othQ_like (shrR rows t s g))).all, ends_len, (oth_perm V3.two).length_eq, ← ends_len]; exact sE
      have w : HangN (less1 (othQ rows) t) := Classical.byContradiction fun w => q ((dual_bridge Q hP (by omega) ht).mp w)
      refine M.T_cl (M.T_ok (M.T_b (M.T_cl (M.T_of (canon_ok (by have := O3.few; omega) (row_le O3E) (okT O3)) (M.T_b (M.T_b (M.T_b (M.T_cl (M.T_ok (M.T_cl (M.T_of (show F_taken_out (othQ rows) t = .ok (less1 (othQ rows) t) by rw [taken_ok DV.sm (by omega) (fun x hx => by have := Dr x hx; omega) fun _ => D2, if_pos Dt, if_pos ((allR_hangN D2.two D2.ne).mpr w)]) (M.T_cl (M.T_of (canon_ok (by have := D2.few; omega) (row_le (lessE DE)) (okT D2)) (M.T_chk ⟨canR_ok (okT O3), canR_ok (okT D2)⟩ (M.T_ok ?_)))))))))))))))
      rw [e, decide_eq_true rfl]
end Tw
namespace Tw
open PySem PySem.Spec L2
open PyProof.Rows hiding St
theorem on_1 {p : List Value → Prop} (h : ∀ a0, p [a0]) : ∀ us : List Value, us.length = 1 → p us
  | [a0], _ => h a0
theorem on_2 {p : List Value → Prop} (h : ∀ a0 a1, p [a0, a1]) : ∀ us : List Value, us.length = 2 → p us
  | [a0, a1], _ => h a0 a1
theorem on_3 {p : List Value → Prop} (h : ∀ a0 a1 a2, p [a0, a1, a2]) : ∀ us : List Value, us.length = 3 → p us
  | [a0, a1, a2], _ => h a0 a1 a2
theorem on_4 {p : List Value → Prop} (h : ∀ a0 a1 a2 a3, p [a0, a1, a2, a3]) : ∀ us : List Value, us.length = 4 → p us
  | [a0, a1, a2, a3], _ => h a0 a1 a2 a3
def relabelS (a S0 : Scope) : Scope := { a with names := a.names.map fun (n, k) => if k == NameKind.free && S0.kind == .function && S0.names.lookup n == some .cell then (n, NameKind.cell) else (n, k) }
theorem blkOk_in {X : Cx} {s : Shared} {H : Hp} {scope0 scope : Scope} {env : Env} {cl : List (Str × Addr)} {C : Addr} {fp : List Addr} {N : List Str} {own : List (Str × Nat)} {S0 : Scope} (hN : X.N = N) (hS : env.scope = S0) (h : BlkOk N (relabelS scope0 S0) scope own) : BlkOk (X.blk s H scope0 (compEnvC scope0 cl C env) fp).N (X.blk s H scope0 (compEnvC scope0 cl C env) fp).env.scope scope own := by subst hN hS; exact h
def topS (i : Nat) : Stmt := PySem.Challenge.pw_threewebs_k75_whole_out_here_is_shrunk_t.main.body.getD i (.Pass ⟨0, 0, 0, 0⟩)
def clOf (K : PySem.W.Frag) (n : Str) : Addr := match PySem.W.nsIn K mainGlobals n with | some (some (.ref a)) => a | _ => 0
abbrev gb (K : PySem.W.Frag) : Gb := ⟨K, clOf K⟩
def inClass (s : Stmt) (j : Nat) : Stmt := (match s with | .ClassDef (body := b) .. => b | _ => []).getD j (.Pass ⟨0, 0, 0, 0⟩)
abbrev s__law_cell_at : Stmt := topS 16
abbrev n2__law_cell_at : List Str := ["_law_script", "_law_k"]
theorem sc__law_cell_at : FnScope n2__law_cell_at ["_law_script", "_law_k"] (defScope s__law_cell_at) := ⟨rfl, rfl, rfl, by decide +kernel, rfl, by decide +kernel, by decide +kernel⟩
abbrev s__law_names : Stmt := topS 18
abbrev n2__law_names : List Str := ["_law_stem", "_law_many", "_law_signs", "_law_size", "_law_spot", "_law_names_here", "_law_v", "_law_name", "_law_k", "_law_turn"]
theorem sc__law_names : FnScope n2__law_names ["_law_stem", "_law_many"] (defScope s__law_names) := ⟨rfl, rfl, rfl, by decide +kernel, rfl, by decide +kernel, by decide +kernel⟩
abbrev s__law_other : Stmt := topS 20
abbrev n2__law_other : List Str := ["_law_rows", "_law_seats_here", "_law_end", "_law_pair"]
theorem sc__law_other : FnScope n2__law_other ["_law_rows", "_law_seats_here", "_law_end"] (defScope s__law_other) := ⟨rfl, rfl, rfl, by decide +kernel, rfl, by decide +kernel, by decide +kernel⟩
abbrev s__law_step : Stmt := topS 21
abbrev n2__law_step : List Str := ["_law_rows", "_law_seats_here", "_law_end", "_law_turn", "_law_other_here"]
theorem sc__law_step : FnScope n2__law_step ["_law_rows", "_law_seats_here", "_law_end", "_law_turn"] (defScope s__law_step) := ⟨rfl, rfl, rfl, by decide +kernel, rfl, by decide +kernel, by decide +kernel⟩
abbrev s__law_face : Stmt := topS 22
abbrev n2__law_face : List Str := ["_law_rows", "_law_seats_here", "_law_end", "_law_face_here", "_law_here"]
theorem sc__law_face : FnScope n2__law_face ["_law_rows", "_law_seats_here", "_law_end"] (defScope s__law_face) := ⟨rfl, rfl, rfl, by decide +kernel, rfl, by decide +kernel, by decide +kernel⟩
abbrev s__law_seats : Stmt := topS 19
abbrev n2__law_seats : List Str := ["_law_rows", "_law_seats_here", "_law_r", "_law_place"]
theorem sc__law_seats : FnScope n2__law_seats ["_law_rows"] (defScope s__law_seats) := ⟨rfl, rfl, rfl, by decide +kernel, rfl, by decide +kernel, by decide +kernel⟩
abbrev s__law_put : Stmt := topS 23
abbrev n2__law_put : List Str := ["_law_rows", "_law_big_here", "_law_tie", "_law_point", "_law_corners", "_law_r", "_law_place", "_law_one", "_law_kind", "_law_face_here", "_law_other_here", "_law_spot"]
theorem sc__law_put : FnScope n2__law_put ["_law_rows", "_law_big_here", "_law_tie", "_law_point"] (defScope s__law_put) := ⟨rfl, rfl, rfl, by decide +kernel, rfl, by decide +kernel, by decide +kernel⟩
abbrev s__law_net_by : Stmt := topS 24
abbrev n2__law_net_by : List Str := ["_law_big_here", "_law_most", "_law_stem", "_law_many", "_law_ties_here", "_law_points", "_law_rows", "_law_k", "_law_told", "_law_row", "_law_size"]
theorem sc__law_net_by : FnScope n2__law_net_by ["_law_big_here", "_law_most", "_law_stem"] (defScope s__law_net_by) := ⟨rfl, rfl, rfl, by decide +kernel, rfl, by decide +kernel, by decide +kernel⟩
abbrev s__law_big : Stmt := topS 17
abbrev n2__law_big : List Str := ["_law_script", "_law_at", "_law_by", "_law_prime", "_law_cell", "_law_big_here", "_law_k", "_law_one"]
theorem sc__law_big : FnScope n2__law_big ["_law_script", "_law_at"] (defScope s__law_big) := ⟨rfl, rfl, rfl, by decide +kernel, rfl, by decide +kernel, by decide +kernel⟩
abbrev s__law_ties : Stmt := topS 26
abbrev n2__law_ties : List Str := ["_law_rows", "_law_found", "_law_point", "_law_row", "_law_tie"]
theorem sc__law_ties : FnScope n2__law_ties ["_law_rows"] (defScope s__law_ties) := ⟨rfl, rfl, rfl, by decide +kernel, rfl, by decide +kernel, by decide +kernel⟩
abbrev s__law_other_net : Stmt := topS 31
abbrev n2__law_other_net : List Str := ["_law_rows", "_law_seats_here", "_law_met", "_law_made", "_law_r", "_law_place", "_law_face_here", "_law_end"]
theorem sc__law_other_net : FnScope n2__law_other_net ["_law_rows"] (defScope s__law_other_net) := ⟨rfl, rfl, rfl, by decide +kernel, rfl, by decide +kernel, by decide +kernel⟩
abbrev s__law_hangs : Stmt := topS 27
abbrev n2__law_hangs : List Str := ["_law_rows", "_law_at", "_law_r", "_law_tie", "_law_met", "_law_left", "_law_there"]
theorem sc__law_hangs : FnScope n2__law_hangs ["_law_rows"] (defScope s__law_hangs) := ⟨rfl, rfl, rfl, by decide +kernel, rfl, by decide +kernel, by decide +kernel⟩
abbrev s__law_out : Stmt := topS 28
abbrev n2__law_out : List Str := ["_law_rows", "_law_tie", "_law_point", "_law_row", "_law_name"]
theorem sc__law_out : FnScope n2__law_out ["_law_rows", "_law_tie"] (defScope s__law_out) := ⟨rfl, rfl, rfl, by decide +kernel, rfl, by decide +kernel, by decide +kernel⟩
abbrev s__law_sort : Stmt := topS 29
abbrev n2__law_sort : List Str := ["_law_rows", "_law_tie", "_law_point", "_law_row"]
theorem sc__law_sort : FnScope n2__law_sort ["_law_rows", "_law_tie"] (defScope s__law_sort) := ⟨rfl, rfl, rfl, by decide +kernel, rfl, by decide +kernel, by decide +kernel⟩
abbrev s_ties_of : Stmt := topS 9
abbrev n2_ties_of : List Str := ["rows", "seen", "point", "ties", "tie"]
theorem sc_ties_of : FnScope n2_ties_of ["rows"] (defScope s_ties_of) := ⟨rfl, rfl, rfl, by decide +kernel, rfl, by decide +kernel, by decide +kernel⟩
abbrev s_ask_known : Stmt := topS 12
abbrev n2_ask_known : List Str := ["rows", "tie"]
theorem sc_ask_known : FnScope n2_ask_known ["rows", "tie"] (defScope s_ask_known) := ⟨rfl, rfl, rfl, by decide +kernel, rfl, by decide +kernel, by decide +kernel⟩
abbrev s_Turns_over : Stmt := inClass (topS 7) 2
abbrev n2_Turns_over : List Str := ["self", "end"]
theorem sc_Turns_over : FnScope n2_Turns_over ["self", "end"] (defScope s_Turns_over) := ⟨rfl, rfl, rfl, by decide +kernel, rfl, by decide +kernel, by decide +kernel⟩
abbrev s_reached : Stmt := topS 10
abbrev n2_reached : List Str := ["turns", "point", "seen", "left", "here", "place", "there"]
theorem sc_reached : FnScope n2_reached ["turns", "point"] (defScope s_reached) := ⟨rfl, rfl, rfl, by decide +kernel, rfl, by decide +kernel, by decide +kernel⟩
abbrev s_Turns_init : Stmt := inClass (topS 7) 0
abbrev n2_Turns_init : List Str := ["self", "rows", "first", "point", "ties", "place", "tie", "end"]
theorem sc_Turns_init : FnScope n2_Turns_init ["self", "rows"] (defScope s_Turns_init) := ⟨rfl, rfl, rfl, by decide +kernel, rfl, by decide +kernel, by decide +kernel⟩
abbrev s_taken_out : Stmt := topS 13
abbrev n2_taken_out : List Str := ["rows", "tie", "made", "point", "ties", "name"]
theorem sc_taken_out : FnScope n2_taken_out ["rows", "tie"] (defScope s_taken_out) := ⟨rfl, rfl, rfl, by decide +kernel, rfl, by decide +kernel, by decide +kernel⟩
abbrev s_shrunk : Stmt := topS 14
abbrev n2_shrunk : List Str := ["rows", "tie", "holders", "stays", "goes", "at", "turned", "made", "point", "ties", "place", "row"]
theorem sc_shrunk : FnScope n2_shrunk ["rows", "tie"] (defScope s_shrunk) := ⟨rfl, rfl, rfl, by decide +kernel, rfl, by decide +kernel, by decide +kernel⟩
abbrev s__law_refused : Stmt := topS 32
abbrev n2__law_refused : List Str := ["_law_rows", "_law_tie", "_law_out_here"]
theorem sc__law_refused : FnScope n2__law_refused ["_law_rows", "_law_tie", "_law_out_here"] (defScope s__law_refused) := ⟨rfl, rfl, rfl, by decide +kernel, rfl, by decide +kernel, by decide +kernel⟩
abbrev s__law_copy : Stmt := topS 25
abbrev n2__law_copy : List Str := ["_law_rows", "_law_row"]
theorem sc__law_copy : FnScope n2__law_copy ["_law_rows"] (defScope s__law_copy) := ⟨rfl, rfl, rfl, by decide +kernel, rfl, by decide +kernel, by decide +kernel⟩
abbrev s__law_canon : Stmt := topS 30
abbrev n2__law_canon : List Str := ["_law_rows", "_law_found", "_law_point", "_law_row", "_law_rounds", "_law_k"]
theorem sc__law_canon : FnScope n2__law_canon ["_law_rows"] (defScope s__law_canon) := ⟨rfl, rfl, rfl, by decide +kernel, rfl, by decide +kernel, by decide +kernel⟩
abbrev s_law : Stmt := topS 33
abbrev n2_law : List Str := ["_law_script", "_law_stem", "_law_rows", "_law_names_here", "_law_tie", "_law_other_here", "_law_kind", "_law_here"]
theorem sc_law : FnScope n2_law ["_law_script"] (defScope s_law) := ⟨rfl, rfl, rfl, by decide +kernel, rfl, by decide +kernel, by decide +kernel⟩
structure Top (K : PySem.W.Frag) (mg : Str → Option Value) (a : Nat → Addr) (d : Nat → FuncData) : Prop where
  f__law_cell_at : Fun K "_law_cell_at" "_law_cell_at" s__law_cell_at (a 0) (d 0)
  b__law_cell_at : Binds K (d 0) ["_law_script", "_law_k"] []
  g__law_cell_at : mg "_law_cell_at" = some (.ref (a 0))
  f__law_names : Fun K "_law_names" "_law_names" s__law_names (a 1) (d 1)
  b__law_names : Binds K (d 1) ["_law_stem", "_law_many"] []
  g__law_names : mg "_law_names" = some (.ref (a 1))
  f__law_other : Fun K "_law_other" "_law_other" s__law_other (a 2) (d 2)
  b__law_other : Binds K (d 2) ["_law_rows", "_law_seats_here", "_law_end"] []
  g__law_other : mg "_law_other" = some (.ref (a 2))
  f__law_step : Fun K "_law_step" "_law_step" s__law_step (a 3) (d 3)
  b__law_step : Binds K (d 3) ["_law_rows", "_law_seats_here", "_law_end", "_law_turn"] []
  g__law_step : mg "_law_step" = some (.ref (a 3))
  f__law_face : Fun K "_law_face" "_law_face" s__law_face (a 4) (d 4)
  b__law_face : Binds K (d 4) ["_law_rows", "_law_seats_here", "_law_end"] []
  g__law_face : mg "_law_face" = some (.ref (a 4))
  f__law_seats : Fun K "_law_seats" "_law_seats" s__law_seats (a 5) (d 5)
  b__law_seats : Binds K (d 5) ["_law_rows"] []
  g__law_seats : mg "_law_seats" = some (.ref (a 5))
  f__law_put : Fun K "_law_put" "_law_put" s__law_put (a 6) (d 6)
  b__law_put : Binds K (d 6) ["_law_rows", "_law_big_here", "_law_tie", "_law_point"] []
  g__law_put : mg "_law_put" = some (.ref (a 6))
  f__law_net_by : Fun K "_law_net_by" "_law_net_by" s__law_net_by (a 7) (d 7)
  b__law_net_by : Binds K (d 7) ["_law_big_here", "_law_most", "_law_stem"] []
  g__law_net_by : mg "_law_net_by" = some (.ref (a 7))
  f__law_big : Fun K "_law_big" "_law_big" s__law_big (a 8) (d 8)
  b__law_big : Binds K (d 8) ["_law_script", "_law_at"] []
  g__law_big : mg "_law_big" = some (.ref (a 8))
  f__law_ties : Fun K "_law_ties" "_law_ties" s__law_ties (a 9) (d 9)
  b__law_ties : Binds K (d 9) ["_law_rows"] []
  g__law_ties : mg "_law_ties" = some (.ref (a 9))
  f__law_other_net : Fun K "_law_other_net" "_law_other_net" s__law_other_net (a 10) (d 10)
  b__law_other_net : Binds K (d 10) ["_law_rows"] []
  g__law_other_net : mg "_law_other_net" = some (.ref (a 10))
  f__law_hangs : Fun K "_law_hangs" "_law_hangs" s__law_hangs (a 11) (d 11)
  b__law_hangs : Binds K (d 11) ["_law_rows"] []
  g__law_hangs : mg "_law_hangs" = some (.ref (a 11))
  f__law_out : Fun K "_law_out" "_law_out" s__law_out (a 12) (d 12)
  b__law_out : Binds K (d 12) ["_law_rows", "_law_tie"] []
  g__law_out : mg "_law_out" = some (.ref (a 12))
  f__law_sort : Fun K "_law_sort" "_law_sort" s__law_sort (a 13) (d 13)
  b__law_sort : Binds K (d 13) ["_law_rows", "_law_tie"] []
  g__law_sort : mg "_law_sort" = some (.ref (a 13))
  f_ties_of : Fun K "ties_of" "ties_of" s_ties_of (a 14) (d 14)
  b_ties_of : Binds K (d 14) ["rows"] []
  g_ties_of : mg "ties_of" = some (.ref (a 14))
  f_ask_known : Fun K "ask_known" "ask_known" s_ask_known (a 15) (d 15)
  b_ask_known : Binds K (d 15) ["rows", "tie"] []
  g_ask_known : mg "ask_known" = some (.ref (a 15))
  f_Turns_over : Fun K "over" "Turns.over" s_Turns_over (a 16) (d 16)
  b_Turns_over : Binds K (d 16) ["self", "end"] []
  me_Turns_over : Meth K (clOf K "Turns") "over" (a 16)
  f_reached : Fun K "reached" "reached" s_reached (a 17) (d 17)
  b_reached : Binds K (d 17) ["turns", "point"] []
  g_reached : mg "reached" = some (.ref (a 17))
  f_Turns_init : Fun K "__init__" "Turns.__init__" s_Turns_init (a 18) (d 18)
  b_Turns_init : Binds K (d 18) ["self", "rows"] []
  mk_Turns : Mk K (clOf K "Turns") (a 18)
  f_taken_out : Fun K "taken_out" "taken_out" s_taken_out (a 19) (d 19)
  b_taken_out : Binds K (d 19) ["rows", "tie"] []
  g_taken_out : mg "taken_out" = some (.ref (a 19))
  f_shrunk : Fun K "shrunk" "shrunk" s_shrunk (a 20) (d 20)
  b_shrunk : Binds K (d 20) ["rows", "tie"] []
  g_shrunk : mg "shrunk" = some (.ref (a 20))
  f__law_refused : Fun K "_law_refused" "_law_refused" s__law_refused (a 21) (d 21)
  b__law_refused : Binds K (d 21) ["_law_rows", "_law_tie", "_law_out_here"] []
  g__law_refused : mg "_law_refused" = some (.ref (a 21))
  f__law_copy : Fun K "_law_copy" "_law_copy" s__law_copy (a 22) (d 22)
  b__law_copy : Binds K (d 22) ["_law_rows"] []
  g__law_copy : mg "_law_copy" = some (.ref (a 22))
  f__law_canon : Fun K "_law_canon" "_law_canon" s__law_canon (a 23) (d 23)
  b__law_canon : Binds K (d 23) ["_law_rows"] []
  g__law_canon : mg "_law_canon" = some (.ref (a 23))
  f_law : Fun K "law" "law" s_law (a 24) (d 24)
  b_law : Binds K (d 24) ["_law_script"] []
  g_law : mg "law" = some (.ref (a 24))
  g_Turns : mg "Turns" = some (.ref (clOf K "Turns"))
  cf_Turns : ClsF (gb K) TurnsD
  g_Bridge : mg "Bridge" = some (.ref (clOf K "Bridge"))
  g_Loop : mg "Loop" = some (.ref (clOf K "Loop"))
  g_NoTie : mg "NoTie" = some (.ref (clOf K "NoTie"))
  xx_Bridge : PySem.W.excIn K (clOf K "Bridge") [.type "ValueError", .type "Exception", .type "BaseException", .type "object"] "ValueError.__new__" = true
  xk_Bridge : PySem.W.keepIn K (.ref (clOf K "Bridge")) = true
  xb_Bridge : PySem.W.subIn K (.ref (clOf K "Bridge")) (.type "BaseException") = some true
  xt_Bridge : PySem.W.typeIn K (.ref (clOf K "Bridge")) = some (.type "type")
  xx_Loop : PySem.W.excIn K (clOf K "Loop") [.type "ValueError", .type "Exception", .type "BaseException", .type "object"] "ValueError.__new__" = true
  xk_Loop : PySem.W.keepIn K (.ref (clOf K "Loop")) = true
  xb_Loop : PySem.W.subIn K (.ref (clOf K "Loop")) (.type "BaseException") = some true
  xt_Loop : PySem.W.typeIn K (.ref (clOf K "Loop")) = some (.type "type")
  xx_NoTie : PySem.W.excIn K (clOf K "NoTie") [.type "ValueError", .type "Exception", .type "BaseException", .type "object"] "ValueError.__new__" = true
  xk_NoTie : PySem.W.keepIn K (.ref (clOf K "NoTie")) = true
  xb_NoTie : PySem.W.subIn K (.ref (clOf K "NoTie")) (.type "BaseException") = some true
  xt_NoTie : PySem.W.typeIn K (.ref (clOf K "NoTie")) = some (.type "type")
  exf : ExF (gb K) XC XT
  m_enumerate : mg "enumerate" = none
  m_int : mg "int" = none
  m_len : mg "len" = none
  m_list : mg "list" = none
  m_max : mg "max" = none
  m_min : mg "min" = none
  m_range : mg "range" = none
  m_sorted : mg "sorted" = none
  m_str : mg "str" = none
section
variable {P : Program} {w : World} {K : PySem.W.Frag} {mg : Str → Option Value} {base : Heap} {a : Nat → Addr} {d : Nat → FuncData}
theorem ok__law_cell_at (T : Top K mg a d) : FnOk P w K mg base CX0 1 (a 0) (d 0) ["_law_script", "_law_k"] (sp__law_cell_at (gb K)) :=
  T.f__law_cell_at.ok sc__law_cell_at (fun vs H Q E h => len__law_cell_at vs H Q E h) (fun cdv A outer s H vs Q E hr h => ⟨t__law_cell_at (gb K), (pss_cons (ps_if (pt_cmpR op_lt (pv 1) (pe_callB call_len_seq (by rfl) T.m_len (by decide +kernel) (pa_cons (pv 0) pa_nil)) (nomark _))
  (pss_one (ps_ret (pe_ix ix_list (pv 0) (pv 1) (fun _ _ => rfl))))
  pss_nil)
  (pss_one (ps_ret pe_int))), run__law_cell_at h⟩)
theorem ok__law_names (T : Top K mg a d) : FnOk P w K mg base CX0 1 (a 1) (d 1) ["_law_stem", "_law_many"] (sp__law_names (gb K)) :=
  T.f__law_names.ok sc__law_names (fun vs H Q E h => len__law_names vs H Q E h) (fun cdv A outer s H vs Q E hr h => ⟨t__law_names (gb K), (pss_cons (ps_set (i := 2) sc__law_names.nd rfl (by first | exact .inl rfl | exact .inr rfl) pe_str)
  (pss_cons (ps_set (i := 3) sc__law_names.nd rfl (by first | exact .inl rfl | exact .inr rfl) (pe_op op_add pe_int (pe_op op_mod (pv 0) pe_int)))
  (pss_cons (ps_set (i := 4) sc__law_names.nd rfl (by first | exact .inl rfl | exact .inr rfl) (pe_op op_mod (pe_op op_fdivW (pv 0) pe_int) (pv 3)))
  (pss_cons (ps_set (i := 5) sc__law_names.nd rfl (by first | exact .inl rfl | exact .inr rfl) (pe_lst pa_nil))
  (pss_cons (ps_for PassesOwn.never rfl (pi_range1 (by rfl) T.m_range (pa_cons (pv 1) pa_nil)) (pg_name (i := 6) sc__law_names.nd rfl (by first | exact .inl rfl | exact .inr rfl))
  (pss_cons (ps_set (i := 7) sc__law_names.nd rfl (by first | exact .inl rfl | exact .inr rfl) pe_str)
  (pss_cons (ps_for PassesOwn.never rfl (pi_range1 (by rfl) T.m_range (pa_cons (pv 3) pa_nil)) (pg_name (i := 8) sc__law_names.nd rfl (by first | exact .inl rfl | exact .inr rfl))
  (pss_cons (ps_set (i := 9) sc__law_names.nd rfl (by first | exact .inl rfl | exact .inr rfl) (pe_op op_add (pe_op op_fdivW (pv 0) pe_int) (pe_op op_mulW (pv 8) (pe_op op_mod (pe_op op_fdivW (pv 0) pe_int) pe_int))))
  (pss_cons (ps_if (pt_cmpR op_eq (pv 8) (pv 4) (nomark _))
  (pss_one (ps_set (i := 9) sc__law_names.nd rfl (by first | exact .inl rfl | exact .inr rfl) (pe_op op_add (pv 9) (pv 6))))
  pss_nil)
  (pss_one (ps_set (i := 7) sc__law_names.nd rfl (by first | exact .inl rfl | exact .inr rfl) (pe_op op_add_str (pv 7) (pe_ix ix_str (pv 2) (pe_op op_mod (pv 9) pe_int) (fun _ _ => rfl))))))))
  (pss_cons (ps_if (pt_cmpR op_eq (pe_op op_mod (pv 0) pe_int) pe_int (nomark _))
  (pss_one (ps_set (i := 7) sc__law_names.nd rfl (by first | exact .inl rfl | exact .inr rfl) (pe_op op_rep_str (pe_ix ix_str (pv 2) (pe_op op_mod (pe_op op_add (pe_op op_fdivW (pv 0) pe_int) (pe_op op_fdivW (pv 6) pe_int)) pe_int) (fun _ _ => rfl)) (pe_op op_add pe_int (pe_op op_mod (pv 6) pe_int)))))
  pss_nil)
  (pss_one (ps_expr (pe_bm PySem.F.plainAttrs_list PySem.F.slot_list_append PySem.F.type_list_append mt_append (pv 5) (pa_cons (pv 7) pa_nil))))))))
  (pss_one (ps_ret (pv 5)))))))), run__law_names h⟩)
theorem ok__law_other (T : Top K mg a d) : FnOk P w K mg base CX0 1 (a 2) (d 2) ["_law_rows", "_law_seats_here", "_law_end"] (sp__law_other (gb K)) :=
  T.f__law_other.ok sc__law_other (fun vs H Q E h => len__law_other vs H Q E h) (fun cdv A outer s H vs Q E hr h => ⟨t__law_other (gb K), (pss_cons (ps_set (i := 3) sc__law_other.nd rfl (by first | exact .inl rfl | exact .inr rfl) (pe_dget (hu_of hr) (pv 1) (pe_ix ix_list (pe_ix ix_tup (pe_ix ix_list (pv 0) (pe_ix ix_tup (pv 2) pe_int (fun _ _ => rfl)) (fun _ _ => rfl)) pe_int (fun _ _ => rfl)) (pe_ix ix_tup (pv 2) pe_int (fun _ _ => rfl)) (fun _ _ => rfl)) (fun _ _ => rfl)))
  (pss_one (ps_ret (pe_ix ix_list (pv 3) (pe_callTy call_int1 (by rfl) T.m_int (by decide +kernel) (pa_cons (pe_cmpR (op_eqD hr.units) (pe_ix ix_list (pv 3) pe_int (fun _ _ => rfl)) (pv 2) (nomark _)) pa_nil)) (fun _ _ => rfl))))), run__law_other h⟩)
theorem ok__law_step (T : Top K mg a d) : FnOk P w K mg base CX0 2 (a 3) (d 3) ["_law_rows", "_law_seats_here", "_law_end", "_law_turn"] (sp__law_step (gb K)) :=
  T.f__law_step.ok sc__law_step (fun vs H Q E h => len__law_step vs H Q E h) (fun cdv A outer s H vs Q E hr h => ⟨t__law_step (gb K), (pss_cons (ps_set (i := 4) sc__law_step.nd rfl (by first | exact .inl rfl | exact .inr rfl) (pe_call (ok__law_other T) (hr.mono (by decide)) (by rfl) T.g__law_other T.f__law_other.kp T.b__law_other .nil pass0 (pa_cons (pv 0) (pa_cons (pv 1) (pa_cons (pv 2) pa_nil)))))
  (pss_one (ps_ret (pe_tup (pa_cons (pe_ix ix_tup (pv 4) pe_int (fun _ _ => rfl)) (pa_cons (pe_op op_mod (pe_op op_add (pe_ix ix_tup (pv 4) pe_int (fun _ _ => rfl)) (pv 3)) (pe_callB call_len_seq (by rfl) T.m_len (by decide +kernel) (pa_cons (pe_ix ix_tup (pe_ix ix_list (pv 0) (pe_ix ix_tup (pv 4) pe_int (fun _ _ => rfl)) (fun _ _ => rfl)) pe_int (fun _ _ => rfl)) pa_nil))) pa_nil)))))), run__law_step h⟩)
theorem ok__law_face (T : Top K mg a d) : FnOk P w K mg base CX0 3 (a 4) (d 4) ["_law_rows", "_law_seats_here", "_law_end"] (sp__law_face (gb K)) :=
  T.f__law_face.ok sc__law_face (fun vs H Q E h => len__law_face vs H Q E h) (fun cdv A outer s H vs Q E hr h => ⟨t__law_face (gb K), (pss_cons (ps_set (i := 3) sc__law_face.nd rfl (by first | exact .inl rfl | exact .inr rfl) (pe_lst (pa_cons (pv 2) pa_nil)))
  (pss_cons (ps_set (i := 4) sc__law_face.nd rfl (by first | exact .inl rfl | exact .inr rfl) (pe_call (ok__law_step T) (hr.mono (by decide)) (by rfl) T.g__law_step T.f__law_step.kp T.b__law_step .nil pass0 (pa_cons (pv 0) (pa_cons (pv 1) (pa_cons (pv 2) (pa_cons pe_int pa_nil))))))
  (pss_cons (ps_while PassesOwn.never (pt_cmpR (op_neD hr.units) (pv 4) (pv 2) (nomark _))
  (pss_cons (ps_expr (pe_bm PySem.F.plainAttrs_list PySem.F.slot_list_append PySem.F.type_list_append mt_append (pv 3) (pa_cons (pv 4) pa_nil)))
  (pss_one (ps_set (i := 4) sc__law_face.nd rfl (by first | exact .inl rfl | exact .inr rfl) (pe_call (ok__law_step T) (hr.mono (by decide)) (by rfl) T.g__law_step T.f__law_step.kp T.b__law_step .nil pass0 (pa_cons (pv 0) (pa_cons (pv 1) (pa_cons (pv 4) (pa_cons pe_int pa_nil)))))))))
  (pss_one (ps_ret (pv 3)))))), run__law_face h⟩)
theorem ok__law_seats (T : Top K mg a d) : FnOk P w K mg base CX0 1 (a 5) (d 5) ["_law_rows"] (sp__law_seats (gb K)) :=
  T.f__law_seats.ok sc__law_seats (fun vs H Q E h => len__law_seats vs H Q E h) (fun cdv A outer s H vs Q E hr h => ⟨t__law_seats (gb K), (pss_cons (ps_set (i := 1) sc__law_seats.nd rfl (by first | exact .inl rfl | exact .inr rfl) pe_dnewK)
  (pss_cons (ps_for PassesOwn.never rfl (pi_range1 (by rfl) T.m_range (pa_cons (pe_callB call_len_seq (by rfl) T.m_len (by decide +kernel) (pa_cons (pv 0) pa_nil)) pa_nil)) (pg_name (i := 2) sc__law_seats.nd rfl (by first | exact .inl rfl | exact .inr rfl))
  (pss_one (ps_for PassesOwn.never rfl (pi_range1 (by rfl) T.m_range (pa_cons (pe_callB call_len_seq (by rfl) T.m_len (by decide +kernel) (pa_cons (pe_ix ix_tup (pe_ix ix_list (pv 0) (pv 2) (fun _ _ => rfl)) pe_int (fun _ _ => rfl)) pa_nil)) pa_nil)) (pg_name (i := 3) sc__law_seats.nd rfl (by first | exact .inl rfl | exact .inr rfl))
  (pss_one (ps_expr (pe_bm PySem.F.plainAttrs_list PySem.F.slot_list_append PySem.F.type_list_append mt_append (pe_dsetd (pv 1) (pe_ix ix_list (pe_ix ix_tup (pe_ix ix_list (pv 0) (pv 2) (fun _ _ => rfl)) pe_int (fun _ _ => rfl)) (pv 3) (fun _ _ => rfl)) (pe_lst pa_nil) ⟨rfl, rfl, rfl, rfl⟩) (pa_cons (pe_tup (pa_cons (pv 2) (pa_cons (pv 3) pa_nil))) pa_nil)))))))
  (pss_one (ps_ret (pv 1))))), run__law_seats h⟩)
theorem ok__law_put (T : Top K mg a d) : FnOk P w K mg base CX0 4 (a 6) (d 6) ["_law_rows", "_law_big_here", "_law_tie", "_law_point"] (sp__law_put (gb K)) :=
  T.f__law_put.ok sc__law_put (fun vs H Q E h => len__law_put vs H Q E h) (fun cdv A outer s H vs Q E hr h => ⟨t__law_put (gb K), (pss_cons (ps_set (i := 4) sc__law_put.nd rfl (by first | exact .inl rfl | exact .inr rfl) (pe_lst pa_nil))
  (pss_cons (ps_for PassesOwn.never rfl (pi_range1 (by rfl) T.m_range (pa_cons (pe_callB call_len_seq (by rfl) T.m_len (by decide +kernel) (pa_cons (pv 0) pa_nil)) pa_nil)) (pg_name (i := 5) sc__law_put.nd rfl (by first | exact .inl rfl | exact .inr rfl))
  (pss_one (ps_for PassesOwn.never rfl (pi_range1 (by rfl) T.m_range (pa_cons (pe_callB (call_max2 rfl) (by rfl) T.m_max (by decide +kernel) (pa_cons pe_int (pa_cons (pe_callB call_len_seq (by rfl) T.m_len (by decide +kernel) (pa_cons (pe_ix ix_tup (pe_ix ix_list (pv 0) (pv 5) (fun _ _ => rfl)) pe_int (fun _ _ => rfl)) pa_nil)) pa_nil))) pa_nil)) (pg_name (i := 6) sc__law_put.nd rfl (by first | exact .inl rfl | exact .inr rfl))
  (pss_one (ps_expr (pe_bm PySem.F.plainAttrs_list PySem.F.slot_list_append PySem.F.type_list_append mt_append (pv 4) (pa_cons (pe_tup (pa_cons (pv 5) (pa_cons (pv 6) pa_nil))) pa_nil)))))))
  (pss_cons (ps_set (i := 7) sc__law_put.nd rfl (by first | exact .inl rfl | exact .inr rfl) (pe_ix ix_list (pv 4) (pe_op op_mod (pv 1) (pe_callB call_len_seq (by rfl) T.m_len (by decide +kernel) (pa_cons (pv 4) pa_nil))) (fun _ _ => rfl)))
  (pss_cons (ps_set (i := 1) sc__law_put.nd rfl (by first | exact .inl rfl | exact .inr rfl) (pe_op op_fdivW (pv 1) (pe_callB call_len_seq (by rfl) T.m_len (by decide +kernel) (pa_cons (pv 4) pa_nil))))
  (pss_cons (ps_set (i := 8) sc__law_put.nd rfl (by first | exact .inl rfl | exact .inr rfl) (pe_op op_mod (pv 1) pe_int))
  (pss_cons (ps_set (i := 1) sc__law_put.nd rfl (by first | exact .inl rfl | exact .inr rfl) (pe_op op_fdivW (pv 1) pe_int))
  (pss_cons (ps_if (pt_cmpR op_eq (pv 8) pe_int (nomark _))
  (pss_cons (ps_expr (pe_bm PySem.F.plainAttrs_list PySem.F.slot_list_insert PySem.F.type_list_insert mt_insert (pe_ix ix_tup (pe_ix ix_list (pv 0) (pe_ix ix_tup (pv 7) pe_int (fun _ _ => rfl)) (fun _ _ => rfl)) pe_int (fun _ _ => rfl)) (pa_cons (pe_ix ix_tup (pv 7) pe_int (fun _ _ => rfl)) (pa_cons (pv 2) pa_nil))))
  (pss_cons (ps_expr (pe_bm PySem.F.plainAttrs_list PySem.F.slot_list_append PySem.F.type_list_append mt_append (pv 0) (pa_cons (pe_tup (pa_cons (pv 3) (pa_cons (pe_lst (pa_cons (pv 2) pa_nil)) pa_nil))) pa_nil)))
  (pss_one (ps_ret (pv 1)))))
  pss_nil)
  (pss_cons (ps_set (i := 9) sc__law_put.nd rfl (by first | exact .inl rfl | exact .inr rfl) (pe_lst (pa_cons (pv 7) pa_nil)))
  (pss_cons (ps_if (pt_cmpR (op_neD hr.units) (pe_ix ix_tup (pe_ix ix_list (pv 0) pe_int (fun _ _ => rfl)) pe_int (fun _ _ => rfl)) (pe_lst pa_nil) (nomark _))
  (pss_one (ps_set (i := 9) sc__law_put.nd rfl (by first | exact .inl rfl | exact .inr rfl) (pe_call (ok__law_face T) (hr.mono (by decide)) (by rfl) T.g__law_face T.f__law_face.kp T.b__law_face .nil pass0 (pa_cons (pv 0) (pa_cons (pe_call (ok__law_seats T) (hr.mono (by decide)) (by rfl) T.g__law_seats T.f__law_seats.kp T.b__law_seats .nil pass0 (pa_cons (pv 0) pa_nil)) (pa_cons (pv 7) pa_nil))))))
  pss_nil)
  (pss_cons (ps_set (i := 10) sc__law_put.nd rfl (by first | exact .inl rfl | exact .inr rfl) (pe_ix ix_list (pv 9) (pe_op op_mod (pv 1) (pe_callB call_len_seq (by rfl) T.m_len (by decide +kernel) (pa_cons (pv 9) pa_nil))) (fun _ _ => rfl)))
  (pss_cons (ps_for PassesOwn.never rfl (pi_list (pe_callBK cr_sortedPR (by rfl) T.m_sorted (by decide +kernel) (pa_cons (pe_lst (pa_cons (pv 7) (pa_cons (pv 10) pa_nil))) pa_nil) (pk_cons pe_bl pk_nil))) (pg_name (i := 11) sc__law_put.nd rfl (by first | exact .inl rfl | exact .inr rfl))
  (pss_one (ps_expr (pe_bm PySem.F.plainAttrs_list PySem.F.slot_list_insert PySem.F.type_list_insert mt_insert (pe_ix ix_tup (pe_ix ix_list (pv 0) (pe_ix ix_tup (pv 11) pe_int (fun _ _ => rfl)) (fun _ _ => rfl)) pe_int (fun _ _ => rfl)) (pa_cons (pe_ix ix_tup (pv 11) pe_int (fun _ _ => rfl)) (pa_cons (pv 2) pa_nil))))))
  (pss_one (ps_ret (pe_op op_fdivW (pv 1) (pe_callB call_len_seq (by rfl) T.m_len (by decide +kernel) (pa_cons (pv 9) pa_nil)))))))))))))))), run__law_put h⟩)
theorem ok__law_net_by (T : Top K mg a d) : FnOk P w K mg base CX0 5 (a 7) (d 7) ["_law_big_here", "_law_most", "_law_stem"] (sp__law_net_by (gb K)) :=
  T.f__law_net_by.ok sc__law_net_by (fun vs H Q E h => len__law_net_by vs H Q E h) (fun cdv A outer s H vs Q E hr h => ⟨t__law_net_by (gb K), (pss_cons (ps_set (i := 3) sc__law_net_by.nd rfl (by first | exact .inl rfl | exact .inr rfl) (pe_op op_mod (pv 0) (pe_op op_add (pv 1) pe_int)))
  (pss_cons (ps_set (i := 0) sc__law_net_by.nd rfl (by first | exact .inl rfl | exact .inr rfl) (pe_op op_fdivW (pv 0) (pe_op op_add (pv 1) pe_int)))
  (pss_cons (ps_set (i := 4) sc__law_net_by.nd rfl (by first | exact .inl rfl | exact .inr rfl) (pe_call (ok__law_names T) (hr.mono (by decide)) (by rfl) T.g__law_names T.f__law_names.kp T.b__law_names .nil pass0 (pa_cons (pv 2) (pa_cons (pv 3) pa_nil))))
  (pss_cons (ps_set (i := 5) sc__law_net_by.nd rfl (by first | exact .inl rfl | exact .inr rfl) (pe_call (ok__law_names T) (hr.mono (by decide)) (by rfl) T.g__law_names T.f__law_names.kp T.b__law_names .nil pass0 (pa_cons (pe_ix ix_list (pe_lst (pa_cons (pe_op op_add (pe_op op_fdivW (pv 2) pe_int) pe_int) (pa_cons (pv 2) pa_nil))) (pe_callTy call_int1 (by rfl) T.m_int (by decide +kernel) (pa_cons (pe_cmpR op_eq (pe_op op_mod (pv 2) pe_int) pe_int (nomark _)) pa_nil)) (fun _ _ => rfl)) (pa_cons (pe_op op_add (pv 3) pe_int) pa_nil))))
  (pss_cons (ps_set (i := 6) sc__law_net_by.nd rfl (by first | exact .inl rfl | exact .inr rfl) (pe_lst (pa_cons (pe_tup (pa_cons (pe_ix ix_list (pv 5) pe_int (fun _ _ => rfl)) (pa_cons (pe_lst pa_nil) pa_nil))) pa_nil)))
  (pss_cons (ps_for PassesOwn.never rfl (pi_range1 (by rfl) T.m_range (pa_cons (pv 3) pa_nil)) (pg_name (i := 7) sc__law_net_by.nd rfl (by first | exact .inl rfl | exact .inr rfl))
  (pss_one (ps_set (i := 0) sc__law_net_by.nd rfl (by first | exact .inl rfl | exact .inr rfl) (pe_call (ok__law_put T) (hr.mono (by decide)) (by rfl) T.g__law_put T.f__law_put.kp T.b__law_put .nil pass0 (pa_cons (pv 6) (pa_cons (pv 0) (pa_cons (pe_ix ix_list (pv 4) (pv 7) (fun _ _ => rfl)) (pa_cons (pe_ix ix_list (pv 5) (pe_callB call_len_seq (by rfl) T.m_len (by decide +kernel) (pa_cons (pv 6) pa_nil)) (fun _ _ => rfl)) pa_nil))))))))
  (pss_cons (ps_set (i := 8) sc__law_net_by.nd rfl (by first | exact .inl rfl | exact .inr rfl) (pe_lst pa_nil))
  (pss_cons (ps_while PassesOwn.never (pt_cmpR (op_neD hr.units) (pv 6) (pe_lst pa_nil) (nomark _))
  (pss_cons (ps_asg (pe_bm PySem.F.plainAttrs_list PySem.F.slot_list_pop PySem.F.type_list_pop mt_popAt (pv 6) (pa_cons (pe_op op_mod (pv 0) (pe_callB call_len_seq (by rfl) T.m_len (by decide +kernel) (pa_cons (pv 6) pa_nil))) pa_nil)) (pg_name (i := 9) sc__law_net_by.nd rfl (by first | exact .inl rfl | exact .inr rfl)))
  (pss_cons (ps_set (i := 0) sc__law_net_by.nd rfl (by first | exact .inl rfl | exact .inr rfl) (pe_op op_fdivW (pv 0) (pe_op op_add (pe_callB call_len_seq (by rfl) T.m_len (by decide +kernel) (pa_cons (pv 6) pa_nil)) pe_int)))
  (pss_cons (ps_set (i := 10) sc__law_net_by.nd rfl (by first | exact .inl rfl | exact .inr rfl) (pe_callB (call_max2 rfl) (by rfl) T.m_max (by decide +kernel) (pa_cons pe_int (pa_cons (pe_callB call_len_seq (by rfl) T.m_len (by decide +kernel) (pa_cons (pe_ix ix_tup (pv 9) pe_int (fun _ _ => rfl)) pa_nil)) pa_nil))))
  (pss_cons (ps_expr (pe_bm PySem.F.plainAttrs_list PySem.F.slot_list_append PySem.F.type_list_append mt_append (pv 8) (pa_cons (pe_tup (pa_cons (pe_ix ix_tup (pv 9) pe_int (fun _ _ => rfl)) (pa_cons (pe_op op_cat (pe_slice sl_list (pe_ix ix_tup (pv 9) pe_int (fun _ _ => rfl)) (po_some (pe_op op_mod (pv 0) (pv 10))) po_none) (pe_slice sl_list (pe_ix ix_tup (pv 9) pe_int (fun _ _ => rfl)) po_none (po_some (pe_op op_mod (pv 0) (pv 10))))) pa_nil))) pa_nil)))
  (pss_one (ps_set (i := 0) sc__law_net_by.nd rfl (by first | exact .inl rfl | exact .inr rfl) (pe_op op_fdivW (pv 0) (pv 10)))))))))
  (pss_one (ps_ret (pv 8))))))))))), run__law_net_by h⟩)
theorem ok__law_big (T : Top K mg a d) : FnOk P w K mg base CX0 2 (a 8) (d 8) ["_law_script", "_law_at"] (sp__law_big (gb K)) :=
  T.f__law_big.ok sc__law_big (fun vs H Q E h => len__law_big vs H Q E h) (fun cdv A outer s H vs Q E hr h => ⟨t__law_big (gb K), (pss_cons (ps_set (i := 2) sc__law_big.nd rfl (by first | exact .inl rfl | exact .inr rfl) (pe_tup (pa_cons pe_int (pa_cons pe_int (pa_cons pe_int (pa_cons pe_int (pa_cons pe_int (pa_cons pe_int (pa_cons pe_int (pa_cons pe_int pa_nil))))))))))
  (pss_cons (ps_set (i := 3) sc__law_big.nd rfl (by first | exact .inl rfl | exact .inr rfl) (pe_tup (pa_cons pe_int (pa_cons pe_int (pa_cons pe_int (pa_cons pe_int (pa_cons pe_int (pa_cons pe_int (pa_cons pe_int (pa_cons pe_int pa_nil))))))))))
  (pss_cons (ps_set (i := 4) sc__law_big.nd rfl (by first | exact .inl rfl | exact .inr rfl) (pe_call (ok__law_cell_at T) (hr.mono (by decide)) (by rfl) T.g__law_cell_at T.f__law_cell_at.kp T.b__law_cell_at .nil pass0 (pa_cons (pv 0) (pa_cons (pv 1) pa_nil))))
  (pss_cons (ps_if (PW.pt (pw_and (pt_cmpR op_eq (pe_op op_mod (pv 4) pe_int) pe_int (nomark _)) (pw_and1 (pt_cmpR op_gt (pv 4) (pe_op op_pow pe_int pe_int) (nomark _)))))
  (pss_one (ps_ret (pe_op op_fdivW (pv 4) pe_int)))
  pss_nil)
  (pss_cons (ps_set (i := 5) sc__law_big.nd rfl (by first | exact .inl rfl | exact .inr rfl) pe_int)
  (pss_cons (ps_for PassesOwn.never rfl (pi_range1 (by rfl) T.m_range (pa_cons pe_int pa_nil)) (pg_name (i := 6) sc__law_big.nd rfl (by first | exact .inl rfl | exact .inr rfl))
  (pss_cons (ps_set (i := 7) sc__law_big.nd rfl (by first | exact .inl rfl | exact .inr rfl) (pe_op op_add (pe_op op_add (pe_op op_mod (pe_call (ok__law_cell_at T) (hr.mono (by decide)) (by rfl) T.g__law_cell_at T.f__law_cell_at.kp T.b__law_cell_at .nil pass0 (pa_cons (pv 0) (pa_cons (pe_op op_add (pv 1) (pe_op op_mod (pv 6) pe_int)) pa_nil))) (pe_op op_pow pe_int pe_int)) pe_int) (pe_op op_mulW (pv 6) (pv 6))))
  (pss_one (ps_set (i := 5) sc__law_big.nd rfl (by first | exact .inl rfl | exact .inr rfl) (pe_op op_add (pe_op op_mulW (pv 5) pe_int) (pe_op op_mod (pe_op op_mod (pe_op op_mulW (pv 7) (pe_ix ix_tup (pv 2) (pe_op op_mod (pv 6) pe_int) (fun _ _ => rfl))) (pe_ix ix_tup (pv 3) (pe_op op_mod (pv 6) pe_int) (fun _ _ => rfl))) pe_int))))))
  (pss_one (ps_ret (pv 5))))))))), run__law_big h⟩)
theorem ok__law_ties (T : Top K mg a d) : FnOk P w K mg base CX0 1 (a 9) (d 9) ["_law_rows"] (sp__law_ties (gb K)) :=
  T.f__law_ties.ok sc__law_ties (fun vs H Q E h => len__law_ties vs H Q E h) (fun cdv A outer s H vs Q E hr h => ⟨t__law_ties (gb K), (pss_cons (ps_set (i := 1) sc__law_ties.nd rfl (by first | exact .inl rfl | exact .inr rfl) pe_dnewK)
  (pss_cons (ps_for PassesOwn.never rfl (pi_list (pv 0)) (pg_tup rfl (pgs_cons (pg_name (i := 2) sc__law_ties.nd rfl (by first | exact .inl rfl | exact .inr rfl)) (pgs_cons (pg_name (i := 3) sc__law_ties.nd rfl (by first | exact .inl rfl | exact .inr rfl)) pgs_nil)))
  (pss_one (ps_for PassesOwn.never rfl (pi_list (pv 3)) (pg_name (i := 4) sc__law_ties.nd rfl (by first | exact .inl rfl | exact .inr rfl))
  (pss_one (ps_dput (hu_of hr) (pv 1) (pv 4) pe_bl rfl)))))
  (pss_one (ps_ret (pe_callB cr_sortedS (by rfl) T.m_sorted (by decide +kernel) (pa_cons (pe_callTy (call_listD rfl) (by rfl) T.m_list (by decide +kernel) (pa_cons (pv 1) pa_nil)) pa_nil)))))), run__law_ties h⟩)
theorem ok__law_other_net (T : Top K mg a d) : FnOk P w K mg base CX0 4 (a 10) (d 10) ["_law_rows"] (sp__law_other_net (gb K)) :=
  T.f__law_other_net.ok sc__law_other_net (fun vs H Q E h => len__law_other_net vs H Q E h) (fun cdv A outer s H vs Q E hr h => ⟨t__law_other_net (gb K), (pss_cons (ps_set (i := 1) sc__law_other_net.nd rfl (by first | exact .inl rfl | exact .inr rfl) (pe_call (ok__law_seats T) (hr.mono (by decide)) (by rfl) T.g__law_seats T.f__law_seats.kp T.b__law_seats .nil pass0 (pa_cons (pv 0) pa_nil)))
  (pss_cons (ps_set (i := 2) sc__law_other_net.nd rfl (by first | exact .inl rfl | exact .inr rfl) pe_dnewT)
  (pss_cons (ps_set (i := 3) sc__law_other_net.nd rfl (by first | exact .inl rfl | exact .inr rfl) (pe_lst pa_nil))
  (pss_cons (ps_for PassesOwn.never rfl (pi_range1 (by rfl) T.m_range (pa_cons (pe_callB call_len_seq (by rfl) T.m_len (by decide +kernel) (pa_cons (pv 0) pa_nil)) pa_nil)) (pg_name (i := 4) sc__law_other_net.nd rfl (by first | exact .inl rfl | exact .inr rfl))
  (pss_one (ps_for PassesOwn.never rfl (pi_range1 (by rfl) T.m_range (pa_cons (pe_callB call_len_seq (by rfl) T.m_len (by decide +kernel) (pa_cons (pe_ix ix_tup (pe_ix ix_list (pv 0) (pv 4) (fun _ _ => rfl)) pe_int (fun _ _ => rfl)) pa_nil)) pa_nil)) (pg_name (i := 5) sc__law_other_net.nd rfl (by first | exact .inl rfl | exact .inr rfl))
  (pss_one (ps_if (pt_cmp (pc_dnotin (hu_of hr) (pe_tup (pa_cons (pv 4) (pa_cons (pv 5) pa_nil))) (pv 2)))
  (pss_cons (ps_set (i := 6) sc__law_other_net.nd rfl (by first | exact .inl rfl | exact .inr rfl) (pe_call (ok__law_face T) (hr.mono (by decide)) (by rfl) T.g__law_face T.f__law_face.kp T.b__law_face .nil pass0 (pa_cons (pv 0) (pa_cons (pv 1) (pa_cons (pe_tup (pa_cons (pv 4) (pa_cons (pv 5) pa_nil))) pa_nil)))))
  (pss_cons (ps_expr (pe_bm PySem.F.plainAttrs_list PySem.F.slot_list_append PySem.F.type_list_append mt_append (pv 3) (pa_cons (pe_tup (pa_cons (pe_op op_add_str pe_str (pe_callTy call_str_int (by rfl) T.m_str (by decide +kernel) (pa_cons (pe_callB call_len_seq (by rfl) T.m_len (by decide +kernel) (pa_cons (pv 3) pa_nil)) pa_nil))) (pa_cons (pe_lc (own := [("_law_end", 7)]) (g := (gName 7)) (tt := tYes) rfl sc__law_other_net.nd (pi_list (pv 6)) (blkOk_by (own := [("_law_end", 7)]) (N := ["_law_rows", "_law_seats_here", "_law_met", "_law_made", "_law_r", "_law_place", "_law_face_here", "_law_end"]) (sc := defScope s__law_other_net) (by decide +kernel)) (fun _ _ _ _ _ => (pg_name (i := 7) sc__law_other_net.nd rfl (by first | exact .inl rfl | exact .inr rfl))) (fun _ _ _ _ _ => pts_nil) (fun _ _ _ _ _ => (pe_ix ix_list (pe_ix ix_tup (pe_ix ix_list (pv 0) (pe_ix ix_tup (pv 7) pe_int (fun _ _ => rfl)) (fun _ _ => rfl)) pe_int (fun _ _ => rfl)) (pe_ix ix_tup (pv 7) pe_int (fun _ _ => rfl)) (fun _ _ => rfl)))) pa_nil))) pa_nil)))
  (pss_one (ps_for PassesOwn.never rfl (pi_list (pv 6)) (pg_name (i := 7) sc__law_other_net.nd rfl (by first | exact .inl rfl | exact .inr rfl))
  (pss_one (ps_dput (hu_of hr) (pv 2) (pv 7) pe_bl rfl))))))
  pss_nil)))))
  (pss_cons (ps_if (pt_cmpR (op_eqD hr.units) (pv 3) (pe_lst pa_nil) (nomark _))
  (pss_one (ps_ret (pe_lst (pa_cons (pe_tup (pa_cons pe_str (pa_cons (pe_lst pa_nil) pa_nil))) pa_nil))))
  pss_nil)
  (pss_one (ps_ret (pv 3)))))))), run__law_other_net h⟩)
theorem ok__law_hangs (T : Top K mg a d) : FnOk P w K mg base CX0 1 (a 11) (d 11) ["_law_rows"] (sp__law_hangs (gb K)) :=
  T.f__law_hangs.ok sc__law_hangs (fun vs H Q E h => len__law_hangs vs H Q E h) (fun cdv A outer s H vs Q E hr h => ⟨t__law_hangs (gb K), (pss_cons (ps_set (i := 1) sc__law_hangs.nd rfl (by first | exact .inl rfl | exact .inr rfl) pe_dnewK)
  (pss_cons (ps_for PassesOwn.never rfl (pi_range1 (by rfl) T.m_range (pa_cons (pe_callB call_len_seq (by rfl) T.m_len (by decide +kernel) (pa_cons (pv 0) pa_nil)) pa_nil)) (pg_name (i := 2) sc__law_hangs.nd rfl (by first | exact .inl rfl | exact .inr rfl))
  (pss_one (ps_for PassesOwn.never rfl (pi_list (pe_ix ix_tup (pe_ix ix_list (pv 0) (pv 2) (fun _ _ => rfl)) pe_int (fun _ _ => rfl))) (pg_name (i := 3) sc__law_hangs.nd rfl (by first | exact .inl rfl | exact .inr rfl))
  (pss_one (ps_expr (pe_bm PySem.F.plainAttrs_list PySem.F.slot_list_append PySem.F.type_list_append mt_append (pe_dsetd (pv 1) (pv 3) (pe_lst pa_nil) ⟨rfl, rfl, rfl, rfl⟩) (pa_cons (pv 2) pa_nil)))))))
  (pss_cons (ps_set (i := 4) sc__law_hangs.nd rfl (by first | exact .inl rfl | exact .inr rfl) (pe_disp (pps_cons pe_int pe_bl pps_nil) (by rfl) (by rfl) (fun z => by cases z) (by decide)))
  (pss_cons (ps_set (i := 5) sc__law_hangs.nd rfl (by first | exact .inl rfl | exact .inr rfl) (pe_lst (pa_cons pe_int pa_nil)))
  (pss_cons (ps_while PassesOwn.never (pt_cmpR (op_neD hr.units) (pv 5) (pe_lst pa_nil) (nomark _))
  (pss_one (ps_for PassesOwn.never rfl (pi_list (pe_ix ix_tup (pe_ix ix_list (pv 0) (pe_bm0 PySem.F.plainAttrs_list PySem.F.slot_list_pop PySem.F.type_list_pop mt_pop (pv 5)) (fun _ _ => rfl)) pe_int (fun _ _ => rfl))) (pg_name (i := 3) sc__law_hangs.nd rfl (by first | exact .inl rfl | exact .inr rfl))
  (pss_one (ps_for PassesOwn.never rfl (pi_list (pe_dget (hu_of hr) (pv 1) (pv 3) (fun _ _ => rfl))) (pg_name (i := 6) sc__law_hangs.nd rfl (by first | exact .inl rfl | exact .inr rfl))
  (pss_one (ps_if (pt_cmp (pc_dnotin (hu_of hr) (pv 6) (pv 4)))
  (pss_cons (ps_dput (hu_of hr) (pv 4) (pv 6) pe_bl rfl)
  (pss_one (ps_expr (pe_bm PySem.F.plainAttrs_list PySem.F.slot_list_append PySem.F.type_list_append mt_append (pv 5) (pa_cons (pv 6) pa_nil)))))
  pss_nil)))))))
  (pss_one (ps_ret (pe_cmpR op_eq (pe_callB call_lenD (by rfl) T.m_len (by decide +kernel) (pa_cons (pv 4) pa_nil)) (pe_callB call_len_seq (by rfl) T.m_len (by decide +kernel) (pa_cons (pv 0) pa_nil)) (nomark _))))))))), run__law_hangs h⟩)
theorem ok__law_out (T : Top K mg a d) : FnOk P w K mg base CX0 1 (a 12) (d 12) ["_law_rows", "_law_tie"] (sp__law_out (gb K)) :=
  T.f__law_out.ok sc__law_out (fun vs H Q E h => len__law_out vs H Q E h) (fun cdv A outer s H vs Q E hr h => ⟨t__law_out (gb K), (pss_one (ps_ret (pe_lc (own := [("_law_point", 2), ("_law_row", 3)]) (g := (gTup (gb K).K 2 (gCons (gName 2) (gCons (gName 3) gNil)))) (tt := tYes) rfl sc__law_out.nd (pi_list (pv 0)) (blkOk_by (own := [("_law_point", 2), ("_law_row", 3)]) (N := ["_law_rows", "_law_tie", "_law_point", "_law_row", "_law_name"]) (sc := defScope s__law_out) (by decide +kernel)) (fun _ _ _ _ _ => (pg_tup rfl (pgs_cons (pg_name (i := 2) sc__law_out.nd rfl (by first | exact .inl rfl | exact .inr rfl)) (pgs_cons (pg_name (i := 3) sc__law_out.nd rfl (by first | exact .inl rfl | exact .inr rfl)) pgs_nil)))) (fun _ _ _ _ _ => pts_nil) (fun _ _ _ _ _ => (pe_tup (pa_cons (pv 2) (pa_cons (pe_lc (own := [("_law_name", 4)]) (g := (gName 4)) (tt := (tTest (tOp rNe (tVar 4) (tVar 1)))) rfl sc__law_out.nd (pi_list (pv 3)) (blkOk_in (N := ["_law_rows", "_law_tie", "_law_point", "_law_row", "_law_name"]) (own := [("_law_name", 4)]) (S0 := defScope s__law_out) rfl rfl (blkOk_by (by decide +kernel))) (fun _ _ _ _ _ => (pg_name (i := 4) sc__law_out.nd rfl (by first | exact .inl rfl | exact .inr rfl))) (fun _ _ _ _ _ => (pts_one (pt_cmpR op_ne (pv 4) (pv 1) (nomark _)))) (fun _ _ _ _ _ => (pv 4))) pa_nil))))))), run__law_out h⟩)
theorem ok__law_sort (T : Top K mg a d) : FnOk P w K mg base CX0 2 (a 13) (d 13) ["_law_rows", "_law_tie"] (sp__law_sort (gb K)) :=
  T.f__law_sort.ok sc__law_sort (fun vs H Q E h => len__law_sort vs H Q E h) (fun cdv A outer s H vs Q E hr h => ⟨t__law_sort (gb K), (pss_cons (ps_for PassesOwn.never rfl (pi_list (pv 0)) (pg_tup rfl (pgs_cons (pg_name (i := 2) sc__law_sort.nd rfl (by first | exact .inl rfl | exact .inr rfl)) (pgs_cons (pg_name (i := 3) sc__law_sort.nd rfl (by first | exact .inl rfl | exact .inr rfl)) pgs_nil)))
  (pss_one (ps_if (pt_cmpR op_eq (pe_bm PySem.F.plainAttrs_list PySem.F.slot_list_count PySem.F.type_list_count mt_lcountS (pv 3) (pa_cons (pv 1) pa_nil)) pe_int (nomark _))
  (pss_one (ps_ret pe_str))
  pss_nil)))
  (pss_cons (ps_if (pt_val (pe_call (ok__law_hangs T) (hr.mono (by decide)) (by rfl) T.g__law_hangs T.f__law_hangs.kp T.b__law_hangs .nil pass0 (pa_cons (pe_call (ok__law_out T) (hr.mono (by decide)) (by rfl) T.g__law_out T.f__law_out.kp T.b__law_out .nil pass0 (pa_cons (pv 0) (pa_cons (pv 1) pa_nil))) pa_nil)))
  (pss_one (ps_ret pe_str))
  pss_nil)
  (pss_one (ps_ret pe_str)))), run__law_sort h⟩)
theorem ok_ties_of (T : Top K mg a d) : FnOk P w K mg base CX0 1 (a 14) (d 14) ["rows"] (sp_ties_of (gb K)) :=
  T.f_ties_of.ok sc_ties_of (fun vs H Q E h => len_ties_of vs H Q E h) (fun cdv A outer s H vs Q E hr h => ⟨t_ties_of (gb K), (pss_cons (ps_set (i := 1) sc_ties_of.nd rfl (by first | exact .inl rfl | exact .inr rfl) pe_dnewK)
  (pss_cons (ps_for PassesOwn.never rfl (pi_list (pv 0)) (pg_tup rfl (pgs_cons (pg_name (i := 2) sc_ties_of.nd rfl (by first | exact .inl rfl | exact .inr rfl)) (pgs_cons (pg_name (i := 3) sc_ties_of.nd rfl (by first | exact .inl rfl | exact .inr rfl)) pgs_nil)))
  (pss_one (ps_for PassesOwn.never rfl (pi_list (pv 3)) (pg_name (i := 4) sc_ties_of.nd rfl (by first | exact .inl rfl | exact .inr rfl))
  (pss_one (ps_dput (hu_of hr) (pv 1) (pv 4) pe_bl rfl)))))
  (pss_one (ps_ret (pe_callB (call_sortedD rfl) (by rfl) T.m_sorted (by decide +kernel) (pa_cons (pv 1) pa_nil)))))), run_ties_of h⟩)
theorem ok_ask_known (T : Top K mg a d) : FnOk P w K mg base (L2N.CX P w) 2 (a 15) (d 15) ["rows", "tie"] (sp_ask_known (gb K)) :=
  okN T.f_ask_known sc_ask_known (fun vs H Q E h => len_ask_known vs H Q E h) (fun cdv A outer s H vs Q E hr h => ⟨t_ask_known (gb K) E, (pss_one (ps_if (pt_cmpR op_notIn_seq (pv 1) (pe_call (ok_ties_of T) (hr.mono (by decide)) (by rfl) T.g_ties_of T.f_ties_of.kp T.b_ties_of .nil pass0 (pa_cons (pv 0) pa_nil)) rfl)
  (pss_one (L2N.ps_raise rfl (L2N.takes_of rfl rfl rfl rfl) (L2N.pmk_own PySem.F.excBase_ValueError T.xx_NoTie T.g_NoTie T.xk_NoTie (raises_own T.xb_NoTie T.xt_NoTie) (by rfl))))
  pss_nil)), run_ask_known h⟩)
theorem ok_Turns_over (T : Top K mg a d) : FnOk P w K mg base CX0 1 (a 16) (d 16) ["self", "end"] (sp_Turns_over (gb K)) :=
  haveI := T.cf_Turns; T.f_Turns_over.ok sc_Turns_over (fun vs H Q E h => len_Turns_over vs H Q E h) (fun cdv A outer s H vs Q E hr h => ⟨t_Turns_over (gb K), (pss_one (ps_ret (pe_dget (hu_of hr) (pe_fld (pv 0) rfl) (pv 1) (fun _ _ => rfl)))), run_Turns_over h⟩)
theorem ok_reached (T : Top K mg a d) : FnOk P w K mg base CX0 2 (a 17) (d 17) ["turns", "point"] (sp_reached (gb K)) :=
  haveI := T.cf_Turns; T.f_reached.ok sc_reached (fun vs H Q E h => len_reached vs H Q E h) (fun cdv A outer s H vs Q E hr h => ⟨t_reached (gb K), (pss_cons (ps_set (i := 2) sc_reached.nd rfl (by first | exact .inl rfl | exact .inr rfl) (pe_disp (pps_cons (pv 1) pe_bl pps_nil) (by rfl) (by rfl) (fun z => by cases z) (by decide)))
  (pss_cons (ps_set (i := 3) sc_reached.nd rfl (by first | exact .inl rfl | exact .inr rfl) (pe_lst (pa_cons (pv 1) pa_nil)))
  (pss_cons (ps_while PassesOwn.never (pt_cmpR (op_neD hr.units) (pv 3) (pe_lst pa_nil) (nomark _))
  (pss_cons (ps_asg (pe_bm0 PySem.F.plainAttrs_list PySem.F.slot_list_pop PySem.F.type_list_pop mt_pop (pv 3)) (pg_name (i := 4) sc_reached.nd rfl (by first | exact .inl rfl | exact .inr rfl)))
  (pss_one (ps_for PassesOwn.never rfl (pi_range1 (by rfl) T.m_range (pa_cons (pe_dget (hu_of hr) (pe_fld (pv 0) rfl) (pv 4) (fun _ _ => rfl)) pa_nil)) (pg_name (i := 5) sc_reached.nd rfl (by first | exact .inl rfl | exact .inr rfl))
  (pss_cons (ps_set (i := 6) sc_reached.nd rfl (by first | exact .inl rfl | exact .inr rfl) (pe_ix ix_tup (pe_meth (pv 0) T.cf_Turns.c T.me_Turns_over (ok_Turns_over T) (hr.mono (by decide)) T.b_Turns_over .nil pass0 (pa_cons (pe_tup (pa_cons (pv 4) (pa_cons (pv 5) pa_nil))) pa_nil)) pe_int (fun _ _ => rfl)))
  (pss_one (ps_if (pt_cmp (pc_dnotin (hu_of hr) (pv 6) (pv 2)))
  (pss_cons (ps_dput (hu_of hr) (pv 2) (pv 6) pe_bl rfl)
  (pss_one (ps_expr (pe_bm PySem.F.plainAttrs_list PySem.F.slot_list_append PySem.F.type_list_append mt_append (pv 3) (pa_cons (pv 6) pa_nil)))))
  pss_nil)))))))
  (pss_one (ps_ret (pv 2)))))), run_reached h⟩)
theorem ok_Turns_init (T : Top K mg a d) : FnOk P w K mg base CX0 1 (a 18) (d 18) ["self", "rows"] (sp_Turns_init (gb K)) :=
  haveI := T.cf_Turns; T.f_Turns_init.ok sc_Turns_init (fun vs H Q E h => len_Turns_init vs H Q E h) (fun cdv A outer s H vs Q E hr h => ⟨t_Turns_init (gb K), (pss_cons (ps_fld (pv 0) (pe_lst pa_nil) rfl)
  (pss_cons (ps_fld (pv 0) pe_dnewK rfl)
  (pss_cons (ps_fld (pv 0) pe_dnewT rfl)
  (pss_cons (ps_fld (pv 0) pe_dnewT rfl)
  (pss_cons (ps_set (i := 2) sc_Turns_init.nd rfl (by first | exact .inl rfl | exact .inr rfl) pe_dnewK)
  (pss_one (ps_for PassesOwn.never rfl (pi_list (pv 1)) (pg_tup rfl (pgs_cons (pg_name (i := 3) sc_Turns_init.nd rfl (by first | exact .inl rfl | exact .inr rfl)) (pgs_cons (pg_name (i := 4) sc_Turns_init.nd rfl (by first | exact .inl rfl | exact .inr rfl)) pgs_nil)))
  (pss_cons (ps_dput (hu_of hr) (pe_fld (pv 0) rfl) (pv 3) (pe_callB call_len_seq (by rfl) T.m_len (by decide +kernel) (pa_cons (pv 4) pa_nil)) rfl)
  (pss_one (ps_for PassesOwn.never rfl (pi_enum (by rfl) T.m_enumerate (pa_cons (pv 4) pa_nil)) (pg_tup rfl (pgs_cons (pg_name (i := 5) sc_Turns_init.nd rfl (by first | exact .inl rfl | exact .inr rfl)) (pgs_cons (pg_name (i := 6) sc_Turns_init.nd rfl (by first | exact .inl rfl | exact .inr rfl)) pgs_nil)))
  (pss_cons (ps_set (i := 7) sc_Turns_init.nd rfl (by first | exact .inl rfl | exact .inr rfl) (pe_tup (pa_cons (pv 3) (pa_cons (pv 5) pa_nil))))
  (pss_cons (ps_expr (pe_bm PySem.F.plainAttrs_list PySem.F.slot_list_append PySem.F.type_list_append mt_append (pe_fld (pv 0) rfl) (pa_cons (pv 7) pa_nil)))
  (pss_cons (ps_dput (hu_of hr) (pe_fld (pv 0) rfl) (pv 7) (pv 6) rfl)
  (pss_one (ps_if (pt_cmp (pc_din (hu_of hr) (pv 6) (pv 2)))
  (pss_cons (ps_dput (hu_of hr) (pe_fld (pv 0) rfl) (pv 7) (pe_dget (hu_of hr) (pv 2) (pv 6) (fun _ _ => rfl)) rfl)
  (pss_one (ps_dput (hu_of hr) (pe_fld (pv 0) rfl) (pe_dget (hu_of hr) (pv 2) (pv 6) (fun _ _ => rfl)) (pv 7) rfl)))
  (pss_one (ps_dput (hu_of hr) (pv 2) (pv 6) (pv 7) rfl))))))))))))))))), run_Turns_init h⟩)
theorem ok_taken_out (T : Top K mg a d) : FnOk P w K mg base (L2N.CX P w) 3 (a 19) (d 19) ["rows", "tie"] (sp_taken_out (gb K)) :=
  haveI := T.cf_Turns; okN T.f_taken_out sc_taken_out (fun vs H Q E h => len_taken_out vs H Q E h) (fun cdv A outer s H vs Q E hr h => ⟨t_taken_out (gb K) E, (pss_cons (ps_expr (pe_call (ok_ask_known T) (hr.mono (by decide)) (by rfl) T.g_ask_known T.f_ask_known.kp T.b_ask_known .nil (L2N.passes_call (L2N.takes_of rfl rfl rfl rfl) (fun _ _ _ _ h => h)) (pa_cons (pv 0) (pa_cons (pv 1) pa_nil))))
  (pss_cons (ps_setLc (i := 2) (own := [("point", 3), ("ties", 4)]) (g := (gTup (gb K).K 2 (gCons (gName 3) (gCons (gName 4) gNil)))) (tt := tYes) rfl sc_taken_out.nd rfl rfl (sw_true rfl rfl rfl (by decide +kernel)) (pi_list (pv 0)) (blkOk_by (own := [("point", 3), ("ties", 4)]) (N := ["rows", "tie", "made", "point", "ties", "name"]) (sc := defScope s_taken_out) (by decide +kernel)) (fun _ _ _ _ _ => (pg_tup rfl (pgs_cons (pg_name (i := 3) sc_taken_out.nd rfl (by first | exact .inl rfl | exact .inr rfl)) (pgs_cons (pg_name (i := 4) sc_taken_out.nd rfl (by first | exact .inl rfl | exact .inr rfl)) pgs_nil)))) (fun _ _ _ _ _ => pts_nil) (fun _ _ _ _ _ => (pe_tup (pa_cons (pv 3) (pa_cons (pe_lc (own := [("name", 5)]) (g := (gName 5)) (tt := (tTest (tOp rNe (tVar 5) (tVar 1)))) rfl sc_taken_out.nd (pi_list (pv 4)) (blkOk_in (N := ["rows", "tie", "made", "point", "ties", "name"]) (own := [("name", 5)]) (S0 := defScope s_taken_out) rfl rfl (blkOk_by (by decide +kernel))) (fun _ _ _ _ _ => (pg_name (i := 5) sc_taken_out.nd rfl (by first | exact .inl rfl | exact .inr rfl))) (fun _ _ _ _ _ => (pts_one (pt_cmpR op_ne (pv 5) (pv 1) (nomark _)))) (fun _ _ _ _ _ => (pv 5))) pa_nil)))))
  (pss_cons (ps_if (pt_cmpR op_lt (pe_callB call_lenD (by rfl) T.m_len (by decide +kernel) (pa_cons (pe_call (ok_reached T) (hr.mono (by decide)) (by rfl) T.g_reached T.f_reached.kp T.b_reached .nil pass0 (pa_cons (pe_make T.mk_Turns (ok_Turns_init T) (hr.mono (by decide)) (by rfl) T.g_Turns T.b_Turns_init .nil pass0 (pa_cons (pv 2) pa_nil)) (pa_cons (pe_ix ix_tup (pe_ix ix_list (pv 2) pe_int (fun _ _ => rfl)) pe_int (fun _ _ => rfl)) pa_nil))) pa_nil)) (pe_callB call_len_seq (by rfl) T.m_len (by decide +kernel) (pa_cons (pv 2) pa_nil)) (nomark _))
  (pss_one (L2N.ps_raise rfl (L2N.takes_of rfl rfl rfl rfl) (L2N.pmk_own PySem.F.excBase_ValueError T.xx_Bridge T.g_Bridge T.xk_Bridge (raises_own T.xb_Bridge T.xt_Bridge) (by rfl))))
  pss_nil)
  (pss_one (ps_ret (pv 2)))))), run_taken_out h⟩)
theorem ok_shrunk (T : Top K mg a d) : FnOk P w K mg base (L2N.CX P w) 3 (a 20) (d 20) ["rows", "tie"] (sp_shrunk (gb K)) :=
  okN T.f_shrunk sc_shrunk (fun vs H Q E h => len_shrunk vs H Q E h) (fun cdv A outer s H vs Q E hr h => ⟨t_shrunk (gb K) E, (pss_cons (ps_expr (pe_call (ok_ask_known T) (hr.mono (by decide)) (by rfl) T.g_ask_known T.f_ask_known.kp T.b_ask_known .nil (L2N.passes_call (L2N.takes_of rfl rfl rfl rfl) (fun _ _ _ _ h => h)) (pa_cons (pv 0) (pa_cons (pv 1) pa_nil))))
  (pss_cons (ps_setLc (i := 2) (own := [("row", 11)]) (g := (gName 11)) (tt := (tTest (tOp (rIn (gb K).K false) (tVar 1) (tOp (rIxT (gb K).K) (tVar 11) (tC (.int 1)))))) rfl sc_shrunk.nd rfl rfl (sw_true rfl rfl rfl (by decide +kernel)) (pi_list (pv 0)) (blkOk_by (own := [("row", 11)]) (N := ["rows", "tie", "holders", "stays", "goes", "at", "turned", "made", "point", "ties", "place", "row"]) (sc := defScope s_shrunk) (by decide +kernel)) (fun _ _ _ _ _ => (pg_name (i := 11) sc_shrunk.nd rfl (by first | exact .inl rfl | exact .inr rfl))) (fun _ _ _ _ _ => (pts_one (pt_cmpR op_in_seq (pv 1) (pe_ix ix_tup (pv 11) pe_int (fun _ _ => rfl)) rfl))) (fun _ _ _ _ _ => (pv 11)))
  (pss_cons (ps_if (pt_cmpR op_eq (pe_callB call_len_seq (by rfl) T.m_len (by decide +kernel) (pa_cons (pv 2) pa_nil)) pe_int (nomark _))
  (pss_one (L2N.ps_raise rfl (L2N.takes_of rfl rfl rfl rfl) (L2N.pmk_own PySem.F.excBase_ValueError T.xx_Loop T.g_Loop T.xk_Loop (raises_own T.xb_Loop T.xt_Loop) (by rfl))))
  pss_nil)
  (pss_cons (ps_asg (pv 2) (pg_unl rfl (pgs_cons (pg_name (i := 3) sc_shrunk.nd rfl (by first | exact .inl rfl | exact .inr rfl)) (pgs_cons (pg_name (i := 4) sc_shrunk.nd rfl (by first | exact .inl rfl | exact .inr rfl)) pgs_nil))))
  (pss_cons (ps_set (i := 5) sc_shrunk.nd rfl (by first | exact .inl rfl | exact .inr rfl) (pe_bm PySem.F.plainAttrs_list PySem.F.slot_list_index PySem.F.type_list_index mt_index (pe_ix ix_tup (pv 4) pe_int (fun _ _ => rfl)) (pa_cons (pv 1) pa_nil)))
  (pss_cons (ps_set (i := 6) sc_shrunk.nd rfl (by first | exact .inl rfl | exact .inr rfl) (pe_op op_cat (pe_slice sl_list (pe_ix ix_tup (pv 4) pe_int (fun _ _ => rfl)) (po_some (pe_op op_add (pv 5) pe_int)) po_none) (pe_slice sl_list (pe_ix ix_tup (pv 4) pe_int (fun _ _ => rfl)) po_none (po_some (pv 5)))))
  (pss_cons (ps_set (i := 7) sc_shrunk.nd rfl (by first | exact .inl rfl | exact .inr rfl) (pe_lst pa_nil))
  (pss_cons (ps_for PassesOwn.leaving rfl (pi_list (pv 0)) (pg_tup rfl (pgs_cons (pg_name (i := 8) sc_shrunk.nd rfl (by first | exact .inl rfl | exact .inr rfl)) (pgs_cons (pg_name (i := 9) sc_shrunk.nd rfl (by first | exact .inl rfl | exact .inr rfl)) pgs_nil)))
  (pss_one (ps_if (pt_cmpR op_eq (pv 8) (pe_ix ix_tup (pv 3) pe_int (fun _ _ => rfl)) (nomark _))
  (pss_cons (ps_set (i := 10) sc_shrunk.nd rfl (by first | exact .inl rfl | exact .inr rfl) (pe_bm PySem.F.plainAttrs_list PySem.F.slot_list_index PySem.F.type_list_index mt_index (pv 9) (pa_cons (pv 1) pa_nil)))
  (pss_one (ps_expr (pe_bm PySem.F.plainAttrs_list PySem.F.slot_list_append PySem.F.type_list_append mt_append (pv 7) (pa_cons (pe_tup (pa_cons (pv 8) (pa_cons (pe_op op_cat (pe_op op_cat (pe_slice sl_list (pv 9) po_none (po_some (pv 10))) (pv 6)) (pe_slice sl_list (pv 9) (po_some (pe_op op_add (pv 10) pe_int)) po_none)) pa_nil))) pa_nil)))))
  (pss_one (ps_if (pt_cmpR op_ne (pv 8) (pe_ix ix_tup (pv 4) pe_int (fun _ _ => rfl)) (nomark _))
  (pss_one (ps_expr (pe_bm PySem.F.plainAttrs_list PySem.F.slot_list_append PySem.F.type_list_append mt_append (pv 7) (pa_cons (pe_tup (pa_cons (pv 8) (pa_cons (pe_callTy call_list_of (by rfl) T.m_list (by decide +kernel) (pa_cons (pv 9) pa_nil)) pa_nil))) pa_nil))))
  pss_nil)))))
  (pss_one (ps_ret (pv 7))))))))))), run_shrunk h⟩)
theorem ok__law_refused (T : Top K mg a d) : FnOk P w K mg base CX0 4 (a 21) (d 21) ["_law_rows", "_law_tie", "_law_out_here"] (sp__law_refused (gb K)) :=
  haveI := T.cf_Turns; haveI := T.exf; T.f__law_refused.ok sc__law_refused (fun vs H Q E h => len__law_refused vs H Q E h) (fun cdv A outer s H vs Q E hr h => ⟨t__law_refused (gb K), (pss_cons (ps_tryOn2 rfl rfl ⟨by rfl, by decide, .inl T.g_Bridge⟩ ⟨by rfl, by decide, .inl T.g_Loop⟩ (fun W pn xe tk _ => (PSs_as (pss_one (ps_if (pt_val (pv 2))
  (pss_one (ps_expr (pe_callSD (ok_taken_out T) (hr.mono (by decide)) (by rfl) T.g_taken_out T.f_taken_out.kp T.b_taken_out .nil (fun σ => L2N.passAt tk σ) (pa_cons (pv 0) (pa_cons (pv 1) pa_nil)))))
  (pss_one (ps_expr (pe_callSD (ok_shrunk T) (hr.mono (by decide)) (by rfl) T.g_shrunk T.f_shrunk.kp T.b_shrunk .nil (fun σ => L2N.passAt tk σ) (pa_cons (pv 0) (pa_cons (pv 1) pa_nil))))))) rfl)) (fun xa1 oe xl3 xd4 pn hz hf => (pss_one (ps_ret pe_str))) (fun xa1 oe xl3 xd4 pn hz hf => (pss_one (ps_ret pe_str))))
  (pss_one (ps_ret pe_str))), run__law_refused h⟩)
theorem ok__law_copy (T : Top K mg a d) : FnOk P w K mg base CX0 1 (a 22) (d 22) ["_law_rows"] (sp__law_copy (gb K)) :=
  T.f__law_copy.ok sc__law_copy (fun vs H Q E h => len__law_copy vs H Q E h) (fun cdv A outer s H vs Q E hr h => ⟨t__law_copy (gb K), (pss_one (ps_ret (pe_lc (own := [("_law_row", 1)]) (g := (gName 1)) (tt := tYes) rfl sc__law_copy.nd (pi_list (pv 0)) (blkOk_by (own := [("_law_row", 1)]) (N := ["_law_rows", "_law_row"]) (sc := defScope s__law_copy) (by decide +kernel)) (fun _ _ _ _ _ => (pg_name (i := 1) sc__law_copy.nd rfl (by first | exact .inl rfl | exact .inr rfl))) (fun _ _ _ _ _ => pts_nil) (fun _ _ _ _ _ => (pe_tup (pa_cons (pe_ix ix_tup (pv 1) pe_int (fun _ _ => rfl)) (pa_cons (pe_callTy call_list_of (by rfl) T.m_list (by decide +kernel) (pa_cons (pe_ix ix_tup (pv 1) pe_int (fun _ _ => rfl)) pa_nil)) pa_nil))))))), run__law_copy h⟩)
theorem ok__law_canon (T : Top K mg a d) : FnOk P w K mg base CX0 1 (a 23) (d 23) ["_law_rows"] (sp__law_canon (gb K)) :=
  T.f__law_canon.ok sc__law_canon (fun vs H Q E h => len__law_canon vs H Q E h) (fun cdv A outer s H vs Q E hr h => ⟨t__law_canon (gb K), (pss_cons (ps_set (i := 1) sc__law_canon.nd rfl (by first | exact .inl rfl | exact .inr rfl) (pe_lst pa_nil))
  (pss_cons (ps_for PassesOwn.never rfl (pi_list (pv 0)) (pg_tup rfl (pgs_cons (pg_name (i := 2) sc__law_canon.nd rfl (by first | exact .inl rfl | exact .inr rfl)) (pgs_cons (pg_name (i := 3) sc__law_canon.nd rfl (by first | exact .inl rfl | exact .inr rfl)) pgs_nil)))
  (pss_cons (ps_setLc (i := 4) (own := [("_law_k", 5)]) (g := (gName 5)) (tt := tYes) rfl sc__law_canon.nd rfl rfl (sw_true rfl rfl rfl (by decide +kernel)) (pi_range1 (by rfl) T.m_range (pa_cons (pe_callB call_len_seq (by rfl) T.m_len (by decide +kernel) (pa_cons (pv 3) pa_nil)) pa_nil)) (blkOk_by (own := [("_law_k", 5)]) (N := ["_law_rows", "_law_found", "_law_point", "_law_row", "_law_rounds", "_law_k"]) (sc := defScope s__law_canon) (by decide +kernel)) (fun _ _ _ _ _ => (pg_name (i := 5) sc__law_canon.nd rfl (by first | exact .inl rfl | exact .inr rfl))) (fun _ _ _ _ _ => pts_nil) (fun _ _ _ _ _ => (pe_op op_cat (pe_slice sl_list (pv 3) (po_some (pv 5)) po_none) (pe_slice sl_list (pv 3) po_none (po_some (pv 5))))))
  (pss_cons (ps_if (pt_cmpR (op_eqD hr.units) (pv 4) (pe_lst pa_nil) (nomark _))
  (pss_one (ps_set (i := 4) sc__law_canon.nd rfl (by first | exact .inl rfl | exact .inr rfl) (pe_lst (pa_cons (pe_lst pa_nil) pa_nil))))
  pss_nil)
  (pss_one (ps_expr (pe_bm PySem.F.plainAttrs_list PySem.F.slot_list_append PySem.F.type_list_append mt_append (pv 1) (pa_cons (pe_callB (cr_minLs rfl hr.units) (by rfl) T.m_min (by decide +kernel) (pa_cons (pv 4) pa_nil)) pa_nil)))))))
  (pss_one (ps_ret (pe_callB (cr_sortedLs hr.units) (by rfl) T.m_sorted (by decide +kernel) (pa_cons (pv 1) pa_nil)))))), run__law_canon h⟩)
theorem ok_law (T : Top K mg a d) : FnOk P w K mg base CX0 6 (a 24) (d 24) ["_law_script"] (sp_law (gb K)) :=
  haveI := T.cf_Turns; T.f_law.ok sc_law (fun vs H Q E h => len_law vs H Q E h) (fun cdv A outer s H vs Q E hr h => ⟨t_law (gb K), (pss_cons (ps_set (i := 1) sc_law.nd rfl (by first | exact .inl rfl | exact .inr rfl) (pe_op op_mod (pe_call (ok__law_cell_at T) (hr.mono (by decide)) (by rfl) T.g__law_cell_at T.f__law_cell_at.kp T.b__law_cell_at .nil pass0 (pa_cons (pv 0) (pa_cons pe_int pa_nil))) (pe_op op_pow pe_int pe_int)))
  (pss_cons (ps_set (i := 2) sc_law.nd rfl (by first | exact .inl rfl | exact .inr rfl) (pe_call (ok__law_net_by T) (hr.mono (by decide)) (by rfl) T.g__law_net_by T.f__law_net_by.kp T.b__law_net_by .nil pass0 (pa_cons (pe_op op_add (pe_op op_add (pe_op op_mulK (pe_call (ok__law_big T) (hr.mono (by decide)) (by rfl) T.g__law_big T.f__law_big.kp T.b__law_big .nil pass0 (pa_cons (pv 0) (pa_cons pe_int pa_nil))) pe_int) pe_int) (pe_op op_mod (pe_call (ok__law_cell_at T) (hr.mono (by decide)) (by rfl) T.g__law_cell_at T.f__law_cell_at.kp T.b__law_cell_at .nil pass0 (pa_cons (pv 0) (pa_cons pe_int pa_nil))) pe_int)) (pa_cons pe_int (pa_cons (pv 1) pa_nil)))))
  (pss_cons (ps_set (i := 3) sc_law.nd rfl (by first | exact .inl rfl | exact .inr rfl) (pe_call (ok__law_ties T) (hr.mono (by decide)) (by rfl) T.g__law_ties T.f__law_ties.kp T.b__law_ties .nil pass0 (pa_cons (pv 2) pa_nil)))
  (pss_cons (ps_set (i := 4) sc_law.nd rfl (by first | exact .inl rfl | exact .inr rfl) (pe_ix ix_list (pv 3) (pe_op op_mod (pe_op op_fdivW (pe_call (ok__law_cell_at T) (hr.mono (by decide)) (by rfl) T.g__law_cell_at T.f__law_cell_at.kp T.b__law_cell_at .nil pass0 (pa_cons (pv 0) (pa_cons pe_int pa_nil))) pe_int) (pe_callB call_len_seq (by rfl) T.m_len (by decide +kernel) (pa_cons (pv 3) pa_nil))) (fun _ _ => rfl)))
  (pss_cons (ps_set (i := 5) sc_law.nd rfl (by first | exact .inl rfl | exact .inr rfl) (pe_call (ok__law_other_net T) (hr.mono (by decide)) (by rfl) T.g__law_other_net T.f__law_other_net.kp T.b__law_other_net .nil pass0 (pa_cons (pv 2) pa_nil)))
  (pss_cons (ps_set (i := 6) sc_law.nd rfl (by first | exact .inl rfl | exact .inr rfl) (pe_call (ok__law_sort T) (hr.mono (by decide)) (by rfl) T.g__law_sort T.f__law_sort.kp T.b__law_sort .nil pass0 (pa_cons (pv 2) (pa_cons (pv 4) pa_nil))))
  (pss_cons (ps_if (pt_cmpR op_eq (pv 6) pe_str (nomark _))
  (pss_one (ps_if (PW.pt (pw_or (pt_cmpR op_ne (pe_call (ok__law_refused T) (hr.mono (by decide)) (by rfl) T.g__law_refused T.f__law_refused.kp T.b__law_refused .nil pass0 (pa_cons (pv 2) (pa_cons (pv 4) (pa_cons pe_bl pa_nil)))) pe_str (nomark _)) (pw_or1 (pt_cmpR op_ne (pe_call (ok__law_refused T) (hr.mono (by decide)) (by rfl) T.g__law_refused T.f__law_refused.kp T.b__law_refused .nil pass0 (pa_cons (pv 5) (pa_cons (pv 4) (pa_cons pe_bl pa_nil)))) pe_str (nomark _)))))
  (pss_one (ps_ret pe_bl))
  pss_nil))
  (pss_cons (ps_set (i := 7) sc_law.nd rfl (by first | exact .inl rfl | exact .inr rfl) (pe_call (ok__law_other_net T) (hr.mono (by decide)) (by rfl) T.g__law_other_net T.f__law_other_net.kp T.b__law_other_net .nil pass0 (pa_cons (pe_call (ok_taken_out T) (hr.mono (by decide)) (by rfl) T.g_taken_out T.f_taken_out.kp T.b_taken_out .nil passN (pa_cons (pe_call (ok__law_copy T) (hr.mono (by decide)) (by rfl) T.g__law_copy T.f__law_copy.kp T.b__law_copy .nil pass0 (pa_cons (pv 2) pa_nil)) (pa_cons (pv 4) pa_nil))) pa_nil)))
  (pss_one (ps_if (pt_cmpR (op_neD hr.units) (pe_call (ok__law_canon T) (hr.mono (by decide)) (by rfl) T.g__law_canon T.f__law_canon.kp T.b__law_canon .nil pass0 (pa_cons (pv 7) pa_nil)) (pe_call (ok__law_canon T) (hr.mono (by decide)) (by rfl) T.g__law_canon T.f__law_canon.kp T.b__law_canon .nil pass0 (pa_cons (pe_call (ok_shrunk T) (hr.mono (by decide)) (by rfl) T.g_shrunk T.f_shrunk.kp T.b_shrunk .nil passN (pa_cons (pe_call (ok__law_copy T) (hr.mono (by decide)) (by rfl) T.g__law_copy T.f__law_copy.kp T.b__law_copy .nil pass0 (pa_cons (pv 5) pa_nil)) (pa_cons (pv 4) pa_nil))) pa_nil)) (nomark _))
  (pss_one (ps_ret pe_bl))
  pss_nil))))
  (pss_cons (ps_if (pt_cmpR op_eq (pv 6) pe_str (nomark _))
  (pss_one (ps_ret (pe_and (pe_cmpR op_eq (pe_call (ok__law_refused T) (hr.mono (by decide)) (by rfl) T.g__law_refused T.f__law_refused.kp T.b__law_refused .nil pass0 (pa_cons (pv 2) (pa_cons (pv 4) (pa_cons pe_bl pa_nil)))) pe_str (nomark _)) (pe_one (pe_cmpR op_eq (pe_call (ok__law_refused T) (hr.mono (by decide)) (by rfl) T.g__law_refused T.f__law_refused.kp T.b__law_refused .nil pass0 (pa_cons (pv 5) (pa_cons (pv 4) (pa_cons pe_bl pa_nil)))) pe_str (nomark _))))))
  pss_nil)
  (pss_cons (ps_set (i := 7) sc_law.nd rfl (by first | exact .inl rfl | exact .inr rfl) (pe_call (ok__law_other_net T) (hr.mono (by decide)) (by rfl) T.g__law_other_net T.f__law_other_net.kp T.b__law_other_net .nil pass0 (pa_cons (pe_call (ok_shrunk T) (hr.mono (by decide)) (by rfl) T.g_shrunk T.f_shrunk.kp T.b_shrunk .nil passN (pa_cons (pe_call (ok__law_copy T) (hr.mono (by decide)) (by rfl) T.g__law_copy T.f__law_copy.kp T.b__law_copy .nil pass0 (pa_cons (pv 2) pa_nil)) (pa_cons (pv 4) pa_nil))) pa_nil)))
  (pss_one (ps_ret (pe_cmpR (op_eqD hr.units) (pe_call (ok__law_canon T) (hr.mono (by decide)) (by rfl) T.g__law_canon T.f__law_canon.kp T.b__law_canon .nil pass0 (pa_cons (pv 7) pa_nil)) (pe_call (ok__law_canon T) (hr.mono (by decide)) (by rfl) T.g__law_canon T.f__law_canon.kp T.b__law_canon .nil pass0 (pa_cons (pe_call (ok_taken_out T) (hr.mono (by decide)) (by rfl) T.g_taken_out T.f_taken_out.kp T.b_taken_out .nil passN (pa_cons (pe_call (ok__law_copy T) (hr.mono (by decide)) (by rfl) T.g__law_copy T.f__law_copy.kp T.b__law_copy .nil pass0 (pa_cons (pv 5) pa_nil)) (pa_cons (pv 4) pa_nil))) pa_nil)) (nomark _))))))))))))), run_law h⟩)
end
theorem all_mk {l : PySem.W.OpenLaw} {w : World} {K : PySem.W.Frag} {h : Heap} {mg : Str → Option Value} {fa f0 f1 f2 f3 f4 f5 f6 f7 f8 f9 f10 f11 f12 f13 f14 f15 f16 f17 f18 f19 f20 f21 f22 f23 f24 C_Turns X_Bridge X_Loop X_NoTie : Addr} (X : K.In h) (G : h.Ns mainGlobals mg) (hfa : mg "law" = some (.ref fa))
    {od0 an0 : Option Addr} {sl0 : Array (Option Value)} {oc0 kV0 dc0 pm0 cd0 ct0 : Value}
    (a0 : PySem.W.nsIn K mainGlobals "_law_cell_at" = some (some (.ref f0)))
    (l0 : K.lookup f0 = some ⟨oc0, od0, .func (PySem.W.fnOf "_law_cell_at" "_law_cell_at" (defArgs s__law_cell_at) (defBody s__law_cell_at) (defScope s__law_cell_at) .none kV0 dc0 pm0 an0 cd0 ct0), sl0⟩)
    (c0 : PySem.W.codeIn K cd0 "_law_cell_at" = true) (k0 : PySem.W.keepIn K (.ref f0) = true)
    {od1 an1 : Option Addr} {sl1 : Array (Option Value)} {oc1 kV1 dc1 pm1 cd1 ct1 : Value}
    (a1 : PySem.W.nsIn K mainGlobals "_law_names" = some (some (.ref f1)))
    (l1 : K.lookup f1 = some ⟨oc1, od1, .func (PySem.W.fnOf "_law_names" "_law_names" (defArgs s__law_names) (defBody s__law_names) (defScope s__law_names) .none kV1 dc1 pm1 an1 cd1 ct1), sl1⟩)
    (c1 : PySem.W.codeIn K cd1 "_law_names" = true) (k1 : PySem.W.keepIn K (.ref f1) = true)
    {od2 an2 : Option Addr} {sl2 : Array (Option Value)} {oc2 kV2 dc2 pm2 cd2 ct2 : Value}
    (a2 : PySem.W.nsIn K mainGlobals "_law_other" = some (some (.ref f2)))
    (l2 : K.lookup f2 = some ⟨oc2, od2, .func (PySem.W.fnOf "_law_other" "_law_other" (defArgs s__law_other) (defBody s__law_other) (defScope s__law_other) .none kV2 dc2 pm2 an2 cd2 ct2), sl2⟩)
    (c2 : PySem.W.codeIn K cd2 "_law_other" = true) (k2 : PySem.W.keepIn K (.ref f2) = true)
    {od3 an3 : Option Addr} {sl3 : Array (Option Value)} {oc3 kV3 dc3 pm3 cd3 ct3 : Value}
    (a3 : PySem.W.nsIn K mainGlobals "_law_step" = some (some (.ref f3)))
    (l3 : K.lookup f3 = some ⟨oc3, od3, .func (PySem.W.fnOf "_law_step" "_law_step" (defArgs s__law_step) (defBody s__law_step) (defScope s__law_step) .none kV3 dc3 pm3 an3 cd3 ct3), sl3⟩)
    (c3 : PySem.W.codeIn K cd3 "_law_step" = true) (k3 : PySem.W.keepIn K (.ref f3) = true)
    {od4 an4 : Option Addr} {sl4 : Array (Option Value)} {oc4 kV4 dc4 pm4 cd4 ct4 : Value}
    (a4 : PySem.W.nsIn K mainGlobals "_law_face" = some (some (.ref f4)))
    (l4 : K.lookup f4 = some ⟨oc4, od4, .func (PySem.W.fnOf "_law_face" "_law_face" (defArgs s__law_face) (defBody s__law_face) (defScope s__law_face) .none kV4 dc4 pm4 an4 cd4 ct4), sl4⟩)
    (c4 : PySem.W.codeIn K cd4 "_law_face" = true) (k4 : PySem.W.keepIn K (.ref f4) = true)
    {od5 an5 : Option Addr} {sl5 : Array (Option Value)} {oc5 kV5 dc5 pm5 cd5 ct5 : Value}
    (a5 : PySem.W.nsIn K mainGlobals "_law_seats" = some (some (.ref f5)))
    (l5 : K.lookup f5 = some ⟨oc5, od5, .func (PySem.W.fnOf "_law_seats" "_law_seats" (defArgs s__law_seats) (defBody s__law_seats) (defScope s__law_seats) .none kV5 dc5 pm5 an5 cd5 ct5), sl5⟩)
    (c5 : PySem.W.codeIn K cd5 "_law_seats" = true) (k5 : PySem.W.keepIn K (.ref f5) = true)
    {od6 an6 : Option Addr} {sl6 : Array (Option Value)} {oc6 kV6 dc6 pm6 cd6 ct6 : Value}
    (a6 : PySem.W.nsIn K mainGlobals "_law_put" = some (some (.ref f6)))
    (l6 : K.lookup f6 = some ⟨oc6, od6, .func (PySem.W.fnOf "_law_put" "_law_put" (defArgs s__law_put) (defBody s__law_put) (defScope s__law_put) .none kV6 dc6 pm6 an6 cd6 ct6), sl6⟩)
    (c6 : PySem.W.codeIn K cd6 "_law_put" = true) (k6 : PySem.W.keepIn K (.ref f6) = true)
    {od7 an7 : Option Addr} {sl7 : Array (Option Value)} {oc7 kV7 dc7 pm7 cd7 ct7 : Value}
    (a7 : PySem.W.nsIn K mainGlobals "_law_net_by" = some (some (.ref f7)))
    (l7 : K.lookup f7 = some ⟨oc7, od7, .func (PySem.W.fnOf "_law_net_by" "_law_net_by" (defArgs s__law_net_by) (defBody s__law_net_by) (defScope s__law_net_by) .none kV7 dc7 pm7 an7 cd7 ct7), sl7⟩)
    (c7 : PySem.W.codeIn K cd7 "_law_net_by" = true) (k7 : PySem.W.keepIn K (.ref f7) = true)
    {od8 an8 : Option Addr} {sl8 : Array (Option Value)} {oc8 kV8 dc8 pm8 cd8 ct8 : Value}
    (a8 : PySem.W.nsIn K mainGlobals "_law_big" = some (some (.ref f8)))
    (l8 : K.lookup f8 = some ⟨oc8, od8, .func (PySem.W.fnOf "_law_big" "_law_big" (defArgs s__law_big) (defBody s__law_big) (defScope s__law_big) .none kV8 dc8 pm8 an8 cd8 ct8), sl8⟩)
    (c8 : PySem.W.codeIn K cd8 "_law_big" = true) (k8 : PySem.W.keepIn K (.ref f8) = true)
    {od9 an9 : Option Addr} {sl9 : Array (Option Value)} {oc9 kV9 dc9 pm9 cd9 ct9 : Value}
    (a9 : PySem.W.nsIn K mainGlobals "_law_ties" = some (some (.ref f9)))
    (l9 : K.lookup f9 = some ⟨oc9, od9, .func (PySem.W.fnOf "_law_ties" "_law_ties" (defArgs s__law_ties) (defBody s__law_ties) (defScope s__law_ties) .none kV9 dc9 pm9 an9 cd9 ct9), sl9⟩)
    (c9 : PySem.W.codeIn K cd9 "_law_ties" = true) (k9 : PySem.W.keepIn K (.ref f9) = true)
    {od10 an10 : Option Addr} {sl10 : Array (Option Value)} {oc10 kV10 dc10 pm10 cd10 ct10 : Value}
    (a10 : PySem.W.nsIn K mainGlobals "_law_other_net" = some (some (.ref f10)))
    (l10 : K.lookup f10 = some ⟨oc10, od10, .func (PySem.W.fnOf "_law_other_net" "_law_other_net" (defArgs s__law_other_net) (defBody s__law_other_net) (defScope s__law_other_net) .none kV10 dc10 pm10 an10 cd10 ct10), sl10⟩)
    (c10 : PySem.W.codeIn K cd10 "_law_other_net" = true) (k10 : PySem.W.keepIn K (.ref f10) = true)
    {od11 an11 : Option Addr} {sl11 : Array (Option Value)} {oc11 kV11 dc11 pm11 cd11 ct11 : Value}
    (a11 : PySem.W.nsIn K mainGlobals "_law_hangs" = some (some (.ref f11)))
    (l11 : K.lookup f11 = some ⟨oc11, od11, .func (PySem.W.fnOf "_law_hangs" "_law_hangs" (defArgs s__law_hangs) (defBody s__law_hangs) (defScope s__law_hangs) .none kV11 dc11 pm11 an11 cd11 ct11), sl11⟩)
    (c11 : PySem.W.codeIn K cd11 "_law_hangs" = true) (k11 : PySem.W.keepIn K (.ref f11) = true)
    {od12 an12 : Option Addr} {sl12 : Array (Option Value)} {oc12 kV12 dc12 pm12 cd12 ct12 : Value}
    (a12 : PySem.W.nsIn K mainGlobals "_law_out" = some (some (.ref f12)))
    (l12 : K.lookup f12 = some ⟨oc12, od12, .func (PySem.W.fnOf "_law_out" "_law_out" (defArgs s__law_out) (defBody s__law_out) (defScope s__law_out) .none kV12 dc12 pm12 an12 cd12 ct12), sl12⟩)
    (c12 : PySem.W.codeIn K cd12 "_law_out" = true) (k12 : PySem.W.keepIn K (.ref f12) = true)
    {od13 an13 : Option Addr} {sl13 : Array (Option Value)} {oc13 kV13 dc13 pm13 cd13 ct13 : Value}
    (a13 : PySem.W.nsIn K mainGlobals "_law_sort" = some (some (.ref f13)))
    (l13 : K.lookup f13 = some ⟨oc13, od13, .func (PySem.W.fnOf "_law_sort" "_law_sort" (defArgs s__law_sort) (defBody s__law_sort) (defScope s__law_sort) .none kV13 dc13 pm13 an13 cd13 ct13), sl13⟩)
    (c13 : PySem.W.codeIn K cd13 "_law_sort" = true) (k13 : PySem.W.keepIn K (.ref f13) = true)
    {od14 an14 : Option Addr} {sl14 : Array (Option Value)} {oc14 kV14 dc14 pm14 cd14 ct14 : Value}
    (a14 : PySem.W.nsIn K mainGlobals "ties_of" = some (some (.ref f14)))
    (l14 : K.lookup f14 = some ⟨oc14, od14, .func (PySem.W.fnOf "ties_of" "ties_of" (defArgs s_ties_of) (defBody s_ties_of) (defScope s_ties_of) .none kV14 dc14 pm14 an14 cd14 ct14), sl14⟩)
    (c14 : PySem.W.codeIn K cd14 "ties_of" = true) (k14 : PySem.W.keepIn K (.ref f14) = true)
    {od15 an15 : Option Addr} {sl15 : Array (Option Value)} {oc15 kV15 dc15 pm15 cd15 ct15 : Value}
    (a15 : PySem.W.nsIn K mainGlobals "ask_known" = some (some (.ref f15)))
    (l15 : K.lookup f15 = some ⟨oc15, od15, .func (PySem.W.fnOf "ask_known" "ask_known" (defArgs s_ask_known) (defBody s_ask_known) (defScope s_ask_known) .none kV15 dc15 pm15 an15 cd15 ct15), sl15⟩)
    (c15 : PySem.W.codeIn K cd15 "ask_known" = true) (k15 : PySem.W.keepIn K (.ref f15) = true)
    {od16 an16 : Option Addr} {sl16 : Array (Option Value)} {oc16 kV16 dc16 pm16 cd16 ct16 : Value}
    (i16 : PySem.W.findIn K (.ref C_Turns) "over" = some (some (.ref f16))) (j16 : PySem.W.isFn K (.ref f16) = true)
    (l16 : K.lookup f16 = some ⟨oc16, od16, .func (PySem.W.fnOf "over" "Turns.over" (defArgs s_Turns_over) (defBody s_Turns_over) (defScope s_Turns_over) .none kV16 dc16 pm16 an16 cd16 ct16), sl16⟩)
    (c16 : PySem.W.codeIn K cd16 "Turns.over" = true) (k16 : PySem.W.keepIn K (.ref f16) = true)
    {od17 an17 : Option Addr} {sl17 : Array (Option Value)} {oc17 kV17 dc17 pm17 cd17 ct17 : Value}
    (a17 : PySem.W.nsIn K mainGlobals "reached" = some (some (.ref f17)))
    (l17 : K.lookup f17 = some ⟨oc17, od17, .func (PySem.W.fnOf "reached" "reached" (defArgs s_reached) (defBody s_reached) (defScope s_reached) .none kV17 dc17 pm17 an17 cd17 ct17), sl17⟩)
    (c17 : PySem.W.codeIn K cd17 "reached" = true) (k17 : PySem.W.keepIn K (.ref f17) = true)
    {od18 an18 : Option Addr} {sl18 : Array (Option Value)} {oc18 kV18 dc18 pm18 cd18 ct18 : Value}
    (i18 : PySem.W.findIn K (.ref C_Turns) "__init__" = some (some (.ref f18))) (j18 : PySem.W.isFn K (.ref f18) = true)
    (l18 : K.lookup f18 = some ⟨oc18, od18, .func (PySem.W.fnOf "__init__" "Turns.__init__" (defArgs s_Turns_init) (defBody s_Turns_init) (defScope s_Turns_init) .none kV18 dc18 pm18 an18 cd18 ct18), sl18⟩)
    (c18 : PySem.W.codeIn K cd18 "Turns.__init__" = true) (k18 : PySem.W.keepIn K (.ref f18) = true)
    {od19 an19 : Option Addr} {sl19 : Array (Option Value)} {oc19 kV19 dc19 pm19 cd19 ct19 : Value}
    (a19 : PySem.W.nsIn K mainGlobals "taken_out" = some (some (.ref f19)))
    (l19 : K.lookup f19 = some ⟨oc19, od19, .func (PySem.W.fnOf "taken_out" "taken_out" (defArgs s_taken_out) (defBody s_taken_out) (defScope s_taken_out) .none kV19 dc19 pm19 an19 cd19 ct19), sl19⟩)
    (c19 : PySem.W.codeIn K cd19 "taken_out" = true) (k19 : PySem.W.keepIn K (.ref f19) = true)
    {od20 an20 : Option Addr} {sl20 : Array (Option Value)} {oc20 kV20 dc20 pm20 cd20 ct20 : Value}
    (a20 : PySem.W.nsIn K mainGlobals "shrunk" = some (some (.ref f20)))
    (l20 : K.lookup f20 = some ⟨oc20, od20, .func (PySem.W.fnOf "shrunk" "shrunk" (defArgs s_shrunk) (defBody s_shrunk) (defScope s_shrunk) .none kV20 dc20 pm20 an20 cd20 ct20), sl20⟩)
    (c20 : PySem.W.codeIn K cd20 "shrunk" = true) (k20 : PySem.W.keepIn K (.ref f20) = true)
    {od21 an21 : Option Addr} {sl21 : Array (Option Value)} {oc21 kV21 dc21 pm21 cd21 ct21 : Value}
    (a21 : PySem.W.nsIn K mainGlobals "_law_refused" = some (some (.ref f21)))
    (l21 : K.lookup f21 = some ⟨oc21, od21, .func (PySem.W.fnOf "_law_refused" "_law_refused" (defArgs s__law_refused) (defBody s__law_refused) (defScope s__law_refused) .none kV21 dc21 pm21 an21 cd21 ct21), sl21⟩)
    (c21 : PySem.W.codeIn K cd21 "_law_refused" = true) (k21 : PySem.W.keepIn K (.ref f21) = true)
    {od22 an22 : Option Addr} {sl22 : Array (Option Value)} {oc22 kV22 dc22 pm22 cd22 ct22 : Value}
    (a22 : PySem.W.nsIn K mainGlobals "_law_copy" = some (some (.ref f22)))
    (l22 : K.lookup f22 = some ⟨oc22, od22, .func (PySem.W.fnOf "_law_copy" "_law_copy" (defArgs s__law_copy) (defBody s__law_copy) (defScope s__law_copy) .none kV22 dc22 pm22 an22 cd22 ct22), sl22⟩)
    (c22 : PySem.W.codeIn K cd22 "_law_copy" = true) (k22 : PySem.W.keepIn K (.ref f22) = true)
    {od23 an23 : Option Addr} {sl23 : Array (Option Value)} {oc23 kV23 dc23 pm23 cd23 ct23 : Value}
    (a23 : PySem.W.nsIn K mainGlobals "_law_canon" = some (some (.ref f23)))
    (l23 : K.lookup f23 = some ⟨oc23, od23, .func (PySem.W.fnOf "_law_canon" "_law_canon" (defArgs s__law_canon) (defBody s__law_canon) (defScope s__law_canon) .none kV23 dc23 pm23 an23 cd23 ct23), sl23⟩)
    (c23 : PySem.W.codeIn K cd23 "_law_canon" = true) (k23 : PySem.W.keepIn K (.ref f23) = true)
    {od24 an24 : Option Addr} {sl24 : Array (Option Value)} {oc24 kV24 dc24 pm24 cd24 ct24 : Value}
    (a24 : PySem.W.nsIn K mainGlobals "law" = some (some (.ref f24)))
    (l24 : K.lookup f24 = some ⟨oc24, od24, .func (PySem.W.fnOf "law" "law" (defArgs s_law) (defBody s_law) (defScope s_law) .none kV24 dc24 pm24 an24 cd24 ct24), sl24⟩)
    (c24 : PySem.W.codeIn K cd24 "law" = true) (k24 : PySem.W.keepIn K (.ref f24) = true)
    (aC_Turns : PySem.W.nsIn K mainGlobals "Turns" = some (some (.ref C_Turns))) (c1_Turns : PySem.W.plainGet K C_Turns Str.empty = true) (c2_Turns : PySem.W.hasDictIn K C_Turns = true) (c3_Turns : PySem.W.plainOver K C_Turns = true) (c4_Turns : PySem.W.findIn K (.ref C_Turns) "__setattr__" = some (some (.builtin "object.__setattr__")))
    (c5_Turns : PySem.W.makesIn K C_Turns = true) (c6_Turns : PySem.W.keepIn K (.ref C_Turns) = true)
    (n_Turns_order : PySem.W.findIn K (.ref C_Turns) "order" = some none)
    (n_Turns_sizes : PySem.W.findIn K (.ref C_Turns) "sizes" = some none)
    (n_Turns_signs : PySem.W.findIn K (.ref C_Turns) "signs" = some none)
    (n_Turns_mates : PySem.W.findIn K (.ref C_Turns) "mates" = some none)
    (aX_Bridge : PySem.W.nsIn K mainGlobals "Bridge" = some (some (.ref X_Bridge))) (xb_Bridge : PySem.W.subIn K (.ref X_Bridge) (.type "BaseException") = some true) (xd_Bridge : PySem.W.hasDictIn K X_Bridge = true) (xt_Bridge : PySem.W.typeIn K (.ref X_Bridge) = some (.type "type"))
    (aX_Loop : PySem.W.nsIn K mainGlobals "Loop" = some (some (.ref X_Loop))) (xb_Loop : PySem.W.subIn K (.ref X_Loop) (.type "BaseException") = some true) (xd_Loop : PySem.W.hasDictIn K X_Loop = true) (xt_Loop : PySem.W.typeIn K (.ref X_Loop) = some (.type "type"))
    (aX_NoTie : PySem.W.nsIn K mainGlobals "NoTie" = some (some (.ref X_NoTie))) (xb_NoTie : PySem.W.subIn K (.ref X_NoTie) (.type "BaseException") = some true) (xd_NoTie : PySem.W.hasDictIn K X_NoTie = true) (xt_NoTie : PySem.W.typeIn K (.ref X_NoTie) = some (.type "type"))
    (xx_Bridge : PySem.W.excIn K X_Bridge [.type "ValueError", .type "Exception", .type "BaseException", .type "object"] "ValueError.__new__" = true) (xk_Bridge : PySem.W.keepIn K (.ref X_Bridge) = true)
    (xx_Loop : PySem.W.excIn K X_Loop [.type "ValueError", .type "Exception", .type "BaseException", .type "object"] "ValueError.__new__" = true) (xk_Loop : PySem.W.keepIn K (.ref X_Loop) = true)
    (xx_NoTie : PySem.W.excIn K X_NoTie [.type "ValueError", .type "Exception", .type "BaseException", .type "object"] "ValueError.__new__" = true) (xk_NoTie : PySem.W.keepIn K (.ref X_NoTie) = true)
    (e1_Bridge : PySem.W.findIn K (.ref X_Bridge) "__getattribute__" = some (some (.builtin "BaseException.__getattribute__"))) (e2_Bridge : PySem.W.findIn K (.ref X_Bridge) "__getattr__" = some none) (e3_Bridge : PySem.W.findIn K (.ref X_Bridge) "__class__" = some (some (.builtin "object.__class__"))) (e4_Bridge : PySem.W.mroIn K X_Bridge (.type "object") = some true) (e5_Bridge : PySem.W.subIn K (.ref X_Bridge) (.type "ValueError") = some true) (e6_Bridge : PySem.W.subIn K (.ref X_Bridge) (.ref X_Bridge) = some true)
    (u_Bridge_Bridge : PySem.W.subIn K (.ref X_Bridge) (.ref X_Bridge) = some true)
    (u_Bridge_Loop : PySem.W.subIn K (.ref X_Bridge) (.ref X_Loop) = some false)
    (e1_Loop : PySem.W.findIn K (.ref X_Loop) "__getattribute__" = some (some (.builtin "BaseException.__getattribute__"))) (e2_Loop : PySem.W.findIn K (.ref X_Loop) "__getattr__" = some none) (e3_Loop : PySem.W.findIn K (.ref X_Loop) "__class__" = some (some (.builtin "object.__class__"))) (e4_Loop : PySem.W.mroIn K X_Loop (.type "object") = some true) (e5_Loop : PySem.W.subIn K (.ref X_Loop) (.type "ValueError") = some true) (e6_Loop : PySem.W.subIn K (.ref X_Loop) (.ref X_Loop) = some true)
    (u_Loop_Bridge : PySem.W.subIn K (.ref X_Loop) (.ref X_Bridge) = some false)
    (u_Loop_Loop : PySem.W.subIn K (.ref X_Loop) (.ref X_Loop) = some true)
    (fx1 : PySem.W.specialIn K (.builtin "object.__class__") "__get__" = some (some (.builtin "getset_descriptor.__get__"))) (fx2 : PySem.W.takesIn K (.builtin "object.__class__") = some true)
    (z_enumerate : PySem.W.nsIn K mainGlobals "enumerate" = some none)
    (z_int : PySem.W.nsIn K mainGlobals "int" = some none)
    (z_len : PySem.W.nsIn K mainGlobals "len" = some none)
    (z_list : PySem.W.nsIn K mainGlobals "list" = some none)
    (z_max : PySem.W.nsIn K mainGlobals "max" = some none)
    (z_min : PySem.W.nsIn K mainGlobals "min" = some none)
    (z_range : PySem.W.nsIn K mainGlobals "range" = some none)
    (z_sorted : PySem.W.nsIn K mainGlobals "sorted" = some none)
    (z_str : PySem.W.nsIn K mainGlobals "str" = some none)
    : ∃ fd : FuncData, (∀ (s : Shared) (v : Value), BindsTo s fd ⟨[v], []⟩ [("_law_script", v)]) ∧ ∀ base : Heap, K.In base → base.Ns mainGlobals mg → FnOk l.prog w K mg base CX0 6 fa fd ["_law_script"] (sp_law (gb K)) := by
  have e := hfa.symm.trans (PySem.W.mg_of X G a24)
  cases e
  have eC_Turns : clOf K "Turns" = C_Turns := by unfold clOf; rw [aC_Turns]
  subst eC_Turns
  have eX_Bridge : clOf K "Bridge" = X_Bridge := by unfold clOf; rw [aX_Bridge]
  subst eX_Bridge
  have eX_Loop : clOf K "Loop" = X_Loop := by unfold clOf; rw [aX_Loop]
  subst eX_Loop
  have eX_NoTie : clOf K "NoTie" = X_NoTie := by unfold clOf; rw [aX_NoTie]
  subst eX_NoTie
  have EXF : ExF (gb K) XC XT := by
    refine ⟨fun c hc => ?_, fun c hc T hT => ?_, fun c hc => ?_, fun c hc T hT => ?_⟩
    · simp only [XC, List.mem_cons, List.not_mem_nil, or_false] at hc
      rcases hc with rfl | rfl
      · exact ⟨e1_Bridge, e2_Bridge, xb_Bridge, xd_Bridge, e3_Bridge, fx1, fx2, e4_Bridge⟩
      · exact ⟨e1_Loop, e2_Loop, xb_Loop, xd_Loop, e3_Loop, fx1, fx2, e4_Loop⟩
    · simp only [XC, List.mem_cons, List.not_mem_nil, or_false] at hc
      simp only [XT, List.mem_cons, List.not_mem_nil, or_false] at hT
      rcases hc with rfl | rfl
      · rcases hT with rfl | rfl
        · exact (kit_ref e6_Bridge xd_Bridge xt_Bridge u_Bridge_Bridge).trans (congrArg some (by decide +kernel))
        · exact (kit_ref e6_Bridge xd_Loop xt_Loop u_Bridge_Loop).trans (congrArg some (by decide +kernel))
      · rcases hT with rfl | rfl
        · exact (kit_ref e6_Loop xd_Bridge xt_Bridge u_Loop_Bridge).trans (congrArg some (by decide +kernel))
        · exact (kit_ref e6_Loop xd_Loop xt_Loop u_Loop_Loop).trans (congrArg some (by decide +kernel))
    · simp only [XC, List.mem_cons, List.not_mem_nil, or_false] at hc
      rcases hc with rfl | rfl
      · exact kit_vE e5_Bridge
      · exact kit_vE e5_Loop
    · simp only [XC, List.mem_cons, List.not_mem_nil, or_false] at hc
      simp only [XT, List.mem_cons, List.not_mem_nil, or_false] at hT
      rcases hc with rfl | rfl
      · rcases hT with rfl | rfl
        · exact (PySem.W.exm_ref xb_Bridge xd_Bridge xt_Bridge u_Bridge_Bridge).trans (congrArg some (by decide +kernel))
        · exact (PySem.W.exm_ref xb_Loop xd_Loop xt_Loop u_Bridge_Loop).trans (congrArg some (by decide +kernel))
      · rcases hT with rfl | rfl
        · exact (PySem.W.exm_ref xb_Bridge xd_Bridge xt_Bridge u_Loop_Bridge).trans (congrArg some (by decide +kernel))
        · exact (PySem.W.exm_ref xb_Loop xd_Loop xt_Loop u_Loop_Loop).trans (congrArg some (by decide +kernel))
  have F0 := fun_mk (st := s__law_cell_at) l0 c0 k0
  have b0 := F0.binds (ps := ["_law_script", "_law_k"]) fun _ _ _ _ _ _ => on_2 fun _ _ => rfl
  have F1 := fun_mk (st := s__law_names) l1 c1 k1
  have b1 := F1.binds (ps := ["_law_stem", "_law_many"]) fun _ _ _ _ _ _ => on_2 fun _ _ => rfl
  have F2 := fun_mk (st := s__law_other) l2 c2 k2
  have b2 := F2.binds (ps := ["_law_rows", "_law_seats_here", "_law_end"]) fun _ _ _ _ _ _ => on_3 fun _ _ _ => rfl
  have F3 := fun_mk (st := s__law_step) l3 c3 k3
  have b3 := F3.binds (ps := ["_law_rows", "_law_seats_here", "_law_end", "_law_turn"]) fun _ _ _ _ _ _ => on_4 fun _ _ _ _ => rfl
  have F4 := fun_mk (st := s__law_face) l4 c4 k4
  have b4 := F4.binds (ps := ["_law_rows", "_law_seats_here", "_law_end"]) fun _ _ _ _ _ _ => on_3 fun _ _ _ => rfl
  have F5 := fun_mk (st := s__law_seats) l5 c5 k5
  have b5 := F5.binds (ps := ["_law_rows"]) fun _ _ _ _ _ _ => on_1 fun _ => rfl
  have F6 := fun_mk (st := s__law_put) l6 c6 k6
  have b6 := F6.binds (ps := ["_law_rows", "_law_big_here", "_law_tie", "_law_point"]) fun _ _ _ _ _ _ => on_4 fun _ _ _ _ => rfl
  have F7 := fun_mk (st := s__law_net_by) l7 c7 k7
  have b7 := F7.binds (ps := ["_law_big_here", "_law_most", "_law_stem"]) fun _ _ _ _ _ _ => on_3 fun _ _ _ => rfl
  have F8 := fun_mk (st := s__law_big) l8 c8 k8
  have b8 := F8.binds (ps := ["_law_script", "_law_at"]) fun _ _ _ _ _ _ => on_2 fun _ _ => rfl
  have F9 := fun_mk (st := s__law_ties) l9 c9 k9
  have b9 := F9.binds (ps := ["_law_rows"]) fun _ _ _ _ _ _ => on_1 fun _ => rfl
  have F10 := fun_mk (st := s__law_other_net) l10 c10 k10
  have b10 := F10.binds (ps := ["_law_rows"]) fun _ _ _ _ _ _ => on_1 fun _ => rfl
  have F11 := fun_mk (st := s__law_hangs) l11 c11 k11
  have b11 := F11.binds (ps := ["_law_rows"]) fun _ _ _ _ _ _ => on_1 fun _ => rfl
  have F12 := fun_mk (st := s__law_out) l12 c12 k12
  have b12 := F12.binds (ps := ["_law_rows", "_law_tie"]) fun _ _ _ _ _ _ => on_2 fun _ _ => rfl
  have F13 := fun_mk (st := s__law_sort) l13 c13 k13
  have b13 := F13.binds (ps := ["_law_rows", "_law_tie"]) fun _ _ _ _ _ _ => on_2 fun _ _ => rfl
  have F14 := fun_mk (st := s_ties_of) l14 c14 k14
  have b14 := F14.binds (ps := ["rows"]) fun _ _ _ _ _ _ => on_1 fun _ => rfl
  have F15 := fun_mk (st := s_ask_known) l15 c15 k15
  have b15 := F15.binds (ps := ["rows", "tie"]) fun _ _ _ _ _ _ => on_2 fun _ _ => rfl
  have F16 := fun_mk (st := s_Turns_over) l16 c16 k16
  have b16 := F16.binds (ps := ["self", "end"]) fun _ _ _ _ _ _ => on_2 fun _ _ => rfl
  have F17 := fun_mk (st := s_reached) l17 c17 k17
  have b17 := F17.binds (ps := ["turns", "point"]) fun _ _ _ _ _ _ => on_2 fun _ _ => rfl
  have F18 := fun_mk (st := s_Turns_init) l18 c18 k18
  have b18 := F18.binds (ps := ["self", "rows"]) fun _ _ _ _ _ _ => on_2 fun _ _ => rfl
  have F19 := fun_mk (st := s_taken_out) l19 c19 k19
  have b19 := F19.binds (ps := ["rows", "tie"]) fun _ _ _ _ _ _ => on_2 fun _ _ => rfl
  have F20 := fun_mk (st := s_shrunk) l20 c20 k20
  have b20 := F20.binds (ps := ["rows", "tie"]) fun _ _ _ _ _ _ => on_2 fun _ _ => rfl
  have F21 := fun_mk (st := s__law_refused) l21 c21 k21
  have b21 := F21.binds (ps := ["_law_rows", "_law_tie", "_law_out_here"]) fun _ _ _ _ _ _ => on_3 fun _ _ _ => rfl
  have F22 := fun_mk (st := s__law_copy) l22 c22 k22
  have b22 := F22.binds (ps := ["_law_rows"]) fun _ _ _ _ _ _ => on_1 fun _ => rfl
  have F23 := fun_mk (st := s__law_canon) l23 c23 k23
  have b23 := F23.binds (ps := ["_law_rows"]) fun _ _ _ _ _ _ => on_1 fun _ => rfl
  have F24 := fun_mk (st := s_law) l24 c24 k24
  have b24 := F24.binds (ps := ["_law_script"]) fun _ _ _ _ _ _ => on_1 fun _ => rfl
  let av : Nat → Addr := fun i => [f0, f1, f2, f3, f4, f5, f6, f7, f8, f9, f10, f11, f12, f13, f14, f15, f16, f17, f18, f19, f20, f21, f22, f23, fa].getD i 0
  let dv : Nat → FuncData := fun i => [PySem.W.fnOf "_law_cell_at" "_law_cell_at" (defArgs s__law_cell_at) (defBody s__law_cell_at) (defScope s__law_cell_at) .none kV0 dc0 pm0 an0 cd0 ct0, PySem.W.fnOf "_law_names" "_law_names" (defArgs s__law_names) (defBody s__law_names) (defScope s__law_names) .none kV1 dc1 pm1 an1 cd1 ct1, PySem.W.fnOf "_law_other" "_law_other" (defArgs s__law_other) (defBody s__law_other) (defScope s__law_other) .none kV2 dc2 pm2 an2 cd2 ct2, PySem.W.fnOf "_law_step" "_law_step" (defArgs s__law_step) (defBody s__law_step) (defScope s__law_step) .none kV3 dc3 pm3 an3 cd3 ct3, PySem.W.fnOf "_law_face" "_law_face" (defArgs s__law_face) (defBody s__law_face) (defScope s__law_face) .none kV4 dc4 pm4 an4 cd4 ct4, PySem.W.fnOf "_law_seats" "_law_seats" (defArgs s__law_seats) (defBody s__law_seats) (defScope s__law_seats) .none kV5 dc5 pm5 an5 cd5 ct5, PySem.W.fnOf "_law_put" "_law_put" (defArgs s__law_put) (defBody s__law_put) (defScope s__law_put) .none kV6 dc6 pm6 an6 cd6 ct6, PySem.W.fnOf "_law_net_by" "_law_net_by" (defArgs s__law_net_by) (defBody s__law_net_by) (defScope s__law_net_by) .none kV7 dc7 pm7 an7 cd7 ct7, PySem.W.fnOf "_law_big" "_law_big" (defArgs s__law_big) (defBody s__law_big) (defScope s__law_big) .none kV8 dc8 pm8 an8 cd8 ct8, PySem.W.fnOf "_law_ties" "_law_ties" (defArgs s__law_ties) (defBody s__law_ties) (defScope s__law_ties) .none kV9 dc9 pm9 an9 cd9 ct9, PySem.W.fnOf "_law_other_net" "_law_other_net" (defArgs s__law_other_net) (defBody s__law_other_net) (defScope s__law_other_net) .none kV10 dc10 pm10 an10 cd10 ct10, PySem.W.fnOf "_law_hangs" "_law_hangs" (defArgs s__law_hangs) (defBody s__law_hangs) (defScope s__law_hangs) .none kV11 dc11 pm11 an11 cd11 ct11, PySem.W.fnOf "_law_out" "_law_out" (defArgs s__law_out) (defBody s__law_out) (defScope s__law_out) .none kV12 dc12 pm12 an12 cd12 ct12, PySem.W.fnOf "_law_sort" "_law_sort" (defArgs s__law_sort) (defBody s__law_sort) (defScope s__law_sort) .none kV13 dc13 pm13 an13 cd13 ct13, PySem.W.fnOf "ties_of" "ties_of" (defArgs s_ties_of) (defBody s_ties_of) (defScope s_ties_of) .none kV14 dc14 pm14 an14 cd14 ct14, PySem.W.fnOf "ask_known" "ask_known" (defArgs s_ask_known) (defBody s_ask_known) (defScope s_ask_known) .none kV15 dc15 pm15 an15 cd15 ct15, PySem.W.fnOf "over" "Turns.over" (defArgs s_Turns_over) (defBody s_Turns_over) (defScope s_Turns_over) .none kV16 dc16 pm16 an16 cd16 ct16, PySem.W.fnOf "reached" "reached" (defArgs s_reached) (defBody s_reached) (defScope s_reached) .none kV17 dc17 pm17 an17 cd17 ct17, PySem.W.fnOf "__init__" "Turns.__init__" (defArgs s_Turns_init) (defBody s_Turns_init) (defScope s_Turns_init) .none kV18 dc18 pm18 an18 cd18 ct18, PySem.W.fnOf "taken_out" "taken_out" (defArgs s_taken_out) (defBody s_taken_out) (defScope s_taken_out) .none kV19 dc19 pm19 an19 cd19 ct19, PySem.W.fnOf "shrunk" "shrunk" (defArgs s_shrunk) (defBody s_shrunk) (defScope s_shrunk) .none kV20 dc20 pm20 an20 cd20 ct20, PySem.W.fnOf "_law_refused" "_law_refused" (defArgs s__law_refused) (defBody s__law_refused) (defScope s__law_refused) .none kV21 dc21 pm21 an21 cd21 ct21, PySem.W.fnOf "_law_copy" "_law_copy" (defArgs s__law_copy) (defBody s__law_copy) (defScope s__law_copy) .none kV22 dc22 pm22 an22 cd22 ct22, PySem.W.fnOf "_law_canon" "_law_canon" (defArgs s__law_canon) (defBody s__law_canon) (defScope s__law_canon) .none kV23 dc23 pm23 an23 cd23 ct23, PySem.W.fnOf "law" "law" (defArgs s_law) (defBody s_law) (defScope s_law) .none kV24 dc24 pm24 an24 cd24 ct24].getD i (PySem.W.fnOf "law" "law" (defArgs s_law) (defBody s_law) (defScope s_law) .none kV24 dc24 pm24 an24 cd24 ct24)
  have T : Top K mg av dv := { f__law_cell_at := F0, b__law_cell_at := b0, g__law_cell_at := PySem.W.mg_of X G a0, f__law_names := F1, b__law_names := b1, g__law_names := PySem.W.mg_of X G a1, f__law_other := F2, b__law_other := b2, g__law_other := PySem.W.mg_of X G a2, f__law_step := F3, b__law_step := b3, g__law_step := PySem.W.mg_of X G a3, f__law_face := F4, b__law_face := b4, g__law_face := PySem.W.mg_of X G a4, f__law_seats := F5, b__law_seats := b5, g__law_seats := PySem.W.mg_of X G a5, f__law_put := F6, b__law_put := b6, g__law_put := PySem.W.mg_of X G a6, f__law_net_by := F7, b__law_net_by := b7, g__law_net_by := PySem.W.mg_of X G a7, f__law_big := F8, b__law_big := b8, g__law_big := PySem.W.mg_of X G a8, f__law_ties := F9, b__law_ties := b9, g__law_ties := PySem.W.mg_of X G a9, f__law_other_net := F10, b__law_other_net := b10, g__law_other_net := PySem.W.mg_of X G a10, f__law_hangs := F11, b__law_hangs := b11, g__law_hangs := PySem.W.mg_of X G a11, f__law_out := F12, b__law_out := b12, g__law_out := PySem.W.mg_of X G a12, f__law_sort := F13, b__law_sort := b13, g__law_sort := PySem.W.mg_of X G a13, f_ties_of := F14, b_ties_of := b14, g_ties_of := PySem.W.mg_of X G a14, f_ask_known := F15, b_ask_known := b15, g_ask_known := PySem.W.mg_of X G a15, f_Turns_over := F16, b_Turns_over := b16, me_Turns_over := ⟨i16, j16, k16⟩, f_reached := F17, b_reached := b17, g_reached := PySem.W.mg_of X G a17, f_Turns_init := F18, b_Turns_init := b18, mk_Turns := ⟨c5_Turns, i18, j18, c6_Turns⟩, f_taken_out := F19, b_taken_out := b19, g_taken_out := PySem.W.mg_of X G a19, f_shrunk := F20, b_shrunk := b20, g_shrunk := PySem.W.mg_of X G a20, f__law_refused := F21, b__law_refused := b21, g__law_refused := PySem.W.mg_of X G a21, f__law_copy := F22, b__law_copy := b22, g__law_copy := PySem.W.mg_of X G a22, f__law_canon := F23, b__law_canon := b23, g__law_canon := PySem.W.mg_of X G a23, f_law := F24, b_law := b24, g_law := PySem.W.mg_of X G a24, g_Turns := PySem.W.mg_of X G aC_Turns, cf_Turns := ⟨⟨c1_Turns, c2_Turns, c3_Turns, c4_Turns⟩, fun f hf => by simp only [Ins.ns, List.mem_cons, List.not_mem_nil, or_false] at hf; rcases hf with rfl | rfl | rfl | rfl <;> assumption⟩, g_Bridge := PySem.W.mg_of X G aX_Bridge, g_Loop := PySem.W.mg_of X G aX_Loop, g_NoTie := PySem.W.mg_of X G aX_NoTie, xx_Bridge := xx_Bridge, xk_Bridge := xk_Bridge, xb_Bridge := xb_Bridge, xt_Bridge := xt_Bridge, xx_Loop := xx_Loop, xk_Loop := xk_Loop, xb_Loop := xb_Loop, xt_Loop := xt_Loop, xx_NoTie := xx_NoTie, xk_NoTie := xk_NoTie, xb_NoTie := xb_NoTie, xt_NoTie := xt_NoTie, exf := EXF, m_enumerate := PySem.W.mg_none_of X G z_enumerate, m_int := PySem.W.mg_none_of X G z_int, m_len := PySem.W.mg_none_of X G z_len, m_list := PySem.W.mg_none_of X G z_list, m_max := PySem.W.mg_none_of X G z_max, m_min := PySem.W.mg_none_of X G z_min, m_range := PySem.W.mg_none_of X G z_range, m_sorted := PySem.W.mg_none_of X G z_sorted, m_str := PySem.W.mg_none_of X G z_str }
  exact ⟨dv 24, fun s v => .of_eq rfl, fun base _ _ => ok_law T⟩
end Tw
open PySem PySem.W PyProof.Rows
set_option maxHeartbeats 0 in
theorem PySem.Challenge.cw_threewebs_k75_whole_out_here_is_shrunk_t_holds : PySem.Challenge.rw_threewebs_k75_whole_out_here_is_shrunk_t.Holds := by
  w_on; o_law; k_head; (case hw => w_witness2)
  k_fill
  refine L2.walk_of (l := PySem.Challenge.rw_threewebs_k75_whole_out_here_is_shrunk_t) (n := 63) (k := 6) (x := "_law_script") (CX := fun _ => L2.CX0) (sp := fun w => Tw.sp_law (Tw.gb _)) rfl (by decide) rfl ⟨rfl, by decide, by decide⟩ (fun w h Y => PySem.W.kIn_of Y) ?F (fun _ _ a ns hl _ hS => Tw.spA_law hS (Tw.law_true ns hl) (fun _ => rfl)) (fun _ _ _ _ _ h => h)
  case F =>
    intro w mg fa h KX G hmg
    refine' Tw.all_mk KX G hmg ?a0 ?l0 ?c0 ?k0 ?a1 ?l1 ?c1 ?k1 ?a2 ?l2 ?c2 ?k2 ?a3 ?l3 ?c3 ?k3 ?a4 ?l4 ?c4 ?k4 ?a5 ?l5 ?c5 ?k5 ?a6 ?l6 ?c6 ?k6 ?a7 ?l7 ?c7 ?k7 ?a8 ?l8 ?c8 ?k8 ?a9 ?l9 ?c9 ?k9 ?a10 ?l10 ?c10 ?k10 ?a11 ?l11 ?c11 ?k11 ?a12 ?l12 ?c12 ?k12 ?a13 ?l13 ?c13 ?k13 ?a14 ?l14 ?c14 ?k14 ?a15 ?l15 ?c15 ?k15 ?i16 ?j16 ?l16 ?c16 ?k16 ?a17 ?l17 ?c17 ?k17 ?i18 ?j18 ?l18 ?c18 ?k18 ?a19 ?l19 ?c19 ?k19 ?a20 ?l20 ?c20 ?k20 ?a21 ?l21 ?c21 ?k21 ?a22 ?l22 ?c22 ?k22 ?a23 ?l23 ?c23 ?k23 ?a24 ?l24 ?c24 ?k24 ?aC_Turns ?c1_Turns ?c2_Turns ?c3_Turns ?c4_Turns ?c5_Turns ?c6_Turns ?n_Turns_order ?n_Turns_sizes ?n_Turns_signs ?n_Turns_mates ?aX_Bridge ?xb_Bridge ?xd_Bridge ?xt_Bridge ?aX_Loop ?xb_Loop ?xd_Loop ?xt_Loop ?aX_NoTie ?xb_NoTie ?xd_NoTie ?xt_NoTie ?xx_Bridge ?xk_Bridge ?xx_Loop ?xk_Loop ?xx_NoTie ?xk_NoTie ?e1_Bridge ?e2_Bridge ?e3_Bridge ?e4_Bridge ?e5_Bridge ?e6_Bridge ?u_Bridge_Bridge ?u_Bridge_Loop ?e1_Loop ?e2_Loop ?e3_Loop ?e4_Loop ?e5_Loop ?e6_Loop ?u_Loop_Bridge ?u_Loop_Loop ?fx1 ?fx2 ?z_enumerate ?z_int ?z_len ?z_list ?z_max ?z_min ?z_range ?z_sorted ?z_str
    (case aX_Bridge => k_is); (case aX_Loop => k_is); (case aX_NoTie => k_is); (case aC_Turns => k_is); (case c1_Turns => k_is); (case c2_Turns => k_is); (case c3_Turns => k_is); (case c4_Turns => k_is); (case c5_Turns => k_is); (case c6_Turns => k_is); (case a0 => k_is); (case l0 => k_is); (case c0 => k_is); (case k0 => k_is); (case a1 => k_is); (case l1 => k_is); (case c1 => k_is); (case k1 => k_is); (case a2 => k_is); (case l2 => k_is); (case c2 => k_is); (case k2 => k_is); (case a3 => k_is); (case l3 => k_is); (case c3 => k_is); (case k3 => k_is); (case a4 => k_is); (case l4 => k_is); (case c4 => k_is); (case k4 => k_is); (case a5 => k_is); (case l5 => k_is); (case c5 => k_is); (case k5 => k_is); (case a6 => k_is); (case l6 => k_is); (case c6 => k_is); (case k6 => k_is); (case a7 => k_is); (case l7 => k_is); (case c7 => k_is); (case k7 => k_is); (case a8 => k_is); (case l8 => k_is); (case c8 => k_is); (case k8 => k_is); (case a9 => k_is); (case l9 => k_is); (case c9 => k_is); (case k9 => k_is); (case a10 => k_is); (case l10 => k_is); (case c10 => k_is); (case k10 => k_is); (case a11 => k_is); (case l11 => k_is); (case c11 => k_is); (case k11 => k_is); (case a12 => k_is); (case l12 => k_is); (case c12 => k_is); (case k12 => k_is); (case a13 => k_is); (case l13 => k_is); (case c13 => k_is); (case k13 => k_is); (case a14 => k_is); (case l14 => k_is); (case c14 => k_is); (case k14 => k_is); (case a15 => k_is); (case l15 => k_is); (case c15 => k_is); (case k15 => k_is); (case i16 => k_is); (case j16 => k_is); (case l16 => k_is); (case c16 => k_is); (case k16 => k_is); (case a17 => k_is); (case l17 => k_is); (case c17 => k_is); (case k17 => k_is); (case i18 => k_is); (case j18 => k_is); (case l18 => k_is); (case c18 => k_is); (case k18 => k_is); (case a19 => k_is); (case l19 => k_is); (case c19 => k_is); (case k19 => k_is); (case a20 => k_is); (case l20 => k_is); (case c20 => k_is); (case k20 => k_is); (case a21 => k_is); (case l21 => k_is); (case c21 => k_is); (case k21 => k_is); (case a22 => k_is); (case l22 => k_is); (case c22 => k_is); (case k22 => k_is); (case a23 => k_is); (case l23 => k_is); (case c23 => k_is); (case k23 => k_is); (case a24 => k_is); (case l24 => k_is); (case c24 => k_is); (case k24 => k_is); (case n_Turns_order => k_is); (case n_Turns_sizes => k_is); (case n_Turns_signs => k_is); (case n_Turns_mates => k_is); (case xb_Bridge => k_is); (case xd_Bridge => k_is); (case xt_Bridge => k_is); (case xb_Loop => k_is); (case xd_Loop => k_is); (case xt_Loop => k_is); (case xb_NoTie => k_is); (case xd_NoTie => k_is); (case xt_NoTie => k_is); (case xx_Bridge => k_exc); (case xk_Bridge => k_is); (case xx_Loop => k_exc); (case xk_Loop => k_is); (case xx_NoTie => k_exc); (case xk_NoTie => k_is); (case e1_Bridge => k_is); (case e2_Bridge => k_is); (case e3_Bridge => k_is); (case e4_Bridge => k_is); (case e5_Bridge => k_is); (case e6_Bridge => k_is); (case u_Bridge_Bridge => k_is); (case u_Bridge_Loop => k_is); (case e1_Loop => k_is); (case e2_Loop => k_is); (case e3_Loop => k_is); (case e4_Loop => k_is); (case e5_Loop => k_is); (case e6_Loop => k_is); (case u_Loop_Bridge => k_is); (case u_Loop_Loop => k_is); (case fx1 => k_is); (case fx2 => k_is); (case z_enumerate => k_is); (case z_int => k_is); (case z_len => k_is); (case z_list => k_is); (case z_max => k_is); (case z_min => k_is); (case z_range => k_is); (case z_sorted => k_is); (case z_str => k_is)
