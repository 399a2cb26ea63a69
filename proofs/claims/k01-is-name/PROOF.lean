import PyProof.Rows.All
import Wide.All
import OpenK.AllK
import Wide.FinOn
import HandS.ForMost
import HandS.More
import HandS.Wide
import HandS.IsInst
import HandS.Style
import HandS.Deep
import PyProof.StrBlock2
import PySem.Challenge.RW_threewebs_k01_is_name
set_option Elab.async false
set_option linter.all false
set_option maxRecDepth 100000
set_option maxHeartbeats 4000000
namespace Tw
open PySem PySem.Spec L2
open PyProof.Rows hiding St

/-! ### readings by name -/
abbrev qAdd : R2 := rI0 fun i j => .int (i + j)
abbrev qSub : R2 := rI0 fun i j => .int (i - j)
abbrev qMul : R2 := rI CMulW fun i j => .int (i * j)
abbrev qDiv : R2 := rI CDivW fun i j => .int (i / j)
def CPos (_ j : Int) : Prop := 0 < j
theorem cpos {i j : Int} (h : 0 < j) : CPos i j := h
abbrev qMod : R2 := rI CPos fun i j => .int (i % j)
abbrev qPow : R2 := rI CPow fun i j => .int (i ^ j.toNat)
abbrev qShl : R2 := rI CPow fun i j => .int (i * 2 ^ j.toNat)
def CNN (_ j : Int) : Prop := 0 ≤ j
theorem cnn {i j : Int} (h : 0 ≤ j) : CNN i j := h
abbrev qShr : R2 := rI CNN fun i j => .int (i / 2 ^ j.toNat)
abbrev qAnd : R2 := rI0 fun i j => .int (Builtin.bitAnd i j)
abbrev qOr : R2 := rI0 fun i j => .int (Builtin.bitOr i j)
abbrev qXor : R2 := rI0 fun i j => .int (Builtin.bitXor i j)
abbrev qNeg : V → Hp → VK → Prop := rU fun i => .int (-i)
abbrev qLt : R2 := rI0 fun i j => .bl (decide (i < j))
abbrev qLe : R2 := rI0 fun i j => .bl (decide (i ≤ j))
abbrev qGt : R2 := rI0 fun i j => .bl (decide (j < i))
abbrev qGe : R2 := rI0 fun i j => .bl (decide (j ≤ i))
abbrev qCatS : R2 := fun x y H Q => ∃ i j, x = .str i ∧ y = .str j ∧ i.length + j.length ≤ sizeLine ∧ Q (.str (i ++ j)) H
abbrev qRepS : R2 := fun x y H Q => ∃ z n, x = .str z ∧ y = .int n ∧ MulOk z n ∧ Q (.str (Txt.mul z n)) H
abbrev qInSign : R2 := fun x y H Q => ∃ (c : Nat) (z : Str), x = .str ⟨#[c]⟩ ∧ y = .str z ∧ Q (.bl (decide (c ∈ z.cps.toList))) H
abbrev qNotInSign : R2 := fun x y H Q => ∃ (c : Nat) (z : Str), x = .str ⟨#[c]⟩ ∧ y = .str z ∧ Q (.bl (!decide (c ∈ z.cps.toList))) H
abbrev qIsN : R2 := fun x y H Q => y = .non ∧ Q (.bl (decide (x = .non))) H
abbrev qNotN : R2 := fun x y H Q => y = .non ∧ Q (.bl (!decide (x = .non))) H
abbrev qLenS : List V → Hp → VK → Prop := fun xs H Q => ∃ z, xs = [.str z] ∧ z.length ≤ sizeLine ∧ Q (.int z.length) H
abbrev qLenQ (K : PySem.W.Frag) : List V → Hp → VK → Prop := fun xs H Q => ∃ p ys, xs = [.ref p] ∧ (SqL K H p ys ∨ SqT K H p ys) ∧ Q (.int ys.length) H
abbrev qLenD : List V → Hp → VK → Prop := fun xs H Q => ∃ a kvs, xs = [V.ref a] ∧ H a = some (.dK kvs) ∧ Q (.int kvs.length) H
abbrev qInt1 : List V → Hp → VK → Prop := fun xs H Q => (∃ i, xs = [.int i] ∧ Q (.int i) H) ∨ ∃ k, xs = [.bl k] ∧ Q (.int (if k then 1 else 0)) H
abbrev qIntS : List V → Hp → VK → Prop := fun xs H Q => ∃ a n, xs = [.str a] ∧ PySem.intText? a = some n ∧ a.length ≤ 640 ∧ Q (.int n) H
abbrev qMax2 : List V → Hp → VK → Prop := fun xs H Q => ∃ i j, xs = [.int i, .int j] ∧ Q (.int (if j > i then j else i)) H
abbrev qMin2 : List V → Hp → VK → Prop := fun xs H Q => ∃ i j, xs = [.int i, .int j] ∧ Q (.int (if j < i then j else i)) H
abbrev qStrI : List V → Hp → VK → Prop := fun xs H Q => ∃ i, xs = [.int i] ∧ i.natAbs.log2 < 1920 ∧ Q (.str (toString i)) H
abbrev qListOf (K : PySem.W.Frag) : List V → Hp → VK → Prop := fun xs H Q => ∃ p ys, xs = [.ref p] ∧ (SqL K H p ys ∨ SqT K H p ys) ∧ ∀ l, H l = none → Q (.ref l) (upd H l (.lst ys))
abbrev qSplit : V → List V → Hp → VK → Prop := fun x xs H Q => ∃ a b, x = .str a ∧ xs = [.str b] ∧ (b.length == 0) = false ∧ a.length + 2 ≤ sizeLine ∧ rNewStrs (Txt.split a b) H Q

section
variable {X : Cx}
theorem op_rep_str : OpR X (binaryOp .Mult) qRepS := by
  intro pins s σ H x y v u Q I rx ry h
  obtain ⟨z, n, rfl, rfl, hz, q⟩ := h
  obtain ⟨t, rfl⟩ := rx
  obtain ⟨t', rfl⟩ := ry
  exact SB.mul hz (fun t' k => ⟨.str (Txt.mul z n), H, I.tok _, ⟨_, rfl⟩, q⟩)
theorem hu65 {A : Around} {k : Nat} (hr : Room (k + 1) A) : A.units + 65 < cLine := by
  have := hr.un
  omega
end
end Tw

set_option Elab.async false
set_option linter.all false
set_option maxRecDepth 100000
set_option maxHeartbeats 4000000
namespace Tw
open PySem PySem.Spec L2
open PyProof.Rows hiding St

theorem start_of {N : List Str} {vs : List V} : start N vs = vs.map some ++ List.replicate (N.length - vs.length) none := rfl
/-- where a def ends -/
abbrev dEnd (Q : VK) : Ends := { nx := fun _ H' => Q .non H', rt := Q }
theorem same_upd {H : Hp} {p : Addr} {o : HO} (h : H p = none) : Same H (upd H p o) := fun b x e => by
  rw [upd_ne (ne_of_none e h)]
  exact e
theorem ite_tt {A B : Prop} (h : A) : if true = true then A else B := iteT h
theorem ite_ff {A B : Prop} (h : B) : if false = true then A else B := iteF h
theorem ite_dec {c : Prop} [Decidable c] {A B : Prop} (h1 : c → A) (h2 : ¬ c → B) : if decide c = true then A else B := by
  by_cases h : c
  · rw [if_pos (decide_eq_true h)]
    exact h1 h
  · rw [if_neg (by rw [decide_eq_false h]; exact Bool.false_ne_true)]
    exact h2 h
theorem ite_ndec {c : Prop} [Decidable c] {A B : Prop} (h1 : ¬ c → A) (h2 : c → B) : if (!decide c) = true then A else B := by
  by_cases h : c
  · rw [decide_eq_true h]
    exact iteF (h2 h)
  · rw [decide_eq_false h]
    exact iteT (h1 h)
theorem ite_b {b : Bool} {A B : Prop} (h1 : b = true → A) (h2 : b = false → B) : if b = true then A else B := by
  cases b with
  | true => exact iteT (h1 rfl)
  | false => exact iteF (h2 rfl)

/-! ### for over a text -/
theorem for_str {x : Str} {g : TG} {tb : TS} {D : Ends} {σ : St} {H : Hp} (Pv : Nat → St → Hp → Prop) (h0 : Pv 0 σ H)
    (hs : ∀ i c σ H, x.cps.toList[i]? = some c → Pv i σ H → g (.str ⟨#[c]⟩) σ H fun σ2 H2 => tb { D with nx := Pv (i + 1), ct := Pv (i + 1), bk := D.nx } σ2 H2) (hd : ∀ σ H, Pv x.cps.toList.length σ H → D.nx σ H) :
    ∃ W : Nat → Nat → St → Hp → Prop, (∃ m, W 0 m σ H) ∧ ∀ i m σ H, W i m σ H →
      ((Its x).stop i H ∧ D.nx σ H) ∨ ((Its x).go i H ∧ ∃ N : St → Hp → Prop, (∀ σ' H', N σ' H' → ∃ m', m' < m ∧ W (i + 1) m' σ' H') ∧ ∀ v H', (Its x).yld i H v H' → g v σ H' fun σ2 H2 => tb { D with nx := N, ct := N, bk := D.nx } σ2 H2) := by
  have el : x.cps.toList.length = x.cps.size := by simp
  refine ⟨fun i m σ H => m = x.cps.size - i ∧ i ≤ x.cps.size ∧ Pv i σ H, ⟨x.cps.size, by simp, Nat.zero_le _, h0⟩, ?_⟩
  rintro i m σ H ⟨rfl, hi, p⟩
  by_cases hlt : i < x.cps.size
  · refine .inr ⟨hlt, Pv (i + 1), fun σ' H' p' => ⟨x.cps.size - (i + 1), by omega, rfl, hlt, p'⟩, fun v H' y => ?_⟩
    obtain ⟨e, c, ec, ev⟩ := y
    subst e ev
    exact hs i c σ _ (by simpa using ec) p
  · have e : i = x.cps.size := by omega
    subst e
    exact .inl ⟨Nat.le_refl _, hd σ H (by rw [el]; exact p)⟩

/-! ### the script's cells -/
def cell (ns : List Int) (j : Nat) : Int := ns.getD j 0
def sp__law_cell_at (K : PySem.W.Frag) : Sp := fun vs H Q _ => ∃ (l : Addr) (ns : List Int) (j : Nat), vs = [.ref l, .int (j : Int)] ∧ SqL K H l (ns.map V.int) ∧ Q (.int (cell ns j)) H
theorem len__law_cell_at {K : PySem.W.Frag} (vs : List V) (H : Hp) (Q : VK) (E : XK) (h : sp__law_cell_at K vs H Q E) : vs.length = 2 := by
  obtain ⟨l, ns, j, rfl, _⟩ := h
  rfl
/-! readings of _law_cell_at; slots 0:_law_script 1:_law_k -/
def t__law_cell_at_0a_0 (K : PySem.W.Frag) : TS := (tRet (tOp (rIxL K) (tVar 0) (tVar 1)))
def t__law_cell_at_1 (K : PySem.W.Frag) : TS := (tRet (tC (.int 0)))
def t__law_cell_at_0 (K : PySem.W.Frag) : TS := (tSeq (tIfS (tTest (tOp qLt (tVar 1) (tCB (qLenQ K) (tCons (tVar 0) tNil))))
  (t__law_cell_at_0a_0 K)
  tNext) (t__law_cell_at_1 K))
abbrev n__law_cell_at : List Str := ["_law_script", "_law_k"]
theorem run__law_cell_at {K : PySem.W.Frag} {vs : List V} {H : Hp} {Q : VK} {E : XK} (h : sp__law_cell_at K vs H Q E) : t__law_cell_at_0 K (dEnd Q) (start n__law_cell_at vs) H := by
  obtain ⟨l, ns, j, rfl, hs, q⟩ := h
  refine ⟨_, rfl, _, rfl, l, _, rfl, .inl hs, _, _, rfl, rfl, _, rfl, ite_dec (fun e => ?_) fun e => ?_⟩
  · rw [List.length_map] at e
    have hj : j < ns.length := by omega
    have g : (ns.map V.int)[j]? = some (.int (cell ns j)) := by
      rw [List.getElem?_map, List.getElem?_eq_getElem hj]
      show some (V.int ns[j]) = some (V.int (ns.getD j 0))
      rw [List.getD_eq_getElem?_getD, List.getElem?_eq_getElem hj]
      rfl
    exact ⟨_, rfl, _, rfl, l, _, _, _, rfl, rfl, hs, atI_nat g, q⟩
  · rw [List.length_map] at e
    have e2 : cell ns j = 0 := by
      show ns.getD j 0 = 0
      rw [List.getD_eq_getElem?_getD, List.getElem?_eq_none (by omega)]
      rfl
    rw [e2] at q
    exact q

/-! ### a great number of the script -/
def sp__law_big (K : PySem.W.Frag) : Sp := fun vs H Q _ => ∃ (l : Addr) (ns : List Int) (j : Nat), vs = [.ref l, .int (j : Int)] ∧ SqL K H l (ns.map V.int) ∧ ∀ (b : Int) (H' : Hp), 0 ≤ b → Same H H' → Q (.int b) H'
theorem len__law_big {K : PySem.W.Frag} (vs : List V) (H : Hp) (Q : VK) (E : XK) (h : sp__law_big K vs H Q E) : vs.length = 2 := by
  obtain ⟨l, ns, j, rfl, _⟩ := h
  rfl
/-! readings of _law_big; slots 0:_law_script 1:_law_at 2:_law_by 3:_law_prime 4:_law_cell 5:_law_big_here 6:_law_k 7:_law_one -/
def t__law_big_3a_0 (K : PySem.W.Frag) : TS := (tRet (tOp qDiv (tVar 4) (tC (.int 2))))
def t__law_big_5b_1 (K : PySem.W.Frag) : TS := (tAsg (tOp qAdd (tOp qMul (tVar 5) (tC (.int 7919))) (tOp qMod (tOp qMod (tOp qMul (tVar 7) (tOp (rIxT K) (tVar 2) (tOp qMod (tVar 6) (tC (.int 8))))) (tOp (rIxT K) (tVar 3) (tOp qMod (tVar 6) (tC (.int 8))))) (tC (.int 7919)))) (gName 5))
def t__law_big_5b_0 (K : PySem.W.Frag) : TS := (tSeq (tAsg (tOp qAdd (tOp qAdd (tOp qMod (tCall (sp__law_cell_at K) [] E0 (tCons (tVar 0) (tCons (tOp qAdd (tVar 1) (tOp qMod (tVar 6) (tC (.int 9)))) tNil))) (tOp qPow (tC (.int 10)) (tC (.int 18)))) (tC (.int 1))) (tOp qMul (tVar 6) (tVar 6))) (gName 7)) (t__law_big_5b_1 K))
def t__law_big_6 (K : PySem.W.Frag) : TS := (tRet (tVar 5))
def t__law_big_5 (K : PySem.W.Frag) : TS := (tSeq (tFor (iRng1 (tCons (tC (.int 60)) tNil)) (gName 6)
  (t__law_big_5b_0 K)) (t__law_big_6 K))
def t__law_big_4 (K : PySem.W.Frag) : TS := (tSeq (tAsg (tC (.int 0)) (gName 5)) (t__law_big_5 K))
def t__law_big_3 (K : PySem.W.Frag) : TS := (tSeq (tIfS (tAnd (tTest (tOp rEq (tOp qMod (tVar 4) (tC (.int 2))) (tC (.int 0)))) (tTest (tOp qGt (tVar 4) (tOp qPow (tC (.int 10)) (tC (.int 20))))))
  (t__law_big_3a_0 K)
  tNext) (t__law_big_4 K))
def t__law_big_2 (K : PySem.W.Frag) : TS := (tSeq (tAsg (tCall (sp__law_cell_at K) [] E0 (tCons (tVar 0) (tCons (tVar 1) tNil))) (gName 4)) (t__law_big_3 K))
def t__law_big_1 (K : PySem.W.Frag) : TS := (tSeq (tAsg (tTup (tCons (tC (.int 99991)) (tCons (tC (.int 99989)) (tCons (tC (.int 99971)) (tCons (tC (.int 99961)) (tCons (tC (.int 99929)) (tCons (tC (.int 99923)) (tCons (tC (.int 99907)) (tCons (tC (.int 99901)) tNil))))))))) (gName 3)) (t__law_big_2 K))
def t__law_big_0 (K : PySem.W.Frag) : TS := (tSeq (tAsg (tTup (tCons (tC (.int 48271)) (tCons (tC (.int 69621)) (tCons (tC (.int 16807)) (tCons (tC (.int 39373)) (tCons (tC (.int 21401)) (tCons (tC (.int 60493)) (tCons (tC (.int 87721)) (tCons (tC (.int 31337)) tNil))))))))) (gName 2)) (t__law_big_1 K))
abbrev n__law_big : List Str := ["_law_script", "_law_at", "_law_by", "_law_prime", "_law_cell", "_law_big_here", "_law_k", "_law_one"]
def byL : List Int := [48271, 69621, 16807, 39373, 21401, 60493, 87721, 31337]
def primeL : List Int := [99991, 99989, 99971, 99961, 99929, 99923, 99907, 99901]
theorem lt8 {k : Nat} (h : k < 8) : k = 0 ∨ k = 1 ∨ k = 2 ∨ k = 3 ∨ k = 4 ∨ k = 5 ∨ k = 6 ∨ k = 7 := by omega
theorem at8 (xs : List Int) (h : xs.length = 8) (hp : ∀ x ∈ xs, 0 < x ∧ x < 100000) (k : Nat) : ∃ x : Int, atI (xs.map V.int) (((k : Int)) % 8) = some (.int x) ∧ 0 < x ∧ x < 100000 := by
  have e : ((k : Int) % 8) = ((k % 8 : Nat) : Int) := by omega
  have hk : k % 8 < xs.length := by omega
  refine ⟨xs[k % 8], ?_, hp _ (List.getElem_mem hk)⟩
  rw [e]
  refine atI_nat ?_
  rw [List.getElem?_map, List.getElem?_eq_getElem hk]
  rfl
theorem cell18 (ns : List Int) (k i : Nat) (hi : i < 60) : 0 ≤ cell ns k % 10 ^ ((18 : Int).toNat) + 1 + (i : Int) * (i : Int) ∧ cell ns k % 10 ^ ((18 : Int).toNat) + 1 + (i : Int) * (i : Int) < 2 ^ 61 := by
  have m0 := Int.emod_nonneg (cell ns k) (show (10 : Int) ^ ((18 : Int).toNat) ≠ 0 by decide)
  have m1 := Int.emod_lt_of_pos (cell ns k) (show (0 : Int) < 10 ^ ((18 : Int).toNat) by decide)
  have e10 : (10 : Int) ^ ((18 : Int).toNat) = 1000000000000000000 := by decide
  rw [e10] at m0 m1
  have h3 : (i : Int) * (i : Int) ≤ 60 * 60 := Int.mul_le_mul (by omega) (by omega) (by omega) (by omega)
  have h4 : 0 ≤ (i : Int) * (i : Int) := Int.mul_nonneg (by omega) (by omega)
  rw [e10]
  omega
theorem big_turn {K : PySem.W.Frag} {D : Ends} {H2 : Hp} {l p1 p2 : Addr} {j : Int} {i : Nat} {c0 b c : Int} (g1 : SqT K H2 p1 (byL.map V.int)) (g2 : SqT K H2 p2 (primeL.map V.int)) (hi : i < 60) (hb0 : 0 ≤ b) (hb : b.natAbs < 2 ^ (13 * i + 1)) (c1 : 0 ≤ c ∧ c < 2 ^ 61)
    (q : ∀ b', 0 ≤ b' → b'.natAbs < 2 ^ (13 * (i + 1) + 1) → D.nx [some (.ref l), some (.int j), some (.ref p1), some (.ref p2), some (.int c0), some (.int b'), some (.int (i : Int)), some (.int c)] H2) :
    t__law_big_5b_1 K D [some (.ref l), some (.int j), some (.ref p1), some (.ref p2), some (.int c0), some (.int b), some (.int (i : Int)), some (.int c)] H2 := by
  obtain ⟨x1, a1, l1, u1⟩ := at8 byL rfl (by decide) i
  obtain ⟨x2, a2, l2, u2⟩ := at8 primeL rfl (by decide) i
  refine ⟨_, rfl, _, _, rfl, rfl, ?_, _, rfl, _, rfl, _, rfl, _, _, rfl, rfl, cpos (by decide), p1, _, _, _, rfl, rfl, g1, a1, _, _, rfl, rfl, ?_, _, rfl, _, rfl, _, _, rfl, rfl, cpos (by decide), p2, _, _, _, rfl, rfl, g2, a2, _, _, rfl, rfl, cpos l2, _, _, rfl, rfl, cpos (by decide), _, _, rfl, rfl, q _ ?_ ?_⟩
  · exact wide_mul (a := 13 * i + 1) (b := 13) hb (by decide) (by omega) (by decide) (by omega)
  · exact wide_mul (a := 61) (b := 17) (by omega) (by omega) (by decide) (by decide) (by decide)
  · have m0 := Int.emod_nonneg (c * x1 % x2) (show (7919 : Int) ≠ 0 by decide)
    omega
  · have m0 := Int.emod_nonneg (c * x1 % x2) (show (7919 : Int) ≠ 0 by decide)
    have m1 := Int.emod_lt_of_pos (c * x1 % x2) (show (0 : Int) < 7919 by decide)
    have e : 2 ^ (13 * (i + 1) + 1) = 2 ^ (13 * i + 1) * 8192 := by
      rw [show 13 * (i + 1) + 1 = (13 * i + 1) + 13 by omega, Nat.pow_add]
    rw [e]
    omega
theorem big_loop {K : PySem.W.Frag} {H H2 : Hp} {Q : VK} {l p1 p2 : Addr} {ns : List Int} {j : Nat} {c0 : Int} (s3 : Same H H2) (hs2 : SqL K H2 l (ns.map V.int)) (g1 : SqT K H2 p1 (byL.map V.int)) (g2 : SqT K H2 p2 (primeL.map V.int))
    (q : ∀ (b : Int) (H' : Hp), 0 ≤ b → Same H H' → Q (.int b) H') : t__law_big_4 K (dEnd Q) [some (.ref l), some (.int (j : Int)), some (.ref p1), some (.ref p2), some (.int c0), none, none, none] H2 := by
  refine ⟨60, rfl, by decide, by decide, for_range (lo := 0) (n := 60) (fun i σ H' => H' = H2 ∧ ∃ (b : Int) (y1 y2 : Option V), σ = [some (.ref l), some (.int (j : Int)), some (.ref p1), some (.ref p2), some (.int c0), some (.int b), y1, y2] ∧ 0 ≤ b ∧ b.natAbs < 2 ^ (13 * i + 1)) ?_ ?_ ?_⟩
  · exact ⟨rfl, 0, none, none, rfl, by decide, by decide⟩
  · rintro i σ H' hi ⟨rfl, b, y1, y2, rfl, hb0, hb⟩
    have ei : (0 : Int) + (i : Int) = (i : Int) := by omega
    have ej : (j : Int) + (i : Int) % 9 = ((j + i % 9 : Nat) : Int) := by omega
    rw [ei]
    refine ⟨_, rfl, _, rfl, _, rfl, _, _, rfl, rfl, cpos (by decide), _, _, rfl, rfl, l, ns, j + i % 9, congrArg (fun z => [V.ref l, V.int z]) ej, hs2, ?_⟩
    refine ⟨_, _, rfl, rfl, ⟨by decide, by decide, by decide⟩, _, _, rfl, rfl, cpos (by decide), _, _, rfl, rfl, _, rfl, _, rfl, _, _, rfl, rfl, ?_, _, _, rfl, rfl, ?_⟩
    · exact wide_mul (a := 6) (b := 6) (by omega) (by omega) (by decide) (by decide) (by decide)
    · exact big_turn g1 g2 hi hb0 hb (cell18 ns _ i hi) fun b' h0 h1 => ⟨rfl, b', _, _, rfl, h0, h1⟩
  · rintro σ H' ⟨rfl, b, y1, y2, rfl, hb0, hb⟩
    exact ⟨_, rfl, q b _ hb0 s3⟩
theorem big_tail {K : PySem.W.Frag} {H H2 : Hp} {Q : VK} {l p1 p2 : Addr} {ns : List Int} {j : Nat} (s3 : Same H H2) (hs : SqL K H l (ns.map V.int)) (g1 : SqT K H2 p1 (byL.map V.int)) (g2 : SqT K H2 p2 (primeL.map V.int))
    (q : ∀ (b : Int) (H' : Hp), 0 ≤ b → Same H H' → Q (.int b) H') : t__law_big_2 K (dEnd Q) [some (.ref l), some (.int (j : Int)), some (.ref p1), some (.ref p2), none, none, none, none] H2 := by
  have hs2 := s3.seq hs
  refine ⟨_, rfl, _, rfl, l, ns, j, rfl, hs2, ?_⟩
  refine ⟨_, rfl, _, _, rfl, rfl, cpos (by decide), rfl, _, rfl, ite_dec (fun e => ?_) fun e => iteF (big_loop s3 hs2 g1 g2 q)⟩
  refine ⟨_, rfl, _, _, rfl, rfl, ⟨by decide, by decide, by decide⟩, _, _, rfl, rfl, _, rfl, ite_dec (fun e => ?_) fun e => big_loop s3 hs2 g1 g2 q⟩
  refine ⟨_, rfl, _, _, rfl, rfl, ⟨by decide, by decide⟩, q _ _ ?_ s3⟩
  have e10 : (10 : Int) ^ ((20 : Int).toNat) = 100000000000000000000 := by decide
  rw [e10] at e
  omega
theorem run__law_big {K : PySem.W.Frag} {vs : List V} {H : Hp} {Q : VK} {E : XK} (h : sp__law_big K vs H Q E) : t__law_big_0 K (dEnd Q) (start n__law_big vs) H := by
  obtain ⟨l, ns, j, rfl, hs, q⟩ := h
  refine ⟨by decide, fun p1 n1 => ⟨by decide, fun p2 n2 => ?_⟩⟩
  have s1 : Same H (upd H p1 (.tup (byL.map V.int))) := same_upd n1
  have s2 : Same (upd H p1 (.tup (byL.map V.int))) (upd (upd H p1 (.tup (byL.map V.int))) p2 (.tup (primeL.map V.int))) := same_upd n2
  exact big_tail (s1.trans s2) hs (.inl (.inl (s2 _ _ upd_same))) (.inl (.inl upd_same)) q
end Tw

set_option Elab.async false
set_option linter.all false
set_option maxRecDepth 100000
set_option maxHeartbeats 4000000
namespace Tw
open PySem PySem.Spec L2
open PyProof.Rows hiding St

/-! ### names -/
def SG : List Nat := (Str.ofString "abcdefghijklmnopqrstuvwxyz0123456789").cps.toList
def isNm (z : Str) : Bool := decide (z.length ≠ 0 ∧ z.length ≤ 8) && z.cps.toList.all (fun c => decide (c ∈ SG))
theorem str_len (z : Str) : z.length = z.cps.toList.length := by simp [Str.length]
theorem str_len_app (a b : Str) : (a ++ b).length = a.length + b.length := by
  show (a.cps ++ b.cps).size = a.cps.size + b.cps.size
  simp
theorem str_empty {z : Str} : z = Str.ofString "" ↔ z.length = 0 := by
  have e : Str.ofString "" = ⟨#[]⟩ := by decide +kernel
  rw [e]
  constructor
  · intro h
    rw [h]
    rfl
  · intro h
    obtain ⟨a⟩ := z
    have : a.size = 0 := h
    rw [show a = #[] by simpa using this]
theorem take_snoc_all {P : Nat → Prop} {xs : List Nat} {i c : Nat} (h : xs[i]? = some c) (hp : ∀ x ∈ xs.take i, P x) (hc : P c) : ∀ x ∈ xs.take (i + 1), P x := by
  intro x hx
  rw [List.take_add_one, h] at hx
  rcases List.mem_append.mp hx with q | q
  · exact hp x q
  · have : x = c := by simpa using q
    rw [this]
    exact hc
theorem small_line {n : Nat} (h : n ≤ 100000) : n ≤ sizeLine := Nat.le_trans h (by decide)
def sp_is_name (K : PySem.W.Frag) : Sp := fun vs H Q _ => ∃ x, vs = [x] ∧ ((∃ z, x = .str z ∧ z.length ≤ sizeLine ∧ Q (.bl (isNm z)) H) ∨ ((∃ t, TyX K H x t ∧ PySem.W.kitOne K t (.type "str") = some false) ∧ Q (.bl false) H))
theorem len_is_name {K : PySem.W.Frag} (vs : List V) (H : Hp) (Q : VK) (E : XK) (h : sp_is_name K vs H Q E) : vs.length = 1 := by
  obtain ⟨x, rfl, _⟩ := h
  rfl
/-! readings of is_name; slots 0:thing 1:sign -/
def t_is_name_0a_0 (K : PySem.W.Frag) : TS := (tRet (tC (.bl false)))
def t_is_name_1b_0a_0 (K : PySem.W.Frag) : TS := (tRet (tC (.bl false)))
def t_is_name_1b_0 (K : PySem.W.Frag) : TS := (tIfS (tTest (tOp qNotInSign (tVar 1) (tC (.str "abcdefghijklmnopqrstuvwxyz0123456789"))))
  (t_is_name_1b_0a_0 K)
  tNext)
def t_is_name_2 (K : PySem.W.Frag) : TS := (tRet (tC (.bl true)))
def t_is_name_1 (K : PySem.W.Frag) : TS := (tSeq (tFor (iStr (tVar 0)) (gName 1)
  (t_is_name_1b_0 K)) (t_is_name_2 K))
def t_is_name_0 (K : PySem.W.Frag) : TS := (tSeq (tIfS (tOr (tNot (tB (tCB (rIsi K) (tCons (tVar 0) (tCons (tC (.ty "str")) tNil))))) (tOr (tTest (tOp rEq (tVar 0) (tC (.str "")))) (tTest (tOp qGt (tCB qLenS (tCons (tVar 0) tNil)) (tC (.int 8))))))
  (t_is_name_0a_0 K)
  tNext) (t_is_name_1 K))
abbrev n_is_name : List Str := ["thing", "sign"]
theorem name_loop {K : PySem.W.Frag} {H : Hp} {Q : VK} {z : Str} {y : Option V} (h0 : z.length ≠ 0 ∧ z.length ≤ 8) (q : Q (.bl (isNm z)) H) : t_is_name_1 K (dEnd Q) [some (.str z), y] H := by
  refine ⟨_, rfl, z, rfl, for_str (fun i σ H' => H' = H ∧ (∃ y, σ = [some (.str z), y]) ∧ ∀ c ∈ z.cps.toList.take i, c ∈ SG) ⟨rfl, ⟨_, rfl⟩, by simp⟩ ?_ ?_⟩
  · rintro i c σ H' hc ⟨rfl, ⟨y, rfl⟩, hp⟩
    refine ⟨_, rfl, c, _, rfl, rfl, _, rfl, ite_ndec (fun e => ?_) fun e => ?_⟩
    · have ne : isNm z = false := by
        unfold isNm
        rw [Bool.and_eq_false_iff]
        refine .inr ?_
        rw [List.all_eq_false]
        exact ⟨c, List.mem_of_getElem? hc, by rw [decide_eq_false (show ¬ c ∈ SG from e)]; exact Bool.false_ne_true⟩
      rw [ne] at q
      exact q
    · exact ⟨rfl, ⟨_, rfl⟩, take_snoc_all hc hp e⟩
  · rintro σ H' ⟨rfl, ⟨y, rfl⟩, hp⟩
    have ye : isNm z = true := by
      unfold isNm
      rw [Bool.and_eq_true]
      refine ⟨decide_eq_true h0, ?_⟩
      rw [List.all_eq_true]
      intro c hc
      refine decide_eq_true (hp c ?_)
      rw [List.take_length]
      exact hc
    rw [ye] at q
    exact q
theorem run_is_name {K : PySem.W.Frag} {vs : List V} {H : Hp} {Q : VK} {E : XK} (h : sp_is_name K vs H Q E) : t_is_name_0 K (dEnd Q) (start n_is_name vs) H := by
  obtain ⟨x, rfl, h⟩ := h
  rcases h with ⟨z, rfl, hz, q⟩ | ⟨⟨t, ht, hk⟩, q⟩
  · refine ⟨_, rfl, _, _, _, _, true, rfl, .ty _, .base (.str z), kit_ty (by decide +kernel), true, rfl, iteF ?_⟩
    refine ⟨_, rfl, rfl, _, rfl, ?_⟩
    have hs : (V.str z = V.str (Str.ofString "")) ↔ z.length = 0 := by
      rw [← str_empty]
      constructor
      · intro e
        exact V.str.inj e
      · intro e
        rw [e]
    refine ite_dec (fun e => ?_) fun e => ?_
    · have ne : isNm z = false := by
        unfold isNm
        rw [decide_eq_false (fun w => w.1 (hs.mp e))]
        rfl
      rw [ne] at q
      exact q
    · refine ⟨_, rfl, z, rfl, hz, _, _, rfl, rfl, _, rfl, ite_dec (fun e2 => ?_) fun e2 => ?_⟩
      · have ne : isNm z = false := by
          unfold isNm
          rw [decide_eq_false (fun w => absurd w.2 (by omega))]
          rfl
        rw [ne] at q
        exact q
      · exact name_loop ⟨fun w => e (hs.mpr w), by omega⟩ q
  · exact ⟨_, rfl, _, _, _, _, false, rfl, .ty _, ht, hk, false, rfl, iteT q⟩
end Tw

set_option Elab.async false
set_option linter.all false
set_option maxRecDepth 100000
set_option maxHeartbeats 4000000
namespace Tw
open PySem PySem.Spec L2
open PyProof.Rows hiding St

/-! ### the law's own answer -/
def SG2 : List Nat := (Str.ofString "0123456789abcdefghijklmnopqrstuvwxyz").cps.toList
theorem sg_iff (c : Nat) : c ∈ SG2 ↔ c ∈ SG := by
  have h1 : ∀ c ∈ SG2, c ∈ SG := by decide +kernel
  have h2 : ∀ c ∈ SG, c ∈ SG2 := by decide +kernel
  exact ⟨h1 c, h2 c⟩
def sp__law_due (K : PySem.W.Frag) : Sp := fun vs H Q _ => ∃ z, vs = [.str z] ∧ z.length ≤ sizeLine ∧ Q (.bl (isNm z)) H
theorem len__law_due {K : PySem.W.Frag} (vs : List V) (H : Hp) (Q : VK) (E : XK) (h : sp__law_due K vs H Q E) : vs.length = 1 := by
  obtain ⟨x, rfl, _⟩ := h
  rfl
/-! readings of _law_due; slots 0:_law_text 1:_law_sign -/
def t__law_due_0b_0a_0 (K : PySem.W.Frag) : TS := (tRet (tC (.bl false)))
def t__law_due_0b_0 (K : PySem.W.Frag) : TS := (tIfS (tTest (tOp qNotInSign (tVar 1) (tC (.str "0123456789abcdefghijklmnopqrstuvwxyz"))))
  (t__law_due_0b_0a_0 K)
  tNext)
def t__law_due_1 (K : PySem.W.Frag) : TS := (tRet (tChain qLt qLt (tC (.int 0)) (tCB qLenS (tCons (tVar 0) tNil)) (tC (.int 9))))
def t__law_due_0 (K : PySem.W.Frag) : TS := (tSeq (tFor (iStr (tVar 0)) (gName 1)
  (t__law_due_0b_0 K)) (t__law_due_1 K))
abbrev n__law_due : List Str := ["_law_text", "_law_sign"]
theorem run__law_due {K : PySem.W.Frag} {vs : List V} {H : Hp} {Q : VK} {E : XK} (h : sp__law_due K vs H Q E) : t__law_due_0 K (dEnd Q) (start n__law_due vs) H := by
  obtain ⟨z, rfl, hz, q⟩ := h
  refine ⟨_, rfl, z, rfl, for_str (fun i σ H' => H' = H ∧ (∃ y, σ = [some (.str z), y]) ∧ ∀ c ∈ z.cps.toList.take i, c ∈ SG) ⟨rfl, ⟨_, rfl⟩, by simp⟩ ?_ ?_⟩
  · rintro i c σ H' hc ⟨rfl, ⟨y, rfl⟩, hp⟩
    refine ⟨_, rfl, c, _, rfl, rfl, _, rfl, ite_ndec (fun e => ?_) fun e => ?_⟩
    · have ne : isNm z = false := by
        unfold isNm
        rw [Bool.and_eq_false_iff]
        refine .inr ?_
        rw [List.all_eq_false]
        exact ⟨c, List.mem_of_getElem? hc, by rw [decide_eq_false (show ¬ c ∈ SG from fun w => e ((sg_iff c).mpr w))]; exact Bool.false_ne_true⟩
      rw [ne] at q
      exact q
    · exact ⟨rfl, ⟨_, rfl⟩, take_snoc_all hc hp ((sg_iff c).mp e)⟩
  · rintro σ H' ⟨rfl, ⟨y, rfl⟩, hp⟩
    have ye : isNm z = decide (z.length ≠ 0 ∧ z.length ≤ 8) := by
      unfold isNm
      have : (z.cps.toList.all fun c => decide (c ∈ SG)) = true := by
        rw [List.all_eq_true]
        intro c hc
        refine decide_eq_true (hp c ?_)
        rw [List.take_length]
        exact hc
      rw [this, Bool.and_true]
    rw [ye] at q
    refine ⟨_, rfl, z, rfl, hz, _, _, rfl, rfl, _, rfl, ite_dec (fun e => ?_) fun e => ?_⟩
    · refine ⟨_, _, rfl, rfl, ?_⟩
      have e2 : decide ((z.length : Int) < 9) = decide (z.length ≠ 0 ∧ z.length ≤ 8) := by
        by_cases w : z.length ≤ 8
        · rw [decide_eq_true (show (z.length : Int) < 9 by omega), decide_eq_true (show z.length ≠ 0 ∧ z.length ≤ 8 by omega)]
        · rw [decide_eq_false (show ¬ (z.length : Int) < 9 by omega), decide_eq_false (fun (v : z.length ≠ 0 ∧ z.length ≤ 8) => w v.2)]
      show Q (V.bl (decide ((z.length : Int) < 9))) H'
      rw [e2]
      exact q
    · rw [decide_eq_false (fun (v : z.length ≠ 0 ∧ z.length ≤ 8) => by omega)] at q
      exact q

/-! ### the text of a great number -/
def sp__law_text_of (K : PySem.W.Frag) : Sp := fun vs H Q _ => ∃ b, vs = [.int b] ∧ ∀ z : Str, z.length ≤ 30 → Q (.str z) H
theorem len__law_text_of {K : PySem.W.Frag} (vs : List V) (H : Hp) (Q : VK) (E : XK) (h : sp__law_text_of K vs H Q E) : vs.length = 1 := by
  obtain ⟨x, rfl, _⟩ := h
  rfl
/-! readings of _law_text_of; slots 0:_law_big_here 1:_law_some 2:_law_size 3:_law_spoilt 4:_law_text 5:_law_k 6:_law_spot -/
def t__law_text_of_6b_1 (K : PySem.W.Frag) : TS := (tAsg (tOp qDiv (tVar 0) (tC (.int 36))) (gName 0))
def t__law_text_of_6b_0 (K : PySem.W.Frag) : TS := (tSeq (tAsg (tOp qCatS (tVar 4) (tOp rIxS (tC (.str "abcdefghijklmnopqrstuvwxyz0123456789")) (tOp qMod (tVar 0) (tC (.int 36))))) (gName 4)) (t__law_text_of_6b_1 K))
def t__law_text_of_7a_1 (K : PySem.W.Frag) : TS := (tAsg (tOp qCatS (tOp qCatS (tSl rSlS (tVar 4) tNoPart (tPart (tVar 6))) (tOp rIxS (tVar 1) (tOp qMod (tOp qDiv (tVar 0) (tVar 2)) (tC (.int 94))))) (tSl rSlS (tVar 4) (tPart (tOp qAdd (tVar 6) (tC (.int 1)))) tNoPart)) (gName 4))
def t__law_text_of_7a_0 (K : PySem.W.Frag) : TS := (tSeq (tAsg (tOp qMod (tVar 0) (tVar 2)) (gName 6)) (t__law_text_of_7a_1 K))
def t__law_text_of_8 (K : PySem.W.Frag) : TS := (tRet (tVar 4))
def t__law_text_of_7 (K : PySem.W.Frag) : TS := (tSeq (tIfS (tAnd (tTest (tOp rEq (tVar 3) (tC (.int 1)))) (tTest (tOp qGt (tVar 2) (tC (.int 0)))))
  (t__law_text_of_7a_0 K)
  tNext) (t__law_text_of_8 K))
def t__law_text_of_6 (K : PySem.W.Frag) : TS := (tSeq (tFor (iRng1 (tCons (tVar 2) tNil)) (gName 5)
  (t__law_text_of_6b_0 K)) (t__law_text_of_7 K))
def t__law_text_of_5 (K : PySem.W.Frag) : TS := (tSeq (tAsg (tC (.str "")) (gName 4)) (t__law_text_of_6 K))
def t__law_text_of_4 (K : PySem.W.Frag) : TS := (tSeq (tAsg (tOp qDiv (tVar 0) (tC (.int 22))) (gName 0)) (t__law_text_of_5 K))
def t__law_text_of_3 (K : PySem.W.Frag) : TS := (tSeq (tAsg (tOp qMod (tOp qDiv (tVar 0) (tC (.int 11))) (tC (.int 2))) (gName 3)) (t__law_text_of_4 K))
def t__law_text_of_2 (K : PySem.W.Frag) : TS := (tSeq (tAsg (tOp qMod (tVar 0) (tC (.int 11))) (gName 2)) (t__law_text_of_3 K))
def t__law_text_of_1 (K : PySem.W.Frag) : TS := (tSeq (tAsg (tOp qCatS (tVar 1) (tC (.str "abcdefghijklmnopqrstuvwxyz{|}~"))) (gName 1)) (t__law_text_of_2 K))
def t__law_text_of_0 (K : PySem.W.Frag) : TS := (tSeq (tAsg (tC (.str " !\"#$&'()*+,-./0123456789:;<=>?@ABCDEFGHIJKLMNOPQRSTUVWXYZ[\\]^_`")) (gName 1)) (t__law_text_of_1 K))
abbrev n__law_text_of : List Str := ["_law_big_here", "_law_some", "_law_size", "_law_spoilt", "_law_text", "_law_k", "_law_spot"]
theorem at_mod {zs : List Nat} {n : Nat} (h : zs.length = n) (hn : 0 < n) (b : Int) : ∃ c, atI zs (b % (n : Int)) = some c := by
  have h0 := Int.emod_nonneg b (show (n : Int) ≠ 0 by omega)
  have h1 := Int.emod_lt_of_pos b (show (0 : Int) < (n : Int) by omega)
  have hk : (b % (n : Int)).toNat < zs.length := by omega
  refine ⟨zs[(b % (n : Int)).toNat], ?_⟩
  have := atI_nat (List.getElem?_eq_getElem hk)
  rw [show (((b % (n : Int)).toNat : Nat) : Int) = b % (n : Int) by omega] at this
  exact this
theorem run__law_text_of {K : PySem.W.Frag} {vs : List V} {H : Hp} {Q : VK} {E : XK} (h : sp__law_text_of K vs H Q E) : t__law_text_of_0 K (dEnd Q) (start n__law_text_of vs) H := by
  obtain ⟨b, rfl, q⟩ := h
  refine ⟨_, rfl, _, _, rfl, rfl, by decide +kernel, ?_⟩
  refine ⟨_, rfl, _, _, rfl, rfl, cpos (by decide), ?_⟩
  refine ⟨_, rfl, _, _, rfl, rfl, ⟨by decide, by decide⟩, _, _, rfl, rfl, cpos (by decide), ?_⟩
  refine ⟨_, rfl, _, _, rfl, rfl, ⟨by decide, by decide⟩, ?_⟩
  have m0 := Int.emod_nonneg b (show (11 : Int) ≠ 0 by decide)
  have m1 := Int.emod_lt_of_pos b (show (0 : Int) < 11 by decide)
  obtain ⟨some2, es⟩ : ∃ s2 : Str, s2 = Str.ofString " !\"#$&'()*+,-./0123456789:;<=>?@ABCDEFGHIJKLMNOPQRSTUVWXYZ[\\]^_`" ++ Str.ofString "abcdefghijklmnopqrstuvwxyz{|}~" := ⟨_, rfl⟩
  have el : some2.cps.toList.length = 94 := by
    rw [es]
    decide +kernel
  refine ⟨_, rfl, b % 11, rfl, by omega, by omega, for_range (lo := 0) (n := (b % 11).toNat) (fun i σ H' => H' = H ∧ ∃ (b' : Int) (z : Str) (y5 y6 : Option V), σ = [some (.int b'), some (.str some2), some (.int (b % 11)), some (.int (b / 11 % 2)), some (.str z), y5, y6] ∧ z.length = i) ?_ ?_ ?_⟩
  · exact ⟨rfl, _, _, _, _, by rw [es]; rfl, by decide +kernel⟩
  · rintro i σ H' hi ⟨rfl, b', z, y5, y6, rfl, hz⟩
    obtain ⟨c, hc⟩ := at_mod (zs := (Str.ofString "abcdefghijklmnopqrstuvwxyz0123456789").cps.toList) (n := 36) (by decide +kernel) (by decide) b'
    refine ⟨_, rfl, _, rfl, _, _, rfl, rfl, cpos (by decide), _, _, c, rfl, rfl, by decide +kernel, hc, _, _, rfl, rfl, ?_, ?_⟩
    · show z.length + 1 ≤ sizeLine
      exact small_line (by omega)
    refine ⟨_, rfl, _, _, rfl, rfl, ⟨by decide, by decide⟩, rfl, _, _, _, _, rfl, ?_⟩
    rw [str_len_app, hz]
    rfl
  · rintro σ H' ⟨rfl, b', z, y5, y6, rfl, hz⟩
    refine ⟨_, rfl, rfl, _, rfl, ite_dec (fun e => ?_) fun e => iteF ⟨_, rfl, q z (by omega)⟩⟩
    refine ⟨_, rfl, _, _, rfl, rfl, _, rfl, ite_dec (fun e2 => ?_) fun e2 => ⟨_, rfl, q z (by omega)⟩⟩
    have hz2 : z.length ≤ sizeLine := small_line (by omega)
    obtain ⟨c, hc⟩ := at_mod el (by decide) (b' / (b % 11))
    refine ⟨_, rfl, _, rfl, _, _, rfl, rfl, cpos e2, ?_⟩
    have l1 := cutS_length z none (some (b' % (b % 11)))
    have l2 := cutS_length z (some (b' % (b % 11) + 1)) none
    refine ⟨_, rfl, _, rfl, _, rfl, z, rfl, hz2, _, rfl, _, rfl, _, rfl, _, _, rfl, rfl, ⟨e2, ?_⟩, _, _, rfl, rfl, cpos (by decide), some2, _, c, rfl, rfl, ?_, hc, _, _, rfl, rfl, ?_, _, rfl, _, rfl, _, _, rfl, rfl, _, rfl, z, rfl, hz2, _, _, rfl, rfl, ?_, _, rfl, q _ ?_⟩
    · have : (b % 11).natAbs < 2 ^ 4 := by omega
      exact Nat.lt_of_lt_of_le (PySem.Flt.log2_lt_of (by decide) this) (by decide)
    · rw [str_len, el]
      exact small_line (by decide)
    · show (cutS z none (some (b' % (b % 11)))).length + 1 ≤ sizeLine
      exact small_line (by omega)
    · rw [str_len_app]
      show (cutS z none (some (b' % (b % 11)))).length + 1 + (cutS z (some (b' % (b % 11) + 1)) none).length ≤ sizeLine
      exact small_line (by omega)
    · rw [str_len_app, str_len_app]
      show (cutS z none (some (b' % (b % 11)))).length + 1 + (cutS z (some (b' % (b % 11) + 1)) none).length ≤ 30
      omega

/-! ### the law -/
def sp_law (K : PySem.W.Frag) : Sp := fun vs H Q _ => ∃ (a : Addr) (ns : List Int), vs = [.ref a] ∧ SqL K H a (ns.map V.int) ∧ ns.length ≤ 63 ∧ ∀ H', Q (.bl true) H'
theorem len_law {K : PySem.W.Frag} (vs : List V) (H : Hp) (Q : VK) (E : XK) (h : sp_law K vs H Q E) : vs.length = 1 := by
  obtain ⟨x, ns, rfl, _⟩ := h
  rfl
theorem foldl_size (l : List (Array Nat)) (m : Nat) (h : ∀ a ∈ l, a.size = m) : ∀ s : Array Nat, (l.foldl (· ++ ·) s).size = s.size + l.length * m := by
  induction l with
  | nil => intro s; simp
  | cons a r ih =>
    intro s
    rw [List.foldl_cons, ih (fun b hb => h b (List.mem_cons_of_mem _ hb)), Array.size_append, h a (List.mem_cons_self)]
    rw [List.length_cons, Nat.add_mul]
    omega
theorem mul_len (z : Str) (n : Int) (hz : z.length ≤ 30) (hn : 1 ≤ n ∧ n ≤ 100) : (Txt.mul z n).length ≤ 3000 := by
  unfold Txt.mul
  rw [if_neg (by omega)]
  split
  · omega
  · show (List.foldl (· ++ ·) #[] (List.replicate n.toNat z.cps)).size ≤ 3000
    rw [foldl_size _ z.length (fun a ha => by rw [(List.mem_replicate.mp ha).2]; rfl), List.length_replicate]
    have h1 : n.toNat ≤ 100 := by omega
    have h2 : n.toNat * z.length ≤ 100 * 30 := Nat.mul_le_mul h1 hz
    show 0 + n.toNat * z.length ≤ 3000
    omega
theorem mul_ok (z : Str) (n : Int) (hz : z.length ≤ 30) (hn : 1 ≤ n ∧ n ≤ 100) : MulOk z n := by
  refine ⟨?_, fun _ _ => ?_, fun _ _ => ?_⟩
  · rw [decide_eq_false (by omega), decide_eq_false (by omega)]
    rfl
  · have : (30 : Int) ≤ (2 ^ 63 - 1) / n := by
      rw [Int.le_ediv_iff_mul_le (by omega)]
      omega
    omega
  · have h1 : n.toNat ≤ 100 := by omega
    have h2 : z.length * n.toNat ≤ 30 * 100 := Nat.mul_le_mul hz h1
    show decide (_ > _) = false
    refine decide_eq_false ?_
    have : (3000 : Nat) ≤ sizeLine := by decide
    omega
/-! readings of law; slots 0:_law_script 1:_law_big_here 2:_law_text 3:_law_first 4:_law_rest 5:_law_thing 6:_law_longer 7:_law_again -/
def t_law_4b_0a_0 (K : PySem.W.Frag) : TS := (tRet (tC (.bl false)))
def t_law_4b_0 (K : PySem.W.Frag) : TS := (tIfS (tTest (tOp rNotB (tCall (sp_is_name K) [] E0 (tCons (tVar 5) tNil)) (tC (.bl false))))
  (t_law_4b_0a_0 K)
  tNext)
def t_law_6a_0 (K : PySem.W.Frag) : TS := (tRet (tC (.bl false)))
def t_law_8a_0 (K : PySem.W.Frag) : TS := (tRet (tC (.bl false)))
def t_law_9 (K : PySem.W.Frag) : TS := (tRet (tAndV (tOp rEq (tVar 3) (tCall (sp__law_due K) [] E0 (tCons (tVar 2) tNil))) (tAndV (tOp rEq (tVar 4) (tCall (sp__law_due K) [] E0 (tCons (tSl rSlS (tVar 2) (tPart (tC (.int 1))) tNoPart) tNil))) (tOp rEq (tVar 7) (tVar 3)))))
def t_law_8 (K : PySem.W.Frag) : TS := (tSeq (tIfS (tOr (tNot (tB (tCB (rIsi K) (tCons (tVar 3) (tCons (tC (.ty "bool")) tNil))))) (tOr (tNot (tB (tCB (rIsi K) (tCons (tVar 4) (tCons (tC (.ty "bool")) tNil))))) (tNot (tB (tCB (rIsi K) (tCons (tVar 7) (tCons (tC (.ty "bool")) tNil)))))))
  (t_law_8a_0 K)
  tNext) (t_law_9 K))
def t_law_7 (K : PySem.W.Frag) : TS := (tSeq (tAsg (tCall (sp_is_name K) [] E0 (tCons (tVar 2) tNil)) (gName 7)) (t_law_8 K))
def t_law_6 (K : PySem.W.Frag) : TS := (tSeq (tIfS (tOr (tTest (tOp rNe (tCall (sp_is_name K) [] E0 (tCons (tVar 6) tNil)) (tCall (sp__law_due K) [] E0 (tCons (tVar 6) tNil)))) (tNot (tB (tCB (rIsi K) (tCons (tCall (sp_is_name K) [] E0 (tCons (tVar 6) tNil)) (tCons (tC (.ty "bool")) tNil))))))
  (t_law_6a_0 K)
  tNext) (t_law_7 K))
def t_law_5 (K : PySem.W.Frag) : TS := (tSeq (tAsg (tOp qRepS (tVar 2) (tOp qAdd (tC (.int 2)) (tOp qMod (tOp qDiv (tVar 1) (tC (.int 5))) (tC (.int 39))))) (gName 6)) (t_law_6 K))
def t_law_4 (K : PySem.W.Frag) : TS := (tSeq (tFor (iTup K (tTup (tCons (tC .non) (tCons (tC (.bl true)) (tCons (tC (.bl false)) (tCons (tLst (tCons (tC (.str "a")) tNil)) (tCons (tTup (tCons (tC (.str "a")) (tCons (tC (.str "b")) tNil))) (tCons (tLst tNil) (tCons (tTup tNil) (tCons (tOp qMod (tVar 1) (tOp qPow (tC (.int 10)) (tC (.int 60)))) tNil)))))))))) (gName 5)
  (t_law_4b_0 K)) (t_law_5 K))
def t_law_3 (K : PySem.W.Frag) : TS := (tSeq (tAsg (tCall (sp_is_name K) [] E0 (tCons (tSl rSlS (tVar 2) (tPart (tC (.int 1))) tNoPart) tNil)) (gName 4)) (t_law_4 K))
def t_law_2 (K : PySem.W.Frag) : TS := (tSeq (tAsg (tCall (sp_is_name K) [] E0 (tCons (tVar 2) tNil)) (gName 3)) (t_law_3 K))
def t_law_1 (K : PySem.W.Frag) : TS := (tSeq (tAsg (tCall (sp__law_text_of K) [] E0 (tCons (tVar 1) tNil)) (gName 2)) (t_law_2 K))
def t_law_0 (K : PySem.W.Frag) : TS := (tSeq (tAsg (tCall (sp__law_big K) [] E0 (tCons (tVar 0) (tCons (tC (.int 0)) tNil))) (gName 1)) (t_law_1 K))
abbrev n_law : List Str := ["_law_script", "_law_big_here", "_law_text", "_law_first", "_law_rest", "_law_thing", "_law_longer", "_law_again"]
theorem kbb {K : PySem.W.Frag} : PySem.W.kitOne K (.type "bool") (.type "bool") = some true := kit_ty (by decide +kernel)
theorem law_tail {K : PySem.W.Frag} {H : Hp} {Q : VK} {a : Addr} {b : Int} {z : Str} {y5 : Option V} (hz : z.length ≤ 30) (q : ∀ H', Q (.bl true) H') :
    t_law_5 K (dEnd Q) [some (.ref a), some (.int b), some (.str z), some (.bl (isNm z)), some (.bl (isNm (cutS z (some 1) none))), y5, none, none] H := by
  have hz2 : z.length ≤ sizeLine := small_line (by omega)
  have hc2 : (cutS z (some 1) none).length ≤ sizeLine := small_line (Nat.le_trans (cutS_length z _ _) (by omega))
  have m0 := Int.emod_nonneg (b / 5) (show (39 : Int) ≠ 0 by decide)
  have m1 := Int.emod_lt_of_pos (b / 5) (show (0 : Int) < 39 by decide)
  have hl := mul_len z (2 + b / 5 % 39) hz (by omega)
  have hl2 : (Txt.mul z (2 + b / 5 % 39)).length ≤ sizeLine := small_line (by omega)
  refine ⟨_, rfl, _, rfl, _, _, rfl, rfl, ⟨by decide, by decide⟩, _, _, rfl, rfl, cpos (by decide), _, _, rfl, rfl, z, _, rfl, rfl, mul_ok z _ hz (by omega), ?_⟩
  refine ⟨_, rfl, _, rfl, .inl ⟨_, rfl, hl2, _, rfl, _, rfl, hl2, rfl, _, rfl, ite_ndec (fun e => absurd rfl e) fun _ => ?_⟩⟩
  refine ⟨_, rfl, _, rfl, .inl ⟨_, rfl, hl2, _, _, _, _, true, rfl, .ty _, .base (.bl _), kbb, true, rfl, iteF ?_⟩⟩
  refine ⟨_, rfl, _, rfl, .inl ⟨z, rfl, hz2, ?_⟩⟩
  refine ⟨_, rfl, _, _, _, _, true, rfl, .ty _, .base (.bl _), kbb, true, rfl, iteF ⟨_, rfl, _, _, _, _, true, rfl, .ty _, .base (.bl _), kbb, true, rfl, iteF ⟨_, rfl, _, _, _, _, true, rfl, .ty _, .base (.bl _), kbb, true, rfl, iteF ?_⟩⟩⟩
  refine ⟨_, rfl, _, rfl, z, rfl, hz2, rfl, _, rfl, ?_⟩
  refine ite_dec (fun _ => ?_) fun e => absurd rfl e
  refine ⟨_, rfl, _, rfl, _, rfl, z, rfl, hz2, _, rfl, hc2, rfl, _, rfl, ?_⟩
  refine ite_dec (fun _ => ?_) fun e => absurd rfl e
  refine ⟨_, rfl, _, rfl, rfl, ?_⟩
  show Q (V.bl (decide (V.bl (isNm z) = V.bl (isNm z)))) _
  rw [decide_eq_true rfl]
  exact q _
theorem run_law {K : PySem.W.Frag} {vs : List V} {H : Hp} {Q : VK} {E : XK} (h : sp_law K vs H Q E) : t_law_0 K (dEnd Q) (start n_law vs) H := by
  obtain ⟨a, ns, rfl, hs, hl, q⟩ := h
  refine ⟨_, rfl, a, ns, 0, rfl, hs, fun b H1 hb s1 => ?_⟩
  refine ⟨_, rfl, b, rfl, fun z hz => ?_⟩
  have hz2 : z.length ≤ sizeLine := small_line (by omega)
  have hc2 : (cutS z (some 1) none).length ≤ sizeLine := small_line (Nat.le_trans (cutS_length z _ _) (by omega))
  refine ⟨_, rfl, _, rfl, .inl ⟨z, rfl, hz2, ?_⟩⟩
  refine ⟨_, rfl, _, rfl, z, rfl, hz2, _, rfl, .inl ⟨_, rfl, hc2, ?_⟩⟩
  refine ⟨by decide, fun p1 n1 => ⟨by decide, fun p2 n2 => ⟨by decide, fun p3 n3 => ⟨by decide, fun p4 n4 => ⟨_, rfl, _, _, rfl, rfl, ⟨by decide, by decide, by decide⟩, _, _, rfl, rfl, cpos (by decide), small_line (by simp), fun p5 n5 => ?_⟩⟩⟩⟩⟩
  obtain ⟨xs, ex⟩ : ∃ xs, xs = [V.non, V.bl true, V.bl false, V.ref p1, V.ref p2, V.ref p3, V.ref p4, V.int (b % 10 ^ ((60 : Int).toNat))] := ⟨_, rfl⟩
  have e1 : ∀ H2, Same (upd (upd (upd (upd H1 p1 (.lst [.str "a"])) p2 (.tup [.str "a", .str "b"])) p3 (.lst [])) p4 (.tup [])) H2 → ∀ x ∈ xs, ∃ t, TyX K H2 x t ∧ PySem.W.kitOne K t (.type "str") = some false := by
    intro H2 s2
    have t1 := same_upd (o := .lst [.str "a"]) n1
    have t2 := same_upd (o := .tup [.str "a", .str "b"]) n2
    have t3 := same_upd (o := .lst []) n3
    have t4 := same_upd (o := .tup []) n4
    have k1 : H2 p1 = some (.lst [.str "a"]) := s2 _ _ (t4 _ _ (t3 _ _ (t2 _ _ upd_same)))
    have k2 : H2 p2 = some (.tup [.str "a", .str "b"]) := s2 _ _ (t4 _ _ (t3 _ _ upd_same))
    have k3 : H2 p3 = some (.lst []) := s2 _ _ (t4 _ _ upd_same)
    have k4 : H2 p4 = some (.tup []) := s2 _ _ upd_same
    intro x hx
    rw [ex] at hx
    simp only [List.mem_cons, List.not_mem_nil, or_false] at hx
    rcases hx with rfl | rfl | rfl | rfl | rfl | rfl | rfl | rfl
    · exact ⟨_, .base .non, kit_ty (by decide +kernel)⟩
    · exact ⟨_, .base (.bl _), kit_ty (by decide +kernel)⟩
    · exact ⟨_, .base (.bl _), kit_ty (by decide +kernel)⟩
    · exact ⟨_, .base (.lst k1), kit_ty (by decide +kernel)⟩
    · exact ⟨_, .base (.tup k2), kit_ty (by decide +kernel)⟩
    · exact ⟨_, .base (.lst k3), kit_ty (by decide +kernel)⟩
    · exact ⟨_, .base (.tup k4), kit_ty (by decide +kernel)⟩
    · exact ⟨_, .base (.int _), kit_ty (by decide +kernel)⟩
  have e2 := e1 (upd (upd (upd (upd (upd H1 p1 (.lst [.str "a"])) p2 (.tup [.str "a", .str "b"])) p3 (.lst [])) p4 (.tup [])) p5 (.tup xs)) (same_upd (by rw [← n5]))
  have e3 : SqT K (upd (upd (upd (upd (upd H1 p1 (.lst [.str "a"])) p2 (.tup [.str "a", .str "b"])) p3 (.lst [])) p4 (.tup [])) p5 (.tup xs)) p5 xs := .inl (.inl upd_same)
  obtain ⟨H5, e5⟩ : ∃ H5, H5 = (upd (upd (upd (upd (upd H1 p1 (.lst [.str "a"])) p2 (.tup [.str "a", .str "b"])) p3 (.lst [])) p4 (.tup [])) p5 (.tup xs)) := ⟨_, rfl⟩
  rw [← e5] at e2 e3
  have main : ∀ H'', H'' = H5 → ∃ a_1, V.ref p5 = .ref a_1 ∧ (∃ ys, SqT K H'' a_1 ys) ∧ (fun J H1 => ∃ W : Nat → Nat → L2.St → Hp → Prop, (∃ m, W 0 m [some (.ref a), some (.int b), some (.str z), some (.bl (isNm z)), some (.bl (isNm (cutS z (some 1) none))), none, none, none] H1) ∧ ∀ i m σ H, W i m σ H →
      (J.stop i H ∧ (t_law_5 K (dEnd Q)) σ H) ∨ (J.go i H ∧ ∃ N : L2.St → Hp → Prop, (∀ σ' H', N σ' H' → ∃ m', m' < m ∧ W (i + 1) m' σ' H') ∧ ∀ x H', J.yld i H x H' → gName 5 x σ H' fun σ2 H2 => t_law_4b_0 K { nx := N, ct := N, bk := t_law_5 K (dEnd Q), rt := Q } σ2 H2)) (Itt K a_1) H'' := by
    rintro H'' eH
    rw [← eH] at e2 e3
    refine ⟨p5, rfl, ⟨_, e3⟩, for_tup (xs := xs) (D := { nx := t_law_5 K (dEnd Q), rt := Q }) (fun i σ H' => H' = H'' ∧ ∃ y5, σ = [some (.ref a), some (.int b), some (.str z), some (.bl (isNm z)), some (.bl (isNm (cutS z (some 1) none))), y5, none, none]) ⟨rfl, _, rfl⟩ (fun i σ H' _ h => h.1 ▸ e3) ?_ ?_⟩
    · rintro i x σ H' hx ⟨rfl, y5, rfl⟩
      obtain ⟨t, h1, h2⟩ := e2 x (List.mem_of_getElem? hx)
      refine ⟨_, rfl, _, rfl, .inr ⟨⟨t, h1, h2⟩, _, _, rfl, rfl, _, rfl, ite_ndec (fun e => absurd rfl e) fun _ => ⟨rfl, _, rfl⟩⟩⟩
    · rintro σ H' ⟨rfl, y5, rfl⟩
      exact law_tail hz q
  exact main _ (by rw [e5, ex])
end Tw

namespace Tw
open PySem PySem.Spec L2
open PyProof.Rows hiding St
def topS (i : Nat) : Stmt := PySem.Challenge.pw_threewebs_k01_is_name.main.body.getD i (.Pass ⟨0, 0, 0, 0⟩)
abbrev s_is_name : Stmt := topS 3
theorem sc_is_name : FnScope n_is_name ["thing"] (defScope s_is_name) := ⟨rfl, rfl, rfl, by decide +kernel, rfl, by decide +kernel, by decide +kernel⟩
abbrev s__law_cell_at : Stmt := topS 5
theorem sc__law_cell_at : FnScope n__law_cell_at ["_law_script", "_law_k"] (defScope s__law_cell_at) := ⟨rfl, rfl, rfl, by decide +kernel, rfl, by decide +kernel, by decide +kernel⟩
abbrev s__law_big : Stmt := topS 6
theorem sc__law_big : FnScope n__law_big ["_law_script", "_law_at"] (defScope s__law_big) := ⟨rfl, rfl, rfl, by decide +kernel, rfl, by decide +kernel, by decide +kernel⟩
abbrev s__law_text_of : Stmt := topS 7
theorem sc__law_text_of : FnScope n__law_text_of ["_law_big_here"] (defScope s__law_text_of) := ⟨rfl, rfl, rfl, by decide +kernel, rfl, by decide +kernel, by decide +kernel⟩
abbrev s__law_due : Stmt := topS 8
theorem sc__law_due : FnScope n__law_due ["_law_text"] (defScope s__law_due) := ⟨rfl, rfl, rfl, by decide +kernel, rfl, by decide +kernel, by decide +kernel⟩
abbrev s_law : Stmt := topS 9
theorem sc_law : FnScope n_law ["_law_script"] (defScope s_law) := ⟨rfl, rfl, rfl, by decide +kernel, rfl, by decide +kernel, by decide +kernel⟩
structure Top (K : PySem.W.Frag) (mg : Str → Option Value) (a : Nat → Addr) (d : Nat → FuncData) : Prop where
  f_is_name : Fun K "is_name" "is_name" s_is_name (a 0) (d 0)
  b_is_name : Binds K (d 0) ["thing"] []
  g_is_name : mg "is_name" = some (.ref (a 0))
  f__law_cell_at : Fun K "_law_cell_at" "_law_cell_at" s__law_cell_at (a 1) (d 1)
  b__law_cell_at : Binds K (d 1) ["_law_script", "_law_k"] []
  g__law_cell_at : mg "_law_cell_at" = some (.ref (a 1))
  f__law_big : Fun K "_law_big" "_law_big" s__law_big (a 2) (d 2)
  b__law_big : Binds K (d 2) ["_law_script", "_law_at"] []
  g__law_big : mg "_law_big" = some (.ref (a 2))
  f__law_text_of : Fun K "_law_text_of" "_law_text_of" s__law_text_of (a 3) (d 3)
  b__law_text_of : Binds K (d 3) ["_law_big_here"] []
  g__law_text_of : mg "_law_text_of" = some (.ref (a 3))
  f__law_due : Fun K "_law_due" "_law_due" s__law_due (a 4) (d 4)
  b__law_due : Binds K (d 4) ["_law_text"] []
  g__law_due : mg "_law_due" = some (.ref (a 4))
  f_law : Fun K "law" "law" s_law (a 5) (d 5)
  b_law : Binds K (d 5) ["_law_script"] []
  g_law : mg "law" = some (.ref (a 5))
  m_bool : mg "bool" = none
  m_isinstance : mg "isinstance" = none
  m_len : mg "len" = none
  m_range : mg "range" = none
  m_str : mg "str" = none
  c_SIGNS : ∃ u, mg "SIGNS" = some u ∧ RelV (.str "abcdefghijklmnopqrstuvwxyz0123456789") u
  c_LONGEST : ∃ u, mg "LONGEST" = some u ∧ RelV (.int 8) u
section
variable {P : Program} {w : World} {K : PySem.W.Frag} {mg : Str → Option Value} {base : Heap} {a : Nat → Addr} {d : Nat → FuncData}
theorem ok_is_name (T : Top K mg a d) : FnOk P w K mg base CX0 1 (a 0) (d 0) ["thing"] (sp_is_name K) :=
  T.f_is_name.ok sc_is_name (fun vs H Q E h => len_is_name vs H Q E h) (fun cdv A outer s H vs Q E hr h => ⟨t_is_name_0 K, (pss_cons (ps_if (PW.pt (pw_or (pt_not (pt_val (pe_callB call_isi (by rfl) T.m_isinstance (by decide +kernel) (pa_cons (pv 0) (pa_cons (pe_bltn (v := .ty "str") (by rfl) T.m_str (by decide +kernel) rfl) pa_nil))))) (pw_or (pt_cmpR op_eq (pv 0) pe_str (nomark _)) (pw_or1 (pt_cmpR op_gt (pe_callB call_len_str (by rfl) T.m_len (by decide +kernel) (pa_cons (pv 0) pa_nil)) (pe_glob (by rfl) T.c_LONGEST.choose_spec.1 T.c_LONGEST.choose_spec.2) (nomark _))))))
  (pss_one (ps_ret pe_bl))
  pss_nil)
  (pss_cons (ps_for PassesOwn.never rfl (pi_str (pv 0)) (pg_name (i := 1) sc_is_name.nd rfl (by first | exact .inl rfl | exact .inr rfl))
  (pss_one (ps_if (pt_cmpR op_notIn_sign (pv 1) (pe_glob (by rfl) T.c_SIGNS.choose_spec.1 T.c_SIGNS.choose_spec.2) rfl)
  (pss_one (ps_ret pe_bl))
  pss_nil)))
  (pss_one (ps_ret pe_bl)))), run_is_name h⟩)
theorem ok__law_cell_at (T : Top K mg a d) : FnOk P w K mg base CX0 1 (a 1) (d 1) ["_law_script", "_law_k"] (sp__law_cell_at K) :=
  T.f__law_cell_at.ok sc__law_cell_at (fun vs H Q E h => len__law_cell_at vs H Q E h) (fun cdv A outer s H vs Q E hr h => ⟨t__law_cell_at_0 K, (pss_cons (ps_if (pt_cmpR op_lt (pv 1) (pe_callB call_len_seq (by rfl) T.m_len (by decide +kernel) (pa_cons (pv 0) pa_nil)) (nomark _))
  (pss_one (ps_ret (pe_ix ix_list (pv 0) (pv 1) (fun _ _ => rfl))))
  pss_nil)
  (pss_one (ps_ret pe_int))), run__law_cell_at h⟩)
theorem ok__law_big (T : Top K mg a d) : FnOk P w K mg base CX0 2 (a 2) (d 2) ["_law_script", "_law_at"] (sp__law_big K) :=
  T.f__law_big.ok sc__law_big (fun vs H Q E h => len__law_big vs H Q E h) (fun cdv A outer s H vs Q E hr h => ⟨t__law_big_0 K, (pss_cons (ps_set (i := 2) sc__law_big.nd rfl (by first | exact .inl rfl | exact .inr rfl) (pe_tup (pa_cons pe_int (pa_cons pe_int (pa_cons pe_int (pa_cons pe_int (pa_cons pe_int (pa_cons pe_int (pa_cons pe_int (pa_cons pe_int pa_nil))))))))))
  (pss_cons (ps_set (i := 3) sc__law_big.nd rfl (by first | exact .inl rfl | exact .inr rfl) (pe_tup (pa_cons pe_int (pa_cons pe_int (pa_cons pe_int (pa_cons pe_int (pa_cons pe_int (pa_cons pe_int (pa_cons pe_int (pa_cons pe_int pa_nil))))))))))
  (pss_cons (ps_set (i := 4) sc__law_big.nd rfl (by first | exact .inl rfl | exact .inr rfl) (pe_call (ok__law_cell_at T) (hr.mono (by decide)) (by rfl) T.g__law_cell_at T.f__law_cell_at.kp T.b__law_cell_at .nil pass0 (pa_cons (pv 0) (pa_cons (pv 1) pa_nil))))
  (pss_cons (ps_if (PW.pt (pw_and (pt_cmpR op_eq (pe_op op_mod (pv 4) pe_int) pe_int (nomark _)) (pw_and1 (pt_cmpR op_gt (pv 4) (pe_op op_pow pe_int pe_int) (nomark _)))))
  (pss_one (ps_ret (pe_op op_fdivW (pv 4) pe_int)))
  pss_nil)
  (pss_cons (ps_set (i := 5) sc__law_big.nd rfl (by first | exact .inl rfl | exact .inr rfl) pe_int)
  (pss_cons (ps_for PassesOwn.never rfl (pi_range1 (by rfl) T.m_range (pa_cons pe_int pa_nil)) (pg_name (i := 6) sc__law_big.nd rfl (by first | exact .inl rfl | exact .inr rfl))
  (pss_cons (ps_set (i := 7) sc__law_big.nd rfl (by first | exact .inl rfl | exact .inr rfl) (pe_op op_add (pe_op op_add (pe_op op_mod (pe_call (ok__law_cell_at T) (hr.mono (by decide)) (by rfl) T.g__law_cell_at T.f__law_cell_at.kp T.b__law_cell_at .nil pass0 (pa_cons (pv 0) (pa_cons (pe_op op_add (pv 1) (pe_op op_mod (pv 6) pe_int)) pa_nil))) (pe_op op_pow pe_int pe_int)) pe_int) (pe_op op_mulW (pv 6) (pv 6))))
  (pss_one (ps_set (i := 5) sc__law_big.nd rfl (by first | exact .inl rfl | exact .inr rfl) (pe_op op_add (pe_op op_mulW (pv 5) pe_int) (pe_op op_mod (pe_op op_mod (pe_op op_mulW (pv 7) (pe_ix ix_tup (pv 2) (pe_op op_mod (pv 6) pe_int) (fun _ _ => rfl))) (pe_ix ix_tup (pv 3) (pe_op op_mod (pv 6) pe_int) (fun _ _ => rfl))) pe_int))))))
  (pss_one (ps_ret (pv 5))))))))), run__law_big h⟩)
theorem ok__law_text_of (T : Top K mg a d) : FnOk P w K mg base CX0 1 (a 3) (d 3) ["_law_big_here"] (sp__law_text_of K) :=
  T.f__law_text_of.ok sc__law_text_of (fun vs H Q E h => len__law_text_of vs H Q E h) (fun cdv A outer s H vs Q E hr h => ⟨t__law_text_of_0 K, (pss_cons (ps_set (i := 1) sc__law_text_of.nd rfl (by first | exact .inl rfl | exact .inr rfl) pe_str)
  (pss_cons (ps_set (i := 1) sc__law_text_of.nd rfl (by first | exact .inl rfl | exact .inr rfl) (pe_op op_add_str (pv 1) pe_str))
  (pss_cons (ps_set (i := 2) sc__law_text_of.nd rfl (by first | exact .inl rfl | exact .inr rfl) (pe_op op_mod (pv 0) pe_int))
  (pss_cons (ps_set (i := 3) sc__law_text_of.nd rfl (by first | exact .inl rfl | exact .inr rfl) (pe_op op_mod (pe_op op_fdivW (pv 0) pe_int) pe_int))
  (pss_cons (ps_set (i := 0) sc__law_text_of.nd rfl (by first | exact .inl rfl | exact .inr rfl) (pe_op op_fdivW (pv 0) pe_int))
  (pss_cons (ps_set (i := 4) sc__law_text_of.nd rfl (by first | exact .inl rfl | exact .inr rfl) pe_str)
  (pss_cons (ps_for PassesOwn.never rfl (pi_range1 (by rfl) T.m_range (pa_cons (pv 2) pa_nil)) (pg_name (i := 5) sc__law_text_of.nd rfl (by first | exact .inl rfl | exact .inr rfl))
  (pss_cons (ps_set (i := 4) sc__law_text_of.nd rfl (by first | exact .inl rfl | exact .inr rfl) (pe_op op_add_str (pv 4) (pe_ix ix_str pe_str (pe_op op_mod (pv 0) pe_int) (fun _ _ => rfl))))
  (pss_one (ps_set (i := 0) sc__law_text_of.nd rfl (by first | exact .inl rfl | exact .inr rfl) (pe_op op_fdivW (pv 0) pe_int)))))
  (pss_cons (ps_if (PW.pt (pw_and (pt_cmpR op_eq (pv 3) pe_int (nomark _)) (pw_and1 (pt_cmpR op_gt (pv 2) pe_int (nomark _)))))
  (pss_cons (ps_set (i := 6) sc__law_text_of.nd rfl (by first | exact .inl rfl | exact .inr rfl) (pe_op op_mod (pv 0) (pv 2)))
  (pss_one (ps_set (i := 4) sc__law_text_of.nd rfl (by first | exact .inl rfl | exact .inr rfl) (pe_op op_add_str (pe_op op_add_str (pe_slice sl_str (pv 4) po_none (po_some (pv 6))) (pe_ix ix_str (pv 1) (pe_op op_mod (pe_op op_fdivW (pv 0) (pv 2)) pe_int) (fun _ _ => rfl))) (pe_slice sl_str (pv 4) (po_some (pe_op op_add (pv 6) pe_int)) po_none)))))
  pss_nil)
  (pss_one (ps_ret (pv 4))))))))))), run__law_text_of h⟩)
theorem ok__law_due (T : Top K mg a d) : FnOk P w K mg base CX0 1 (a 4) (d 4) ["_law_text"] (sp__law_due K) :=
  T.f__law_due.ok sc__law_due (fun vs H Q E h => len__law_due vs H Q E h) (fun cdv A outer s H vs Q E hr h => ⟨t__law_due_0 K, (pss_cons (ps_for PassesOwn.never rfl (pi_str (pv 0)) (pg_name (i := 1) sc__law_due.nd rfl (by first | exact .inl rfl | exact .inr rfl))
  (pss_one (ps_if (pt_cmpR op_notIn_sign (pv 1) pe_str rfl)
  (pss_one (ps_ret pe_bl))
  pss_nil)))
  (pss_one (ps_ret (pe_chain op_lt op_lt pe_int (pe_callB call_len_str (by rfl) T.m_len (by decide +kernel) (pa_cons (pv 0) pa_nil)) pe_int)))), run__law_due h⟩)
theorem ok_law (T : Top K mg a d) : FnOk P w K mg base CX0 3 (a 5) (d 5) ["_law_script"] (sp_law K) :=
  T.f_law.ok sc_law (fun vs H Q E h => len_law vs H Q E h) (fun cdv A outer s H vs Q E hr h => ⟨t_law_0 K, (pss_cons (ps_set (i := 1) sc_law.nd rfl (by first | exact .inl rfl | exact .inr rfl) (pe_call (ok__law_big T) (hr.mono (by decide)) (by rfl) T.g__law_big T.f__law_big.kp T.b__law_big .nil pass0 (pa_cons (pv 0) (pa_cons pe_int pa_nil))))
  (pss_cons (ps_set (i := 2) sc_law.nd rfl (by first | exact .inl rfl | exact .inr rfl) (pe_call (ok__law_text_of T) (hr.mono (by decide)) (by rfl) T.g__law_text_of T.f__law_text_of.kp T.b__law_text_of .nil pass0 (pa_cons (pv 1) pa_nil)))
  (pss_cons (ps_set (i := 3) sc_law.nd rfl (by first | exact .inl rfl | exact .inr rfl) (pe_call (ok_is_name T) (hr.mono (by decide)) (by rfl) T.g_is_name T.f_is_name.kp T.b_is_name .nil pass0 (pa_cons (pv 2) pa_nil)))
  (pss_cons (ps_set (i := 4) sc_law.nd rfl (by first | exact .inl rfl | exact .inr rfl) (pe_call (ok_is_name T) (hr.mono (by decide)) (by rfl) T.g_is_name T.f_is_name.kp T.b_is_name .nil pass0 (pa_cons (pe_slice sl_str (pv 2) (po_some pe_int) po_none) pa_nil)))
  (pss_cons (ps_for PassesOwn.never rfl (pi_tup (pe_tup (pa_cons pe_non (pa_cons pe_bl (pa_cons pe_bl (pa_cons (pe_lst (pa_cons pe_str pa_nil)) (pa_cons (pe_tup (pa_cons pe_str (pa_cons pe_str pa_nil))) (pa_cons (pe_lst pa_nil) (pa_cons (pe_tup pa_nil) (pa_cons (pe_op op_mod (pv 1) (pe_op op_pow pe_int pe_int)) pa_nil)))))))))) (pg_name (i := 5) sc_law.nd rfl (by first | exact .inl rfl | exact .inr rfl))
  (pss_one (ps_if (pt_cmpR op_notBl (pe_call (ok_is_name T) (hr.mono (by decide)) (by rfl) T.g_is_name T.f_is_name.kp T.b_is_name .nil pass0 (pa_cons (pv 5) pa_nil)) pe_bl (nomark _))
  (pss_one (ps_ret pe_bl))
  pss_nil)))
  (pss_cons (ps_set (i := 6) sc_law.nd rfl (by first | exact .inl rfl | exact .inr rfl) (pe_op op_rep_str (pv 2) (pe_op op_add pe_int (pe_op op_mod (pe_op op_fdivW (pv 1) pe_int) pe_int))))
  (pss_cons (ps_if (PW.pt (pw_or (pt_cmpR op_ne (pe_call (ok_is_name T) (hr.mono (by decide)) (by rfl) T.g_is_name T.f_is_name.kp T.b_is_name .nil pass0 (pa_cons (pv 6) pa_nil)) (pe_call (ok__law_due T) (hr.mono (by decide)) (by rfl) T.g__law_due T.f__law_due.kp T.b__law_due .nil pass0 (pa_cons (pv 6) pa_nil)) (nomark _)) (pw_or1 (pt_not (pt_val (pe_callB call_isi (by rfl) T.m_isinstance (by decide +kernel) (pa_cons (pe_call (ok_is_name T) (hr.mono (by decide)) (by rfl) T.g_is_name T.f_is_name.kp T.b_is_name .nil pass0 (pa_cons (pv 6) pa_nil)) (pa_cons (pe_bltn (v := .ty "bool") (by rfl) T.m_bool (by decide +kernel) rfl) pa_nil))))))))
  (pss_one (ps_ret pe_bl))
  pss_nil)
  (pss_cons (ps_set (i := 7) sc_law.nd rfl (by first | exact .inl rfl | exact .inr rfl) (pe_call (ok_is_name T) (hr.mono (by decide)) (by rfl) T.g_is_name T.f_is_name.kp T.b_is_name .nil pass0 (pa_cons (pv 2) pa_nil)))
  (pss_cons (ps_if (PW.pt (pw_or (pt_not (pt_val (pe_callB call_isi (by rfl) T.m_isinstance (by decide +kernel) (pa_cons (pv 3) (pa_cons (pe_bltn (v := .ty "bool") (by rfl) T.m_bool (by decide +kernel) rfl) pa_nil))))) (pw_or (pt_not (pt_val (pe_callB call_isi (by rfl) T.m_isinstance (by decide +kernel) (pa_cons (pv 4) (pa_cons (pe_bltn (v := .ty "bool") (by rfl) T.m_bool (by decide +kernel) rfl) pa_nil))))) (pw_or1 (pt_not (pt_val (pe_callB call_isi (by rfl) T.m_isinstance (by decide +kernel) (pa_cons (pv 7) (pa_cons (pe_bltn (v := .ty "bool") (by rfl) T.m_bool (by decide +kernel) rfl) pa_nil)))))))))
  (pss_one (ps_ret pe_bl))
  pss_nil)
  (pss_one (ps_ret (pe_and (pe_cmpR op_eq (pv 3) (pe_call (ok__law_due T) (hr.mono (by decide)) (by rfl) T.g__law_due T.f__law_due.kp T.b__law_due .nil pass0 (pa_cons (pv 2) pa_nil)) (nomark _)) (pe_and (pe_cmpR op_eq (pv 4) (pe_call (ok__law_due T) (hr.mono (by decide)) (by rfl) T.g__law_due T.f__law_due.kp T.b__law_due .nil pass0 (pa_cons (pe_slice sl_str (pv 2) (po_some pe_int) po_none) pa_nil)) (nomark _)) (pe_one (pe_cmpR op_eq (pv 7) (pv 3) (nomark _)))))))))))))))), run_law h⟩)
end
theorem all_mk {l : PySem.W.OpenLaw} {w : World} {K : PySem.W.Frag} {h : Heap} {mg : Str → Option Value} {fa f0 f1 f2 f3 f4 f5 : Addr} (X : K.In h) (G : h.Ns mainGlobals mg) (hfa : mg "law" = some (.ref fa))
    {od0 an0 : Option Addr} {sl0 : Array (Option Value)} {oc0 kV0 dc0 pm0 cd0 ct0 : Value}
    (a0 : PySem.W.nsIn K mainGlobals "is_name" = some (some (.ref f0)))
    (l0 : K.lookup f0 = some ⟨oc0, od0, .func (PySem.W.fnOf "is_name" "is_name" (defArgs s_is_name) (defBody s_is_name) (defScope s_is_name) .none kV0 dc0 pm0 an0 cd0 ct0), sl0⟩)
    (c0 : PySem.W.codeIn K cd0 "is_name" = true) (k0 : PySem.W.keepIn K (.ref f0) = true)
    {od1 an1 : Option Addr} {sl1 : Array (Option Value)} {oc1 kV1 dc1 pm1 cd1 ct1 : Value}
    (a1 : PySem.W.nsIn K mainGlobals "_law_cell_at" = some (some (.ref f1)))
    (l1 : K.lookup f1 = some ⟨oc1, od1, .func (PySem.W.fnOf "_law_cell_at" "_law_cell_at" (defArgs s__law_cell_at) (defBody s__law_cell_at) (defScope s__law_cell_at) .none kV1 dc1 pm1 an1 cd1 ct1), sl1⟩)
    (c1 : PySem.W.codeIn K cd1 "_law_cell_at" = true) (k1 : PySem.W.keepIn K (.ref f1) = true)
    {od2 an2 : Option Addr} {sl2 : Array (Option Value)} {oc2 kV2 dc2 pm2 cd2 ct2 : Value}
    (a2 : PySem.W.nsIn K mainGlobals "_law_big" = some (some (.ref f2)))
    (l2 : K.lookup f2 = some ⟨oc2, od2, .func (PySem.W.fnOf "_law_big" "_law_big" (defArgs s__law_big) (defBody s__law_big) (defScope s__law_big) .none kV2 dc2 pm2 an2 cd2 ct2), sl2⟩)
    (c2 : PySem.W.codeIn K cd2 "_law_big" = true) (k2 : PySem.W.keepIn K (.ref f2) = true)
    {od3 an3 : Option Addr} {sl3 : Array (Option Value)} {oc3 kV3 dc3 pm3 cd3 ct3 : Value}
    (a3 : PySem.W.nsIn K mainGlobals "_law_text_of" = some (some (.ref f3)))
    (l3 : K.lookup f3 = some ⟨oc3, od3, .func (PySem.W.fnOf "_law_text_of" "_law_text_of" (defArgs s__law_text_of) (defBody s__law_text_of) (defScope s__law_text_of) .none kV3 dc3 pm3 an3 cd3 ct3), sl3⟩)
    (c3 : PySem.W.codeIn K cd3 "_law_text_of" = true) (k3 : PySem.W.keepIn K (.ref f3) = true)
    {od4 an4 : Option Addr} {sl4 : Array (Option Value)} {oc4 kV4 dc4 pm4 cd4 ct4 : Value}
    (a4 : PySem.W.nsIn K mainGlobals "_law_due" = some (some (.ref f4)))
    (l4 : K.lookup f4 = some ⟨oc4, od4, .func (PySem.W.fnOf "_law_due" "_law_due" (defArgs s__law_due) (defBody s__law_due) (defScope s__law_due) .none kV4 dc4 pm4 an4 cd4 ct4), sl4⟩)
    (c4 : PySem.W.codeIn K cd4 "_law_due" = true) (k4 : PySem.W.keepIn K (.ref f4) = true)
    {od5 an5 : Option Addr} {sl5 : Array (Option Value)} {oc5 kV5 dc5 pm5 cd5 ct5 : Value}
    (a5 : PySem.W.nsIn K mainGlobals "law" = some (some (.ref f5)))
    (l5 : K.lookup f5 = some ⟨oc5, od5, .func (PySem.W.fnOf "law" "law" (defArgs s_law) (defBody s_law) (defScope s_law) .none kV5 dc5 pm5 an5 cd5 ct5), sl5⟩)
    (c5 : PySem.W.codeIn K cd5 "law" = true) (k5 : PySem.W.keepIn K (.ref f5) = true)
    (z_bool : PySem.W.nsIn K mainGlobals "bool" = some none)
    (z_isinstance : PySem.W.nsIn K mainGlobals "isinstance" = some none)
    (z_len : PySem.W.nsIn K mainGlobals "len" = some none)
    (z_range : PySem.W.nsIn K mainGlobals "range" = some none)
    (z_str : PySem.W.nsIn K mainGlobals "str" = some none)
    {tk_SIGNS : Tok} (q_SIGNS : PySem.W.nsIn K mainGlobals "SIGNS" = some (some (.str "abcdefghijklmnopqrstuvwxyz0123456789" tk_SIGNS)))
    {tk_LONGEST : Tok} (q_LONGEST : PySem.W.nsIn K mainGlobals "LONGEST" = some (some (.int 8 tk_LONGEST)))
    : ∃ fd : FuncData, (∀ (s : Shared) (v : Value), BindsTo s fd ⟨[v], []⟩ [("_law_script", v)]) ∧ ∀ base : Heap, K.In base → base.Ns mainGlobals mg → FnOk l.prog w K mg base CX0 3 fa fd ["_law_script"] (sp_law K) := by
  have e := hfa.symm.trans (PySem.W.mg_of X G a5)
  cases e
  have F0 := fun_mk (st := s_is_name) l0 c0 k0
  have b0 := F0.binds (ps := ["thing"]) fun _ _ _ _ _ _ us hl => match us, hl with | [_], _ => rfl
  have F1 := fun_mk (st := s__law_cell_at) l1 c1 k1
  have b1 := F1.binds (ps := ["_law_script", "_law_k"]) fun _ _ _ _ _ _ us hl => match us, hl with | [_, _], _ => rfl
  have F2 := fun_mk (st := s__law_big) l2 c2 k2
  have b2 := F2.binds (ps := ["_law_script", "_law_at"]) fun _ _ _ _ _ _ us hl => match us, hl with | [_, _], _ => rfl
  have F3 := fun_mk (st := s__law_text_of) l3 c3 k3
  have b3 := F3.binds (ps := ["_law_big_here"]) fun _ _ _ _ _ _ us hl => match us, hl with | [_], _ => rfl
  have F4 := fun_mk (st := s__law_due) l4 c4 k4
  have b4 := F4.binds (ps := ["_law_text"]) fun _ _ _ _ _ _ us hl => match us, hl with | [_], _ => rfl
  have F5 := fun_mk (st := s_law) l5 c5 k5
  have b5 := F5.binds (ps := ["_law_script"]) fun _ _ _ _ _ _ us hl => match us, hl with | [_], _ => rfl
  let av : Nat → Addr := fun i => [f0, f1, f2, f3, f4, fa].getD i 0
  let dv : Nat → FuncData := fun i => [PySem.W.fnOf "is_name" "is_name" (defArgs s_is_name) (defBody s_is_name) (defScope s_is_name) .none kV0 dc0 pm0 an0 cd0 ct0, PySem.W.fnOf "_law_cell_at" "_law_cell_at" (defArgs s__law_cell_at) (defBody s__law_cell_at) (defScope s__law_cell_at) .none kV1 dc1 pm1 an1 cd1 ct1, PySem.W.fnOf "_law_big" "_law_big" (defArgs s__law_big) (defBody s__law_big) (defScope s__law_big) .none kV2 dc2 pm2 an2 cd2 ct2, PySem.W.fnOf "_law_text_of" "_law_text_of" (defArgs s__law_text_of) (defBody s__law_text_of) (defScope s__law_text_of) .none kV3 dc3 pm3 an3 cd3 ct3, PySem.W.fnOf "_law_due" "_law_due" (defArgs s__law_due) (defBody s__law_due) (defScope s__law_due) .none kV4 dc4 pm4 an4 cd4 ct4, PySem.W.fnOf "law" "law" (defArgs s_law) (defBody s_law) (defScope s_law) .none kV5 dc5 pm5 an5 cd5 ct5].getD i (PySem.W.fnOf "law" "law" (defArgs s_law) (defBody s_law) (defScope s_law) .none kV5 dc5 pm5 an5 cd5 ct5)
  have T : Top K mg av dv := { f_is_name := F0, b_is_name := b0, g_is_name := PySem.W.mg_of X G a0, f__law_cell_at := F1, b__law_cell_at := b1, g__law_cell_at := PySem.W.mg_of X G a1, f__law_big := F2, b__law_big := b2, g__law_big := PySem.W.mg_of X G a2, f__law_text_of := F3, b__law_text_of := b3, g__law_text_of := PySem.W.mg_of X G a3, f__law_due := F4, b__law_due := b4, g__law_due := PySem.W.mg_of X G a4, f_law := F5, b_law := b5, g_law := PySem.W.mg_of X G a5, m_bool := PySem.W.mg_none_of X G z_bool, m_isinstance := PySem.W.mg_none_of X G z_isinstance, m_len := PySem.W.mg_none_of X G z_len, m_range := PySem.W.mg_none_of X G z_range, m_str := PySem.W.mg_none_of X G z_str, c_SIGNS := ⟨_, PySem.W.mg_of X G q_SIGNS, ⟨_, rfl⟩⟩, c_LONGEST := ⟨_, PySem.W.mg_of X G q_LONGEST, ⟨_, rfl⟩⟩ }
  exact ⟨dv 5, fun s v => .of_eq rfl, fun base _ _ => ok_law T⟩
end Tw
open PySem PySem.W PyProof.Rows
set_option maxHeartbeats 0 in
theorem PySem.Challenge.cw_threewebs_k01_is_name_holds : PySem.Challenge.rw_threewebs_k01_is_name.Holds := by
  w_on; o_law; k_head; (case hw => w_witness2)
  k_fill
  refine L2.walk_of (l := PySem.Challenge.rw_threewebs_k01_is_name) (n := 63) (k := 3) (x := "_law_script") (CX := fun _ => L2.CX0) (sp := fun w => Tw.sp_law _) rfl (by decide) rfl ⟨rfl, by decide, by decide⟩ (fun w h Y => PySem.W.kIn_of Y) ?F (fun _ _ a ns hl _ hS => ⟨a, ns, rfl, hS, hl, fun _ => rfl⟩) (fun _ _ _ _ _ h => h)
  case F =>
    intro w mg fa h KX G hmg
    refine' Tw.all_mk KX G hmg ?a0 ?l0 ?c0 ?k0 ?a1 ?l1 ?c1 ?k1 ?a2 ?l2 ?c2 ?k2 ?a3 ?l3 ?c3 ?k3 ?a4 ?l4 ?c4 ?k4 ?a5 ?l5 ?c5 ?k5 ?z_bool ?z_isinstance ?z_len ?z_range ?z_str ?q_SIGNS ?q_LONGEST
    (case a0 => k_is); (case l0 => k_is); (case c0 => k_is); (case k0 => k_is); (case a1 => k_is); (case l1 => k_is); (case c1 => k_is); (case k1 => k_is); (case a2 => k_is); (case l2 => k_is); (case c2 => k_is); (case k2 => k_is); (case a3 => k_is); (case l3 => k_is); (case c3 => k_is); (case k3 => k_is); (case a4 => k_is); (case l4 => k_is); (case c4 => k_is); (case k4 => k_is); (case a5 => k_is); (case l5 => k_is); (case c5 => k_is); (case k5 => k_is); (case z_bool => k_is); (case z_isinstance => k_is); (case z_len => k_is); (case z_range => k_is); (case z_str => k_is); (case q_SIGNS => k_is); (case q_LONGEST => k_is)
