import PyProof.Rows.All
import Wide.All
import OpenK.AllK
import Wide.FinOn
import HandS.ForMost
import HandS.More
import HandS.Wide
import HandS.IsInst
import HandS.Style
import HandS.Deep
import PyProof.StrBlock2
import PySem.Challenge.RW_threewebs_k80_rows_written
set_option Elab.async false
set_option linter.all false
set_option maxRecDepth 100000
set_option maxHeartbeats 4000000
namespace Tw
open PySem PySem.Spec L2
open PyProof.Rows hiding St

/-! ### readings by name -/
abbrev qAdd : R2 := rI0 fun i j => .int (i + j)
abbrev qSub : R2 := rI0 fun i j => .int (i - j)
abbrev qMul : R2 := rI CMulW fun i j => .int (i * j)
abbrev qDiv : R2 := rI CDivW fun i j => .int (i / j)
def CPos (_ j : Int) : Prop := 0 < j
theorem cpos {i j : Int} (h : 0 < j) : CPos i j := h
abbrev qMod : R2 := rI CPos fun i j => .int (i % j)
abbrev qPow : R2 := rI CPow fun i j => .int (i ^ j.toNat)
abbrev qShl : R2 := rI CPow fun i j => .int (i * 2 ^ j.toNat)
def CNN (_ j : Int) : Prop := 0 ≤ j
theorem cnn {i j : Int} (h : 0 ≤ j) : CNN i j := h
abbrev qShr : R2 := rI CNN fun i j => .int (i / 2 ^ j.toNat)
abbrev qAnd : R2 := rI0 fun i j => .int (Builtin.bitAnd i j)
abbrev qOr : R2 := rI0 fun i j => .int (Builtin.bitOr i j)
abbrev qXor : R2 := rI0 fun i j => .int (Builtin.bitXor i j)
abbrev qNeg : V → Hp → VK → Prop := rU fun i => .int (-i)
abbrev qLt : R2 := rI0 fun i j => .bl (decide (i < j))
abbrev qLe : R2 := rI0 fun i j => .bl (decide (i ≤ j))
abbrev qGt : R2 := rI0 fun i j => .bl (decide (j < i))
abbrev qGe : R2 := rI0 fun i j => .bl (decide (j ≤ i))
abbrev qCatS : R2 := fun x y H Q => ∃ i j, x = .str i ∧ y = .str j ∧ i.length + j.length ≤ sizeLine ∧ Q (.str (i ++ j)) H
abbrev qRepS : R2 := fun x y H Q => ∃ z n, x = .str z ∧ y = .int n ∧ MulOk z n ∧ Q (.str (Txt.mul z n)) H
abbrev qInSign : R2 := fun x y H Q => ∃ (c : Nat) (z : Str), x = .str ⟨#[c]⟩ ∧ y = .str z ∧ Q (.bl (decide (c ∈ z.cps.toList))) H
abbrev qNotInSign : R2 := fun x y H Q => ∃ (c : Nat) (z : Str), x = .str ⟨#[c]⟩ ∧ y = .str z ∧ Q (.bl (!decide (c ∈ z.cps.toList))) H
abbrev qIsN : R2 := fun x y H Q => y = .non ∧ Q (.bl (decide (x = .non))) H
abbrev qNotN : R2 := fun x y H Q => y = .non ∧ Q (.bl (!decide (x = .non))) H
abbrev qLenS : List V → Hp → VK → Prop := fun xs H Q => ∃ z, xs = [.str z] ∧ z.length ≤ sizeLine ∧ Q (.int z.length) H
abbrev qLenQ (K : PySem.W.Frag) : List V → Hp → VK → Prop := fun xs H Q => ∃ p ys, xs = [.ref p] ∧ (SqL K H p ys ∨ SqT K H p ys) ∧ Q (.int ys.length) H
abbrev qLenD : List V → Hp → VK → Prop := fun xs H Q => ∃ a kvs, xs = [V.ref a] ∧ H a = some (.dK kvs) ∧ Q (.int kvs.length) H
abbrev qInt1 : List V → Hp → VK → Prop := fun xs H Q => (∃ i, xs = [.int i] ∧ Q (.int i) H) ∨ ∃ k, xs = [.bl k] ∧ Q (.int (if k then 1 else 0)) H
abbrev qIntS : List V → Hp → VK → Prop := fun xs H Q => ∃ a n, xs = [.str a] ∧ PySem.intText? a = some n ∧ a.length ≤ 640 ∧ Q (.int n) H
abbrev qMax2 : List V → Hp → VK → Prop := fun xs H Q => ∃ i j, xs = [.int i, .int j] ∧ Q (.int (if j > i then j else i)) H
abbrev qMin2 : List V → Hp → VK → Prop := fun xs H Q => ∃ i j, xs = [.int i, .int j] ∧ Q (.int (if j < i then j else i)) H
abbrev qStrI : List V → Hp → VK → Prop := fun xs H Q => ∃ i, xs = [.int i] ∧ i.natAbs.log2 < 1920 ∧ Q (.str (toString i)) H
abbrev qListOf (K : PySem.W.Frag) : List V → Hp → VK → Prop := fun xs H Q => ∃ p ys, xs = [.ref p] ∧ (SqL K H p ys ∨ SqT K H p ys) ∧ ∀ l, H l = none → Q (.ref l) (upd H l (.lst ys))
abbrev qJoin (K : PySem.W.Frag) : V → List V → Hp → VK → Prop := fun x xs H Q => ∃ a p, ∃ ys : List Str, x = .str a ∧ xs = [.ref p] ∧ (SqL K H p (ys.map V.str) ∨ SqT K H p (ys.map V.str)) ∧ (ys.map (·.length)).sum + ys.length * a.length ≤ 16777216 ∧ Q (.str (Txt.join a ys)) H
abbrev qSplit : V → List V → Hp → VK → Prop := fun x xs H Q => ∃ a b, x = .str a ∧ xs = [.str b] ∧ (b.length == 0) = false ∧ a.length + 2 ≤ sizeLine ∧ rNewStrs (Txt.split a b) H Q

section
variable {X : Cx}
theorem op_rep_str : OpR X (binaryOp .Mult) qRepS := by
  intro pins s σ H x y v u Q I rx ry h
  obtain ⟨z, n, rfl, rfl, hz, q⟩ := h
  obtain ⟨t, rfl⟩ := rx
  obtain ⟨t', rfl⟩ := ry
  exact SB.mul hz (fun t' k => ⟨.str (Txt.mul z n), H, I.tok _, ⟨_, rfl⟩, q⟩)
theorem hu65 {A : Around} {k : Nat} (hr : Room (k + 1) A) : A.units + 65 < cLine := by
  have := hr.un
  omega
end
end Tw

set_option Elab.async false
set_option linter.all false
set_option maxRecDepth 100000
set_option maxHeartbeats 4000000
namespace Tw
open PySem PySem.Spec L2
open PyProof.Rows hiding St

theorem start_of {N : List Str} {vs : List V} : start N vs = vs.map some ++ List.replicate (N.length - vs.length) none := rfl
/-- where a def ends -/
abbrev dEnd (Q : VK) : Ends := { nx := fun _ H' => Q .non H', rt := Q }
theorem same_upd {H : Hp} {p : Addr} {o : HO} (h : H p = none) : Same H (upd H p o) := fun b x e => by
  rw [upd_ne (ne_of_none e h)]
  exact e
theorem ite_tt {A B : Prop} (h : A) : if true = true then A else B := iteT h
theorem ite_ff {A B : Prop} (h : B) : if false = true then A else B := iteF h
theorem ite_dec {c : Prop} [Decidable c] {A B : Prop} (h1 : c → A) (h2 : ¬ c → B) : if decide c = true then A else B := by
  by_cases h : c
  · rw [if_pos (decide_eq_true h)]
    exact h1 h
  · rw [if_neg (by rw [decide_eq_false h]; exact Bool.false_ne_true)]
    exact h2 h
theorem ite_ndec {c : Prop} [Decidable c] {A B : Prop} (h1 : ¬ c → A) (h2 : c → B) : if (!decide c) = true then A else B := by
  by_cases h : c
  · rw [decide_eq_true h]
    exact iteF (h2 h)
  · rw [decide_eq_false h]
    exact iteT (h1 h)
theorem ite_b {b : Bool} {A B : Prop} (h1 : b = true → A) (h2 : b = false → B) : if b = true then A else B := by
  cases b with
  | true => exact iteT (h1 rfl)
  | false => exact iteF (h2 rfl)

/-! ### for over a text -/
theorem for_str {x : Str} {g : TG} {tb : TS} {D : Ends} {σ : St} {H : Hp} (Pv : Nat → St → Hp → Prop) (h0 : Pv 0 σ H)
    (hs : ∀ i c σ H, x.cps.toList[i]? = some c → Pv i σ H → g (.str ⟨#[c]⟩) σ H fun σ2 H2 => tb { D with nx := Pv (i + 1), ct := Pv (i + 1), bk := D.nx } σ2 H2) (hd : ∀ σ H, Pv x.cps.toList.length σ H → D.nx σ H) :
    ∃ W : Nat → Nat → St → Hp → Prop, (∃ m, W 0 m σ H) ∧ ∀ i m σ H, W i m σ H →
      ((Its x).stop i H ∧ D.nx σ H) ∨ ((Its x).go i H ∧ ∃ N : St → Hp → Prop, (∀ σ' H', N σ' H' → ∃ m', m' < m ∧ W (i + 1) m' σ' H') ∧ ∀ v H', (Its x).yld i H v H' → g v σ H' fun σ2 H2 => tb { D with nx := N, ct := N, bk := D.nx } σ2 H2) := by
  have el : x.cps.toList.length = x.cps.size := by simp
  refine ⟨fun i m σ H => m = x.cps.size - i ∧ i ≤ x.cps.size ∧ Pv i σ H, ⟨x.cps.size, by simp, Nat.zero_le _, h0⟩, ?_⟩
  rintro i m σ H ⟨rfl, hi, p⟩
  by_cases hlt : i < x.cps.size
  · refine .inr ⟨hlt, Pv (i + 1), fun σ' H' p' => ⟨x.cps.size - (i + 1), by omega, rfl, hlt, p'⟩, fun v H' y => ?_⟩
    obtain ⟨e, c, ec, ev⟩ := y
    subst e ev
    exact hs i c σ _ (by simpa using ec) p
  · have e : i = x.cps.size := by omega
    subst e
    exact .inl ⟨Nat.le_refl _, hd σ H (by rw [el]; exact p)⟩

/-! ### the script's cells -/
def cell (ns : List Int) (j : Nat) : Int := ns.getD j 0
def sp__law_cell_at (K : PySem.W.Frag) : Sp := fun vs H Q _ => ∃ (l : Addr) (ns : List Int) (j : Nat), vs = [.ref l, .int (j : Int)] ∧ SqL K H l (ns.map V.int) ∧ Q (.int (cell ns j)) H
theorem len__law_cell_at {K : PySem.W.Frag} (vs : List V) (H : Hp) (Q : VK) (E : XK) (h : sp__law_cell_at K vs H Q E) : vs.length = 2 := by
  obtain ⟨l, ns, j, rfl, _⟩ := h
  rfl
/-! readings of _law_cell_at; slots 0:_law_script 1:_law_k -/
def t__law_cell_at_0a_0 (K : PySem.W.Frag) : TS := (tRet (tOp (rIxL K) (tVar 0) (tVar 1)))
def t__law_cell_at_1 (K : PySem.W.Frag) : TS := (tRet (tC (.int 0)))
def t__law_cell_at_0 (K : PySem.W.Frag) : TS := (tSeq (tIfS (tTest (tOp qLt (tVar 1) (tCB (qLenQ K) (tCons (tVar 0) tNil))))
  (t__law_cell_at_0a_0 K)
  tNext) (t__law_cell_at_1 K))
abbrev n__law_cell_at : List Str := ["_law_script", "_law_k"]
theorem run__law_cell_at {K : PySem.W.Frag} {vs : List V} {H : Hp} {Q : VK} {E : XK} (h : sp__law_cell_at K vs H Q E) : t__law_cell_at_0 K (dEnd Q) (start n__law_cell_at vs) H := by
  obtain ⟨l, ns, j, rfl, hs, q⟩ := h
  refine ⟨_, rfl, _, rfl, l, _, rfl, .inl hs, _, _, rfl, rfl, _, rfl, ite_dec (fun e => ?_) fun e => ?_⟩
  · rw [List.length_map] at e
    have hj : j < ns.length := by omega
    have g : (ns.map V.int)[j]? = some (.int (cell ns j)) := by
      rw [List.getElem?_map, List.getElem?_eq_getElem hj]
      show some (V.int ns[j]) = some (V.int (ns.getD j 0))
      rw [List.getD_eq_getElem?_getD, List.getElem?_eq_getElem hj]
      rfl
    exact ⟨_, rfl, _, rfl, l, _, _, _, rfl, rfl, hs, atI_nat g, q⟩
  · rw [List.length_map] at e
    have e2 : cell ns j = 0 := by
      show ns.getD j 0 = 0
      rw [List.getD_eq_getElem?_getD, List.getElem?_eq_none (by omega)]
      rfl
    rw [e2] at q
    exact q

/-! ### a great number of the script -/
def sp__law_big (K : PySem.W.Frag) : Sp := fun vs H Q _ => ∃ (l : Addr) (ns : List Int) (j : Nat), vs = [.ref l, .int (j : Int)] ∧ SqL K H l (ns.map V.int) ∧ ∀ (b : Int) (H' : Hp), 0 ≤ b → Same H H' → Q (.int b) H'
theorem len__law_big {K : PySem.W.Frag} (vs : List V) (H : Hp) (Q : VK) (E : XK) (h : sp__law_big K vs H Q E) : vs.length = 2 := by
  obtain ⟨l, ns, j, rfl, _⟩ := h
  rfl
/-! readings of _law_big; slots 0:_law_script 1:_law_at 2:_law_by 3:_law_prime 4:_law_cell 5:_law_big_here 6:_law_k 7:_law_one -/
def t__law_big_3a_0 (K : PySem.W.Frag) : TS := (tRet (tOp qDiv (tVar 4) (tC (.int 2))))
def t__law_big_5b_1 (K : PySem.W.Frag) : TS := (tAsg (tOp qAdd (tOp qMul (tVar 5) (tC (.int 7919))) (tOp qMod (tOp qMod (tOp qMul (tVar 7) (tOp (rIxT K) (tVar 2) (tOp qMod (tVar 6) (tC (.int 8))))) (tOp (rIxT K) (tVar 3) (tOp qMod (tVar 6) (tC (.int 8))))) (tC (.int 7919)))) (gName 5))
def t__law_big_5b_0 (K : PySem.W.Frag) : TS := (tSeq (tAsg (tOp qAdd (tOp qAdd (tOp qMod (tCall (sp__law_cell_at K) [] E0 (tCons (tVar 0) (tCons (tOp qAdd (tVar 1) (tOp qMod (tVar 6) (tC (.int 9)))) tNil))) (tOp qPow (tC (.int 10)) (tC (.int 18)))) (tC (.int 1))) (tOp qMul (tVar 6) (tVar 6))) (gName 7)) (t__law_big_5b_1 K))
def t__law_big_6 (K : PySem.W.Frag) : TS := (tRet (tVar 5))
def t__law_big_5 (K : PySem.W.Frag) : TS := (tSeq (tFor (iRng1 (tCons (tC (.int 60)) tNil)) (gName 6)
  (t__law_big_5b_0 K)) (t__law_big_6 K))
def t__law_big_4 (K : PySem.W.Frag) : TS := (tSeq (tAsg (tC (.int 0)) (gName 5)) (t__law_big_5 K))
def t__law_big_3 (K : PySem.W.Frag) : TS := (tSeq (tIfS (tAnd (tTest (tOp rEq (tOp qMod (tVar 4) (tC (.int 2))) (tC (.int 0)))) (tTest (tOp qGt (tVar 4) (tOp qPow (tC (.int 10)) (tC (.int 20))))))
  (t__law_big_3a_0 K)
  tNext) (t__law_big_4 K))
def t__law_big_2 (K : PySem.W.Frag) : TS := (tSeq (tAsg (tCall (sp__law_cell_at K) [] E0 (tCons (tVar 0) (tCons (tVar 1) tNil))) (gName 4)) (t__law_big_3 K))
def t__law_big_1 (K : PySem.W.Frag) : TS := (tSeq (tAsg (tTup (tCons (tC (.int 99991)) (tCons (tC (.int 99989)) (tCons (tC (.int 99971)) (tCons (tC (.int 99961)) (tCons (tC (.int 99929)) (tCons (tC (.int 99923)) (tCons (tC (.int 99907)) (tCons (tC (.int 99901)) tNil))))))))) (gName 3)) (t__law_big_2 K))
def t__law_big_0 (K : PySem.W.Frag) : TS := (tSeq (tAsg (tTup (tCons (tC (.int 48271)) (tCons (tC (.int 69621)) (tCons (tC (.int 16807)) (tCons (tC (.int 39373)) (tCons (tC (.int 21401)) (tCons (tC (.int 60493)) (tCons (tC (.int 87721)) (tCons (tC (.int 31337)) tNil))))))))) (gName 2)) (t__law_big_1 K))
abbrev n__law_big : List Str := ["_law_script", "_law_at", "_law_by", "_law_prime", "_law_cell", "_law_big_here", "_law_k", "_law_one"]
def byL : List Int := [48271, 69621, 16807, 39373, 21401, 60493, 87721, 31337]
def primeL : List Int := [99991, 99989, 99971, 99961, 99929, 99923, 99907, 99901]
theorem lt8 {k : Nat} (h : k < 8) : k = 0 ∨ k = 1 ∨ k = 2 ∨ k = 3 ∨ k = 4 ∨ k = 5 ∨ k = 6 ∨ k = 7 := by omega
theorem at8 (xs : List Int) (h : xs.length = 8) (hp : ∀ x ∈ xs, 0 < x ∧ x < 100000) (k : Nat) : ∃ x : Int, atI (xs.map V.int) (((k : Int)) % 8) = some (.int x) ∧ 0 < x ∧ x < 100000 := by
  have e : ((k : Int) % 8) = ((k % 8 : Nat) : Int) := by omega
  have hk : k % 8 < xs.length := by omega
  refine ⟨xs[k % 8], ?_, hp _ (List.getElem_mem hk)⟩
  rw [e]
  refine atI_nat ?_
  rw [List.getElem?_map, List.getElem?_eq_getElem hk]
  rfl
theorem cell18 (ns : List Int) (k i : Nat) (hi : i < 60) : 0 ≤ cell ns k % 10 ^ ((18 : Int).toNat) + 1 + (i : Int) * (i : Int) ∧ cell ns k % 10 ^ ((18 : Int).toNat) + 1 + (i : Int) * (i : Int) < 2 ^ 61 := by
  have m0 := Int.emod_nonneg (cell ns k) (show (10 : Int) ^ ((18 : Int).toNat) ≠ 0 by decide)
  have m1 := Int.emod_lt_of_pos (cell ns k) (show (0 : Int) < 10 ^ ((18 : Int).toNat) by decide)
  have e10 : (10 : Int) ^ ((18 : Int).toNat) = 1000000000000000000 := by decide
  rw [e10] at m0 m1
  have h3 : (i : Int) * (i : Int) ≤ 60 * 60 := Int.mul_le_mul (by omega) (by omega) (by omega) (by omega)
  have h4 : 0 ≤ (i : Int) * (i : Int) := Int.mul_nonneg (by omega) (by omega)
  rw [e10]
  omega
theorem big_turn {K : PySem.W.Frag} {D : Ends} {H2 : Hp} {l p1 p2 : Addr} {j : Int} {i : Nat} {c0 b c : Int} (g1 : SqT K H2 p1 (byL.map V.int)) (g2 : SqT K H2 p2 (primeL.map V.int)) (hi : i < 60) (hb0 : 0 ≤ b) (hb : b.natAbs < 2 ^ (13 * i + 1)) (c1 : 0 ≤ c ∧ c < 2 ^ 61)
    (q : ∀ b', 0 ≤ b' → b'.natAbs < 2 ^ (13 * (i + 1) + 1) → D.nx [some (.ref l), some (.int j), some (.ref p1), some (.ref p2), some (.int c0), some (.int b'), some (.int (i : Int)), some (.int c)] H2) :
    t__law_big_5b_1 K D [some (.ref l), some (.int j), some (.ref p1), some (.ref p2), some (.int c0), some (.int b), some (.int (i : Int)), some (.int c)] H2 := by
  obtain ⟨x1, a1, l1, u1⟩ := at8 byL rfl (by decide) i
  obtain ⟨x2, a2, l2, u2⟩ := at8 primeL rfl (by decide) i
  refine ⟨_, rfl, _, _, rfl, rfl, ?_, _, rfl, _, rfl, _, rfl, _, _, rfl, rfl, cpos (by decide), p1, _, _, _, rfl, rfl, g1, a1, _, _, rfl, rfl, ?_, _, rfl, _, rfl, _, _, rfl, rfl, cpos (by decide), p2, _, _, _, rfl, rfl, g2, a2, _, _, rfl, rfl, cpos l2, _, _, rfl, rfl, cpos (by decide), _, _, rfl, rfl, q _ ?_ ?_⟩
  · exact wide_mul (a := 13 * i + 1) (b := 13) hb (by decide) (by omega) (by decide) (by omega)
  · exact wide_mul (a := 61) (b := 17) (by omega) (by omega) (by decide) (by decide) (by decide)
  · have m0 := Int.emod_nonneg (c * x1 % x2) (show (7919 : Int) ≠ 0 by decide)
    omega
  · have m0 := Int.emod_nonneg (c * x1 % x2) (show (7919 : Int) ≠ 0 by decide)
    have m1 := Int.emod_lt_of_pos (c * x1 % x2) (show (0 : Int) < 7919 by decide)
    have e : 2 ^ (13 * (i + 1) + 1) = 2 ^ (13 * i + 1) * 8192 := by
      rw [show 13 * (i + 1) + 1 = (13 * i + 1) + 13 by omega, Nat.pow_add]
    rw [e]
    omega
theorem big_loop {K : PySem.W.Frag} {H H2 : Hp} {Q : VK} {l p1 p2 : Addr} {ns : List Int} {j : Nat} {c0 : Int} (s3 : Same H H2) (hs2 : SqL K H2 l (ns.map V.int)) (g1 : SqT K H2 p1 (byL.map V.int)) (g2 : SqT K H2 p2 (primeL.map V.int))
    (q : ∀ (b : Int) (H' : Hp), 0 ≤ b → Same H H' → Q (.int b) H') : t__law_big_4 K (dEnd Q) [some (.ref l), some (.int (j : Int)), some (.ref p1), some (.ref p2), some (.int c0), none, none, none] H2 := by
  refine ⟨60, rfl, by decide, by decide, for_range (lo := 0) (n := 60) (fun i σ H' => H' = H2 ∧ ∃ (b : Int) (y1 y2 : Option V), σ = [some (.ref l), some (.int (j : Int)), some (.ref p1), some (.ref p2), some (.int c0), some (.int b), y1, y2] ∧ 0 ≤ b ∧ b.natAbs < 2 ^ (13 * i + 1)) ?_ ?_ ?_⟩
  · exact ⟨rfl, 0, none, none, rfl, by decide, by decide⟩
  · rintro i σ H' hi ⟨rfl, b, y1, y2, rfl, hb0, hb⟩
    have ei : (0 : Int) + (i : Int) = (i : Int) := by omega
    have ej : (j : Int) + (i : Int) % 9 = ((j + i % 9 : Nat) : Int) := by omega
    rw [ei]
    refine ⟨_, rfl, _, rfl, _, rfl, _, _, rfl, rfl, cpos (by decide), _, _, rfl, rfl, l, ns, j + i % 9, congrArg (fun z => [V.ref l, V.int z]) ej, hs2, ?_⟩
    refine ⟨_, _, rfl, rfl, ⟨by decide, by decide, by decide⟩, _, _, rfl, rfl, cpos (by decide), _, _, rfl, rfl, _, rfl, _, rfl, _, _, rfl, rfl, ?_, _, _, rfl, rfl, ?_⟩
    · exact wide_mul (a := 6) (b := 6) (by omega) (by omega) (by decide) (by decide) (by decide)
    · exact big_turn g1 g2 hi hb0 hb (cell18 ns _ i hi) fun b' h0 h1 => ⟨rfl, b', _, _, rfl, h0, h1⟩
  · rintro σ H' ⟨rfl, b, y1, y2, rfl, hb0, hb⟩
    exact ⟨_, rfl, q b _ hb0 s3⟩
theorem big_tail {K : PySem.W.Frag} {H H2 : Hp} {Q : VK} {l p1 p2 : Addr} {ns : List Int} {j : Nat} (s3 : Same H H2) (hs : SqL K H l (ns.map V.int)) (g1 : SqT K H2 p1 (byL.map V.int)) (g2 : SqT K H2 p2 (primeL.map V.int))
    (q : ∀ (b : Int) (H' : Hp), 0 ≤ b → Same H H' → Q (.int b) H') : t__law_big_2 K (dEnd Q) [some (.ref l), some (.int (j : Int)), some (.ref p1), some (.ref p2), none, none, none, none] H2 := by
  have hs2 := s3.seq hs
  refine ⟨_, rfl, _, rfl, l, ns, j, rfl, hs2, ?_⟩
  refine ⟨_, rfl, _, _, rfl, rfl, cpos (by decide), rfl, _, rfl, ite_dec (fun e => ?_) fun e => iteF (big_loop s3 hs2 g1 g2 q)⟩
  refine ⟨_, rfl, _, _, rfl, rfl, ⟨by decide, by decide, by decide⟩, _, _, rfl, rfl, _, rfl, ite_dec (fun e => ?_) fun e => big_loop s3 hs2 g1 g2 q⟩
  refine ⟨_, rfl, _, _, rfl, rfl, ⟨by decide, by decide⟩, q _ _ ?_ s3⟩
  have e10 : (10 : Int) ^ ((20 : Int).toNat) = 100000000000000000000 := by decide
  rw [e10] at e
  omega
theorem run__law_big {K : PySem.W.Frag} {vs : List V} {H : Hp} {Q : VK} {E : XK} (h : sp__law_big K vs H Q E) : t__law_big_0 K (dEnd Q) (start n__law_big vs) H := by
  obtain ⟨l, ns, j, rfl, hs, q⟩ := h
  refine ⟨by decide, fun p1 n1 => ⟨by decide, fun p2 n2 => ?_⟩⟩
  have s1 : Same H (upd H p1 (.tup (byL.map V.int))) := same_upd n1
  have s2 : Same (upd H p1 (.tup (byL.map V.int))) (upd (upd H p1 (.tup (byL.map V.int))) p2 (.tup (primeL.map V.int))) := same_upd n2
  exact big_tail (s1.trans s2) hs (.inl (.inl (s2 _ _ upd_same))) (.inl (.inl upd_same)) q
end Tw

set_option Elab.async false
set_option linter.all false
set_option maxRecDepth 100000
set_option maxHeartbeats 4000000
namespace Tw
open PySem PySem.Spec L2
open PyProof.Rows hiding St

/-! ### names -/
def SG : List Nat := (Str.ofString "abcdefghijklmnopqrstuvwxyz0123456789").cps.toList
def isNm (z : Str) : Bool := decide (z.length ≠ 0 ∧ z.length ≤ 8) && z.cps.toList.all (fun c => decide (c ∈ SG))
theorem str_len (z : Str) : z.length = z.cps.toList.length := by simp [Str.length]
theorem str_len_app (a b : Str) : (a ++ b).length = a.length + b.length := by
  show (a.cps ++ b.cps).size = a.cps.size + b.cps.size
  simp
theorem str_empty {z : Str} : z = Str.ofString "" ↔ z.length = 0 := by
  have e : Str.ofString "" = ⟨#[]⟩ := by decide +kernel
  rw [e]
  constructor
  · intro h
    rw [h]
    rfl
  · intro h
    obtain ⟨a⟩ := z
    have : a.size = 0 := h
    rw [show a = #[] by simpa using this]
theorem take_snoc_all {P : Nat → Prop} {xs : List Nat} {i c : Nat} (h : xs[i]? = some c) (hp : ∀ x ∈ xs.take i, P x) (hc : P c) : ∀ x ∈ xs.take (i + 1), P x := by
  intro x hx
  rw [List.take_add_one, h] at hx
  rcases List.mem_append.mp hx with q | q
  · exact hp x q
  · have : x = c := by simpa using q
    rw [this]
    exact hc
theorem small_line {n : Nat} (h : n ≤ 100000) : n ≤ sizeLine := Nat.le_trans h (by decide)
def sp_is_name (K : PySem.W.Frag) : Sp := fun vs H Q _ => ∃ x, vs = [x] ∧ ((∃ z, x = .str z ∧ z.length ≤ sizeLine ∧ Q (.bl (isNm z)) H) ∨ ((∃ t, TyX K H x t ∧ PySem.W.kitOne K t (.type "str") = some false) ∧ Q (.bl false) H))
theorem len_is_name {K : PySem.W.Frag} (vs : List V) (H : Hp) (Q : VK) (E : XK) (h : sp_is_name K vs H Q E) : vs.length = 1 := by
  obtain ⟨x, rfl, _⟩ := h
  rfl
/-! readings of is_name; slots 0:thing 1:sign -/
def t_is_name_0a_0 (K : PySem.W.Frag) : TS := (tRet (tC (.bl false)))
def t_is_name_1b_0a_0 (K : PySem.W.Frag) : TS := (tRet (tC (.bl false)))
def t_is_name_1b_0 (K : PySem.W.Frag) : TS := (tIfS (tTest (tOp qNotInSign (tVar 1) (tC (.str "abcdefghijklmnopqrstuvwxyz0123456789"))))
  (t_is_name_1b_0a_0 K)
  tNext)
def t_is_name_2 (K : PySem.W.Frag) : TS := (tRet (tC (.bl true)))
def t_is_name_1 (K : PySem.W.Frag) : TS := (tSeq (tFor (iStr (tVar 0)) (gName 1)
  (t_is_name_1b_0 K)) (t_is_name_2 K))
def t_is_name_0 (K : PySem.W.Frag) : TS := (tSeq (tIfS (tOr (tNot (tB (tCB (rIsi K) (tCons (tVar 0) (tCons (tC (.ty "str")) tNil))))) (tOr (tTest (tOp rEq (tVar 0) (tC (.str "")))) (tTest (tOp qGt (tCB qLenS (tCons (tVar 0) tNil)) (tC (.int 8))))))
  (t_is_name_0a_0 K)
  tNext) (t_is_name_1 K))
abbrev n_is_name : List Str := ["thing", "sign"]
theorem name_loop {K : PySem.W.Frag} {H : Hp} {Q : VK} {z : Str} {y : Option V} (h0 : z.length ≠ 0 ∧ z.length ≤ 8) (q : Q (.bl (isNm z)) H) : t_is_name_1 K (dEnd Q) [some (.str z), y] H := by
  refine ⟨_, rfl, z, rfl, for_str (fun i σ H' => H' = H ∧ (∃ y, σ = [some (.str z), y]) ∧ ∀ c ∈ z.cps.toList.take i, c ∈ SG) ⟨rfl, ⟨_, rfl⟩, by simp⟩ ?_ ?_⟩
  · rintro i c σ H' hc ⟨rfl, ⟨y, rfl⟩, hp⟩
    refine ⟨_, rfl, c, _, rfl, rfl, _, rfl, ite_ndec (fun e => ?_) fun e => ?_⟩
    · have ne : isNm z = false := by
        unfold isNm
        rw [Bool.and_eq_false_iff]
        refine .inr ?_
        rw [List.all_eq_false]
        exact ⟨c, List.mem_of_getElem? hc, by rw [decide_eq_false (show ¬ c ∈ SG from e)]; exact Bool.false_ne_true⟩
      rw [ne] at q
      exact q
    · exact ⟨rfl, ⟨_, rfl⟩, take_snoc_all hc hp e⟩
  · rintro σ H' ⟨rfl, ⟨y, rfl⟩, hp⟩
    have ye : isNm z = true := by
      unfold isNm
      rw [Bool.and_eq_true]
      refine ⟨decide_eq_true h0, ?_⟩
      rw [List.all_eq_true]
      intro c hc
      refine decide_eq_true (hp c ?_)
      rw [List.take_length]
      exact hc
    rw [ye] at q
    exact q
theorem run_is_name {K : PySem.W.Frag} {vs : List V} {H : Hp} {Q : VK} {E : XK} (h : sp_is_name K vs H Q E) : t_is_name_0 K (dEnd Q) (start n_is_name vs) H := by
  obtain ⟨x, rfl, h⟩ := h
  rcases h with ⟨z, rfl, hz, q⟩ | ⟨⟨t, ht, hk⟩, q⟩
  · refine ⟨_, rfl, _, _, _, _, true, rfl, .ty _, .base (.str z), kit_ty (by decide +kernel), true, rfl, iteF ?_⟩
    refine ⟨_, rfl, rfl, _, rfl, ?_⟩
    have hs : (V.str z = V.str (Str.ofString "")) ↔ z.length = 0 := by
      rw [← str_empty]
      constructor
      · intro e
        exact V.str.inj e
      · intro e
        rw [e]
    refine ite_dec (fun e => ?_) fun e => ?_
    · have ne : isNm z = false := by
        unfold isNm
        rw [decide_eq_false (fun w => w.1 (hs.mp e))]
        rfl
      rw [ne] at q
      exact q
    · refine ⟨_, rfl, z, rfl, hz, _, _, rfl, rfl, _, rfl, ite_dec (fun e2 => ?_) fun e2 => ?_⟩
      · have ne : isNm z = false := by
          unfold isNm
          rw [decide_eq_false (fun w => absurd w.2 (by omega))]
          rfl
        rw [ne] at q
        exact q
      · exact name_loop ⟨fun w => e (hs.mpr w), by omega⟩ q
  · exact ⟨_, rfl, _, _, _, _, false, rfl, .ty _, ht, hk, false, rfl, iteT q⟩
end Tw

set_option Elab.async false
set_option linter.all false
set_option maxRecDepth 100000
set_option maxHeartbeats 4000000
namespace Tw
open PySem PySem.Spec L2
open PyProof.Rows hiding St

/-! ### heaps -/
theorem same_put {H0 H : Hp} {p : Addr} {o : HO} (s : Same H0 H) (h : H0 p = none) : Same H0 (upd H p o) := fun b x e => by
  rw [upd_ne (ne_of_none e h)]
  exact s b x e
theorem same_new {H0 H : Hp} {p : Addr} {o : HO} (s : Same H0 H) (h : H p = none) : Same H0 (upd H p o) := s.trans (same_upd h)
theorem sqL_of {K : PySem.W.Frag} {H : Hp} {a : Addr} {xs : List V} (h : H a = some (.lst xs)) : SqL K H a xs := .inl (.inl h)
theorem sqT_of {K : PySem.W.Frag} {H : Hp} {a : Addr} {xs : List V} (h : H a = some (.tup xs)) : SqT K H a xs := .inl (.inl h)
theorem ne_kind {H : Hp} {a b : Addr} {xs ys : List V} (h : H a = some (.lst xs)) (h' : H b = some (.tup ys)) : a ≠ b := ne_of h h' (by intro z; cases z)

/-! ### rows: a row's tuple, its list, its name, its ties -/
structure RC where
  p : Addr
  l : Addr
  n : Str
  ts : List Str
def RC.r (c : RC) : Str × List Str := (c.n, c.ts)
structure RC.ok (c : RC) (H : Hp) : Prop where
  tp : H c.p = some (.tup [.str c.n, .ref c.l])
  ls : H c.l = some (.lst (c.ts.map V.str))
structure Rows (H : Hp) (a : Addr) (cs : List RC) : Prop where
  top : H a = some (.lst (cs.map fun c => V.ref c.p))
  row : ∀ c ∈ cs, c.ok H
theorem RC.ok.same {c : RC} {H H' : Hp} (s : Same H H') (h : c.ok H) : c.ok H' := ⟨s _ _ h.tp, s _ _ h.ls⟩
theorem Rows.same {H H' : Hp} {a : Addr} {cs : List RC} (s : Same H H') (h : Rows H a cs) : Rows H' a cs := ⟨s _ _ h.top, fun c hc => (h.row c hc).same s⟩
/-- all of it new, and apart -/
structure NewRows (H : Hp) (b : Addr) (cs : List RC) : Prop where
  fb : H b = none
  fc : ∀ c ∈ cs, H c.p = none ∧ H c.l = none
  nd : (cs.map RC.l).Nodup
  nb : ∀ c ∈ cs, c.p ≠ b ∧ c.l ≠ b
theorem at_map {α : Type} {f : α → V} {cs : List α} {i : Nat} {x : V} (h : (cs.map f)[i]? = some x) : ∃ c, cs[i]? = some c ∧ x = f c := by
  rw [List.getElem?_map] at h
  cases e : cs[i]? with
  | none =>
    rw [e] at h
    cases h
  | some c =>
    rw [e] at h
    exact ⟨c, rfl, (Option.some.inj h).symm⟩
theorem take_map_succ {α β : Type} {f : α → β} {cs : List α} {i : Nat} {c : α} (h : cs[i]? = some c) : (cs.take (i + 1)).map f = (cs.take i).map f ++ [f c] := by
  rw [List.take_add_one, h, List.map_append]
  rfl
theorem take_succ_of {α : Type} {cs : List α} {i : Nat} {c : α} (h : cs[i]? = some c) : cs.take (i + 1) = cs.take i ++ [c] := by
  rw [List.take_add_one, h]
  rfl

/-! ### a copy -/
/-- what a comprehension has made so far of new rows -/
structure CopyW (H H' : Hp) (D : Addr) (rs : List (Str × List Str)) : Prop where
  same : Same H H'
  fd : H D = none
  ex : ∃ cs, Rows H' D cs ∧ cs.map RC.r = rs ∧ NewRows H D cs
theorem CopyW.start {H : Hp} {D : Addr} (h : H D = none) : CopyW H (upd H D (.lst [])) D [] :=
  ⟨same_upd h, h, [], ⟨upd_same, by simp⟩, rfl, ⟨h, by simp, by simp, by simp⟩⟩
theorem CopyW.snoc {H H' : Hp} {D l p : Addr} {rs : List (Str × List Str)} {n : Str} {ts : List Str} (w : CopyW H H' D rs) (hl : H' l = none) (hp : (upd H' l (.lst (ts.map V.str))) p = none) :
    ∃ acc, (upd (upd H' l (.lst (ts.map V.str))) p (.tup [.str n, .ref l])) D = some (.lst acc) ∧ acc.length = rs.length ∧
      CopyW H (upd (upd (upd H' l (.lst (ts.map V.str))) p (.tup [.str n, .ref l])) D (.lst (acc ++ [.ref p]))) D (rs ++ [(n, ts)]) := by
  obtain ⟨s, fd, cs, R, er, N⟩ := w
  have s1 : Same H' (upd H' l (.lst (ts.map V.str))) := same_upd hl
  have s2 : Same (upd H' l (.lst (ts.map V.str))) (upd (upd H' l (.lst (ts.map V.str))) p (.tup [.str n, .ref l])) := same_upd hp
  have s3 := s1.trans s2
  have lD : l ≠ D := fun e => by
    rw [e, R.top] at hl
    cases hl
  have pD : p ≠ D := fun e => by
    rw [e, s1 _ _ R.top] at hp
    cases hp
  have lp : l ≠ p := fun e => by
    rw [← e, upd_same] at hp
    cases hp
  have hp' : H' p = none := s1.free hp
  refine ⟨_, s3 _ _ R.top, by rw [List.length_map, ← er, List.length_map], same_put (s.trans s3) fd, fd, cs ++ [⟨p, l, n, ts⟩], ⟨?_, ?_⟩, ?_, ?_⟩
  · rw [upd_same, List.map_append]
    rfl
  · intro c hc
    rcases List.mem_append.mp hc with q | q
    · have o := (R.row c q).same s3
      have h1 := N.nb c q
      exact ⟨by rw [upd_ne h1.1]; exact o.tp, by rw [upd_ne h1.2]; exact o.ls⟩
    · have e : c = ⟨p, l, n, ts⟩ := by simpa using q
      subst e
      exact ⟨by rw [upd_ne pD, upd_same], by rw [upd_ne lD]; exact s2 _ _ upd_same⟩
  · rw [List.map_append, er]
    rfl
  · refine ⟨fd, ?_, ?_, ?_⟩
    · intro c hc
      rcases List.mem_append.mp hc with q | q
      · exact N.fc c q
      · have e : c = ⟨p, l, n, ts⟩ := by simpa using q
        subst e
        exact ⟨s.free hp', s.free hl⟩
    · rw [List.map_append]
      refine nd_snoc N.nd fun m => ?_
      obtain ⟨c, hc, ec⟩ := List.mem_map.mp m
      have o := (R.row c hc).ls
      rw [ec] at o
      rw [show H' l = some _ from o] at hl
      cases hl
    · intro c hc
      rcases List.mem_append.mp hc with q | q
      · exact N.nb c q
      · have e : c = ⟨p, l, n, ts⟩ := by simpa using q
        subst e
        exact ⟨pD, lD⟩
theorem lt_line {n : Nat} (h : n ≤ 100000) : n < sizeLine := Nat.lt_of_le_of_lt h (by decide)
def spCopy (K : PySem.W.Frag) : Sp := fun vs H Q _ => ∃ (a : Addr) (cs : List RC), vs = [.ref a] ∧ Rows H a cs ∧ cs.length ≤ 1000 ∧
  ∀ H' b cs', Same H H' → Rows H' b cs' → cs'.map RC.r = cs.map RC.r → NewRows H b cs' → Q (.ref b) H'
theorem lenCopy {K : PySem.W.Frag} (vs : List V) (H : Hp) (Q : VK) (E : XK) (h : spCopy K vs H Q E) : vs.length = 1 := by
  obtain ⟨a, cs, rfl, _⟩ := h
  rfl
abbrev sp__law_copy := spCopy
theorem len__law_copy {K : PySem.W.Frag} (vs : List V) (H : Hp) (Q : VK) (E : XK) (h : sp__law_copy K vs H Q E) : vs.length = 1 := lenCopy vs H Q E h
/-! readings of _law_copy; slots 0:_law_rows 1:_law_row -/
def t__law_copy_0 (K : PySem.W.Frag) : TS := (tRet (tLc (iList K (tVar 0)) (gName 1) tYes (tTup (tCons (tOp (rIxT K) (tVar 1) (tC (.int 0))) (tCons (tCB (qListOf K) (tCons (tOp (rIxT K) (tVar 1) (tC (.int 1))) tNil)) tNil))) [1]))
abbrev n__law_copy : List Str := ["_law_rows", "_law_row"]
theorem run__law_copy {K : PySem.W.Frag} {vs : List V} {H : Hp} {Q : VK} {E : XK} (h : sp__law_copy K vs H Q E) : t__law_copy_0 K (dEnd Q) (start n__law_copy vs) H := by
  obtain ⟨a, cs, rfl, R, hl, q⟩ := h
  refine ⟨_, rfl, a, rfl, ⟨_, sqL_of R.top⟩, fun D nD => lc_list (K := K) (a := a) (xs := cs.map fun c => V.ref c.p) (fun i H' => CopyW H H' D ((cs.take i).map RC.r)) (CopyW.start nD) (fun i H' _ w => sqL_of (w.same _ _ R.top)) ?_ ?_⟩
  · intro i x H' hx w
    obtain ⟨c, hc, rfl⟩ := at_map hx
    have o := (R.row c (List.mem_of_getElem? hc)).same w.same
    have hi : i < cs.length := (List.getElem?_eq_some_iff.mp hc).1
    refine ⟨rfl, ⟨_, rfl, c.p, _, _, _, rfl, rfl, sqT_of o.tp, atI_nat (j := 0) rfl, _, rfl, c.p, _, _, _, rfl, rfl, sqT_of o.tp, atI_nat (j := 1) rfl, c.l, _, rfl, .inl (sqL_of o.ls), fun l hl' => ⟨small_line (by simp), fun p hp => ?_⟩⟩⟩
    obtain ⟨acc, e1, e2, w'⟩ := w.snoc (n := c.n) hl' hp
    refine ⟨acc, e1, lt_line (by rw [e2, List.length_map, List.length_take]; omega), ?_⟩
    rw [take_map_succ hc]
    exact w'
  · intro H' w
    obtain ⟨s, fd, cs', R', er, N⟩ := w
    rw [List.length_map, List.take_length] at er
    exact q H' D cs' s R' er N
end Tw

set_option Elab.async false
set_option linter.all false
set_option maxRecDepth 100000
set_option maxHeartbeats 4000000
namespace Tw
open PySem PySem.Spec L2 TL
open PyProof.Rows hiding St

/-! ### texts of rows -/
theorem tl_str (z : Str) : z.cps.toList = tl z := rfl
theorem joinL_len (S : List Nat) : ∀ ps : List (List Nat), (joinL S ps).length ≤ (ps.map List.length).sum + ps.length * S.length
  | [] => by simp [joinL]
  | [p] => by simp [joinL]
  | p :: q :: r => by
    have ih := joinL_len S (q :: r)
    show (p ++ (S ++ joinL S (q :: r))).length ≤ _
    rw [List.length_append, List.length_append, List.map_cons, List.sum_cons, List.length_cons, Nat.add_mul]
    omega
theorem joinL_snoc (S p : List Nat) : ∀ ps : List (List Nat), ps ≠ [] → joinL S (ps ++ [p]) = joinL S ps ++ (S ++ p)
  | [], h => absurd rfl h
  | [q], _ => rfl
  | a :: b :: r, _ => by
    show a ++ (S ++ joinL S ((b :: r) ++ [p])) = a ++ (S ++ joinL S (b :: r)) ++ (S ++ p)
    rw [joinL_snoc S p (b :: r) (by simp)]
    simp
theorem tl_joinT (y : Str) (ps : List Str) : tl (Txt.join y ps) = joinL (tl y) (ps.map tl) := by rw [join_eq, tl_join]
def showRow (r : Str × List Str) : Str := r.1 ++ Str.ofString ":" ++ Txt.join (Str.ofString "") (r.2.map fun t => Str.ofString " " ++ t)
def showRows (rs : List (Str × List Str)) : Str := Txt.join (Str.ofString "; ") (rs.map showRow)
/-- the signs of a row -/
def txtRow (r : Str × List Str) : List Nat := tl r.1 ++ [58] ++ r.2.flatMap fun t => 32 :: tl t
theorem joinL_empty : ∀ ps : List (List Nat), joinL [] ps = ps.flatten
  | [] => rfl
  | [p] => by simp [joinL]
  | p :: q :: r => by
    show p ++ ([] ++ joinL [] (q :: r)) = _
    rw [joinL_empty (q :: r)]
    simp
theorem tl_colon : tl (Str.ofString ":") = [58] := by decide +kernel
theorem tl_blank : tl (Str.ofString " ") = [32] := by decide +kernel
theorem tl_none : tl (Str.ofString "") = [] := by decide +kernel
theorem tl_semi : tl (Str.ofString "; ") = [59, 32] := by decide +kernel
theorem tl_showRow (r : Str × List Str) : tl (showRow r) = txtRow r := by
  unfold showRow txtRow
  rw [tl_append, tl_append, tl_joinT, tl_colon, tl_none, joinL_empty, List.map_map, List.flatMap_def]
  congr 3
  funext t
  show tl (Str.ofString " " ++ t) = 32 :: tl t
  rw [tl_append, tl_blank]
  rfl
theorem tl_showRows (rs : List (Str × List Str)) : tl (showRows rs) = joinL [59, 32] (rs.map txtRow) := by
  unfold showRows
  rw [tl_joinT, tl_semi, List.map_map]
  congr 1
  exact List.map_congr_left fun r _ => tl_showRow r
/-- names that are none too long, lists that are none too long -/
structure Small (rs : List (Str × List Str)) : Prop where
  len : rs.length ≤ 100
  row : ∀ r ∈ rs, r.1.length ≤ 8 ∧ r.2.length ≤ 100 ∧ ∀ t ∈ r.2, t.length ≤ 8
theorem sum_le {l : List Nat} {m : Nat} (h : ∀ x ∈ l, x ≤ m) : l.sum ≤ l.length * m := by
  induction l with
  | nil => simp
  | cons a r ih =>
    have h1 := h a List.mem_cons_self
    have h2 := ih fun x hx => h x (List.mem_cons_of_mem _ hx)
    rw [List.sum_cons, List.length_cons, Nat.add_mul]
    omega
theorem row_len {r : Str × List Str} (h : r.1.length ≤ 8 ∧ r.2.length ≤ 100 ∧ ∀ t ∈ r.2, t.length ≤ 8) : (showRow r).length ≤ 909 := by
  rw [len_tl, tl_showRow]
  unfold txtRow
  rw [List.length_append, List.length_append, ← len_tl, List.flatMap_def, List.length_flatten, List.map_map]
  have h2 : ∀ x ∈ r.2.map (List.length ∘ fun t => 32 :: tl t), x ≤ 9 := fun x hx => by
    obtain ⟨t, ht, e⟩ := List.mem_map.mp hx
    have := h.2.2 t ht
    rw [len_tl] at this
    rw [← e]
    show (32 :: tl t).length ≤ 9
    rw [List.length_cons]
    omega
  have h3 := sum_le h2
  rw [List.length_map] at h3
  have h4 : r.2.length * 9 ≤ 100 * 9 := Nat.mul_le_mul_right 9 h.2.1
  have h5 := h.1
  show r.1.length + 1 + _ ≤ 909
  omega
theorem rows_len {rs : List (Str × List Str)} (h : Small rs) : (showRows rs).length ≤ 91100 ∧ ((rs.map showRow).map (·.length)).sum + (rs.map showRow).length * (Str.ofString "; ").length ≤ 91100 := by
  have h1 : ∀ x ∈ (rs.map showRow).map (·.length), x ≤ 909 := fun x hx => by
    obtain ⟨y, hy, e⟩ := List.mem_map.mp hx
    obtain ⟨r, hr, e2⟩ := List.mem_map.mp hy
    rw [← e, ← e2]
    exact row_len (h.row r hr)
  have h2 := sum_le h1
  have el : (Str.ofString "; ").length = 2 := by decide +kernel
  rw [List.length_map, List.length_map] at h2
  have h3 : rs.length * 909 ≤ 100 * 909 := Nat.mul_le_mul_right 909 h.len
  have h4 := h.len
  have h5 : ((rs.map showRow).map (·.length)).sum + (rs.map showRow).length * (Str.ofString "; ").length ≤ 91100 := by
    rw [el, List.length_map]
    omega
  refine ⟨?_, h5⟩
  rw [len_tl]
  unfold showRows
  rw [tl_joinT]
  have h6 := joinL_len (tl (Str.ofString "; ")) ((rs.map showRow).map tl)
  have e6 : ((rs.map showRow).map tl).map List.length = (rs.map showRow).map (·.length) := by
    rw [List.map_map]
    exact List.map_congr_left fun z _ => (len_tl z).symm
  rw [e6, List.length_map, ← len_tl] at h6
  omega

/-! ### shown -/
def sp_shown (K : PySem.W.Frag) : Sp := fun vs H Q _ => ∃ (a : Addr) (cs : List RC), vs = [.ref a] ∧ Rows H a cs ∧ Small (cs.map RC.r) ∧ ∀ H', Same H H' → Q (.str (showRows (cs.map RC.r))) H'
theorem len_shown {K : PySem.W.Frag} (vs : List V) (H : Hp) (Q : VK) (E : XK) (h : sp_shown K vs H Q E) : vs.length = 1 := by
  obtain ⟨a, cs, rfl, _⟩ := h
  rfl
/-! readings of shown; slots 0:rows 1:parts 2:point 3:ties 4:tie -/
def t_shown_1b_0 (K : PySem.W.Frag) : TS := (tDrop (tBM K "list" rAppend (tVar 1) (tCons (tOp qCatS (tOp qCatS (tVar 2) (tC (.str ":"))) (tM1 (qJoin K) (tC (.str "")) (tLc (iList K (tVar 3)) (gName 4) tYes (tOp qCatS (tC (.str " ")) (tVar 4)) [4]))) tNil)))
def t_shown_2 (K : PySem.W.Frag) : TS := (tRet (tM1 (qJoin K) (tC (.str "; ")) (tVar 1)))
def t_shown_1 (K : PySem.W.Frag) : TS := (tSeq (tFor (iList K (tVar 0)) (gTup K 2 (gCons (gName 2) (gCons (gName 3) gNil)))
  (t_shown_1b_0 K)) (t_shown_2 K))
def t_shown_0 (K : PySem.W.Frag) : TS := (tSeq (tAsg (tLst tNil) (gName 1)) (t_shown_1 K))
abbrev n_shown : List Str := ["rows", "parts", "point", "ties", "tie"]
theorem run_shown {K : PySem.W.Frag} {vs : List V} {H : Hp} {Q : VK} {E : XK} (h : sp_shown K vs H Q E) : t_shown_0 K (dEnd Q) (start n_shown vs) H := by
  obtain ⟨a, cs, rfl, R, hS, q⟩ := h
  have hlen : cs.length ≤ 100 := by
    have := hS.len
    rw [List.length_map] at this
    exact this
  refine ⟨small_line (by simp), fun o no => ?_⟩
  refine ⟨_, rfl, a, rfl, ⟨_, sqL_of (same_upd no _ _ R.top)⟩, for_list (xs := cs.map fun c => V.ref c.p) (fun i σ H' => ∃ y2 y3 y4, σ = [some (.ref a), some (.ref o), y2, y3, y4] ∧ Same H H' ∧ H' o = some (.lst (((cs.take i).map fun c => showRow c.r).map V.str))) ⟨none, none, none, rfl, same_upd no, upd_same⟩ (fun i σ H' _ w => ?_) ?_ ?_⟩
  · obtain ⟨_, _, _, _, s, _⟩ := w
    exact sqL_of (s _ _ R.top)
  · rintro i x σ H' hx ⟨y2, y3, y4, rfl, s, eo⟩
    obtain ⟨c, hc, rfl⟩ := at_map hx
    have o1 := (R.row c (List.mem_of_getElem? hc)).same s
    have hr := hS.row c.r (List.mem_map.mpr ⟨c, List.mem_of_getElem? hc, rfl⟩)
    refine ⟨c.p, _, rfl, sqT_of o1.tp, rfl, _, _, rfl, _, _, rfl, rfl, ?_⟩
    refine ⟨_, rfl, .inl ⟨rfl, _, sqL_of eo⟩, _, rfl, _, _, rfl, rfl, ?_, ⟨_, rfl⟩, _, rfl, c.l, rfl, ⟨_, sqL_of o1.ls⟩, fun D nD => ?_⟩
    · refine small_line ?_
      have h1 : c.n.length ≤ 8 := hr.1
      show c.n.length + 1 ≤ 100000
      omega
    have nDo : o ≠ D := ne_of_none eo nD
    refine lc_list (K := K) (a := c.l) (xs := c.ts.map V.str) (fun j H2 => Same H' H2 ∧ H2 D = some (.lst (((c.ts.take j).map fun t => Str.ofString " " ++ t).map V.str))) ⟨same_upd nD, upd_same⟩ (fun j H2 _ w => sqL_of (w.1 _ _ o1.ls)) ?_ ?_
    · rintro j x H2 hx ⟨s2, eD⟩
      obtain ⟨t, ht, rfl⟩ := at_map hx
      have hj : j < c.ts.length := (List.getElem?_eq_some_iff.mp ht).1
      have ht2 : t.length ≤ 8 := hr.2.2 t (List.mem_of_getElem? ht)
      have hj2 : c.ts.length ≤ 100 := hr.2.1
      refine ⟨rfl, ⟨_, rfl, _, _, rfl, rfl, ?_, _, eD, ?_, same_put s2 nD, ?_⟩⟩
      · refine small_line ?_
        show 1 + t.length ≤ 100000
        omega
      · refine lt_line ?_
        rw [List.length_map, List.length_map, List.length_take]
        omega
      · rw [upd_same, take_map_succ ht, List.map_append]
        rfl
    · rintro H2 ⟨s2, eD⟩
      rw [List.length_map, List.take_length] at eD
      have hsum : ((c.ts.map fun t => Str.ofString " " ++ t).map (·.length)).sum ≤ 900 := by
        have h2 : ∀ x ∈ (c.ts.map fun t => Str.ofString " " ++ t).map (·.length), x ≤ 9 := fun x hx => by
          obtain ⟨y, hy, e⟩ := List.mem_map.mp hx
          obtain ⟨t, ht, e2⟩ := List.mem_map.mp hy
          have h8 := hr.2.2 t ht
          rw [← e, ← e2, str_len_app]
          show 1 + t.length ≤ 9
          omega
        have h3 := sum_le h2
        rw [List.length_map, List.length_map] at h3
        have h4 : c.ts.length * 9 ≤ 100 * 9 := Nat.mul_le_mul_right 9 hr.2.1
        omega
      have hpart := row_len hr
      refine ⟨_, D, _, rfl, rfl, .inl (sqL_of eD), ?_, _, _, rfl, rfl, ?_, o, _, _, rfl, rfl, s2 _ _ eo, ?_, ?_⟩
      · have e0 : (Str.ofString "").length = 0 := by decide +kernel
        rw [e0]
        omega
      · refine small_line ?_
        have := str_len_app (c.n ++ Str.ofString ":") (Txt.join (Str.ofString "") (c.ts.map fun t => Str.ofString " " ++ t))
        rw [← this]
        exact Nat.le_trans hpart (by decide)
      · refine lt_line ?_
        rw [List.length_map, List.length_map, List.length_take]
        omega
      · refine ⟨_, _, _, rfl, ?_, ?_⟩
        · exact same_put (s.trans s2) no
        · rw [upd_same, take_map_succ hc, List.map_append]
          rfl
  · rintro σ H' ⟨y2, y3, y4, rfl, s, eo⟩
    rw [List.length_map, List.take_length] at eo
    have h5 := (rows_len hS).2
    have em : (cs.map RC.r).map showRow = cs.map fun c => showRow c.r := by rw [List.map_map]; rfl
    rw [em] at h5
    refine ⟨⟨_, rfl⟩, _, rfl, _, o, _, rfl, rfl, .inl (sqL_of eo), Nat.le_trans h5 (by decide), ?_⟩
    have := q H' s
    unfold showRows at this
    rw [em] at this
    exact this
end Tw

set_option Elab.async false
set_option linter.all false
set_option maxRecDepth 100000
set_option maxHeartbeats 4000000
namespace Tw
open PySem PySem.Spec L2 TL
open PyProof.Rows hiding St

/-! ### names have no odd signs -/
theorem nm_len {z : Str} (h : isNm z = true) : z.length ≠ 0 ∧ z.length ≤ 8 := by
  unfold isNm at h
  exact of_decide_eq_true (Bool.and_eq_true_iff.mp h).1
theorem nm_in {z : Str} (h : isNm z = true) : ∀ c ∈ tl z, c ∈ SG := by
  unfold isNm at h
  intro c hc
  have := List.all_eq_true.mp (Bool.and_eq_true_iff.mp h).2 c hc
  exact of_decide_eq_true this
theorem sg_odd : (32 ∉ SG ∧ 58 ∉ SG ∧ 59 ∉ SG) := by decide +kernel
theorem nm_32 {z : Str} (h : isNm z = true) : 32 ∉ tl z := fun w => sg_odd.1 (nm_in h _ w)
theorem nm_58 {z : Str} (h : isNm z = true) : 58 ∉ tl z := fun w => sg_odd.2.1 (nm_in h _ w)
theorem nm_59 {z : Str} (h : isNm z = true) : 59 ∉ tl z := fun w => sg_odd.2.2 (nm_in h _ w)
structure GoodRow (r : Str × List Str) : Prop where
  n : isNm r.1 = true
  ts : ∀ t ∈ r.2, isNm t = true
  len : r.2.length ≤ 100
theorem GoodRow.sm {r : Str × List Str} (h : GoodRow r) : r.1.length ≤ 8 ∧ r.2.length ≤ 100 ∧ ∀ t ∈ r.2, t.length ≤ 8 := ⟨(nm_len h.n).2, h.len, fun t ht => (nm_len (h.ts t ht)).2⟩
theorem joinL_head (p : List Nat) : ∀ (s : Nat) (qs : List (List Nat)), joinL [s] (p :: qs) = p ++ qs.flatMap fun q => s :: q
  | _, [] => by simp [joinL]
  | s, q :: r => by
    show p ++ ([s] ++ joinL [s] (q :: r)) = _
    rw [joinL_head q s r]
    simp
theorem txtRow_join (r : Str × List Str) : txtRow r = joinL [32] ((tl r.1 ++ [58]) :: r.2.map tl) := by
  rw [joinL_head, txtRow, List.flatMap_map]
theorem split_row {r : Str × List Str} (h : GoodRow r) : Txt.split (showRow r) (Str.ofString " ") = (r.1 ++ Str.ofString ":") :: r.2 := by
  refine map_tl_inj ?_
  rw [split_spl _ _ (by rw [tl_blank]; simp) (kind_ok (by decide +kernel)), tl_blank, tl_showRow, txtRow_join]
  rw [spl_join (by simp)]
  · rw [List.map_cons, tl_append, tl_colon]
  · intro p hp
    rcases List.mem_cons.mp hp with e | e
    · rw [e]
      intro w
      rcases List.mem_append.mp w with w | w
      · exact nm_32 h.n w
      · simp at w
    · obtain ⟨t, ht, e2⟩ := List.mem_map.mp e
      rw [← e2]
      exact nm_32 (h.ts t ht)
theorem row_59 {r : Str × List Str} (h : GoodRow r) : 59 ∉ tl (showRow r) := by
  rw [tl_showRow]
  unfold txtRow
  intro w
  rcases List.mem_append.mp w with w | w
  · rcases List.mem_append.mp w with w | w
    · exact nm_59 h.n w
    · simp at w
  · obtain ⟨t, ht, w⟩ := List.mem_flatMap.mp w
    rcases List.mem_cons.mp w with w | w
    · cases w
    · exact nm_59 (h.ts t ht) w
theorem split_rows {rs : List (Str × List Str)} (h : ∀ r ∈ rs, GoodRow r) (hne : rs ≠ []) : Txt.split (showRows rs) (Str.ofString "; ") = rs.map showRow := by
  unfold showRows
  refine split_join (s := 59) (S := [32]) tl_semi (by decide +kernel) (by simpa using hne) ?_
  intro p hp
  obtain ⟨r, hr, e⟩ := List.mem_map.mp hp
  rw [← e]
  exact row_59 (h r hr)
theorem tl_cut (z : Str) (lo hi : Option Int) : tl (cutS z lo hi) = ((tl z).drop (HT.sIx z.length 0 lo)).take (HT.sIx z.length z.length hi - HT.sIx z.length 0 lo) := rfl
theorem sIx_neg1 (n d : Nat) : HT.sIx (n + 1) d (some (-1)) = n := by
  show (if (-1 : Int) < 0 then ((-1 : Int) + ((n + 1 : Nat) : Int)).toNat else min (-1 : Int).toNat (n + 1)) = n
  rw [if_pos (by decide)]
  omega
theorem colon_len : (Str.ofString ":").length = 1 := by decide +kernel
theorem cut_front (n : Str) : cutS (n ++ Str.ofString ":") none (some (-1)) = n := by
  refine ext_tl ?_
  rw [tl_cut, tl_append, tl_colon, str_len_app, colon_len, sIx_neg1, HT.sIx_none, List.drop_zero, Nat.sub_zero, len_tl, List.take_left]
theorem cut_back (n : Str) : cutS (n ++ Str.ofString ":") (some (-1)) none = Str.ofString ":" := by
  refine ext_tl ?_
  rw [tl_cut, tl_append, tl_colon, str_len_app, colon_len, sIx_neg1, HT.sIx_none, len_tl, List.drop_left, show (tl n).length + 1 - (tl n).length = 1 by omega]
  rfl
theorem cutV_from1 (xs : List V) : cutV xs (some 1) none = xs.drop 1 := by
  unfold cutV
  rw [show HT.sIx xs.length 0 (some 1) = min 1 xs.length from HT.sIx_nat xs.length 0 1, HT.sIx_none]
  cases xs with
  | nil => rfl
  | cons x r =>
    rw [show min 1 (x :: r).length = 1 by rw [List.length_cons]; omega]
    show (List.take ((x :: r).length - 1) r) = r
    rw [List.length_cons, Nat.add_sub_cancel]
    exact List.take_length

/-! ### row_in of a row's text -/
def sp_row_in (K : PySem.W.Frag) : Sp := fun vs H Q _ => ∃ r : Str × List Str, vs = [.str (showRow r)] ∧ GoodRow r ∧
  ∀ H' p l, Same H H' → H p = none → H l = none → H' p = some (.tup [.str r.1, .ref l]) → H' l = some (.lst (r.2.map V.str)) → Q (.ref p) H'
theorem len_row_in {K : PySem.W.Frag} (vs : List V) (H : Hp) (Q : VK) (E : XK) (h : sp_row_in K vs H Q E) : vs.length = 1 := by
  obtain ⟨r, rfl, _⟩ := h
  rfl
/-! readings of row_in; slots 0:part 1:words 2:point 3:word -/
def t_row_in_2a_0 (K : PySem.W.Frag) : TS := tNever
def t_row_in_3b_0a_0 (K : PySem.W.Frag) : TS := tNever
def t_row_in_3b_0 (K : PySem.W.Frag) : TS := (tIfS (tNot (tB (tCall (sp_is_name K) [] E0 (tCons (tVar 3) tNil))))
  (t_row_in_3b_0a_0 K)
  tNext)
def t_row_in_4 (K : PySem.W.Frag) : TS := (tRet (tTup (tCons (tVar 2) (tCons (tSl (rSlL K) (tVar 1) (tPart (tC (.int 1))) tNoPart) tNil))))
def t_row_in_3 (K : PySem.W.Frag) : TS := (tSeq (tFor (iList K (tSl (rSlL K) (tVar 1) (tPart (tC (.int 1))) tNoPart)) (gName 3)
  (t_row_in_3b_0 K)) (t_row_in_4 K))
def t_row_in_2 (K : PySem.W.Frag) : TS := (tSeq (tIfS (tOr (tTest (tOp rNe (tSl rSlS (tOp (rIxL K) (tVar 1) (tC (.int 0))) (tPart (tUn qNeg (tC (.int 1)))) tNoPart) (tC (.str ":")))) (tNot (tB (tCall (sp_is_name K) [] E0 (tCons (tVar 2) tNil)))))
  (t_row_in_2a_0 K)
  tNext) (t_row_in_3 K))
def t_row_in_1 (K : PySem.W.Frag) : TS := (tSeq (tAsg (tSl rSlS (tOp (rIxL K) (tVar 1) (tC (.int 0))) tNoPart (tPart (tUn qNeg (tC (.int 1))))) (gName 2)) (t_row_in_2 K))
def t_row_in_0 (K : PySem.W.Frag) : TS := (tSeq (tAsg (tM1 qSplit (tVar 0) (tC (.str " "))) (gName 1)) (t_row_in_1 K))
abbrev n_row_in : List Str := ["part", "words", "point", "word"]
theorem row_in_words {K : PySem.W.Frag} {H H1 : Hp} {Q : VK} {r : Str × List Str} {w : Addr} (h : GoodRow r) (s : Same H H1) (ew : H1 w = some (.lst (((r.1 ++ Str.ofString ":") :: r.2).map V.str)))
    (q : ∀ H' p l, Same H H' → H p = none → H l = none → H' p = some (.tup [.str r.1, .ref l]) → H' l = some (.lst (r.2.map V.str)) → Q (.ref p) H') :
    t_row_in_3 K (dEnd Q) [some (.str (showRow r)), some (.ref w), some (.str r.1), none] H1 := by
  have ec : cutV (((r.1 ++ Str.ofString ":") :: r.2).map V.str) (some 1) none = r.2.map V.str := cutV_from1 _
  refine ⟨_, rfl, _, rfl, w, _, rfl, sqL_of ew, fun c nc => ?_⟩
  have s2 : Same H1 (upd H1 c (.lst (r.2.map V.str))) := same_upd nc
  rw [ec]
  refine ⟨c, rfl, ⟨_, sqL_of upd_same⟩, for_list (xs := r.2.map V.str) (fun i σ H' => H' = upd H1 c (.lst (r.2.map V.str)) ∧ ∃ y, σ = [some (.str (showRow r)), some (.ref w), some (.str r.1), y]) ⟨rfl, _, rfl⟩ (fun i σ H' _ w => by rw [w.1]; exact sqL_of upd_same) ?_ ?_⟩
  · rintro i x σ H' hx ⟨rfl, y, rfl⟩
    obtain ⟨t, ht, rfl⟩ := at_map hx
    have h1 := h.ts t (List.mem_of_getElem? ht)
    refine ⟨_, rfl, _, rfl, .inl ⟨t, rfl, small_line (Nat.le_trans (nm_len h1).2 (by decide)), _, rfl, ?_⟩⟩
    rw [h1]
    exact ⟨rfl, _, rfl⟩
  · rintro σ H' ⟨rfl, y, rfl⟩
    refine ⟨_, rfl, _, rfl, _, rfl, w, _, rfl, sqL_of (s2 _ _ ew), fun l nl => ⟨small_line (by simp), fun p np => ?_⟩⟩
    rw [ec] at np ⊢
    have s3 := same_upd (o := .lst (r.2.map V.str)) nl
    have s4 := same_upd (o := .tup [.str r.1, .ref l]) np
    have s5 := (s.trans s2).trans s3
    exact q _ p l (s5.trans s4) (s5.free np) ((s.trans s2).free nl) upd_same (s4 _ _ upd_same)
theorem run_row_in {K : PySem.W.Frag} {vs : List V} {H : Hp} {Q : VK} {E : XK} (h : sp_row_in K vs H Q E) : t_row_in_0 K (dEnd Q) (start n_row_in vs) H := by
  obtain ⟨r, rfl, hg, q⟩ := h
  have hl := row_len hg.sm
  have h8 := nm_len hg.n
  refine ⟨_, rfl, ⟨_, rfl⟩, _, _, rfl, rfl, by decide +kernel, small_line (by omega), fun w nw => ?_⟩
  rw [split_row hg]
  have s := same_upd (o := .lst (((r.1 ++ Str.ofString ":") :: r.2).map V.str)) nw
  have ew : (upd H w (.lst (((r.1 ++ Str.ofString ":") :: r.2).map V.str))) w = some (.lst (((r.1 ++ Str.ofString ":") :: r.2).map V.str)) := upd_same
  have hz : (r.1 ++ Str.ofString ":").length ≤ sizeLine := small_line (by rw [str_len_app, show (Str.ofString ":").length = 1 by decide +kernel]; omega)
  refine ⟨_, rfl, w, _, _, _, rfl, rfl, sqL_of ew, atI_nat (j := 0) rfl, 1, rfl, -1, rfl, _, rfl, hz, ?_⟩
  refine ⟨_, rfl, w, _, _, _, rfl, rfl, sqL_of ew, atI_nat (j := 0) rfl, 1, rfl, -1, rfl, _, rfl, hz, rfl, _, rfl, ?_⟩
  rw [cut_back, decide_eq_true rfl]
  refine ⟨_, rfl, _, rfl, .inl ⟨_, rfl, small_line (Nat.le_trans (cutS_length _ _ _) (by rw [str_len_app, show (Str.ofString ":").length = 1 by decide +kernel]; omega)), _, rfl, ?_⟩⟩
  rw [cut_front, hg.n]
  exact row_in_words hg s ew q

/-! ### read of the rows' text -/
def sp_read (K : PySem.W.Frag) : Sp := fun vs H Q _ => ∃ rs : List (Str × List Str), vs = [.str (showRows rs)] ∧ (∀ r ∈ rs, GoodRow r) ∧ rs ≠ [] ∧ rs.length ≤ 100 ∧
  ∀ H' b cs', Same H H' → Rows H' b cs' → cs'.map RC.r = rs → NewRows H b cs' → Q (.ref b) H'
theorem len_read {K : PySem.W.Frag} (vs : List V) (H : Hp) (Q : VK) (E : XK) (h : sp_read K vs H Q E) : vs.length = 1 := by
  obtain ⟨r, rfl, _⟩ := h
  rfl
/-! readings of read; slots 0:text 1:part -/
def t_read_0 (K : PySem.W.Frag) : TS := (tRet (tLc (iList K (tM1 qSplit (tVar 0) (tC (.str "; ")))) (gName 1) tYes (tCall (sp_row_in K) [] E0 (tCons (tVar 1) tNil)) [1]))
abbrev n_read : List Str := ["text", "part"]
/-- a row that a call has made is put to the list -/
theorem CopyW.snocC {H H' H2 : Hp} {D l p : Addr} {rs : List (Str × List Str)} {n : Str} {ts : List Str} (w : CopyW H H' D rs) (s2 : Same H' H2) (hp : H' p = none) (hl : H' l = none)
    (ep : H2 p = some (.tup [.str n, .ref l])) (el : H2 l = some (.lst (ts.map V.str))) :
    ∃ acc, H2 D = some (.lst acc) ∧ acc.length = rs.length ∧ CopyW H (upd H2 D (.lst (acc ++ [.ref p]))) D (rs ++ [(n, ts)]) := by
  obtain ⟨s, fd, cs, R, er, N⟩ := w
  have lD : l ≠ D := fun e => by
    rw [e, R.top] at hl
    cases hl
  have pD : p ≠ D := fun e => by
    rw [e, R.top] at hp
    cases hp
  refine ⟨_, s2 _ _ R.top, by rw [List.length_map, ← er, List.length_map], same_put (s.trans s2) fd, fd, cs ++ [⟨p, l, n, ts⟩], ⟨?_, ?_⟩, ?_, ?_⟩
  · rw [upd_same, List.map_append]
    rfl
  · intro c hc
    rcases List.mem_append.mp hc with q | q
    · have o := (R.row c q).same s2
      have h1 := N.nb c q
      exact ⟨by rw [upd_ne h1.1]; exact o.tp, by rw [upd_ne h1.2]; exact o.ls⟩
    · have e : c = ⟨p, l, n, ts⟩ := by simpa using q
      subst e
      exact ⟨by rw [upd_ne pD]; exact ep, by rw [upd_ne lD]; exact el⟩
  · rw [List.map_append, er]
    rfl
  · refine ⟨fd, ?_, ?_, ?_⟩
    · intro c hc
      rcases List.mem_append.mp hc with q | q
      · exact N.fc c q
      · have e : c = ⟨p, l, n, ts⟩ := by simpa using q
        subst e
        exact ⟨s.free hp, s.free hl⟩
    · rw [List.map_append]
      refine nd_snoc N.nd fun m => ?_
      obtain ⟨c, hc, ec⟩ := List.mem_map.mp m
      have o := (R.row c hc).ls
      rw [ec] at o
      rw [show H' l = some _ from o] at hl
      cases hl
    · intro c hc
      rcases List.mem_append.mp hc with q | q
      · exact N.nb c q
      · have e : c = ⟨p, l, n, ts⟩ := by simpa using q
        subst e
        exact ⟨pD, lD⟩
theorem run_read {K : PySem.W.Frag} {vs : List V} {H : Hp} {Q : VK} {E : XK} (h : sp_read K vs H Q E) : t_read_0 K (dEnd Q) (start n_read vs) H := by
  obtain ⟨rs, rfl, hg, hne, hlen, q⟩ := h
  have hS : Small rs := ⟨hlen, fun r hr => (hg r hr).sm⟩
  have hl := (rows_len hS).1
  refine ⟨_, rfl, ⟨_, rfl⟩, _, _, rfl, rfl, by decide +kernel, small_line (by omega), fun w nw => ?_⟩
  rw [split_rows hg hne]
  have s := same_upd (o := .lst ((rs.map showRow).map V.str)) nw
  have ew : (upd H w (.lst ((rs.map showRow).map V.str))) w = some (.lst ((rs.map showRow).map V.str)) := upd_same
  refine ⟨w, rfl, ⟨_, sqL_of ew⟩, fun D nD => lc_list (K := K) (a := w) (xs := (rs.map showRow).map V.str) (fun i H' => CopyW (upd H w (.lst ((rs.map showRow).map V.str))) H' D (rs.take i)) (CopyW.start nD) (fun i H' _ v => sqL_of (v.same _ _ ew)) ?_ ?_⟩
  · intro i x H' hx v
    rw [List.map_map] at hx
    obtain ⟨r, hr, rfl⟩ := at_map (f := V.str ∘ showRow) hx
    have hi : i < rs.length := (List.getElem?_eq_some_iff.mp hr).1
    refine ⟨rfl, ⟨_, rfl, r, rfl, hg r (List.mem_of_getElem? hr), fun H2 p l s2 np nl ep el => ?_⟩⟩
    obtain ⟨acc, e1, e2, v'⟩ := v.snocC s2 np nl ep el
    refine ⟨acc, e1, lt_line (by rw [e2, List.length_take]; omega), ?_⟩
    rw [take_succ_of hr]
    exact v'
  · intro H' v
    obtain ⟨s2, fd, cs', R', er, N⟩ := v
    rw [List.length_map, List.length_map, List.take_length] at er
    exact q H' D cs' (s.trans s2) R' er ⟨s.free N.fb, fun c hc => ⟨s.free (N.fc c hc).1, s.free (N.fc c hc).2⟩, N.nd, N.nb⟩
end Tw

set_option Elab.async false
set_option linter.all false
set_option maxRecDepth 100000
set_option maxHeartbeats 4000000
namespace Tw
open PySem PySem.Spec L2 TL
open PyProof.Rows hiding St

/-! ### data compared -/
abbrev okS (z : Str) : Prop := PyData.strOk z = true
theorem nm_ok {z : Str} (h : isNm z = true) : okS z := by
  have h2 : ∀ c ∈ SG, c < 0x110000 := by decide +kernel
  show z.cps.all (· < 0x110000) = true
  rw [← Array.all_toList, List.all_eq_true]
  intro c hc
  exact decide_eq_true (h2 c (nm_in h c hc))
def strsD (ts : List Str) : PyData := .list (ts.map PyData.str)
def rowD (r : Str × List Str) : PyData := .tuple [.str r.1, strsD r.2]
def rowsD (rs : List (Str × List Str)) : PyData := .list (rs.map rowD)
theorem dpAll_strs {K : PySem.W.Frag} {H : Hp} : ∀ ts : List Str, DpAll K H (ts.map V.str) (ts.map PyData.str)
  | [] => .nil
  | t :: r => .cons (.str t) (dpAll_strs r)
theorem dp_strs {K : PySem.W.Frag} {H : Hp} {l : Addr} {ts : List Str} (h : H l = some (.lst (ts.map V.str))) : Dp K H (.ref l) (strsD ts) := .lst (sqL_of h) (dpAll_strs ts)
theorem dp_row {K : PySem.W.Frag} {H : Hp} {c : RC} (h : c.ok H) : Dp K H (.ref c.p) (rowD c.r) := .tup (sqT_of h.tp) (.cons (.str _) (.cons (dp_strs h.ls) .nil))
theorem dpAll_rows {K : PySem.W.Frag} {H : Hp} : ∀ cs : List RC, (∀ c ∈ cs, c.ok H) → DpAll K H (cs.map fun c => V.ref c.p) ((cs.map RC.r).map rowD)
  | [], _ => .nil
  | c :: r, h => .cons (dp_row (h c List.mem_cons_self)) (dpAll_rows r fun d hd => h d (List.mem_cons_of_mem _ hd))
theorem dp_rows {K : PySem.W.Frag} {H : Hp} {a : Addr} {cs : List RC} (h : Rows H a cs) : Dp K H (.ref a) (rowsD (cs.map RC.r)) := .lst (sqL_of h.top) (dpAll_rows cs h.row)
theorem lay_strs : ∀ {ts : List Str}, (∀ t ∈ ts, okS t) → PyData.canLayAll0 (ts.map PyData.str) = true
  | [], _ => by simp [PyData.canLayAll0]
  | t :: r, h => by
    have h1 := h t List.mem_cons_self
    have h2 := lay_strs (ts := r) fun x hx => h x (List.mem_cons_of_mem _ hx)
    rw [List.map_cons, PyData.canLayAll0, PyData.canLay0, h2, Bool.and_true]
    exact h1
theorem dep_strs : ∀ ts : List Str, PyData.depthAll (ts.map PyData.str) = 0
  | [] => by simp [PyData.depthAll]
  | t :: r => by simp [PyData.depthAll, PyData.depth, dep_strs r]
theorem shaped_strs {ts : List Str} (h : ∀ t ∈ ts, okS t) : SeqAt.shaped (strsD ts) = true := by
  unfold SeqAt.shaped strsD
  rw [PyData.canLay0, lay_strs h, PyData.depth, dep_strs]
  rfl
/-- the names of rows are texts as they should be -/
def OkRows (rs : List (Str × List Str)) : Prop := ∀ r ∈ rs, okS r.1 ∧ ∀ t ∈ r.2, okS t
theorem lay_rows : ∀ {rs : List (Str × List Str)}, OkRows rs → PyData.canLayAll0 (rs.map rowD) = true
  | [], _ => by simp [PyData.canLayAll0]
  | r :: q, h => by
    have h1 := h r List.mem_cons_self
    have h2 := lay_rows (rs := q) fun x hx => h x (List.mem_cons_of_mem _ hx)
    rw [List.map_cons, PyData.canLayAll0, h2, Bool.and_true]
    unfold rowD strsD
    rw [PyData.canLay0, PyData.canLayAll0, PyData.canLayAll0, PyData.canLayAll0, PyData.canLay0, PyData.canLay0, lay_strs h1.2, Bool.and_true, Bool.and_true]
    exact h1.1
theorem dep_rows : ∀ rs : List (Str × List Str), PyData.depthAll (rs.map rowD) ≤ 2
  | [] => by simp [PyData.depthAll]
  | r :: q => by
    have := dep_rows q
    rw [List.map_cons, PyData.depthAll]
    have e : PyData.depth (rowD r) = 2 := by
      unfold rowD strsD
      simp [PyData.depth, PyData.depthAll, dep_strs]
    rw [e]
    omega
theorem shaped_rows {rs : List (Str × List Str)} (h : OkRows rs) : SeqAt.shaped (rowsD rs) = true := by
  unfold SeqAt.shaped rowsD
  rw [PyData.canLay0, lay_rows h, PyData.depth]
  have := dep_rows rs
  show (true && decide (PyData.depthAll (rs.map rowD) + 1 ≤ 64)) = true
  rw [decide_eq_true (by omega)]
  rfl
theorem eqv_same {d : PyData} (h : SeqAt.shaped d = true) : PyData.eqv d d = true := SeqAt.eqv_refl d (SeqAt.canLay_of_shaped h)
theorem eqvAll_strs : ∀ ts us : List Str, PyData.eqvAll (ts.map PyData.str) (us.map PyData.str) = decide (ts = us)
  | [], [] => by simp [PyData.eqvAll]
  | [], u :: r => by simp [PyData.eqvAll]
  | t :: r, [] => by simp [PyData.eqvAll]
  | t :: r, u :: q => by
    rw [List.map_cons, List.map_cons, PyData.eqvAll, PyData.eqv, eqvAll_strs r q]
    by_cases e : t = u
    · subst e
      by_cases e2 : r = q
      · subst e2
        simp
      · simp [e2]
    · simp [e]
theorem eqv_strs (ts us : List Str) : PyData.eqv (strsD ts) (strsD us) = decide (ts = us) := by
  unfold strsD
  rw [PyData.eqv, eqvAll_strs]
theorem ok_of_good {rs : List (Str × List Str)} (h : ∀ r ∈ rs, GoodRow r) : OkRows rs := fun r hr => ⟨nm_ok (h r hr).n, fun t ht => nm_ok ((h r hr).ts t ht)⟩

/-! ### isinstance -/
theorem k_list {K : PySem.W.Frag} : PySem.W.kitOne K (.type "list") (.type "list") = some true := kit_ty (by decide +kernel)
theorem k_tuple {K : PySem.W.Frag} : PySem.W.kitOne K (.type "tuple") (.type "tuple") = some true := kit_ty (by decide +kernel)
theorem k_str {K : PySem.W.Frag} : PySem.W.kitOne K (.type "str") (.type "str") = some true := kit_ty (by decide +kernel)
theorem k_int {K : PySem.W.Frag} : PySem.W.kitOne K (.type "int") (.type "int") = some true := kit_ty (by decide +kernel)
theorem k_intb {K : PySem.W.Frag} : PySem.W.kitOne K (.type "int") (.type "bool") = some false := kit_ty (by decide +kernel)
theorem k_bool {K : PySem.W.Frag} : PySem.W.kitOne K (.type "bool") (.type "bool") = some true := kit_ty (by decide +kernel)

/-! ### the law's own comparison of rows -/
def sp__law_same (K : PySem.W.Frag) : Sp := fun vs H Q _ => ∃ (a b : Addr) (cs ds : List RC), vs = [.ref a, .ref b] ∧ Rows H a cs ∧ Rows H b ds ∧ cs.map RC.r = ds.map RC.r ∧ OkRows (cs.map RC.r) ∧ cs.length ≤ 1000 ∧ Q (.bl true) H
theorem len__law_same {K : PySem.W.Frag} (vs : List V) (H : Hp) (Q : VK) (E : XK) (h : sp__law_same K vs H Q E) : vs.length = 2 := by
  obtain ⟨a, b, cs, ds, rfl, _⟩ := h
  rfl
/-! readings of _law_same; slots 0:_law_told 1:_law_due 2:_law_k 3:_law_row -/
def t__law_same_0a_0 (K : PySem.W.Frag) : TS := (tRet (tC (.bl false)))
def t__law_same_1b_1a_0 (K : PySem.W.Frag) : TS := (tRet (tC (.bl false)))
def t__law_same_1b_2a_0 (K : PySem.W.Frag) : TS := (tRet (tC (.bl false)))
def t__law_same_1b_2 (K : PySem.W.Frag) : TS := (tIfS (tOr (tTest (tOp rNe (tOp (rIxT K) (tVar 3) (tC (.int 0))) (tOp (rIxT K) (tOp (rIxL K) (tVar 1) (tVar 2)) (tC (.int 0))))) (tTest (tOp (rNeD K) (tOp (rIxT K) (tVar 3) (tC (.int 1))) (tOp (rIxT K) (tOp (rIxL K) (tVar 1) (tVar 2)) (tC (.int 1))))))
  (t__law_same_1b_2a_0 K)
  tNext)
def t__law_same_1b_1 (K : PySem.W.Frag) : TS := (tSeq (tIfS (tOr (tNot (tB (tCB (rIsi K) (tCons (tVar 3) (tCons (tC (.ty "tuple")) tNil))))) (tOr (tTest (tOp rNe (tCB (qLenQ K) (tCons (tVar 3) tNil)) (tC (.int 2)))) (tOr (tNot (tB (tCB (rIsi K) (tCons (tOp (rIxT K) (tVar 3) (tC (.int 0))) (tCons (tC (.ty "str")) tNil))))) (tNot (tB (tCB (rIsi K) (tCons (tOp (rIxT K) (tVar 3) (tC (.int 1))) (tCons (tC (.ty "list")) tNil))))))))
  (t__law_same_1b_1a_0 K)
  tNext) (t__law_same_1b_2 K))
def t__law_same_1b_0 (K : PySem.W.Frag) : TS := (tSeq (tAsg (tOp (rIxL K) (tVar 0) (tVar 2)) (gName 3)) (t__law_same_1b_1 K))
def t__law_same_2 (K : PySem.W.Frag) : TS := (tRet (tC (.bl true)))
def t__law_same_1 (K : PySem.W.Frag) : TS := (tSeq (tFor (iRng1 (tCons (tCB (qLenQ K) (tCons (tVar 1) tNil)) tNil)) (gName 2)
  (t__law_same_1b_0 K)) (t__law_same_2 K))
def t__law_same_0 (K : PySem.W.Frag) : TS := (tSeq (tIfS (tOr (tNot (tB (tCB (rIsi K) (tCons (tVar 0) (tCons (tC (.ty "list")) tNil))))) (tTest (tOp rNe (tCB (qLenQ K) (tCons (tVar 0) tNil)) (tCB (qLenQ K) (tCons (tVar 1) tNil)))))
  (t__law_same_0a_0 K)
  tNext) (t__law_same_1 K))
abbrev n__law_same : List Str := ["_law_told", "_law_due", "_law_k", "_law_row"]
theorem run__law_same {K : PySem.W.Frag} {vs : List V} {H : Hp} {Q : VK} {E : XK} (h : sp__law_same K vs H Q E) : t__law_same_0 K (dEnd Q) (start n__law_same vs) H := by
  obtain ⟨a, b, cs, ds, rfl, R, R2, er, ok, hl, q⟩ := h
  have el : cs.length = ds.length := by
    have := congrArg List.length er
    rw [List.length_map, List.length_map] at this
    exact this
  refine ⟨_, rfl, _, _, _, _, true, rfl, .ty _, .base (.lst R.top), k_list, true, rfl, ?_⟩
  refine ⟨_, rfl, a, _, rfl, .inl (sqL_of R.top), _, rfl, b, _, rfl, .inl (sqL_of R2.top), rfl, _, rfl, ?_⟩
  refine ite_ndec (fun e => absurd (by rw [List.length_map, List.length_map, el]) e) fun _ => ?_
  refine ⟨_, rfl, b, _, rfl, .inl (sqL_of R2.top), _, rfl, by omega, ?_, for_range (lo := 0) (n := _) (fun i σ H' => H' = H ∧ ∃ y2 y3, σ = [some (.ref a), some (.ref b), y2, y3]) ⟨rfl, none, none, rfl⟩ ?_ ?_⟩
  · rw [List.length_map]
    omega
  · rintro i σ H' hi ⟨rfl, y2, y3, rfl⟩
    have ei : (0 : Int) + (i : Int) = (i : Int) := by omega
    rw [List.length_map] at hi
    have hc : i < cs.length := by omega
    have hd : i < ds.length := by omega
    have gc : (cs.map fun c => V.ref c.p)[i]? = some (.ref cs[i].p) := by rw [List.getElem?_map, List.getElem?_eq_getElem hc]; rfl
    have gd : (ds.map fun c => V.ref c.p)[i]? = some (.ref ds[i].p) := by rw [List.getElem?_map, List.getElem?_eq_getElem hd]; rfl
    have ecd : cs[i].r = ds[i].r := by
      have h1 : (cs.map RC.r)[i]? = some cs[i].r := by rw [List.getElem?_map, List.getElem?_eq_getElem hc]; rfl
      have h2 : (ds.map RC.r)[i]? = some ds[i].r := by rw [List.getElem?_map, List.getElem?_eq_getElem hd]; rfl
      rw [er, h2] at h1
      exact (Option.some.inj h1).symm
    have oc := R.row cs[i] (List.getElem_mem hc)
    have od := R2.row ds[i] (List.getElem_mem hd)
    have en : cs[i].n = ds[i].n := congrArg Prod.fst ecd
    have et : cs[i].ts = ds[i].ts := congrArg Prod.snd ecd
    have okr := ok cs[i].r (List.mem_map.mpr ⟨_, List.getElem_mem hc, rfl⟩)
    rw [ei]
    refine ⟨_, rfl, _, rfl, a, _, _, _, rfl, rfl, sqL_of R.top, atI_nat gc, ?_⟩
    refine ⟨_, rfl, _, _, _, _, true, rfl, .ty _, .base (.tup oc.tp), k_tuple, true, rfl, ?_⟩
    refine ⟨_, rfl, _, _, rfl, .inr (sqT_of oc.tp), rfl, _, rfl, ?_⟩
    refine ⟨_, rfl, _, _, _, _, rfl, rfl, sqT_of oc.tp, atI_nat (j := 0) rfl, _, _, _, _, true, rfl, .ty _, .base (.str _), k_str, true, rfl, ?_⟩
    refine ⟨_, rfl, _, _, _, _, rfl, rfl, sqT_of oc.tp, atI_nat (j := 1) rfl, _, _, _, _, true, rfl, .ty _, .base (.lst oc.ls), k_list, true, rfl, ?_⟩
    refine ⟨_, rfl, _, _, _, _, rfl, rfl, sqT_of oc.tp, atI_nat (j := 0) rfl, _, rfl, _, rfl, b, _, _, _, rfl, rfl, sqL_of R2.top, atI_nat gd, _, _, _, _, rfl, rfl, sqT_of od.tp, atI_nat (j := 0) rfl, rfl, _, rfl, ?_⟩
    refine ite_ndec (fun e => absurd (by rw [en]) e) fun _ => ?_
    refine ⟨_, rfl, _, _, _, _, rfl, rfl, sqT_of oc.tp, atI_nat (j := 1) rfl, _, rfl, _, rfl, b, _, _, _, rfl, rfl, sqL_of R2.top, atI_nat gd, _, _, _, _, rfl, rfl, sqT_of od.tp, atI_nat (j := 1) rfl, strsD cs[i].ts, strsD ds[i].ts, dp_strs oc.ls, dp_strs od.ls, shaped_strs okr.2, ?_, _, rfl, ?_⟩
    · rw [← et]
      exact shaped_strs okr.2
    · rw [← et, eqv_same (d := strsD cs[i].ts) (shaped_strs okr.2)]
      exact ⟨rfl, _, _, rfl⟩
  · rintro σ H' ⟨rfl, y2, y3, rfl⟩
    exact q
end Tw

set_option Elab.async false
set_option linter.all false
set_option maxRecDepth 100000
set_option maxHeartbeats 4000000
namespace Tw
open PySem PySem.Spec L2 TL
open PyProof.Rows hiding St

/-! ### digits and words of a great number that stands in a list -/
def sp__law_digit (K : PySem.W.Frag) : Sp := fun vs H Q _ => ∃ (a : Addr) (b m : Int), vs = [.ref a, .int m] ∧ H a = some (.lst [.int b]) ∧ 0 < m ∧ m < 1000 ∧
  ∀ d b' : Int, 0 ≤ d → d < m → Q (.int d) (upd H a (.lst [.int b']))
theorem len__law_digit {K : PySem.W.Frag} (vs : List V) (H : Hp) (Q : VK) (E : XK) (h : sp__law_digit K vs H Q E) : vs.length = 2 := by
  obtain ⟨a, b, m, rfl, _⟩ := h
  rfl
/-! readings of _law_digit; slots 0:_law_rest 1:_law_many 2:_law_digit_here -/
def t__law_digit_2 (K : PySem.W.Frag) : TS := (tRet (tVar 2))
def t__law_digit_1 (K : PySem.W.Frag) : TS := (tSeq (tAsg (tOp qDiv (tOp (rIxL K) (tVar 0) (tC (.int 0))) (tVar 1)) (gSub (tVar 0) (tC (.int 0)) rSetL)) (t__law_digit_2 K))
def t__law_digit_0 (K : PySem.W.Frag) : TS := (tSeq (tAsg (tOp qMod (tOp (rIxL K) (tVar 0) (tC (.int 0))) (tVar 1)) (gName 2)) (t__law_digit_1 K))
abbrev n__law_digit : List Str := ["_law_rest", "_law_many", "_law_digit_here"]
theorem run__law_digit {K : PySem.W.Frag} {vs : List V} {H : Hp} {Q : VK} {E : XK} (h : sp__law_digit K vs H Q E) : t__law_digit_0 K (dEnd Q) (start n__law_digit vs) H := by
  obtain ⟨a, b, m, rfl, ha, m0, m1, q⟩ := h
  refine ⟨_, rfl, a, _, _, _, rfl, rfl, sqL_of ha, atI_nat (j := 0) rfl, _, rfl, _, _, rfl, rfl, cpos m0, ?_⟩
  refine ⟨_, rfl, a, _, _, _, rfl, rfl, sqL_of ha, atI_nat (j := 0) rfl, _, rfl, _, _, rfl, rfl, wide_div (b := 10) m0 (by omega) (by decide) (by decide), _, rfl, a, _, _, 0, rfl, rfl, ha, rfl, _, rfl, ?_⟩
  · exact q _ _ (Int.emod_nonneg _ (by omega)) (Int.emod_lt_of_pos _ m0)
def sp__law_word (K : PySem.W.Frag) : Sp := fun vs H Q _ => ∃ (a : Addr) (b : Int), vs = [.ref a] ∧ H a = some (.lst [.int b]) ∧ ∀ (z : Str) (b' : Int), isNm z = true → Q (.str z) (upd H a (.lst [.int b']))
theorem len__law_word {K : PySem.W.Frag} (vs : List V) (H : Hp) (Q : VK) (E : XK) (h : sp__law_word K vs H Q E) : vs.length = 1 := by
  obtain ⟨a, b, rfl, _⟩ := h
  rfl
/-! readings of _law_word; slots 0:_law_rest 1:_law_signs 2:_law_word_here 3:_law_k -/
def t__law_word_2b_0 (K : PySem.W.Frag) : TS := (tAsg (tOp qCatS (tVar 2) (tOp rIxS (tVar 1) (tCall (sp__law_digit K) [] E0 (tCons (tVar 0) (tCons (tC (.int 36)) tNil))))) (gName 2))
def t__law_word_3 (K : PySem.W.Frag) : TS := (tRet (tVar 2))
def t__law_word_2 (K : PySem.W.Frag) : TS := (tSeq (tFor (iRng1 (tCons (tOp qAdd (tC (.int 1)) (tCall (sp__law_digit K) [] E0 (tCons (tVar 0) (tCons (tC (.int 8)) tNil)))) tNil)) (gName 3)
  (t__law_word_2b_0 K)) (t__law_word_3 K))
def t__law_word_1 (K : PySem.W.Frag) : TS := (tSeq (tAsg (tC (.str "")) (gName 2)) (t__law_word_2 K))
def t__law_word_0 (K : PySem.W.Frag) : TS := (tSeq (tAsg (tC (.str "abcdefghijklmnopqrstuvwxyz0123456789")) (gName 1)) (t__law_word_1 K))
abbrev n__law_word : List Str := ["_law_rest", "_law_signs", "_law_word_here", "_law_k"]
theorem sg_len : SG.length = 36 := by decide +kernel
theorem at_int {zs : List Nat} {d : Int} (h0 : 0 ≤ d) (h1 : d < (zs.length : Int)) : ∃ c ∈ zs, atI zs d = some c := by
  have hk : d.toNat < zs.length := by omega
  refine ⟨zs[d.toNat], List.getElem_mem hk, ?_⟩
  have := atI_nat (List.getElem?_eq_getElem hk)
  rw [show ((d.toNat : Nat) : Int) = d by omega] at this
  exact this
theorem one_sign (c : Nat) : tl (⟨#[c]⟩ : Str) = [c] := rfl
theorem nm_of {z : Str} (h0 : z.length ≠ 0) (h8 : z.length ≤ 8) (h : ∀ c ∈ tl z, c ∈ SG) : isNm z = true := by
  unfold isNm
  rw [Bool.and_eq_true]
  exact ⟨decide_eq_true ⟨h0, h8⟩, List.all_eq_true.mpr fun c hc => decide_eq_true (h c hc)⟩
theorem run__law_word {K : PySem.W.Frag} {vs : List V} {H : Hp} {Q : VK} {E : XK} (h : sp__law_word K vs H Q E) : t__law_word_0 K (dEnd Q) (start n__law_word vs) H := by
  obtain ⟨a, b, rfl, ha, q⟩ := h
  refine ⟨_, rfl, a, b, 8, rfl, ha, by decide, by decide, fun d b1 d0 d1 => ⟨_, _, rfl, rfl, ?_⟩⟩
  refine ⟨_, rfl, by omega, by omega, for_range (lo := 0) (n := (1 + d).toNat) (fun i σ H' => ∃ (z : Str) (b' : Int) (y : Option V), σ = [some (.ref a), some (.str "abcdefghijklmnopqrstuvwxyz0123456789"), some (.str z), y] ∧ H' = upd H a (.lst [.int b']) ∧ z.length = i ∧ ∀ c ∈ tl z, c ∈ SG) ?_ ?_ ?_⟩
  · exact ⟨_, _, _, rfl, rfl, by decide +kernel, by rw [tl_none]; simp⟩
  · rintro i σ H' hi ⟨z, b', y, rfl, rfl, hz, hc⟩
    refine ⟨_, rfl, _, rfl, _, rfl, a, b', 36, rfl, upd_same, by decide, by decide, fun e b2 e0 e1 => ?_⟩
    obtain ⟨c, hc2, ec⟩ := at_int (zs := SG) e0 (by rw [sg_len]; exact e1)
    refine ⟨_, _, c, rfl, rfl, by decide +kernel, ec, _, _, rfl, rfl, ?_, ?_⟩
    · refine small_line ?_
      show z.length + 1 ≤ 100000
      omega
    · refine ⟨_, b2, _, rfl, upd_upd, ?_, ?_⟩
      · rw [str_len_app, hz]
        rfl
      · intro x hx
        rw [tl_append, one_sign] at hx
        rcases List.mem_append.mp hx with w | w
        · exact hc x w
        · have : x = c := by simpa using w
          rw [this]
          exact hc2
  · rintro σ H' ⟨z, b', y, rfl, rfl, hz, hc⟩
    exact ⟨_, rfl, q z b' (nm_of (by omega) (by omega) hc)⟩

/-! ### the law -/
def sp_law (K : PySem.W.Frag) : Sp := fun vs H Q _ => ∃ (a : Addr) (ns : List Int), vs = [.ref a] ∧ SqL K H a (ns.map V.int) ∧ ns.length ≤ 63 ∧ ∀ H', Q (.bl true) H'
theorem len_law {K : PySem.W.Frag} (vs : List V) (H : Hp) (Q : VK) (E : XK) (h : sp_law K vs H Q E) : vs.length = 1 := by
  obtain ⟨x, ns, rfl, _⟩ := h
  rfl
/-! readings of law; slots 0:_law_script 1:_law_rest 2:_law_rows 3:_law_k 4:_law_due 5:_law_tie 6:_law_handed 7:_law_text 8:_law_told 9:_law_row 10:_law_j -/
def t_law_2b_0 (K : PySem.W.Frag) : TS := (tDrop (tBM K "list" rAppend (tVar 2) (tCons (tTup (tCons (tCall (sp__law_word K) [] E0 (tCons (tVar 1) tNil)) (tCons (tLc (iRng1 (tCons (tCall (sp__law_digit K) [] E0 (tCons (tVar 1) (tCons (tC (.int 10)) tNil))) tNil)) (gName 10) tYes (tCall (sp__law_word K) [] E0 (tCons (tVar 1) tNil)) [10]) tNil))) tNil)))
def t_law_4b_0a_0 (K : PySem.W.Frag) : TS := (tAsg (tOp qCatS (tVar 4) (tC (.str "; "))) (gName 4))
def t_law_4b_2b_0 (K : PySem.W.Frag) : TS := (tAsg (tOp qCatS (tOp qCatS (tVar 4) (tC (.str " "))) (tVar 5)) (gName 4))
def t_law_4b_2 (K : PySem.W.Frag) : TS := (tFor (iList K (tOp (rIxT K) (tOp (rIxL K) (tVar 2) (tVar 3)) (tC (.int 1)))) (gName 5)
  (t_law_4b_2b_0 K))
def t_law_4b_1 (K : PySem.W.Frag) : TS := (tSeq (tAsg (tOp qCatS (tOp qCatS (tVar 4) (tOp (rIxT K) (tOp (rIxL K) (tVar 2) (tVar 3)) (tC (.int 0)))) (tC (.str ":"))) (gName 4)) (t_law_4b_2 K))
def t_law_4b_0 (K : PySem.W.Frag) : TS := (tSeq (tIfS (tTest (tOp qGt (tVar 3) (tC (.int 0))))
  (t_law_4b_0a_0 K)
  tNext) (t_law_4b_1 K))
def t_law_7a_0 (K : PySem.W.Frag) : TS := (tRet (tC (.bl false)))
def t_law_9a_0 (K : PySem.W.Frag) : TS := (tRet (tC (.bl false)))
def t_law_10b_0 (K : PySem.W.Frag) : TS := (tDrop (tBM K "list" rAppend (tOp (rIxT K) (tVar 9) (tC (.int 1))) (tCons (tC (.str "x")) tNil)))
def t_law_12 (K : PySem.W.Frag) : TS := (tRet (tAndV (tCall (sp__law_same K) [] E0 (tCons (tCall (sp_read K) [] E0 (tCons (tVar 4) tNil)) (tCons (tVar 2) tNil))) (tOp rEq (tCall (sp_shown K) [] E0 (tCons (tVar 6) tNil)) (tVar 4))))
def t_law_11 (K : PySem.W.Frag) : TS := (tSeq (tDrop (tBM0 K "list" rPop (tVar 8))) (t_law_12 K))
def t_law_10 (K : PySem.W.Frag) : TS := (tSeq (tFor (iList K (tVar 8)) (gName 9)
  (t_law_10b_0 K)) (t_law_11 K))
def t_law_9 (K : PySem.W.Frag) : TS := (tSeq (tIfS (tNot (tB (tCall (sp__law_same K) [] E0 (tCons (tVar 8) (tCons (tVar 2) tNil)))))
  (t_law_9a_0 K)
  tNext) (t_law_10 K))
def t_law_8 (K : PySem.W.Frag) : TS := (tSeq (tAsg (tCall (sp_read K) [] E0 (tCons (tVar 4) tNil)) (gName 8)) (t_law_9 K))
def t_law_7 (K : PySem.W.Frag) : TS := (tSeq (tIfS (tOr (tNot (tB (tCB (rIsi K) (tCons (tVar 7) (tCons (tC (.ty "str")) tNil))))) (tOr (tTest (tOp rNe (tVar 7) (tVar 4))) (tTest (tOp (rNeD K) (tVar 6) (tVar 2)))))
  (t_law_7a_0 K)
  tNext) (t_law_8 K))
def t_law_6 (K : PySem.W.Frag) : TS := (tSeq (tAsg (tCall (sp_shown K) [] E0 (tCons (tVar 6) tNil)) (gName 7)) (t_law_7 K))
def t_law_5 (K : PySem.W.Frag) : TS := (tSeq (tAsg (tCall (sp__law_copy K) [] E0 (tCons (tVar 2) tNil)) (gName 6)) (t_law_6 K))
def t_law_4 (K : PySem.W.Frag) : TS := (tSeq (tFor (iRng1 (tCons (tCB (qLenQ K) (tCons (tVar 2) tNil)) tNil)) (gName 3)
  (t_law_4b_0 K)) (t_law_5 K))
def t_law_3 (K : PySem.W.Frag) : TS := (tSeq (tAsg (tC (.str "")) (gName 4)) (t_law_4 K))
def t_law_2 (K : PySem.W.Frag) : TS := (tSeq (tFor (iRng1 (tCons (tOp qAdd (tC (.int 1)) (tCall (sp__law_digit K) [] E0 (tCons (tVar 1) (tCons (tC (.int 12)) tNil)))) tNil)) (gName 3)
  (t_law_2b_0 K)) (t_law_3 K))
def t_law_1 (K : PySem.W.Frag) : TS := (tSeq (tAsg (tLst tNil) (gName 2)) (t_law_2 K))
def t_law_0 (K : PySem.W.Frag) : TS := (tSeq (tAsg (tLst (tCons (tCall (sp__law_big K) [] E0 (tCons (tVar 0) (tCons (tC (.int 0)) tNil))) tNil)) (gName 1)) (t_law_1 K))
abbrev n_law : List Str := ["_law_script", "_law_rest", "_law_rows", "_law_k", "_law_due", "_law_tie", "_law_handed", "_law_text", "_law_told", "_law_row", "_law_j"]
/-- the rows so far, and the great number's list -/
structure Built (H : Hp) (rest a : Addr) (cs : List RC) : Prop where
  big : ∃ b, H rest = some (.lst [.int b])
  rows : Rows H a cs
  ne : rest ≠ a
  off : ∀ c ∈ cs, c.p ≠ rest ∧ c.l ≠ rest ∧ c.p ≠ a ∧ c.l ≠ a
  good : ∀ c ∈ cs, GoodRow c.r
theorem Built.put {H : Hp} {rest a : Addr} {cs : List RC} {b : Int} (w : Built H rest a cs) : Built (upd H rest (.lst [.int b])) rest a cs :=
  ⟨⟨b, upd_same⟩, ⟨by rw [upd_ne w.ne.symm]; exact w.rows.top, fun c hc => ⟨by rw [upd_ne (w.off c hc).1]; exact (w.rows.row c hc).tp, by rw [upd_ne (w.off c hc).2.1]; exact (w.rows.row c hc).ls⟩⟩, w.ne, w.off, w.good⟩
theorem Built.same {H H' : Hp} {rest a : Addr} {cs : List RC} (w : Built H rest a cs) (s : Same H H') : Built H' rest a cs := by
  obtain ⟨b, hb⟩ := w.big
  exact ⟨⟨b, s _ _ hb⟩, w.rows.same s, w.ne, w.off, w.good⟩
/-- the list of ties' names that is being made at D -/
structure Made (H : Hp) (rest a D : Addr) (cs : List RC) (ts : List Str) : Prop where
  built : Built H rest a cs
  d : H D = some (.lst (ts.map V.str))
  nm : ∀ t ∈ ts, isNm t = true
  nr : D ≠ rest
  na : D ≠ a
  nc : ∀ c ∈ cs, c.l ≠ D ∧ c.p ≠ D
theorem law_build {K : PySem.W.Frag} {D0 : Ends} {H : Hp} {a r s : Addr} {cs : List RC} {y3 y10 : Option V} (w : Built H r s cs) (hl : cs.length ≤ 100)
    (q : ∀ H' cs', Built H' r s cs' → cs'.length = cs.length + 1 → D0.nx [some (.ref a), some (.ref r), some (.ref s), y3, none, none, none, none, none, none, y10] H') :
    t_law_2b_0 K D0 [some (.ref a), some (.ref r), some (.ref s), y3, none, none, none, none, none, none, y10] H := by
  obtain ⟨b, hb⟩ := w.big
  refine ⟨_, rfl, .inl ⟨rfl, _, sqL_of w.rows.top⟩, _, rfl, r, b, rfl, hb, fun z b1 hz => ?_⟩
  have w1 := w.put (b := b1)
  obtain ⟨b1', hb1⟩ := w1.big
  refine ⟨_, rfl, r, b1', 10, rfl, hb1, by decide, by decide, fun d b2 d0 d1 => ?_⟩
  have w2 := w1.put (b := b2)
  refine ⟨_, rfl, by omega, by omega, fun D nD => ?_⟩
  have w3 := w2.same (same_upd (o := .lst []) nD)
  have m0 : Made (upd (upd (upd H r (.lst [.int b1])) r (.lst [.int b2])) D (.lst [])) r s D cs [] := by
    refine ⟨w3, upd_same, by simp, ?_, ?_, ?_⟩
    · obtain ⟨x, hx⟩ := w2.big
      exact (ne_of_none hx nD).symm
    · exact (ne_of_none w2.rows.top nD).symm
    · intro c hc
      exact ⟨ne_of_none (w2.rows.row c hc).ls nD, ne_of_none (w2.rows.row c hc).tp nD⟩
  refine lc_range (lo := 0) (n := d.toNat) (fun i H' => ∃ ts : List Str, ts.length = i ∧ Made H' r s D cs ts) ⟨[], rfl, m0⟩ ?_ ?_
  · rintro i H' hi ⟨ts, hts, m⟩
    obtain ⟨b3, hb3⟩ := m.built.big
    refine ⟨rfl, ⟨_, rfl, r, b3, rfl, hb3, fun t b4 ht => ⟨ts.map V.str, ?_, ?_, ts ++ [t], ?_, ?_⟩⟩⟩
    · rw [upd_ne m.nr]
      exact m.d
    · refine lt_line ?_
      rw [List.length_map]
      omega
    · rw [List.length_append, hts]
      rfl
    · have w4 := m.built.put (b := b4)
      refine ⟨⟨?_, ⟨?_, fun c hc => ⟨?_, ?_⟩⟩, w4.ne, w4.off, w4.good⟩, ?_, ?_, m.nr, m.na, m.nc⟩
      · exact ⟨b4, by rw [upd_ne m.nr.symm, upd_same]⟩
      · rw [upd_ne m.na.symm]
        exact w4.rows.top
      · rw [upd_ne (m.nc c hc).2]
        exact (w4.rows.row c hc).tp
      · rw [upd_ne (m.nc c hc).1]
        exact (w4.rows.row c hc).ls
      · rw [upd_same, List.map_append]
        rfl
      · intro x hx
        rcases List.mem_append.mp hx with v | v
        · exact m.nm x v
        · have : x = t := by simpa using v
          rw [this]
          exact ht
  · rintro H' ⟨ts, hts, m⟩
    refine ⟨small_line (by simp), fun p np => ?_⟩
    have w5 := m.built.same (same_upd (o := .tup [.str z, .ref D]) np)
    have eD : (upd H' p (.tup [.str z, .ref D])) D = some (.lst (ts.map V.str)) := same_upd np _ _ m.d
    refine ⟨s, _, _, rfl, rfl, w5.rows.top, lt_line (by rw [List.length_map]; omega), ?_⟩
    obtain ⟨b6, hb6⟩ := m.built.big
    have npr : p ≠ r := (ne_of_none hb6 np).symm
    have nps : p ≠ s := (ne_of_none m.built.rows.top np).symm
    refine q _ (cs ++ [⟨p, D, z, ts⟩]) ⟨?_, ⟨?_, ?_⟩, w5.ne, ?_, ?_⟩ (by rw [List.length_append]; rfl)
    · obtain ⟨b7, hb7⟩ := w5.big
      exact ⟨b7, by rw [upd_ne w5.ne]; exact hb7⟩
    · rw [upd_same, List.map_append]
      rfl
    · intro c hc
      rcases List.mem_append.mp hc with v | v
      · have o := w5.off c v
        exact ⟨by rw [upd_ne o.2.2.1]; exact (w5.rows.row c v).tp, by rw [upd_ne o.2.2.2]; exact (w5.rows.row c v).ls⟩
      · have e : c = ⟨p, D, z, ts⟩ := by simpa using v
        subst e
        exact ⟨by rw [upd_ne nps]; exact upd_same, by rw [upd_ne m.na]; exact eD⟩
    · intro c hc
      rcases List.mem_append.mp hc with v | v
      · exact w5.off c v
      · have e : c = ⟨p, D, z, ts⟩ := by simpa using v
        subst e
        exact ⟨npr, m.nr, nps, m.na⟩
    · intro c hc
      rcases List.mem_append.mp hc with v | v
      · exact w5.good c v
      · have e : c = ⟨p, D, z, ts⟩ := by simpa using v
        subst e
        exact ⟨hz, m.nm, by show ts.length ≤ 100; omega⟩

/-! ### the text that is due -/
theorem txt_len {r : Str × List Str} (h : GoodRow r) : (txtRow r).length ≤ 909 := by
  have := row_len h.sm
  rw [len_tl, tl_showRow] at this
  exact this
theorem joinL_next (S p : List Nat) (ps : List (List Nat)) : joinL S (ps ++ [p]) = joinL S ps ++ (if 0 < ps.length then S else []) ++ p := by
  cases ps with
  | nil => rfl
  | cons a r =>
    rw [joinL_snoc S p (a :: r) (by simp), if_pos (by simp), List.append_assoc]
theorem app_all (z : Str) (l : List Nat) (x : Str) (h : tl z = l) : tl (z ++ x) = l ++ tl x := by rw [tl_append, h]
theorem due_row {K : PySem.W.Frag} {D0 : Ends} {H : Hp} {a r s : Addr} {cs : List RC} {i : Nat} {c : RC} {due : Str} {y5 y10 : Option V} {l : List Nat} (w : Rows H s cs) (hc : cs[i]? = some c) (hi : i < 100) (g : GoodRow c.r) (hd : tl due = l) (hl : due.length ≤ 911 * i + 2)
    (q : ∀ due' y5', tl due' = l ++ txtRow c.r → D0.nx [some (.ref a), some (.ref r), some (.ref s), some (.int (i : Int)), some (.str due'), y5', none, none, none, none, y10] H) :
    t_law_4b_1 K D0 [some (.ref a), some (.ref r), some (.ref s), some (.int (i : Int)), some (.str due), y5, none, none, none, none, y10] H := by
  have o := w.row c (List.mem_of_getElem? hc)
  have gc : (cs.map fun c => V.ref c.p)[i]? = some (.ref c.p) := by rw [List.getElem?_map, hc]; rfl
  have n8 := (nm_len g.n).2
  have n8' : c.n.length ≤ 8 := n8
  refine ⟨_, rfl, _, rfl, _, rfl, s, _, _, _, rfl, rfl, sqL_of w.top, atI_nat gc, _, _, _, _, rfl, rfl, sqT_of o.tp, atI_nat (j := 0) rfl, _, _, rfl, rfl, small_line (by omega), _, _, rfl, rfl, ?_, ?_⟩
  · rw [str_len_app, colon_len]
    exact small_line (by omega)
  refine ⟨_, rfl, _, rfl, s, _, _, _, rfl, rfl, sqL_of w.top, atI_nat gc, _, _, _, _, rfl, rfl, sqT_of o.tp, atI_nat (j := 1) rfl, c.l, rfl, ⟨_, sqL_of o.ls⟩, for_list (xs := c.ts.map V.str) (fun j σ H' => H' = H ∧ ∃ (z : Str) (y5 : Option V), σ = [some (.ref a), some (.ref r), some (.ref s), some (.int (i : Int)), some (.str z), y5, none, none, none, none, y10] ∧ tl z = l ++ tl c.n ++ [58] ++ ((c.ts.take j).flatMap fun t => 32 :: tl t) ∧ z.length ≤ 911 * i + 12 + 9 * j) ?_ (fun j σ H' _ v => by rw [v.1]; exact sqL_of o.ls) ?_ ?_⟩
  · refine ⟨rfl, _, _, rfl, ?_, ?_⟩
    · rw [tl_append, tl_append, hd, tl_colon]
      simp
    · rw [str_len_app, str_len_app, colon_len]
      omega
  · rintro j x σ H' hx ⟨rfl, z, y5, rfl, ez, lz⟩
    obtain ⟨t, ht, rfl⟩ := at_map hx
    have hj : j < c.ts.length := (List.getElem?_eq_some_iff.mp ht).1
    have hj2 : c.ts.length ≤ 100 := g.len
    have t8 := (nm_len (g.ts t (List.mem_of_getElem? ht))).2
    have bl : (Str.ofString " ").length = 1 := by decide +kernel
    refine ⟨_, rfl, _, _, rfl, rfl, small_line (by rw [bl]; omega), _, rfl, _, _, rfl, rfl, ?_, rfl, _, _, rfl, ?_, ?_⟩
    · rw [str_len_app, bl]
      exact small_line (by omega)
    · rw [tl_append, tl_append, ez, tl_blank, take_succ_of ht, List.flatMap_append]
      simp
    · rw [str_len_app, str_len_app, bl]
      omega
  · rintro σ H' ⟨rfl, z, y5, rfl, ez, lz⟩
    rw [List.length_map, List.take_length] at ez
    refine q z y5 ?_
    rw [ez]
    unfold txtRow
    simp [RC.r]
theorem law_due {K : PySem.W.Frag} {Q : VK} {H : Hp} {a r s : Addr} {cs : List RC} {y3 y10 : Option V} (w : Rows H s cs) (g : ∀ c ∈ cs, GoodRow c.r) (hl : cs.length ≤ 100)
    (q : ∀ y3' y5', t_law_5 K (dEnd Q) [some (.ref a), some (.ref r), some (.ref s), y3', some (.str (showRows (cs.map RC.r))), y5', none, none, none, none, y10] H) :
    t_law_3 K (dEnd Q) [some (.ref a), some (.ref r), some (.ref s), y3, none, none, none, none, none, none, y10] H := by
  refine ⟨_, rfl, s, _, rfl, .inl (sqL_of w.top), _, rfl, by omega, ?_, for_range (lo := 0) (n := _) (fun i σ H' => H' = H ∧ ∃ (z : Str) (y3 y5 : Option V), σ = [some (.ref a), some (.ref r), some (.ref s), y3, some (.str z), y5, none, none, none, none, y10] ∧ tl z = joinL [59, 32] ((cs.take i).map fun c => txtRow c.r) ∧ z.length ≤ 911 * i) ?_ ?_ ?_⟩
  · rw [List.length_map]
    omega
  · exact ⟨rfl, _, _, _, rfl, by rw [tl_none]; rfl, by decide +kernel⟩
  · rintro i σ H' hi ⟨rfl, z, y3, y5, rfl, ez, lz⟩
    rw [List.length_map] at hi
    have hc : i < cs.length := by omega
    have gc : cs[i]? = some cs[i] := List.getElem?_eq_getElem hc
    have gg := g cs[i] (List.getElem_mem hc)
    have hlen : ((cs.take i).map fun c => txtRow c.r).length = i := by
      rw [List.length_map, List.length_take]
      omega
    have fin : ∀ due' : Str, tl due' = joinL [59, 32] ((cs.take i).map fun c => txtRow c.r) ++ (if 0 < i then [59, 32] else []) ++ txtRow cs[i].r → tl due' = joinL [59, 32] ((cs.take (i + 1)).map fun c => txtRow c.r) ∧ due'.length ≤ 911 * (i + 1) := by
      intro due' e
      have t9 := txt_len gg
      refine ⟨?_, ?_⟩
      · rw [e, take_map_succ gc, joinL_next, hlen]
      · rw [len_tl, e, List.length_append, List.length_append]
        rw [len_tl, ez] at lz
        have : (if 0 < i then [59, 32] else ([] : List Nat)).length ≤ 2 := by
          split <;> simp
        omega
    have ei : (0 : Int) + (i : Int) = (i : Int) := by omega
    rw [ei]
    refine ⟨_, rfl, _, _, rfl, rfl, _, rfl, ite_dec (fun e => ?_) fun e => ?_⟩
    · refine ⟨_, rfl, _, _, rfl, rfl, ?_, ?_⟩
      · rw [show (Str.ofString "; ").length = 2 by decide +kernel]
        exact small_line (by omega)
      refine due_row w gc (by omega) gg (l := joinL [59, 32] ((cs.take i).map fun c => txtRow c.r) ++ [59, 32]) ?_ ?_ fun due' y5' e2 => ?_
      · rw [tl_append, ez, tl_semi]
      · rw [str_len_app, show (Str.ofString "; ").length = 2 by decide +kernel]
        omega
      · obtain ⟨f1, f2⟩ := fin due' (by rw [if_pos (by omega)]; exact e2)
        exact ⟨rfl, _, _, _, rfl, f1, f2⟩
    · refine due_row w gc (by omega) gg ez (by omega) fun due' y5' e2 => ?_
      obtain ⟨f1, f2⟩ := fin due' (by rw [if_neg (by omega), List.append_nil]; exact e2)
      exact ⟨rfl, _, _, _, rfl, f1, f2⟩
  · rintro σ H' ⟨rfl, z, y3, y5, rfl, ez, lz⟩
    rw [List.length_map] at ez
    have e0 : ((cs.length : Nat) : Int).toNat = cs.length := by omega
    rw [e0, List.take_length] at ez
    have e1 : z = showRows (cs.map RC.r) := by
      refine ext_tl ?_
      rw [ez, tl_showRows, List.map_map]
      rfl
    rw [e1]
    exact q _ _
/-- what stands of the told rows while they are changed -/
structure Told (H1 H' : Hp) (t : Addr) (cs : List RC) (k : Nat) : Prop where
  same : Same H1 H'
  top : H' t = some (.lst (cs.map fun c => V.ref c.p))
  tp : ∀ c ∈ cs, H' c.p = some (.tup [.str c.n, .ref c.l])
  ls : ∀ c ∈ cs, ∃ xs, H' c.l = some (.lst xs) ∧ xs.length ≤ k
theorem law_end {K : PySem.W.Frag} {Q : VK} {H1 H2 : Hp} {a r s t u : Addr} {cs ds es : List RC} {y3 y5 y7 y10 : Option V} (R : Rows H1 s cs) (R2 : Rows H1 u ds) (er : ds.map RC.r = cs.map RC.r) (g : ∀ c ∈ cs, GoodRow c.r) (hne : cs ≠ []) (hl : cs.length ≤ 100)
    (s12 : Same H1 H2) (T : Rows H2 t es) (et : es.map RC.r = cs.map RC.r) (N : NewRows H1 t es) (q : ∀ H', Q (.bl true) H') :
    t_law_10 K (dEnd Q) [some (.ref a), some (.ref r), some (.ref s), y3, some (.str (showRows (cs.map RC.r))), y5, some (.ref u), y7, some (.ref t), none, y10] H2 := by
  have el : es.length = cs.length := by
    have := congrArg List.length et
    rw [List.length_map, List.length_map] at this
    exact this
  have gr : ∀ r ∈ cs.map RC.r, GoodRow r := fun r hr => by
    obtain ⟨c, hc, e⟩ := List.mem_map.mp hr
    rw [← e]
    exact g c hc
  have gs : Small (cs.map RC.r) := ⟨by rw [List.length_map]; exact hl, fun r hr => (gr r hr).sm⟩
  refine ⟨_, rfl, t, rfl, ⟨_, sqL_of T.top⟩, for_list (xs := es.map fun c => V.ref c.p) (fun i σ H' => (∃ y9, σ = [some (.ref a), some (.ref r), some (.ref s), y3, some (.str (showRows (cs.map RC.r))), y5, some (.ref u), y7, some (.ref t), y9, y10]) ∧ Told H1 H' t es (100 + i)) ⟨⟨_, rfl⟩, s12, T.top, fun c hc => (T.row c hc).tp, fun c hc => ⟨_, (T.row c hc).ls, ?_⟩⟩ (fun i σ H' _ w => sqL_of w.2.top) ?_ ?_⟩
  · rw [List.length_map]
    have : c.r ∈ cs.map RC.r := by
      rw [← et]
      exact List.mem_map.mpr ⟨c, hc, rfl⟩
    exact (gr _ this).len
  · rintro i x σ H' hx ⟨⟨y9, rfl⟩, w⟩
    obtain ⟨c, hc, rfl⟩ := at_map hx
    have hm := List.mem_of_getElem? hc
    have hi : i < es.length := (List.getElem?_eq_some_iff.mp hc).1
    obtain ⟨xs, hx1, hx2⟩ := w.ls c hm
    refine ⟨_, rfl, c.p, _, _, _, rfl, rfl, sqT_of (w.tp c hm), atI_nat (j := 1) rfl, .inl ⟨rfl, _, sqL_of hx1⟩, c.l, _, _, rfl, rfl, hx1, lt_line (by omega), ?_⟩
    refine ⟨⟨_, rfl⟩, same_put w.same (N.fc c hm).2, ?_, ?_, ?_⟩
    · rw [upd_ne (N.nb c hm).2.symm]
      exact w.top
    · intro d hd
      rw [upd_ne (ne_kind hx1 (w.tp d hd)).symm]
      exact w.tp d hd
    · intro d hd
      by_cases e : d.l = c.l
      · rw [e]
        exact ⟨_, upd_same, by rw [List.length_append]; show xs.length + 1 ≤ 100 + (i + 1); omega⟩
      · obtain ⟨zs, hz1, hz2⟩ := w.ls d hd
        exact ⟨zs, by rw [upd_ne e]; exact hz1, by omega⟩
  · rintro σ H' ⟨⟨y9, rfl⟩, w⟩
    have hpos : 0 < es.length := by
      rw [el]
      exact List.length_pos_iff.mpr hne
    have hlast : (es.map fun c => V.ref c.p)[(es.map fun c => V.ref c.p).length - 1]? = some (.ref es[es.length - 1].p) := by
      rw [List.length_map, List.getElem?_map, List.getElem?_eq_getElem (show es.length - 1 < es.length by omega)]
      rfl
    refine ⟨_, rfl, .inl ⟨rfl, _, sqL_of w.top⟩, t, _, _, rfl, rfl, w.top, hlast, ?_⟩
    have s3 : Same H1 (upd H' t (.lst (es.map fun c => V.ref c.p).dropLast)) := same_put w.same N.fb
    refine ⟨_, rfl, cs.map RC.r, rfl, gr, by simpa using hne, by rw [List.length_map]; exact hl, fun H3 b fs s4 F ef NF => ?_⟩
    have R3 := R.same (s3.trans s4)
    have fl : fs.length ≤ 1000 := by
      have := congrArg List.length ef
      rw [List.length_map, List.length_map] at this
      omega
    refine ⟨_, rfl, b, s, fs, cs, rfl, F, R3, ef, by rw [ef]; exact ok_of_good gr, fl, _, rfl, ?_⟩
    have R4 := R2.same (s3.trans s4)
    refine ⟨_, rfl, u, ds, rfl, R4, by rw [er]; exact gs, fun H4 s5 => ⟨_, rfl, rfl, ?_⟩⟩
    rw [er, decide_eq_true rfl]
    exact q _
theorem law_check {K : PySem.W.Frag} {Q : VK} {H : Hp} {a r s : Addr} {cs : List RC} {y3 y5 y10 : Option V} (R : Rows H s cs) (g : ∀ c ∈ cs, GoodRow c.r) (hne : cs ≠ []) (hl : cs.length ≤ 100) (q : ∀ H', Q (.bl true) H') :
    t_law_5 K (dEnd Q) [some (.ref a), some (.ref r), some (.ref s), y3, some (.str (showRows (cs.map RC.r))), y5, none, none, none, none, y10] H := by
  have gr : ∀ r ∈ cs.map RC.r, GoodRow r := fun r hr => by
    obtain ⟨c, hc, e⟩ := List.mem_map.mp hr
    rw [← e]
    exact g c hc
  have gs : Small (cs.map RC.r) := ⟨by rw [List.length_map]; exact hl, fun r hr => (gr r hr).sm⟩
  have ok := ok_of_good gr
  refine ⟨_, rfl, s, cs, rfl, R, by omega, fun H1 u ds s1 U eu NU => ?_⟩
  refine ⟨_, rfl, u, ds, rfl, U, by rw [eu]; exact gs, fun H2 s2 => ?_⟩
  have R2 := R.same (s1.trans s2)
  have U2 := U.same s2
  refine ⟨_, rfl, _, _, _, _, true, rfl, .ty _, .base (.str _), k_str, true, rfl, ?_⟩
  refine ⟨_, rfl, _, rfl, rfl, _, rfl, ite_ndec (fun e => absurd (by rw [eu]) e) fun _ => ?_⟩
  refine ⟨_, rfl, _, rfl, _, _, dp_rows U2, dp_rows R2, by rw [eu]; exact shaped_rows ok, shaped_rows ok, _, rfl, ?_⟩
  rw [eu, eqv_same (shaped_rows ok)]
  refine ⟨_, rfl, cs.map RC.r, rfl, gr, by simpa using hne, by rw [List.length_map]; exact hl, fun H3 t es s3 T et NT => ?_⟩
  have el : es.length ≤ 1000 := by
    have := congrArg List.length et
    rw [List.length_map, List.length_map] at this
    omega
  refine ⟨_, rfl, _, rfl, t, s, es, cs, rfl, T, R2.same s3, et, by rw [et]; exact ok, el, true, rfl, ?_⟩
  exact law_end R2 U2 eu g hne hl s3 T et NT q
theorem run_law {K : PySem.W.Frag} {vs : List V} {H : Hp} {Q : VK} {E : XK} (h : sp_law K vs H Q E) : t_law_0 K (dEnd Q) (start n_law vs) H := by
  obtain ⟨a, ns, rfl, hs, hl, q⟩ := h
  refine ⟨_, rfl, a, ns, 0, rfl, hs, fun b H1 hb s1 => ⟨small_line (by simp), fun r nr => ?_⟩⟩
  refine ⟨small_line (by simp), fun s nss => ?_⟩
  have er : (upd (upd H1 r (.lst [.int b])) s (.lst [])) r = some (.lst [.int b]) := same_upd nss _ _ upd_same
  have w0 : Built (upd (upd H1 r (.lst [.int b])) s (.lst [])) r s [] := ⟨⟨b, er⟩, ⟨upd_same, by simp⟩, ne_of_none upd_same nss, by simp, by simp⟩
  refine ⟨_, rfl, r, b, 12, rfl, er, by decide, by decide, fun d b1 d0 d1 => ?_⟩
  have w1 := w0.put (b := b1)
  refine ⟨_, _, rfl, rfl, _, rfl, by omega, by omega, for_range (lo := 0) (n := (1 + d).toNat) (fun i σ H' => ∃ (cs : List RC) (y3 y10 : Option V), σ = [some (.ref a), some (.ref r), some (.ref s), y3, none, none, none, none, none, none, y10] ∧ cs.length = i ∧ Built H' r s cs) ⟨[], none, none, rfl, rfl, w1⟩ ?_ ?_⟩
  · rintro i σ H' hi ⟨cs, y3, y10, rfl, hc, w⟩
    exact law_build w (by omega) fun H2 cs' w' e => ⟨cs', _, _, rfl, by omega, w'⟩
  · rintro σ H' ⟨cs, y3, y10, rfl, hc, w⟩
    have hne : cs ≠ [] := by
      intro e
      rw [e] at hc
      have : 0 = (1 + d).toNat := hc
      omega
    exact law_due w.rows w.good (by omega) fun y3' y5' => law_check w.rows w.good hne (by omega) q
end Tw

namespace Tw
open PySem PySem.Spec L2
open PyProof.Rows hiding St
def topS (i : Nat) : Stmt := PySem.Challenge.pw_threewebs_k80_rows_written.main.body.getD i (.Pass ⟨0, 0, 0, 0⟩)
abbrev s_is_name : Stmt := topS 6
theorem sc_is_name : FnScope n_is_name ["thing"] (defScope s_is_name) := ⟨rfl, rfl, rfl, by decide +kernel, rfl, by decide +kernel, by decide +kernel⟩
abbrev s_shown : Stmt := topS 8
theorem sc_shown : FnScope n_shown ["rows"] (defScope s_shown) := ⟨rfl, rfl, rfl, by decide +kernel, rfl, by decide +kernel, by decide +kernel⟩
abbrev s_row_in : Stmt := topS 9
theorem sc_row_in : FnScope n_row_in ["part"] (defScope s_row_in) := ⟨rfl, rfl, rfl, by decide +kernel, rfl, by decide +kernel, by decide +kernel⟩
abbrev s_read : Stmt := topS 10
theorem sc_read : FnScope n_read ["text"] (defScope s_read) := ⟨rfl, rfl, rfl, by decide +kernel, rfl, by decide +kernel, by decide +kernel⟩
abbrev s__law_cell_at : Stmt := topS 12
theorem sc__law_cell_at : FnScope n__law_cell_at ["_law_script", "_law_k"] (defScope s__law_cell_at) := ⟨rfl, rfl, rfl, by decide +kernel, rfl, by decide +kernel, by decide +kernel⟩
abbrev s__law_big : Stmt := topS 13
theorem sc__law_big : FnScope n__law_big ["_law_script", "_law_at"] (defScope s__law_big) := ⟨rfl, rfl, rfl, by decide +kernel, rfl, by decide +kernel, by decide +kernel⟩
abbrev s__law_copy : Stmt := topS 14
theorem sc__law_copy : FnScope n__law_copy ["_law_rows"] (defScope s__law_copy) := ⟨rfl, rfl, rfl, by decide +kernel, rfl, by decide +kernel, by decide +kernel⟩
abbrev s__law_same : Stmt := topS 15
theorem sc__law_same : FnScope n__law_same ["_law_told", "_law_due"] (defScope s__law_same) := ⟨rfl, rfl, rfl, by decide +kernel, rfl, by decide +kernel, by decide +kernel⟩
abbrev s__law_digit : Stmt := topS 16
theorem sc__law_digit : FnScope n__law_digit ["_law_rest", "_law_many"] (defScope s__law_digit) := ⟨rfl, rfl, rfl, by decide +kernel, rfl, by decide +kernel, by decide +kernel⟩
abbrev s__law_word : Stmt := topS 17
theorem sc__law_word : FnScope n__law_word ["_law_rest"] (defScope s__law_word) := ⟨rfl, rfl, rfl, by decide +kernel, rfl, by decide +kernel, by decide +kernel⟩
abbrev s_law : Stmt := topS 18
theorem sc_law : FnScope n_law ["_law_script"] (defScope s_law) := ⟨rfl, rfl, rfl, by decide +kernel, rfl, by decide +kernel, by decide +kernel⟩
structure Top (K : PySem.W.Frag) (mg : Str → Option Value) (a : Nat → Addr) (d : Nat → FuncData) : Prop where
  f_is_name : Fun K "is_name" "is_name" s_is_name (a 0) (d 0)
  b_is_name : Binds K (d 0) ["thing"] []
  g_is_name : mg "is_name" = some (.ref (a 0))
  f_shown : Fun K "shown" "shown" s_shown (a 1) (d 1)
  b_shown : Binds K (d 1) ["rows"] []
  g_shown : mg "shown" = some (.ref (a 1))
  f_row_in : Fun K "row_in" "row_in" s_row_in (a 2) (d 2)
  b_row_in : Binds K (d 2) ["part"] []
  g_row_in : mg "row_in" = some (.ref (a 2))
  f_read : Fun K "read" "read" s_read (a 3) (d 3)
  b_read : Binds K (d 3) ["text"] []
  g_read : mg "read" = some (.ref (a 3))
  f__law_cell_at : Fun K "_law_cell_at" "_law_cell_at" s__law_cell_at (a 4) (d 4)
  b__law_cell_at : Binds K (d 4) ["_law_script", "_law_k"] []
  g__law_cell_at : mg "_law_cell_at" = some (.ref (a 4))
  f__law_big : Fun K "_law_big" "_law_big" s__law_big (a 5) (d 5)
  b__law_big : Binds K (d 5) ["_law_script", "_law_at"] []
  g__law_big : mg "_law_big" = some (.ref (a 5))
  f__law_copy : Fun K "_law_copy" "_law_copy" s__law_copy (a 6) (d 6)
  b__law_copy : Binds K (d 6) ["_law_rows"] []
  g__law_copy : mg "_law_copy" = some (.ref (a 6))
  f__law_same : Fun K "_law_same" "_law_same" s__law_same (a 7) (d 7)
  b__law_same : Binds K (d 7) ["_law_told", "_law_due"] []
  g__law_same : mg "_law_same" = some (.ref (a 7))
  f__law_digit : Fun K "_law_digit" "_law_digit" s__law_digit (a 8) (d 8)
  b__law_digit : Binds K (d 8) ["_law_rest", "_law_many"] []
  g__law_digit : mg "_law_digit" = some (.ref (a 8))
  f__law_word : Fun K "_law_word" "_law_word" s__law_word (a 9) (d 9)
  b__law_word : Binds K (d 9) ["_law_rest"] []
  g__law_word : mg "_law_word" = some (.ref (a 9))
  f_law : Fun K "law" "law" s_law (a 10) (d 10)
  b_law : Binds K (d 10) ["_law_script"] []
  g_law : mg "law" = some (.ref (a 10))
  m_isinstance : mg "isinstance" = none
  m_len : mg "len" = none
  m_list : mg "list" = none
  m_range : mg "range" = none
  m_str : mg "str" = none
  m_tuple : mg "tuple" = none
  c_SIGNS : ∃ u, mg "SIGNS" = some u ∧ RelV (.str "abcdefghijklmnopqrstuvwxyz0123456789") u
  c_LONGEST : ∃ u, mg "LONGEST" = some u ∧ RelV (.int 8) u
section
variable {P : Program} {w : World} {K : PySem.W.Frag} {mg : Str → Option Value} {base : Heap} {a : Nat → Addr} {d : Nat → FuncData}
theorem ok_is_name (T : Top K mg a d) : FnOk P w K mg base CX0 1 (a 0) (d 0) ["thing"] (sp_is_name K) :=
  T.f_is_name.ok sc_is_name (fun vs H Q E h => len_is_name vs H Q E h) (fun cdv A outer s H vs Q E hr h => ⟨t_is_name_0 K, (pss_cons (ps_if (PW.pt (pw_or (pt_not (pt_val (pe_callB call_isi (by rfl) T.m_isinstance (by decide +kernel) (pa_cons (pv 0) (pa_cons (pe_bltn (v := .ty "str") (by rfl) T.m_str (by decide +kernel) rfl) pa_nil))))) (pw_or (pt_cmpR op_eq (pv 0) pe_str (nomark _)) (pw_or1 (pt_cmpR op_gt (pe_callB call_len_str (by rfl) T.m_len (by decide +kernel) (pa_cons (pv 0) pa_nil)) (pe_glob (by rfl) T.c_LONGEST.choose_spec.1 T.c_LONGEST.choose_spec.2) (nomark _))))))
  (pss_one (ps_ret pe_bl))
  pss_nil)
  (pss_cons (ps_for PassesOwn.never rfl (pi_str (pv 0)) (pg_name (i := 1) sc_is_name.nd rfl (by first | exact .inl rfl | exact .inr rfl))
  (pss_one (ps_if (pt_cmpR op_notIn_sign (pv 1) (pe_glob (by rfl) T.c_SIGNS.choose_spec.1 T.c_SIGNS.choose_spec.2) rfl)
  (pss_one (ps_ret pe_bl))
  pss_nil)))
  (pss_one (ps_ret pe_bl)))), run_is_name h⟩)
theorem ok_shown (T : Top K mg a d) : FnOk P w K mg base CX0 1 (a 1) (d 1) ["rows"] (sp_shown K) :=
  T.f_shown.ok sc_shown (fun vs H Q E h => len_shown vs H Q E h) (fun cdv A outer s H vs Q E hr h => ⟨t_shown_0 K, (pss_cons (ps_set (i := 1) sc_shown.nd rfl (by first | exact .inl rfl | exact .inr rfl) (pe_lst pa_nil))
  (pss_cons (ps_for PassesOwn.never rfl (pi_list (pv 0)) (pg_tup rfl (pgs_cons (pg_name (i := 2) sc_shown.nd rfl (by first | exact .inl rfl | exact .inr rfl)) (pgs_cons (pg_name (i := 3) sc_shown.nd rfl (by first | exact .inl rfl | exact .inr rfl)) pgs_nil)))
  (pss_one (ps_expr (pe_bm PySem.F.plainAttrs_list PySem.F.slot_list_append PySem.F.type_list_append mt_append (pv 1) (pa_cons (pe_op op_add_str (pe_op op_add_str (pv 2) pe_str) (pe_join pe_str (pe_lc (own := [("tie", 4)]) (g := (gName 4)) (tt := tYes) rfl sc_shown.nd (pi_list (pv 3)) (blkOk_by (own := [("tie", 4)]) (N := ["rows", "parts", "point", "ties", "tie"]) (sc := defScope s_shown) (by decide +kernel)) (fun _ _ _ _ _ => (pg_name (i := 4) sc_shown.nd rfl (by first | exact .inl rfl | exact .inr rfl))) (fun _ _ _ _ _ => pts_nil) (fun _ _ _ _ _ => (pe_op op_add_str pe_str (pv 4)))))) pa_nil)))))
  (pss_one (ps_ret (pe_join pe_str (pv 1)))))), run_shown h⟩)
theorem ok_row_in (T : Top K mg a d) : FnOk P w K mg base CX0 2 (a 2) (d 2) ["part"] (sp_row_in K) :=
  T.f_row_in.ok sc_row_in (fun vs H Q E h => len_row_in vs H Q E h) (fun cdv A outer s H vs Q E hr h => ⟨t_row_in_0 K, (pss_cons (ps_set (i := 1) sc_row_in.nd rfl (by first | exact .inl rfl | exact .inr rfl) (pe_split (pv 0) pe_str))
  (pss_cons (ps_set (i := 2) sc_row_in.nd rfl (by first | exact .inl rfl | exact .inr rfl) (pe_slice sl_str (pe_ix ix_list (pv 1) pe_int (fun _ _ => rfl)) po_none (po_some (pe_un un_neg pe_int))))
  (pss_cons (ps_if (PW.pt (pw_or (pt_cmpR op_ne (pe_slice sl_str (pe_ix ix_list (pv 1) pe_int (fun _ _ => rfl)) (po_some (pe_un un_neg pe_int)) po_none) pe_str (nomark _)) (pw_or1 (pt_not (pt_val (pe_call (ok_is_name T) (hr.mono (by decide)) (by rfl) T.g_is_name T.f_is_name.kp T.b_is_name .nil pass0 (pa_cons (pv 2) pa_nil)))))))
  (pss_one ps_never)
  pss_nil)
  (pss_cons (ps_for PassesOwn.never rfl (pi_list (pe_slice sl_list (pv 1) (po_some pe_int) po_none)) (pg_name (i := 3) sc_row_in.nd rfl (by first | exact .inl rfl | exact .inr rfl))
  (pss_one (ps_if (pt_not (pt_val (pe_call (ok_is_name T) (hr.mono (by decide)) (by rfl) T.g_is_name T.f_is_name.kp T.b_is_name .nil pass0 (pa_cons (pv 3) pa_nil))))
  (pss_one ps_never)
  pss_nil)))
  (pss_one (ps_ret (pe_tup (pa_cons (pv 2) (pa_cons (pe_slice sl_list (pv 1) (po_some pe_int) po_none) pa_nil))))))))), run_row_in h⟩)
theorem ok_read (T : Top K mg a d) : FnOk P w K mg base CX0 3 (a 3) (d 3) ["text"] (sp_read K) :=
  T.f_read.ok sc_read (fun vs H Q E h => len_read vs H Q E h) (fun cdv A outer s H vs Q E hr h => ⟨t_read_0 K, (pss_one (ps_ret (pe_lc (own := [("part", 1)]) (g := (gName 1)) (tt := tYes) rfl sc_read.nd (pi_list (pe_split (pv 0) pe_str)) (blkOk_by (own := [("part", 1)]) (N := ["text", "part"]) (sc := defScope s_read) (by decide +kernel)) (fun _ _ _ _ _ => (pg_name (i := 1) sc_read.nd rfl (by first | exact .inl rfl | exact .inr rfl))) (fun _ _ _ _ _ => pts_nil) (fun _ _ _ _ _ => (pe_call (ok_row_in T) (hr.mono (by decide)) (by rfl) T.g_row_in T.f_row_in.kp T.b_row_in .nil pass0 (pa_cons (pv 1) pa_nil)))))), run_read h⟩)
theorem ok__law_cell_at (T : Top K mg a d) : FnOk P w K mg base CX0 1 (a 4) (d 4) ["_law_script", "_law_k"] (sp__law_cell_at K) :=
  T.f__law_cell_at.ok sc__law_cell_at (fun vs H Q E h => len__law_cell_at vs H Q E h) (fun cdv A outer s H vs Q E hr h => ⟨t__law_cell_at_0 K, (pss_cons (ps_if (pt_cmpR op_lt (pv 1) (pe_callB call_len_seq (by rfl) T.m_len (by decide +kernel) (pa_cons (pv 0) pa_nil)) (nomark _))
  (pss_one (ps_ret (pe_ix ix_list (pv 0) (pv 1) (fun _ _ => rfl))))
  pss_nil)
  (pss_one (ps_ret pe_int))), run__law_cell_at h⟩)
theorem ok__law_big (T : Top K mg a d) : FnOk P w K mg base CX0 2 (a 5) (d 5) ["_law_script", "_law_at"] (sp__law_big K) :=
  T.f__law_big.ok sc__law_big (fun vs H Q E h => len__law_big vs H Q E h) (fun cdv A outer s H vs Q E hr h => ⟨t__law_big_0 K, (pss_cons (ps_set (i := 2) sc__law_big.nd rfl (by first | exact .inl rfl | exact .inr rfl) (pe_tup (pa_cons pe_int (pa_cons pe_int (pa_cons pe_int (pa_cons pe_int (pa_cons pe_int (pa_cons pe_int (pa_cons pe_int (pa_cons pe_int pa_nil))))))))))
  (pss_cons (ps_set (i := 3) sc__law_big.nd rfl (by first | exact .inl rfl | exact .inr rfl) (pe_tup (pa_cons pe_int (pa_cons pe_int (pa_cons pe_int (pa_cons pe_int (pa_cons pe_int (pa_cons pe_int (pa_cons pe_int (pa_cons pe_int pa_nil))))))))))
  (pss_cons (ps_set (i := 4) sc__law_big.nd rfl (by first | exact .inl rfl | exact .inr rfl) (pe_call (ok__law_cell_at T) (hr.mono (by decide)) (by rfl) T.g__law_cell_at T.f__law_cell_at.kp T.b__law_cell_at .nil pass0 (pa_cons (pv 0) (pa_cons (pv 1) pa_nil))))
  (pss_cons (ps_if (PW.pt (pw_and (pt_cmpR op_eq (pe_op op_mod (pv 4) pe_int) pe_int (nomark _)) (pw_and1 (pt_cmpR op_gt (pv 4) (pe_op op_pow pe_int pe_int) (nomark _)))))
  (pss_one (ps_ret (pe_op op_fdivW (pv 4) pe_int)))
  pss_nil)
  (pss_cons (ps_set (i := 5) sc__law_big.nd rfl (by first | exact .inl rfl | exact .inr rfl) pe_int)
  (pss_cons (ps_for PassesOwn.never rfl (pi_range1 (by rfl) T.m_range (pa_cons pe_int pa_nil)) (pg_name (i := 6) sc__law_big.nd rfl (by first | exact .inl rfl | exact .inr rfl))
  (pss_cons (ps_set (i := 7) sc__law_big.nd rfl (by first | exact .inl rfl | exact .inr rfl) (pe_op op_add (pe_op op_add (pe_op op_mod (pe_call (ok__law_cell_at T) (hr.mono (by decide)) (by rfl) T.g__law_cell_at T.f__law_cell_at.kp T.b__law_cell_at .nil pass0 (pa_cons (pv 0) (pa_cons (pe_op op_add (pv 1) (pe_op op_mod (pv 6) pe_int)) pa_nil))) (pe_op op_pow pe_int pe_int)) pe_int) (pe_op op_mulW (pv 6) (pv 6))))
  (pss_one (ps_set (i := 5) sc__law_big.nd rfl (by first | exact .inl rfl | exact .inr rfl) (pe_op op_add (pe_op op_mulW (pv 5) pe_int) (pe_op op_mod (pe_op op_mod (pe_op op_mulW (pv 7) (pe_ix ix_tup (pv 2) (pe_op op_mod (pv 6) pe_int) (fun _ _ => rfl))) (pe_ix ix_tup (pv 3) (pe_op op_mod (pv 6) pe_int) (fun _ _ => rfl))) pe_int))))))
  (pss_one (ps_ret (pv 5))))))))), run__law_big h⟩)
theorem ok__law_copy (T : Top K mg a d) : FnOk P w K mg base CX0 1 (a 6) (d 6) ["_law_rows"] (sp__law_copy K) :=
  T.f__law_copy.ok sc__law_copy (fun vs H Q E h => len__law_copy vs H Q E h) (fun cdv A outer s H vs Q E hr h => ⟨t__law_copy_0 K, (pss_one (ps_ret (pe_lc (own := [("_law_row", 1)]) (g := (gName 1)) (tt := tYes) rfl sc__law_copy.nd (pi_list (pv 0)) (blkOk_by (own := [("_law_row", 1)]) (N := ["_law_rows", "_law_row"]) (sc := defScope s__law_copy) (by decide +kernel)) (fun _ _ _ _ _ => (pg_name (i := 1) sc__law_copy.nd rfl (by first | exact .inl rfl | exact .inr rfl))) (fun _ _ _ _ _ => pts_nil) (fun _ _ _ _ _ => (pe_tup (pa_cons (pe_ix ix_tup (pv 1) pe_int (fun _ _ => rfl)) (pa_cons (pe_callTy call_list_of (by rfl) T.m_list (by decide +kernel) (pa_cons (pe_ix ix_tup (pv 1) pe_int (fun _ _ => rfl)) pa_nil)) pa_nil))))))), run__law_copy h⟩)
theorem ok__law_same (T : Top K mg a d) : FnOk P w K mg base CX0 1 (a 7) (d 7) ["_law_told", "_law_due"] (sp__law_same K) :=
  T.f__law_same.ok sc__law_same (fun vs H Q E h => len__law_same vs H Q E h) (fun cdv A outer s H vs Q E hr h => ⟨t__law_same_0 K, (pss_cons (ps_if (PW.pt (pw_or (pt_not (pt_val (pe_callB call_isi (by rfl) T.m_isinstance (by decide +kernel) (pa_cons (pv 0) (pa_cons (pe_bltn (v := .ty "list") (by rfl) T.m_list (by decide +kernel) rfl) pa_nil))))) (pw_or1 (pt_cmpR op_ne (pe_callB call_len_seq (by rfl) T.m_len (by decide +kernel) (pa_cons (pv 0) pa_nil)) (pe_callB call_len_seq (by rfl) T.m_len (by decide +kernel) (pa_cons (pv 1) pa_nil)) (nomark _)))))
  (pss_one (ps_ret pe_bl))
  pss_nil)
  (pss_cons (ps_for PassesOwn.never rfl (pi_range1 (by rfl) T.m_range (pa_cons (pe_callB call_len_seq (by rfl) T.m_len (by decide +kernel) (pa_cons (pv 1) pa_nil)) pa_nil)) (pg_name (i := 2) sc__law_same.nd rfl (by first | exact .inl rfl | exact .inr rfl))
  (pss_cons (ps_set (i := 3) sc__law_same.nd rfl (by first | exact .inl rfl | exact .inr rfl) (pe_ix ix_list (pv 0) (pv 2) (fun _ _ => rfl)))
  (pss_cons (ps_if (PW.pt (pw_or (pt_not (pt_val (pe_callB call_isi (by rfl) T.m_isinstance (by decide +kernel) (pa_cons (pv 3) (pa_cons (pe_bltn (v := .ty "tuple") (by rfl) T.m_tuple (by decide +kernel) rfl) pa_nil))))) (pw_or (pt_cmpR op_ne (pe_callB call_len_seq (by rfl) T.m_len (by decide +kernel) (pa_cons (pv 3) pa_nil)) pe_int (nomark _)) (pw_or (pt_not (pt_val (pe_callB call_isi (by rfl) T.m_isinstance (by decide +kernel) (pa_cons (pe_ix ix_tup (pv 3) pe_int (fun _ _ => rfl)) (pa_cons (pe_bltn (v := .ty "str") (by rfl) T.m_str (by decide +kernel) rfl) pa_nil))))) (pw_or1 (pt_not (pt_val (pe_callB call_isi (by rfl) T.m_isinstance (by decide +kernel) (pa_cons (pe_ix ix_tup (pv 3) pe_int (fun _ _ => rfl)) (pa_cons (pe_bltn (v := .ty "list") (by rfl) T.m_list (by decide +kernel) rfl) pa_nil))))))))))
  (pss_one (ps_ret pe_bl))
  pss_nil)
  (pss_one (ps_if (PW.pt (pw_or (pt_cmpR op_ne (pe_ix ix_tup (pv 3) pe_int (fun _ _ => rfl)) (pe_ix ix_tup (pe_ix ix_list (pv 1) (pv 2) (fun _ _ => rfl)) pe_int (fun _ _ => rfl)) (nomark _)) (pw_or1 (pt_cmpR (op_neD hr.units) (pe_ix ix_tup (pv 3) pe_int (fun _ _ => rfl)) (pe_ix ix_tup (pe_ix ix_list (pv 1) (pv 2) (fun _ _ => rfl)) pe_int (fun _ _ => rfl)) (nomark _)))))
  (pss_one (ps_ret pe_bl))
  pss_nil)))))
  (pss_one (ps_ret pe_bl)))), run__law_same h⟩)
theorem ok__law_digit (T : Top K mg a d) : FnOk P w K mg base CX0 1 (a 8) (d 8) ["_law_rest", "_law_many"] (sp__law_digit K) :=
  T.f__law_digit.ok sc__law_digit (fun vs H Q E h => len__law_digit vs H Q E h) (fun cdv A outer s H vs Q E hr h => ⟨t__law_digit_0 K, (pss_cons (ps_set (i := 2) sc__law_digit.nd rfl (by first | exact .inl rfl | exact .inr rfl) (pe_op op_mod (pe_ix ix_list (pv 0) pe_int (fun _ _ => rfl)) (pv 1)))
  (pss_cons (ps_asg (pe_op op_fdivW (pe_ix ix_list (pv 0) pe_int (fun _ _ => rfl)) (pv 1)) (pg_sub (pv 0) pe_int set_list))
  (pss_one (ps_ret (pv 2))))), run__law_digit h⟩)
theorem ok__law_word (T : Top K mg a d) : FnOk P w K mg base CX0 2 (a 9) (d 9) ["_law_rest"] (sp__law_word K) :=
  T.f__law_word.ok sc__law_word (fun vs H Q E h => len__law_word vs H Q E h) (fun cdv A outer s H vs Q E hr h => ⟨t__law_word_0 K, (pss_cons (ps_set (i := 1) sc__law_word.nd rfl (by first | exact .inl rfl | exact .inr rfl) pe_str)
  (pss_cons (ps_set (i := 2) sc__law_word.nd rfl (by first | exact .inl rfl | exact .inr rfl) pe_str)
  (pss_cons (ps_for PassesOwn.never rfl (pi_range1 (by rfl) T.m_range (pa_cons (pe_op op_add pe_int (pe_call (ok__law_digit T) (hr.mono (by decide)) (by rfl) T.g__law_digit T.f__law_digit.kp T.b__law_digit .nil pass0 (pa_cons (pv 0) (pa_cons pe_int pa_nil)))) pa_nil)) (pg_name (i := 3) sc__law_word.nd rfl (by first | exact .inl rfl | exact .inr rfl))
  (pss_one (ps_set (i := 2) sc__law_word.nd rfl (by first | exact .inl rfl | exact .inr rfl) (pe_op op_add_str (pv 2) (pe_ix ix_str (pv 1) (pe_call (ok__law_digit T) (hr.mono (by decide)) (by rfl) T.g__law_digit T.f__law_digit.kp T.b__law_digit .nil pass0 (pa_cons (pv 0) (pa_cons pe_int pa_nil))) (fun _ _ => rfl))))))
  (pss_one (ps_ret (pv 2)))))), run__law_word h⟩)
theorem ok_law (T : Top K mg a d) : FnOk P w K mg base CX0 4 (a 10) (d 10) ["_law_script"] (sp_law K) :=
  T.f_law.ok sc_law (fun vs H Q E h => len_law vs H Q E h) (fun cdv A outer s H vs Q E hr h => ⟨t_law_0 K, (pss_cons (ps_set (i := 1) sc_law.nd rfl (by first | exact .inl rfl | exact .inr rfl) (pe_lst (pa_cons (pe_call (ok__law_big T) (hr.mono (by decide)) (by rfl) T.g__law_big T.f__law_big.kp T.b__law_big .nil pass0 (pa_cons (pv 0) (pa_cons pe_int pa_nil))) pa_nil)))
  (pss_cons (ps_set (i := 2) sc_law.nd rfl (by first | exact .inl rfl | exact .inr rfl) (pe_lst pa_nil))
  (pss_cons (ps_for PassesOwn.never rfl (pi_range1 (by rfl) T.m_range (pa_cons (pe_op op_add pe_int (pe_call (ok__law_digit T) (hr.mono (by decide)) (by rfl) T.g__law_digit T.f__law_digit.kp T.b__law_digit .nil pass0 (pa_cons (pv 1) (pa_cons pe_int pa_nil)))) pa_nil)) (pg_name (i := 3) sc_law.nd rfl (by first | exact .inl rfl | exact .inr rfl))
  (pss_one (ps_expr (pe_bm PySem.F.plainAttrs_list PySem.F.slot_list_append PySem.F.type_list_append mt_append (pv 2) (pa_cons (pe_tup (pa_cons (pe_call (ok__law_word T) (hr.mono (by decide)) (by rfl) T.g__law_word T.f__law_word.kp T.b__law_word .nil pass0 (pa_cons (pv 1) pa_nil)) (pa_cons (pe_lc (own := [("_law_j", 10)]) (g := (gName 10)) (tt := tYes) rfl sc_law.nd (pi_range1 (by rfl) T.m_range (pa_cons (pe_call (ok__law_digit T) (hr.mono (by decide)) (by rfl) T.g__law_digit T.f__law_digit.kp T.b__law_digit .nil pass0 (pa_cons (pv 1) (pa_cons pe_int pa_nil))) pa_nil)) (blkOk_by (own := [("_law_j", 10)]) (N := ["_law_script", "_law_rest", "_law_rows", "_law_k", "_law_due", "_law_tie", "_law_handed", "_law_text", "_law_told", "_law_row", "_law_j"]) (sc := defScope s_law) (by decide +kernel)) (fun _ _ _ _ _ => (pg_name (i := 10) sc_law.nd rfl (by first | exact .inl rfl | exact .inr rfl))) (fun _ _ _ _ _ => pts_nil) (fun _ _ _ _ _ => (pe_call (ok__law_word T) (hr.mono (by decide)) (by rfl) T.g__law_word T.f__law_word.kp T.b__law_word .nil pass0 (pa_cons (pv 1) pa_nil)))) pa_nil))) pa_nil)))))
  (pss_cons (ps_set (i := 4) sc_law.nd rfl (by first | exact .inl rfl | exact .inr rfl) pe_str)
  (pss_cons (ps_for PassesOwn.never rfl (pi_range1 (by rfl) T.m_range (pa_cons (pe_callB call_len_seq (by rfl) T.m_len (by decide +kernel) (pa_cons (pv 2) pa_nil)) pa_nil)) (pg_name (i := 3) sc_law.nd rfl (by first | exact .inl rfl | exact .inr rfl))
  (pss_cons (ps_if (pt_cmpR op_gt (pv 3) pe_int (nomark _))
  (pss_one (ps_set (i := 4) sc_law.nd rfl (by first | exact .inl rfl | exact .inr rfl) (pe_op op_add_str (pv 4) pe_str)))
  pss_nil)
  (pss_cons (ps_set (i := 4) sc_law.nd rfl (by first | exact .inl rfl | exact .inr rfl) (pe_op op_add_str (pe_op op_add_str (pv 4) (pe_ix ix_tup (pe_ix ix_list (pv 2) (pv 3) (fun _ _ => rfl)) pe_int (fun _ _ => rfl))) pe_str))
  (pss_one (ps_for PassesOwn.never rfl (pi_list (pe_ix ix_tup (pe_ix ix_list (pv 2) (pv 3) (fun _ _ => rfl)) pe_int (fun _ _ => rfl))) (pg_name (i := 5) sc_law.nd rfl (by first | exact .inl rfl | exact .inr rfl))
  (pss_one (ps_set (i := 4) sc_law.nd rfl (by first | exact .inl rfl | exact .inr rfl) (pe_op op_add_str (pe_op op_add_str (pv 4) pe_str) (pv 5)))))))))
  (pss_cons (ps_set (i := 6) sc_law.nd rfl (by first | exact .inl rfl | exact .inr rfl) (pe_call (ok__law_copy T) (hr.mono (by decide)) (by rfl) T.g__law_copy T.f__law_copy.kp T.b__law_copy .nil pass0 (pa_cons (pv 2) pa_nil)))
  (pss_cons (ps_set (i := 7) sc_law.nd rfl (by first | exact .inl rfl | exact .inr rfl) (pe_call (ok_shown T) (hr.mono (by decide)) (by rfl) T.g_shown T.f_shown.kp T.b_shown .nil pass0 (pa_cons (pv 6) pa_nil)))
  (pss_cons (ps_if (PW.pt (pw_or (pt_not (pt_val (pe_callB call_isi (by rfl) T.m_isinstance (by decide +kernel) (pa_cons (pv 7) (pa_cons (pe_bltn (v := .ty "str") (by rfl) T.m_str (by decide +kernel) rfl) pa_nil))))) (pw_or (pt_cmpR op_ne (pv 7) (pv 4) (nomark _)) (pw_or1 (pt_cmpR (op_neD hr.units) (pv 6) (pv 2) (nomark _))))))
  (pss_one (ps_ret pe_bl))
  pss_nil)
  (pss_cons (ps_set (i := 8) sc_law.nd rfl (by first | exact .inl rfl | exact .inr rfl) (pe_call (ok_read T) (hr.mono (by decide)) (by rfl) T.g_read T.f_read.kp T.b_read .nil pass0 (pa_cons (pv 4) pa_nil)))
  (pss_cons (ps_if (pt_not (pt_val (pe_call (ok__law_same T) (hr.mono (by decide)) (by rfl) T.g__law_same T.f__law_same.kp T.b__law_same .nil pass0 (pa_cons (pv 8) (pa_cons (pv 2) pa_nil)))))
  (pss_one (ps_ret pe_bl))
  pss_nil)
  (pss_cons (ps_for PassesOwn.never rfl (pi_list (pv 8)) (pg_name (i := 9) sc_law.nd rfl (by first | exact .inl rfl | exact .inr rfl))
  (pss_one (ps_expr (pe_bm PySem.F.plainAttrs_list PySem.F.slot_list_append PySem.F.type_list_append mt_append (pe_ix ix_tup (pv 9) pe_int (fun _ _ => rfl)) (pa_cons pe_str pa_nil)))))
  (pss_cons (ps_expr (pe_bm0 PySem.F.plainAttrs_list PySem.F.slot_list_pop PySem.F.type_list_pop mt_pop (pv 8)))
  (pss_one (ps_ret (pe_and (pe_call (ok__law_same T) (hr.mono (by decide)) (by rfl) T.g__law_same T.f__law_same.kp T.b__law_same .nil pass0 (pa_cons (pe_call (ok_read T) (hr.mono (by decide)) (by rfl) T.g_read T.f_read.kp T.b_read .nil pass0 (pa_cons (pv 4) pa_nil)) (pa_cons (pv 2) pa_nil))) (pe_one (pe_cmpR op_eq (pe_call (ok_shown T) (hr.mono (by decide)) (by rfl) T.g_shown T.f_shown.kp T.b_shown .nil pass0 (pa_cons (pv 6) pa_nil)) (pv 4) (nomark _)))))))))))))))))), run_law h⟩)
end
theorem all_mk {l : PySem.W.OpenLaw} {w : World} {K : PySem.W.Frag} {h : Heap} {mg : Str → Option Value} {fa f0 f1 f2 f3 f4 f5 f6 f7 f8 f9 f10 : Addr} (X : K.In h) (G : h.Ns mainGlobals mg) (hfa : mg "law" = some (.ref fa))
    {od0 an0 : Option Addr} {sl0 : Array (Option Value)} {oc0 kV0 dc0 pm0 cd0 ct0 : Value}
    (a0 : PySem.W.nsIn K mainGlobals "is_name" = some (some (.ref f0)))
    (l0 : K.lookup f0 = some ⟨oc0, od0, .func (PySem.W.fnOf "is_name" "is_name" (defArgs s_is_name) (defBody s_is_name) (defScope s_is_name) .none kV0 dc0 pm0 an0 cd0 ct0), sl0⟩)
    (c0 : PySem.W.codeIn K cd0 "is_name" = true) (k0 : PySem.W.keepIn K (.ref f0) = true)
    {od1 an1 : Option Addr} {sl1 : Array (Option Value)} {oc1 kV1 dc1 pm1 cd1 ct1 : Value}
    (a1 : PySem.W.nsIn K mainGlobals "shown" = some (some (.ref f1)))
    (l1 : K.lookup f1 = some ⟨oc1, od1, .func (PySem.W.fnOf "shown" "shown" (defArgs s_shown) (defBody s_shown) (defScope s_shown) .none kV1 dc1 pm1 an1 cd1 ct1), sl1⟩)
    (c1 : PySem.W.codeIn K cd1 "shown" = true) (k1 : PySem.W.keepIn K (.ref f1) = true)
    {od2 an2 : Option Addr} {sl2 : Array (Option Value)} {oc2 kV2 dc2 pm2 cd2 ct2 : Value}
    (a2 : PySem.W.nsIn K mainGlobals "row_in" = some (some (.ref f2)))
    (l2 : K.lookup f2 = some ⟨oc2, od2, .func (PySem.W.fnOf "row_in" "row_in" (defArgs s_row_in) (defBody s_row_in) (defScope s_row_in) .none kV2 dc2 pm2 an2 cd2 ct2), sl2⟩)
    (c2 : PySem.W.codeIn K cd2 "row_in" = true) (k2 : PySem.W.keepIn K (.ref f2) = true)
    {od3 an3 : Option Addr} {sl3 : Array (Option Value)} {oc3 kV3 dc3 pm3 cd3 ct3 : Value}
    (a3 : PySem.W.nsIn K mainGlobals "read" = some (some (.ref f3)))
    (l3 : K.lookup f3 = some ⟨oc3, od3, .func (PySem.W.fnOf "read" "read" (defArgs s_read) (defBody s_read) (defScope s_read) .none kV3 dc3 pm3 an3 cd3 ct3), sl3⟩)
    (c3 : PySem.W.codeIn K cd3 "read" = true) (k3 : PySem.W.keepIn K (.ref f3) = true)
    {od4 an4 : Option Addr} {sl4 : Array (Option Value)} {oc4 kV4 dc4 pm4 cd4 ct4 : Value}
    (a4 : PySem.W.nsIn K mainGlobals "_law_cell_at" = some (some (.ref f4)))
    (l4 : K.lookup f4 = some ⟨oc4, od4, .func (PySem.W.fnOf "_law_cell_at" "_law_cell_at" (defArgs s__law_cell_at) (defBody s__law_cell_at) (defScope s__law_cell_at) .none kV4 dc4 pm4 an4 cd4 ct4), sl4⟩)
    (c4 : PySem.W.codeIn K cd4 "_law_cell_at" = true) (k4 : PySem.W.keepIn K (.ref f4) = true)
    {od5 an5 : Option Addr} {sl5 : Array (Option Value)} {oc5 kV5 dc5 pm5 cd5 ct5 : Value}
    (a5 : PySem.W.nsIn K mainGlobals "_law_big" = some (some (.ref f5)))
    (l5 : K.lookup f5 = some ⟨oc5, od5, .func (PySem.W.fnOf "_law_big" "_law_big" (defArgs s__law_big) (defBody s__law_big) (defScope s__law_big) .none kV5 dc5 pm5 an5 cd5 ct5), sl5⟩)
    (c5 : PySem.W.codeIn K cd5 "_law_big" = true) (k5 : PySem.W.keepIn K (.ref f5) = true)
    {od6 an6 : Option Addr} {sl6 : Array (Option Value)} {oc6 kV6 dc6 pm6 cd6 ct6 : Value}
    (a6 : PySem.W.nsIn K mainGlobals "_law_copy" = some (some (.ref f6)))
    (l6 : K.lookup f6 = some ⟨oc6, od6, .func (PySem.W.fnOf "_law_copy" "_law_copy" (defArgs s__law_copy) (defBody s__law_copy) (defScope s__law_copy) .none kV6 dc6 pm6 an6 cd6 ct6), sl6⟩)
    (c6 : PySem.W.codeIn K cd6 "_law_copy" = true) (k6 : PySem.W.keepIn K (.ref f6) = true)
    {od7 an7 : Option Addr} {sl7 : Array (Option Value)} {oc7 kV7 dc7 pm7 cd7 ct7 : Value}
    (a7 : PySem.W.nsIn K mainGlobals "_law_same" = some (some (.ref f7)))
    (l7 : K.lookup f7 = some ⟨oc7, od7, .func (PySem.W.fnOf "_law_same" "_law_same" (defArgs s__law_same) (defBody s__law_same) (defScope s__law_same) .none kV7 dc7 pm7 an7 cd7 ct7), sl7⟩)
    (c7 : PySem.W.codeIn K cd7 "_law_same" = true) (k7 : PySem.W.keepIn K (.ref f7) = true)
    {od8 an8 : Option Addr} {sl8 : Array (Option Value)} {oc8 kV8 dc8 pm8 cd8 ct8 : Value}
    (a8 : PySem.W.nsIn K mainGlobals "_law_digit" = some (some (.ref f8)))
    (l8 : K.lookup f8 = some ⟨oc8, od8, .func (PySem.W.fnOf "_law_digit" "_law_digit" (defArgs s__law_digit) (defBody s__law_digit) (defScope s__law_digit) .none kV8 dc8 pm8 an8 cd8 ct8), sl8⟩)
    (c8 : PySem.W.codeIn K cd8 "_law_digit" = true) (k8 : PySem.W.keepIn K (.ref f8) = true)
    {od9 an9 : Option Addr} {sl9 : Array (Option Value)} {oc9 kV9 dc9 pm9 cd9 ct9 : Value}
    (a9 : PySem.W.nsIn K mainGlobals "_law_word" = some (some (.ref f9)))
    (l9 : K.lookup f9 = some ⟨oc9, od9, .func (PySem.W.fnOf "_law_word" "_law_word" (defArgs s__law_word) (defBody s__law_word) (defScope s__law_word) .none kV9 dc9 pm9 an9 cd9 ct9), sl9⟩)
    (c9 : PySem.W.codeIn K cd9 "_law_word" = true) (k9 : PySem.W.keepIn K (.ref f9) = true)
    {od10 an10 : Option Addr} {sl10 : Array (Option Value)} {oc10 kV10 dc10 pm10 cd10 ct10 : Value}
    (a10 : PySem.W.nsIn K mainGlobals "law" = some (some (.ref f10)))
    (l10 : K.lookup f10 = some ⟨oc10, od10, .func (PySem.W.fnOf "law" "law" (defArgs s_law) (defBody s_law) (defScope s_law) .none kV10 dc10 pm10 an10 cd10 ct10), sl10⟩)
    (c10 : PySem.W.codeIn K cd10 "law" = true) (k10 : PySem.W.keepIn K (.ref f10) = true)
    (z_isinstance : PySem.W.nsIn K mainGlobals "isinstance" = some none)
    (z_len : PySem.W.nsIn K mainGlobals "len" = some none)
    (z_list : PySem.W.nsIn K mainGlobals "list" = some none)
    (z_range : PySem.W.nsIn K mainGlobals "range" = some none)
    (z_str : PySem.W.nsIn K mainGlobals "str" = some none)
    (z_tuple : PySem.W.nsIn K mainGlobals "tuple" = some none)
    {tk_SIGNS : Tok} (q_SIGNS : PySem.W.nsIn K mainGlobals "SIGNS" = some (some (.str "abcdefghijklmnopqrstuvwxyz0123456789" tk_SIGNS)))
    {tk_LONGEST : Tok} (q_LONGEST : PySem.W.nsIn K mainGlobals "LONGEST" = some (some (.int 8 tk_LONGEST)))
    : ∃ fd : FuncData, (∀ (s : Shared) (v : Value), BindsTo s fd ⟨[v], []⟩ [("_law_script", v)]) ∧ ∀ base : Heap, K.In base → base.Ns mainGlobals mg → FnOk l.prog w K mg base CX0 4 fa fd ["_law_script"] (sp_law K) := by
  have e := hfa.symm.trans (PySem.W.mg_of X G a10)
  cases e
  have F0 := fun_mk (st := s_is_name) l0 c0 k0
  have b0 := F0.binds (ps := ["thing"]) fun _ _ _ _ _ _ us hl => match us, hl with | [_], _ => rfl
  have F1 := fun_mk (st := s_shown) l1 c1 k1
  have b1 := F1.binds (ps := ["rows"]) fun _ _ _ _ _ _ us hl => match us, hl with | [_], _ => rfl
  have F2 := fun_mk (st := s_row_in) l2 c2 k2
  have b2 := F2.binds (ps := ["part"]) fun _ _ _ _ _ _ us hl => match us, hl with | [_], _ => rfl
  have F3 := fun_mk (st := s_read) l3 c3 k3
  have b3 := F3.binds (ps := ["text"]) fun _ _ _ _ _ _ us hl => match us, hl with | [_], _ => rfl
  have F4 := fun_mk (st := s__law_cell_at) l4 c4 k4
  have b4 := F4.binds (ps := ["_law_script", "_law_k"]) fun _ _ _ _ _ _ us hl => match us, hl with | [_, _], _ => rfl
  have F5 := fun_mk (st := s__law_big) l5 c5 k5
  have b5 := F5.binds (ps := ["_law_script", "_law_at"]) fun _ _ _ _ _ _ us hl => match us, hl with | [_, _], _ => rfl
  have F6 := fun_mk (st := s__law_copy) l6 c6 k6
  have b6 := F6.binds (ps := ["_law_rows"]) fun _ _ _ _ _ _ us hl => match us, hl with | [_], _ => rfl
  have F7 := fun_mk (st := s__law_same) l7 c7 k7
  have b7 := F7.binds (ps := ["_law_told", "_law_due"]) fun _ _ _ _ _ _ us hl => match us, hl with | [_, _], _ => rfl
  have F8 := fun_mk (st := s__law_digit) l8 c8 k8
  have b8 := F8.binds (ps := ["_law_rest", "_law_many"]) fun _ _ _ _ _ _ us hl => match us, hl with | [_, _], _ => rfl
  have F9 := fun_mk (st := s__law_word) l9 c9 k9
  have b9 := F9.binds (ps := ["_law_rest"]) fun _ _ _ _ _ _ us hl => match us, hl with | [_], _ => rfl
  have F10 := fun_mk (st := s_law) l10 c10 k10
  have b10 := F10.binds (ps := ["_law_script"]) fun _ _ _ _ _ _ us hl => match us, hl with | [_], _ => rfl
  let av : Nat → Addr := fun i => [f0, f1, f2, f3, f4, f5, f6, f7, f8, f9, fa].getD i 0
  let dv : Nat → FuncData := fun i => [PySem.W.fnOf "is_name" "is_name" (defArgs s_is_name) (defBody s_is_name) (defScope s_is_name) .none kV0 dc0 pm0 an0 cd0 ct0, PySem.W.fnOf "shown" "shown" (defArgs s_shown) (defBody s_shown) (defScope s_shown) .none kV1 dc1 pm1 an1 cd1 ct1, PySem.W.fnOf "row_in" "row_in" (defArgs s_row_in) (defBody s_row_in) (defScope s_row_in) .none kV2 dc2 pm2 an2 cd2 ct2, PySem.W.fnOf "read" "read" (defArgs s_read) (defBody s_read) (defScope s_read) .none kV3 dc3 pm3 an3 cd3 ct3, PySem.W.fnOf "_law_cell_at" "_law_cell_at" (defArgs s__law_cell_at) (defBody s__law_cell_at) (defScope s__law_cell_at) .none kV4 dc4 pm4 an4 cd4 ct4, PySem.W.fnOf "_law_big" "_law_big" (defArgs s__law_big) (defBody s__law_big) (defScope s__law_big) .none kV5 dc5 pm5 an5 cd5 ct5, PySem.W.fnOf "_law_copy" "_law_copy" (defArgs s__law_copy) (defBody s__law_copy) (defScope s__law_copy) .none kV6 dc6 pm6 an6 cd6 ct6, PySem.W.fnOf "_law_same" "_law_same" (defArgs s__law_same) (defBody s__law_same) (defScope s__law_same) .none kV7 dc7 pm7 an7 cd7 ct7, PySem.W.fnOf "_law_digit" "_law_digit" (defArgs s__law_digit) (defBody s__law_digit) (defScope s__law_digit) .none kV8 dc8 pm8 an8 cd8 ct8, PySem.W.fnOf "_law_word" "_law_word" (defArgs s__law_word) (defBody s__law_word) (defScope s__law_word) .none kV9 dc9 pm9 an9 cd9 ct9, PySem.W.fnOf "law" "law" (defArgs s_law) (defBody s_law) (defScope s_law) .none kV10 dc10 pm10 an10 cd10 ct10].getD i (PySem.W.fnOf "law" "law" (defArgs s_law) (defBody s_law) (defScope s_law) .none kV10 dc10 pm10 an10 cd10 ct10)
  have T : Top K mg av dv := { f_is_name := F0, b_is_name := b0, g_is_name := PySem.W.mg_of X G a0, f_shown := F1, b_shown := b1, g_shown := PySem.W.mg_of X G a1, f_row_in := F2, b_row_in := b2, g_row_in := PySem.W.mg_of X G a2, f_read := F3, b_read := b3, g_read := PySem.W.mg_of X G a3, f__law_cell_at := F4, b__law_cell_at := b4, g__law_cell_at := PySem.W.mg_of X G a4, f__law_big := F5, b__law_big := b5, g__law_big := PySem.W.mg_of X G a5, f__law_copy := F6, b__law_copy := b6, g__law_copy := PySem.W.mg_of X G a6, f__law_same := F7, b__law_same := b7, g__law_same := PySem.W.mg_of X G a7, f__law_digit := F8, b__law_digit := b8, g__law_digit := PySem.W.mg_of X G a8, f__law_word := F9, b__law_word := b9, g__law_word := PySem.W.mg_of X G a9, f_law := F10, b_law := b10, g_law := PySem.W.mg_of X G a10, m_isinstance := PySem.W.mg_none_of X G z_isinstance, m_len := PySem.W.mg_none_of X G z_len, m_list := PySem.W.mg_none_of X G z_list, m_range := PySem.W.mg_none_of X G z_range, m_str := PySem.W.mg_none_of X G z_str, m_tuple := PySem.W.mg_none_of X G z_tuple, c_SIGNS := ⟨_, PySem.W.mg_of X G q_SIGNS, ⟨_, rfl⟩⟩, c_LONGEST := ⟨_, PySem.W.mg_of X G q_LONGEST, ⟨_, rfl⟩⟩ }
  exact ⟨dv 10, fun s v => .of_eq rfl, fun base _ _ => ok_law T⟩
end Tw
open PySem PySem.W PyProof.Rows
set_option maxHeartbeats 0 in
theorem PySem.Challenge.cw_threewebs_k80_rows_written_holds : PySem.Challenge.rw_threewebs_k80_rows_written.Holds := by
  w_on; o_law; k_head; (case hw => w_witness2)
  k_fill
  refine L2.walk_of (l := PySem.Challenge.rw_threewebs_k80_rows_written) (n := 63) (k := 4) (x := "_law_script") (CX := fun _ => L2.CX0) (sp := fun w => Tw.sp_law _) rfl (by decide) rfl ⟨rfl, by decide, by decide⟩ (fun w h Y => PySem.W.kIn_of Y) ?F (fun _ _ a ns hl _ hS => ⟨a, ns, rfl, hS, hl, fun _ => rfl⟩) (fun _ _ _ _ _ h => h)
  case F =>
    intro w mg fa h KX G hmg
    refine' Tw.all_mk KX G hmg ?a0 ?l0 ?c0 ?k0 ?a1 ?l1 ?c1 ?k1 ?a2 ?l2 ?c2 ?k2 ?a3 ?l3 ?c3 ?k3 ?a4 ?l4 ?c4 ?k4 ?a5 ?l5 ?c5 ?k5 ?a6 ?l6 ?c6 ?k6 ?a7 ?l7 ?c7 ?k7 ?a8 ?l8 ?c8 ?k8 ?a9 ?l9 ?c9 ?k9 ?a10 ?l10 ?c10 ?k10 ?z_isinstance ?z_len ?z_list ?z_range ?z_str ?z_tuple ?q_SIGNS ?q_LONGEST
    (case a0 => k_is); (case l0 => k_is); (case c0 => k_is); (case k0 => k_is); (case a1 => k_is); (case l1 => k_is); (case c1 => k_is); (case k1 => k_is); (case a2 => k_is); (case l2 => k_is); (case c2 => k_is); (case k2 => k_is); (case a3 => k_is); (case l3 => k_is); (case c3 => k_is); (case k3 => k_is); (case a4 => k_is); (case l4 => k_is); (case c4 => k_is); (case k4 => k_is); (case a5 => k_is); (case l5 => k_is); (case c5 => k_is); (case k5 => k_is); (case a6 => k_is); (case l6 => k_is); (case c6 => k_is); (case k6 => k_is); (case a7 => k_is); (case l7 => k_is); (case c7 => k_is); (case k7 => k_is); (case a8 => k_is); (case l8 => k_is); (case c8 => k_is); (case k8 => k_is); (case a9 => k_is); (case l9 => k_is); (case c9 => k_is); (case k9 => k_is); (case a10 => k_is); (case l10 => k_is); (case c10 => k_is); (case k10 => k_is); (case z_isinstance => k_is); (case z_len => k_is); (case z_list => k_is); (case z_range => k_is); (case z_str => k_is); (case z_tuple => k_is); (case q_SIGNS => k_is); (case q_LONGEST => k_is)
