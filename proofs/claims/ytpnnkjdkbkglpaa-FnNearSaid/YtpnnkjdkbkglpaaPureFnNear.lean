/- What the printed Lean functions behind FnNear come to, and from that the pure statement of FnNear: it answers true. No condition beyond those that the given statement itself has. -/
import Derived.Test.YtpnnkjdkbkglpaaPFnNearx7
import Derived.Lib.SmallJoins
namespace Go.Proofs.Ytpnnkjdkbkglpaa.Pure
open Go.RowKit Go.Proofs.Ytpnnkjdkbkglpaa.PFnNear Go.Proofs.YtpnnkjdkbkglpaaW.PrintWords Go.Proofs.YtpnnkjdkbkglpaaW.PrintLast Go.Proofs.YtpnnkjdkbkglpaaW.PrintMore
set_option linter.unusedVariables false
set_option linter.unusedSimpArgs false

theorem w64 {x : Int} (h1 : -9223372036854775808 ≤ x) (h2 : x ≤ 9223372036854775807) : wrap64 x = x := by unfold wrap64; omega
theorem wf_i64 {x : Int} (h : (Lit.int .i64 x).wf = true) : -9223372036854775808 ≤ x ∧ x ≤ 9223372036854775807 := Go.Joins.in64_of_wf h
theorem mul_bd {a b A B : Int} (ha : 0 ≤ a) (hA : a ≤ A) (hb : 0 ≤ b) (hB : b ≤ B) : 0 ≤ a * b ∧ a * b ≤ A * B :=
  ⟨Int.mul_nonneg ha hb, Int.mul_le_mul hA hB hb (by omega)⟩
theorem rd_nat (l : List Int) (i : Nat) : rd l (i : Int) = l.getD i 0 := by simp [rd]
theorem rd_get {l : List Int} {i : Nat} (h : i < l.length) : rd l (i : Int) = l[i] := by rw [rd_nat, List.getD_eq_getElem?_getD, List.getElem?_eq_getElem h]; rfl
theorem rd_set {l : List Int} {i : Nat} {v : Int} (j : Int) (h0 : 0 ≤ j) (hi : i < l.length) : rd (l.set i v) j = if j = (i : Int) then v else rd l j := by
  unfold rd
  rw [List.getD_eq_getElem?_getD, List.getD_eq_getElem?_getD]
  by_cases h : j = (i : Int)
  · rw [if_pos h, show j.toNat = i by omega, List.getElem?_set_self hi]; rfl
  · rw [if_neg h, List.getElem?_set_ne (by omega)]
theorem drop_rd {l : List Int} {i : Nat} (h : i < l.length) : l.drop i = rd l (i : Int) :: l.drop (i + 1) := by
  rw [rd_get h]; exact List.drop_eq_getElem_cons h
theorem w64_succ {i : Nat} (h : i < 9223372036854775807) : wrap64 ((i : Int) + 1) = ((i + 1 : Nat) : Int) := by rw [w64 (by omega) (by omega)]; omega
theorem k_succ {k : Nat} (h : 0 < k) : ∃ m, k = m + 1 := ⟨k - 1, by omega⟩
/-- from some number of rounds on -/
theorem Ev.use {α : Type} {g : Nat → Option α} {r : α} (h : Ev g r) : ∃ K, ∀ k, K ≤ k → g k = some r := h
theorem spec_l1In_v (a lo hi : Int) : spec_l1In.f a lo hi = some (decide (lo ≤ a ∧ a ≤ hi)) := by
  unfold spec_l1In.f
  split
  · congr 1; rw [decide_eq_decide]; omega
  · congr 1; symm; rw [decide_eq_false_iff_not]; omega
def gridB (X Y Z : Int) : Bool := decide (1 ≤ X ∧ X ≤ 8 ∧ 1 ≤ Y ∧ Y ≤ 6 ∧ 1 ≤ Z ∧ Z ≤ 5 ∧ X * Y * Z ≤ 120)
theorem gridB_t {X Y Z : Int} (h : gridB X Y Z = true) : 1 ≤ X ∧ X ≤ 8 ∧ 1 ≤ Y ∧ Y ≤ 6 ∧ 1 ≤ Z ∧ Z ≤ 5 ∧ X * Y * Z ≤ 120 := of_decide_eq_true h
theorem wrapXYZ {X Y Z : Int} (h1 : 1 ≤ X) (h2 : X ≤ 8) (h3 : 1 ≤ Y) (h4 : Y ≤ 6) (h5 : 1 ≤ Z) (h6 : Z ≤ 5) : wrap64 (wrap64 (X * Y) * Z) = X * Y * Z := by
  have a := mul_bd (by omega : 0 ≤ X) h2 (by omega : 0 ≤ Y) h4
  have b := mul_bd a.1 a.2 (by omega : 0 ≤ Z) h6
  rw [w64 (by omega) (by omega) (x := X * Y), w64 (by omega) (by omega)]
theorem grid_pos {X Y Z : Int} (h : gridB X Y Z = true) : 1 ≤ X * Y * Z ∧ X * Y * Z ≤ 120 := by
  obtain ⟨h1, h2, h3, h4, h5, h6, h7⟩ := gridB_t h
  have a : 0 < X * Y := Int.mul_pos (by omega) (by omega)
  have b : 0 < X * Y * Z := Int.mul_pos a (by omega)
  omega
theorem impl_IsGrid_v (X Y Z : Int) : impl_IsGrid.f X Y Z = some (gridB X Y Z) := by
  unfold impl_IsGrid.f gridB
  repeat' split
  all_goals first
    | (rw [wrapXYZ (by omega) (by omega) (by omega) (by omega) (by omega) (by omega)]; congr 1; rw [decide_eq_decide]; omega)
    | (congr 1; symm; rw [decide_eq_false_iff_not]; omega)
theorem spec_grGood_v (X Y Z : Int) : spec_grGood.f X Y Z = some (gridB X Y Z) := by
  unfold spec_grGood.f gridB
  simp only [spec_l1In_v, Option.bind_some, decide_eq_true_eq]
  repeat' split
  all_goals first
    | (rw [wrapXYZ (by omega) (by omega) (by omega) (by omega) (by omega) (by omega)]; congr 1; rw [decide_eq_decide]; omega)
    | (congr 1; symm; rw [decide_eq_false_iff_not]; omega)
theorem spec_grCount_v {X Y Z : Int} (h : gridB X Y Z = true) : spec_grCount.f X Y Z = some (X * Y * Z) := by
  obtain ⟨h1, h2, h3, h4, h5, h6, h7⟩ := gridB_t h
  simp only [spec_grCount.f, wrapXYZ h1 h2 h3 h4 h5 h6]
theorem impl_blocksOf_v {X Y Z : Int} (h : gridB X Y Z = true) : impl_blocksOf.f X Y Z = some (X * Y * Z) := by
  obtain ⟨h1, h2, h3, h4, h5, h6, h7⟩ := gridB_t h
  simp only [impl_blocksOf.f, wrapXYZ h1 h2 h3 h4 h5 h6]
def hasB (X Y Z i : Int) : Bool := gridB X Y Z && decide (0 ≤ i ∧ i < X * Y * Z)
theorem hasB_t {X Y Z i : Int} (h : hasB X Y Z i = true) : gridB X Y Z = true ∧ 0 ≤ i ∧ i < X * Y * Z := by
  unfold hasB at h; rw [Bool.and_eq_true, decide_eq_true_eq] at h; exact h
theorem impl_hasBlock_v (X Y Z i : Int) : impl_hasBlock.f X Y Z i = some (hasB X Y Z i) := by
  unfold impl_hasBlock.f hasB
  rw [impl_IsGrid_v]
  cases h : gridB X Y Z with
  | false => simp
  | true =>
    simp only [Option.bind_some, if_true, impl_blocksOf_v h, Bool.true_and]
    split
    · congr 1; rw [decide_eq_decide]; omega
    · congr 1; symm; rw [decide_eq_false_iff_not]; omega
theorem spec_grHas_v (X Y Z i : Int) : spec_grHas.f X Y Z i = some (hasB X Y Z i) := by
  unfold spec_grHas.f hasB
  rw [spec_grGood_v]
  cases h : gridB X Y Z with
  | false => simp
  | true =>
    have := grid_pos h
    simp only [Option.bind_some, if_true, spec_grCount_v h, Bool.true_and, spec_l1In_v]
    rw [w64 (by omega) (by omega)]
    congr 1; rw [decide_eq_decide]; omega
theorem at_w {X Y x y z : Int} (hX : 0 ≤ X) (hX' : X ≤ 8) (hY : 0 ≤ Y) (hY' : Y ≤ 6) (hx : 0 ≤ x) (hx' : x ≤ 8) (hy : 0 ≤ y) (hy' : y ≤ 6) (hz : 0 ≤ z) (hz' : z ≤ 5) :
    wrap64 (wrap64 (wrap64 (wrap64 (z * Y) + y) * X) + x) = (z * Y + y) * X + x ∧ 0 ≤ (z * Y + y) * X + x := by
  have a := mul_bd hz hz' hY hY'
  have b := mul_bd (by omega : 0 ≤ z * Y + y) (by omega : z * Y + y ≤ 36) hX hX'
  rw [w64 (by omega) (by omega) (x := z * Y), w64 (by omega) (by omega) (x := z * Y + y), w64 (by omega) (by omega) (x := (z * Y + y) * X), w64 (by omega) (by omega)]
  exact ⟨rfl, by omega⟩
def inB (X Y Z x y z : Int) : Bool := decide (0 ≤ x ∧ x < X ∧ 0 ≤ y ∧ y < Y ∧ 0 ≤ z ∧ z < Z)
theorem tdiv_nn {a b : Int} (h : 0 ≤ a) : Int.tdiv a b = a / b := Int.tdiv_eq_ediv_of_nonneg h
theorem tmod_nn {a b : Int} (h : 0 ≤ a) : Int.tmod a b = a % b := Int.tmod_eq_emod_of_nonneg h
theorem place_bd {X Y Z i : Int} (h : hasB X Y Z i = true) : (0 ≤ i % X ∧ i % X < X) ∧ (0 ≤ i / X % Y ∧ i / X % Y < Y) ∧ (0 ≤ i / X / Y ∧ i / X / Y < Z) ∧ 0 ≤ i / X ∧ i / X ≤ i := by
  obtain ⟨hg, hi, hi'⟩ := hasB_t h
  obtain ⟨h1, h2, h3, h4, h5, h6, h7⟩ := gridB_t hg
  have a : 0 ≤ i / X := Int.ediv_nonneg hi (by omega)
  refine ⟨⟨Int.emod_nonneg _ (by omega), Int.emod_lt_of_pos _ (by omega)⟩, ⟨Int.emod_nonneg _ (by omega), Int.emod_lt_of_pos _ (by omega)⟩, ⟨Int.ediv_nonneg a (by omega), ?_⟩, a, Int.ediv_le_self _ hi⟩
  rw [Int.ediv_ediv_of_nonneg (by omega)]
  refine Int.ediv_lt_of_lt_mul (Int.mul_pos (by omega) (by omega)) ?_
  rw [Int.mul_comm Z]
  exact hi'
theorem impl_placeOf_v {X Y Z i : Int} (h : hasB X Y Z i = true) : impl_placeOf.f X Y Z i = some (i % X, i / X % Y, i / X / Y) := by
  obtain ⟨hg, hi, hi'⟩ := hasB_t h
  obtain ⟨h1, h2, h3, h4, h5, h6, h7⟩ := gridB_t hg
  have hp := place_bd h
  have hg' := grid_pos hg
  unfold impl_placeOf.f
  rw [if_neg (by omega), if_neg (by omega), tmod_nn hi, tdiv_nn hi, w64 (by omega) (by omega) (x := i / X), tmod_nn hp.2.2.2.1, tdiv_nn hp.2.2.2.1, w64 (by omega) (by omega)]
theorem spec_grX_v {X Y Z i : Int} (h : hasB X Y Z i = true) : spec_grX.f X Y Z i = some (i % X) := by
  obtain ⟨hg, hi, hi'⟩ := hasB_t h
  obtain ⟨h1, h2, h3, h4, h5, h6, h7⟩ := gridB_t hg
  unfold spec_grX.f
  rw [if_neg (by omega), tmod_nn hi]
theorem spec_grY_v {X Y Z i : Int} (h : hasB X Y Z i = true) : spec_grY.f X Y Z i = some (i / X % Y) := by
  obtain ⟨hg, hi, hi'⟩ := hasB_t h
  obtain ⟨h1, h2, h3, h4, h5, h6, h7⟩ := gridB_t hg
  have hp := place_bd h
  have hg' := grid_pos hg
  unfold spec_grY.f
  rw [if_neg (by omega), if_neg (by omega), tdiv_nn hi, w64 (by omega) (by omega) (x := i / X), tmod_nn hp.2.2.2.1]
theorem spec_grZ_v {X Y Z i : Int} (h : hasB X Y Z i = true) : spec_grZ.f X Y Z i = some (i / X / Y) := by
  obtain ⟨hg, hi, hi'⟩ := hasB_t h
  obtain ⟨h1, h2, h3, h4, h5, h6, h7⟩ := gridB_t hg
  have hp := place_bd h
  have hg' := grid_pos hg
  unfold spec_grZ.f
  rw [if_neg (by omega), if_neg (by omega), tdiv_nn hi, w64 (by omega) (by omega) (x := i / X), tdiv_nn hp.2.2.2.1, w64 (by omega) (by omega)]
def coarseV (X Y i : Int) : Int := (i / X / Y * ((Y + 1) / 2) + i / X % Y / 2) * ((X + 1) / 2) + i % X / 2
def absI (n : Int) : Int := if n < 0 then -n else n
theorem absI_sub (a b : Int) : absI (a - b) = absI (b - a) := by unfold absI; repeat' split <;> omega
theorem absI_bd {a : Int} {B : Int} (h : -B ≤ a) (h' : a ≤ B) : 0 ≤ absI a ∧ absI a ≤ B := by unfold absI; split <;> omega
theorem impl_abs_v {a : Int} (h : -1000000000000 ≤ a) (h' : a ≤ 1000000000000) : impl_abs.f a = some (absI a) := by
  unfold impl_abs.f mx absI
  rw [w64 (by omega) (by omega)]
  congr 1
  repeat' split
  all_goals omega
theorem spec_l1Abs_v {a : Int} (h : -1000000000000 ≤ a) (h' : a ≤ 1000000000000) : spec_l1Abs.f a = some (absI a) := by
  unfold spec_l1Abs.f spec_l1Most.f absI
  rw [w64 (by omega) (by omega)]
  by_cases c : a > -a
  · rw [if_pos c, if_neg (by omega)]; rfl
  · rw [if_neg c, Option.bind_some]
    congr 1
    split <;> omega
def stepsV (X Y i k : Int) : Int := absI (i % X - k % X) + absI (i / X % Y - k / X % Y) + absI (i / X / Y - k / X / Y)
theorem stepsV_comm (X Y i k : Int) : stepsV X Y i k = stepsV X Y k i := by
  unfold stepsV
  rw [absI_sub (i % X), absI_sub (i / X % Y), absI_sub (i / X / Y)]
theorem steps_bd {X Y Z i k : Int} (h : hasB X Y Z i = true) (h' : hasB X Y Z k = true) : (0 ≤ absI (i % X - k % X) ∧ absI (i % X - k % X) ≤ 8) ∧ (0 ≤ absI (i / X % Y - k / X % Y) ∧ absI (i / X % Y - k / X % Y) ≤ 8) ∧ (0 ≤ absI (i / X / Y - k / X / Y) ∧ absI (i / X / Y - k / X / Y) ≤ 8) := by
  obtain ⟨h1, h2, h3, h4, h5, h6, h7⟩ := gridB_t (hasB_t h).1
  have a := place_bd h
  have b := place_bd h'
  exact ⟨absI_bd (by omega) (by omega), absI_bd (by omega) (by omega), absI_bd (by omega) (by omega)⟩
theorem impl_stepsBetween_v {X Y Z i k : Int} (h : hasB X Y Z i = true) (h' : hasB X Y Z k = true) : impl_stepsBetween.f X Y Z i k = some (stepsV X Y i k) := by
  obtain ⟨h1, h2, h3, h4, h5, h6, h7⟩ := gridB_t (hasB_t h).1
  have a := place_bd h
  have b := place_bd h'
  have s := steps_bd h h'
  unfold impl_stepsBetween.f stepsV
  rw [impl_placeOf_v h, impl_placeOf_v h']
  simp only [Option.bind_some]
  rw [w64 (by omega) (by omega), w64 (by omega) (by omega), w64 (by omega) (by omega), impl_abs_v (by omega) (by omega), Option.bind_some, impl_abs_v (by omega) (by omega), Option.bind_some, impl_abs_v (by omega) (by omega), Option.bind_some, absI_sub (k % X), absI_sub (k / X % Y), absI_sub (k / X / Y), w64 (by omega) (by omega) (x := absI (i % X - k % X) + absI (i / X % Y - k / X % Y)), w64 (by omega) (by omega)]
theorem spec_grSteps_v {X Y Z i k : Int} (h : hasB X Y Z i = true) (h' : hasB X Y Z k = true) : spec_grSteps.f X Y Z i k = some (stepsV X Y i k) := by
  obtain ⟨h1, h2, h3, h4, h5, h6, h7⟩ := gridB_t (hasB_t h).1
  have a := place_bd h
  have b := place_bd h'
  have s := steps_bd h h'
  unfold spec_grSteps.f stepsV
  rw [spec_grX_v h, spec_grX_v h', spec_grY_v h, spec_grY_v h', spec_grZ_v h, spec_grZ_v h']
  simp only [Option.bind_some]
  rw [w64 (by omega) (by omega), w64 (by omega) (by omega), w64 (by omega) (by omega), spec_l1Abs_v (by omega) (by omega), Option.bind_some, spec_l1Abs_v (by omega) (by omega), Option.bind_some, spec_l1Abs_v (by omega) (by omega), Option.bind_some, w64 (by omega) (by omega) (x := absI (i % X - k % X) + absI (i / X % Y - k / X % Y)), w64 (by omega) (by omega)]
def stepsR (X Y Z i k : Int) : Int × Bool := if hasB X Y Z i = true ∧ hasB X Y Z k = true then (stepsV X Y i k, true) else (0, false)
theorem impl_StepsBetween_v (X Y Z i k : Int) : impl_StepsBetween.f X Y Z i k = some (stepsR X Y Z i k) := by
  unfold impl_StepsBetween.f stepsR
  rw [impl_hasBlock_v, impl_hasBlock_v]
  cases h : hasB X Y Z i with
  | false => simp
  | true =>
    cases h' : hasB X Y Z k with
    | false => simp
    | true => simp [impl_stepsBetween_v h h']
theorem spec_StepsBetween_v (X Y Z i k : Int) : spec_StepsBetween.f X Y Z i k = some (stepsR X Y Z i k) := by
  unfold spec_StepsBetween.f stepsR
  rw [spec_grHas_v, spec_grHas_v]
  cases h : hasB X Y Z i with
  | false => simp
  | true =>
    cases h' : hasB X Y Z k with
    | false => simp
    | true => simp [spec_grSteps_v h h']
def filtN (p : Int → Bool) : Nat → Nat → List Int
  | _, 0 => []
  | i, d + 1 => if p (i : Int) = true then (i : Int) :: filtN p (i + 1) d else filtN p (i + 1) d
theorem filtN_pos {p : Int → Bool} {i d : Nat} (h : p (i : Int) = true) : filtN p i (d + 1) = (i : Int) :: filtN p (i + 1) d := by rw [filtN, if_pos h]
theorem filtN_neg {p : Int → Bool} {i d : Nat} (h : ¬ p (i : Int) = true) : filtN p i (d + 1) = filtN p (i + 1) d := by rw [filtN, if_neg h]
theorem filtN_len (p : Int → Bool) : ∀ (d i : Nat), (filtN p i d).length ≤ d
  | 0, i => by simp [filtN]
  | d + 1, i => by
    have := filtN_len p d (i + 1)
    unfold filtN
    split <;> simp <;> omega
theorem filtN_mem (p : Int → Bool) : ∀ (d i : Nat) (x : Int), x ∈ filtN p i d ↔ (i : Int) ≤ x ∧ x < ((i + d : Nat) : Int) ∧ p x = true
  | 0, i, x => by simp [filtN]; omega
  | d + 1, i, x => by
    have ih := filtN_mem p d (i + 1) x
    by_cases h : p (i : Int) = true
    · rw [filtN_pos h, List.mem_cons, ih]
      constructor
      · rintro (rfl | ⟨h1, h2, h3⟩)
        · exact ⟨by omega, by omega, h⟩
        · exact ⟨by omega, by omega, h3⟩
      · rintro ⟨h1, h2, h3⟩
        by_cases e : x = (i : Int)
        · exact .inl e
        · exact .inr ⟨by omega, by omega, h3⟩
    · rw [filtN_neg h, ih]
      constructor
      · rintro ⟨h1, h2, h3⟩; exact ⟨by omega, by omega, h3⟩
      · rintro ⟨h1, h2, h3⟩
        refine ⟨?_, by omega, h3⟩
        by_cases e : x = (i : Int)
        · subst e; exact absurd h3 h
        · omega
theorem hasB_of {X Y Z i : Int} (h : gridB X Y Z = true) (h0 : 0 ≤ i) (h1 : i < X * Y * Z) : hasB X Y Z i = true := by
  unfold hasB; rw [h, Bool.true_and]; exact decide_eq_true ⟨h0, h1⟩
def neighV (X Y Z i : Int) : List Int := filtN (fun k => decide (stepsV X Y i k = 1)) 0 (X * Y * Z).toNat
theorem impl_neighboursOf_l {X Y Z b : Int} (h : hasB X Y Z b = true) : ∀ (d k i : Nat) (acc : List Int), (i : Int) + d = X * Y * Z → d < k → acc.length ≤ i →
    impl_neighboursOf.l0 k b acc (i : Int) X Y Z = some (acc ++ filtN (fun k => decide (stepsV X Y b k = 1)) i d) := by
  have hg := (hasB_t h).1
  have hp := grid_pos hg
  intro d
  induction d with
  | zero =>
    intro k i acc hi hk ha
    obtain ⟨k, rfl⟩ := k_succ (by omega : 0 < k)
    simp only [impl_neighboursOf.l0, impl_blocksOf_v hg, Option.bind_some]
    rw [if_neg (by omega)]
    simp [filtN]
  | succ d ih =>
    intro k i acc hi hk ha
    obtain ⟨k, rfl⟩ := k_succ (by omega : 0 < k)
    simp only [impl_neighboursOf.l0, impl_blocksOf_v hg, Option.bind_some]
    rw [if_pos (by omega), impl_stepsBetween_v h (hasB_of hg (by omega) (by omega)), Option.bind_some, w64_succ (by omega)]
    by_cases hc : stepsV X Y b (i : Int) = 1
    · rw [if_pos hc, if_pos (by omega), ih k (i + 1) _ (by omega) (by omega) (by simp; omega), filtN_pos (by simpa using hc)]
      simp
    · rw [if_neg hc, ih k (i + 1) _ (by omega) (by omega) (by omega), filtN_neg (by simpa using hc)]
def neighR (X Y Z i : Int) : List Int × Bool := if hasB X Y Z i = true then (neighV X Y Z i, true) else ([], false)
theorem neighR_len (X Y Z i : Int) : (neighR X Y Z i).1.length ≤ 120 := by
  unfold neighR
  split
  · rename_i h
    have := grid_pos (hasB_t h).1
    have := filtN_len (fun k => decide (stepsV X Y i k = 1)) (X * Y * Z).toNat 0
    show (neighV X Y Z i).length ≤ 120
    unfold neighV; omega
  · simp
theorem impl_NeighboursOf_v (X Y Z i : Int) {k : Nat} (hk : 130 < k) : impl_NeighboursOf.f k X Y Z i = some (neighR X Y Z i) := by
  unfold impl_NeighboursOf.f neighR
  rw [impl_hasBlock_v]
  cases h : hasB X Y Z i with
  | false => simp
  | true =>
    have hp := grid_pos (hasB_t h).1
    have := impl_neighboursOf_l h (X * Y * Z).toNat k 0 [] (by omega) (by omega) (by simp)
    simp only [Option.bind_some, if_true, impl_neighboursOf.f]
    rw [show ((0 : Nat) : Int) = 0 from rfl] at this
    rw [this]
    rfl
theorem spec_NeighboursOf_l {X Y Z b : Int} (h : hasB X Y Z b = true) : ∀ (d k i : Nat) (acc : List Int), (i : Int) + d = X * Y * Z → d < k → acc.length ≤ i →
    spec_NeighboursOf.l0 k b acc (i : Int) X Y Z = some (acc ++ filtN (fun k => decide (stepsV X Y b k = 1)) i d, true) := by
  have hg := (hasB_t h).1
  have hp := grid_pos hg
  intro d
  induction d with
  | zero =>
    intro k i acc hi hk ha
    obtain ⟨k, rfl⟩ := k_succ (by omega : 0 < k)
    simp only [spec_NeighboursOf.l0, spec_grCount_v hg, Option.bind_some]
    rw [if_neg (by omega)]
    simp [filtN]
  | succ d ih =>
    intro k i acc hi hk ha
    obtain ⟨k, rfl⟩ := k_succ (by omega : 0 < k)
    simp only [spec_NeighboursOf.l0, spec_grCount_v hg, Option.bind_some]
    rw [if_pos (by omega), spec_grSteps_v h (hasB_of hg (by omega) (by omega)), Option.bind_some, w64_succ (by omega)]
    by_cases hc : stepsV X Y b (i : Int) = 1
    · rw [if_pos hc, if_pos (by omega), ih k (i + 1) _ (by omega) (by omega) (by simp; omega), filtN_pos (by simpa using hc)]
      simp
    · rw [if_neg hc, ih k (i + 1) _ (by omega) (by omega) (by omega), filtN_neg (by simpa using hc)]
theorem spec_NeighboursOf_v (X Y Z i : Int) {k : Nat} (hk : 130 < k) : spec_NeighboursOf.f k X Y Z i = some (neighR X Y Z i) := by
  unfold spec_NeighboursOf.f neighR
  rw [spec_grHas_v]
  cases h : hasB X Y Z i with
  | false => simp
  | true =>
    have hp := grid_pos (hasB_t h).1
    have := spec_NeighboursOf_l h (X * Y * Z).toNat k 0 [] (by omega) (by omega) (by simp)
    simp only [Option.bind_some, if_true]
    rw [show ((0 : Nat) : Int) = 0 from rfl] at this
    rw [this]
    rfl
def nearB (X Y i r k : Int) : Bool := decide (absI (i % X - k % X) ≤ r ∧ absI (i / X % Y - k / X % Y) ≤ r ∧ absI (i / X / Y - k / X / Y) ≤ r)
theorem spec_grNear_v {X Y Z i k : Int} (r : Int) (h : hasB X Y Z i = true) (h' : hasB X Y Z k = true) : spec_grNear.f X Y Z i k r = some (nearB X Y i r k) := by
  obtain ⟨h1, h2, h3, h4, h5, h6, h7⟩ := gridB_t (hasB_t h).1
  have a := place_bd h
  have b := place_bd h'
  unfold spec_grNear.f nearB
  rw [spec_grX_v h, spec_grX_v h', spec_grY_v h, spec_grY_v h', spec_grZ_v h, spec_grZ_v h']
  simp only [Option.bind_some]
  rw [w64 (by omega) (by omega), w64 (by omega) (by omega), w64 (by omega) (by omega), spec_l1Abs_v (by omega) (by omega), Option.bind_some, spec_l1Abs_v (by omega) (by omega), Option.bind_some, spec_l1Abs_v (by omega) (by omega), Option.bind_some]
  repeat' split
  all_goals first
    | (congr 1; rw [decide_eq_decide]; omega)
    | (congr 1; symm; rw [decide_eq_false_iff_not]; omega)
theorem spec_BoxOf_l {X Y Z b : Int} (r : Int) (h : hasB X Y Z b = true) : ∀ (d k i : Nat) (acc : List Int), (i : Int) + d = X * Y * Z → d < k → acc.length ≤ i →
    spec_BoxOf.l0 k b r acc (i : Int) X Y Z = some (acc ++ filtN (nearB X Y b r) i d, true) := by
  have hg := (hasB_t h).1
  have hp := grid_pos hg
  intro d
  induction d with
  | zero =>
    intro k i acc hi hk ha
    obtain ⟨k, rfl⟩ := k_succ (by omega : 0 < k)
    simp only [spec_BoxOf.l0, spec_grCount_v hg, Option.bind_some]
    rw [if_neg (by omega)]
    simp [filtN]
  | succ d ih =>
    intro k i acc hi hk ha
    obtain ⟨k, rfl⟩ := k_succ (by omega : 0 < k)
    simp only [spec_BoxOf.l0, spec_grCount_v hg, Option.bind_some]
    rw [if_pos (by omega), spec_grNear_v r h (hasB_of hg (by omega) (by omega)), Option.bind_some, w64_succ (by omega)]
    by_cases hc : nearB X Y b r (i : Int) = true
    · rw [if_pos hc, if_pos (by omega), ih k (i + 1) _ (by omega) (by omega) (by simp; omega), filtN_pos hc]
      simp
    · rw [if_neg hc, ih k (i + 1) _ (by omega) (by omega) (by omega), filtN_neg hc]
def boxR (X Y Z i r : Int) : List Int × Bool := if hasB X Y Z i = true ∧ 0 ≤ r ∧ r ≤ 8 then (filtN (nearB X Y i r) 0 (X * Y * Z).toNat, true) else ([], false)
theorem boxR_len (X Y Z i r : Int) : (boxR X Y Z i r).1.length ≤ 120 := by
  unfold boxR
  split
  · rename_i h
    have := grid_pos (hasB_t h.1).1
    have := filtN_len (nearB X Y i r) (X * Y * Z).toNat 0
    show (filtN (nearB X Y i r) 0 (X * Y * Z).toNat).length ≤ 120
    omega
  · simp
theorem spec_BoxOf_v (X Y Z i r : Int) {k : Nat} (hk : 130 < k) : spec_BoxOf.f k X Y Z i r = some (boxR X Y Z i r) := by
  obtain ⟨k, rfl⟩ := k_succ (by omega : 0 < k)
  unfold spec_BoxOf.f boxR
  rw [spec_grHas_v]
  simp only [Option.bind_some, spec_l1In_v, spec_BoxOf.j0]
  cases h : hasB X Y Z i with
  | false => simp
  | true =>
    have hp := grid_pos (hasB_t h).1
    by_cases hr : 0 ≤ r ∧ r ≤ 8
    · have := spec_BoxOf_l r h (X * Y * Z).toNat k 0 [] (by omega) (by omega) (by simp)
      rw [show ((0 : Nat) : Int) = 0 from rfl] at this
      rw [if_pos rfl, if_neg (by simp [hr]), if_pos ⟨rfl, hr⟩, this]
      rfl
    · rw [if_pos rfl, if_pos (by simp; omega), if_neg (by simp [hr])]
theorem impl_BoxOf_l {X Y Z b : Int} (r : Int) (h : hasB X Y Z b = true) : ∀ (d k i : Nat) (acc : List Int), (i : Int) + d = X * Y * Z → d < k → acc.length ≤ i →
    impl_BoxOf.l0 k r (b % X) (b / X % Y) (b / X / Y) acc (i : Int) X Y Z = some (acc ++ filtN (nearB X Y b r) i d, true) := by
  have hg := (hasB_t h).1
  have hp := grid_pos hg
  obtain ⟨h1, h2, h3, h4, h5, h6, h7⟩ := gridB_t hg
  have a := place_bd h
  intro d
  induction d with
  | zero =>
    intro k i acc hi hk ha
    obtain ⟨k, rfl⟩ := k_succ (by omega : 0 < k)
    simp only [impl_BoxOf.l0, impl_blocksOf_v hg, Option.bind_some]
    rw [if_neg (by omega)]
    simp [filtN]
  | succ d ih =>
    intro k i acc hi hk ha
    obtain ⟨k, rfl⟩ := k_succ (by omega : 0 < k)
    have hb := hasB_of (i := (i : Int)) hg (by omega) (by omega)
    have c := place_bd hb
    have i1 := ih k (i + 1) (acc ++ [(i : Int)]) (by omega) (by omega) (by simp; omega)
    have i2 := ih k (i + 1) acc (by omega) (by omega) (by omega)
    simp only [impl_BoxOf.l0, impl_blocksOf_v hg, Option.bind_some]
    rw [if_pos (by omega), impl_placeOf_v hb]
    simp only [Option.bind_some]
    rw [w64 (by omega) (by omega), w64 (by omega) (by omega), w64 (by omega) (by omega), impl_abs_v (by omega) (by omega), Option.bind_some, impl_abs_v (by omega) (by omega), Option.bind_some, impl_abs_v (by omega) (by omega), Option.bind_some, w64_succ (by omega), absI_sub ((i : Int) % X), absI_sub ((i : Int) / X % Y), absI_sub ((i : Int) / X / Y), if_pos (show acc.length < 17592186044416 by omega), i1, i2]
    by_cases hc : nearB X Y b r (i : Int) = true
    · have hd := of_decide_eq_true hc
      rw [if_pos hd.1, if_pos hd.2.1, if_pos hd.2.2, filtN_pos hc]
      simp
    · rw [filtN_neg hc]
      repeat' split
      all_goals first
        | rfl
        | (exfalso; exact hc (decide_eq_true ⟨by assumption, by assumption, by assumption⟩))
theorem impl_BoxOf_v (X Y Z i r : Int) {k : Nat} (hk : 130 < k) : impl_BoxOf.f k X Y Z i r = some (boxR X Y Z i r) := by
  obtain ⟨k, rfl⟩ := k_succ (by omega : 0 < k)
  unfold impl_BoxOf.f boxR
  rw [impl_hasBlock_v]
  simp only [Option.bind_some, impl_BoxOf.j0]
  cases h : hasB X Y Z i with
  | false => simp
  | true =>
    have hp := grid_pos (hasB_t h).1
    by_cases hr : 0 ≤ r ∧ r ≤ 8
    · have := impl_BoxOf_l r h (X * Y * Z).toNat k 0 [] (by omega) (by omega) (by simp)
      rw [show ((0 : Nat) : Int) = 0 from rfl] at this
      rw [if_pos rfl, if_neg (by omega), if_neg (by simp; omega), if_pos ⟨rfl, hr⟩, impl_placeOf_v h]
      simp only [Option.bind_some]
      rw [this]
      rfl
    · rw [if_pos rfl, if_neg (show ¬ (true = true ∧ 0 ≤ r ∧ r ≤ 8) by simp [hr])]
      split
      · rw [if_pos (by simp)]
      · rw [if_pos (by simp; omega)]
def pieceB (T M R : Int) : Bool := decide (0 ≤ T ∧ T ≤ 10000 ∧ 0 ≤ M ∧ M ≤ 1000 * T ∧ 0 ≤ R ∧ R ≤ 4)
theorem pieceB_t {T M R : Int} (h : pieceB T M R = true) : 0 ≤ T ∧ T ≤ 10000 ∧ 0 ≤ M ∧ M ≤ 1000 * T ∧ 0 ≤ R ∧ R ≤ 4 := of_decide_eq_true h
def gcdI (x y : Int) : Int := (Nat.gcd x.toNat y.toNat : Nat)
theorem gcdI_step {x y : Int} (hx : 0 ≤ x) (hy : 0 ≤ y) : gcdI y (x % y) = gcdI x y := by
  unfold gcdI
  rw [Int.toNat_emod hx hy, Nat.gcd_comm, ← Nat.gcd_rec, Nat.gcd_comm]
theorem gcdI_zero {x : Int} (hx : 0 ≤ x) : gcdI x 0 = x := by
  unfold gcdI
  simp; omega
def modelB (X Y Z : Int) (t g r : List Int) : Bool := gridB X Y Z && decide ((t.length : Int) = X * Y * Z ∧ (g.length : Int) = X * Y * Z ∧ (r.length : Int) = X * Y * Z) && ((t.all fun x => decide (0 ≤ x ∧ x ≤ 10000)) && ((g.all fun x => decide (0 ≤ x ∧ x ≤ 1000)) && (r.all fun x => decide (0 ≤ x ∧ x ≤ 4))))
structure IsMod (X Y Z : Int) (t g r : List Int) : Prop where
  grid : gridB X Y Z = true
  lt : (t.length : Int) = X * Y * Z
  lg : g.length = t.length
  lr : r.length = t.length
  ht : ∀ x ∈ t, 0 ≤ x ∧ x ≤ 10000
  hg : ∀ x ∈ g, 0 ≤ x ∧ x ≤ 1000
  hr : ∀ x ∈ r, 0 ≤ x ∧ x ≤ 4
  pos : 1 ≤ t.length
  le : t.length ≤ 120
theorem modelB_iff {X Y Z : Int} {t g r : List Int} : modelB X Y Z t g r = true ↔ IsMod X Y Z t g r := by
  unfold modelB
  simp only [Bool.and_eq_true, decide_eq_true_eq, List.all_eq_true]
  constructor
  · rintro ⟨⟨h1, h2, h3, h4⟩, h5, h6, h7⟩
    have := grid_pos h1
    exact ⟨h1, h2, by omega, by omega, h5, h6, h7, by omega, by omega⟩
  · intro h
    have h1 := h.lt; have h2 := h.lg; have h3 := h.lr
    exact ⟨⟨h.grid, h1, by omega, by omega⟩, h.ht, h.hg, h.hr⟩
theorem modelB_t {X Y Z : Int} {t g r : List Int} (h : modelB X Y Z t g r = true) : IsMod X Y Z t g r := modelB_iff.1 h
theorem modelB_f {X Y Z : Int} {t g r : List Int} (h : ¬ modelB X Y Z t g r = true) : modelB X Y Z t g r = false := by simpa using h
theorem rd_mem {l : List Int} {i : Int} (h0 : 0 ≤ i) (h : i < (l.length : Int)) : rd l i ∈ l := by
  unfold rd
  rw [List.getD_eq_getElem?_getD, List.getElem?_eq_getElem (by omega)]
  exact List.getElem_mem _
theorem rd_of_getElem? {l : List Int} {i : Nat} {x : Int} (h : l[i]? = some x) : rd l (i : Int) = x := by
  rw [rd_nat, List.getD_eq_getElem?_getD, h]; rfl
theorem IsMod.rt {X Y Z : Int} {t g r : List Int} (h : IsMod X Y Z t g r) {i : Int} (h0 : 0 ≤ i) (h1 : i < (t.length : Int)) : 0 ≤ rd t i ∧ rd t i ≤ 10000 := h.ht _ (rd_mem h0 h1)
theorem IsMod.rg {X Y Z : Int} {t g r : List Int} (h : IsMod X Y Z t g r) {i : Int} (h0 : 0 ≤ i) (h1 : i < (t.length : Int)) : 0 ≤ rd g i ∧ rd g i ≤ 1000 := h.hg _ (rd_mem h0 (by have := h.lg; omega))
theorem IsMod.rr {X Y Z : Int} {t g r : List Int} (h : IsMod X Y Z t g r) {i : Int} (h0 : 0 ≤ i) (h1 : i < (t.length : Int)) : 0 ≤ rd r i ∧ rd r i ≤ 4 := h.hr _ (rd_mem h0 (by have := h.lr; omega))
theorem IsMod.rm {X Y Z : Int} {t g r : List Int} (h : IsMod X Y Z t g r) {i : Int} (h0 : 0 ≤ i) (h1 : i < (t.length : Int)) : 0 ≤ rd t i * rd g i ∧ rd t i * rd g i ≤ 10000000 :=
  mul_bd (h.rt h0 h1).1 (h.rt h0 h1).2 (h.rg h0 h1).1 (h.rg h0 h1).2
def risF (n : Int) : Int → List Int → Bool
  | _, [] => true
  | p, x :: xs => decide (0 ≤ x ∧ x < n ∧ p < x) && risF n x xs
def risB (n : Int) (l : List Int) : Bool := risF n (-1) l
theorem risF_cons (n p x : Int) (xs : List Int) : risF n p (x :: xs) = (decide (0 ≤ x ∧ x < n ∧ p < x) && risF n x xs) := rfl
theorem risF_mem {n : Int} : ∀ {p : Int} {l : List Int}, risF n p l = true → ∀ x ∈ l, 0 ≤ x ∧ x < n
  | _, [], _, x, hx => by cases hx
  | p, y :: l, h, x, hx => by
    unfold risF at h
    rw [Bool.and_eq_true, decide_eq_true_eq] at h
    rcases List.mem_cons.1 hx with rfl | hx
    · exact ⟨h.1.1, h.1.2.1⟩
    · exact risF_mem h.2 x hx
theorem risF_len {n : Int} : ∀ {p : Int} {l : List Int}, -1 ≤ p → p < n → risF n p l = true → (l.length : Int) + p < n
  | p, [], h0, h1, _ => by simp; omega
  | p, x :: l, h0, h1, h => by
    unfold risF at h
    rw [Bool.and_eq_true, decide_eq_true_eq] at h
    have := risF_len (by omega) h.1.2.1 h.2
    simp only [List.length_cons]
    omega
theorem risB_mem {n : Int} {l : List Int} (h : risB n l = true) : ∀ x ∈ l, 0 ≤ x ∧ x < n := risF_mem h
theorem risB_len {n : Int} {l : List Int} (hn : 0 ≤ n) (h : risB n l = true) : (l.length : Int) ≤ n := by have := risF_len (by omega) (by omega) h; omega
def sumT (t l : List Int) : Int := (l.map (rd t)).sum
def sumM (t g l : List Int) : Int := (l.map fun i => rd t i * rd g i).sum
theorem sum_bd (f : Int → Int) (B : Int) (hB : 0 ≤ B) : ∀ (l : List Int), (∀ x ∈ l, 0 ≤ f x ∧ f x ≤ B) → 0 ≤ (l.map f).sum ∧ (l.map f).sum ≤ B * (l.length : Int)
  | [], _ => by simp
  | x :: l, h => by
    have h1 := h x (by simp)
    have h2 := sum_bd f B hB l (fun y hy => h y (by simp [hy]))
    simp only [List.map_cons, List.sum_cons, List.length_cons]
    have e : B * ((l.length + 1 : Nat) : Int) = B * (l.length : Int) + B := by
      rw [show ((l.length + 1 : Nat) : Int) = (l.length : Int) + 1 by omega, Int.mul_add, Int.mul_one]
    omega
def filtI (p : Int → Bool) : List Int → Nat → List Int
  | [], _ => []
  | x :: l, i => if p x = true then (i : Int) :: filtI p l (i + 1) else filtI p l (i + 1)
theorem filtI_pos {p : Int → Bool} {x : Int} {l : List Int} {i : Nat} (h : p x = true) : filtI p (x :: l) i = (i : Int) :: filtI p l (i + 1) := by rw [filtI, if_pos h]
theorem filtI_neg {p : Int → Bool} {x : Int} {l : List Int} {i : Nat} (h : ¬ p x = true) : filtI p (x :: l) i = filtI p l (i + 1) := by rw [filtI, if_neg h]
theorem filtI_len (p : Int → Bool) : ∀ (l : List Int) (i : Nat), (filtI p l i).length ≤ l.length
  | [], _ => by simp [filtI]
  | x :: l, i => by
    have := filtI_len p l (i + 1)
    unfold filtI
    split <;> simp <;> omega
theorem u64_wrap_bd (n : Int) : 0 ≤ IntKind.u64.wrap n ∧ IntKind.u64.wrap n < 18446744073709551616 := by rw [IntKind.wrap_u64]; omega
theorem and255 {x : Int} (h0 : 0 ≤ x) (h1 : x < 18446744073709551616) : 0 ≤ Go.bits .and .u64 x 255 ∧ Go.bits .and .u64 x 255 ≤ 255 := by
  have := bits_mask .u64 64 (by decide) (fun n a b => by rw [IntKind.wrap_u64]; omega) 8 (by decide) x h0 (by omega)
  rw [show (2 : Int) ^ 8 - 1 = 255 by decide, show (2 : Int) ^ 8 = 256 by decide] at this
  rw [this]; omega
/-- the bytes of a draw -/
def Bytes (s : List Int) : Prop := ∀ x ∈ s, 0 ≤ x ∧ x ≤ 255
theorem Bytes.rd {s : List Int} (h : Bytes s) {i : Int} (h0 : 0 ≤ i) (h1 : i < (s.length : Int)) : 0 ≤ rd s i ∧ rd s i ≤ 255 := by
  obtain ⟨n, rfl⟩ := Int.eq_ofNat_of_zero_le h0
  have hn : n < s.length := by omega
  rw [rd_get hn]
  exact h _ (List.getElem_mem hn)
theorem bytes_of_wf {s : List Int} (h : ∀ x ∈ s, (Lit.int .u8 x).wf = true) : Bytes s := by
  intro x hx
  have := h x hx
  simp [Lit.wf] at this
  have e1 : IntKind.u8.min = 0 := by decide
  have e2 : IntKind.u8.max = 255 := by decide
  omega
theorem spec_l1Cur_next_d {s : List Int} (hs : Bytes s) (hl : s.length ≤ 1048576) (p st : Int) (h0 : 0 ≤ p) (h1 : p ≤ 1000000000) :
    ∃ v st', spec_l1Cur_next.f s p st = some (v, p + 1, st') ∧ 0 ≤ v ∧ v ≤ 255 := by
  unfold spec_l1Cur_next.f
  rw [w64 (by omega) (by omega) (x := p + 1)]
  have hb : ∀ n, 0 ≤ Go.bits .and .u64 (IntKind.u64.wrap n / 1099511627776) 255 ∧ Go.bits .and .u64 (IntKind.u64.wrap n / 1099511627776) 255 ≤ 255 := fun n => by
    have := u64_wrap_bd n
    exact and255 (by omega) (by omega)
  by_cases c : p < (s.length : Int)
  · rw [if_pos c, if_pos h0]
    have := hs.rd h0 c
    by_cases d : p + 1 ≤ (s.length : Int)
    · rw [if_pos d, w64 (by omega) (by omega) (x := rd s p)]
      exact ⟨_, _, rfl, this⟩
    · omega
  · rw [if_neg c, if_neg (by omega)]
    refine ⟨_, _, rfl, ?_⟩
    have h2 := hb (IntKind.u64.wrap (IntKind.u64.wrap (st * 6364136223846793005)) + 1442695040888963407)
    rw [w64 (by omega) (by omega)]
    exact h2
theorem spec_l1Cur_pick_d {s : List Int} (hs : Bytes s) (hl : s.length ≤ 1048576) (p st a : Int) (h0 : 0 ≤ p) (h1 : p ≤ 999999000) (ha : a ≤ 60000) :
    ∃ v p' st', spec_l1Cur_pick.f s p st a = some (v, p', st') ∧ 0 ≤ v ∧ (v < a ∨ v = 0) ∧ p ≤ p' ∧ p' ≤ p + 2 := by
  unfold spec_l1Cur_pick.f
  by_cases c : a ≤ 1
  · rw [if_pos c]; exact ⟨_, _, _, rfl, by omega, .inr rfl, by omega, by omega⟩
  · rw [if_neg c]
    obtain ⟨v, st1, e, v0, v1⟩ := spec_l1Cur_next_d hs hl p st h0 (by omega)
    rw [e, Option.bind_some]
    dsimp only
    by_cases d : a > 200
    · rw [if_pos d]
      obtain ⟨u, st2, e2, u0, u1⟩ := spec_l1Cur_next_d hs hl (p + 1) st1 (by omega) (by omega)
      rw [e2, Option.bind_some, if_neg (by omega)]
      dsimp only
      rw [w64 (by omega) (by omega) (x := v * 256), w64 (by omega) (by omega)]
      refine ⟨_, _, _, rfl, Int.tmod_nonneg _ (by omega), .inl (Int.tmod_lt_of_pos _ (by omega)), by omega, by omega⟩
    · rw [if_neg d, if_neg (by omega)]
      exact ⟨_, _, _, rfl, Int.tmod_nonneg _ v0, .inl (Int.tmod_lt_of_pos _ (by omega)), by omega, by omega⟩
theorem spec_l1Cur_among_d {s : List Int} (hs : Bytes s) (hl : s.length ≤ 1048576) (p st : Int) (l : List Int) (h0 : 0 ≤ p) (h1 : p ≤ 999999000) (hn : 1 ≤ l.length) (hn' : l.length ≤ 1000) :
    ∃ v p' st', spec_l1Cur_among.f s p st l = some (v, p', st') ∧ v ∈ l ∧ p ≤ p' ∧ p' ≤ p + 2 := by
  unfold spec_l1Cur_among.f
  obtain ⟨v, p', st', e, v0, v1, q0, q1⟩ := spec_l1Cur_pick_d hs hl p st (l.length : Int) h0 h1 (by omega)
  rw [e, Option.bind_some]
  dsimp only
  have hv : v < (l.length : Int) := by omega
  rw [if_pos v0, if_pos hv]
  refine ⟨_, _, _, rfl, ?_, q0, q1⟩
  obtain ⟨n, rfl⟩ := Int.eq_ofNat_of_zero_le v0
  have hn : n < l.length := by omega
  rw [rd_get hn]
  exact List.getElem_mem hn
theorem spec_l1Cur_one_d {s : List Int} (hs : Bytes s) (hl : s.length ≤ 1048576) (p st a : Int) (h0 : 0 ≤ p) (h1 : p ≤ 999999000) (ha : a ≤ 60000) :
    ∃ b p' st', spec_l1Cur_one.f s p st a = some (b, p', st') ∧ p ≤ p' ∧ p' ≤ p + 2 := by
  unfold spec_l1Cur_one.f
  obtain ⟨v, p', st', e, v0, v1, q0, q1⟩ := spec_l1Cur_pick_d hs hl p st a h0 h1 ha
  rw [e, Option.bind_some]
  exact ⟨_, _, _, rfl, q0, q1⟩
theorem spec_l1Cur_grid_d {s : List Int} (hs : Bytes s) (hl : s.length ≤ 1048576) (p st : Int) (h0 : 0 ≤ p) (h1 : p ≤ 999998000) :
    ∃ X Y Z p' st', spec_l1Cur_grid.f s p st = some (X, Y, Z, p', st') ∧ gridB X Y Z = true ∧ p ≤ p' ∧ p' ≤ p + 8 := by
  unfold spec_l1Cur_grid.f
  obtain ⟨b, p1, st1, e, q0, q1⟩ := spec_l1Cur_one_d hs hl p st 24 h0 (by omega) (by omega)
  rw [e, Option.bind_some]
  dsimp only
  cases b with
  | true =>
    rw [if_pos rfl, Option.bind_some]
    obtain ⟨v, p2, st2, e2, v0, v1, r0, r1⟩ := spec_l1Cur_pick_d hs hl p1 st1 4 (by omega) (by omega) (by omega)
    rw [e2, Option.bind_some]
    dsimp only
    rw [if_pos v0, if_pos (by simp only [List.length_cons, List.length_nil]; omega)]
    refine ⟨_, _, _, _, _, rfl, ?_, by omega, by omega⟩
    have : v = 0 ∨ v = 1 ∨ v = 2 ∨ v = 3 := by omega
    rcases this with rfl | rfl | rfl | rfl <;> decide
  | false =>
    rw [if_neg (by simp)]
    obtain ⟨v, p2, st2, e2, v0, v1, r0, r1⟩ := spec_l1Cur_pick_d hs hl p1 st1 4 (by omega) (by omega) (by omega)
    rw [e2, Option.bind_some]
    obtain ⟨u, p3, st3, e3, u0, u1, r2, r3⟩ := spec_l1Cur_pick_d hs hl p2 st2 3 (by omega) (by omega) (by omega)
    dsimp only
    rw [e3, Option.bind_some]
    obtain ⟨z, p4, st4, e4, z0, z1, r4, r5⟩ := spec_l1Cur_pick_d hs hl p3 st3 3 (by omega) (by omega) (by omega)
    dsimp only
    rw [e4, Option.bind_some]
    dsimp only
    rw [w64 (by omega) (by omega) (x := 1 + v), w64 (by omega) (by omega) (x := 1 + u), w64 (by omega) (by omega) (x := 1 + z)]
    refine ⟨_, _, _, _, _, rfl, ?_, by omega, by omega⟩
    have hv : v = 0 ∨ v = 1 ∨ v = 2 ∨ v = 3 := by omega
    have hu : u = 0 ∨ u = 1 ∨ u = 2 := by omega
    have hz : z = 0 ∨ z = 1 ∨ z = 2 := by omega
    rcases hv with rfl | rfl | rfl | rfl <;> rcases hu with rfl | rfl | rfl <;> rcases hz with rfl | rfl | rfl <;> decide
theorem spec_l1Cur_anyGrid_d {s : List Int} (hs : Bytes s) (hl : s.length ≤ 1048576) (p st : Int) (h0 : 0 ≤ p) (h1 : p ≤ 999998000) :
    ∃ X Y Z p' st', spec_l1Cur_anyGrid.f s p st = some (X, Y, Z, p', st') ∧ p ≤ p' ∧ p' ≤ p + 16 := by
  unfold spec_l1Cur_anyGrid.f
  obtain ⟨X, Y, Z, p1, st1, e, hg, q0, q1⟩ := spec_l1Cur_grid_d hs hl p st h0 h1
  rw [e, Option.bind_some]
  dsimp only
  obtain ⟨v, p2, st2, e2, v0, v1, r0, r1⟩ := spec_l1Cur_pick_d hs hl p1 st1 30 (by omega) (by omega) (by omega)
  rw [e2, Option.bind_some]
  dsimp only
  have am : ∀ l : List Int, 1 ≤ l.length → l.length ≤ 1000 → ∃ v p' st', spec_l1Cur_among.f s p2 st2 l = some (v, p', st') ∧ v ∈ l ∧ p2 ≤ p' ∧ p' ≤ p2 + 2 := fun l a b => spec_l1Cur_among_d hs hl p2 st2 l (by omega) (by omega) a b
  by_cases c0 : v = 0
  · obtain ⟨u, p3, st3, e3, _, r2, r3⟩ := am [0, 8, 9, (-1)] (by decide) (by decide)
    rw [if_pos c0, e3, Option.bind_some]; exact ⟨_, _, _, _, _, rfl, (by dsimp only; omega), (by dsimp only; omega)⟩
  · rw [if_neg c0]
    by_cases c1 : v = 1
    · obtain ⟨u, p3, st3, e3, _, r2, r3⟩ := am [0, 6, 7, (-1)] (by decide) (by decide)
      rw [if_pos c1, e3, Option.bind_some]; exact ⟨_, _, _, _, _, rfl, (by dsimp only; omega), (by dsimp only; omega)⟩
    · rw [if_neg c1]
      by_cases c2 : v = 2
      · obtain ⟨u, p3, st3, e3, _, r2, r3⟩ := am [0, 5, 6, (-1)] (by decide) (by decide)
        rw [if_pos c2, e3, Option.bind_some]; exact ⟨_, _, _, _, _, rfl, (by dsimp only; omega), (by dsimp only; omega)⟩
      · rw [if_neg c2]
        by_cases c3 : v = 3
        · obtain ⟨u, p3, st3, e3, _, r2, r3⟩ := am [2, 3] (by decide) (by decide)
          rw [if_pos c3, e3, Option.bind_some]; exact ⟨_, _, _, _, _, rfl, (by dsimp only; omega), (by dsimp only; omega)⟩
        · rw [if_neg c3]
          by_cases c4 : v = 4
          · rw [if_pos c4]; exact ⟨_, _, _, _, _, rfl, by omega, by omega⟩
          · rw [if_neg c4]; exact ⟨_, _, _, _, _, rfl, by omega, by omega⟩
theorem spec_l1Cur_block_d {s : List Int} (hs : Bytes s) (hl : s.length ≤ 1048576) (p st X Y Z : Int) (h0 : 0 ≤ p) (h1 : p ≤ 999998000) :
    ∃ v p' st', spec_l1Cur_block.f s p st X Y Z = some (v, p', st') ∧ -1 ≤ v ∧ v ≤ 120 ∧ p ≤ p' ∧ p' ≤ p + 4 := by
  unfold spec_l1Cur_block.f
  rw [spec_grGood_v, Option.bind_some]
  cases hg : gridB X Y Z with
  | false => rw [if_neg (by simp)]; exact ⟨_, _, _, rfl, (by first | omega | (dsimp only; omega)), (by first | omega | (dsimp only; omega)), (by first | omega | (dsimp only; omega)), (by first | omega | (dsimp only; omega))⟩
  | true =>
    have hp := grid_pos hg
    rw [if_pos rfl]
    obtain ⟨b, p1, st1, e, q0, q1⟩ := spec_l1Cur_one_d hs hl p st 24 h0 (by omega) (by omega)
    rw [e, Option.bind_some, spec_grCount_v hg]
    dsimp only
    cases b with
    | true =>
      rw [if_pos rfl, Option.bind_some]
      obtain ⟨u, p3, st3, e3, hu, r2, r3⟩ := spec_l1Cur_among_d hs hl p1 st1 [-1, X * Y * Z] (by omega) (by omega) (by simp) (by simp)
      rw [e3, Option.bind_some]
      simp only [List.mem_cons, List.not_mem_nil, or_false] at hu
      exact ⟨_, _, _, rfl, (by first | omega | (dsimp only; omega)), (by first | omega | (dsimp only; omega)), (by first | omega | (dsimp only; omega)), (by first | omega | (dsimp only; omega))⟩
    | false =>
      rw [if_neg (by simp), Option.bind_some]
      obtain ⟨u, p3, st3, e3, hu, hu', r2, r3⟩ := spec_l1Cur_pick_d hs hl p1 st1 (X * Y * Z) (by omega) (by omega) (by omega)
      rw [e3, Option.bind_some]
      exact ⟨_, _, _, rfl, (by first | omega | (dsimp only; omega)), (by first | omega | (dsimp only; omega)), (by first | omega | (dsimp only; omega)), (by first | omega | (dsimp only; omega))⟩
theorem laws_big_v (a b : List Int) (ha : a.length ≤ maxLen) (hb : b.length ≤ maxLen) : laws_big.f a b = some true ∨ (laws_big.f a b = some false ∧ a.length + b.length ≤ 1048576) := by
  unfold laws_big.f
  by_cases c : (a.length : Int) > 1048576
  · rw [if_pos c]; exact .inl rfl
  · rw [if_neg c, w64 (by omega) (by omega)]
    by_cases d : (b.length : Int) > 1048576 - (a.length : Int)
    · rw [decide_eq_true d]; exact .inl rfl
    · rw [decide_eq_false d]; exact .inr ⟨rfl, by omega⟩
theorem laws_sameInts_l (l : List Int) (hn : l.length ≤ 1048576) : ∀ (d k i : Nat), i + d = l.length → d < k → laws_sameInts.l0 k l l (l.length : Int) (i : Int) = some true := by
  intro d
  induction d with
  | zero =>
    intro k i hi hk
    obtain ⟨k, rfl⟩ := k_succ (by omega : 0 < k)
    simp only [laws_sameInts.l0]
    rw [if_neg (by omega)]
  | succ d ih =>
    intro k i hi hk
    obtain ⟨k, rfl⟩ := k_succ (by omega : 0 < k)
    simp only [laws_sameInts.l0]
    rw [if_pos (by omega), if_pos (by omega), if_pos (by omega), if_pos (by omega), if_pos trivial, w64_succ (by omega), ih k (i + 1) (by omega) (by omega)]
theorem laws_sameInts_v (l : List Int) (hn : l.length ≤ 1048576) {k : Nat} (hk : l.length < k) : laws_sameInts.f k l l = some true := by
  unfold laws_sameInts.f
  rw [if_pos rfl]
  exact laws_sameInts_l l hn l.length k 0 (by omega) hk
theorem laws_pIn_l (l : List Int) (v : Int) (hn : l.length ≤ 1048576) : ∀ (d k i : Nat), i + d = l.length → d < k → laws_pIn.l0 k v l (l.length : Int) (i : Int) = some (decide (v ∈ l.drop i)) := by
  intro d
  induction d with
  | zero =>
    intro k i hi hk
    obtain ⟨k, rfl⟩ := k_succ (by omega : 0 < k)
    simp only [laws_pIn.l0]
    rw [if_neg (by omega), List.drop_eq_nil_of_le (by omega)]; simp
  | succ d ih =>
    intro k i hi hk
    obtain ⟨k, rfl⟩ := k_succ (by omega : 0 < k)
    simp only [laws_pIn.l0]
    rw [if_pos (by omega), if_pos (by omega), if_pos (by omega), w64_succ (by omega), ih k (i + 1) (by omega) (by omega), drop_rd (by omega : i < l.length)]
    by_cases c : rd l (i : Int) = v
    · rw [if_pos c, c]; simp
    · rw [if_neg c]
      congr 1
      rw [decide_eq_decide, List.mem_cons]
      exact ⟨.inr, fun h => h.elim (fun e => absurd e.symm c) id⟩
theorem laws_pIn_v (l : List Int) (v : Int) (hn : l.length ≤ 1048576) {k : Nat} (hk : l.length < k) : laws_pIn.f k l v = some (decide (v ∈ l)) := by
  unfold laws_pIn.f
  simpa using laws_pIn_l l v hn l.length k 0 (by omega) hk
theorem DrawPlaceOf_d {s : List Int} (hs : Bytes s) (hl : s.length ≤ 1048576) : ∃ X Y Z i, spec_DrawPlaceOf.f s = some (X, Y, Z, i) ∧ -1 ≤ i ∧ i ≤ 120 := by
  unfold spec_DrawPlaceOf.f
  obtain ⟨X, Y, Z, p1, st1, e1, q0, q1⟩ := spec_l1Cur_anyGrid_d hs hl 0 0 (by omega) (by omega)
  rw [e1, Option.bind_some]
  dsimp only
  obtain ⟨v, p2, st2, e2, v0, v1, _, _⟩ := spec_l1Cur_block_d hs hl p1 st1 X Y Z (by omega) (by omega)
  rw [e2, Option.bind_some]
  exact ⟨X, Y, Z, v, rfl, v0, v1⟩
theorem DrawNeighboursOf_d {s : List Int} (hs : Bytes s) (hl : s.length ≤ 1048576) : ∃ X Y Z i, spec_DrawNeighboursOf.f s = some (X, Y, Z, i) := by
  unfold spec_DrawNeighboursOf.f
  obtain ⟨X, Y, Z, i, e, _, _⟩ := DrawPlaceOf_d hs hl
  rw [e, Option.bind_some]
  exact ⟨X, Y, Z, i, rfl⟩
theorem DrawBoxOf_d {s : List Int} (hs : Bytes s) (hl : s.length ≤ 1048576) : ∃ X Y Z i r, spec_DrawBoxOf.f s = some (X, Y, Z, i, r) ∧ -1 ≤ r ∧ r ≤ 9 := by
  unfold spec_DrawBoxOf.f
  obtain ⟨X, Y, Z, p1, st1, e1, q0, q1⟩ := spec_l1Cur_anyGrid_d hs hl 0 0 (by omega) (by omega)
  rw [e1, Option.bind_some]
  dsimp only
  obtain ⟨v, p2, st2, e2, v0, v1, r0, r1⟩ := spec_l1Cur_block_d hs hl p1 st1 X Y Z (by omega) (by omega)
  rw [e2, Option.bind_some]
  dsimp only
  obtain ⟨u, p3, st3, e3, hu, _, _⟩ := spec_l1Cur_among_d hs hl p2 st2 [0, 1, 1, 2, 8, 9, (-1)] (by omega) (by omega) (by simp) (by simp)
  rw [e3, Option.bind_some]
  simp only [List.mem_cons, List.not_mem_nil, or_false] at hu
  exact ⟨X, Y, Z, v, u, rfl, by omega, by omega⟩
theorem DrawStepsBetween_d {s : List Int} (hs : Bytes s) (hl : s.length ≤ 1048576) : ∃ X Y Z i j, spec_DrawStepsBetween.f s = some (X, Y, Z, i, j) := by
  unfold spec_DrawStepsBetween.f
  obtain ⟨X, Y, Z, p1, st1, e1, q0, q1⟩ := spec_l1Cur_anyGrid_d hs hl 0 0 (by omega) (by omega)
  rw [e1, Option.bind_some]
  dsimp only
  obtain ⟨v, p2, st2, e2, v0, v1, r0, r1⟩ := spec_l1Cur_block_d hs hl p1 st1 X Y Z (by omega) (by omega)
  rw [e2, Option.bind_some]
  dsimp only
  obtain ⟨u, p3, st3, e3, _, _, _, _⟩ := spec_l1Cur_block_d hs hl p2 st2 X Y Z (by omega) (by omega)
  rw [e3, Option.bind_some]
  exact ⟨X, Y, Z, v, u, rfl⟩
theorem absI_zero {a : Int} (h : absI a = 0) : a = 0 := by unfold absI at h; split at h <;> omega
theorem stepsV_zero {X Y i k : Int} (hX : 1 ≤ X) (hY : 1 ≤ Y) (h : stepsV X Y i k = 0) : i = k := by
  unfold stepsV at h
  have p : ∀ a, 0 ≤ absI a := fun a => by unfold absI; split <;> omega
  have p1 := p (i % X - k % X); have p2 := p (i / X % Y - k / X % Y); have p3 := p (i / X / Y - k / X / Y)
  have e1 := absI_zero (show absI (i % X - k % X) = 0 by omega)
  have e2 := absI_zero (show absI (i / X % Y - k / X % Y) = 0 by omega)
  have e3 := absI_zero (show absI (i / X / Y - k / X / Y) = 0 by omega)
  have a1 := Int.mul_ediv_add_emod (i / X) Y; have a2 := Int.mul_ediv_add_emod (k / X) Y
  have b1 := Int.mul_ediv_add_emod i X; have b2 := Int.mul_ediv_add_emod k X
  have f3 : i / X / Y = k / X / Y := by omega
  have f2 : i / X = k / X := by rw [← a1, ← a2, f3]; omega
  rw [← b1, ← b2, f2]; omega
theorem stepsV_self (X Y i : Int) : stepsV X Y i i = 0 := by simp [stepsV, absI]
theorem steps_zero (X Y Z a b : Int) (h : (stepsR X Y Z a b).2 = true) : ((stepsR X Y Z a b).1 == 0) = (a == b) := by
  unfold stepsR at h ⊢
  split at h
  · rename_i hh
    rw [if_pos hh]
    have hg := gridB_t (hasB_t hh.1).1
    rw [Bool.eq_iff_iff]
    simp only [beq_iff_eq]
    constructor
    · exact stepsV_zero (by omega) (by omega)
    · rintro rfl; exact stepsV_self X Y a
  · cases h
theorem stepsR_comm (X Y Z a b : Int) : stepsR X Y Z a b = stepsR X Y Z b a := by
  unfold stepsR
  by_cases h : hasB X Y Z a = true ∧ hasB X Y Z b = true
  · rw [if_pos h, if_pos ⟨h.2, h.1⟩, stepsV_comm]
  · rw [if_neg h, if_neg (fun x => h ⟨x.2, x.1⟩)]
theorem near_j6 {s : List Int} (hs : Bytes s) (hl : s.length ≤ 1048576) (k : Nat) : laws_FnNear.j6 (k + 1) s = some true := by
  obtain ⟨X, Y, Z, a, b, e⟩ := DrawStepsBetween_d hs hl
  rw [laws_FnNear.j6, e, Option.bind_some]
  dsimp only
  rw [impl_StepsBetween_v, Option.bind_some, spec_StepsBetween_v, Option.bind_some, impl_StepsBetween_v, Option.bind_some, stepsR_comm X Y Z b a]
  rw [if_pos (by simp), if_pos rfl, if_pos (by simp), if_pos rfl]
  by_cases c : (stepsR X Y Z a b).2 = true
  · rw [if_pos c, steps_zero X Y Z a b c]; simp
  · rw [if_neg c]
theorem near_l1 {s : List Int} (hs : Bytes s) (hl : s.length ≤ 1048576) (w t : List Int) (ht : t.length ≤ 200) (hw : w.length ≤ 200) (hsub : ∀ x ∈ t, x ∈ w) : ∀ (d i k : Nat), i + d = t.length → d + 300 < k →
    laws_FnNear.l1 k s w t (t.length : Int) (i : Int) = some true := by
  intro d
  induction d with
  | zero =>
    intro i k hi hk
    obtain ⟨k, rfl⟩ : ∃ m, k = m + 2 := ⟨k - 2, by omega⟩
    rw [laws_FnNear.l1, if_neg (by omega)]
    exact near_j6 hs hl k
  | succ d ih =>
    intro i k hi hk
    obtain ⟨k, rfl⟩ := k_succ (by omega : 0 < k)
    rw [laws_FnNear.l1, if_pos (by omega), if_pos (by omega), if_pos (by omega), laws_pIn_v w _ (by omega) (by omega), Option.bind_some, w64_succ (by omega)]
    have hm : rd t (i : Int) ∈ w := hsub _ (by rw [rd_get (by omega)]; exact List.getElem_mem _)
    rw [if_pos (by simpa using hm)]
    exact ih (i + 1) k (by omega) (by omega)
theorem box_mem {X Y Z i r x : Int} (h : x ∈ (boxR X Y Z i r).1) (hr : r < 8) : x ∈ (boxR X Y Z i (r + 1)).1 := by
  unfold boxR at h ⊢
  split at h
  · rename_i hh
    rw [if_pos ⟨hh.1, by omega, by omega⟩]
    dsimp only at h ⊢
    rw [filtN_mem] at h ⊢
    refine ⟨h.1, h.2.1, ?_⟩
    have := h.2.2
    unfold nearB at this ⊢
    rw [decide_eq_true_eq] at this ⊢
    omega
  · simp at h
theorem filtN_le {p q : Int → Bool} (h : ∀ x, p x = true → q x = true) : ∀ (d i : Nat), (filtN p i d).length ≤ (filtN q i d).length := by
  intro d
  induction d with
  | zero => intro i; exact Nat.le_refl _
  | succ d ih =>
    intro i
    have := ih (i + 1)
    by_cases c : p (i : Int) = true
    · rw [filtN_pos c, filtN_pos (h _ c)]; simp only [List.length_cons]; omega
    · rw [filtN_neg c]
      by_cases e : q (i : Int) = true
      · rw [filtN_pos e]; simp only [List.length_cons]; omega
      · rw [filtN_neg e]; exact this
theorem near_box {s : List Int} (hs : Bytes s) (hl : s.length ≤ 1048576) (X Y Z i r : Int) (hr : -1 ≤ r ∧ r ≤ 9) (k : Nat) (hk : 600 < k) (h2 : (boxR X Y Z i r).2 = true) (c : r < 8) :
    laws_FnNear.j3 (k + 2) s i r (boxR X Y Z i r).1 true X Y Z = some true := by
  have hh : hasB X Y Z i = true ∧ 0 ≤ r ∧ r ≤ 8 := by
    unfold boxR at h2
    split at h2
    · assumption
    · cases h2
  have hb := hasB_t hh.1
  have e0 : boxR X Y Z i r = (filtN (nearB X Y i r) 0 (X * Y * Z).toNat, true) := by unfold boxR; rw [if_pos hh]
  have e1 : boxR X Y Z i (r + 1) = (filtN (nearB X Y i (r + 1)) 0 (X * Y * Z).toNat, true) := by unfold boxR; rw [if_pos ⟨hh.1, by omega, by omega⟩]
  have hln := filtN_le (p := nearB X Y i r) (q := nearB X Y i (r + 1)) (fun x hx => by unfold nearB at hx ⊢; rw [decide_eq_true_eq] at hx ⊢; omega) (X * Y * Z).toNat 0
  have l0 := boxR_len X Y Z i r
  have l1 := boxR_len X Y Z i (r + 1)
  have hsub : ∀ x ∈ (boxR X Y Z i r).1, x ∈ (boxR X Y Z i (r + 1)).1 := fun x hx => box_mem hx c
  have hself : i ∈ (boxR X Y Z i r).1 := by
    rw [e0]
    dsimp only
    rw [filtN_mem]
    refine ⟨by omega, by omega, ?_⟩
    unfold nearB
    simp [absI]; omega
  rw [laws_FnNear.j3, if_pos rfl, w64 (by omega) (by omega), impl_BoxOf_v _ _ _ _ _ (by omega), Option.bind_some, if_pos (by rw [e1]), if_neg (by rw [e0, e1]; dsimp only; omega), laws_pIn_v _ _ (by omega) (by omega), Option.bind_some, decide_eq_true hself]
  simp only [Bool.not_true]
  rw [laws_FnNear.j4, if_neg (by simp)]
  exact near_l1 hs hl _ _ (by omega) (by omega) hsub (boxR X Y Z i r).1.length 0 k (by omega) (by omega)
theorem near_rest {s : List Int} (hs : Bytes s) (hl : s.length ≤ 1048576) (k : Nat) (hk : 1000 < k) (F : Option Bool)
    (hF : F = ((spec_DrawBoxOf.f s).bind fun bt362 => ((impl_BoxOf.f k bt362.1 bt362.2.1 bt362.2.2.1 bt362.2.2.2.1 bt362.2.2.2.2).bind fun bt368 => ((spec_BoxOf.f k bt362.1 bt362.2.1 bt362.2.2.1 bt362.2.2.2.1 bt362.2.2.2.2).bind fun bt372 => (if (bt368.2 != bt372.2) = true then (laws_FnNear.j2 k s bt362.2.2.2.1 bt362.2.2.2.2 bt368.2 bt372.1 true bt362.1 bt362.2.1 bt362.2.2.1) else ((laws_sameInts.f k bt368.1 bt372.1).bind fun t376 => (laws_FnNear.j2 k s bt362.2.2.2.1 bt362.2.2.2.2 bt368.2 bt372.1 (!t376) bt362.1 bt362.2.1 bt362.2.2.1))))))) : F = some true := by
  obtain ⟨X, Y, Z, i, r, e, r0, r1⟩ := DrawBoxOf_d hs hl
  have l0 := boxR_len X Y Z i r
  rw [hF, e, Option.bind_some]
  dsimp only
  rw [impl_BoxOf_v _ _ _ _ _ (by omega), Option.bind_some, spec_BoxOf_v _ _ _ _ _ (by omega), Option.bind_some, if_neg (by simp), laws_sameInts_v _ (by omega) (by omega), Option.bind_some]
  obtain ⟨k, rfl⟩ : ∃ m, k = m + 4 := ⟨k - 4, by omega⟩
  simp only [Bool.not_true]
  rw [laws_FnNear.j2, if_neg (by simp)]
  have hj : laws_FnNear.j3 (k + 3) s i r (boxR X Y Z i r).1 false X Y Z = some true := by
    rw [laws_FnNear.j3, if_neg (by simp)]; exact near_j6 hs hl (k + 1)
  by_cases c : (boxR X Y Z i r).2 = true
  · rw [if_pos c]
    by_cases d : r < 8
    · rw [decide_eq_true d]; exact near_box hs hl X Y Z i r ⟨r0, r1⟩ (k + 1) (by omega) c d
    · rw [decide_eq_false d]; exact hj
  · rw [if_neg c]; exact hj
theorem near_l0 {s : List Int} (hs : Bytes s) (hl : s.length ≤ 1048576) (X Y Z b : Int) (h : hasB X Y Z b = true) : ∀ (d i k : Nat), i + d = (neighV X Y Z b).length → d + 1100 < k →
    laws_FnNear.l0 k s b (neighV X Y Z b) ((neighV X Y Z b).length : Int) (i : Int) X Y Z = some true := by
  have hb := hasB_t h
  have hlen : (neighV X Y Z b).length ≤ 120 := by
    have := neighR_len X Y Z b
    unfold neighR at this
    rw [if_pos h] at this
    exact this
  intro d
  induction d with
  | zero =>
    intro i k hi hk
    obtain ⟨k, rfl⟩ := k_succ (by omega : 0 < k)
    rw [laws_FnNear.l0, if_neg (by omega)]
    exact near_rest hs hl k (by omega) _ rfl
  | succ d ih =>
    intro i k hi hk
    obtain ⟨k, rfl⟩ := k_succ (by omega : 0 < k)
    rw [laws_FnNear.l0, if_pos (by omega), if_pos (by omega), if_pos (by omega), w64_succ (by omega)]
    have hm : rd (neighV X Y Z b) (i : Int) ∈ neighV X Y Z b := by rw [rd_get (by omega)]; exact List.getElem_mem _
    generalize rd (neighV X Y Z b) (i : Int) = x at *
    unfold neighV at hm
    rw [filtN_mem] at hm
    obtain ⟨m0, m1, m2⟩ := hm
    rw [decide_eq_true_eq] at m2
    have hx : hasB X Y Z x = true := hasB_of hb.1 (by omega) (by omega)
    have e1 : stepsR X Y Z b x = (1, true) := by unfold stepsR; rw [if_pos ⟨h, hx⟩, m2]
    have e2 : neighR X Y Z x = (neighV X Y Z x, true) := by unfold neighR; rw [if_pos hx]
    have hl2 := neighR_len X Y Z x
    rw [e2] at hl2
    dsimp only at hl2
    have hin : b ∈ neighV X Y Z x := by
      unfold neighV
      rw [filtN_mem]
      refine ⟨by omega, by omega, ?_⟩
      rw [decide_eq_true_eq, stepsV_comm]; exact m2
    rw [impl_StepsBetween_v, Option.bind_some, impl_NeighboursOf_v _ _ _ _ (by omega), Option.bind_some, e1, e2]
    dsimp only
    rw [if_pos rfl, if_pos rfl, if_pos rfl, laws_pIn_v _ _ (by omega) (by omega), Option.bind_some, decide_eq_true hin, if_pos rfl]
    exact ih (i + 1) k (by omega) (by omega)
theorem pure_FnNear (a b : List Int) (ha : a.length ≤ maxLen) (wa : ∀ x ∈ a, (Lit.int .u8 x).wf = true) (hb : b.length ≤ maxLen) (wb : ∀ x ∈ b, (Lit.int .u8 x).wf = true) : ∃ k, laws_FnNear.f k a b = some true := by
  obtain ⟨K, hK⟩ : ∃ K : Nat, 5000 < K := ⟨_, Nat.lt_succ_self _⟩
  refine ⟨K + 4, ?_⟩
  unfold laws_FnNear.f
  rcases laws_big_v a b ha hb with h | ⟨h, hab⟩
  · rw [h, Option.bind_some, if_pos rfl]
  · rw [h, Option.bind_some, if_neg (by simp)]
    obtain ⟨X, Y, Z, i, e⟩ := DrawNeighboursOf_d (bytes_of_wf wa) (by omega)
    have l0 := neighR_len X Y Z i
    rw [e, Option.bind_some]
    dsimp only
    rw [impl_NeighboursOf_v _ _ _ _ (by omega), Option.bind_some, spec_NeighboursOf_v _ _ _ _ (by omega), Option.bind_some, if_neg (by simp), laws_sameInts_v _ (by omega) (by omega), Option.bind_some]
    simp only [Bool.not_true]
    rw [laws_FnNear.j0, if_neg (by simp)]
    by_cases c : hasB X Y Z i = true
    · have e2 : neighR X Y Z i = (neighV X Y Z i, true) := by unfold neighR; rw [if_pos c]
      rw [e2]
      exact near_l0 (bytes_of_wf wb) (by omega) X Y Z i c (neighV X Y Z i).length 0 (K + 3) (by omega) (by rw [e2] at l0; dsimp only at l0; omega)
    · have e2 : neighR X Y Z i = ([], false) := by unfold neighR; rw [if_neg c]
      rw [e2]
      dsimp only
      rw [laws_FnNear.l0, if_neg (by simp)]
      exact near_rest (bytes_of_wf wb) (by omega) (K + 2) (by omega) _ rfl
theorem W0 : wrap64 (0 + 1) = 1 := w64 (by decide) (by decide)
theorem W1 : wrap64 (1 + 1) = 2 := w64 (by decide) (by decide)
theorem W2 : wrap64 (2 + 1) = 3 := w64 (by decide) (by decide)
theorem W3 : wrap64 (3 + 1) = 4 := w64 (by decide) (by decide)

end Go.Proofs.Ytpnnkjdkbkglpaa.Pure
