/- What the printed Lean functions behind FnExactCoarseBlock come to, and from that the pure statement of FnExactCoarseBlock: it answers true. No condition beyond those that the given statement itself has. -/
import Derived.Test.YtfbgdfdeaffodaaPFnExactCoarseBlockx2
import Derived.Lib.SmallJoins
namespace Go.Proofs.Ytfbgdfdeaffodaa.Pure
open Go.RowKit Go.Proofs.Ytfbgdfdeaffodaa.PFnExactCoarseBlock Go.Proofs.YtfbgdfdeaffodaaW.PrintWords Go.Proofs.YtfbgdfdeaffodaaW.PrintLast Go.Proofs.YtfbgdfdeaffodaaW.PrintMore
set_option linter.unusedVariables false
set_option linter.unusedSimpArgs false

theorem w64 {x : Int} (h1 : -9223372036854775808 ≤ x) (h2 : x ≤ 9223372036854775807) : wrap64 x = x := by unfold wrap64; omega
theorem wf_i64 {x : Int} (h : (Lit.int .i64 x).wf = true) : -9223372036854775808 ≤ x ∧ x ≤ 9223372036854775807 := Go.Joins.in64_of_wf h
theorem mul_bd {a b A B : Int} (ha : 0 ≤ a) (hA : a ≤ A) (hb : 0 ≤ b) (hB : b ≤ B) : 0 ≤ a * b ∧ a * b ≤ A * B :=
  ⟨Int.mul_nonneg ha hb, Int.mul_le_mul hA hB hb (by omega)⟩
theorem rd_nat (l : List Int) (i : Nat) : rd l (i : Int) = l.getD i 0 := by simp [rd]
theorem rd_get {l : List Int} {i : Nat} (h : i < l.length) : rd l (i : Int) = l[i] := by rw [rd_nat, List.getD_eq_getElem?_getD, List.getElem?_eq_getElem h]; rfl
theorem drop_rd {l : List Int} {i : Nat} (h : i < l.length) : l.drop i = rd l (i : Int) :: l.drop (i + 1) := by
  rw [rd_get h]; exact List.drop_eq_getElem_cons h
theorem w64_succ {i : Nat} (h : i < 9223372036854775807) : wrap64 ((i : Int) + 1) = ((i + 1 : Nat) : Int) := by rw [w64 (by omega) (by omega)]; omega
theorem k_succ {k : Nat} (h : 0 < k) : ∃ m, k = m + 1 := ⟨k - 1, by omega⟩
/-- from some number of rounds on -/
theorem Ev.use {α : Type} {g : Nat → Option α} {r : α} (h : Ev g r) : ∃ K, ∀ k, K ≤ k → g k = some r := h
theorem spec_l1In_v (a lo hi : Int) : spec_l1In.f a lo hi = some (decide (lo ≤ a ∧ a ≤ hi)) := by
  unfold spec_l1In.f
  split
  · congr 1; rw [decide_eq_decide]; omega
  · congr 1; symm; rw [decide_eq_false_iff_not]; omega
def gridB (X Y Z : Int) : Bool := decide (1 ≤ X ∧ X ≤ 8 ∧ 1 ≤ Y ∧ Y ≤ 6 ∧ 1 ≤ Z ∧ Z ≤ 5 ∧ X * Y * Z ≤ 120)
theorem gridB_t {X Y Z : Int} (h : gridB X Y Z = true) : 1 ≤ X ∧ X ≤ 8 ∧ 1 ≤ Y ∧ Y ≤ 6 ∧ 1 ≤ Z ∧ Z ≤ 5 ∧ X * Y * Z ≤ 120 := of_decide_eq_true h
theorem wrapXYZ {X Y Z : Int} (h1 : 1 ≤ X) (h2 : X ≤ 8) (h3 : 1 ≤ Y) (h4 : Y ≤ 6) (h5 : 1 ≤ Z) (h6 : Z ≤ 5) : wrap64 (wrap64 (X * Y) * Z) = X * Y * Z := by
  have a := mul_bd (by omega : 0 ≤ X) h2 (by omega : 0 ≤ Y) h4
  have b := mul_bd a.1 a.2 (by omega : 0 ≤ Z) h6
  rw [w64 (by omega) (by omega) (x := X * Y), w64 (by omega) (by omega)]
theorem grid_pos {X Y Z : Int} (h : gridB X Y Z = true) : 1 ≤ X * Y * Z ∧ X * Y * Z ≤ 120 := by
  obtain ⟨h1, h2, h3, h4, h5, h6, h7⟩ := gridB_t h
  have a : 0 < X * Y := Int.mul_pos (by omega) (by omega)
  have b : 0 < X * Y * Z := Int.mul_pos a (by omega)
  omega
theorem impl_IsGrid_v (X Y Z : Int) : impl_IsGrid.f X Y Z = some (gridB X Y Z) := by
  unfold impl_IsGrid.f gridB
  repeat' split
  all_goals first
    | (rw [wrapXYZ (by omega) (by omega) (by omega) (by omega) (by omega) (by omega)]; congr 1; rw [decide_eq_decide]; omega)
    | (congr 1; symm; rw [decide_eq_false_iff_not]; omega)
theorem spec_grGood_v (X Y Z : Int) : spec_grGood.f X Y Z = some (gridB X Y Z) := by
  unfold spec_grGood.f gridB
  simp only [spec_l1In_v, Option.bind_some, decide_eq_true_eq]
  repeat' split
  all_goals first
    | (rw [wrapXYZ (by omega) (by omega) (by omega) (by omega) (by omega) (by omega)]; congr 1; rw [decide_eq_decide]; omega)
    | (congr 1; symm; rw [decide_eq_false_iff_not]; omega)
theorem spec_grCount_v {X Y Z : Int} (h : gridB X Y Z = true) : spec_grCount.f X Y Z = some (X * Y * Z) := by
  obtain ⟨h1, h2, h3, h4, h5, h6, h7⟩ := gridB_t h
  simp only [spec_grCount.f, wrapXYZ h1 h2 h3 h4 h5 h6]
theorem impl_blocksOf_v {X Y Z : Int} (h : gridB X Y Z = true) : impl_blocksOf.f X Y Z = some (X * Y * Z) := by
  obtain ⟨h1, h2, h3, h4, h5, h6, h7⟩ := gridB_t h
  simp only [impl_blocksOf.f, wrapXYZ h1 h2 h3 h4 h5 h6]
def hasB (X Y Z i : Int) : Bool := gridB X Y Z && decide (0 ≤ i ∧ i < X * Y * Z)
theorem hasB_t {X Y Z i : Int} (h : hasB X Y Z i = true) : gridB X Y Z = true ∧ 0 ≤ i ∧ i < X * Y * Z := by
  unfold hasB at h; rw [Bool.and_eq_true, decide_eq_true_eq] at h; exact h
theorem impl_hasBlock_v (X Y Z i : Int) : impl_hasBlock.f X Y Z i = some (hasB X Y Z i) := by
  unfold impl_hasBlock.f hasB
  rw [impl_IsGrid_v]
  cases h : gridB X Y Z with
  | false => simp
  | true =>
    simp only [Option.bind_some, if_true, impl_blocksOf_v h, Bool.true_and]
    split
    · congr 1; rw [decide_eq_decide]; omega
    · congr 1; symm; rw [decide_eq_false_iff_not]; omega
theorem at_w {X Y x y z : Int} (hX : 0 ≤ X) (hX' : X ≤ 8) (hY : 0 ≤ Y) (hY' : Y ≤ 6) (hx : 0 ≤ x) (hx' : x ≤ 8) (hy : 0 ≤ y) (hy' : y ≤ 6) (hz : 0 ≤ z) (hz' : z ≤ 5) :
    wrap64 (wrap64 (wrap64 (wrap64 (z * Y) + y) * X) + x) = (z * Y + y) * X + x ∧ 0 ≤ (z * Y + y) * X + x := by
  have a := mul_bd hz hz' hY hY'
  have b := mul_bd (by omega : 0 ≤ z * Y + y) (by omega : z * Y + y ≤ 36) hX hX'
  rw [w64 (by omega) (by omega) (x := z * Y), w64 (by omega) (by omega) (x := z * Y + y), w64 (by omega) (by omega) (x := (z * Y + y) * X), w64 (by omega) (by omega)]
  exact ⟨rfl, by omega⟩
def inB (X Y Z x y z : Int) : Bool := decide (0 ≤ x ∧ x < X ∧ 0 ≤ y ∧ y < Y ∧ 0 ≤ z ∧ z < Z)
theorem impl_blockAt_v {X Y Z x y z : Int} (hX : 0 ≤ X) (hX' : X ≤ 8) (hY : 0 ≤ Y) (hY' : Y ≤ 6) (hx : 0 ≤ x) (hx' : x ≤ 8) (hy : 0 ≤ y) (hy' : y ≤ 6) (hz : 0 ≤ z) (hz' : z ≤ 5) :
    impl_blockAt.f X Y Z x y z = some ((z * Y + y) * X + x) := by
  simp only [impl_blockAt.f, (at_w hX hX' hY hY' hx hx' hy hy' hz hz').1]
theorem spec_grAt_v {X Y Z x y z : Int} (hX : 1 ≤ X) (hX' : X ≤ 8) (hY : 1 ≤ Y) (hY' : Y ≤ 6) (hZ : 1 ≤ Z) (hZ' : Z ≤ 5) :
    spec_grAt.f X Y Z x y z = some (if inB X Y Z x y z = true then (z * Y + y) * X + x else -1) := by
  unfold spec_grAt.f inB
  rw [w64 (by omega) (by omega), w64 (by omega) (by omega), w64 (by omega) (by omega)]
  simp only [spec_l1In_v, Option.bind_some, decide_eq_true_eq]
  by_cases h : 0 ≤ x ∧ x < X ∧ 0 ≤ y ∧ y < Y ∧ 0 ≤ z ∧ z < Z
  · rw [if_pos (by omega), if_pos (by omega), if_pos (by omega), if_pos h, (at_w (by omega) hX' (by omega) hY' (by omega) (by omega) (by omega) (by omega) (by omega) (by omega)).1]
  · rw [if_neg h]
    repeat' split
    all_goals first | rfl | (exfalso; omega)
theorem tdiv_nn {a b : Int} (h : 0 ≤ a) : Int.tdiv a b = a / b := Int.tdiv_eq_ediv_of_nonneg h
theorem tmod_nn {a b : Int} (h : 0 ≤ a) : Int.tmod a b = a % b := Int.tmod_eq_emod_of_nonneg h
theorem place_bd {X Y Z i : Int} (h : hasB X Y Z i = true) : (0 ≤ i % X ∧ i % X < X) ∧ (0 ≤ i / X % Y ∧ i / X % Y < Y) ∧ (0 ≤ i / X / Y ∧ i / X / Y < Z) ∧ 0 ≤ i / X ∧ i / X ≤ i := by
  obtain ⟨hg, hi, hi'⟩ := hasB_t h
  obtain ⟨h1, h2, h3, h4, h5, h6, h7⟩ := gridB_t hg
  have a : 0 ≤ i / X := Int.ediv_nonneg hi (by omega)
  refine ⟨⟨Int.emod_nonneg _ (by omega), Int.emod_lt_of_pos _ (by omega)⟩, ⟨Int.emod_nonneg _ (by omega), Int.emod_lt_of_pos _ (by omega)⟩, ⟨Int.ediv_nonneg a (by omega), ?_⟩, a, Int.ediv_le_self _ hi⟩
  rw [Int.ediv_ediv_of_nonneg (by omega)]
  refine Int.ediv_lt_of_lt_mul (Int.mul_pos (by omega) (by omega)) ?_
  rw [Int.mul_comm Z]
  exact hi'
theorem impl_placeOf_v {X Y Z i : Int} (h : hasB X Y Z i = true) : impl_placeOf.f X Y Z i = some (i % X, i / X % Y, i / X / Y) := by
  obtain ⟨hg, hi, hi'⟩ := hasB_t h
  obtain ⟨h1, h2, h3, h4, h5, h6, h7⟩ := gridB_t hg
  have hp := place_bd h
  have hg' := grid_pos hg
  unfold impl_placeOf.f
  rw [if_neg (by omega), if_neg (by omega), tmod_nn hi, tdiv_nn hi, w64 (by omega) (by omega) (x := i / X), tmod_nn hp.2.2.2.1, tdiv_nn hp.2.2.2.1, w64 (by omega) (by omega)]
theorem spec_grX_v {X Y Z i : Int} (h : hasB X Y Z i = true) : spec_grX.f X Y Z i = some (i % X) := by
  obtain ⟨hg, hi, hi'⟩ := hasB_t h
  obtain ⟨h1, h2, h3, h4, h5, h6, h7⟩ := gridB_t hg
  unfold spec_grX.f
  rw [if_neg (by omega), tmod_nn hi]
theorem spec_grY_v {X Y Z i : Int} (h : hasB X Y Z i = true) : spec_grY.f X Y Z i = some (i / X % Y) := by
  obtain ⟨hg, hi, hi'⟩ := hasB_t h
  obtain ⟨h1, h2, h3, h4, h5, h6, h7⟩ := gridB_t hg
  have hp := place_bd h
  have hg' := grid_pos hg
  unfold spec_grY.f
  rw [if_neg (by omega), if_neg (by omega), tdiv_nn hi, w64 (by omega) (by omega) (x := i / X), tmod_nn hp.2.2.2.1]
theorem spec_grZ_v {X Y Z i : Int} (h : hasB X Y Z i = true) : spec_grZ.f X Y Z i = some (i / X / Y) := by
  obtain ⟨hg, hi, hi'⟩ := hasB_t h
  obtain ⟨h1, h2, h3, h4, h5, h6, h7⟩ := gridB_t hg
  have hp := place_bd h
  have hg' := grid_pos hg
  unfold spec_grZ.f
  rw [if_neg (by omega), if_neg (by omega), tdiv_nn hi, w64 (by omega) (by omega) (x := i / X), tdiv_nn hp.2.2.2.1, w64 (by omega) (by omega)]
theorem impl_coarseGrid_v {X Y Z : Int} (h : gridB X Y Z = true) : impl_coarseGrid.f X Y Z = some ((X + 1) / 2, (Y + 1) / 2, Z) := by
  obtain ⟨h1, h2, h3, h4, h5, h6, h7⟩ := gridB_t h
  simp only [impl_coarseGrid.f]
  rw [w64 (by omega) (by omega) (x := X + 1), w64 (by omega) (by omega) (x := Y + 1), tdiv_nn (by omega), tdiv_nn (by omega), w64 (by omega) (by omega), w64 (by omega) (by omega)]
theorem spec_sbGrid_v {X Y Z : Int} (h : gridB X Y Z = true) : spec_sbGrid.f X Y Z = some ((X + 1) / 2, (Y + 1) / 2, Z) := by
  obtain ⟨h1, h2, h3, h4, h5, h6, h7⟩ := gridB_t h
  simp only [spec_sbGrid.f]
  rw [w64 (by omega) (by omega) (x := X + 1), w64 (by omega) (by omega) (x := Y + 1), tdiv_nn (by omega), tdiv_nn (by omega), w64 (by omega) (by omega), w64 (by omega) (by omega)]
def coarseV (X Y i : Int) : Int := (i / X / Y * ((Y + 1) / 2) + i / X % Y / 2) * ((X + 1) / 2) + i % X / 2
theorem spec_sbCoarse_v {X Y Z i : Int} (h : hasB X Y Z i = true) : spec_sbCoarse.f X Y Z i = some (coarseV X Y i) := by
  obtain ⟨hg, hi, hi'⟩ := hasB_t h
  obtain ⟨h1, h2, h3, h4, h5, h6, h7⟩ := gridB_t hg
  obtain ⟨⟨p1, p2⟩, ⟨p3, p4⟩, ⟨p5, p6⟩, p7, p8⟩ := place_bd h
  unfold spec_sbCoarse.f coarseV
  rw [spec_sbGrid_v hg, spec_grX_v h, spec_grY_v h, spec_grZ_v h]
  simp only [Option.bind_some]
  rw [tdiv_nn p1, tdiv_nn p3, w64 (by omega) (by omega), w64 (by omega) (by omega), spec_grAt_v (by omega) (by omega) (by omega) (by omega) h5 h6]
  rw [Option.bind_some, if_pos (show inB ((X + 1) / 2) ((Y + 1) / 2) Z (i % X / 2) (i / X % Y / 2) (i / X / Y) = true from decide_eq_true ⟨by omega, by omega, by omega, by omega, by omega, by omega⟩)]
theorem impl_CoarseBlock_v (X Y Z i : Int) : impl_CoarseBlock.f X Y Z i = some (if hasB X Y Z i = true then (coarseV X Y i, true) else (0, false)) := by
  unfold impl_CoarseBlock.f
  rw [impl_hasBlock_v]
  cases h : hasB X Y Z i with
  | false => simp
  | true =>
    obtain ⟨hg, hi, hi'⟩ := hasB_t h
    obtain ⟨h1, h2, h3, h4, h5, h6, h7⟩ := gridB_t hg
    obtain ⟨⟨p1, p2⟩, ⟨p3, p4⟩, ⟨p5, p6⟩, p7, p8⟩ := place_bd h
    simp only [Option.bind_some, if_true, impl_placeOf_v h, impl_coarseGrid_v hg]
    rw [tdiv_nn p1, tdiv_nn p3, w64 (by omega) (by omega), w64 (by omega) (by omega), impl_blockAt_v (by omega) (by omega) (by omega) (by omega) (by omega) (by omega) (by omega) (by omega) (by omega) (by omega)]
    rfl
theorem spec_CoarseBlock_v (X Y Z i : Int) : spec_CoarseBlock.f X Y Z i = some (if hasB X Y Z i = true then (coarseV X Y i, true) else (0, false)) := by
  unfold spec_CoarseBlock.f
  rw [spec_grGood_v]
  cases h : gridB X Y Z with
  | false => simp [hasB, h]
  | true =>
    have := grid_pos h
    simp only [Option.bind_some, if_true, spec_grCount_v h, spec_l1In_v, decide_eq_true_eq]
    rw [w64 (by omega) (by omega)]
    by_cases hi : 0 ≤ i ∧ i ≤ X * Y * Z - 1
    · have hb : hasB X Y Z i = true := by simp [hasB, h]; omega
      rw [if_pos hi, spec_sbCoarse_v hb, if_pos hb]; rfl
    · have hb : ¬ hasB X Y Z i = true := fun hb => by have := hasB_t hb; omega
      rw [if_neg hi, if_neg hb]
theorem pure_FnExactCoarseBlock (X Y Z i : Int) : laws_FnExactCoarseBlock.f X Y Z i = some true := by
  simp only [laws_FnExactCoarseBlock.f, laws_toGrid.f, Option.bind_some, spec_CoarseBlock_v, impl_CoarseBlock_v]
  simp
def pieceB (T M R : Int) : Bool := decide (0 ≤ T ∧ T ≤ 10000 ∧ 0 ≤ M ∧ M ≤ 1000 * T ∧ 0 ≤ R ∧ R ≤ 4)
theorem pieceB_t {T M R : Int} (h : pieceB T M R = true) : 0 ≤ T ∧ T ≤ 10000 ∧ 0 ≤ M ∧ M ≤ 1000 * T ∧ 0 ≤ R ∧ R ≤ 4 := of_decide_eq_true h
def gcdI (x y : Int) : Int := (Nat.gcd x.toNat y.toNat : Nat)
theorem gcdI_step {x y : Int} (hx : 0 ≤ x) (hy : 0 ≤ y) : gcdI y (x % y) = gcdI x y := by
  unfold gcdI
  rw [Int.toNat_emod hx hy, Nat.gcd_comm, ← Nat.gcd_rec, Nat.gcd_comm]
theorem gcdI_zero {x : Int} (hx : 0 ≤ x) : gcdI x 0 = x := by
  unfold gcdI
  simp; omega

end Go.Proofs.Ytfbgdfdeaffodaa.Pure
