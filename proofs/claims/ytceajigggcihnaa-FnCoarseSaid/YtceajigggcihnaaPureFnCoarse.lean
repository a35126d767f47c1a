/- What the printed Lean functions behind FnCoarse come to, and from that the pure statement of FnCoarse: it answers true. No condition beyond those that the given statement itself has. -/
import Derived.Test.YtceajigggcihnaaPFnCoarsex24
import Derived.Lib.SmallJoins
namespace Go.Proofs.Ytceajigggcihnaa.Pure
open Go.RowKit Go.Proofs.Ytceajigggcihnaa.PFnCoarse Go.Proofs.YtceajigggcihnaaW.PrintWords Go.Proofs.YtceajigggcihnaaW.PrintLast Go.Proofs.YtceajigggcihnaaW.PrintMore
set_option linter.unusedVariables false
set_option linter.unusedSimpArgs false

theorem w64 {x : Int} (h1 : -9223372036854775808 ≤ x) (h2 : x ≤ 9223372036854775807) : wrap64 x = x := by unfold wrap64; omega
theorem mul_bd {a b A B : Int} (ha : 0 ≤ a) (hA : a ≤ A) (hb : 0 ≤ b) (hB : b ≤ B) : 0 ≤ a * b ∧ a * b ≤ A * B :=
 ⟨Int.mul_nonneg ha hb, Int.mul_le_mul hA hB hb (by omega)⟩
theorem rd_nat (l : List Int) (i : Nat) : rd l (i : Int) = l.getD i 0 := by simp [rd]
theorem rd_get {l : List Int} {i : Nat} (h : i < l.length) : rd l (i : Int) = l[i] := by rw [rd_nat, List.getD_eq_getElem?_getD, List.getElem?_eq_getElem h]; rfl
theorem drop_rd {l : List Int} {i : Nat} (h : i < l.length) : l.drop i = rd l (i : Int) :: l.drop (i + 1) := by
 rw [rd_get h]; exact List.drop_eq_getElem_cons h
theorem w64_succ {i : Nat} (h : i < 9223372036854775807) : wrap64 ((i : Int) + 1) = ((i + 1 : Nat) : Int) := by rw [w64 (by omega) (by omega)]; omega
theorem k_succ {k : Nat} (h : 0 < k) : ∃ m, k = m + 1 := ⟨k - 1, by omega⟩
/-- from some number of rounds on -/
theorem spec_l1In_v (a lo hi : Int) : spec_l1In.f a lo hi = some (decide (lo ≤ a ∧ a ≤ hi)) := by
 unfold spec_l1In.f
 split
 ·congr 1; rw [decide_eq_decide]; omega
 ·congr 1; symm; rw [decide_eq_false_iff_not]; omega
theorem spec_l1All_l (lo hi : Int) (l : List Int) (hn : l.length ≤ 1152921504606846976) : ∀ (d k i : Nat), i + d = l.length → d < k →
  spec_l1All.l0 k lo hi l (l.length : Int) (i : Int) = some ((l.drop i).all fun x => decide (lo ≤ x ∧ x ≤ hi)) := by
 intro d
 induction d with
 | zero =>
  intro k i hi' hk
  obtain ⟨k, rfl⟩ := k_succ (by omega : 0 < k)
  simp only [spec_l1All.l0]
  rw [if_neg (by omega), List.drop_eq_nil_of_le (by omega)]
  rfl
 | succ d ih =>
  intro k i hi' hk
  obtain ⟨k, rfl⟩ := k_succ (by omega : 0 < k)
  simp only [spec_l1All.l0]
  rw [if_pos (by omega), if_pos (by omega), if_pos (by omega), w64_succ (by omega), drop_rd (by omega : i < l.length), ih k (i + 1) (by omega) (by omega), spec_l1In_v, List.all_cons]
  simp only [Option.bind_some, decide_eq_true_eq]
  by_cases h : lo ≤ rd l (i : Int) ∧ rd l (i : Int) ≤ hi
  ·rw [if_pos h, decide_eq_true h, Bool.true_and]
  ·rw [if_neg h, decide_eq_false h, Bool.false_and]
theorem spec_l1All_v (lo hi : Int) (l : List Int) (hn : l.length ≤ 1152921504606846976) {k : Nat} (hk : l.length < k) : spec_l1All.f k l lo hi = some (l.all fun x => decide (lo ≤ x ∧ x ≤ hi)) := by
 unfold spec_l1All.f
 simpa using spec_l1All_l lo hi l hn l.length k 0 (by omega) hk
def gridB (X Y Z : Int) : Bool := decide (1 ≤ X ∧ X ≤ 8 ∧ 1 ≤ Y ∧ Y ≤ 6 ∧ 1 ≤ Z ∧ Z ≤ 5 ∧ X * Y * Z ≤ 120)
theorem gridB_t {X Y Z : Int} (h : gridB X Y Z = true) : 1 ≤ X ∧ X ≤ 8 ∧ 1 ≤ Y ∧ Y ≤ 6 ∧ 1 ≤ Z ∧ Z ≤ 5 ∧ X * Y * Z ≤ 120 := of_decide_eq_true h
theorem wrapXYZ {X Y Z : Int} (h1 : 1 ≤ X) (h2 : X ≤ 8) (h3 : 1 ≤ Y) (h4 : Y ≤ 6) (h5 : 1 ≤ Z) (h6 : Z ≤ 5) : wrap64 (wrap64 (X * Y) * Z) = X * Y * Z := by
 have a := mul_bd (by omega : 0 ≤ X) h2 (by omega : 0 ≤ Y) h4
 have b := mul_bd a.1 a.2 (by omega : 0 ≤ Z) h6
 rw [w64 (by omega) (by omega) (x := X * Y), w64 (by omega) (by omega)]
theorem grid_pos {X Y Z : Int} (h : gridB X Y Z = true) : 1 ≤ X * Y * Z ∧ X * Y * Z ≤ 120 := by
 obtain ⟨h1, h2, h3, h4, h5, h6, h7⟩ := gridB_t h
 have a : 0 < X * Y := Int.mul_pos (by omega) (by omega)
 have b : 0 < X * Y * Z := Int.mul_pos a (by omega)
 omega
theorem impl_IsGrid_v (X Y Z : Int) : impl_IsGrid.f X Y Z = some (gridB X Y Z) := by
 unfold impl_IsGrid.f gridB
 repeat' split
 all_goals first
  | (rw [wrapXYZ (by omega) (by omega) (by omega) (by omega) (by omega) (by omega)]; congr 1; rw [decide_eq_decide]; omega)
  | (congr 1; symm; rw [decide_eq_false_iff_not]; omega)
theorem spec_grGood_v (X Y Z : Int) : spec_grGood.f X Y Z = some (gridB X Y Z) := by
 unfold spec_grGood.f gridB
 simp only [spec_l1In_v, Option.bind_some, decide_eq_true_eq]
 repeat' split
 all_goals first
  | (rw [wrapXYZ (by omega) (by omega) (by omega) (by omega) (by omega) (by omega)]; congr 1; rw [decide_eq_decide]; omega)
  | (congr 1; symm; rw [decide_eq_false_iff_not]; omega)
theorem spec_grCount_v {X Y Z : Int} (h : gridB X Y Z = true) : spec_grCount.f X Y Z = some (X * Y * Z) := by
 obtain ⟨h1, h2, h3, h4, h5, h6, h7⟩ := gridB_t h
 simp only [spec_grCount.f, wrapXYZ h1 h2 h3 h4 h5 h6]
theorem impl_blocksOf_v {X Y Z : Int} (h : gridB X Y Z = true) : impl_blocksOf.f X Y Z = some (X * Y * Z) := by
 obtain ⟨h1, h2, h3, h4, h5, h6, h7⟩ := gridB_t h
 simp only [impl_blocksOf.f, wrapXYZ h1 h2 h3 h4 h5 h6]
def hasB (X Y Z i : Int) : Bool := gridB X Y Z && decide (0 ≤ i ∧ i < X * Y * Z)
theorem hasB_t {X Y Z i : Int} (h : hasB X Y Z i = true) : gridB X Y Z = true ∧ 0 ≤ i ∧ i < X * Y * Z := by
 unfold hasB at h; rw [Bool.and_eq_true, decide_eq_true_eq] at h; exact h
theorem impl_hasBlock_v (X Y Z i : Int) : impl_hasBlock.f X Y Z i = some (hasB X Y Z i) := by
 unfold impl_hasBlock.f hasB
 rw [impl_IsGrid_v]
 cases h : gridB X Y Z with
 | false => simp
 | true =>
  simp only [Option.bind_some, if_true, impl_blocksOf_v h, Bool.true_and]
  split
  ·congr 1; rw [decide_eq_decide]; omega
  ·congr 1; symm; rw [decide_eq_false_iff_not]; omega
theorem at_w {X Y x y z : Int} (hX : 0 ≤ X) (hX' : X ≤ 8) (hY : 0 ≤ Y) (hY' : Y ≤ 6) (hx : 0 ≤ x) (hx' : x ≤ 8) (hy : 0 ≤ y) (hy' : y ≤ 6) (hz : 0 ≤ z) (hz' : z ≤ 5) :
  wrap64 (wrap64 (wrap64 (wrap64 (z * Y) + y) * X) + x) = (z * Y + y) * X + x ∧ 0 ≤ (z * Y + y) * X + x := by
 have a := mul_bd hz hz' hY hY'
 have b := mul_bd (by omega : 0 ≤ z * Y + y) (by omega : z * Y + y ≤ 36) hX hX'
 rw [w64 (by omega) (by omega) (x := z * Y), w64 (by omega) (by omega) (x := z * Y + y), w64 (by omega) (by omega) (x := (z * Y + y) * X), w64 (by omega) (by omega)]
 exact ⟨rfl, by omega⟩
def inB (X Y Z x y z : Int) : Bool := decide (0 ≤ x ∧ x < X ∧ 0 ≤ y ∧ y < Y ∧ 0 ≤ z ∧ z < Z)
theorem impl_blockAt_v {X Y Z x y z : Int} (hX : 0 ≤ X) (hX' : X ≤ 8) (hY : 0 ≤ Y) (hY' : Y ≤ 6) (hx : 0 ≤ x) (hx' : x ≤ 8) (hy : 0 ≤ y) (hy' : y ≤ 6) (hz : 0 ≤ z) (hz' : z ≤ 5) :
  impl_blockAt.f X Y Z x y z = some ((z * Y + y) * X + x) := by
 simp only [impl_blockAt.f, (at_w hX hX' hY hY' hx hx' hy hy' hz hz').1]
theorem spec_grAt_v {X Y Z x y z : Int} (hX : 1 ≤ X) (hX' : X ≤ 8) (hY : 1 ≤ Y) (hY' : Y ≤ 6) (hZ : 1 ≤ Z) (hZ' : Z ≤ 5) :
  spec_grAt.f X Y Z x y z = some (if inB X Y Z x y z = true then (z * Y + y) * X + x else -1) := by
 unfold spec_grAt.f inB
 rw [w64 (by omega) (by omega), w64 (by omega) (by omega), w64 (by omega) (by omega)]
 simp only [spec_l1In_v, Option.bind_some, decide_eq_true_eq]
 by_cases h : 0 ≤ x ∧ x < X ∧ 0 ≤ y ∧ y < Y ∧ 0 ≤ z ∧ z < Z
 ·rw [if_pos (by omega), if_pos (by omega), if_pos (by omega), if_pos h, (at_w (by omega) hX' (by omega) hY' (by omega) (by omega) (by omega) (by omega) (by omega) (by omega)).1]
 ·rw [if_neg h]
  repeat' split
  all_goals first | rfl | (exfalso; omega)
theorem tdiv_nn {a b : Int} (h : 0 ≤ a) : Int.tdiv a b = a / b := Int.tdiv_eq_ediv_of_nonneg h
theorem tmod_nn {a b : Int} (h : 0 ≤ a) : Int.tmod a b = a % b := Int.tmod_eq_emod_of_nonneg h
theorem place_bd {X Y Z i : Int} (h : hasB X Y Z i = true) : (0 ≤ i % X ∧ i % X < X) ∧ (0 ≤ i / X % Y ∧ i / X % Y < Y) ∧ (0 ≤ i / X / Y ∧ i / X / Y < Z) ∧ 0 ≤ i / X ∧ i / X ≤ i := by
 obtain ⟨hg, hi, hi'⟩ := hasB_t h
 obtain ⟨h1, h2, h3, h4, h5, h6, h7⟩ := gridB_t hg
 have a : 0 ≤ i / X := Int.ediv_nonneg hi (by omega)
 refine ⟨⟨Int.emod_nonneg _ (by omega), Int.emod_lt_of_pos _ (by omega)⟩, ⟨Int.emod_nonneg _ (by omega), Int.emod_lt_of_pos _ (by omega)⟩, ⟨Int.ediv_nonneg a (by omega), ?_⟩, a, Int.ediv_le_self _ hi⟩
 rw [Int.ediv_ediv_of_nonneg (by omega)]
 refine Int.ediv_lt_of_lt_mul (Int.mul_pos (by omega) (by omega)) ?_
 rw [Int.mul_comm Z]
 exact hi'
theorem impl_placeOf_v {X Y Z i : Int} (h : hasB X Y Z i = true) : impl_placeOf.f X Y Z i = some (i % X, i / X % Y, i / X / Y) := by
 obtain ⟨hg, hi, hi'⟩ := hasB_t h
 obtain ⟨h1, h2, h3, h4, h5, h6, h7⟩ := gridB_t hg
 have hp := place_bd h
 have hg' := grid_pos hg
 unfold impl_placeOf.f
 rw [if_neg (by omega), if_neg (by omega), tmod_nn hi, tdiv_nn hi, w64 (by omega) (by omega) (x := i / X), tmod_nn hp.2.2.2.1, tdiv_nn hp.2.2.2.1, w64 (by omega) (by omega)]
theorem spec_grX_v {X Y Z i : Int} (h : hasB X Y Z i = true) : spec_grX.f X Y Z i = some (i % X) := by
 obtain ⟨hg, hi, hi'⟩ := hasB_t h
 obtain ⟨h1, h2, h3, h4, h5, h6, h7⟩ := gridB_t hg
 unfold spec_grX.f
 rw [if_neg (by omega), tmod_nn hi]
theorem spec_grY_v {X Y Z i : Int} (h : hasB X Y Z i = true) : spec_grY.f X Y Z i = some (i / X % Y) := by
 obtain ⟨hg, hi, hi'⟩ := hasB_t h
 obtain ⟨h1, h2, h3, h4, h5, h6, h7⟩ := gridB_t hg
 have hp := place_bd h
 have hg' := grid_pos hg
 unfold spec_grY.f
 rw [if_neg (by omega), if_neg (by omega), tdiv_nn hi, w64 (by omega) (by omega) (x := i / X), tmod_nn hp.2.2.2.1]
theorem spec_grZ_v {X Y Z i : Int} (h : hasB X Y Z i = true) : spec_grZ.f X Y Z i = some (i / X / Y) := by
 obtain ⟨hg, hi, hi'⟩ := hasB_t h
 obtain ⟨h1, h2, h3, h4, h5, h6, h7⟩ := gridB_t hg
 have hp := place_bd h
 have hg' := grid_pos hg
 unfold spec_grZ.f
 rw [if_neg (by omega), if_neg (by omega), tdiv_nn hi, w64 (by omega) (by omega) (x := i / X), tdiv_nn hp.2.2.2.1, w64 (by omega) (by omega)]
theorem impl_coarseGrid_v {X Y Z : Int} (h : gridB X Y Z = true) : impl_coarseGrid.f X Y Z = some ((X + 1) / 2, (Y + 1) / 2, Z) := by
 obtain ⟨h1, h2, h3, h4, h5, h6, h7⟩ := gridB_t h
 simp only [impl_coarseGrid.f]
 rw [w64 (by omega) (by omega) (x := X + 1), w64 (by omega) (by omega) (x := Y + 1), tdiv_nn (by omega), tdiv_nn (by omega), w64 (by omega) (by omega), w64 (by omega) (by omega)]
theorem spec_sbGrid_v {X Y Z : Int} (h : gridB X Y Z = true) : spec_sbGrid.f X Y Z = some ((X + 1) / 2, (Y + 1) / 2, Z) := by
 obtain ⟨h1, h2, h3, h4, h5, h6, h7⟩ := gridB_t h
 simp only [spec_sbGrid.f]
 rw [w64 (by omega) (by omega) (x := X + 1), w64 (by omega) (by omega) (x := Y + 1), tdiv_nn (by omega), tdiv_nn (by omega), w64 (by omega) (by omega), w64 (by omega) (by omega)]
def coarseV (X Y i : Int) : Int := (i / X / Y * ((Y + 1) / 2) + i / X % Y / 2) * ((X + 1) / 2) + i % X / 2
theorem spec_sbCoarse_v {X Y Z i : Int} (h : hasB X Y Z i = true) : spec_sbCoarse.f X Y Z i = some (coarseV X Y i) := by
 obtain ⟨hg, hi, hi'⟩ := hasB_t h
 obtain ⟨h1, h2, h3, h4, h5, h6, h7⟩ := gridB_t hg
 obtain ⟨⟨p1, p2⟩, ⟨p3, p4⟩, ⟨p5, p6⟩, p7, p8⟩ := place_bd h
 unfold spec_sbCoarse.f coarseV
 rw [spec_sbGrid_v hg, spec_grX_v h, spec_grY_v h, spec_grZ_v h]
 simp only [Option.bind_some]
 rw [tdiv_nn p1, tdiv_nn p3, w64 (by omega) (by omega), w64 (by omega) (by omega), spec_grAt_v (by omega) (by omega) (by omega) (by omega) h5 h6]
 rw [Option.bind_some, if_pos (show inB ((X + 1) / 2) ((Y + 1) / 2) Z (i % X / 2) (i / X % Y / 2) (i / X / Y) = true from decide_eq_true ⟨by omega, by omega, by omega, by omega, by omega, by omega⟩)]
theorem impl_CoarseBlock_v (X Y Z i : Int) : impl_CoarseBlock.f X Y Z i = some (if hasB X Y Z i = true then (coarseV X Y i, true) else (0, false)) := by
 unfold impl_CoarseBlock.f
 rw [impl_hasBlock_v]
 cases h : hasB X Y Z i with
 | false => simp
 | true =>
  obtain ⟨hg, hi, hi'⟩ := hasB_t h
  obtain ⟨h1, h2, h3, h4, h5, h6, h7⟩ := gridB_t hg
  obtain ⟨⟨p1, p2⟩, ⟨p3, p4⟩, ⟨p5, p6⟩, p7, p8⟩ := place_bd h
  simp only [Option.bind_some, if_true, impl_placeOf_v h, impl_coarseGrid_v hg]
  rw [tdiv_nn p1, tdiv_nn p3, w64 (by omega) (by omega), w64 (by omega) (by omega), impl_blockAt_v (by omega) (by omega) (by omega) (by omega) (by omega) (by omega) (by omega) (by omega) (by omega) (by omega)]
  rfl
theorem spec_CoarseBlock_v (X Y Z i : Int) : spec_CoarseBlock.f X Y Z i = some (if hasB X Y Z i = true then (coarseV X Y i, true) else (0, false)) := by
 unfold spec_CoarseBlock.f
 rw [spec_grGood_v]
 cases h : gridB X Y Z with
 | false => simp [hasB, h]
 | true =>
  have := grid_pos h
  simp only [Option.bind_some, if_true, spec_grCount_v h, spec_l1In_v, decide_eq_true_eq]
  rw [w64 (by omega) (by omega)]
  by_cases hi : 0 ≤ i ∧ i ≤ X * Y * Z - 1
  ·have hb : hasB X Y Z i = true := by simp [hasB, h]; omega
   rw [if_pos hi, spec_sbCoarse_v hb, if_pos hb]; rfl
  ·have hb : ¬ hasB X Y Z i = true := fun hb => by have := hasB_t hb; omega
   rw [if_neg hi, if_neg hb]
theorem hasB_of {X Y Z i : Int} (h : gridB X Y Z = true) (h0 : 0 ≤ i) (h1 : i < X * Y * Z) : hasB X Y Z i = true := by
 unfold hasB; rw [h, Bool.true_and]; exact decide_eq_true ⟨h0, h1⟩
def pieceB (T M R : Int) : Bool := decide (0 ≤ T ∧ T ≤ 10000 ∧ 0 ≤ M ∧ M ≤ 1000 * T ∧ 0 ≤ R ∧ R ≤ 4)
theorem pieceB_t {T M R : Int} (h : pieceB T M R = true) : 0 ≤ T ∧ T ≤ 10000 ∧ 0 ≤ M ∧ M ≤ 1000 * T ∧ 0 ≤ R ∧ R ≤ 4 := of_decide_eq_true h
theorem impl_IsPiece_v (T M R : Int) : impl_IsPiece.f T M R = some (pieceB T M R) := by
 unfold impl_IsPiece.f pieceB
 by_cases h : 0 ≤ T ∧ T ≤ 10000
 ·rw [w64 (by omega) (by omega)]
  repeat' split
  all_goals first
   | (congr 1; rw [decide_eq_decide]; omega)
   | (congr 1; symm; rw [decide_eq_false_iff_not]; omega)
 ·have e : decide (0 ≤ T ∧ T ≤ 10000 ∧ 0 ≤ M ∧ M ≤ 1000 * T ∧ 0 ≤ R ∧ R ≤ 4) = false := by rw [decide_eq_false_iff_not]; omega
  rw [e]
  split
  ·rw [if_neg (by omega)]
  ·rfl
theorem spec_sbPiece_v (T M R : Int) : spec_sbPiece.f T M R = some (pieceB T M R) := by
 unfold spec_sbPiece.f pieceB
 simp only [spec_l1In_v, Option.bind_some, decide_eq_true_eq]
 by_cases h : 0 ≤ T ∧ T ≤ 10000
 ·rw [w64 (by omega) (by omega)]
  repeat' split
  all_goals first
   | (congr 1; rw [decide_eq_decide]; omega)
   | (congr 1; symm; rw [decide_eq_false_iff_not]; omega)
 ·have e : decide (0 ≤ T ∧ T ≤ 10000 ∧ 0 ≤ M ∧ M ≤ 1000 * T ∧ 0 ≤ R ∧ R ≤ 4) = false := by rw [decide_eq_false_iff_not]; omega
  rw [e, if_neg h]
def roundV (T M : Int) : Int := if T = 0 then 0 else (2 * M + T - 1) / (2 * T)
theorem impl_roundedGrade_v {T M R : Int} (h : pieceB T M R = true) : impl_roundedGrade.f T M R = some (roundV T M) := by
 obtain ⟨h1, h2, h3, h4, h5, h6⟩ := pieceB_t h
 unfold impl_roundedGrade.f roundV
 by_cases e : T = 0
 ·rw [if_pos e, if_pos e]
 ·have hd : (2 * M + T - 1) / (2 * T) ≤ 2 * M + T - 1 := Int.ediv_le_self _ (by omega)
  have hn : 0 ≤ (2 * M + T - 1) / (2 * T) := Int.ediv_nonneg (by omega) (by omega)
  rw [if_neg e, if_neg e, w64 (by omega) (by omega) (x := 2 * M), w64 (by omega) (by omega) (x := 2 * M + T), w64 (by omega) (by omega) (x := 2 * M + T - 1), w64 (by omega) (by omega) (x := 2 * T), if_neg (by omega), tdiv_nn (by omega), w64 (by omega) (by omega)]
theorem spec_sbRound_v {T M R : Int} (h : pieceB T M R = true) : spec_sbRound.f T M R = some (roundV T M) := by
 obtain ⟨h1, h2, h3, h4, h5, h6⟩ := pieceB_t h
 unfold spec_sbRound.f roundV
 by_cases e : T = 0
 ·rw [if_pos e, if_pos e]
 ·have hd : (2 * M + T - 1) / (2 * T) ≤ 2 * M + T - 1 := Int.ediv_le_self _ (by omega)
  have hn : 0 ≤ (2 * M + T - 1) / (2 * T) := Int.ediv_nonneg (by omega) (by omega)
  rw [if_neg e, if_neg e, w64 (by omega) (by omega) (x := 2 * M), w64 (by omega) (by omega) (x := 2 * M + T), w64 (by omega) (by omega) (x := 2 * M + T - 1), w64 (by omega) (by omega) (x := 2 * T), if_neg (by omega), tdiv_nn (by omega), w64 (by omega) (by omega)]
def modelB (X Y Z : Int) (t g r : List Int) : Bool := gridB X Y Z && decide ((t.length : Int) = X * Y * Z ∧ (g.length : Int) = X * Y * Z ∧ (r.length : Int) = X * Y * Z) && ((t.all fun x => decide (0 ≤ x ∧ x ≤ 10000)) && ((g.all fun x => decide (0 ≤ x ∧ x ≤ 1000)) && (r.all fun x => decide (0 ≤ x ∧ x ≤ 4))))
structure IsMod (X Y Z : Int) (t g r : List Int) : Prop where
 grid : gridB X Y Z = true
 lt : (t.length : Int) = X * Y * Z
 lg : g.length = t.length
 lr : r.length = t.length
 ht : ∀ x ∈ t, 0 ≤ x ∧ x ≤ 10000
 hg : ∀ x ∈ g, 0 ≤ x ∧ x ≤ 1000
 hr : ∀ x ∈ r, 0 ≤ x ∧ x ≤ 4
 pos : 1 ≤ t.length
 le : t.length ≤ 120
theorem modelB_iff {X Y Z : Int} {t g r : List Int} : modelB X Y Z t g r = true ↔ IsMod X Y Z t g r := by
 unfold modelB
 simp only [Bool.and_eq_true, decide_eq_true_eq, List.all_eq_true]
 constructor
 ·rintro ⟨⟨h1, h2, h3, h4⟩, h5, h6, h7⟩
  have := grid_pos h1
  exact ⟨h1, h2, by omega, by omega, h5, h6, h7, by omega, by omega⟩
 ·intro h
  have h1 := h.lt; have h2 := h.lg; have h3 := h.lr
  exact ⟨⟨h.grid, h1, by omega, by omega⟩, h.ht, h.hg, h.hr⟩
theorem modelB_t {X Y Z : Int} {t g r : List Int} (h : modelB X Y Z t g r = true) : IsMod X Y Z t g r := modelB_iff.1 h
theorem rd_mem {l : List Int} {i : Int} (h0 : 0 ≤ i) (h : i < (l.length : Int)) : rd l i ∈ l := by
 unfold rd
 rw [List.getD_eq_getElem?_getD, List.getElem?_eq_getElem (by omega)]
 exact List.getElem_mem _
theorem IsMod.rt {X Y Z : Int} {t g r : List Int} (h : IsMod X Y Z t g r) {i : Int} (h0 : 0 ≤ i) (h1 : i < (t.length : Int)) : 0 ≤ rd t i ∧ rd t i ≤ 10000 := h.ht _ (rd_mem h0 h1)
theorem IsMod.rg {X Y Z : Int} {t g r : List Int} (h : IsMod X Y Z t g r) {i : Int} (h0 : 0 ≤ i) (h1 : i < (t.length : Int)) : 0 ≤ rd g i ∧ rd g i ≤ 1000 := h.hg _ (rd_mem h0 (by have := h.lg; omega))
theorem IsMod.rr {X Y Z : Int} {t g r : List Int} (h : IsMod X Y Z t g r) {i : Int} (h0 : 0 ≤ i) (h1 : i < (t.length : Int)) : 0 ≤ rd r i ∧ rd r i ≤ 4 := h.hr _ (rd_mem h0 (by have := h.lr; omega))
theorem IsMod.rm {X Y Z : Int} {t g r : List Int} (h : IsMod X Y Z t g r) {i : Int} (h0 : 0 ≤ i) (h1 : i < (t.length : Int)) : 0 ≤ rd t i * rd g i ∧ rd t i * rd g i ≤ 10000000 :=
 mul_bd (h.rt h0 h1).1 (h.rt h0 h1).2 (h.rg h0 h1).1 (h.rg h0 h1).2
theorem impl_IsModel_l (X Y Z : Int) (t g r : List Int) (hn : t.length ≤ 1152921504606846976) (hg : g.length = t.length) (hr : r.length = t.length) : ∀ (d k i : Nat), i + d = t.length → d < k →
  impl_IsModel.l0 k (t.length : Int) (i : Int) X Y Z t g r = some (((t.drop i).all fun x => decide (0 ≤ x ∧ x ≤ 10000)) && (((g.drop i).all fun x => decide (0 ≤ x ∧ x ≤ 1000)) && ((r.drop i).all fun x => decide (0 ≤ x ∧ x ≤ 4)))) := by
 intro d
 induction d with
 | zero =>
  intro k i hi hk
  obtain ⟨k, rfl⟩ := k_succ (by omega : 0 < k)
  simp only [impl_IsModel.l0]
  rw [if_neg (by omega), List.drop_eq_nil_of_le (by omega), List.drop_eq_nil_of_le (by omega), List.drop_eq_nil_of_le (by omega)]
  rfl
 | succ d ih =>
  intro k i hi hk
  obtain ⟨k, rfl⟩ := k_succ (by omega : 0 < k)
  simp only [impl_IsModel.l0]
  rw [if_pos (by omega), if_pos (by omega), if_pos (by omega), drop_rd (by omega : i < t.length), drop_rd (by omega : i < g.length), drop_rd (by omega : i < r.length), w64_succ (by omega), ih k (i + 1) (by omega) (by omega)]
  simp only [List.all_cons]
  by_cases h1 : 0 ≤ rd t (i : Int) ∧ rd t (i : Int) ≤ 10000
  ·rw [if_neg (by omega), if_neg (by omega), if_pos (by omega), decide_eq_true h1]
   by_cases h2 : 0 ≤ rd g (i : Int) ∧ rd g (i : Int) ≤ 1000
   ·rw [if_neg (by omega), if_neg (by omega), if_pos (by omega), decide_eq_true h2]
    by_cases h3 : 0 ≤ rd r (i : Int) ∧ rd r (i : Int) ≤ 4
    ·rw [if_neg (by omega), if_neg (by omega), decide_eq_true h3]
     simp only [Bool.true_and]
    ·rw [decide_eq_false h3]
     simp only [Bool.true_and, Bool.false_and, Bool.and_false]
     split
     ·rfl
     ·rw [if_pos (by omega)]
   ·rw [decide_eq_false h2]
    simp only [Bool.true_and, Bool.false_and, Bool.and_false]
    split
    ·rfl
    ·rw [if_pos (by omega)]
  ·rw [decide_eq_false h1]
   simp only [Bool.false_and]
   split
   ·rfl
   ·rw [if_pos (by omega)]
theorem impl_IsModel_v (X Y Z : Int) (t g r : List Int) {k : Nat} (hk : 122 < k) : impl_IsModel.f k X Y Z t g r = some (modelB X Y Z t g r) := by
 obtain ⟨k, rfl⟩ := k_succ (by omega : 0 < k)
 unfold impl_IsModel.f modelB
 rw [impl_IsGrid_v]
 cases h : gridB X Y Z with
 | false => simp
 | true =>
  have := grid_pos h
  simp only [Option.bind_some, if_true, impl_blocksOf_v h, Bool.true_and, impl_IsModel.j0]
  by_cases h1 : (t.length : Int) = X * Y * Z
  ·rw [if_pos h1]
   by_cases h2 : (g.length : Int) = X * Y * Z
   ·rw [if_pos h2]
    by_cases h3 : (r.length : Int) = X * Y * Z
    ·rw [if_neg (by simp [h3]), decide_eq_true (by omega), Bool.true_and, ← h1]
     have := impl_IsModel_l X Y Z t g r (by omega) (by omega) (by omega) t.length k 0 (by omega) (by omega)
     simpa using this
    ·rw [if_pos (by simp [h3]), decide_eq_false (by omega), Bool.false_and]
   ·rw [if_neg h2, decide_eq_false (by omega), Bool.false_and]
  ·rw [if_neg h1, decide_eq_false (by omega), Bool.false_and]
theorem spec_moGood_v (X Y Z : Int) (t g r : List Int) {k : Nat} (hk : 122 < k) : spec_moGood.f k X Y Z t g r = some (modelB X Y Z t g r) := by
 unfold spec_moGood.f modelB
 rw [spec_grGood_v]
 cases h : gridB X Y Z with
 | false => simp
 | true =>
  have := grid_pos h
  simp only [Option.bind_some, if_true, spec_grCount_v h, Bool.true_and]
  by_cases h1 : (t.length : Int) = X * Y * Z
  ·rw [if_pos h1]
   by_cases h2 : (g.length : Int) = X * Y * Z
   ·rw [if_pos h2]
    by_cases h3 : (r.length : Int) = X * Y * Z
    ·rw [if_pos h3, decide_eq_true (by omega), Bool.true_and, spec_l1All_v _ _ t (by omega) (by omega), spec_l1All_v _ _ g (by omega) (by omega), spec_l1All_v _ _ r (by omega) (by omega)]
     simp only [Option.bind_some]
     cases (t.all fun x => decide (0 ≤ x ∧ x ≤ 10000)) <;> cases (g.all fun x => decide (0 ≤ x ∧ x ≤ 1000)) <;> simp
    ·rw [if_neg h3, decide_eq_false (by omega), Bool.false_and]
   ·rw [if_neg h2, decide_eq_false (by omega), Bool.false_and]
  ·rw [if_neg h1, decide_eq_false (by omega), Bool.false_and]
theorem spec_moMetal_v {X Y Z : Int} {t g r : List Int} (h : IsMod X Y Z t g r) {i : Int} (h0 : 0 ≤ i) (h1 : i < (t.length : Int)) : spec_moMetal.f X Y Z t g r i = some (rd t i * rd g i) := by
 have := h.lg; have hb := h.rm h0 h1
 unfold spec_moMetal.f
 rw [if_pos h0, if_pos h1, if_pos (by omega), w64 (by omega) (by omega)]
def risF (n : Int) : Int → List Int → Bool
 | _, [] => true
 | p, x :: xs => decide (0 ≤ x ∧ x < n ∧ p < x) && risF n x xs
def risB (n : Int) (l : List Int) : Bool := risF n (-1) l
theorem risF_cons (n p x : Int) (xs : List Int) : risF n p (x :: xs) = (decide (0 ≤ x ∧ x < n ∧ p < x) && risF n x xs) := rfl
theorem risF_mem {n : Int} : ∀ {p : Int} {l : List Int}, risF n p l = true → ∀ x ∈ l, 0 ≤ x ∧ x < n
 | _, [], _, x, hx => by cases hx
 | p, y :: l, h, x, hx => by
  unfold risF at h
  rw [Bool.and_eq_true, decide_eq_true_eq] at h
  rcases List.mem_cons.1 hx with rfl | hx
  ·exact ⟨h.1.1, h.1.2.1⟩
  ·exact risF_mem h.2 x hx
theorem risB_mem {n : Int} {l : List Int} (h : risB n l = true) : ∀ x ∈ l, 0 ≤ x ∧ x < n := risF_mem h
theorem impl_areBlocks_l (n : Int) (l : List Int) (hn : l.length ≤ 1152921504606846976) : ∀ (d k i : Nat), i + d = l.length → d < k →
  impl_areBlocks.l0 k l n l (l.length : Int) (i : Int) = some (risF n (if i = 0 then -1 else rd l ((i : Int) - 1)) (l.drop i)) := by
 intro d
 induction d with
 | zero =>
  intro k i hi' hk
  obtain ⟨k, rfl⟩ := k_succ (by omega : 0 < k)
  simp only [impl_areBlocks.l0]
  rw [if_neg (by omega), List.drop_eq_nil_of_le (by omega)]
  rfl
 | succ d ih =>
  intro k i hi' hk
  obtain ⟨k, rfl⟩ := k_succ (by omega : 0 < k)
  have ihk := ih k (i + 1) (by omega) (by omega)
  rw [if_neg (by omega), show ((i + 1 : Nat) : Int) - 1 = (i : Int) by omega] at ihk
  simp only [impl_areBlocks.l0]
  rw [if_pos (by omega), if_pos (by omega), if_pos (by omega), w64_succ (by omega), drop_rd (by omega : i < l.length), ihk, risF_cons]
  by_cases h0 : 0 ≤ rd l (i : Int) ∧ rd l (i : Int) < n
  ·rw [if_neg (by omega), if_neg (by omega)]
   by_cases hi : i = 0
   ·rw [if_neg (by omega), if_pos hi, decide_eq_true (by omega), Bool.true_and]
   ·rw [if_pos (by omega), w64 (by omega) (by omega), if_pos (by omega), if_pos (by omega), if_neg hi]
    by_cases h1 : rd l (i : Int) ≤ rd l ((i : Int) - 1)
    ·rw [if_pos h1, decide_eq_false (by omega), Bool.false_and]
    ·rw [if_neg h1, decide_eq_true (by omega), Bool.true_and]
  ·rw [decide_eq_false (by omega), Bool.false_and]
   split
   ·rfl
   ·rw [if_pos (by omega)]
theorem impl_areBlocks_v (n : Int) (l : List Int) (hn : l.length ≤ 1048576) {k : Nat} (hk : 1048576 < k) : impl_areBlocks.f k l n = some (risB n l) := by
 unfold impl_areBlocks.f risB
 simpa using impl_areBlocks_l n l (by omega) l.length k 0 (by omega) (by omega)
def sumT (t l : List Int) : Int := (l.map (rd t)).sum
def sumM (t g l : List Int) : Int := (l.map fun i => rd t i * rd g i).sum
theorem sum_bd (f : Int → Int) (B : Int) (hB : 0 ≤ B) : ∀ (l : List Int), (∀ x ∈ l, 0 ≤ f x ∧ f x ≤ B) → 0 ≤ (l.map f).sum ∧ (l.map f).sum ≤ B * (l.length : Int)
 | [], _ => by simp
 | x :: l, h => by
  have h1 := h x (by simp)
  have h2 := sum_bd f B hB l (fun y hy => h y (by simp [hy]))
  simp only [List.map_cons, List.sum_cons, List.length_cons]
  have e : B * ((l.length + 1 : Nat) : Int) = B * (l.length : Int) + B := by
   rw [show ((l.length + 1 : Nat) : Int) = (l.length : Int) + 1 by omega, Int.mul_add, Int.mul_one]
  omega
theorem impl_sumsOf_l {X Y Z : Int} {t g r : List Int} (h : IsMod X Y Z t g r) (l : List Int) (hl : l.length ≤ 1048576) (hr : ∀ x ∈ l, 0 ≤ x ∧ x < (t.length : Int)) : ∀ (d k i : Nat) (a b : Int), i + d = l.length → d < k → 0 ≤ a → a ≤ 10000 * (i : Int) → 0 ≤ b → b ≤ 10000000 * (i : Int) →
  impl_sumsOf.l0 k a b l (l.length : Int) (i : Int) X Y Z t g r = some (a + sumT t (l.drop i), b + sumM t g (l.drop i)) := by
 intro d
 induction d with
 | zero =>
  intro k i a b hi hk _ _ _ _
  obtain ⟨k, rfl⟩ := k_succ (by omega : 0 < k)
  simp only [impl_sumsOf.l0]
  rw [if_neg (by omega), List.drop_eq_nil_of_le (by omega)]
  simp [sumT, sumM]
 | succ d ih =>
  intro k i a b hi hk ha0 ha1 hb0 hb1
  obtain ⟨k, rfl⟩ := k_succ (by omega : 0 < k)
  have hm := hr _ (rd_mem (l := l) (i := (i : Int)) (by omega) (by omega))
  have ht := h.rt hm.1 hm.2
  have hmm := h.rm hm.1 hm.2
  have hlg := h.lg
  have e : ((i + 1 : Nat) : Int) = (i : Int) + 1 := by omega
  simp only [impl_sumsOf.l0]
  rw [if_pos (by omega), if_pos (by omega), if_pos (by omega), if_pos hm.1, if_pos hm.2, if_pos (by omega), w64_succ (by omega), w64 (by omega) (by omega) (x := a + _), w64 (by omega) (by omega) (x := rd t _ * _), w64 (by omega) (by omega) (x := b + _), ih k (i + 1) _ _ (by omega) (by omega) (by omega) (by omega) (by omega) (by omega), drop_rd (by omega : i < l.length)]
  simp only [sumT, sumM, List.map_cons, List.sum_cons, Int.add_assoc]
theorem impl_sumsOf_v {X Y Z : Int} {t g r : List Int} (h : IsMod X Y Z t g r) (l : List Int) (hl : l.length ≤ 1048576) (hr : ∀ x ∈ l, 0 ≤ x ∧ x < (t.length : Int)) {k : Nat} (hk : 1048576 < k) : impl_sumsOf.f k X Y Z t g r l = some (sumT t l, sumM t g l) := by
 unfold impl_sumsOf.f
 have := impl_sumsOf_l h l hl hr l.length k 0 0 0 (by omega) (by omega) (by omega) (by omega) (by omega) (by omega)
 simpa using this
theorem u64_wrap_bd (n : Int) : 0 ≤ IntKind.u64.wrap n ∧ IntKind.u64.wrap n < 18446744073709551616 := by rw [IntKind.wrap_u64]; omega
theorem and255 {x : Int} (h0 : 0 ≤ x) (h1 : x < 18446744073709551616) : 0 ≤ Go.bits .and .u64 x 255 ∧ Go.bits .and .u64 x 255 ≤ 255 := by
 have := bits_mask .u64 64 (by decide) (fun n a b => by rw [IntKind.wrap_u64]; omega) 8 (by decide) x h0 (by omega)
 rw [show (2 : Int) ^ 8 - 1 = 255 by decide, show (2 : Int) ^ 8 = 256 by decide] at this
 rw [this]; omega
/-- the bytes of a draw -/
def Bytes (s : List Int) : Prop := ∀ x ∈ s, 0 ≤ x ∧ x ≤ 255
theorem Bytes.rd {s : List Int} (h : Bytes s) {i : Int} (h0 : 0 ≤ i) (h1 : i < (s.length : Int)) : 0 ≤ rd s i ∧ rd s i ≤ 255 := by
 obtain ⟨n, rfl⟩ := Int.eq_ofNat_of_zero_le h0
 have hn : n < s.length := by omega
 rw [rd_get hn]
 exact h _ (List.getElem_mem hn)
theorem bytes_of_wf {s : List Int} (h : ∀ x ∈ s, (Lit.int .u8 x).wf = true) : Bytes s := by
 intro x hx
 have := h x hx
 simp [Lit.wf] at this
 have e1 : IntKind.u8.min = 0 := by decide
 have e2 : IntKind.u8.max = 255 := by decide
 omega
theorem spec_l1Cur_next_d {s : List Int} (hs : Bytes s) (hl : s.length ≤ 9223372036854775807) (p st : Int) (h0 : 0 ≤ p) (h1 : p ≤ 1000000000) :
  ∃ v st', spec_l1Cur_next.f s p st = some (v, p + 1, st') ∧ 0 ≤ v ∧ v ≤ 255 := by
 unfold spec_l1Cur_next.f
 rw [w64 (by omega) (by omega) (x := p + 1)]
 have hb : ∀ n, 0 ≤ Go.bits .and .u64 (IntKind.u64.wrap n / 1099511627776) 255 ∧ Go.bits .and .u64 (IntKind.u64.wrap n / 1099511627776) 255 ≤ 255 := fun n => by
  have := u64_wrap_bd n
  exact and255 (by omega) (by omega)
 by_cases c : p < (s.length : Int)
 ·rw [if_pos c, if_pos h0]
  have := hs.rd h0 c
  by_cases d : p + 1 ≤ (s.length : Int)
  ·rw [if_pos d, w64 (by omega) (by omega) (x := rd s p)]
   exact ⟨_, _, rfl, this⟩
  ·omega
 ·rw [if_neg c, if_neg (by omega)]
  refine ⟨_, _, rfl, ?_⟩
  have h2 := hb (IntKind.u64.wrap (IntKind.u64.wrap (st * 6364136223846793005)) + 1442695040888963407)
  rw [w64 (by omega) (by omega)]
  exact h2
theorem spec_l1Cur_pick_d {s : List Int} (hs : Bytes s) (hl : s.length ≤ 9223372036854775807) (p st a : Int) (h0 : 0 ≤ p) (h1 : p ≤ 999999000) (ha : a ≤ 60000) :
  ∃ v p' st', spec_l1Cur_pick.f s p st a = some (v, p', st') ∧ 0 ≤ v ∧ (v < a ∨ v = 0) ∧ p ≤ p' ∧ p' ≤ p + 2 := by
 unfold spec_l1Cur_pick.f
 by_cases c : a ≤ 1
 ·rw [if_pos c]; exact ⟨_, _, _, rfl, by omega, .inr rfl, by omega, by omega⟩
 ·rw [if_neg c]
  obtain ⟨v, st1, e, v0, v1⟩ := spec_l1Cur_next_d hs hl p st h0 (by omega)
  rw [e, Option.bind_some]
  dsimp only
  by_cases d : a > 200
  ·rw [if_pos d]
   obtain ⟨u, st2, e2, u0, u1⟩ := spec_l1Cur_next_d hs hl (p + 1) st1 (by omega) (by omega)
   rw [e2, Option.bind_some, if_neg (by omega)]
   dsimp only
   rw [w64 (by omega) (by omega) (x := v * 256), w64 (by omega) (by omega)]
   refine ⟨_, _, _, rfl, Int.tmod_nonneg _ (by omega), .inl (Int.tmod_lt_of_pos _ (by omega)), by omega, by omega⟩
  ·rw [if_neg d, if_neg (by omega)]
   exact ⟨_, _, _, rfl, Int.tmod_nonneg _ v0, .inl (Int.tmod_lt_of_pos _ (by omega)), by omega, by omega⟩
theorem spec_l1Cur_among_d {s : List Int} (hs : Bytes s) (hl : s.length ≤ 9223372036854775807) (p st : Int) (l : List Int) (h0 : 0 ≤ p) (h1 : p ≤ 999999000) (hn : 1 ≤ l.length) (hn' : l.length ≤ 1000) :
  ∃ v p' st', spec_l1Cur_among.f s p st l = some (v, p', st') ∧ v ∈ l ∧ p ≤ p' ∧ p' ≤ p + 2 := by
 unfold spec_l1Cur_among.f
 obtain ⟨v, p', st', e, v0, v1, q0, q1⟩ := spec_l1Cur_pick_d hs hl p st (l.length : Int) h0 h1 (by omega)
 rw [e, Option.bind_some]
 dsimp only
 have hv : v < (l.length : Int) := by omega
 rw [if_pos v0, if_pos hv]
 refine ⟨_, _, _, rfl, ?_, q0, q1⟩
 obtain ⟨n, rfl⟩ := Int.eq_ofNat_of_zero_le v0
 have hn : n < l.length := by omega
 rw [rd_get hn]
 exact List.getElem_mem hn
theorem spec_l1Cur_one_d {s : List Int} (hs : Bytes s) (hl : s.length ≤ 9223372036854775807) (p st a : Int) (h0 : 0 ≤ p) (h1 : p ≤ 999999000) (ha : a ≤ 60000) :
  ∃ b p' st', spec_l1Cur_one.f s p st a = some (b, p', st') ∧ p ≤ p' ∧ p' ≤ p + 2 := by
 unfold spec_l1Cur_one.f
 obtain ⟨v, p', st', e, v0, v1, q0, q1⟩ := spec_l1Cur_pick_d hs hl p st a h0 h1 ha
 rw [e, Option.bind_some]
 exact ⟨_, _, _, rfl, q0, q1⟩
theorem spec_l1Cur_grid_d {s : List Int} (hs : Bytes s) (hl : s.length ≤ 9223372036854775807) (p st : Int) (h0 : 0 ≤ p) (h1 : p ≤ 999998000) :
  ∃ X Y Z p' st', spec_l1Cur_grid.f s p st = some (X, Y, Z, p', st') ∧ gridB X Y Z = true ∧ p ≤ p' ∧ p' ≤ p + 8 := by
 unfold spec_l1Cur_grid.f
 obtain ⟨b, p1, st1, e, q0, q1⟩ := spec_l1Cur_one_d hs hl p st 24 h0 (by omega) (by omega)
 rw [e, Option.bind_some]
 dsimp only
 cases b with
 | true =>
  rw [if_pos rfl, Option.bind_some]
  obtain ⟨v, p2, st2, e2, v0, v1, r0, r1⟩ := spec_l1Cur_pick_d hs hl p1 st1 4 (by omega) (by omega) (by omega)
  rw [e2, Option.bind_some]
  dsimp only
  rw [if_pos v0, if_pos (by simp only [List.length_cons, List.length_nil]; omega)]
  refine ⟨_, _, _, _, _, rfl, ?_, by omega, by omega⟩
  have : v = 0 ∨ v = 1 ∨ v = 2 ∨ v = 3 := by omega
  rcases this with rfl | rfl | rfl | rfl <;> decide
 | false =>
  rw [if_neg (by simp)]
  obtain ⟨v, p2, st2, e2, v0, v1, r0, r1⟩ := spec_l1Cur_pick_d hs hl p1 st1 4 (by omega) (by omega) (by omega)
  rw [e2, Option.bind_some]
  obtain ⟨u, p3, st3, e3, u0, u1, r2, r3⟩ := spec_l1Cur_pick_d hs hl p2 st2 3 (by omega) (by omega) (by omega)
  dsimp only
  rw [e3, Option.bind_some]
  obtain ⟨z, p4, st4, e4, z0, z1, r4, r5⟩ := spec_l1Cur_pick_d hs hl p3 st3 3 (by omega) (by omega) (by omega)
  dsimp only
  rw [e4, Option.bind_some]
  dsimp only
  rw [w64 (by omega) (by omega) (x := 1 + v), w64 (by omega) (by omega) (x := 1 + u), w64 (by omega) (by omega) (x := 1 + z)]
  refine ⟨_, _, _, _, _, rfl, ?_, by omega, by omega⟩
  have hv : v = 0 ∨ v = 1 ∨ v = 2 ∨ v = 3 := by omega
  have hu : u = 0 ∨ u = 1 ∨ u = 2 := by omega
  have hz : z = 0 ∨ z = 1 ∨ z = 2 := by omega
  rcases hv with rfl | rfl | rfl | rfl <;> rcases hu with rfl | rfl | rfl <;> rcases hz with rfl | rfl | rfl <;> decide
theorem anyGridk_d {s : List Int} (hs : Bytes s) (hl : s.length ≤ 9223372036854775807) (p st : Int) (h0 : 0 ≤ p) (h1 : p ≤ 999998000) (k : Nat) :
  ∃ X Y Z p' st', spec_l1Cur_anyGrid.f (k + 1) s p st = some (X, Y, Z, p', st') ∧ p ≤ p' ∧ p' ≤ p + 16 := by
 unfold spec_l1Cur_anyGrid.f
 obtain ⟨X, Y, Z, p1, st1, e, hg, q0, q1⟩ := spec_l1Cur_grid_d hs hl p st h0 h1
 rw [e, Option.bind_some]
 dsimp only
 obtain ⟨v, p2, st2, e2, v0, v1, r0, r1⟩ := spec_l1Cur_pick_d hs hl p1 st1 30 (by omega) (by omega) (by omega)
 rw [e2, Option.bind_some]
 dsimp only
 have am : ∀ l : List Int, 1 ≤ l.length → l.length ≤ 1000 → ∃ v p' st', spec_l1Cur_among.f s p2 st2 l = some (v, p', st') ∧ v ∈ l ∧ p2 ≤ p' ∧ p' ≤ p2 + 2 := fun l a b => spec_l1Cur_among_d hs hl p2 st2 l (by omega) (by omega) a b
 simp only [spec_l1Cur_anyGrid.j0]
 by_cases c0 : v = 0
 ·obtain ⟨u, p3, st3, e3, _, r2, r3⟩ := am [0, 8, 9, (-1)] (by decide) (by decide)
  rw [if_pos c0, e3, Option.bind_some]; exact ⟨_, _, _, _, _, rfl, (by dsimp only; omega), (by dsimp only; omega)⟩
 ·rw [if_neg c0]
  by_cases c1 : v = 1
  ·obtain ⟨u, p3, st3, e3, _, r2, r3⟩ := am [0, 6, 7, (-1)] (by decide) (by decide)
   rw [if_pos c1, e3, Option.bind_some]; exact ⟨_, _, _, _, _, rfl, (by dsimp only; omega), (by dsimp only; omega)⟩
  ·rw [if_neg c1]
   by_cases c2 : v = 2
   ·obtain ⟨u, p3, st3, e3, _, r2, r3⟩ := am [0, 5, 6, (-1)] (by decide) (by decide)
    rw [if_pos c2, e3, Option.bind_some]; exact ⟨_, _, _, _, _, rfl, (by dsimp only; omega), (by dsimp only; omega)⟩
   ·rw [if_neg c2]
    by_cases c3 : v = 3
    ·obtain ⟨u, p3, st3, e3, _, r2, r3⟩ := am [2, 3] (by decide) (by decide)
     rw [if_pos c3, e3, Option.bind_some]; exact ⟨_, _, _, _, _, rfl, (by dsimp only; omega), (by dsimp only; omega)⟩
    ·rw [if_neg c3]
     by_cases c4 : v = 4
     ·rw [if_pos c4]; exact ⟨_, _, _, _, _, rfl, by omega, by omega⟩
     ·rw [if_neg c4]; exact ⟨_, _, _, _, _, rfl, by omega, by omega⟩
theorem spec_l1Cur_model_l {s : List Int} (hs : Bytes s) (hl : s.length ≤ 9223372036854775807) (X Y Z : Int) : ∀ (d k : Nat) (p st : Int) (t g r : List Int), d < k → d ≤ 1000 → 0 ≤ p → p + 10 * (d : Int) ≤ 999990000 → t.length ≤ 2000 → g.length ≤ 2000 → r.length ≤ 2000 → t.length + d ≤ 2000 → g.length + d ≤ 2000 → r.length + d ≤ 2000 →
  ∃ t' g' r' p' st', spec_l1Cur_model.l0 k (d : Int) s p st X Y Z t g r = some (X, Y, Z, t', g', r', p', st') ∧ t'.length = t.length + d ∧ g'.length = g.length + d ∧ r'.length = r.length + d ∧ p ≤ p' ∧ p' ≤ p + 10 * (d : Int) := by
 intro d
 induction d with
 | zero =>
  intro k p st t g r hk _ h0 h1 _ _ _ _ _ _
  obtain ⟨k, rfl⟩ := k_succ (by omega : 0 < k)
  rw [spec_l1Cur_model.l0, if_neg (by omega)]
  exact ⟨_, _, _, _, _, rfl, by omega, by omega, by omega, by omega, by omega⟩
 | succ d ih =>
  intro k p st t g r hk hd h0 h1 a1 a2 a3 b1 b2 b3
  obtain ⟨k, rfl⟩ := k_succ (by omega : 0 < k)
  rw [spec_l1Cur_model.l0, if_pos (by omega)]
  obtain ⟨v1, p1, st1, e1, _, _, q1, q1'⟩ := spec_l1Cur_pick_d hs hl p st 10001 h0 (by omega) (by omega)
  rw [e1, Option.bind_some]; dsimp only
  obtain ⟨v2, p2, st2, e2, _, q2, q2'⟩ := spec_l1Cur_among_d hs hl p1 st1 [0, 100, 100, 200, 500, 1000, v1] (by omega) (by omega) (by simp) (by simp)
  rw [e2, Option.bind_some]; dsimp only
  rw [if_pos (by omega)]
  obtain ⟨v3, p3, st3, e3, _, _, q3, q3'⟩ := spec_l1Cur_pick_d hs hl p2 st2 1001 (by omega) (by omega) (by omega)
  rw [e3, Option.bind_some]; dsimp only
  obtain ⟨v4, p4, st4, e4, _, q4, q4'⟩ := spec_l1Cur_among_d hs hl p3 st3 [0, 0, 5, 10, 20, 50, v3] (by omega) (by omega) (by simp) (by simp)
  rw [e4, Option.bind_some]; dsimp only
  rw [if_pos (by omega)]
  obtain ⟨v5, p5, st5, e5, _, _, q5, q5'⟩ := spec_l1Cur_pick_d hs hl p4 st4 5 (by omega) (by omega) (by omega)
  rw [e5, Option.bind_some]; dsimp only
  rw [if_pos (by omega), w64 (by omega) (by omega), show ((d + 1 : Nat) : Int) - 1 = (d : Int) by omega]
  obtain ⟨t', g', r', p', st', e, c1, c2, c3, c4, c5⟩ := ih k p5 st5 (t ++ [v2]) (g ++ [v4]) (r ++ [v5]) (by omega) (by omega) (by omega) (by omega) (by simp; omega) (by simp; omega) (by simp; omega) (by simp; omega) (by simp; omega) (by simp; omega)
  simp only [List.length_append, List.length_singleton] at c1 c2 c3
  exact ⟨t', g', r', p', st', e, by omega, by omega, by omega, by omega, by omega⟩
theorem spec_l1Cur_model_d {s : List Int} (hs : Bytes s) (hl : s.length ≤ 9223372036854775807) (p st : Int) (h0 : 0 ≤ p) (h1 : p ≤ 900000000) {k : Nat} (hk : 200 < k) :
  ∃ X Y Z t g r p' st', spec_l1Cur_model.f k s p st = some (X, Y, Z, t, g, r, p', st') ∧ gridB X Y Z = true ∧ (t.length : Int) = X * Y * Z ∧ g.length = t.length ∧ r.length = t.length ∧ 1 ≤ t.length ∧ t.length ≤ 120 ∧ p ≤ p' ∧ p' ≤ p + 2000 := by
 unfold spec_l1Cur_model.f
 obtain ⟨X, Y, Z, p1, st1, e, hg, q0, q1⟩ := spec_l1Cur_grid_d hs hl p st h0 (by omega)
 have hp := grid_pos hg
 obtain ⟨n, hn⟩ : ∃ n : Nat, X * Y * Z = (n : Int) := ⟨(X * Y * Z).toNat, by omega⟩
 rw [e, Option.bind_some]; dsimp only
 rw [spec_grCount_v hg, Option.bind_some, hn]
 obtain ⟨t, g, r, p', st', e2, c1, c2, c3, c4, c5⟩ := spec_l1Cur_model_l hs hl X Y Z n k p1 st1 [] [] [] (by omega) (by omega) (by omega) (by omega) (by simp) (by simp) (by simp) (by simp; omega) (by simp; omega) (by simp; omega)
 simp only [List.length_nil, Nat.zero_add] at c1 c2 c3
 exact ⟨X, Y, Z, t, g, r, p', st', e2, hg, by omega, by omega, by omega, by omega, by omega, by omega, by omega⟩
theorem spec_l1Cur_anyModel_d {s : List Int} (hs : Bytes s) (hl : s.length ≤ 9223372036854775807) (p st : Int) (h0 : 0 ≤ p) (h1 : p ≤ 900000000) {k : Nat} (hk : 200 < k) :
  ∃ X Y Z t g r p' st', spec_l1Cur_anyModel.f k s p st = some (X, Y, Z, t, g, r, p', st') ∧ t.length ≤ 200 ∧ g.length ≤ 200 ∧ r.length ≤ 200 ∧ p ≤ p' ∧ p' ≤ p + 3000 := by
 obtain ⟨k, rfl⟩ : ∃ m, k = m + 7 := ⟨k - 7, by omega⟩
 unfold spec_l1Cur_anyModel.f
 obtain ⟨X, Y, Z, t, g, r, p1, st1, e, hg, hn, hgl, hrl, hp0, hp1, q0, q1⟩ := spec_l1Cur_model_d hs hl p st h0 h1 hk
 rw [e, Option.bind_some]; dsimp only
 rw [spec_grCount_v hg, Option.bind_some]
 obtain ⟨v, p2, st2, e2, v0, v1, q2, q2'⟩ := spec_l1Cur_pick_d hs hl p1 st1 30 (by omega) (by omega) (by omega)
 rw [e2, Option.bind_some]; dsimp only
 by_cases c0 : v = 0
 ·rw [if_pos c0]
  obtain ⟨X', Y', Z', p3, st3, e3, q3, q3'⟩ := anyGridk_d hs hl p2 st2 (by omega) (by omega) (k + 6)
  rw [e3, Option.bind_some]
  dsimp only
  exact ⟨X', Y', Z', t, g, r, p3, st3, by simp only [spec_l1Cur_anyModel.j0], by omega, by omega, by omega, by omega, by omega⟩
 ·rw [if_neg c0]
  by_cases c1 : v = 1
  ·rw [if_pos c1]
   obtain ⟨u, p3, st3, e3, u0, u1, q3, q3'⟩ := spec_l1Cur_pick_d hs hl p2 st2 (X * Y * Z) (by omega) (by omega) (by omega)
   rw [e3, Option.bind_some]; dsimp only
   obtain ⟨y, p4, st4, e4, _, q4, q4'⟩ := spec_l1Cur_among_d hs hl p3 st3 [(-1), 10000, 10001] (by omega) (by omega) (by simp) (by simp)
   rw [e4, Option.bind_some]; dsimp only
   rw [if_pos u0, if_pos (by omega)]
   exact ⟨X, Y, Z, t.set u.toNat y, g, r, p4, st4, by simp only [spec_l1Cur_anyModel.j0], by simp; omega, by omega, by omega, by omega, by omega⟩
  ·rw [if_neg c1]
   by_cases c2 : v = 2
   ·rw [if_pos c2]
    obtain ⟨u, p3, st3, e3, u0, u1, q3, q3'⟩ := spec_l1Cur_pick_d hs hl p2 st2 (X * Y * Z) (by omega) (by omega) (by omega)
    rw [e3, Option.bind_some]; dsimp only
    obtain ⟨y, p4, st4, e4, _, q4, q4'⟩ := spec_l1Cur_among_d hs hl p3 st3 [(-1), 1000, 1001] (by omega) (by omega) (by simp) (by simp)
    rw [e4, Option.bind_some]; dsimp only
    rw [if_pos u0, if_pos (by omega)]
    exact ⟨X, Y, Z, t, g.set u.toNat y, r, p4, st4, by simp only [spec_l1Cur_anyModel.j0], by omega, by simp; omega, by omega, by omega, by omega⟩
   ·rw [if_neg c2]
    by_cases c3 : v = 3
    ·rw [if_pos c3]
     obtain ⟨u, p3, st3, e3, u0, u1, q3, q3'⟩ := spec_l1Cur_pick_d hs hl p2 st2 (X * Y * Z) (by omega) (by omega) (by omega)
     rw [e3, Option.bind_some]; dsimp only
     obtain ⟨y, p4, st4, e4, _, q4, q4'⟩ := spec_l1Cur_among_d hs hl p3 st3 [(-1), 4, 5] (by omega) (by omega) (by simp) (by simp)
     rw [e4, Option.bind_some]; dsimp only
     rw [if_pos u0, if_pos (by omega)]
     exact ⟨X, Y, Z, t, g, r.set u.toNat y, p4, st4, by simp only [spec_l1Cur_anyModel.j0], by omega, by omega, by simp; omega, by omega, by omega⟩
    ·rw [if_neg c3]
     by_cases c4 : v = 4
     ·rw [if_pos c4, if_pos (by omega)]
      exact ⟨X, Y, Z, t, g, r ++ [0], p2, st2, by simp only [spec_l1Cur_anyModel.j0], by omega, by omega, by simp; omega, by omega, by omega⟩
     ·rw [if_neg c4]
      exact ⟨X, Y, Z, t, g, r, p2, st2, by simp only [spec_l1Cur_anyModel.j0], by omega, by omega, by omega, by omega, by omega⟩
theorem spec_sbOf_v {X Y Z : Int} {t g r : List Int} (h : IsMod X Y Z t g r) {i : Int} (h0 : 0 ≤ i) (h1 : i < (t.length : Int)) : spec_sbOf.f X Y Z t g r i = some (rd t i, rd t i * rd g i, rd r i) := by
 have := h.lr
 unfold spec_sbOf.f
 rw [if_pos h0, if_pos h1, spec_moMetal_v h h0 h1, Option.bind_some, if_pos (by omega)]
def pcB (p : S29) : Bool := pieceB p.f0 p.f1 p.f2
def plist (l : List S29) : Bool := decide (1 ≤ l.length ∧ l.length ≤ 20) && l.all pcB
structure IsPl (l : List S29) : Prop where
 pos : 1 ≤ l.length
 le : l.length ≤ 20
 all : ∀ p ∈ l, pieceB p.f0 p.f1 p.f2 = true
theorem plist_t {l : List S29} (h : plist l = true) : IsPl l := by
 unfold plist at h
 rw [Bool.and_eq_true, decide_eq_true_eq, List.all_eq_true] at h
 exact ⟨h.1.1, h.1.2, h.2⟩
theorem pl_drop {l : List S29} {i : Nat} (h : i < l.length) : l.drop i = rd_T29 l (i : Int) :: l.drop (i + 1) := by
 unfold rd_T29
 rw [show ((i : Int) : Int).toNat = i by omega, List.drop_eq_getElem_cons h, List.getD_eq_getElem?_getD, List.getElem?_eq_getElem h]; rfl
theorem pl_mem {l : List S29} {i : Nat} (h : i < l.length) : rd_T29 l (i : Int) ∈ l := by
 unfold rd_T29
 rw [show ((i : Int) : Int).toNat = i by omega, List.getD_eq_getElem?_getD, List.getElem?_eq_getElem h]
 exact List.getElem_mem _
theorem spec_sbList_l (l : List S29) (hn : l.length ≤ 1048576) : ∀ (d k i : Nat), i + d = l.length → d < k →
  spec_sbList.l0 k l l (l.length : Int) (i : Int) = some (decide (1 ≤ l.length ∧ l.length ≤ 20) && (l.drop i).all pcB) := by
 intro d
 induction d with
 | zero =>
  intro k i hi hk
  obtain ⟨k, rfl⟩ := k_succ (by omega : 0 < k)
  simp only [spec_sbList.l0]
  rw [if_neg (by omega), List.drop_eq_nil_of_le (by omega), spec_l1In_v]
  simp only [Option.bind_some, List.all_nil, Bool.and_true]
  congr 1
  rw [decide_eq_decide]; omega
 | succ d ih =>
  intro k i hi hk
  obtain ⟨k, rfl⟩ := k_succ (by omega : 0 < k)
  simp only [spec_sbList.l0]
  rw [if_pos (by omega), if_pos (by omega), if_pos (by omega), w64_succ (by omega), ih k (i + 1) (by omega) (by omega), spec_sbPiece_v, Option.bind_some, pl_drop (by omega : i < l.length), List.all_cons]
  show (if pcB (rd_T29 l (i : Int)) = true then _ else _) = _
  cases pcB (rd_T29 l (i : Int)) <;> simp
theorem spec_sbList_v (l : List S29) (hn : l.length ≤ 1048576) {k : Nat} (hk : 1048576 < k) : spec_sbList.f k l = some (plist l) := by
 unfold spec_sbList.f plist
 simpa using spec_sbList_l l hn l.length k 0 (by omega) (by omega)
theorem impl_arePieces_l (l : List S29) (hn : l.length ≤ 1048576) : ∀ (d k i : Nat), i + d = l.length → d < k →
  impl_arePieces.l0 k l (l.length : Int) (i : Int) = some ((l.drop i).all pcB) := by
 intro d
 induction d with
 | zero =>
  intro k i hi hk
  obtain ⟨k, rfl⟩ := k_succ (by omega : 0 < k)
  simp only [impl_arePieces.l0]
  rw [if_neg (by omega), List.drop_eq_nil_of_le (by omega)]
  rfl
 | succ d ih =>
  intro k i hi hk
  obtain ⟨k, rfl⟩ := k_succ (by omega : 0 < k)
  simp only [impl_arePieces.l0]
  rw [if_pos (by omega), if_pos (by omega), if_pos (by omega), w64_succ (by omega), ih k (i + 1) (by omega) (by omega), impl_IsPiece_v, Option.bind_some, pl_drop (by omega : i < l.length), List.all_cons]
  show (if pcB (rd_T29 l (i : Int)) = true then _ else _) = _
  cases pcB (rd_T29 l (i : Int)) <;> simp
theorem impl_arePieces_v (l : List S29) (hn : l.length ≤ 1048576) {k : Nat} (hk : 1048577 < k) : impl_arePieces.f k l = some (plist l) := by
 obtain ⟨k, rfl⟩ := k_succ (by omega : 0 < k)
 unfold impl_arePieces.f plist
 by_cases h : (l.length : Int) < 1
 ·rw [if_pos h, impl_arePieces.j0, if_pos rfl, decide_eq_false (by omega), Bool.false_and]
 ·rw [if_neg h]
  by_cases h2 : (l.length : Int) > 20
  ·rw [decide_eq_true h2, impl_arePieces.j0, if_pos rfl, decide_eq_false (by omega), Bool.false_and]
  ·rw [decide_eq_false h2, impl_arePieces.j0, if_neg (by decide), decide_eq_true (by omega), Bool.true_and]
   simpa using impl_arePieces_l l hn l.length k 0 (by omega) (by omega)
theorem spec_sbJoin_l1 (x : List Int) (hx : x.length = 5) : ∀ (d k i : Nat) (a b c : Int), i + d = 5 → d < k → 0 ≤ c → c ≤ 4 →
  ∃ c', spec_sbJoin.l1 k x x 5 (i : Int) a b c = some (a, b, c') ∧ 0 ≤ c' ∧ c' ≤ 4 := by
 intro d
 induction d with
 | zero =>
  intro k i a b c hi hk h0 h1
  obtain ⟨k, rfl⟩ := k_succ (by omega : 0 < k)
  simp only [spec_sbJoin.l1]
  rw [if_neg (by omega)]
  exact ⟨c, rfl, h0, h1⟩
 | succ d ih =>
  intro k i a b c hi hk h0 h1
  obtain ⟨k, rfl⟩ := k_succ (by omega : 0 < k)
  simp only [spec_sbJoin.l1]
  rw [if_pos (by omega), if_pos (by omega), if_pos (by omega), if_pos h0, if_pos (by omega), w64_succ (by omega)]
  by_cases h : rd x (i : Int) > rd x c
  ·rw [if_pos h]; exact ih k (i + 1) a b i (by omega) (by omega) (by omega) (by omega)
  ·rw [if_neg h]; exact ih k (i + 1) a b c (by omega) (by omega) h0 h1
theorem spec_sbJoin_l0 (l : List S29) (h : IsPl l) : ∀ (d k i : Nat) (x : List Int) (a b : Int), i + d = l.length → d + 6 < k → x.length = 5 → 0 ≤ a → a ≤ 10000 * (i : Int) → 0 ≤ b → b ≤ 1000 * a →
  ∃ T M R, spec_sbJoin.l0 k x l (l.length : Int) (i : Int) a b 0 = some (T, M, R) ∧ 0 ≤ T ∧ T ≤ 200000 ∧ 0 ≤ M ∧ M ≤ 1000 * T ∧ 0 ≤ R ∧ R ≤ 4 := by
 have hle := h.le
 intro d
 induction d with
 | zero =>
  intro k i x a b hi hk hx h0 h1 h2 h3
  obtain ⟨k, rfl⟩ := k_succ (by omega : 0 < k)
  simp only [spec_sbJoin.l0]
  rw [if_neg (by omega)]
  obtain ⟨c', e, g0, g1⟩ := spec_sbJoin_l1 x hx 5 k 0 a b 0 (by omega) (by omega) (by omega) (by omega)
  rw [show ((x.length : Nat) : Int) = 5 by omega]
  exact ⟨a, b, c', e, h0, by omega, h2, h3, g0, g1⟩
 | succ d ih =>
  intro k i x a b hi hk hx h0 h1 h2 h3
  obtain ⟨k, rfl⟩ := k_succ (by omega : 0 < k)
  have hp := pieceB_t (h.all _ (pl_mem (by omega : i < l.length)))
  simp only [spec_sbJoin.l0]
  rw [if_pos (by omega), if_pos (by omega), if_pos (by omega), if_pos hp.2.2.2.2.1, if_pos (by omega), w64_succ (by omega), w64 (x := a + _) (by omega) (by omega), w64 (x := b + _) (by omega) (by omega)]
  exact ih k (i + 1) _ _ _ (by omega) (by omega) (by simpa using hx) (by omega) (by omega) (by omega) (by omega)
theorem spec_sbJoin_v (l : List S29) (h : IsPl l) {k : Nat} (hk : 40 < k) : ∃ T M R, spec_sbJoin.f k l = some (T, M, R) ∧ 0 ≤ T ∧ T ≤ 200000 ∧ 0 ≤ M ∧ M ≤ 1000 * T ∧ 0 ≤ R ∧ R ≤ 4 := by
 have hle := h.le
 unfold spec_sbJoin.f
 rw [if_pos (by decide)]
 exact spec_sbJoin_l0 l h l.length k 0 _ 0 0 (by omega) (by omega) (by simp) (by omega) (by omega) (by omega) (by omega)
def joinFin (p : Int × Int × Int) : Int × Int × Int × Bool := if p.1 > 10000 then (0, 0, 0, false) else (p.1, p.2.1, p.2.2, true)
theorem impl_joinPieces_l1 (x : List Int) (hx : x.length = 5) : ∀ (k : Nat) (i a b c : Int), impl_joinPieces.l1 k x i a b c = (spec_sbJoin.l1 k x x 5 i a b c).map joinFin := by
 intro k
 induction k with
 | zero => intro i a b c; rfl
 | succ k ih =>
  intro i a b c
  simp only [impl_joinPieces.l1, spec_sbJoin.l1, hx, ih, show ((5 : Nat) : Int) = 5 from rfl]
  by_cases h : i < 5
  ·rw [if_pos h, if_pos h, if_pos h]
   split
   ·split
    ·split
     ·split <;> rfl
     ·rfl
    ·rfl
   ·rfl
  ·rw [if_neg h, if_neg h]
   show _ = some (joinFin (a, b, c))
   unfold joinFin
   split <;> rfl
theorem impl_joinPieces_l0 (l : List S29) (n : Int) : ∀ (k : Nat) (x : List Int) (i a b c : Int), x.length = 5 → impl_joinPieces.l0 k x l n i a b c = (spec_sbJoin.l0 k x l n i a b c).map joinFin := by
 intro k
 induction k with
 | zero => intro x i a b c hx; rfl
 | succ k ih =>
  intro x i a b c hx
  simp only [impl_joinPieces.l0, spec_sbJoin.l0, hx, show ((5 : Nat) : Int) = 5 from rfl]
  rw [ih _ _ _ _ _ (by simpa using hx), impl_joinPieces_l1 x hx]
  split
  ·split
   ·split
    ·split
     ·split <;> rfl
     ·rfl
    ·rfl
   ·rfl
  ·rfl
theorem impl_joinPieces_v (k : Nat) (l : List S29) : impl_joinPieces.f k l = (spec_sbJoin.f k l).map joinFin := by
 unfold impl_joinPieces.f spec_sbJoin.f
 rw [if_pos (by decide)]
 exact impl_joinPieces_l0 l _ k _ _ _ _ _ (by simp)
theorem joinPieces_v (l : List S29) (hl : l.length ≤ 1048576) {k : Nat} (hk : 1048577 < k) : ∃ r, spec_JoinPieces.f k l = some r ∧ impl_JoinPieces.f k l = some r := by
 unfold spec_JoinPieces.f impl_JoinPieces.f
 rw [spec_sbList_v l hl (by omega), impl_arePieces_v l hl hk]
 cases h : plist l with
 | false => exact ⟨(0, 0, 0, false), by simp, by simp⟩
 | true =>
  have hp := plist_t h
  obtain ⟨T, M, R, e, h0, h1, h2, h3, h4, h5⟩ := spec_sbJoin_v l hp (by omega : 40 < k)
  simp only [Option.bind_some, if_true, impl_joinPieces_v, e, Option.map_some, spec_sbPiece_v, joinFin]
  by_cases hT : T > 10000
  ·rw [show pieceB T M R = false by unfold pieceB; rw [decide_eq_false_iff_not]; omega, if_pos hT]
   exact ⟨(0, 0, 0, false), by simp, by simp⟩
  ·rw [show pieceB T M R = true by unfold pieceB; rw [decide_eq_true_eq]; omega, if_neg hT]
   exact ⟨(T, M, R, true), by simp, by simp⟩
structure Okl (l : List S29) : Prop where
 le : l.length ≤ 120
 all : ∀ p ∈ l, pieceB p.f0 p.f1 p.f2 = true
def sT (l : List S29) : Int := (l.map fun p => p.f0).sum
def sM (l : List S29) : Int := (l.map fun p => p.f1).sum
theorem sT_cons (p : S29) (l : List S29) : sT (p :: l) = p.f0 + sT l := by simp [sT]
theorem sM_cons (p : S29) (l : List S29) : sM (p :: l) = p.f1 + sM l := by simp [sM]
theorem sj_bd0 : ∀ (l : List S29), (∀ p ∈ l, pieceB p.f0 p.f1 p.f2 = true) → 0 ≤ sT l ∧ sT l ≤ 10000 * (l.length : Int) ∧ 0 ≤ sM l ∧ sM l ≤ 1000 * sT l
 | [], _ => by simp [sT, sM]
 | p :: l, h => by
  have h1 := pieceB_t (h p (by simp))
  have h2 := sj_bd0 l (fun q hq => h q (by simp [hq]))
  rw [sT_cons, sM_cons, List.length_cons]
  omega
theorem sj_bd {l : List S29} (h : Okl l) : 0 ≤ sT l ∧ sT l ≤ 1200000 ∧ 0 ≤ sM l ∧ sM l ≤ 1000 * sT l := by
 have := sj_bd0 l h.all
 have := h.le
 omega
theorem sj_drop {l : List S29} {i : Nat} (h : i < l.length) : l.drop i = rd_T29 l (i : Int) :: l.drop (i + 1) := by
 unfold rd_T29
 rw [show ((i : Int) : Int).toNat = i by omega, List.drop_eq_getElem_cons h, List.getD_eq_getElem?_getD, List.getElem?_eq_getElem h]; rfl
theorem sj_mem {l : List S29} {i : Nat} (h : i < l.length) : rd_T29 l (i : Int) ∈ l := by
 unfold rd_T29
 rw [show ((i : Int) : Int).toNat = i by omega, List.getD_eq_getElem?_getD, List.getElem?_eq_getElem h]
 exact List.getElem_mem _
theorem sj_l1 (x : List Int) (hx : x.length = 5) : ∀ (d i : Nat) (a b c : Int), i + d = 5 → 0 ≤ c → c ≤ 4 →
  ∃ c', 0 ≤ c' ∧ c' ≤ 4 ∧ ∀ k, d < k → spec_sbJoin.l1 k x x 5 (i : Int) a b c = some (a, b, c') := by
 intro d
 induction d with
 | zero =>
  intro i a b c hi h0 h1
  refine ⟨c, h0, h1, fun k hk => ?_⟩
  obtain ⟨k, rfl⟩ := k_succ (by omega : 0 < k)
  simp only [spec_sbJoin.l1]
  rw [if_neg (by omega)]
 | succ d ih =>
  intro i a b c hi h0 h1
  by_cases h : rd x (i : Int) > rd x c
  ·obtain ⟨c', g0, g1, e⟩ := ih (i + 1) a b i (by omega) (by omega) (by omega)
   refine ⟨c', g0, g1, fun k hk => ?_⟩
   obtain ⟨k, rfl⟩ := k_succ (by omega : 0 < k)
   simp only [spec_sbJoin.l1]
   rw [if_pos (by omega), if_pos (by omega), if_pos (by omega), if_pos h0, if_pos (by omega), w64_succ (by omega), if_pos h]
   exact e k (by omega)
  ·obtain ⟨c', g0, g1, e⟩ := ih (i + 1) a b c (by omega) h0 h1
   refine ⟨c', g0, g1, fun k hk => ?_⟩
   obtain ⟨k, rfl⟩ := k_succ (by omega : 0 < k)
   simp only [spec_sbJoin.l1]
   rw [if_pos (by omega), if_pos (by omega), if_pos (by omega), if_pos h0, if_pos (by omega), w64_succ (by omega), if_neg h]
   exact e k (by omega)
theorem sj_l0 (l : List S29) (h : Okl l) : ∀ (d i : Nat) (x : List Int) (a b : Int), i + d = l.length → x.length = 5 → 0 ≤ a → a ≤ 10000 * (i : Int) → 0 ≤ b → b ≤ 1000 * a →
  ∃ R, 0 ≤ R ∧ R ≤ 4 ∧ ∀ k, d + 6 < k → spec_sbJoin.l0 k x l (l.length : Int) (i : Int) a b 0 = some (a + sT (l.drop i), b + sM (l.drop i), R) := by
 have hle := h.le
 intro d
 induction d with
 | zero =>
  intro i x a b hi hx h0 h1 h2 h3
  obtain ⟨c', g0, g1, e⟩ := sj_l1 x hx 5 0 a b 0 (by omega) (by omega) (by omega)
  refine ⟨c', g0, g1, fun k hk => ?_⟩
  obtain ⟨k, rfl⟩ := k_succ (by omega : 0 < k)
  simp only [spec_sbJoin.l0]
  rw [if_neg (by omega), List.drop_eq_nil_of_le (by omega), show ((x.length : Nat) : Int) = 5 by omega]
  have := e k (by omega)
  simpa [sT, sM] using this
 | succ d ih =>
  intro i x a b hi hx h0 h1 h2 h3
  have hp := pieceB_t (h.all _ (sj_mem (by omega : i < l.length)))
  obtain ⟨R, g0, g1, e⟩ := ih (i + 1) (x.set ((rd_T29 l (i : Int)).f2).toNat (wrap64 (rd x (rd_T29 l (i : Int)).f2 + (rd_T29 l (i : Int)).f0))) (a + (rd_T29 l (i : Int)).f0) (b + (rd_T29 l (i : Int)).f1) (by omega) (by simpa using hx) (by omega) (by omega) (by omega) (by omega)
  refine ⟨R, g0, g1, fun k hk => ?_⟩
  obtain ⟨k, rfl⟩ := k_succ (by omega : 0 < k)
  simp only [spec_sbJoin.l0]
  rw [if_pos (by omega), if_pos (by omega), if_pos (by omega), if_pos hp.2.2.2.2.1, if_pos (by omega), w64_succ (by omega), w64 (x := a + _) (by omega) (by omega), w64 (x := b + _) (by omega) (by omega), e k (by omega), sj_drop (by omega : i < l.length), sT_cons, sM_cons, Int.add_assoc, Int.add_assoc]
def joinR (l : List S29) : Int := ((spec_sbJoin.f 200 l).getD (0, 0, 0)).2.2
theorem sj_v {l : List S29} (h : Okl l) : (0 ≤ joinR l ∧ joinR l ≤ 4) ∧ ∀ k, 130 < k → spec_sbJoin.f k l = some (sT l, sM l, joinR l) := by
 have hle := h.le
 obtain ⟨R, g0, g1, e⟩ := sj_l0 l h l.length 0 (List.replicate 5 0) 0 0 (by omega) (by simp) (by omega) (by omega) (by omega) (by omega)
 have e' : ∀ k, 130 < k → spec_sbJoin.f k l = some (sT l, sM l, R) := by
  intro k hk
  unfold spec_sbJoin.f
  rw [if_pos (by decide)]
  have := e k (by omega)
  simpa using this
 have eR : joinR l = R := by unfold joinR; rw [e' 200 (by omega)]; rfl
 rw [eR]
 exact ⟨⟨g0, g1⟩, e'⟩
theorem roundV_bd {T M R : Int} (h : pieceB T M R = true) : 0 ≤ roundV T M ∧ roundV T M ≤ 1000 := by
 obtain ⟨h1, h2, h3, h4, h5, h6⟩ := pieceB_t h
 unfold roundV
 split
 ·omega
 ·have hn : 0 ≤ (2 * M + T - 1) / (2 * T) := Int.ediv_nonneg (by omega) (by omega)
  have : (2 * M + T - 1) / (2 * T) < 1001 := Int.ediv_lt_of_lt_mul (by omega) (by omega)
  omega
def pcI (t g r : List Int) (i : Int) : S29 := ⟨rd t i, rd t i * rd g i, rd r i⟩
theorem pcI_ok {X Y Z : Int} {t g r : List Int} (h : IsMod X Y Z t g r) {i : Int} (h0 : 0 ≤ i) (h1 : i < (t.length : Int)) : pieceB (pcI t g r i).f0 (pcI t g r i).f1 (pcI t g r i).f2 = true := by
 have a := h.rt h0 h1; have b := h.rg h0 h1; have c := h.rr h0 h1; have m := h.rm h0 h1
 have e : rd t i * rd g i ≤ rd t i * 1000 := Int.mul_le_mul_of_nonneg_left b.2 a.1
 unfold pieceB pcI
 exact decide_eq_true ⟨a.1, a.2, m.1, by show rd t i * rd g i ≤ 1000 * rd t i; omega, c.1, c.2⟩
def grpD (X Y : Int) (t g r : List Int) (q : Int) : Nat → Nat → List S29
 | _, 0 => []
 | i, d + 1 => if coarseV X Y (i : Int) = q then pcI t g r (i : Int) :: grpD X Y t g r q (i + 1) d else grpD X Y t g r q (i + 1) d
theorem grpD_len (X Y : Int) (t g r : List Int) (q : Int) : ∀ (d i : Nat), (grpD X Y t g r q i d).length ≤ d
 | 0, i => by simp [grpD]
 | d + 1, i => by
  have := grpD_len X Y t g r q d (i + 1)
  unfold grpD
  split
  ·rw [List.length_cons]; omega
  ·omega
theorem grpD_ok {X Y Z : Int} {t g r : List Int} (h : IsMod X Y Z t g r) (q : Int) : ∀ (d i : Nat), i + d ≤ t.length → ∀ p ∈ grpD X Y t g r q i d, pieceB p.f0 p.f1 p.f2 = true
 | 0, i, _, p, hp => by simp [grpD] at hp
 | d + 1, i, hi, p, hp => by
  have ih := grpD_ok h q d (i + 1) (by omega)
  unfold grpD at hp
  split at hp
  ·rcases List.mem_cons.1 hp with rfl | hp
   ·exact pcI_ok h (by omega) (by omega)
   ·exact ih p hp
  ·exact ih p hp
def grp (X Y : Int) (t g r : List Int) (q : Int) : List S29 := grpD X Y t g r q 0 t.length
theorem grp_ok {X Y Z : Int} {t g r : List Int} (h : IsMod X Y Z t g r) (q : Int) : Okl (grp X Y t g r q) := by
 have := h.le
 have := grpD_len X Y t g r q t.length 0
 exact ⟨by unfold grp; omega, grpD_ok h q t.length 0 (by omega)⟩
def remS (f : Int → Int) : Int → Nat → Int
 | _, 0 => 0
 | q, d + 1 => f q + remS f (q + 1) d
theorem remS_zero : ∀ (d : Nat) (q : Int), remS (fun _ => 0) q d = 0
 | 0, q => rfl
 | d + 1, q => by unfold remS; rw [remS_zero d (q + 1)]; rfl
theorem remS_add (f g : Int → Int) : ∀ (d : Nat) (q : Int), remS (fun q => f q + g q) q d = remS f q d + remS g q d
 | 0, q => rfl
 | d + 1, q => by unfold remS; rw [remS_add f g d (q + 1)]; omega
theorem remS_ite (c m : Int) : ∀ (d : Nat) (q : Int), remS (fun q => if c = q then m else 0) q d = if q ≤ c ∧ c < q + (d : Int) then m else 0
 | 0, q => by rw [if_neg (by omega)]; rfl
 | d + 1, q => by
  unfold remS
  rw [remS_ite c m d (q + 1)]
  by_cases e : c = q
  ·rw [if_pos e, if_neg (by omega), if_pos (by omega)]; omega
  ·rw [if_neg e]
   by_cases h : q + 1 ≤ c ∧ c < q + 1 + (d : Int)
   ·rw [if_pos h, if_pos (by omega)]; omega
   ·rw [if_neg h, if_neg (by omega)]; rfl
def totM (t g : List Int) : Nat → Nat → Int
 | _, 0 => 0
 | i, d + 1 => rd t (i : Int) * rd g (i : Int) + totM t g (i + 1) d
theorem part (X Y : Int) (t g r : List Int) (n : Nat) : ∀ (d i : Nat), (∀ j : Nat, i ≤ j → j < i + d → 0 ≤ coarseV X Y (j : Int) ∧ coarseV X Y (j : Int) < (n : Int)) → remS (fun q => sM (grpD X Y t g r q i d)) 0 n = totM t g i d
 | 0, i, _ => by simpa [grpD, sM, totM] using remS_zero n 0
 | d + 1, i, h => by
  have ih := part X Y t g r n d (i + 1) (fun j h1 h2 => h j (by omega) (by omega))
  have hc := h i (by omega) (by omega)
  have e : (fun q => sM (grpD X Y t g r q i (d + 1))) = fun q => (if coarseV X Y (i : Int) = q then rd t (i : Int) * rd g (i : Int) else 0) + sM (grpD X Y t g r q (i + 1) d) := by
   funext q
   show sM (if coarseV X Y (i : Int) = q then pcI t g r (i : Int) :: grpD X Y t g r q (i + 1) d else grpD X Y t g r q (i + 1) d) = _
   by_cases hq : coarseV X Y (i : Int) = q
   ·rw [if_pos hq, if_pos hq, sM_cons]; rfl
   ·rw [if_neg hq, if_neg hq]; omega
  rw [e, remS_add (fun q => if coarseV X Y (i : Int) = q then rd t (i : Int) * rd g (i : Int) else 0) (fun q => sM (grpD X Y t g r q (i + 1) d)), remS_ite, if_pos (by omega), ih]
  rfl
theorem coarseV_bd {X Y Z i : Int} (h : hasB X Y Z i = true) : 0 ≤ coarseV X Y i ∧ coarseV X Y i < (X + 1) / 2 * ((Y + 1) / 2) * Z := by
 obtain ⟨hg, hi, hi'⟩ := hasB_t h
 obtain ⟨h1, h2, h3, h4, h5, h6, h7⟩ := gridB_t hg
 obtain ⟨⟨p1, p2⟩, ⟨p3, p4⟩, ⟨p5, p6⟩, p7, p8⟩ := place_bd h
 unfold coarseV
 have a0 : 0 ≤ i / X / Y * ((Y + 1) / 2) := Int.mul_nonneg p5 (by omega)
 have a1 : i / X / Y * ((Y + 1) / 2) ≤ (Z - 1) * ((Y + 1) / 2) := Int.mul_le_mul_of_nonneg_right (by omega) (by omega)
 rw [Int.sub_mul, Int.one_mul] at a1
 have b0 : 0 ≤ (i / X / Y * ((Y + 1) / 2) + i / X % Y / 2) * ((X + 1) / 2) := Int.mul_nonneg (by omega) (by omega)
 have b1 : (i / X / Y * ((Y + 1) / 2) + i / X % Y / 2) * ((X + 1) / 2) ≤ (Z * ((Y + 1) / 2) - 1) * ((X + 1) / 2) := Int.mul_le_mul_of_nonneg_right (by omega) (by omega)
 rw [Int.sub_mul, Int.one_mul] at b1
 have e : (X + 1) / 2 * ((Y + 1) / 2) * Z = Z * ((Y + 1) / 2) * ((X + 1) / 2) := by
  rw [Int.mul_comm _ Z, Int.mul_comm ((X + 1) / 2), ← Int.mul_assoc]
 rw [e]
 omega
theorem coarse_grid {X Y Z : Int} (h : gridB X Y Z = true) : gridB ((X + 1) / 2) ((Y + 1) / 2) Z = true := by
 obtain ⟨h1, h2, h3, h4, h5, h6, h7⟩ := gridB_t h
 have a := mul_bd (by omega : 0 ≤ (X + 1) / 2) (by omega : (X + 1) / 2 ≤ 4) (by omega : 0 ≤ (Y + 1) / 2) (by omega : (Y + 1) / 2 ≤ 3)
 have b := mul_bd a.1 a.2 (by omega : 0 ≤ Z) h6
 exact decide_eq_true ⟨by omega, by omega, by omega, by omega, by omega, by omega, by omega⟩
def coF (x y z : Int) (G : Int → List S29) : Nat → Int → Int → List Int → List Int → List Int → Int × Int × Int × List Int × List Int × List Int × Int × Bool
 | 0, _, gap, a, b, c => (x, y, z, a, b, c, gap, true)
 | d + 1, q, gap, a, b, c => if sT (G q) > 10000 then (0, 0, 0, [], [], [], 0, false) else coF x y z G d (q + 1) (gap + (sT (G q) * roundV (sT (G q)) (sM (G q)) - sM (G q))) (a ++ [sT (G q)]) (b ++ [roundV (sT (G q)) (sM (G q))]) (c ++ [joinR (G q)])
theorem coF_is (x y z : Int) (G : Int → List S29) : ∀ (d : Nat) (q gap : Int) (a b c : List Int) (n : Nat), a.length ≤ n → b.length ≤ n → c.length ≤ n → ∃ X' Y' Z' t' g' r' s o, coF x y z G d q gap a b c = (X', Y', Z', t', g', r', s, o) ∧ t'.length ≤ n + d ∧ g'.length ≤ n + d ∧ r'.length ≤ n + d
 | 0, q, gap, a, b, c, n, h1, h2, h3 => ⟨_, _, _, _, _, _, _, _, rfl, by omega, by omega, by omega⟩
 | d + 1, q, gap, a, b, c, n, h1, h2, h3 => by
  unfold coF
  split
  ·exact ⟨_, _, _, _, _, _, _, _, rfl, by simp, by simp, by simp⟩
  ·obtain ⟨X', Y', Z', t', g', r', s, o, e, g1, g2, g3⟩ := coF_is x y z G d (q + 1) (gap + (sT (G q) * roundV (sT (G q)) (sM (G q)) - sM (G q))) (a ++ [sT (G q)]) (b ++ [roundV (sT (G q)) (sM (G q))]) (c ++ [joinR (G q)]) (n + 1) (by simp; omega) (by simp; omega) (by simp; omega)
   exact ⟨X', Y', Z', t', g', r', s, o, e, by omega, by omega, by omega⟩
theorem join_piece {l : List S29} (h : Okl l) (hT : ¬ sT l > 10000) : pieceB (sT l) (sM l) (joinR l) = true := by
 have := sj_bd h; have := (sj_v h).1
 exact decide_eq_true ⟨by omega, by omega, by omega, by omega, by omega, by omega⟩
theorem join_bd {l : List S29} (h : Okl l) (hT : ¬ sT l > 10000) : (0 ≤ sT l * roundV (sT l) (sM l) ∧ sT l * roundV (sT l) (sM l) ≤ 10000000) ∧ 0 ≤ sM l ∧ sM l ≤ 10000000 := by
 have a := sj_bd h; have b := roundV_bd (join_piece h hT)
 exact ⟨mul_bd a.1 (by omega : sT l ≤ 10000) b.1 b.2, by omega, by omega⟩
def coarseR (X Y Z : Int) (t g r : List Int) : Int × Int × Int × List Int × List Int × List Int × Int × Bool :=
 if modelB X Y Z t g r = true then coF ((X + 1) / 2) ((Y + 1) / 2) Z (grp X Y t g r) ((X + 1) / 2 * ((Y + 1) / 2) * Z).toNat 0 0 [] [] [] else (0, 0, 0, [], [], [], 0, false)
theorem spec_Coarse_l1 {X Y Z : Int} {t g r : List Int} (h : IsMod X Y Z t g r) (gap q x y z : Int) (a b c : List Int) : ∀ (d k i : Nat) (acc : List S29), i + d = t.length → d < k → acc ++ grpD X Y t g r q i d = grp X Y t g r q →
  spec_CoarseModel.l1 k gap q acc (t.length : Int) (i : Int) X Y Z t g r x y z a b c = spec_CoarseModel.l1 (k - d) gap q (grp X Y t g r q) (t.length : Int) (t.length : Int) X Y Z t g r x y z a b c := by
 have hle := h.le
 intro d
 induction d with
 | zero =>
  intro k i acc hi hk he
  rw [← he, show i = t.length by omega]
  simp [grpD]
 | succ d ih =>
  intro k i acc hi hk he
  obtain ⟨k, rfl⟩ := k_succ (by omega : 0 < k)
  have hh := hasB_of h.grid (by omega : 0 ≤ (i : Int)) (by have := h.lt; omega)
  rw [show k + 1 - (d + 1) = k - d by omega]
  conv => lhs; rw [spec_CoarseModel.l1]
  rw [if_pos (by omega), spec_sbCoarse_v hh, Option.bind_some, w64_succ (by omega)]
  unfold grpD at he
  by_cases hq : coarseV X Y (i : Int) = q
  ·rw [if_pos hq] at he
   have hl : acc.length ≤ 120 := by
    have := (grp_ok h q).le
    rw [← he, List.length_append] at this; omega
   rw [if_pos hq, spec_sbOf_v h (by omega) (by omega), Option.bind_some, if_pos (by omega)]
   exact ih k (i + 1) _ (by omega) (by omega) (by rw [List.append_assoc]; exact he)
  ·rw [if_neg hq] at he
   rw [if_neg hq]
   exact ih k (i + 1) _ (by omega) (by omega) he
theorem spec_Coarse_l0 {X Y Z : Int} {t g r : List Int} (h : IsMod X Y Z t g r) (x y z : Int) (n : Nat) (hn : n ≤ 120) (hc : spec_grCount.f x y z = some (n : Int)) : ∀ (d k q : Nat) (gap : Int) (a b c : List Int), q + d = n → 130 * d + 300 < k → -(10000000 * (q : Int)) ≤ gap → gap ≤ 10000000 * (q : Int) → a.length = q → b.length = q → c.length = q →
  spec_CoarseModel.l0 k gap (q : Int) X Y Z t g r x y z a b c = some (coF x y z (grp X Y t g r) d (q : Int) gap a b c) := by
 have hle := h.le
 intro d
 induction d with
 | zero =>
  intro k q gap a b c hq hk g0 g1 la lb lc
  obtain ⟨k, rfl⟩ := k_succ (by omega : 0 < k)
  rw [spec_CoarseModel.l0, hc, Option.bind_some, if_neg (by omega)]
  rfl
 | succ d ih =>
  intro k q gap a b c hq hk g0 g1 la lb lc
  obtain ⟨k, rfl⟩ := k_succ (by omega : 0 < k)
  have hG := grp_ok h (q : Int)
  rw [spec_CoarseModel.l0, hc, Option.bind_some, if_pos (by omega), show (0 : Int) = ((0 : Nat) : Int) from rfl, spec_Coarse_l1 h gap (q : Int) x y z a b c t.length k 0 [] (by omega) (by omega) rfl]
  obtain ⟨m, hm⟩ : ∃ m, k - t.length = m + 1 := ⟨k - t.length - 1, by omega⟩
  rw [hm, spec_CoarseModel.l1, if_neg (by omega), (sj_v hG).2 m (by omega), Option.bind_some, spec_sbPiece_v, Option.bind_some]
  unfold coF
  by_cases hT : sT (grp X Y t g r (q : Int)) > 10000
  ·have e : pieceB (sT (grp X Y t g r (q : Int))) (sM (grp X Y t g r (q : Int))) (joinR (grp X Y t g r (q : Int))) = false := by
    unfold pieceB; rw [decide_eq_false_iff_not]; omega
   rw [e, if_neg (by decide), if_pos hT]
  ·have e := join_piece hG hT
   have hb := join_bd hG hT
   have hb1 := hb.1.1; have hb2 := hb.1.2; have hb3 := hb.2.1; have hb4 := hb.2.2
   have hw : wrap64 (gap + wrap64 (wrap64 (sT (grp X Y t g r (q : Int)) * roundV (sT (grp X Y t g r (q : Int))) (sM (grp X Y t g r (q : Int)))) - sM (grp X Y t g r (q : Int)))) = gap + (sT (grp X Y t g r (q : Int)) * roundV (sT (grp X Y t g r (q : Int))) (sM (grp X Y t g r (q : Int))) - sM (grp X Y t g r (q : Int))) := by
    rw [w64 (x := sT (grp X Y t g r (q : Int)) * roundV (sT (grp X Y t g r (q : Int))) (sM (grp X Y t g r (q : Int)))) (by omega) (by omega), w64 (x := sT (grp X Y t g r (q : Int)) * roundV (sT (grp X Y t g r (q : Int))) (sM (grp X Y t g r (q : Int))) - sM (grp X Y t g r (q : Int))) (by omega) (by omega), w64 (by omega) (by omega)]
   rw [e, if_pos rfl, if_neg hT, if_pos (by omega), spec_sbRound_v e, Option.bind_some, if_pos (by omega), if_pos (by omega), Option.bind_some, w64_succ (by omega), hw]
   exact ih m (q + 1) _ _ _ _ (by omega) (by omega) (by omega) (by omega) (by simp; omega) (by simp; omega) (by simp; omega)
theorem coarse_cnt {X Y Z : Int} {t g r : List Int} (h : IsMod X Y Z t g r) : ∃ n : Nat, (X + 1) / 2 * ((Y + 1) / 2) * Z = (n : Int) ∧ n ≤ 120 := by
 have := grid_pos (coarse_grid h.grid)
 exact ⟨((X + 1) / 2 * ((Y + 1) / 2) * Z).toNat, by omega, by omega⟩
theorem spec_CoarseModel_v (X Y Z : Int) (t g r : List Int) {k : Nat} (hk : 16000 < k) : spec_CoarseModel.f k X Y Z t g r = some (coarseR X Y Z t g r) := by
 unfold spec_CoarseModel.f coarseR
 rw [spec_moGood_v X Y Z t g r (by omega)]
 cases hB : modelB X Y Z t g r with
 | false => simp
 | true =>
  have h := modelB_t hB
  obtain ⟨n, hn, hn'⟩ := coarse_cnt h
  rw [Option.bind_some, if_pos rfl, if_pos rfl, spec_sbGrid_v h.grid, Option.bind_some, hn, show ((n : Int)).toNat = n by omega]
  exact spec_Coarse_l0 h _ _ _ n hn' (by rw [spec_grCount_v (coarse_grid h.grid), hn]) n k 0 0 [] [] [] (by omega) (by omega) (by omega) (by omega) rfl rfl rfl
theorem impl_PieceOf_w {X Y Z : Int} {t g r : List Int} (h : IsMod X Y Z t g r) {i : Int} (h0 : 0 ≤ i) (h1 : i < (t.length : Int)) {k : Nat} (hk : 122 < k) : impl_PieceOf.f k X Y Z t g r i = some (rd t i, rd t i * rd g i, rd r i, true) := by
 have := h.lg; have := h.lr
 have hb := h.rm h0 h1
 unfold impl_PieceOf.f
 rw [impl_IsModel_v X Y Z t g r hk, modelB_iff.2 h, Option.bind_some, if_pos rfl, if_neg (by omega), if_neg (by omega), if_pos (by omega), if_pos (by omega), if_pos (by omega), if_pos (by omega), w64 (by omega) (by omega)]
theorem rdL_set {l : List (List S29)} {i : Nat} {v : List S29} (j : Int) (h0 : 0 ≤ j) (hi : i < l.length) : rd_L2 (l.set i v) j = if j = (i : Int) then v else rd_L2 l j := by
 unfold rd_L2
 rw [List.getD_eq_getElem?_getD, List.getD_eq_getElem?_getD]
 by_cases h : j = (i : Int)
 ·rw [if_pos h, show j.toNat = i by omega, List.getElem?_set_self hi]; rfl
 ·rw [if_neg h, List.getElem?_set_ne (by omega)]
theorem impl_Coarse_l0 {X Y Z : Int} {t g r : List Int} (h : IsMod X Y Z t g r) (x y z : Int) (n : Nat) (hn : n ≤ 120) (hc : (X + 1) / 2 * ((Y + 1) / 2) * Z = (n : Int)) : ∀ (d k i : Nat) (L : List (List S29)) (m : Int), i + d = t.length → d + 200 < k → L.length = n → (∀ q : Int, 0 ≤ q → q < (n : Int) → rd_L2 L q ++ grpD X Y t g r q i d = grp X Y t g r q) → -(10000000 * (i : Int)) ≤ m → m ≤ 0 →
  ∃ L', L'.length = n ∧ (∀ q : Int, 0 ≤ q → q < (n : Int) → rd_L2 L' q = grp X Y t g r q) ∧ -1200000000 ≤ m - totM t g i d ∧ m - totM t g i d ≤ 0 ∧
   impl_CoarseModel.l0 k L m (t.length : Int) (i : Int) X Y Z t g r x y z = impl_CoarseModel.l1 (k - d - 1) (m - totM t g i d) L' (n : Int) 0 x y z [] [] [] := by
 have hle := h.le
 intro d
 induction d with
 | zero =>
  intro k i L m hi hk hL hG m0 m1
  obtain ⟨k, rfl⟩ := k_succ (by omega : 0 < k)
  refine ⟨L, hL, fun q h0 h1 => ?_, by unfold totM; omega, by unfold totM; omega, ?_⟩
  ·have := hG q h0 h1; simpa [grpD] using this
  ·rw [impl_CoarseModel.l0, if_neg (by omega), hL]
   simp [totM]
 | succ d ih =>
  intro k i L m hi hk hL hG m0 m1
  obtain ⟨k, rfl⟩ := k_succ (by omega : 0 < k)
  have hh := hasB_of h.grid (by omega : 0 ≤ (i : Int)) (by have := h.lt; omega)
  have hcb := coarseV_bd hh
  rw [hc] at hcb
  have hm := h.rm (by omega : 0 ≤ (i : Int)) (by omega)
  obtain ⟨L', e1, e2, e3, e4, e5⟩ := ih k (i + 1) (L.set (coarseV X Y (i : Int)).toNat (rd_L2 L (coarseV X Y (i : Int)) ++ [pcI t g r (i : Int)])) (m - rd t (i : Int) * rd g (i : Int)) (by omega) (by omega) (by simpa using hL) (fun q h0 h1 => by
   have he := hG q h0 h1
   unfold grpD at he
   rw [rdL_set q h0 (by omega)]
   by_cases hq : coarseV X Y (i : Int) = q
   ·rw [if_pos hq] at he
    rw [if_pos (by omega), hq, List.append_assoc]; exact he
   ·rw [if_neg hq] at he
    rw [if_neg (by omega)]; exact he) (by omega) (by omega)
  have et : m - totM t g i (d + 1) = m - rd t (i : Int) * rd g (i : Int) - totM t g (i + 1) d := by
   show m - (rd t (i : Int) * rd g (i : Int) + totM t g (i + 1) d) = _
   omega
  rw [et]
  refine ⟨L', e1, e2, e3, e4, ?_⟩
  have hl : (rd_L2 L (coarseV X Y (i : Int))).length ≤ 120 := by
   have := (grp_ok h (coarseV X Y (i : Int))).le
   rw [← hG _ hcb.1 hcb.2, List.length_append] at this; omega
  rw [show k + 1 - (d + 1) - 1 = k - d - 1 by omega, ← e5, impl_CoarseModel.l0, if_pos (by omega), impl_PieceOf_w h (by omega) (by omega) (by omega), Option.bind_some, impl_CoarseBlock_v, if_pos hh, Option.bind_some, if_pos hcb.1, if_pos (by omega), if_pos (show (rd_L2 L (coarseV X Y (i : Int))).length < 5864062014805 by omega), w64_succ (by omega), w64 (x := m - rd t (i : Int) * rd g (i : Int)) (by omega) (by omega)]
  rfl
theorem impl_Coarse_l1 (x y z : Int) (G : Int → List S29) (hG : ∀ q, Okl (G q)) (L : List (List S29)) (n : Nat) (hn : n ≤ 120) (hL : L.length = n) (hLG : ∀ q : Int, 0 ≤ q → q < (n : Int) → rd_L2 L q = G q) : ∀ (d k q : Nat) (m : Int) (a b c : List Int), q + d = n → d + 140 < k → -1200000000 ≤ m → m ≤ 10000000 * (q : Int) → a.length = q → b.length = q → c.length = q →
  impl_CoarseModel.l1 k m L (n : Int) (q : Int) x y z a b c = some (coF x y z G d (q : Int) (m + remS (fun q => sM (G q)) (q : Int) d) a b c) := by
 intro d
 induction d with
 | zero =>
  intro k q m a b c hq hk g0 g1 la lb lc
  obtain ⟨k, rfl⟩ := k_succ (by omega : 0 < k)
  rw [impl_CoarseModel.l1, if_neg (by omega)]
  unfold remS coF
  rw [Int.add_zero]
 | succ d ih =>
  intro k q m a b c hq hk g0 g1 la lb lc
  obtain ⟨k, rfl⟩ := k_succ (by omega : 0 < k)
  have hg := hG (q : Int)
  rw [impl_CoarseModel.l1, if_pos (by omega), if_pos (by omega), if_pos (by omega), hLG _ (by omega) (by omega), impl_joinPieces_v, (sj_v hg).2 k (by omega), Option.map_some, Option.bind_some]
  unfold coF joinFin
  by_cases hT : sT (G (q : Int)) > 10000
  ·rw [if_pos hT, if_pos hT, if_neg (by decide)]
  ·have e := join_piece hg hT
   have hb := join_bd hg hT
   have hb1 := hb.1.1; have hb2 := hb.1.2; have hb3 := hb.2.1; have hb4 := hb.2.2
   have hw : wrap64 (m + wrap64 (sT (G (q : Int)) * roundV (sT (G (q : Int))) (sM (G (q : Int))))) = m + sT (G (q : Int)) * roundV (sT (G (q : Int))) (sM (G (q : Int))) := by
    rw [w64 (x := sT (G (q : Int)) * roundV (sT (G (q : Int))) (sM (G (q : Int)))) (by omega) (by omega), w64 (by omega) (by omega)]
   rw [if_neg hT, if_neg hT, if_pos rfl, if_pos (by omega), impl_roundedGrade_v e, Option.bind_some, if_pos (by omega), if_pos (by omega), Option.bind_some, w64_succ (by omega), hw, ih k (q + 1) _ _ _ _ (by omega) (by omega) (by omega) (by omega) (by simp; omega) (by simp; omega) (by simp; omega)]
   have eg : m + remS (fun q => sM (G q)) (q : Int) (d + 1) + (sT (G (q : Int)) * roundV (sT (G (q : Int))) (sM (G (q : Int))) - sM (G (q : Int))) = m + sT (G (q : Int)) * roundV (sT (G (q : Int))) (sM (G (q : Int))) + remS (fun q => sM (G q)) ((q : Int) + 1) d := by
    show m + (sM (G (q : Int)) + remS (fun q => sM (G q)) ((q : Int) + 1) d) + _ = _
    omega
   rw [eg, show ((q + 1 : Nat) : Int) = (q : Int) + 1 by omega]
theorem impl_CoarseModel_v (X Y Z : Int) (t g r : List Int) {k : Nat} (hk : 16000 < k) : impl_CoarseModel.f k X Y Z t g r = some (coarseR X Y Z t g r) := by
 unfold impl_CoarseModel.f coarseR
 rw [impl_IsModel_v X Y Z t g r (by omega)]
 cases hB : modelB X Y Z t g r with
 | false => simp
 | true =>
  have h := modelB_t hB
  have hle := h.le
  obtain ⟨n, hn, hn'⟩ := coarse_cnt h
  rw [Option.bind_some, if_pos rfl, if_pos rfl, impl_coarseGrid_v h.grid, Option.bind_some, impl_blocksOf_v (coarse_grid h.grid), Option.bind_some, hn, show ((n : Int)).toNat = n by omega, if_pos (by omega), if_pos (by omega)]
  obtain ⟨L', e1, e2, e3, e4, e5⟩ := impl_Coarse_l0 h ((X + 1) / 2) ((Y + 1) / 2) Z n hn' hn t.length k 0 (List.replicate n []) 0 (by omega) (by omega) (by simp) (fun q h0 h1 => by
   unfold rd_L2
   rw [List.getD_eq_getElem?_getD, List.getElem?_replicate, if_pos (by omega)]
   rfl) (by omega) (by omega)
  have hp := part X Y t g r n t.length 0 (fun j h1 h2 => by
   have := coarseV_bd (hasB_of h.grid (by omega : 0 ≤ (j : Int)) (by have := h.lt; omega))
   rw [hn] at this; exact this)
  have e6 := impl_Coarse_l1 ((X + 1) / 2) ((Y + 1) / 2) Z (grp X Y t g r) (grp_ok h) L' n hn' e1 e2 n (k - t.length - 1) 0 (0 - totM t g 0 t.length) [] [] [] (by omega) (by omega) e3 (by omega) rfl rfl rfl
  have hp' : remS (fun q => sM (grp X Y t g r q)) ((0 : Nat) : Int) n = totM t g 0 t.length := hp
  rw [hp', show 0 - totM t g 0 t.length + totM t g 0 t.length = 0 by omega] at e6
  exact e5.trans e6
def posL (lt : Nat → Bool) (out : List Nat) : Nat → Nat
 | 0 => 0
 | k + 1 => if lt (out.getD k 0) = true then posL lt out k else k + 1
theorem posL_le (lt : Nat → Bool) (out : List Nat) : ∀ k, posL lt out k ≤ k
 | 0 => Nat.le_refl _
 | k + 1 => by
  rw [posL]
  split
  ·exact Nat.le_succ_of_le (posL_le lt out k)
  ·exact Nat.le_refl _
def insA (x : Nat) (out : List Nat) (k : Nat) : List Nat := out.take k ++ x :: out.drop k
def insN (lt : Nat → Nat → Bool) (x : Nat) (out : List Nat) : List Nat := insA x out (posL (lt x) out out.length)
def sortN (lt : Nat → Nat → Bool) : Nat → List Nat
 | 0 => []
 | i + 1 => insN lt i (sortN lt i)
theorem insA_len (x : Nat) (out : List Nat) (k : Nat) : (insA x out k).length = out.length + 1 := by
 unfold insA
 rw [List.length_append, List.length_cons, List.length_take, List.length_drop]
 omega
theorem sortN_len (lt : Nat → Nat → Bool) : ∀ i, (sortN lt i).length = i
 | 0 => rfl
 | i + 1 => by rw [sortN, insN, insA_len, sortN_len lt i]
theorem insA_mem {x y : Nat} {out : List Nat} {k : Nat} (h : y ∈ insA x out k) : y = x ∨ y ∈ out := by
 unfold insA at h
 rw [List.mem_append, List.mem_cons] at h
 rcases h with h | h | h
 ·exact .inr (List.mem_of_mem_take h)
 ·exact .inl h
 ·exact .inr (List.mem_of_mem_drop h)
theorem sortN_lt (lt : Nat → Nat → Bool) : ∀ i, ∀ y ∈ sortN lt i, y < i
 | 0, y, h => by cases h
 | i + 1, y, h => by
  rcases insA_mem h with rfl | h
  ·omega
  ·have := sortN_lt lt i y h; omega
theorem set2 (a x : Nat) (t : List Nat) : ∀ A : List Nat, ((A ++ a :: x :: t).set (A.length + 1) a).set A.length x = A ++ x :: a :: t
 | [] => rfl
 | b :: A => by
  simp
theorem inner_is (lt : Nat → Nat → Bool) (x : Nat) (out rest : List Nat) : ∀ (j : Nat) (d : Array Nat), j ≤ out.length → d.toList = insA x out j ++ rest → (Sort.insInner lt 0 j d).toList = insA x out (posL (lt x) out j) ++ rest
 | 0, d, _, h => by rw [Sort.insInner, posL]; exact h
 | j + 1, d, hj, h => by
  have hjl : j < out.length := by omega
  have hA : (out.take j).length = j := by rw [List.length_take]; omega
  have e1 : out.take (j + 1) = out.take j ++ [out[j]] := List.take_succ_eq_append_getElem hjl
  have h' : d.toList = out.take j ++ out[j] :: x :: (out.drop (j + 1) ++ rest) := by
   rw [h, insA, e1]; simp only [List.append_assoc, List.cons_append, List.nil_append]
  have hs : d.size = j + 2 + (out.drop (j + 1) ++ rest).length := by
   rw [← Array.length_toList, h', List.length_append, hA, List.length_cons, List.length_cons]; omega
  have x1 : d[j + 1]! = x := by
   rw [getElem!_pos d (j + 1) (by omega), ← Array.getElem_toList]
   have : d.toList[j + 1]? = some x := by rw [h', List.getElem?_append_right (by omega), hA, Nat.add_sub_cancel_left]; rfl
   rw [List.getElem?_eq_getElem (by rw [Array.length_toList]; omega)] at this
   exact Option.some.inj this
  have x2 : d[j]! = out[j] := by
   rw [getElem!_pos d j (by omega), ← Array.getElem_toList]
   have : d.toList[j]? = some out[j] := by rw [h', List.getElem?_append_right (by omega), hA, Nat.sub_self]; rfl
   rw [List.getElem?_eq_getElem (by rw [Array.length_toList]; omega)] at this
   exact Option.some.inj this
  have g1 : out.getD j 0 = out[j] := by rw [List.getD_eq_getElem?_getD, List.getElem?_eq_getElem hjl]; rfl
  rw [Sort.insInner, posL, x1, x2, g1]
  by_cases c : lt x out[j] = true
  ·rw [if_pos (by simp [c]), if_pos c]
   refine inner_is lt x out rest j _ (by omega) ?_
   unfold Sort.swp
   rw [x1, x2, Array.toList_setIfInBounds, Array.toList_setIfInBounds, h']
   have h2 := set2 out[j] x (out.drop (j + 1) ++ rest) (out.take j)
   rw [hA] at h2
   rw [h2, insA, List.drop_eq_getElem_cons hjl]
   simp only [List.append_assoc, List.cons_append, List.nil_append]
  ·rw [if_neg (by simp [c]), if_neg c]
   exact h
theorem outer_is (lt : Nat → Nat → Bool) (n : Nat) : ∀ (m i : Nat) (d : Array Nat), i + m = n → d.toList = sortN lt i ++ (List.range n).drop i → (Sort.insOuter lt 0 n i d).toList = sortN lt n := by
 intro m
 induction m with
 | zero =>
  intro i d hi h
  rw [Sort.insOuter, if_neg (by omega), h, List.drop_eq_nil_of_le (by simp; omega), List.append_nil, show i = n by omega]
 | succ m ih =>
  intro i d hi h
  rw [Sort.insOuter, if_pos (by omega)]
  refine ih (i + 1) _ (by omega) ?_
  have hl := sortN_len lt i
  have e : d.toList = insA i (sortN lt i) i ++ (List.range n).drop (i + 1) := by
   have t1 : (sortN lt i).take i = sortN lt i := List.take_of_length_le (by omega)
   have t2 : (sortN lt i).drop i = [] := List.drop_eq_nil_of_le (by omega)
   have t3 : (List.range n).drop i = i :: (List.range n).drop (i + 1) := by
    rw [List.drop_eq_getElem_cons (by rw [List.length_range]; omega), List.getElem_range]
   rw [h, insA, t1, t2, t3]
   simp only [List.append_assoc, List.cons_append, List.nil_append]
  rw [inner_is lt i (sortN lt i) _ i d (by omega) e, sortN, insN, hl]
theorem ins_is (lt : Nat → Nat → Bool) (n : Nat) (hn : 1 ≤ n) : (Sort.insertionSort lt (List.range n).toArray 0 n).toList = sortN lt n := by
 unfold Sort.insertionSort
 refine outer_is lt n (n - 1) (0 + 1) _ (by omega) ?_
 obtain ⟨m, rfl⟩ : ∃ m, n = m + 1 := ⟨n - 1, by omega⟩
 rw [List.range_succ_eq_map]
 simp [sortN, insN, insA, posL]
def richB (p q : S29) : Bool := if p.f0 = 0 ∨ q.f0 = 0 then decide (p.f0 > 0 ∧ q.f0 = 0) else decide (p.f1 * q.f0 > q.f1 * p.f0)
def ltN (l : List S29) (x y : Nat) : Bool := richB (l.getD (x % l.length) z29) (l.getD (y % l.length) z29)
theorem rich_bd {p q : S29} (hp : pieceB p.f0 p.f1 p.f2 = true) (hq : pieceB q.f0 q.f1 q.f2 = true) : 0 ≤ p.f1 * q.f0 ∧ p.f1 * q.f0 ≤ 10000000 * 10000 := by
 obtain ⟨a1, a2, a3, a4, _, _⟩ := pieceB_t hp
 obtain ⟨b1, b2, b3, b4, _, _⟩ := pieceB_t hq
 exact mul_bd a3 (by omega) b1 b2
theorem spec_sbRicher_v {p q : S29} (hp : pieceB p.f0 p.f1 p.f2 = true) (hq : pieceB q.f0 q.f1 q.f2 = true) : spec_sbRicher.f p.f0 p.f1 p.f2 q.f0 q.f1 q.f2 = some (richB p q) := by
 have h1 := rich_bd hp hq
 have h2 := rich_bd hq hp
 obtain ⟨a1, a2, a3, a4, _, _⟩ := pieceB_t hp
 unfold spec_sbRicher.f richB
 by_cases c : p.f0 = 0
 ·rw [if_pos c, if_neg (by omega), if_pos (.inl c), decide_eq_false (by omega)]
 ·rw [if_neg c]
  by_cases d : q.f0 = 0
  ·rw [if_pos d, if_pos (by omega), if_pos (.inr d), decide_eq_true ⟨by omega, d⟩, d]; rfl
  ·rw [if_neg d, if_neg (by omega), w64 (by omega) (by omega), w64 (by omega) (by omega)]
theorem pl_getD {l : List S29} (h : IsPl l) (x : Nat) : pieceB (l.getD (x % l.length) z29).f0 (l.getD (x % l.length) z29).f1 (l.getD (x % l.length) z29).f2 = true := by
 have := h.pos
 have hx : x % l.length < l.length := Nat.mod_lt _ (by omega)
 rw [List.getD_eq_getElem?_getD, List.getElem?_eq_getElem hx]
 exact h.all _ (List.getElem_mem hx)
theorem lt_is {l : List S29} (h : IsPl l) : ltOf (spCf l) = ltN l := by
 funext x y
 have hp := pl_getD h x
 have hq := pl_getD h y
 unfold ltOf spCf ltN
 generalize l.getD (x % l.length) z29 = p at hp ⊢
 generalize l.getD (y % l.length) z29 = q at hq ⊢
 have h1 := rich_bd hp hq
 have h2 := rich_bd hq hp
 obtain ⟨a1, a2, a3, a4, _, _⟩ := pieceB_t hp
 obtain ⟨b1, b2, b3, b4, _, _⟩ := pieceB_t hq
 unfold cmpV richB
 by_cases c : p.f0 = 0 ∨ q.f0 = 0
 ·rw [if_pos c, if_pos c, decide_eq_decide]; omega
 ·rw [if_neg c, if_neg c, w64 (x := q.f1 * p.f0) (by omega) (by omega), w64 (x := p.f1 * q.f0) (by omega) (by omega), w64 (by omega) (by omega), decide_eq_decide]; omega
def sbS (l : List S29) : List Int := (sortN (ltN l) l.length).map Int.ofNat
theorem sbS_len (l : List S29) : (sbS l).length = l.length := by unfold sbS; rw [List.length_map, sortN_len]
theorem impl_sortedPieces_v {l : List S29} (h : IsPl l) : impl_sortedPieces.f l = some (sbS l) := by
 have h1 := h.pos
 have h2 := h.le
 have hok : spOk l = true := by
  unfold spOk
  rw [Bool.and_eq_true, decide_eq_true_eq, List.all_eq_true]
  refine ⟨⟨h1, h2⟩, fun p hp => ?_⟩
  obtain ⟨a1, a2, a3, a4, _, _⟩ := pieceB_t (h.all p hp)
  exact decide_eq_true ⟨a1, a2, a3, by omega⟩
 unfold impl_sortedPieces.f
 rw [if_pos hok]
 congr 1
 unfold spSort sbS
 rw [lt_is h, ins_is _ _ h1]
 apply List.map_congr_left
 intro x hx
 have := sortN_lt _ _ x hx
 rw [Nat.mod_eq_of_lt this]; rfl
theorem rd_ofNat (out : List Nat) (j : Nat) (h : j < out.length) : rd (out.map Int.ofNat) (j : Int) = ((out.getD j 0 : Nat) : Int) := by
 rw [rd_get (by rw [List.length_map]; exact h), List.getElem_map, List.getD_eq_getElem?_getD, List.getElem?_eq_getElem h]; rfl
theorem rdp_nat (l : List S29) (i : Nat) (h : i < l.length) : rd_T29 l (i : Int) = l.getD (i % l.length) z29 := by
 unfold rd_T29
 rw [Int.toNat_natCast, Nat.mod_eq_of_lt h]
theorem insA_map (i : Nat) (out : List Nat) (k : Nat) : (([] : List Int) ++ (out.map Int.ofNat).take k ++ [(i : Int)]) ++ (out.map Int.ofNat).drop k = (insA i out k).map Int.ofNat := by
 unfold insA
 rw [List.map_append, List.map_cons, List.map_take, List.map_drop]
 simp
theorem sbSort_in {l : List S29} (h : IsPl l) (i : Nat) (hi : i < l.length) (out : List Nat) (ho : out.length = i) (hm : ∀ y ∈ out, y < i) (B : Nat) (R : Option (List Int)) :
  ∀ (j k : Nat), j ≤ i → (∀ k', B ≤ k' → spec_sbSort.l0 k' l ((insA i out (posL (ltN l i) out j)).map Int.ofNat) l (l.length : Int) ((i + 1 : Nat) : Int) = R) → B + j + 1 ≤ k →
  spec_sbSort.l1 k l (out.map Int.ofNat) (i : Int) (j : Int) l (l.length : Int) (i : Int) (rd_T29 l (i : Int)).f0 (rd_T29 l (i : Int)).f1 (rd_T29 l (i : Int)).f2 = R := by
 have hn := h.le
 have hlen : (out.map Int.ofNat).length = i := by rw [List.length_map, ho]
 have fin : ∀ (j k : Nat), j ≤ i → (∀ k', B ≤ k' → spec_sbSort.l0 k' l ((insA i out j).map Int.ofNat) l (l.length : Int) ((i + 1 : Nat) : Int) = R) → B ≤ k →
   (if 0 ≤ (j : Int) then (if (j : Int) ≤ ((out.map Int.ofNat).length : Int) then ((spec_l1Own.f ((out.map Int.ofNat).take (j : Int).toNat)).bind fun t168 => ((some (([(i : Int)] : List Int) : List Int)).bind fun y171 => (if t168.length + y171.length < 17592186044416 then ((some (t168 ++ y171 : List Int)).bind fun y174 => ((some ((out.map Int.ofNat).drop (j : Int).toNat : List Int)).bind fun y177 => (if y174.length + y177.length < 17592186044416 then (spec_sbSort.l0 k l (y174 ++ y177) l (l.length : Int) (wrap64 ((i : Int) + 1))) else (none)))) else (none)))) else (none)) else (none)) = R := by
  intro j k hj H hk
  have t1 : ((out.map Int.ofNat).take j).length ≤ i := by rw [List.length_take]; omega
  have t2 : ((out.map Int.ofNat).drop j).length ≤ i := by rw [List.length_drop]; omega
  unfold spec_l1Own.f
  rw [if_pos (by omega), if_pos (by omega), Int.toNat_natCast, Option.bind_some, if_pos (by simp only [List.length_nil]; omega), Option.bind_some, Option.bind_some]
  rw [if_pos (by simp only [List.length_append, List.length_nil, List.length_cons]; omega), Option.bind_some, Option.bind_some, if_pos (by simp only [List.length_append, List.length_nil, List.length_cons]; omega), w64_succ (by omega)]
  rw [insA_map]
  exact H k hk
 intro j
 induction j with
 | zero =>
  intro k hj H hk
  obtain ⟨k, rfl⟩ := k_succ (by omega : 0 < k)
  rw [spec_sbSort.l1, if_neg (by omega)]
  exact fin 0 k hj H (by omega)
 | succ j ih =>
  intro k hj H hk
  obtain ⟨k, rfl⟩ := k_succ (by omega : 0 < k)
  have hjl : j < out.length := by omega
  have hy : out.getD j 0 < i := by
   rw [List.getD_eq_getElem?_getD, List.getElem?_eq_getElem hjl]
   exact hm _ (List.getElem_mem hjl)
  rw [spec_sbSort.l1, if_pos (by omega), w64 (by omega) (by omega), show ((j + 1 : Nat) : Int) - 1 = (j : Int) by omega, if_pos (by omega), if_pos (by omega), rd_ofNat out j hjl, if_pos (by omega), if_pos (by omega)]
  have e1 := rdp_nat l i hi
  have e2 := rdp_nat l (out.getD j 0) (by omega)
  rw [e2, e1, spec_sbRicher_v (pl_getD h i) (pl_getD h _), Option.bind_some, ← e1]
  rw [posL] at H
  by_cases c : ltN l i (out.getD j 0) = true
  ·rw [if_pos c] at H
   rw [if_pos (by rw [e1]; exact c)]
   exact ih k (by omega) H (by omega)
  ·rw [if_neg c] at H
   rw [if_neg (by rw [e1]; exact c)]
   exact fin (j + 1) k hj H (by omega)
theorem spec_sbSort_l {l : List S29} (h : IsPl l) : ∀ (d i : Nat), i + d = l.length → ∀ k, d * 25 + 1 ≤ k → spec_sbSort.l0 k l ((sortN (ltN l) i).map Int.ofNat) l (l.length : Int) (i : Int) = some (sbS l) := by
 have hn := h.le
 intro d
 induction d with
 | zero =>
  intro i hi k hk
  obtain ⟨k, rfl⟩ := k_succ (by omega : 0 < k)
  rw [spec_sbSort.l0, if_neg (by omega), show i = l.length by omega]; rfl
 | succ d ih =>
  intro i hi k hk
  obtain ⟨k, rfl⟩ := k_succ (by omega : 0 < k)
  have hl := sortN_len (ltN l) i
  rw [spec_sbSort.l0, if_pos (by omega), if_pos (by omega), if_pos (by omega), List.length_map, hl]
  refine sbSort_in h i (by omega) (sortN (ltN l) i) hl (sortN_lt _ i) (d * 25 + 1) _ i k (Nat.le_refl _) (fun k' hk' => ?_) (by omega)
  have := ih (i + 1) (by omega) k' hk'
  rw [sortN, insN, hl] at this
  exact this
theorem spec_sbSort_v {l : List S29} (h : IsPl l) {k : Nat} (hk : 600 < k) : spec_sbSort.f k l = some (sbS l) := by
 have hn := h.le
 unfold spec_sbSort.f
 have := spec_sbSort_l h l.length 0 (by omega) k (by omega)
 exact this
def sortR (l : List S29) : List Int × Bool := if plist l = true then (sbS l, true) else ([], false)
theorem sortR_len (l : List S29) : (sortR l).1.length ≤ 20 := by
 unfold sortR
 split
 ·rename_i h
  show (sbS l).length ≤ 20
  rw [sbS_len]; exact (plist_t h).le
 ·exact Nat.zero_le _
theorem spec_SortPieces_v (l : List S29) (hn : l.length ≤ 1048576) {k : Nat} (hk : 1048578 < k) : spec_SortPieces.f k l = some (sortR l) := by
 unfold spec_SortPieces.f sortR
 rw [spec_sbList_v l hn (by omega), Option.bind_some]
 by_cases h : plist l = true
 ·rw [if_pos h, if_pos h, spec_sbSort_v (plist_t h) (by omega), Option.bind_some]
 ·rw [if_neg h, if_neg h]
theorem impl_SortPieces_v (l : List S29) (hn : l.length ≤ 1048576) {k : Nat} (hk : 1048578 < k) : impl_SortPieces.f k l = some (sortR l) := by
 unfold impl_SortPieces.f sortR
 rw [impl_arePieces_v l hn (by omega), Option.bind_some]
 by_cases h : plist l = true
 ·rw [if_pos h, if_pos h, impl_sortedPieces_v (plist_t h), Option.bind_some]
 ·rw [if_neg h, if_neg h]
theorem ltList_eq : ∀ (a b : List Int), a.Pairwise (· < ·) → b.Pairwise (· < ·) → (∀ x, x ∈ a ↔ x ∈ b) → a = b
 | [], [], _, _, _ => rfl
 | [], y :: b, _, _, h => absurd ((h y).2 List.mem_cons_self) List.not_mem_nil
 | x :: a, [], _, _, h => absurd ((h x).1 List.mem_cons_self) List.not_mem_nil
 | x :: a, y :: b, ha, hb, h => by
  rw [List.pairwise_cons] at ha hb
  have e : x = y := by
   have h1 := (h x).1 List.mem_cons_self
   have h2 := (h y).2 List.mem_cons_self
   rw [List.mem_cons] at h1 h2
   rcases h1 with h1 | h1
   ·exact h1
   ·rcases h2 with h2 | h2
    ·exact h2.symm
    ·have := ha.1 y h2; have := hb.1 x h1; omega
  subst e
  rw [ltList_eq a b ha.2 hb.2 (fun z => ?_)]
  have hz := h z
  rw [List.mem_cons, List.mem_cons] at hz
  constructor
  ·intro hz1
   rcases hz.1 (.inr hz1) with e | e
   ·have := ha.1 z hz1; omega
   ·exact e
  ·intro hz1
   rcases hz.2 (.inr hz1) with e | e
   ·have := hb.1 z hz1; omega
   ·exact e
theorem sortI_lt {l : List Int} (h : l.Nodup) : (l.mergeSort fun x y => decide (x ≤ y)).Pairwise (· < ·) := by
 have hp := List.mergeSort_perm l (fun x y => decide (x ≤ y))
 have hn := hp.nodup_iff.2 h
 have hs := List.pairwise_mergeSort (le := fun x y : Int => decide (x ≤ y)) (fun a b c h1 h2 => by simp only [decide_eq_true_eq] at *; omega) (fun a b => by simp only [Bool.or_eq_true, decide_eq_true_eq]; omega) l
 refine (List.Pairwise.and hs hn).imp ?_
 rintro a b ⟨h1, h2⟩
 rw [decide_eq_true_eq] at h1
 have : a ≠ b := h2
 omega
theorem sortI_mem {l : List Int} {x : Int} : x ∈ (l.mergeSort fun x y => decide (x ≤ y)) ↔ x ∈ l := (List.mergeSort_perm l _).mem_iff
theorem put_at {out : List Int} {n : Int} {c : Nat} (hs : out.Pairwise (· < ·)) (h1 : ∀ x ∈ out.take c, x < n) (h2 : ∀ x ∈ out.drop c, n < x) : (out.take c ++ n :: out.drop c).Pairwise (· < ·) ∧ (∀ x, x ∈ out.take c ++ n :: out.drop c ↔ x = n ∨ x ∈ out) ∧ (out.take c ++ n :: out.drop c).length = out.length + 1 ∧ (out.take c ++ n :: out.drop c).Perm (n :: out) := by
 have hs' := hs
 rw [← List.take_append_drop c out, List.pairwise_append] at hs'
 obtain ⟨s1, s2, s3⟩ := hs'
 refine ⟨?_, fun x => ?_, ?_, ?_⟩
 ·rw [List.pairwise_append, List.pairwise_cons]
  refine ⟨s1, ⟨h2, s2⟩, fun a ha b hb => ?_⟩
  rcases List.mem_cons.1 hb with e | e
  ·rw [e]; exact h1 a ha
  ·exact s3 a ha b e
 ·have e : x ∈ out ↔ x ∈ out.take c ∨ x ∈ out.drop c := by rw [← List.mem_append, List.take_append_drop]
  rw [List.mem_append, List.mem_cons, e]
  constructor
  ·rintro (h | h | h)
   ·exact .inr (.inl h)
   ·exact .inl h
   ·exact .inr (.inr h)
  ·rintro (h | h | h)
   ·exact .inr (.inl h)
   ·exact .inl h
   ·exact .inr (.inr h)
 ·rw [List.length_append, List.length_cons, List.length_take, List.length_drop]; omega
 ·have e := List.perm_middle (a := n) (l₁ := out.take c) (l₂ := out.drop c)
  rwa [List.take_append_drop] at e
theorem take_lt {out : List Int} {n : Int} {c : Nat} (h : ∀ j, j < c → ∀ hj : j < out.length, out[j] < n) : ∀ x ∈ out.take c, x < n := by
 intro x hx
 obtain ⟨j, hj, rfl⟩ := List.getElem_of_mem hx
 rw [List.length_take] at hj
 rw [List.getElem_take]
 exact h j (by omega) (by omega)
theorem putL (out : List Int) (n : Int) (hs : out.Pairwise (· < ·)) (hm : n ∉ out) (hl : out.length ≤ 1000) : ∀ (d c k : Nat), c + d = out.length → (∀ j, j < c → ∀ hj : j < out.length, out[j] < n) → d + 1 ≤ k →
  ∃ out', spec_l1Put.l0 k out n (c : Int) = some out' ∧ out'.Pairwise (· < ·) ∧ (∀ x, x ∈ out' ↔ x = n ∨ x ∈ out) ∧ out'.length = out.length + 1 ∧ out'.Perm (n :: out) := by
 intro d
 induction d with
 | zero =>
  intro c k hc h hk
  obtain ⟨k, rfl⟩ := k_succ (by omega : 0 < k)
  have hd : out.drop c = [] := List.drop_eq_nil_of_le (by omega)
  have hp := put_at hs (take_lt h) (by rw [hd]; intro x hx; cases hx)
  refine ⟨out.take c ++ n :: out.drop c, ?_, hp⟩
  have t1 : (out.take c).length ≤ 1000 := by rw [List.length_take]; omega
  have t2 : (out.drop c).length ≤ 1000 := by rw [List.length_drop]; omega
  rw [spec_l1Put.l0, if_neg (by omega), Option.bind_some, if_pos (by omega), if_pos (by omega), Int.toNat_natCast, Option.bind_some, if_pos (by simp only [List.length_nil]; omega), Option.bind_some, List.nil_append, if_pos (by omega), Option.bind_some, Option.bind_some, if_pos (by simp only [List.length_append, List.length_nil, List.length_cons]; omega)]
  simp only [List.append_assoc, List.cons_append, List.nil_append]
 | succ d ih =>
  intro c k hc h hk
  obtain ⟨k, rfl⟩ := k_succ (by omega : 0 < k)
  have hcl : c < out.length := by omega
  rw [spec_l1Put.l0, if_pos (by omega), if_pos (by omega), rd_get hcl]
  by_cases q : out[c] < n
  ·rw [if_pos q, w64_succ (by omega)]
   refine ih (c + 1) k (by omega) (fun j hj hjl => ?_) (by omega)
   by_cases e : j = c
   ·subst e; exact q
   ·exact h j (by omega) hjl
  ·have hne : ¬ out[c] = n := fun e => hm (e ▸ List.getElem_mem hcl)
   have hp := put_at (c := c) (n := n) hs (take_lt h) (by
    intro x hx
    have hs' := hs
    rw [← List.take_append_drop c out, List.pairwise_append] at hs'
    have h3 := hs'.2.1
    rw [List.drop_eq_getElem_cons hcl] at h3 hx
    rw [List.pairwise_cons] at h3
    rcases List.mem_cons.1 hx with e | e
    ·omega
    ·have := h3.1 x e; omega)
   refine ⟨out.take c ++ n :: out.drop c, ?_, hp⟩
   have t1 : (out.take c).length ≤ 1000 := by rw [List.length_take]; omega
   have t2 : (out.drop c).length ≤ 1000 := by rw [List.length_drop]; omega
   rw [if_neg q, if_neg hne, Option.bind_some, if_pos (by omega), Int.toNat_natCast, Option.bind_some, if_pos (by simp only [List.length_nil]; omega), Option.bind_some, List.nil_append, if_pos (by omega), Option.bind_some, Option.bind_some, if_pos (by simp only [List.length_append, List.length_nil, List.length_cons]; omega)]
   simp only [List.append_assoc, List.cons_append, List.nil_append]
theorem spec_l1Put_v (out : List Int) (n : Int) (hs : out.Pairwise (· < ·)) (hm : n ∉ out) (hl : out.length ≤ 1000) {k : Nat} (hk : out.length < k) :
  ∃ out', spec_l1Put.f k out n = some out' ∧ out'.Pairwise (· < ·) ∧ (∀ x, x ∈ out' ↔ x = n ∨ x ∈ out) ∧ out'.length = out.length + 1 ∧ out'.Perm (n :: out) :=
 putL out n hs hm hl out.length 0 k (by omega) (fun j hj => by omega) (by omega)
theorem sortN_nodup (lt : Nat → Nat → Bool) : ∀ i, (sortN lt i).Nodup
 | 0 => List.nodup_nil
 | i + 1 => by
  have ih := sortN_nodup lt i
  have hm := sortN_lt lt i
  unfold sortN insN insA
  generalize posL (lt i) (sortN lt i) (sortN lt i).length = c
  have hs' := ih
  rw [← List.take_append_drop c (sortN lt i), List.nodup_append] at hs'
  obtain ⟨s1, s2, s3⟩ := hs'
  rw [List.nodup_append]
  have hi : i ∉ sortN lt i := fun h => by have := hm i h; omega
  refine ⟨s1, List.nodup_cons.2 ⟨fun h => hi (List.mem_of_mem_drop h), s2⟩, fun a ha b hb => ?_⟩
  rcases List.mem_cons.1 hb with e | e
  ·intro e2; have h4 := List.mem_of_mem_take ha; rw [e2, e] at h4; exact hi h4
  ·exact s3 a ha b e
theorem sbS_nodup (l : List S29) : (sbS l).Nodup := by
 unfold sbS
 exact List.pairwise_map.2 ((sortN_nodup _ _).imp (fun h e => h (Int.ofNat.inj e)))
theorem sbS_bd {l : List S29} {c : Nat} (h : c < (sbS l).length) : ∃ i : Nat, (sbS l)[c] = (i : Int) ∧ i < l.length := by
 have hm := List.getElem_mem h
 unfold sbS at hm
 obtain ⟨i, hi, e⟩ := List.mem_map.1 hm
 exact ⟨i, e.symm, sortN_lt _ _ i hi⟩
theorem sortI_v {l : List Int} (h : l.length ≤ 1000) : slices_Sort_int_int.f l = some (l.mergeSort fun x y => decide (x ≤ y)) := by
 unfold slices_Sort_int_int.f
 rw [if_pos (by omega)]
def tsum (l : List S29) : List Int → Int
 | [] => 0
 | x :: s => (rd_T29 l x).f0 + tsum l s
theorem tsum_perm (l : List S29) {a b : List Int} (h : a.Perm b) : tsum l a = tsum l b := by
 induction h with
 | nil => rfl
 | cons x _ ih => unfold tsum; rw [ih]
 | swap x y s => simp only [tsum]; omega
 | trans _ _ ih1 ih2 => rw [ih1, ih2]
theorem best_l {l : List S29} (hL : IsPl l) (a0 : Int) : ∀ (d c : Nat) (t : Int) (B : List Int), c + d = l.length → -10000 ≤ t → t ≤ 200000 → B.Pairwise (· < ·) → (∀ x, x ∈ B ↔ x ∈ (sbS l).take c) → B.length = c → t = a0 - tsum l B →
  ∃ r : List Int × Bool, (r.1.length ≤ 20 ∧ (r.2 = true → (∀ x ∈ r.1, 0 ≤ x ∧ x < (l.length : Int)) ∧ a0 ≤ tsum l r.1)) ∧ (∀ k, d + 30 ≤ k → impl_BestPieces.l0 k l t ((sbS l).take c) (sbS l) ((sbS l).length : Int) (c : Int) = some r) ∧ (∀ k, d + 30 ≤ k → spec_BestPieces.l0 k l t B (sbS l) ((sbS l).length : Int) (c : Int) = some r) := by
 have hn := hL.le
 have hS := sbS_len l
 intro d
 have fin : ∀ (c : Nat) (B : List Int), c ≤ l.length → B.Pairwise (· < ·) → (∀ x, x ∈ B ↔ x ∈ (sbS l).take c) → slices_Sort_int_int.f ((sbS l).take c) = some B := by
  intro c B hc h1 h2
  rw [sortI_v (by rw [List.length_take]; omega)]
  congr 1
  exact ltList_eq _ _ (sortI_lt ((sbS_nodup l).sublist (List.take_sublist _ _))) h1 (fun x => by rw [sortI_mem, h2])
 have stop : ∀ (c : Nat) (t : Int) (B : List Int), c ≤ l.length → B.Pairwise (· < ·) → (∀ x, x ∈ B ↔ x ∈ (sbS l).take c) → B.length = c → t = a0 - tsum l B →
   ((if t > 0 then ([], false) else (B, true) : List Int × Bool).1.length ≤ 20 ∧ ((if t > 0 then ([], false) else (B, true) : List Int × Bool).2 = true → (∀ x ∈ (if t > 0 then ([], false) else (B, true) : List Int × Bool).1, 0 ≤ x ∧ x < (l.length : Int)) ∧ a0 ≤ tsum l (if t > 0 then ([], false) else (B, true) : List Int × Bool).1)) ∧
   (if t > 0 then (some (([] : List Int), false)) else ((slices_Sort_int_int.f ((sbS l).take c)).bind fun t254 => (some (t254, true)))) = some (if t > 0 then ([], false) else (B, true)) ∧
   (if t > 0 then (some (([] : List Int), false)) else (some (B, true))) = some (if t > 0 then ([], false) else (B, true)) := by
  intro c t B hc h1 h2 h3 h4
  by_cases q : t > 0
  ·rw [if_pos q, if_pos q, if_pos q]; exact ⟨⟨Nat.zero_le _, fun h => by cases h⟩, rfl, rfl⟩
  ·rw [if_neg q, if_neg q, if_neg q, fin c B hc h1 h2, Option.bind_some]
   refine ⟨⟨by dsimp only; omega, fun _ => ⟨fun x hx => ?_, by dsimp only; omega⟩⟩, rfl, rfl⟩
   have hx := List.mem_of_mem_take ((h2 x).1 hx)
   unfold sbS at hx
   obtain ⟨i, hi, e⟩ := List.mem_map.1 hx
   have := sortN_lt _ _ i hi
   have e2 : (i : Int) = x := e
   omega
 induction d with
 | zero =>
  intro c t B hc ht1 ht2 hB1 hB2 hB3 hB4
  obtain ⟨a1, a2, a3⟩ := stop c t B (by omega) hB1 hB2 hB3 hB4
  refine ⟨_, a1, fun k hk => ?_, fun k hk => ?_⟩
  ·obtain ⟨k, rfl⟩ := k_succ (by omega : 0 < k)
   rw [impl_BestPieces.l0, if_neg (by omega)]; exact a2
  ·obtain ⟨k, rfl⟩ := k_succ (by omega : 0 < k)
   rw [spec_BestPieces.l0, if_neg (by omega)]; exact a3
 | succ d ih =>
  intro c t B hc ht1 ht2 hB1 hB2 hB3 hB4
  have hcl : c < (sbS l).length := by omega
  by_cases q : t ≤ 0
  ·obtain ⟨a1, a2, a3⟩ := stop c t B (by omega) hB1 hB2 hB3 hB4
   refine ⟨_, a1, fun k hk => ?_, fun k hk => ?_⟩
   ·obtain ⟨k, rfl⟩ := k_succ (by omega : 0 < k)
    rw [impl_BestPieces.l0, if_pos (by omega), if_pos (by omega), if_pos (by omega), if_pos q]; exact a2
   ·obtain ⟨k, rfl⟩ := k_succ (by omega : 0 < k)
    rw [spec_BestPieces.l0, if_pos (by omega), if_pos (by omega), if_pos (by omega), if_pos q]; exact a3
  ·obtain ⟨i, e, hi⟩ := sbS_bd hcl
   have hp := pl_getD hL i
   have hr := rdp_nat l i hi
   obtain ⟨p1, p2, _⟩ := pieceB_t hp
   rw [← hr] at p1 p2
   have hnm : ((i : Nat) : Int) ∉ B := by
    rw [hB2, ← e]
    intro hx
    obtain ⟨j, hj, ej⟩ := List.getElem_of_mem hx
    rw [List.length_take] at hj
    rw [List.getElem_take] at ej
    exact List.pairwise_iff_getElem.1 (sbS_nodup l) j c (by omega) hcl (by omega) ej
   have htk : (sbS l).take (c + 1) = (sbS l).take c ++ [(i : Int)] := by rw [List.take_succ_eq_append_getElem hcl, e]
   obtain ⟨B', b0, b1, b2, b3, b4⟩ := spec_l1Put_v B (i : Int) hB1 hnm (by omega) (k := B.length + 1) (by omega)
   have hput : ∀ k, 22 ≤ k → spec_l1Put.f k B (i : Int) = some B' := by
    intro k hk
    obtain ⟨B2, c0, c1, c2, c3, _⟩ := spec_l1Put_v B (i : Int) hB1 hnm (by omega) (k := k) (by omega)
    rw [c0, ltList_eq B2 B' c1 b1 (fun x => by rw [c2, b2])]
   obtain ⟨r, r1, r2, r3⟩ := ih (c + 1) (t - (rd_T29 l (i : Int)).f0) B' (by omega) (by omega) (by omega) b1 (fun x => by rw [b2, hB2, htk, List.mem_append, List.mem_singleton]; exact Or.comm) (by omega) (by rw [tsum_perm l b4]; unfold tsum; omega)
   have tl : ((sbS l).take c).length ≤ 20 := by rw [List.length_take]; omega
   refine ⟨r, r1, fun k hk => ?_, fun k hk => ?_⟩
   ·obtain ⟨k, rfl⟩ := k_succ (by omega : 0 < k)
    rw [impl_BestPieces.l0, if_pos (by omega), if_pos (by omega), if_pos (by omega), if_neg q, if_pos (by omega), rd_get hcl, e, if_pos (by omega), if_pos (by omega), w64 (by omega) (by omega), w64_succ (by omega), ← htk]
    exact r2 k (by omega)
   ·obtain ⟨k, rfl⟩ := k_succ (by omega : 0 < k)
    rw [spec_BestPieces.l0, if_pos (by omega), if_pos (by omega), if_pos (by omega), if_neg q, rd_get hcl, e, if_pos (by omega), if_pos (by omega), hput k (by omega), Option.bind_some, w64 (by omega) (by omega), w64_succ (by omega)]
    exact r3 k (by omega)
theorem best_v (l : List S29) (a : Int) (hn : l.length ≤ 1048576) : ∃ r : List Int × Bool, (r.1.length ≤ 20 ∧ (r.2 = true → plist l = true ∧ (∀ x ∈ r.1, 0 ≤ x ∧ x < (l.length : Int)) ∧ a ≤ tsum l r.1)) ∧ (∀ k, 1048600 ≤ k → impl_BestPieces.f k l a = some r) ∧ (∀ k, 1048600 ≤ k → spec_BestPieces.f k l a = some r) := by
 by_cases h : plist l = true
 ·have hL := plist_t h
  have hle := hL.le
  by_cases q : 0 ≤ a ∧ a ≤ 200000
  ·obtain ⟨r, r1, r2, r3⟩ := best_l hL a l.length 0 a [] (by omega) (by omega) (by omega) List.Pairwise.nil (fun x => by rw [List.take_zero]) rfl (by unfold tsum; omega)
   refine ⟨r, ⟨r1.1, fun h_ => ⟨h, r1.2 h_⟩⟩, fun k hk => ?_, fun k hk => ?_⟩
   ·unfold impl_BestPieces.f
    rw [impl_arePieces_v l hn (by omega), Option.bind_some, if_pos h, if_neg (by omega), decide_eq_false (by omega)]
    obtain ⟨k, rfl⟩ := k_succ (by omega : 0 < k)
    rw [impl_BestPieces.j0, if_neg (by decide), impl_sortedPieces_v hL, Option.bind_some]
    exact r2 k (by omega)
   ·unfold spec_BestPieces.f
    rw [spec_sbList_v l hn (by omega), Option.bind_some, if_pos h, spec_l1In_v, Option.bind_some, decide_eq_true q]
    obtain ⟨k, rfl⟩ := k_succ (by omega : 0 < k)
    rw [spec_BestPieces.j0, if_neg (by decide), spec_sbSort_v hL (by omega), Option.bind_some]
    exact r3 k (by omega)
  ·refine ⟨([], false), ⟨Nat.zero_le _, fun h_ => by cases h_⟩, fun k hk => ?_, fun k hk => ?_⟩
   ·unfold impl_BestPieces.f
    rw [impl_arePieces_v l hn (by omega), Option.bind_some, if_pos h]
    obtain ⟨k, rfl⟩ := k_succ (by omega : 0 < k)
    by_cases q1 : a < 0
    ·rw [if_pos q1, impl_BestPieces.j0, if_pos rfl]
    ·rw [if_neg q1, decide_eq_true (by omega), impl_BestPieces.j0, if_pos rfl]
   ·unfold spec_BestPieces.f
    rw [spec_sbList_v l hn (by omega), Option.bind_some, if_pos h, spec_l1In_v, Option.bind_some, decide_eq_false q]
    obtain ⟨k, rfl⟩ := k_succ (by omega : 0 < k)
    rw [spec_BestPieces.j0, if_pos (by decide)]
 ·refine ⟨([], false), ⟨Nat.zero_le _, fun h_ => by cases h_⟩, fun k hk => ?_, fun k hk => ?_⟩
  ·unfold impl_BestPieces.f
   rw [impl_arePieces_v l hn (by omega), Option.bind_some, if_neg h]
   obtain ⟨k, rfl⟩ := k_succ (by omega : 0 < k)
   rw [impl_BestPieces.j0, if_pos rfl]
  ·unfold spec_BestPieces.f
   rw [spec_sbList_v l hn (by omega), Option.bind_some, if_neg h]
   obtain ⟨k, rfl⟩ := k_succ (by omega : 0 < k)
   rw [spec_BestPieces.j0, if_pos rfl]
theorem least_d (a b : Int) : ∃ v, spec_l1Least.f a b = some v ∧ v ≤ a := by
 unfold spec_l1Least.f
 split
 ·exact ⟨_, rfl, Int.le_refl _⟩
 ·exact ⟨_, rfl, by omega⟩
theorem most_d (a b : Int) : ∃ v, spec_l1Most.f a b = some v ∧ (v = a ∨ v = b) := by
 unfold spec_l1Most.f
 split
 ·exact ⟨_, rfl, .inl rfl⟩
 ·exact ⟨_, rfl, .inr rfl⟩
theorem piece_j {s : List Int} (hs : Bytes s) (hl : s.length ≤ 9223372036854775807) (p st a b c : Int) (h0 : 0 ≤ p) (h1 : p ≤ 999990000) {k : Nat} (hk : 0 < k) :
  ∃ a' b' c' p' st', spec_l1Cur_piece.j0 k s p st a b c = some (a', b', c', p', st') ∧ p ≤ p' ∧ p' ≤ p + 4 := by
 obtain ⟨k, rfl⟩ := k_succ hk
 obtain ⟨v, p1, st1, e1, _, _, q0, q1⟩ := spec_l1Cur_pick_d hs hl p st 24 h0 (by omega) (by omega)
 rw [spec_l1Cur_piece.j0, e1, Option.bind_some]; dsimp only
 have am : ∀ l : List Int, 1 ≤ l.length → l.length ≤ 1000 → ∃ v p' st', spec_l1Cur_among.f s p1 st1 l = some (v, p', st') ∧ v ∈ l ∧ p1 ≤ p' ∧ p' ≤ p1 + 2 := fun l a b => spec_l1Cur_among_d hs hl p1 st1 l (by omega) (by omega) a b
 by_cases c0 : v = 0
 ·rw [if_pos c0]
  obtain ⟨u, p2, st2, e2, _, r0, r1⟩ := am [(-1), 10001] (by simp) (by simp)
  rw [e2, Option.bind_some]; exact ⟨_, _, _, _, _, rfl, by dsimp only; omega, by dsimp only; omega⟩
 ·rw [if_neg c0]
  by_cases c1 : v = 1
  ·rw [if_pos c1]
   obtain ⟨u, p2, st2, e2, _, r0, r1⟩ := am [(-1), wrap64 (1000 * a), wrap64 ((wrap64 (1000 * a)) + 1)] (by simp) (by simp)
   rw [e2, Option.bind_some]; exact ⟨_, _, _, _, _, rfl, by dsimp only; omega, by dsimp only; omega⟩
  ·rw [if_neg c1]
   by_cases c2 : v = 2
   ·rw [if_pos c2]
    obtain ⟨u, p2, st2, e2, _, r0, r1⟩ := am [(-1), 4, 5] (by simp) (by simp)
    rw [e2, Option.bind_some]; exact ⟨_, _, _, _, _, rfl, by dsimp only; omega, by dsimp only; omega⟩
   ·rw [if_neg c2]; exact ⟨_, _, _, _, _, rfl, by omega, by omega⟩
theorem piece_d {s : List Int} (hs : Bytes s) (hl : s.length ≤ 9223372036854775807) (p st : Int) (h0 : 0 ≤ p) (h1 : p ≤ 999980000) {k : Nat} (hk : 0 < k) :
  ∃ a b c p' st', spec_l1Cur_piece.f k s p st = some (a, b, c, p', st') ∧ p ≤ p' ∧ p' ≤ p + 20 := by
 unfold spec_l1Cur_piece.f
 obtain ⟨v1, p1, st1, e1, _, q1, q1'⟩ := spec_l1Cur_among_d hs hl p st [0, 1, 100, 500, 2500, 10000] h0 (by omega) (by simp) (by simp)
 rw [e1, Option.bind_some]; dsimp only
 obtain ⟨v2, p2, st2, e2, _, _, q2, q2'⟩ := spec_l1Cur_pick_d hs hl p1 st1 5 (by omega) (by omega) (by omega)
 rw [e2, Option.bind_some]; dsimp only
 obtain ⟨v3, p3, st3, e3, _, _, q3, q3'⟩ := spec_l1Cur_pick_d hs hl p2 st2 60 (by omega) (by omega) (by omega)
 rw [e3, Option.bind_some]; dsimp only
 obtain ⟨b, p4, st4, e4, q4, q4'⟩ := spec_l1Cur_one_d hs hl p3 st3 2 (by omega) (by omega) (by omega)
 rw [e4, Option.bind_some]; dsimp only
 by_cases c : b = true
 ·rw [if_pos c]
  obtain ⟨u, e5, hu⟩ := least_d 60000 (wrap64 ((wrap64 (1000 * v1)) + 1))
  obtain ⟨u2, e6, hu2⟩ := most_d 1 u
  obtain ⟨v7, p7, st7, e7, _, _, q7, q7'⟩ := spec_l1Cur_pick_d hs hl p4 st4 u2 (by omega) (by omega) (by omega)
  rw [e5, Option.bind_some, e6, Option.bind_some, e7, Option.bind_some]; dsimp only
  obtain ⟨a', b', c', p', st', e, r0, r1⟩ := piece_j hs hl p7 st7 v1 v7 v2 (by omega) (by omega) hk
  exact ⟨a', b', c', p', st', e, by omega, by omega⟩
 ·rw [if_neg c]
  obtain ⟨a', b', c', p', st', e, r0, r1⟩ := piece_j hs hl p4 st4 v1 (wrap64 (v1 * v3)) v2 (by omega) (by omega) hk
  exact ⟨a', b', c', p', st', e, by omega, by omega⟩
theorem DrawCoarse_l (X Y Z : Int) (g r : List Int) (n : Nat) (hn : n ≤ 200) : ∀ (d k i : Nat) (t : List Int), i + d = n → t.length = n → d < k →
  ∃ t', spec_DrawCoarseModel.l0 k (n : Int) (i : Int) X Y Z t g r = some (X, Y, Z, t', g, r) := by
 intro d
 induction d with
 | zero =>
  intro k i t hi ht hk
  obtain ⟨k, rfl⟩ := k_succ (by omega : 0 < k)
  rw [spec_DrawCoarseModel.l0, if_neg (by omega)]
  exact ⟨t, rfl⟩
 | succ d ih =>
  intro k i t hi ht hk
  obtain ⟨k, rfl⟩ := k_succ (by omega : 0 < k)
  obtain ⟨v, e, _⟩ := least_d (rd t (i : Int)) 2500
  rw [spec_DrawCoarseModel.l0, if_pos (by omega), if_pos (by omega), if_pos (by omega), e, Option.bind_some, w64_succ (by omega)]
  exact ih k (i + 1) _ (by omega) (by rw [List.length_set]; exact ht) (by omega)
theorem DrawCoarse_d {s : List Int} (hs : Bytes s) (hl : s.length ≤ 9223372036854775807) {k : Nat} (hk : 700 < k) : ∃ X Y Z t g r, spec_DrawCoarseModel.f k s = some (X, Y, Z, t, g, r) := by
 unfold spec_DrawCoarseModel.f
 obtain ⟨X, Y, Z, t, g, r, p, st, e, a1, a2, a3, q0, q1⟩ := spec_l1Cur_anyModel_d hs hl 0 0 (by omega) (by omega) (by omega : 200 < k)
 rw [e, Option.bind_some]; dsimp only
 obtain ⟨b, p', st', e2, _, _⟩ := spec_l1Cur_one_d hs hl p st 2 (by omega) (by omega) (by omega)
 rw [e2, Option.bind_some]; dsimp only
 by_cases c : b = true
 ·rw [if_pos c]
  obtain ⟨t', e3⟩ := DrawCoarse_l X Y Z g r t.length a1 t.length k 0 t (by omega) rfl (by omega)
  exact ⟨X, Y, Z, t', g, r, e3⟩
 ·rw [if_neg c]
  exact ⟨X, Y, Z, t, g, r, rfl⟩
theorem pieces_l {s : List Int} (hs : Bytes s) (hl : s.length ≤ 9223372036854775807) (n : Nat) (hn : n ≤ 30) : ∀ (d k : Nat) (p st : Int) (acc : List S29), acc.length + d = n → d + 1 < k → 0 ≤ p → p + 20 * (d : Int) ≤ 999970000 →
  ∃ l' p' st', spec_l1Cur_pieces.l0 k acc (n : Int) s p st = some (l', p', st') ∧ l'.length = n ∧ p ≤ p' ∧ p' ≤ p + 20 * (d : Int) := by
 intro d
 induction d with
 | zero =>
  intro k p st acc ha hk h0 h1
  obtain ⟨k, rfl⟩ := k_succ (by omega : 0 < k)
  rw [spec_l1Cur_pieces.l0, if_neg (by omega)]
  exact ⟨_, _, _, rfl, by omega, by omega, by omega⟩
 | succ d ih =>
  intro k p st acc ha hk h0 h1
  obtain ⟨k, rfl⟩ := k_succ (by omega : 0 < k)
  obtain ⟨a, b, c, p1, st1, e, q0, q1⟩ := piece_d hs hl p st h0 (by omega) (by omega : 0 < k)
  rw [spec_l1Cur_pieces.l0, if_pos (by omega), e, Option.bind_some, if_pos (by omega)]; dsimp only
  obtain ⟨l', p', st', e2, r0, r1, r2⟩ := ih k p1 st1 (acc ++ [⟨a, b, c⟩]) (by simp; omega) (by omega) (by omega) (by omega)
  exact ⟨l', p', st', e2, r0, by omega, by omega⟩
theorem pieces_d {s : List Int} (hs : Bytes s) (hl : s.length ≤ 9223372036854775807) {k : Nat} (hk : 50 < k) : ∃ l' p' st', spec_l1Cur_pieces.f k s 0 0 = some (l', p', st') ∧ l'.length ≤ 30 ∧ 0 ≤ p' ∧ p' ≤ 1000 := by
 unfold spec_l1Cur_pieces.f
 obtain ⟨v1, p1, st1, e1, v0, v1', q1, q1'⟩ := spec_l1Cur_pick_d hs hl 0 0 6 (by omega) (by omega) (by omega)
 rw [e1, Option.bind_some]; dsimp only
 obtain ⟨b, p2, st2, e2, q2, q2'⟩ := spec_l1Cur_one_d hs hl p1 st1 20 (by omega) (by omega) (by omega)
 rw [e2, Option.bind_some]; dsimp only
 obtain ⟨k, rfl⟩ := k_succ (by omega : 0 < k)
 by_cases c : b = true
 ·rw [if_pos c]
  obtain ⟨v3, p3, st3, e3, hv, q3, q3'⟩ := spec_l1Cur_among_d hs hl p2 st2 [0, 20, 21] (by omega) (by omega) (by simp) (by simp)
  rw [e3, Option.bind_some, spec_l1Cur_pieces.j0]; dsimp only
  simp only [List.mem_cons, List.not_mem_nil, or_false] at hv
  obtain ⟨n, rfl⟩ : ∃ n : Nat, v3 = (n : Int) := ⟨v3.toNat, by omega⟩
  obtain ⟨l', p', st', e4, r0, r1, r2⟩ := pieces_l hs hl n (by omega) n k p3 st3 [] (by simp) (by omega) (by omega) (by omega)
  exact ⟨l', p', st', e4, by omega, by omega, by omega⟩
 ·rw [if_neg c, spec_l1Cur_pieces.j0, w64 (by omega) (by omega)]
  obtain ⟨n, hn⟩ : ∃ n : Nat, 1 + v1 = (n : Int) := ⟨(1 + v1).toNat, by omega⟩
  rw [hn]
  obtain ⟨l', p', st', e4, r0, r1, r2⟩ := pieces_l hs hl n (by omega) n k p2 st2 [] (by simp) (by omega) (by omega) (by omega)
  exact ⟨l', p', st', e4, by omega, by omega, by omega⟩
theorem DrawBest_l {s : List Int} (hs : Bytes s) (hl : s.length ≤ 9223372036854775807) (l : List S29) (p st : Int) (h0 : 0 ≤ p) (h1 : p ≤ 1000) (hn : l.length ≤ 30) : ∀ (d k i : Nat) (x : Int), i + d = l.length → d < k →
  ∃ n, spec_DrawBestPieces.l0 k l x l (l.length : Int) (i : Int) s p st = some (l, n) := by
 intro d
 induction d with
 | zero =>
  intro k i x hi hk
  obtain ⟨k, rfl⟩ := k_succ (by omega : 0 < k)
  rw [spec_DrawBestPieces.l0, if_neg (by omega)]
  obtain ⟨v, p', st', e, _, _, _⟩ := spec_l1Cur_among_d hs hl p st [0, 1, 100, 3000, x, wrap64 (x + 1), wrap64 (Int.tdiv x 2), 200000, 200001, (-1)] h0 (by omega) (by simp) (by simp)
  rw [e, Option.bind_some]
  exact ⟨_, rfl⟩
 | succ d ih =>
  intro k i x hi hk
  obtain ⟨k, rfl⟩ := k_succ (by omega : 0 < k)
  rw [spec_DrawBestPieces.l0, if_pos (by omega), if_pos (by omega), if_pos (by omega), w64_succ (by omega)]
  exact ih k (i + 1) _ (by omega) (by omega)
theorem DrawBest_d {s : List Int} (hs : Bytes s) (hl : s.length ≤ 9223372036854775807) {k : Nat} (hk : 50 < k) : ∃ l n, spec_DrawBestPieces.f k s = some (l, n) ∧ l.length ≤ 30 := by
 unfold spec_DrawBestPieces.f
 obtain ⟨l, p, st, e, h, h0, h1⟩ := pieces_d hs hl hk
 rw [e, Option.bind_some]; dsimp only
 obtain ⟨n, e2⟩ := DrawBest_l hs hl l p st h0 h1 h l.length k 0 0 (by omega) (by omega)
 exact ⟨l, n, e2, h⟩
theorem DrawJoin_d {s : List Int} (hs : Bytes s) (hl : s.length ≤ 9223372036854775807) {k : Nat} (hk : 50 < k) : ∃ l, spec_DrawJoinPieces.f k s = some l ∧ l.length ≤ 30 := by
 unfold spec_DrawJoinPieces.f
 obtain ⟨l, p, st, e, h, h0, h1⟩ := pieces_d hs hl hk
 rw [e, Option.bind_some]
 exact ⟨l, rfl, h⟩
theorem DrawBlock_d {s : List Int} (hs : Bytes s) (hl : s.length ≤ 9223372036854775807) {k : Nat} (hk : 0 < k) : ∃ X Y Z i, spec_DrawCoarseBlock.f k s = some (X, Y, Z, i) := by
 obtain ⟨k, rfl⟩ := k_succ hk
 unfold spec_DrawCoarseBlock.f
 obtain ⟨X, Y, Z, p, st, e, q0, q1⟩ := anyGridk_d hs hl 0 0 (by omega) (by omega) k
 rw [e, Option.bind_some]; dsimp only
 rw [spec_grGood_v, Option.bind_some]
 by_cases c : gridB X Y Z = true
 ·have hp := grid_pos c
  rw [if_pos c, spec_grCount_v c, Option.bind_some, w64 (by omega) (by omega)]
  obtain ⟨v1, p1, st1, e1, _, _, r0, r1⟩ := spec_l1Cur_pick_d hs hl p st (X * Y * Z + 1) (by omega) (by omega) (by omega)
  rw [e1, Option.bind_some]; dsimp only
  obtain ⟨v2, p2, st2, e2, _, _, _, _⟩ := spec_l1Cur_pick_d hs hl p1 st1 20 (by omega) (by omega) (by omega)
  rw [e2, Option.bind_some]
  exact ⟨_, _, _, _, rfl⟩
 ·rw [if_neg c]; exact ⟨_, _, _, _, rfl⟩
theorem qInts_l (l : List Int) (hn : l.length ≤ 1048576) : ∀ (d k i : Nat), i + d = l.length → d < k → laws_qInts.l0 k l l (l.length : Int) (i : Int) = some true := by
 intro d
 induction d with
 | zero =>
  intro k i hi hk
  obtain ⟨k, rfl⟩ := k_succ (by omega : 0 < k)
  rw [laws_qInts.l0, if_neg (by omega)]
 | succ d ih =>
  intro k i hi hk
  obtain ⟨k, rfl⟩ := k_succ (by omega : 0 < k)
  rw [laws_qInts.l0, if_pos (by omega), if_pos (by omega), if_pos (by omega), if_pos (by omega), if_pos rfl, w64_succ (by omega)]
  exact ih k (i + 1) (by omega) (by omega)
theorem qInts_v (l : List Int) (hn : l.length ≤ 1048576) {k : Nat} (hk : l.length < k) : laws_qInts.f k l l = some true := by
 unfold laws_qInts.f
 rw [if_pos rfl]
 exact qInts_l l hn l.length k 0 (by omega) hk
theorem qModel_v (X Y Z : Int) (t g r : List Int) (h1 : t.length ≤ 200) (h2 : g.length ≤ 200) (h3 : r.length ≤ 200) {k : Nat} (hk : 200 < k) : laws_qModel.f k X Y Z t g r X Y Z t g r = some true := by
 unfold laws_qModel.f
 rw [if_pos (by simp), qInts_v t (by omega) (by omega), Option.bind_some, if_pos rfl, qInts_v g (by omega) (by omega), Option.bind_some, if_pos rfl, qInts_v r (by omega) (by omega), Option.bind_some]
theorem richB_asym {p q : S29} (h : richB p q = true) : richB q p = false := by
 unfold richB at h ⊢
 by_cases c : p.f0 = 0 ∨ q.f0 = 0
 ·rw [if_pos c, decide_eq_true_eq] at h
  rw [if_pos (by omega), decide_eq_false (by omega)]
 ·rw [if_neg c, decide_eq_true_eq] at h
  rw [if_neg (by omega), decide_eq_false (by omega)]
theorem posL_at (lt : Nat → Bool) (out : List Nat) : ∀ n, (0 < posL lt out n → lt (out.getD (posL lt out n - 1) 0) = false) ∧ (posL lt out n < n → lt (out.getD (posL lt out n) 0) = true)
 | 0 => ⟨fun h => by rw [posL] at h; omega, fun h => by omega⟩
 | n + 1 => by
  have ih := posL_at lt out n
  have hle := posL_le lt out n
  rw [posL]
  by_cases c : lt (out.getD n 0) = true
  ·rw [if_pos c]
   refine ⟨ih.1, fun _ => ?_⟩
   by_cases e : posL lt out n = n
   ·rw [e]; exact c
   ·exact ih.2 (by omega)
  ·rw [if_neg c]
   exact ⟨fun _ => by rw [Nat.add_sub_cancel]; simpa using c, fun h => by omega⟩
theorem insA_getD (x : Nat) (out : List Nat) (k j : Nat) (hk : k ≤ out.length) : (insA x out k).getD j 0 = if j < k then out.getD j 0 else if j = k then x else out.getD (j - 1) 0 := by
 have hA : (out.take k).length = k := by rw [List.length_take]; omega
 unfold insA
 rw [List.getD_eq_getElem?_getD, List.getD_eq_getElem?_getD, List.getD_eq_getElem?_getD]
 by_cases c : j < k
 ·rw [if_pos c, List.getElem?_append_left (by omega), List.getElem?_take, if_pos c]
 ·rw [if_neg c, List.getElem?_append_right (by omega), hA]
  by_cases e : j = k
  ·rw [if_pos e, e, Nat.sub_self]; rfl
  ·obtain ⟨m, rfl⟩ : ∃ m, j = k + 1 + m := ⟨j - k - 1, by omega⟩
   rw [if_neg e, show k + 1 + m - k = m + 1 by omega, List.getElem?_cons_succ, List.getElem?_drop, show k + 1 + m - 1 = k + m by omega]
theorem sortN_adj (lt : Nat → Nat → Bool) (ha : ∀ x y, lt x y = true → lt y x = false) : ∀ i j, j + 1 < i → lt ((sortN lt i).getD (j + 1) 0) ((sortN lt i).getD j 0) = false := by
 intro i
 induction i with
 | zero => intro j h; omega
 | succ i ih =>
  intro j h
  have hl := sortN_len lt i
  have hp := posL_at (lt i) (sortN lt i) (sortN lt i).length
  have hle := posL_le (lt i) (sortN lt i) (sortN lt i).length
  rw [sortN, insN, insA_getD _ _ _ _ hle, insA_getD _ _ _ _ hle]
  generalize posL (lt i) (sortN lt i) (sortN lt i).length = k at hp hle
  by_cases c1 : j + 1 < k
  ·rw [if_pos c1, if_pos (by omega)]; exact ih j (by omega)
  ·rw [if_neg c1]
   by_cases c2 : j + 1 = k
   ·rw [if_pos c2, if_pos (by omega)]
    have := hp.1 (by omega)
    rwa [← c2, Nat.add_sub_cancel] at this
   ·rw [if_neg c2, if_neg (by omega)]
    by_cases c3 : j = k
    ·rw [if_pos c3, Nat.add_sub_cancel, c3]
     exact ha _ _ (hp.2 (by omega))
    ·obtain ⟨m, rfl⟩ : ∃ m, j = m + 1 := ⟨j - 1, by omega⟩
     rw [if_neg c3, Nat.add_sub_cancel, Nat.add_sub_cancel]; exact ih m (by omega)
theorem sbS_adj {l : List S29} {c : Nat} (h : c + 1 < (sbS l).length) : richB (rd_T29 l (rd (sbS l) ((c + 1 : Nat) : Int))) (rd_T29 l (rd (sbS l) (c : Int))) = false := by
 have hl := sbS_len l
 have ha := sortN_adj (ltN l) (fun x y h => richB_asym h) l.length c (by omega)
 have hm := sortN_lt (ltN l) l.length
 have hsl := sortN_len (ltN l) l.length
 have g : ∀ j, j < l.length → (sortN (ltN l) l.length).getD j 0 < l.length := fun j hj => by
  rw [List.getD_eq_getElem?_getD, List.getElem?_eq_getElem (by omega)]
  exact hm _ (List.getElem_mem _)
 unfold sbS
 rw [rd_ofNat _ _ (by omega), rd_ofNat _ _ (by omega), rdp_nat l _ (g _ (by omega)), rdp_nat l _ (g _ (by omega))]
 exact ha
theorem sorted_l {l : List S29} (hL : IsPl l) (b8 : Bool) (x10 x13 : Int) (b15 : Bool) (x16 : List Int) (b19 : Bool) (a1 a2 a3 : Int) (a4 a5 a6 : List Int) (c1 c2 c3 : Int) (c4 c5 c6 : List Int) (e1 e2 e3 : Int) (e4 e5 e6 : List Int) (B : Nat) (R : Option Bool)
  (hR : ∀ k, B ≤ k → laws_FnCoarse.j2 k b8 x10 l x13 b15 x16 b19 a1 a2 a3 a4 a5 a6 c1 c2 c3 c4 c5 c6 e1 e2 e3 e4 e5 e6 = R) : ∀ (d k c : Nat) (q : S29), c + d = l.length → B + d + 1 ≤ k → (∀ m, c = m + 1 → q = rd_T29 l (rd (sbS l) (m : Int))) →
  laws_FnCoarse.l0 k b8 x10 l x13 b15 x16 b19 (sbS l) (sbS l) ((sbS l).length : Int) (c : Int) a1 a2 a3 a4 a5 a6 c1 c2 c3 c4 c5 c6 e1 e2 e3 e4 e5 e6 q.f0 q.f1 q.f2 = R := by
 have hn := hL.le
 have hS := sbS_len l
 intro d
 induction d with
 | zero =>
  intro k c q hc hk hq
  obtain ⟨k, rfl⟩ := k_succ (by omega : 0 < k)
  rw [laws_FnCoarse.l0, if_neg (by omega), if_pos (by omega)]
  exact hR k (by omega)
 | succ d ih =>
  intro k c q hc hk hq
  obtain ⟨k, rfl⟩ := k_succ (by omega : 0 < k)
  have hcl : c < (sbS l).length := by omega
  obtain ⟨i, e, hi⟩ := sbS_bd hcl
  have hrd : rd (sbS l) (c : Int) = (i : Int) := by rw [rd_get hcl, e]
  have hp := pl_getD hL i
  have hr := rdp_nat l i hi
  rw [← hr] at hp
  have go := ih k (c + 1) (rd_T29 l (i : Int)) (by omega) (by omega) (fun m hm => by
   have hcm : c = m := by omega
   rw [← hcm, hrd])
  rw [laws_FnCoarse.l0, if_pos (by omega), if_pos (by omega), if_pos (by omega), hrd, if_pos (by omega), if_pos (by omega), w64_succ (by omega)]
  by_cases c0 : (c : Int) > 0
  ·obtain ⟨m, rfl⟩ : ∃ m, c = m + 1 := ⟨c - 1, by omega⟩
   have ha := sbS_adj hcl
   obtain ⟨i', e', hi'⟩ := sbS_bd (by omega : m < (sbS l).length)
   have hrd' : rd (sbS l) (m : Int) = (i' : Int) := by rw [rd_get (by omega), e']
   have hq' := hq m rfl
   have hpq := pl_getD hL i'
   rw [← rdp_nat l i' hi', ← hrd', ← hq'] at hpq
   rw [← hq', hrd] at ha
   clear hq' hrd' hrd hq hr e e' ih
   generalize rd_T29 l (i : Int) = p at *
   have x1 := rich_bd hp hpq
   have x2 := rich_bd hpq hp
   obtain ⟨y1, _⟩ := pieceB_t hp
   obtain ⟨z1, _⟩ := pieceB_t hpq
   rw [if_pos c0, w64 (x := p.f1 * q.f0) (by omega) (by omega), w64 (x := q.f1 * p.f0) (by omega) (by omega)]
   unfold richB at ha
   by_cases d1 : q.f0 > 0
   ·rw [if_pos d1]
    by_cases d2 : p.f0 > 0
    ·rw [if_neg (by omega), decide_eq_false_iff_not] at ha
     rw [if_pos d2, if_neg ha, if_neg (by omega)]; exact go
    ·rw [if_neg d2, if_neg (by omega)]; exact go
   ·rw [if_neg d1, if_pos (by omega)]
    rw [if_pos (by omega), decide_eq_false_iff_not] at ha
    rw [if_neg (by omega)]; exact go
  ·rw [if_neg c0]; exact go
theorem best_sum {l : List S29} (hL : IsPl l) (b8 : Bool) (x10 x13 : Int) (x16 : List Int) (a1 a2 a3 : Int) (a4 a5 a6 : List Int) (c1 c2 c3 : Int) (c4 c5 c6 : List Int) (e1 e2 e3 : Int) (e4 e5 e6 : List Int) (B : Nat) (R : Option Bool) (hx : x16.length ≤ 20) (hm : ∀ x ∈ x16, 0 ≤ x ∧ x < (l.length : Int)) (hs : x13 ≤ tsum l x16)
  (hR : ∀ k, B ≤ k → laws_FnCoarse.j4 k b8 x10 a1 a2 a3 a4 a5 a6 c1 c2 c3 c4 c5 c6 e1 e2 e3 e4 e5 e6 = R) : ∀ (d k c : Nat) (s : Int), c + d = x16.length → B + d + 1 ≤ k → 0 ≤ s → s ≤ 10000 * (c : Int) → s + tsum l (x16.drop c) = tsum l x16 →
  laws_FnCoarse.l1 k b8 x10 l x13 true s x16 (x16.length : Int) (c : Int) a1 a2 a3 a4 a5 a6 c1 c2 c3 c4 c5 c6 e1 e2 e3 e4 e5 e6 = R := by
 intro d
 induction d with
 | zero =>
  intro k c s hc hk s0 s1 hsum
  obtain ⟨k, rfl⟩ := k_succ (by omega : 0 < k)
  rw [List.drop_eq_nil_of_le (by omega), show tsum l [] = 0 from rfl] at hsum
  rw [laws_FnCoarse.l1, if_neg (by omega), if_neg (by omega), if_pos rfl]
  exact hR k (by omega)
 | succ d ih =>
  intro k c s hc hk s0 s1 hsum
  obtain ⟨k, rfl⟩ := k_succ (by omega : 0 < k)
  have hcl : c < x16.length := by omega
  have hmm := hm _ (List.getElem_mem hcl)
  obtain ⟨i, hi⟩ : ∃ i : Nat, x16[c] = (i : Int) := ⟨x16[c].toNat, by omega⟩
  have hp := pl_getD hL i
  rw [← rdp_nat l i (by omega)] at hp
  obtain ⟨p1, p2, _⟩ := pieceB_t hp
  rw [List.drop_eq_getElem_cons hcl, tsum, hi] at hsum
  rw [laws_FnCoarse.l1, if_pos (by omega), if_pos (by omega), if_pos (by omega), rd_get hcl, hi, if_pos (by omega), if_pos (by omega), w64 (by omega) (by omega), w64_succ (by omega)]
  exact ih k (c + 1) _ (by omega) (by omega) (by omega) (by omega) (by omega)
theorem remS_eq {f g : Int → Int} : ∀ (d : Nat) (q : Int), (∀ j, q ≤ j → j < q + (d : Int) → f j = g j) → remS f q d = remS g q d
 | 0, q, _ => rfl
 | d + 1, q, h => by
  unfold remS
  rw [h q (by omega) (by omega), remS_eq d (q + 1) (fun j h1 h2 => h j (by omega) (by omega))]
theorem remS_sub (f g : Int → Int) : ∀ (d : Nat) (q : Int), remS (fun q => f q - g q) q d = remS f q d - remS g q d
 | 0, q => rfl
 | d + 1, q => by unfold remS; rw [remS_sub f g d (q + 1)]; omega
theorem totM_rem (t g : List Int) : ∀ (d i : Nat), totM t g i d = remS (fun j => rd t j * rd g j) (i : Int) d
 | 0, i => rfl
 | d + 1, i => by unfold totM remS; rw [totM_rem t g d (i + 1)]; rfl
theorem partT (X Y : Int) (t g r : List Int) (n : Nat) : ∀ (d i : Nat), (∀ j : Nat, i ≤ j → j < i + d → 0 ≤ coarseV X Y (j : Int) ∧ coarseV X Y (j : Int) < (n : Int)) → remS (fun q => sT (grpD X Y t g r q i d)) 0 n = remS (rd t) (i : Int) d
 | 0, i, _ => by simpa [grpD, sT, remS] using remS_zero n 0
 | d + 1, i, h => by
  have ih := partT X Y t g r n d (i + 1) (fun j h1 h2 => h j (by omega) (by omega))
  have hc := h i (by omega) (by omega)
  have e : (fun q => sT (grpD X Y t g r q i (d + 1))) = fun q => (if coarseV X Y (i : Int) = q then rd t (i : Int) else 0) + sT (grpD X Y t g r q (i + 1) d) := by
   funext q
   show sT (if coarseV X Y (i : Int) = q then pcI t g r (i : Int) :: grpD X Y t g r q (i + 1) d else grpD X Y t g r q (i + 1) d) = _
   by_cases hq : coarseV X Y (i : Int) = q
   ·rw [if_pos hq, if_pos hq, sT_cons]; rfl
   ·rw [if_neg hq, if_neg hq]; omega
  rw [e, remS_add (fun q => if coarseV X Y (i : Int) = q then rd t (i : Int) else 0) (fun q => sT (grpD X Y t g r q (i + 1) d)), remS_ite, if_pos (by omega), ih]
  rfl
def cL (f : List S29 → Int) (G : Int → List S29) : Nat → Int → List Int
 | 0, _ => []
 | d + 1, q => f (G q) :: cL f G d (q + 1)
theorem cL_len (f : List S29 → Int) (G : Int → List S29) : ∀ d q, (cL f G d q).length = d
 | 0, q => rfl
 | d + 1, q => by unfold cL; rw [List.length_cons, cL_len f G d (q + 1)]
theorem cL_rd (f : List S29 → Int) (G : Int → List S29) : ∀ (d : Nat) (q : Int) (i : Nat), i < d → rd (cL f G d q) (i : Int) = f (G (q + (i : Int)))
 | 0, q, i, h => by omega
 | d + 1, q, i, h => by
  unfold cL
  cases i with
  | zero => rw [rd_nat]; simp
  | succ i =>
   have := cL_rd f G d (q + 1) i (by omega)
   rw [rd_nat] at this ⊢
   rw [List.getD_cons_succ, this]
   congr 2; omega
theorem cL_mem (f : List S29 → Int) (G : Int → List S29) : ∀ (d : Nat) (q x : Int), x ∈ cL f G d q → ∃ j : Int, q ≤ j ∧ j < q + (d : Int) ∧ x = f (G j)
 | 0, q, x, h => by cases h
 | d + 1, q, x, h => by
  unfold cL at h
  rcases List.mem_cons.1 h with e | e
  ·exact ⟨q, by omega, by omega, e⟩
  ·obtain ⟨j, h1, h2, h3⟩ := cL_mem f G d (q + 1) x e
   exact ⟨j, by omega, by omega, h3⟩
def rV (l : List S29) : Int := roundV (sT l) (sM l)
theorem coF_ok (x y z : Int) (G : Int → List S29) : ∀ (d : Nat) (q gap : Int) (a b c : List Int), (coF x y z G d q gap a b c).2.2.2.2.2.2.2 = true →
  coF x y z G d q gap a b c = (x, y, z, a ++ cL sT G d q, b ++ cL rV G d q, c ++ cL joinR G d q, gap + remS (fun q => sT (G q) * rV (G q) - sM (G q)) q d, true) ∧ ∀ j, q ≤ j → j < q + (d : Int) → ¬ sT (G j) > 10000
 | 0, q, gap, a, b, c, _ => by
  refine ⟨?_, fun j h1 h2 => by omega⟩
  simp [coF, cL, remS]
 | d + 1, q, gap, a, b, c, h => by
  unfold coF at h ⊢
  by_cases hT : sT (G q) > 10000
  ·rw [if_pos hT] at h; cases h
  ·rw [if_neg hT] at h ⊢
   obtain ⟨e, he⟩ := coF_ok x y z G d (q + 1) _ _ _ _ h
   refine ⟨?_, fun j h1 h2 => ?_⟩
   ·rw [e]
    simp only [cL, remS, List.append_assoc, List.cons_append, List.nil_append, Prod.mk.injEq, and_true, true_and, rV]
    omega
   ·by_cases e2 : j = q
    ·rw [e2]; exact hT
    ·exact he j (by omega) (by omega)
def rng (i : Nat) : Nat → List Int
 | 0 => []
 | d + 1 => (i : Int) :: rng (i + 1) d
theorem rng_len : ∀ (d i : Nat), (rng i d).length = d
 | 0, i => rfl
 | d + 1, i => by unfold rng; rw [List.length_cons, rng_len d (i + 1)]
theorem rng_app : ∀ (d i : Nat), rng i d ++ [((i + d : Nat) : Int)] = rng i (d + 1)
 | 0, i => rfl
 | d + 1, i => by
  have := rng_app d (i + 1)
  rw [show i + 1 + d = i + (d + 1) by omega] at this
  rw [rng, List.cons_append, this]; rfl
theorem rng_take : ∀ (m d i : Nat), m ≤ d → (rng i d).take m = rng i m
 | 0, d, i, _ => by rw [List.take_zero]; rfl
 | m + 1, d, i, h => by
  obtain ⟨d, rfl⟩ : ∃ e, d = e + 1 := ⟨d - 1, by omega⟩
  rw [rng, List.take_succ_cons, rng_take m d (i + 1) (by omega)]; rfl
theorem rng_ris (n : Int) : ∀ (d i : Nat) (p : Int), p < (i : Int) → (i : Int) + (d : Int) ≤ n → risF n p (rng i d) = true
 | 0, i, p, _, _ => rfl
 | d + 1, i, p, h1, h2 => by
  rw [rng, risF_cons, rng_ris n d (i + 1) (i : Int) (by omega) (by omega), decide_eq_true (by omega)]; rfl
theorem sumT_rng (t : List Int) : ∀ (d i : Nat), sumT t (rng i d) = remS (rd t) (i : Int) d
 | 0, i => by simp [sumT, rng, remS]
 | d + 1, i => by
  have := sumT_rng t d (i + 1)
  unfold sumT at this ⊢
  rw [rng, List.map_cons, List.sum_cons, this, remS]; rfl
theorem sumM_rng (t g : List Int) : ∀ (d i : Nat), sumM t g (rng i d) = remS (fun j => rd t j * rd g j) (i : Int) d
 | 0, i => by simp [sumM, rng, remS]
 | d + 1, i => by
  have := sumM_rng t g d (i + 1)
  unfold sumM at this ⊢
  rw [rng, List.map_cons, List.sum_cons, this, remS]; rfl
theorem SumsOf_rng {X Y Z : Int} {t g r : List Int} (h : IsMod X Y Z t g r) (d : Nat) (hd : d ≤ t.length) {k : Nat} (hk : 1048576 < k) :
  impl_SumsOf.f k X Y Z t g r (rng 0 d) = some (remS (rd t) 0 d, remS (fun j => rd t j * rd g j) 0 d, true) ∧ (0 ≤ remS (fun j => rd t j * rd g j) 0 d ∧ remS (fun j => rd t j * rd g j) 0 d ≤ 1200000000) := by
 have hle := h.le
 have hr : risB (t.length : Int) (rng 0 d) = true := rng_ris _ d 0 (-1) (by omega) (by omega)
 have hm := risB_mem hr
 have hlen := rng_len d 0
 have b := sum_bd (fun i => rd t i * rd g i) 10000000 (by omega) (rng 0 d) (fun x hx => h.rm (hm x hx).1 (hm x hx).2)
 have e1 : sumT t (rng 0 d) = remS (rd t) 0 d := sumT_rng t d 0
 have e2 : sumM t g (rng 0 d) = remS (fun j => rd t j * rd g j) 0 d := sumM_rng t g d 0
 have e3 : sumM t g (rng 0 d) = ((rng 0 d).map fun i => rd t i * rd g i).sum := rfl
 unfold impl_SumsOf.f
 rw [impl_IsModel_v X Y Z t g r (by omega), modelB_iff.2 h, Option.bind_some, if_pos rfl, impl_areBlocks_v _ _ (by omega) hk, hr, Option.bind_some, if_pos rfl, impl_sumsOf_v h _ (by omega) hm hk, Option.bind_some, e1, e2]
 refine ⟨rfl, ?_⟩
 have b1 := b.1
 have b2 := b.2
 rw [← e3, e2] at b1 b2
 exact ⟨b1, by omega⟩
theorem coarse_le {X Y Z : Int} (h : gridB X Y Z = true) : (X + 1) / 2 * ((Y + 1) / 2) * Z ≤ X * Y * Z := by
 obtain ⟨h1, h2, h3, h4, h5, h6, h7⟩ := gridB_t h
 have a : (X + 1) / 2 * ((Y + 1) / 2) ≤ X * Y := Int.mul_le_mul (by omega) (by omega) (by omega) (by omega)
 exact Int.mul_le_mul_of_nonneg_right a (by omega)
theorem coarse_law {X Y Z : Int} {t g r : List Int} (ho : (coarseR X Y Z t g r).2.2.2.2.2.2.2 = true) :
  ∃ n : Nat, IsMod X Y Z t g r ∧ n ≤ t.length ∧ coarseR X Y Z t g r = ((X + 1) / 2, (Y + 1) / 2, Z, cL sT (grp X Y t g r) n 0, cL rV (grp X Y t g r) n 0, cL joinR (grp X Y t g r) n 0, remS (fun j => rd (cL sT (grp X Y t g r) n 0) j * rd (cL rV (grp X Y t g r) n 0) j) 0 n - remS (fun j => rd t j * rd g j) 0 t.length, true)
   ∧ IsMod ((X + 1) / 2) ((Y + 1) / 2) Z (cL sT (grp X Y t g r) n 0) (cL rV (grp X Y t g r) n 0) (cL joinR (grp X Y t g r) n 0)
   ∧ remS (rd (cL sT (grp X Y t g r) n 0)) 0 n = remS (rd t) 0 t.length := by
 unfold coarseR at ho ⊢
 by_cases hB : modelB X Y Z t g r = true
 ·rw [if_pos hB] at ho ⊢
  have h := modelB_t hB
  have hlt := h.lt
  have hle := coarse_le h.grid
  obtain ⟨n, hn, hn'⟩ := coarse_cnt h
  rw [hn, show ((n : Int)).toNat = n by omega] at ho ⊢
  obtain ⟨e, hT⟩ := coF_ok _ _ _ _ _ _ _ _ _ _ ho
  have hcov : ∀ j : Nat, 0 ≤ j → j < 0 + t.length → 0 ≤ coarseV X Y (j : Int) ∧ coarseV X Y (j : Int) < (n : Int) := fun j _ hj => by
   have := coarseV_bd (hasB_of h.grid (by omega : 0 ≤ (j : Int)) (by omega))
   rw [hn] at this; exact this
  have p1 := part X Y t g r n t.length 0 hcov
  have p2 := partT X Y t g r n t.length 0 hcov
  rw [totM_rem] at p1
  have r1 : remS (rd (cL sT (grp X Y t g r) n 0)) 0 n = remS (fun q => sT (grp X Y t g r q)) 0 n := remS_eq n 0 (fun j h1 h2 => by
   obtain ⟨i, rfl⟩ : ∃ i : Nat, j = (i : Int) := ⟨j.toNat, by omega⟩
   rw [cL_rd _ _ n 0 i (by omega), Int.zero_add])
  have r2 : remS (fun j => rd (cL sT (grp X Y t g r) n 0) j * rd (cL rV (grp X Y t g r) n 0) j) 0 n = remS (fun q => sT (grp X Y t g r q) * rV (grp X Y t g r q)) 0 n := remS_eq n 0 (fun j h1 h2 => by
   obtain ⟨i, rfl⟩ : ∃ i : Nat, j = (i : Int) := ⟨j.toNat, by omega⟩
   rw [cL_rd _ _ n 0 i (by omega), cL_rd _ _ n 0 i (by omega), Int.zero_add])
  refine ⟨n, h, by omega, ?_, ?_, ?_⟩
  ·rw [e, remS_sub, r2, List.nil_append, List.nil_append, List.nil_append, Int.zero_add]
   rw [show remS (fun q => sM (grp X Y t g r q)) 0 n = remS (fun j => rd t j * rd g j) 0 t.length from p1]
  ·refine modelB_t (modelB_iff.2 ⟨coarse_grid h.grid, by rw [cL_len]; exact hn.symm, by rw [cL_len, cL_len], by rw [cL_len, cL_len], fun x hx => ?_, fun x hx => ?_, fun x hx => ?_, ?_, by rw [cL_len]; exact hn'⟩)
   ·obtain ⟨j, h1, h2, rfl⟩ := cL_mem _ _ _ _ _ hx
    have := sj_bd (grp_ok h j)
    have := hT j h1 h2
    omega
   ·obtain ⟨j, h1, h2, rfl⟩ := cL_mem _ _ _ _ _ hx
    exact roundV_bd (join_piece (grp_ok h j) (hT j h1 h2))
   ·obtain ⟨j, h1, h2, rfl⟩ := cL_mem _ _ _ _ _ hx
    exact (sj_v (grp_ok h j)).1
   ·rw [cL_len]
    have := grid_pos (coarse_grid h.grid)
    omega
  ·rw [r1]; exact p2
 ·rw [if_neg hB] at ho; cases ho
theorem all_l (x10 : Int) (n : Nat) (hn : n ≤ 200) (a1 a2 a3 : Int) (a4 a5 a6 : List Int) (c1 c2 c3 : Int) (c4 c5 c6 : List Int) (e1 e2 e3 : Int) (e4 e5 e6 : List Int) (B : Nat) (R : Option Bool)
  (hR : ∀ k, B ≤ k → laws_FnCoarse.l2 (k + 1) x10 (rng 0 n) (n : Int) (n : Int) a1 a2 a3 a4 a5 a6 c1 c2 c3 c4 c5 c6 e1 e2 e3 e4 e5 e6 = R) : ∀ (d k c : Nat), c + d = n → B + d + 1 ≤ k →
  laws_FnCoarse.l2 k x10 (rng 0 c) (n : Int) (c : Int) a1 a2 a3 a4 a5 a6 c1 c2 c3 c4 c5 c6 e1 e2 e3 e4 e5 e6 = R := by
 intro d
 induction d with
 | zero =>
  intro k c hc hk
  obtain ⟨k, rfl⟩ := k_succ (by omega : 0 < k)
  rw [show c = n by omega]
  exact hR k (by omega)
 | succ d ih =>
  intro k c hc hk
  obtain ⟨k, rfl⟩ := k_succ (by omega : 0 < k)
  have hl := rng_len c 0
  have ha := rng_app c 0
  rw [Nat.zero_add] at ha
  rw [laws_FnCoarse.l2, if_pos (by omega), if_pos (by omega), ha, w64_succ (by omega)]
  exact ih k (c + 1) (by omega) (by omega)
theorem end_law {X Y Z : Int} {t g r : List Int} {k : Nat} (hk : 1049000 < k) (C : Int × Int × Int × List Int × List Int × List Int × Int × Bool) (hC : C = coarseR X Y Z t g r) :
  laws_FnCoarse.j4 k C.2.2.2.2.2.2.2 C.2.2.2.2.2.2.1 X Y Z t g r C.1 C.2.1 C.2.2.1 C.2.2.2.1 C.2.2.2.2.1 C.2.2.2.2.2.1 C.1 C.2.1 C.2.2.1 C.2.2.2.1 C.2.2.2.2.1 C.2.2.2.2.2.1 = some true := by
 obtain ⟨k, rfl⟩ := k_succ (by omega : 0 < k)
 rw [laws_FnCoarse.j4]
 by_cases ho : C.2.2.2.2.2.2.2 = true
 ·rw [if_pos ho]
  rw [hC] at ho
  obtain ⟨n, h, hn, e, hx, hT⟩ := coarse_law ho
  have hle := h.le
  rw [e] at hC
  obtain rfl := hC
  dsimp only
  refine all_l _ t.length (by omega) _ _ _ _ _ _ _ _ _ _ _ _ _ _ _ _ _ _ 1048600 _ (fun k' hk' => ?_) t.length k 0 (by omega) (by omega)
  have s1 := SumsOf_rng h t.length (Nat.le_refl _) (by omega : 1048576 < k')
  have s2 := SumsOf_rng hx n (by rw [cL_len]; exact Nat.le_refl _) (by omega : 1048576 < k')
  have hl := rng_len t.length 0
  rw [laws_FnCoarse.l2, if_neg (by omega), s1.1, Option.bind_some, cL_len, if_pos (by omega), if_pos (by omega), Int.toNat_natCast, rng_take n t.length 0 hn, s2.1, Option.bind_some]
  dsimp only
  rw [if_pos rfl, if_pos rfl, if_pos hT.symm, if_pos (w64 (by have := s1.2; have := s2.2; omega) (by have := s1.2; have := s2.2; omega)), impl_IsModel_v _ _ _ _ _ _ (by omega), Option.bind_some, modelB_iff.2 hx]
 ·rw [if_neg ho]
theorem coarseR_len (X Y Z : Int) (t g r : List Int) : (coarseR X Y Z t g r).2.2.2.1.length ≤ 200 ∧ (coarseR X Y Z t g r).2.2.2.2.1.length ≤ 200 ∧ (coarseR X Y Z t g r).2.2.2.2.2.1.length ≤ 200 := by
 by_cases ho : (coarseR X Y Z t g r).2.2.2.2.2.2.2 = true
 ·obtain ⟨n, h, hn, e, _⟩ := coarse_law ho
  have := h.le
  rw [e]; dsimp only
  rw [cL_len, cL_len, cL_len]; omega
 ·unfold coarseR at ho ⊢
  split
  ·rename_i hB
   have h := modelB_t hB
   obtain ⟨n, hn, hn'⟩ := coarse_cnt h
   obtain ⟨X', Y', Z', t', g', r', s, o, e, h1, h2, h3⟩ := coF_is ((X + 1) / 2) ((Y + 1) / 2) Z (grp X Y t g r) ((X + 1) / 2 * ((Y + 1) / 2) * Z).toNat 0 0 [] [] [] 0 (by simp) (by simp) (by simp)
   rw [e]; dsimp only; omega
  ·exact ⟨Nat.zero_le _, Nat.zero_le _, Nat.zero_le _⟩
theorem pure_FnCoarse (a b : List Int) (ha : a.length ≤ maxLen) (wa : ∀ x ∈ a, (Lit.int .u8 x).wf = true) (hb : b.length ≤ maxLen) (wb : ∀ x ∈ b, (Lit.int .u8 x).wf = true) : ∃ k, laws_FnCoarse.f k a b = some true := by
 obtain ⟨K, hK⟩ : ∃ K : Nat, 1060000 < K := ⟨_, Nat.lt_succ_self _⟩
 refine ⟨K, ?_⟩
 unfold laws_FnCoarse.f
 have ha : a.length ≤ 9223372036854775807 := ha
 have hb : b.length ≤ 9223372036854775807 := hb
 by_cases hab : wrap64 ((a.length : Int) + (b.length : Int)) > 1048576
 ·rw [if_pos hab]
 ·rw [if_neg hab]
  have hA := bytes_of_wf wa
  have hB := bytes_of_wf wb
  obtain ⟨X, Y, Z, t, g, r, e1⟩ := DrawCoarse_d hA ha (by omega : 700 < K)
  obtain ⟨l, n, e2, hl⟩ := DrawBest_d hB hb (by omega : 50 < K)
  obtain ⟨X', Y', Z', i, e3⟩ := DrawBlock_d hB hb (by omega : 0 < K)
  obtain ⟨j, e4, hj⟩ := DrawJoin_d hB hb (by omega : 50 < K)
  obtain ⟨rb, ⟨hrb, hrb2⟩, ri, rs⟩ := best_v l n (by omega)
  obtain ⟨q, js, ji⟩ := joinPieces_v j (by omega) (by omega : 1048577 < K)
  have hCl := coarseR_len X Y Z t g r
  rw [e1, Option.bind_some]; dsimp only
  rw [impl_CoarseModel_v _ _ _ _ _ _ (by omega), Option.bind_some, spec_CoarseModel_v _ _ _ _ _ _ (by omega), Option.bind_some, e2, Option.bind_some]
  obtain ⟨C, hC⟩ : ∃ C, C = coarseR X Y Z t g r := ⟨_, rfl⟩
  rw [← hC] at hCl ⊢
  dsimp only
  rw [ri K (by omega), Option.bind_some, rs K (by omega), Option.bind_some, impl_SortPieces_v l (by omega) (by omega), Option.bind_some, spec_SortPieces_v l (by omega) (by omega), Option.bind_some, e3, Option.bind_some]
  dsimp only
  rw [impl_CoarseBlock_v, Option.bind_some, spec_CoarseBlock_v, Option.bind_some, e4, Option.bind_some, ji, Option.bind_some, js, Option.bind_some]
  have hsl := sortR_len l
  simp only [bne_self_eq_false, beq_self_eq_true, Bool.not_true, Bool.or_self, Bool.false_eq_true, if_false]
  rw [qModel_v _ _ _ _ _ _ hCl.1 hCl.2.1 hCl.2.2 (by omega), Option.bind_some, if_pos rfl, if_pos trivial, qInts_v _ (by omega) (by omega), Option.bind_some, if_pos rfl, qInts_v _ (by omega) (by omega), Option.bind_some, if_pos rfl, if_pos trivial]
  obtain ⟨K, rfl⟩ := k_succ (by omega : 0 < K)
  rw [laws_FnCoarse.j0, if_neg (by decide)]
  have hj4 : ∀ k, 1049001 ≤ k → laws_FnCoarse.j4 k C.2.2.2.2.2.2.2 C.2.2.2.2.2.2.1 X Y Z t g r C.1 C.2.1 C.2.2.1 C.2.2.2.1 C.2.2.2.2.1 C.2.2.2.2.2.1 C.1 C.2.1 C.2.2.1 C.2.2.2.1 C.2.2.2.2.1 C.2.2.2.2.2.1 = some true := fun k hk => end_law (by omega) C hC
  by_cases hp : plist l = true
  ·have hL := plist_t hp
   have hle := hL.le
   have e5 : sortR l = (sbS l, true) := by unfold sortR; rw [if_pos hp]
   rw [e5]; dsimp only
   rw [if_pos rfl]
   have hj2 : ∀ k, 1049100 ≤ k → laws_FnCoarse.j2 k C.2.2.2.2.2.2.2 C.2.2.2.2.2.2.1 l n rb.2 rb.1 true X Y Z t g r C.1 C.2.1 C.2.2.1 C.2.2.2.1 C.2.2.2.2.1 C.2.2.2.2.2.1 C.1 C.2.1 C.2.2.1 C.2.2.2.1 C.2.2.2.2.1 C.2.2.2.2.2.1 = some true := by
    intro k hk
    obtain ⟨k, rfl⟩ := k_succ (by omega : 0 < k)
    rw [laws_FnCoarse.j2]
    by_cases ho : rb.2 = true
    ·rw [if_pos ho]
     obtain ⟨_, h2, h3⟩ := hrb2 ho
     exact best_sum hL _ _ _ _ _ _ _ _ _ _ _ _ _ _ _ _ _ _ _ _ _ _ 1049001 _ hrb h2 h3 hj4 rb.1.length k 0 0 (by omega) (by omega) (by omega) (by omega) (by rw [List.drop_zero]; omega)
    ·rw [if_neg ho]; exact hj4 k (by omega)
   exact sorted_l hL _ _ _ _ _ _ _ _ _ _ _ _ _ _ _ _ _ _ _ _ _ _ _ _ 1049100 _ hj2 l.length K 0 z29 (by omega) (by omega) (fun m hm => by omega)
  ·have e5 : sortR l = ([], false) := by unfold sortR; rw [if_neg hp]
   rw [e5]; dsimp only
   rw [if_neg (by decide)]
   obtain ⟨K, rfl⟩ := k_succ (by omega : 0 < K)
   have ho : ¬ rb.2 = true := fun ho => hp (hrb2 ho).1
   rw [laws_FnCoarse.j2, if_neg ho]
   exact hj4 K (by omega)
end Go.Proofs.Ytceajigggcihnaa.Pure
