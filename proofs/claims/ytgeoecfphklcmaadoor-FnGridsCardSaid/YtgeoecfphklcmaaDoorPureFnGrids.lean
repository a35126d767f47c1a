/- What the printed Lean functions behind FnGrids come to, and from that the pure statement of FnGrids: it answers true. No condition beyond those that the given statement itself has. -/
import Derived.Test.YtgeoecfphklcmaaDoorPFnGridsx10
import Derived.Lib.SmallJoins
namespace Go.Proofs.YtgeoecfphklcmaaDoor.Pure
open Go.RowKit Go.Proofs.YtgeoecfphklcmaaDoor.PFnGrids Go.Proofs.YtgeoecfphklcmaaDoorW.PrintWords Go.Proofs.YtgeoecfphklcmaaDoorW.PrintLast Go.Proofs.YtgeoecfphklcmaaDoorW.PrintMore
set_option linter.unusedVariables false
set_option linter.unusedSimpArgs false

theorem w64 {x : Int} (h1 : -9223372036854775808 ≤ x) (h2 : x ≤ 9223372036854775807) : wrap64 x = x := by unfold wrap64; omega
theorem wf_i64 {x : Int} (h : (Lit.int .i64 x).wf = true) : -9223372036854775808 ≤ x ∧ x ≤ 9223372036854775807 := Go.Joins.in64_of_wf h
theorem mul_bd {a b A B : Int} (ha : 0 ≤ a) (hA : a ≤ A) (hb : 0 ≤ b) (hB : b ≤ B) : 0 ≤ a * b ∧ a * b ≤ A * B :=
  ⟨Int.mul_nonneg ha hb, Int.mul_le_mul hA hB hb (by omega)⟩
theorem rd_nat (l : List Int) (i : Nat) : rd l (i : Int) = l.getD i 0 := by simp [rd]
theorem rd_get {l : List Int} {i : Nat} (h : i < l.length) : rd l (i : Int) = l[i] := by rw [rd_nat, List.getD_eq_getElem?_getD, List.getElem?_eq_getElem h]; rfl
theorem rd_set {l : List Int} {i : Nat} {v : Int} (j : Int) (h0 : 0 ≤ j) (hi : i < l.length) : rd (l.set i v) j = if j = (i : Int) then v else rd l j := by
  unfold rd
  rw [List.getD_eq_getElem?_getD, List.getD_eq_getElem?_getD]
  by_cases h : j = (i : Int)
  · rw [if_pos h, show j.toNat = i by omega, List.getElem?_set_self hi]; rfl
  · rw [if_neg h, List.getElem?_set_ne (by omega)]
theorem drop_rd {l : List Int} {i : Nat} (h : i < l.length) : l.drop i = rd l (i : Int) :: l.drop (i + 1) := by
  rw [rd_get h]; exact List.drop_eq_getElem_cons h
theorem w64_succ {i : Nat} (h : i < 9223372036854775807) : wrap64 ((i : Int) + 1) = ((i + 1 : Nat) : Int) := by rw [w64 (by omega) (by omega)]; omega
theorem k_succ {k : Nat} (h : 0 < k) : ∃ m, k = m + 1 := ⟨k - 1, by omega⟩
/-- from some number of rounds on -/
theorem Ev.use {α : Type} {g : Nat → Option α} {r : α} (h : Ev g r) : ∃ K, ∀ k, K ≤ k → g k = some r := h
theorem spec_l1In_v (a lo hi : Int) : spec_l1In.f a lo hi = some (decide (lo ≤ a ∧ a ≤ hi)) := by
  unfold spec_l1In.f
  split
  · congr 1; rw [decide_eq_decide]; omega
  · congr 1; symm; rw [decide_eq_false_iff_not]; omega
def gridB (X Y Z : Int) : Bool := decide (1 ≤ X ∧ X ≤ 8 ∧ 1 ≤ Y ∧ Y ≤ 6 ∧ 1 ≤ Z ∧ Z ≤ 5 ∧ X * Y * Z ≤ 120)
theorem gridB_t {X Y Z : Int} (h : gridB X Y Z = true) : 1 ≤ X ∧ X ≤ 8 ∧ 1 ≤ Y ∧ Y ≤ 6 ∧ 1 ≤ Z ∧ Z ≤ 5 ∧ X * Y * Z ≤ 120 := of_decide_eq_true h
theorem wrapXYZ {X Y Z : Int} (h1 : 1 ≤ X) (h2 : X ≤ 8) (h3 : 1 ≤ Y) (h4 : Y ≤ 6) (h5 : 1 ≤ Z) (h6 : Z ≤ 5) : wrap64 (wrap64 (X * Y) * Z) = X * Y * Z := by
  have a := mul_bd (by omega : 0 ≤ X) h2 (by omega : 0 ≤ Y) h4
  have b := mul_bd a.1 a.2 (by omega : 0 ≤ Z) h6
  rw [w64 (by omega) (by omega) (x := X * Y), w64 (by omega) (by omega)]
theorem grid_pos {X Y Z : Int} (h : gridB X Y Z = true) : 1 ≤ X * Y * Z ∧ X * Y * Z ≤ 120 := by
  obtain ⟨h1, h2, h3, h4, h5, h6, h7⟩ := gridB_t h
  have a : 0 < X * Y := Int.mul_pos (by omega) (by omega)
  have b : 0 < X * Y * Z := Int.mul_pos a (by omega)
  omega
theorem impl_IsGrid_v (X Y Z : Int) : impl_IsGrid.f X Y Z = some (gridB X Y Z) := by
  unfold impl_IsGrid.f gridB
  repeat' split
  all_goals first
    | (rw [wrapXYZ (by omega) (by omega) (by omega) (by omega) (by omega) (by omega)]; congr 1; rw [decide_eq_decide]; omega)
    | (congr 1; symm; rw [decide_eq_false_iff_not]; omega)
theorem spec_grGood_v (X Y Z : Int) : spec_grGood.f X Y Z = some (gridB X Y Z) := by
  unfold spec_grGood.f gridB
  simp only [spec_l1In_v, Option.bind_some, decide_eq_true_eq]
  repeat' split
  all_goals first
    | (rw [wrapXYZ (by omega) (by omega) (by omega) (by omega) (by omega) (by omega)]; congr 1; rw [decide_eq_decide]; omega)
    | (congr 1; symm; rw [decide_eq_false_iff_not]; omega)
theorem spec_IsGrid_v (X Y Z : Int) : spec_IsGrid.f X Y Z = some (gridB X Y Z) := by
  simp only [spec_IsGrid.f, spec_grGood_v, Option.bind_some]
theorem spec_grCount_v {X Y Z : Int} (h : gridB X Y Z = true) : spec_grCount.f X Y Z = some (X * Y * Z) := by
  obtain ⟨h1, h2, h3, h4, h5, h6, h7⟩ := gridB_t h
  simp only [spec_grCount.f, wrapXYZ h1 h2 h3 h4 h5 h6]
theorem impl_blocksOf_v {X Y Z : Int} (h : gridB X Y Z = true) : impl_blocksOf.f X Y Z = some (X * Y * Z) := by
  obtain ⟨h1, h2, h3, h4, h5, h6, h7⟩ := gridB_t h
  simp only [impl_blocksOf.f, wrapXYZ h1 h2 h3 h4 h5 h6]
def hasB (X Y Z i : Int) : Bool := gridB X Y Z && decide (0 ≤ i ∧ i < X * Y * Z)
theorem hasB_t {X Y Z i : Int} (h : hasB X Y Z i = true) : gridB X Y Z = true ∧ 0 ≤ i ∧ i < X * Y * Z := by
  unfold hasB at h; rw [Bool.and_eq_true, decide_eq_true_eq] at h; exact h
theorem impl_hasBlock_v (X Y Z i : Int) : impl_hasBlock.f X Y Z i = some (hasB X Y Z i) := by
  unfold impl_hasBlock.f hasB
  rw [impl_IsGrid_v]
  cases h : gridB X Y Z with
  | false => simp
  | true =>
    simp only [Option.bind_some, if_true, impl_blocksOf_v h, Bool.true_and]
    split
    · congr 1; rw [decide_eq_decide]; omega
    · congr 1; symm; rw [decide_eq_false_iff_not]; omega
theorem spec_grHas_v (X Y Z i : Int) : spec_grHas.f X Y Z i = some (hasB X Y Z i) := by
  unfold spec_grHas.f hasB
  rw [spec_grGood_v]
  cases h : gridB X Y Z with
  | false => simp
  | true =>
    have := grid_pos h
    simp only [Option.bind_some, if_true, spec_grCount_v h, Bool.true_and, spec_l1In_v]
    rw [w64 (by omega) (by omega)]
    congr 1; rw [decide_eq_decide]; omega
theorem at_w {X Y x y z : Int} (hX : 0 ≤ X) (hX' : X ≤ 8) (hY : 0 ≤ Y) (hY' : Y ≤ 6) (hx : 0 ≤ x) (hx' : x ≤ 8) (hy : 0 ≤ y) (hy' : y ≤ 6) (hz : 0 ≤ z) (hz' : z ≤ 5) :
    wrap64 (wrap64 (wrap64 (wrap64 (z * Y) + y) * X) + x) = (z * Y + y) * X + x ∧ 0 ≤ (z * Y + y) * X + x := by
  have a := mul_bd hz hz' hY hY'
  have b := mul_bd (by omega : 0 ≤ z * Y + y) (by omega : z * Y + y ≤ 36) hX hX'
  rw [w64 (by omega) (by omega) (x := z * Y), w64 (by omega) (by omega) (x := z * Y + y), w64 (by omega) (by omega) (x := (z * Y + y) * X), w64 (by omega) (by omega)]
  exact ⟨rfl, by omega⟩
def inB (X Y Z x y z : Int) : Bool := decide (0 ≤ x ∧ x < X ∧ 0 ≤ y ∧ y < Y ∧ 0 ≤ z ∧ z < Z)
theorem impl_blockAt_v {X Y Z x y z : Int} (hX : 0 ≤ X) (hX' : X ≤ 8) (hY : 0 ≤ Y) (hY' : Y ≤ 6) (hx : 0 ≤ x) (hx' : x ≤ 8) (hy : 0 ≤ y) (hy' : y ≤ 6) (hz : 0 ≤ z) (hz' : z ≤ 5) :
    impl_blockAt.f X Y Z x y z = some ((z * Y + y) * X + x) := by
  simp only [impl_blockAt.f, (at_w hX hX' hY hY' hx hx' hy hy' hz hz').1]
theorem spec_grAt_v {X Y Z x y z : Int} (hX : 1 ≤ X) (hX' : X ≤ 8) (hY : 1 ≤ Y) (hY' : Y ≤ 6) (hZ : 1 ≤ Z) (hZ' : Z ≤ 5) :
    spec_grAt.f X Y Z x y z = some (if inB X Y Z x y z = true then (z * Y + y) * X + x else -1) := by
  unfold spec_grAt.f inB
  rw [w64 (by omega) (by omega), w64 (by omega) (by omega), w64 (by omega) (by omega)]
  simp only [spec_l1In_v, Option.bind_some, decide_eq_true_eq]
  by_cases h : 0 ≤ x ∧ x < X ∧ 0 ≤ y ∧ y < Y ∧ 0 ≤ z ∧ z < Z
  · rw [if_pos (by omega), if_pos (by omega), if_pos (by omega), if_pos h, (at_w (by omega) hX' (by omega) hY' (by omega) (by omega) (by omega) (by omega) (by omega) (by omega)).1]
  · rw [if_neg h]
    repeat' split
    all_goals first | rfl | (exfalso; omega)
def atR (X Y Z x y z : Int) : Int × Bool := if gridB X Y Z = true ∧ inB X Y Z x y z = true then ((z * Y + y) * X + x, true) else (0, false)
theorem impl_BlockAt_v (X Y Z x y z : Int) : impl_BlockAt.f X Y Z x y z = some (atR X Y Z x y z) := by
  unfold impl_BlockAt.f atR
  rw [impl_IsGrid_v]
  cases h : gridB X Y Z with
  | false => simp
  | true =>
    obtain ⟨h1, h2, h3, h4, h5, h6, h7⟩ := gridB_t h
    simp only [Option.bind_some, if_true, true_and, inB, decide_eq_true_eq]
    by_cases hi : 0 ≤ x ∧ x < X ∧ 0 ≤ y ∧ y < Y ∧ 0 ≤ z ∧ z < Z
    · rw [if_pos hi, if_neg (by omega), if_neg (by omega), if_neg (by omega), if_neg (by omega), if_neg (by omega), if_neg (by omega), impl_blockAt_v (by omega) (by omega) (by omega) (by omega) (by omega) (by omega) (by omega) (by omega) (by omega) (by omega)]
      rfl
    · rw [if_neg hi]
      repeat' split
      all_goals first | rfl | (exfalso; omega)
theorem spec_BlockAt_v (X Y Z x y z : Int) : spec_BlockAt.f X Y Z x y z = some (atR X Y Z x y z) := by
  unfold spec_BlockAt.f atR
  rw [spec_grGood_v]
  cases h : gridB X Y Z with
  | false => simp
  | true =>
    obtain ⟨h1, h2, h3, h4, h5, h6, h7⟩ := gridB_t h
    rw [spec_grAt_v h1 h2 h3 h4 h5 h6]
    simp only [Option.bind_some, if_true, true_and]
    cases hi : inB X Y Z x y z with
    | true =>
      have hi' := of_decide_eq_true hi
      have := (at_w (by omega : 0 ≤ X) h2 (by omega : 0 ≤ Y) h4 (by omega : 0 ≤ x) (by omega) (by omega : 0 ≤ y) (by omega) (by omega : 0 ≤ z) (by omega)).2
      simp only [if_true]
      rw [if_neg (by omega)]
    | false => simp
theorem tdiv_nn {a b : Int} (h : 0 ≤ a) : Int.tdiv a b = a / b := Int.tdiv_eq_ediv_of_nonneg h
theorem tmod_nn {a b : Int} (h : 0 ≤ a) : Int.tmod a b = a % b := Int.tmod_eq_emod_of_nonneg h
theorem place_bd {X Y Z i : Int} (h : hasB X Y Z i = true) : (0 ≤ i % X ∧ i % X < X) ∧ (0 ≤ i / X % Y ∧ i / X % Y < Y) ∧ (0 ≤ i / X / Y ∧ i / X / Y < Z) ∧ 0 ≤ i / X ∧ i / X ≤ i := by
  obtain ⟨hg, hi, hi'⟩ := hasB_t h
  obtain ⟨h1, h2, h3, h4, h5, h6, h7⟩ := gridB_t hg
  have a : 0 ≤ i / X := Int.ediv_nonneg hi (by omega)
  refine ⟨⟨Int.emod_nonneg _ (by omega), Int.emod_lt_of_pos _ (by omega)⟩, ⟨Int.emod_nonneg _ (by omega), Int.emod_lt_of_pos _ (by omega)⟩, ⟨Int.ediv_nonneg a (by omega), ?_⟩, a, Int.ediv_le_self _ hi⟩
  rw [Int.ediv_ediv_of_nonneg (by omega)]
  refine Int.ediv_lt_of_lt_mul (Int.mul_pos (by omega) (by omega)) ?_
  rw [Int.mul_comm Z]
  exact hi'
theorem impl_placeOf_v {X Y Z i : Int} (h : hasB X Y Z i = true) : impl_placeOf.f X Y Z i = some (i % X, i / X % Y, i / X / Y) := by
  obtain ⟨hg, hi, hi'⟩ := hasB_t h
  obtain ⟨h1, h2, h3, h4, h5, h6, h7⟩ := gridB_t hg
  have hp := place_bd h
  have hg' := grid_pos hg
  unfold impl_placeOf.f
  rw [if_neg (by omega), if_neg (by omega), tmod_nn hi, tdiv_nn hi, w64 (by omega) (by omega) (x := i / X), tmod_nn hp.2.2.2.1, tdiv_nn hp.2.2.2.1, w64 (by omega) (by omega)]
theorem spec_grX_v {X Y Z i : Int} (h : hasB X Y Z i = true) : spec_grX.f X Y Z i = some (i % X) := by
  obtain ⟨hg, hi, hi'⟩ := hasB_t h
  obtain ⟨h1, h2, h3, h4, h5, h6, h7⟩ := gridB_t hg
  unfold spec_grX.f
  rw [if_neg (by omega), tmod_nn hi]
theorem spec_grY_v {X Y Z i : Int} (h : hasB X Y Z i = true) : spec_grY.f X Y Z i = some (i / X % Y) := by
  obtain ⟨hg, hi, hi'⟩ := hasB_t h
  obtain ⟨h1, h2, h3, h4, h5, h6, h7⟩ := gridB_t hg
  have hp := place_bd h
  have hg' := grid_pos hg
  unfold spec_grY.f
  rw [if_neg (by omega), if_neg (by omega), tdiv_nn hi, w64 (by omega) (by omega) (x := i / X), tmod_nn hp.2.2.2.1]
theorem spec_grZ_v {X Y Z i : Int} (h : hasB X Y Z i = true) : spec_grZ.f X Y Z i = some (i / X / Y) := by
  obtain ⟨hg, hi, hi'⟩ := hasB_t h
  obtain ⟨h1, h2, h3, h4, h5, h6, h7⟩ := gridB_t hg
  have hp := place_bd h
  have hg' := grid_pos hg
  unfold spec_grZ.f
  rw [if_neg (by omega), if_neg (by omega), tdiv_nn hi, w64 (by omega) (by omega) (x := i / X), tdiv_nn hp.2.2.2.1, w64 (by omega) (by omega)]
def coarseV (X Y i : Int) : Int := (i / X / Y * ((Y + 1) / 2) + i / X % Y / 2) * ((X + 1) / 2) + i % X / 2
def absI (n : Int) : Int := if n < 0 then -n else n
theorem absI_sub (a b : Int) : absI (a - b) = absI (b - a) := by unfold absI; repeat' split <;> omega
theorem absI_bd {a : Int} {B : Int} (h : -B ≤ a) (h' : a ≤ B) : 0 ≤ absI a ∧ absI a ≤ B := by unfold absI; split <;> omega
def levelV (X Y z : Int) : List Int := (List.range (X * Y).toNat).map fun n : Nat => z * X * Y + (n : Int)
theorem levelV_len (X Y z : Int) : (levelV X Y z).length = (X * Y).toNat := by simp [levelV]
theorem levelV_take (X Y z : Int) {i : Nat} (h : (i : Int) < X * Y) : (levelV X Y z).take (i + 1) = (levelV X Y z).take i ++ [z * X * Y + (i : Int)] := by
  rw [List.take_succ_eq_append_getElem (by rw [levelV_len]; omega)]
  simp [levelV]
theorem lev_w {X Y Z z : Int} (h : gridB X Y Z = true) (hz : 0 ≤ z) (hz' : z < Z) : wrap64 (wrap64 (z * X) * Y) = z * X * Y ∧ 0 ≤ z * X * Y ∧ z * X * Y ≤ 240 ∧ wrap64 (X * Y) = X * Y ∧ 1 ≤ X * Y ∧ X * Y ≤ 48 := by
  obtain ⟨h1, h2, h3, h4, h5, h6, h7⟩ := gridB_t h
  have a := mul_bd (by omega : 0 ≤ X) h2 (by omega : 0 ≤ Y) h4
  have b := mul_bd hz (by omega : z ≤ 5) (by omega : 0 ≤ X) h2
  have c := mul_bd b.1 b.2 (by omega : 0 ≤ Y) h4
  have d : 0 < X * Y := Int.mul_pos (by omega) (by omega)
  refine ⟨?_, c.1, by omega, w64 (by omega) (by omega), by omega, by omega⟩
  rw [w64 (by omega) (by omega) (x := z * X), w64 (by omega) (by omega)]
def levelR (X Y Z z : Int) : List Int × Bool := if gridB X Y Z = true ∧ 0 ≤ z ∧ z < Z then (levelV X Y z, true) else ([], false)
theorem levelR_len (X Y Z z : Int) : (levelR X Y Z z).1.length ≤ 48 := by
  unfold levelR
  split
  · rename_i h
    have := (lev_w h.1 h.2.1 h.2.2).2.2.2.2.2
    show (levelV X Y z).length ≤ 48
    rw [levelV_len]; omega
  · simp
theorem impl_LevelBlocks_l {X Y Z z : Int} (h : gridB X Y Z = true) (hz : 0 ≤ z) (hz' : z < Z) : ∀ (d k i : Nat), (i : Int) + d = X * Y → d < k →
    impl_LevelBlocks.l0 k z ((levelV X Y z).take i) (z * X * Y + (i : Int)) X Y Z = some (levelV X Y z, true) := by
  have hw := lev_w h hz hz'
  have e : wrap64 (wrap64 (wrap64 (z + 1) * X) * Y) = z * X * Y + X * Y := by
    obtain ⟨h1, h2, h3, h4, h5, h6, h7⟩ := gridB_t h
    have b := mul_bd (by omega : 0 ≤ z + 1) (by omega : z + 1 ≤ 5) (by omega : 0 ≤ X) h2
    have c := mul_bd b.1 b.2 (by omega : 0 ≤ Y) h4
    rw [w64 (by omega) (by omega) (x := z + 1), w64 (by omega) (by omega) (x := (z + 1) * X), w64 (by omega) (by omega), Int.add_mul, Int.add_mul, Int.one_mul]
  intro d
  induction d with
  | zero =>
    intro k i hi hk
    obtain ⟨k, rfl⟩ := k_succ (by omega : 0 < k)
    simp only [impl_LevelBlocks.l0, e]
    rw [if_neg (by omega), List.take_of_length_le (by rw [levelV_len]; omega)]
  | succ d ih =>
    intro k i hi hk
    obtain ⟨k, rfl⟩ := k_succ (by omega : 0 < k)
    simp only [impl_LevelBlocks.l0, e]
    rw [if_pos (by omega), if_pos (by rw [List.length_take]; omega), w64 (by omega) (by omega), ← levelV_take X Y z (by omega), show z * X * Y + (i : Int) + 1 = z * X * Y + ((i + 1 : Nat) : Int) by omega]
    exact ih k (i + 1) (by omega) (by omega)
theorem impl_LevelBlocks_v (X Y Z z : Int) {k : Nat} (hk : 60 < k) : impl_LevelBlocks.f k X Y Z z = some (levelR X Y Z z) := by
  obtain ⟨k, rfl⟩ := k_succ (by omega : 0 < k)
  unfold impl_LevelBlocks.f levelR
  rw [impl_IsGrid_v]
  simp only [Option.bind_some, impl_LevelBlocks.j0]
  cases h : gridB X Y Z with
  | false => simp
  | true =>
    by_cases hz : 0 ≤ z ∧ z < Z
    · have hw := lev_w h hz.1 hz.2
      rw [if_pos rfl, if_neg (by omega), if_neg (by simp; omega), if_pos ⟨rfl, hz⟩, hw.1]
      have := impl_LevelBlocks_l h hz.1 hz.2 (X * Y).toNat k 0 (by omega) (by omega)
      simpa using this
    · rw [if_pos rfl, if_neg (show ¬ (true = true ∧ 0 ≤ z ∧ z < Z) by simp [hz])]
      split
      · rw [if_pos (by simp)]
      · rw [if_pos (by simp; omega)]
theorem spec_LevelBlocks_l {X Y Z z : Int} (h : gridB X Y Z = true) (hz : 0 ≤ z) (hz' : z < Z) : ∀ (d k i : Nat), (i : Int) + d = X * Y → d < k →
    spec_LevelBlocks.l0 k z ((levelV X Y z).take i) (i : Int) X Y Z = some (levelV X Y z, true) := by
  have hw := lev_w h hz hz'
  intro d
  induction d with
  | zero =>
    intro k i hi hk
    obtain ⟨k, rfl⟩ := k_succ (by omega : 0 < k)
    simp only [spec_LevelBlocks.l0, hw.2.2.2.1]
    rw [if_neg (by omega), List.take_of_length_le (by rw [levelV_len]; omega)]
  | succ d ih =>
    intro k i hi hk
    obtain ⟨k, rfl⟩ := k_succ (by omega : 0 < k)
    simp only [spec_LevelBlocks.l0, hw.2.2.2.1, hw.1]
    rw [if_pos (by omega), if_pos (by rw [List.length_take]; omega), w64 (by omega) (by omega), ← levelV_take X Y z (by omega), w64_succ (by omega)]
    exact ih k (i + 1) (by omega) (by omega)
theorem spec_LevelBlocks_v (X Y Z z : Int) {k : Nat} (hk : 60 < k) : spec_LevelBlocks.f k X Y Z z = some (levelR X Y Z z) := by
  obtain ⟨k, rfl⟩ := k_succ (by omega : 0 < k)
  unfold spec_LevelBlocks.f levelR
  rw [spec_grGood_v]
  simp only [Option.bind_some, spec_l1In_v, spec_LevelBlocks.j0]
  cases h : gridB X Y Z with
  | false => simp
  | true =>
    obtain ⟨h1, h2, h3, h4, h5, h6, h7⟩ := gridB_t h
    rw [w64 (by omega) (by omega)]
    by_cases hz : 0 ≤ z ∧ z < Z
    · have hw := lev_w h hz.1 hz.2
      rw [if_pos rfl, if_neg (by simp; omega), if_pos ⟨rfl, hz⟩]
      have := spec_LevelBlocks_l h hz.1 hz.2 (X * Y).toNat k 0 (by omega) (by omega)
      simpa using this
    · rw [if_pos rfl, if_neg (show ¬ (true = true ∧ 0 ≤ z ∧ z < Z) by simp [hz]), if_pos (by simp; omega)]
def colV (X Y Z x y : Int) : List Int := (List.range Z.toNat).map fun z : Nat => ((z : Int) * Y + y) * X + x
theorem colV_len (X Y Z x y : Int) : (colV X Y Z x y).length = Z.toNat := by simp [colV]
theorem colV_take (X Y Z x y : Int) {i : Nat} (h : (i : Int) < Z) : (colV X Y Z x y).take (i + 1) = (colV X Y Z x y).take i ++ [((i : Int) * Y + y) * X + x] := by
  rw [List.take_succ_eq_append_getElem (by rw [colV_len]; omega)]
  simp [colV]
def colR (X Y Z x y : Int) : List Int × Bool := if gridB X Y Z = true ∧ (0 ≤ x ∧ x < X) ∧ 0 ≤ y ∧ y < Y then (colV X Y Z x y, true) else ([], false)
theorem colR_len (X Y Z x y : Int) : (colR X Y Z x y).1.length ≤ 48 := by
  unfold colR
  split
  · rename_i h
    obtain ⟨h1, h2, h3, h4, h5, h6, h7⟩ := gridB_t h.1
    show (colV X Y Z x y).length ≤ 48
    rw [colV_len]; omega
  · simp
theorem impl_ColumnBlocks_l {X Y Z x y : Int} (h : gridB X Y Z = true) (hx : 0 ≤ x ∧ x < X) (hy : 0 ≤ y ∧ y < Y) : ∀ (d k i : Nat), (i : Int) + d = Z → d < k →
    impl_ColumnBlocks.l0 k x y ((colV X Y Z x y).take i) (i : Int) X Y Z = some (colV X Y Z x y, true) := by
  obtain ⟨h1, h2, h3, h4, h5, h6, h7⟩ := gridB_t h
  intro d
  induction d with
  | zero =>
    intro k i hi hk
    obtain ⟨k, rfl⟩ := k_succ (by omega : 0 < k)
    simp only [impl_ColumnBlocks.l0]
    rw [if_neg (by omega), List.take_of_length_le (by rw [colV_len]; omega)]
  | succ d ih =>
    intro k i hi hk
    obtain ⟨k, rfl⟩ := k_succ (by omega : 0 < k)
    simp only [impl_ColumnBlocks.l0]
    rw [if_pos (by omega), impl_blockAt_v (by omega) (by omega) (by omega) (by omega) (by omega) (by omega) (by omega) (by omega) (by omega) (by omega), Option.bind_some, if_pos (by rw [List.length_take]; omega), w64_succ (by omega), ← colV_take X Y Z x y (by omega)]
    exact ih k (i + 1) (by omega) (by omega)
theorem impl_ColumnBlocks_v (X Y Z x y : Int) {k : Nat} (hk : 60 < k) : impl_ColumnBlocks.f k X Y Z x y = some (colR X Y Z x y) := by
  obtain ⟨k, rfl⟩ := k_succ (by omega : 0 < k)
  unfold impl_ColumnBlocks.f colR
  rw [impl_IsGrid_v]
  simp only [Option.bind_some, impl_ColumnBlocks.j0]
  cases h : gridB X Y Z with
  | false => simp
  | true =>
    obtain ⟨h1, h2, h3, h4, h5, h6, h7⟩ := gridB_t h
    by_cases hc : (0 ≤ x ∧ x < X) ∧ 0 ≤ y ∧ y < Y
    · rw [if_pos rfl, if_neg (by omega), if_neg (by omega), if_neg (by omega), if_neg (by simp; omega), if_pos ⟨rfl, hc⟩]
      have := impl_ColumnBlocks_l h hc.1 hc.2 Z.toNat k 0 (by omega) (by omega)
      simpa using this
    · rw [if_pos rfl, if_neg (show ¬ (true = true ∧ (0 ≤ x ∧ x < X) ∧ 0 ≤ y ∧ y < Y) by simp [hc])]
      repeat' split
      all_goals first | rfl | (exfalso; simp_all; done) | (exfalso; simp_all; omega)
theorem spec_ColumnBlocks_l {X Y Z x y : Int} (h : gridB X Y Z = true) (hx : 0 ≤ x ∧ x < X) (hy : 0 ≤ y ∧ y < Y) : ∀ (d k i : Nat), (i : Int) + d = Z → d < k →
    spec_ColumnBlocks.l0 k x y ((colV X Y Z x y).take i) (i : Int) X Y Z = some (colV X Y Z x y, true) := by
  obtain ⟨h1, h2, h3, h4, h5, h6, h7⟩ := gridB_t h
  intro d
  induction d with
  | zero =>
    intro k i hi hk
    obtain ⟨k, rfl⟩ := k_succ (by omega : 0 < k)
    simp only [spec_ColumnBlocks.l0]
    rw [if_neg (by omega), List.take_of_length_le (by rw [colV_len]; omega)]
  | succ d ih =>
    intro k i hi hk
    obtain ⟨k, rfl⟩ := k_succ (by omega : 0 < k)
    simp only [spec_ColumnBlocks.l0]
    rw [if_pos (by omega), spec_grAt_v h1 h2 h3 h4 h5 h6, if_pos (show inB X Y Z x y (i : Int) = true from decide_eq_true ⟨by omega, by omega, by omega, by omega, by omega, by omega⟩), Option.bind_some, if_pos (by rw [List.length_take]; omega), w64_succ (by omega), ← colV_take X Y Z x y (by omega)]
    exact ih k (i + 1) (by omega) (by omega)
theorem spec_ColumnBlocks_v (X Y Z x y : Int) {k : Nat} (hk : 60 < k) : spec_ColumnBlocks.f k X Y Z x y = some (colR X Y Z x y) := by
  obtain ⟨k, rfl⟩ := k_succ (by omega : 0 < k)
  unfold spec_ColumnBlocks.f colR
  rw [spec_grGood_v]
  simp only [Option.bind_some, spec_ColumnBlocks.j0]
  cases h : gridB X Y Z with
  | false => simp
  | true =>
    obtain ⟨h1, h2, h3, h4, h5, h6, h7⟩ := gridB_t h
    rw [if_pos rfl, spec_grAt_v h1 h2 h3 h4 h5 h6, Option.bind_some]
    by_cases hc : (0 ≤ x ∧ x < X) ∧ 0 ≤ y ∧ y < Y
    · have hn := (at_w (by omega : 0 ≤ X) h2 (by omega : 0 ≤ Y) h4 (by omega : 0 ≤ x) (by omega) (by omega : 0 ≤ y) (by omega) (by omega : (0 : Int) ≤ 0) (by omega)).2
      rw [if_pos (show inB X Y Z x y 0 = true from decide_eq_true ⟨by omega, by omega, by omega, by omega, by omega, by omega⟩), if_neg (by simp only [decide_eq_true_eq]; omega), if_pos ⟨rfl, hc⟩]
      have := spec_ColumnBlocks_l h hc.1 hc.2 Z.toNat k 0 (by omega) (by omega)
      simpa using this
    · rw [if_neg (show ¬ (true = true ∧ (0 ≤ x ∧ x < X) ∧ 0 ≤ y ∧ y < Y) by simp [hc]), if_neg (show ¬ inB X Y Z x y 0 = true from fun hi => by have := of_decide_eq_true hi; omega), if_pos (by simp)]
def stepsV (X Y i k : Int) : Int := absI (i % X - k % X) + absI (i / X % Y - k / X % Y) + absI (i / X / Y - k / X / Y)
theorem stepsV_comm (X Y i k : Int) : stepsV X Y i k = stepsV X Y k i := by
  unfold stepsV
  rw [absI_sub (i % X), absI_sub (i / X % Y), absI_sub (i / X / Y)]
theorem steps_bd {X Y Z i k : Int} (h : hasB X Y Z i = true) (h' : hasB X Y Z k = true) : (0 ≤ absI (i % X - k % X) ∧ absI (i % X - k % X) ≤ 8) ∧ (0 ≤ absI (i / X % Y - k / X % Y) ∧ absI (i / X % Y - k / X % Y) ≤ 8) ∧ (0 ≤ absI (i / X / Y - k / X / Y) ∧ absI (i / X / Y - k / X / Y) ≤ 8) := by
  obtain ⟨h1, h2, h3, h4, h5, h6, h7⟩ := gridB_t (hasB_t h).1
  have a := place_bd h
  have b := place_bd h'
  exact ⟨absI_bd (by omega) (by omega), absI_bd (by omega) (by omega), absI_bd (by omega) (by omega)⟩
def filtN (p : Int → Bool) : Nat → Nat → List Int
  | _, 0 => []
  | i, d + 1 => if p (i : Int) = true then (i : Int) :: filtN p (i + 1) d else filtN p (i + 1) d
theorem filtN_pos {p : Int → Bool} {i d : Nat} (h : p (i : Int) = true) : filtN p i (d + 1) = (i : Int) :: filtN p (i + 1) d := by rw [filtN, if_pos h]
theorem filtN_neg {p : Int → Bool} {i d : Nat} (h : ¬ p (i : Int) = true) : filtN p i (d + 1) = filtN p (i + 1) d := by rw [filtN, if_neg h]
theorem filtN_len (p : Int → Bool) : ∀ (d i : Nat), (filtN p i d).length ≤ d
  | 0, i => by simp [filtN]
  | d + 1, i => by
    have := filtN_len p d (i + 1)
    unfold filtN
    split <;> simp <;> omega
theorem filtN_mem (p : Int → Bool) : ∀ (d i : Nat) (x : Int), x ∈ filtN p i d ↔ (i : Int) ≤ x ∧ x < ((i + d : Nat) : Int) ∧ p x = true
  | 0, i, x => by simp [filtN]; omega
  | d + 1, i, x => by
    have ih := filtN_mem p d (i + 1) x
    by_cases h : p (i : Int) = true
    · rw [filtN_pos h, List.mem_cons, ih]
      constructor
      · rintro (rfl | ⟨h1, h2, h3⟩)
        · exact ⟨by omega, by omega, h⟩
        · exact ⟨by omega, by omega, h3⟩
      · rintro ⟨h1, h2, h3⟩
        by_cases e : x = (i : Int)
        · exact .inl e
        · exact .inr ⟨by omega, by omega, h3⟩
    · rw [filtN_neg h, ih]
      constructor
      · rintro ⟨h1, h2, h3⟩; exact ⟨by omega, by omega, h3⟩
      · rintro ⟨h1, h2, h3⟩
        refine ⟨?_, by omega, h3⟩
        by_cases e : x = (i : Int)
        · subst e; exact absurd h3 h
        · omega
theorem hasB_of {X Y Z i : Int} (h : gridB X Y Z = true) (h0 : 0 ≤ i) (h1 : i < X * Y * Z) : hasB X Y Z i = true := by
  unfold hasB; rw [h, Bool.true_and]; exact decide_eq_true ⟨h0, h1⟩
def nearB (X Y i r k : Int) : Bool := decide (absI (i % X - k % X) ≤ r ∧ absI (i / X % Y - k / X % Y) ≤ r ∧ absI (i / X / Y - k / X / Y) ≤ r)
def pieceB (T M R : Int) : Bool := decide (0 ≤ T ∧ T ≤ 10000 ∧ 0 ≤ M ∧ M ≤ 1000 * T ∧ 0 ≤ R ∧ R ≤ 4)
theorem pieceB_t {T M R : Int} (h : pieceB T M R = true) : 0 ≤ T ∧ T ≤ 10000 ∧ 0 ≤ M ∧ M ≤ 1000 * T ∧ 0 ≤ R ∧ R ≤ 4 := of_decide_eq_true h
def gcdI (x y : Int) : Int := (Nat.gcd x.toNat y.toNat : Nat)
theorem gcdI_step {x y : Int} (hx : 0 ≤ x) (hy : 0 ≤ y) : gcdI y (x % y) = gcdI x y := by
  unfold gcdI
  rw [Int.toNat_emod hx hy, Nat.gcd_comm, ← Nat.gcd_rec, Nat.gcd_comm]
theorem gcdI_zero {x : Int} (hx : 0 ≤ x) : gcdI x 0 = x := by
  unfold gcdI
  simp; omega
def modelB (X Y Z : Int) (t g r : List Int) : Bool := gridB X Y Z && decide ((t.length : Int) = X * Y * Z ∧ (g.length : Int) = X * Y * Z ∧ (r.length : Int) = X * Y * Z) && ((t.all fun x => decide (0 ≤ x ∧ x ≤ 10000)) && ((g.all fun x => decide (0 ≤ x ∧ x ≤ 1000)) && (r.all fun x => decide (0 ≤ x ∧ x ≤ 4))))
structure IsMod (X Y Z : Int) (t g r : List Int) : Prop where
  grid : gridB X Y Z = true
  lt : (t.length : Int) = X * Y * Z
  lg : g.length = t.length
  lr : r.length = t.length
  ht : ∀ x ∈ t, 0 ≤ x ∧ x ≤ 10000
  hg : ∀ x ∈ g, 0 ≤ x ∧ x ≤ 1000
  hr : ∀ x ∈ r, 0 ≤ x ∧ x ≤ 4
  pos : 1 ≤ t.length
  le : t.length ≤ 120
theorem modelB_iff {X Y Z : Int} {t g r : List Int} : modelB X Y Z t g r = true ↔ IsMod X Y Z t g r := by
  unfold modelB
  simp only [Bool.and_eq_true, decide_eq_true_eq, List.all_eq_true]
  constructor
  · rintro ⟨⟨h1, h2, h3, h4⟩, h5, h6, h7⟩
    have := grid_pos h1
    exact ⟨h1, h2, by omega, by omega, h5, h6, h7, by omega, by omega⟩
  · intro h
    have h1 := h.lt; have h2 := h.lg; have h3 := h.lr
    exact ⟨⟨h.grid, h1, by omega, by omega⟩, h.ht, h.hg, h.hr⟩
theorem modelB_t {X Y Z : Int} {t g r : List Int} (h : modelB X Y Z t g r = true) : IsMod X Y Z t g r := modelB_iff.1 h
theorem modelB_f {X Y Z : Int} {t g r : List Int} (h : ¬ modelB X Y Z t g r = true) : modelB X Y Z t g r = false := by simpa using h
theorem rd_mem {l : List Int} {i : Int} (h0 : 0 ≤ i) (h : i < (l.length : Int)) : rd l i ∈ l := by
  unfold rd
  rw [List.getD_eq_getElem?_getD, List.getElem?_eq_getElem (by omega)]
  exact List.getElem_mem _
theorem rd_of_getElem? {l : List Int} {i : Nat} {x : Int} (h : l[i]? = some x) : rd l (i : Int) = x := by
  rw [rd_nat, List.getD_eq_getElem?_getD, h]; rfl
theorem IsMod.rt {X Y Z : Int} {t g r : List Int} (h : IsMod X Y Z t g r) {i : Int} (h0 : 0 ≤ i) (h1 : i < (t.length : Int)) : 0 ≤ rd t i ∧ rd t i ≤ 10000 := h.ht _ (rd_mem h0 h1)
theorem IsMod.rg {X Y Z : Int} {t g r : List Int} (h : IsMod X Y Z t g r) {i : Int} (h0 : 0 ≤ i) (h1 : i < (t.length : Int)) : 0 ≤ rd g i ∧ rd g i ≤ 1000 := h.hg _ (rd_mem h0 (by have := h.lg; omega))
theorem IsMod.rr {X Y Z : Int} {t g r : List Int} (h : IsMod X Y Z t g r) {i : Int} (h0 : 0 ≤ i) (h1 : i < (t.length : Int)) : 0 ≤ rd r i ∧ rd r i ≤ 4 := h.hr _ (rd_mem h0 (by have := h.lr; omega))
theorem IsMod.rm {X Y Z : Int} {t g r : List Int} (h : IsMod X Y Z t g r) {i : Int} (h0 : 0 ≤ i) (h1 : i < (t.length : Int)) : 0 ≤ rd t i * rd g i ∧ rd t i * rd g i ≤ 10000000 :=
  mul_bd (h.rt h0 h1).1 (h.rt h0 h1).2 (h.rg h0 h1).1 (h.rg h0 h1).2
def risF (n : Int) : Int → List Int → Bool
  | _, [] => true
  | p, x :: xs => decide (0 ≤ x ∧ x < n ∧ p < x) && risF n x xs
def risB (n : Int) (l : List Int) : Bool := risF n (-1) l
theorem risF_cons (n p x : Int) (xs : List Int) : risF n p (x :: xs) = (decide (0 ≤ x ∧ x < n ∧ p < x) && risF n x xs) := rfl
theorem risF_mem {n : Int} : ∀ {p : Int} {l : List Int}, risF n p l = true → ∀ x ∈ l, 0 ≤ x ∧ x < n
  | _, [], _, x, hx => by cases hx
  | p, y :: l, h, x, hx => by
    unfold risF at h
    rw [Bool.and_eq_true, decide_eq_true_eq] at h
    rcases List.mem_cons.1 hx with rfl | hx
    · exact ⟨h.1.1, h.1.2.1⟩
    · exact risF_mem h.2 x hx
theorem risF_len {n : Int} : ∀ {p : Int} {l : List Int}, -1 ≤ p → p < n → risF n p l = true → (l.length : Int) + p < n
  | p, [], h0, h1, _ => by simp; omega
  | p, x :: l, h0, h1, h => by
    unfold risF at h
    rw [Bool.and_eq_true, decide_eq_true_eq] at h
    have := risF_len (by omega) h.1.2.1 h.2
    simp only [List.length_cons]
    omega
theorem risB_mem {n : Int} {l : List Int} (h : risB n l = true) : ∀ x ∈ l, 0 ≤ x ∧ x < n := risF_mem h
theorem risB_len {n : Int} {l : List Int} (hn : 0 ≤ n) (h : risB n l = true) : (l.length : Int) ≤ n := by have := risF_len (by omega) (by omega) h; omega
def sumT (t l : List Int) : Int := (l.map (rd t)).sum
def sumM (t g l : List Int) : Int := (l.map fun i => rd t i * rd g i).sum
theorem sum_bd (f : Int → Int) (B : Int) (hB : 0 ≤ B) : ∀ (l : List Int), (∀ x ∈ l, 0 ≤ f x ∧ f x ≤ B) → 0 ≤ (l.map f).sum ∧ (l.map f).sum ≤ B * (l.length : Int)
  | [], _ => by simp
  | x :: l, h => by
    have h1 := h x (by simp)
    have h2 := sum_bd f B hB l (fun y hy => h y (by simp [hy]))
    simp only [List.map_cons, List.sum_cons, List.length_cons]
    have e : B * ((l.length + 1 : Nat) : Int) = B * (l.length : Int) + B := by
      rw [show ((l.length + 1 : Nat) : Int) = (l.length : Int) + 1 by omega, Int.mul_add, Int.mul_one]
    omega
def filtI (p : Int → Bool) : List Int → Nat → List Int
  | [], _ => []
  | x :: l, i => if p x = true then (i : Int) :: filtI p l (i + 1) else filtI p l (i + 1)
theorem filtI_pos {p : Int → Bool} {x : Int} {l : List Int} {i : Nat} (h : p x = true) : filtI p (x :: l) i = (i : Int) :: filtI p l (i + 1) := by rw [filtI, if_pos h]
theorem filtI_neg {p : Int → Bool} {x : Int} {l : List Int} {i : Nat} (h : ¬ p x = true) : filtI p (x :: l) i = filtI p l (i + 1) := by rw [filtI, if_neg h]
theorem filtI_len (p : Int → Bool) : ∀ (l : List Int) (i : Nat), (filtI p l i).length ≤ l.length
  | [], _ => by simp [filtI]
  | x :: l, i => by
    have := filtI_len p l (i + 1)
    unfold filtI
    split <;> simp <;> omega
theorem u64_wrap_bd (n : Int) : 0 ≤ IntKind.u64.wrap n ∧ IntKind.u64.wrap n < 18446744073709551616 := by rw [IntKind.wrap_u64]; omega
theorem and255 {x : Int} (h0 : 0 ≤ x) (h1 : x < 18446744073709551616) : 0 ≤ Go.bits .and .u64 x 255 ∧ Go.bits .and .u64 x 255 ≤ 255 := by
  have := bits_mask .u64 64 (by decide) (fun n a b => by rw [IntKind.wrap_u64]; omega) 8 (by decide) x h0 (by omega)
  rw [show (2 : Int) ^ 8 - 1 = 255 by decide, show (2 : Int) ^ 8 = 256 by decide] at this
  rw [this]; omega
/-- the bytes of a draw -/
def Bytes (s : List Int) : Prop := ∀ x ∈ s, 0 ≤ x ∧ x ≤ 255
theorem Bytes.rd {s : List Int} (h : Bytes s) {i : Int} (h0 : 0 ≤ i) (h1 : i < (s.length : Int)) : 0 ≤ rd s i ∧ rd s i ≤ 255 := by
  obtain ⟨n, rfl⟩ := Int.eq_ofNat_of_zero_le h0
  have hn : n < s.length := by omega
  rw [rd_get hn]
  exact h _ (List.getElem_mem hn)
theorem bytes_of_wf {s : List Int} (h : ∀ x ∈ s, (Lit.int .u8 x).wf = true) : Bytes s := by
  intro x hx
  have := h x hx
  simp [Lit.wf] at this
  have e1 : IntKind.u8.min = 0 := by decide
  have e2 : IntKind.u8.max = 255 := by decide
  omega
theorem spec_l1Cur_next_d {s : List Int} (hs : Bytes s) (hl : s.length ≤ 1048576) (p st : Int) (h0 : 0 ≤ p) (h1 : p ≤ 1000000000) :
    ∃ v st', spec_l1Cur_next.f s p st = some (v, p + 1, st') ∧ 0 ≤ v ∧ v ≤ 255 := by
  unfold spec_l1Cur_next.f
  rw [w64 (by omega) (by omega) (x := p + 1)]
  have hb : ∀ n, 0 ≤ Go.bits .and .u64 (IntKind.u64.wrap n / 1099511627776) 255 ∧ Go.bits .and .u64 (IntKind.u64.wrap n / 1099511627776) 255 ≤ 255 := fun n => by
    have := u64_wrap_bd n
    exact and255 (by omega) (by omega)
  by_cases c : p < (s.length : Int)
  · rw [if_pos c, if_pos h0]
    have := hs.rd h0 c
    by_cases d : p + 1 ≤ (s.length : Int)
    · rw [if_pos d, w64 (by omega) (by omega) (x := rd s p)]
      exact ⟨_, _, rfl, this⟩
    · omega
  · rw [if_neg c, if_neg (by omega)]
    refine ⟨_, _, rfl, ?_⟩
    have h2 := hb (IntKind.u64.wrap (IntKind.u64.wrap (st * 6364136223846793005)) + 1442695040888963407)
    rw [w64 (by omega) (by omega)]
    exact h2
theorem spec_l1Cur_pick_d {s : List Int} (hs : Bytes s) (hl : s.length ≤ 1048576) (p st a : Int) (h0 : 0 ≤ p) (h1 : p ≤ 999999000) (ha : a ≤ 60000) :
    ∃ v p' st', spec_l1Cur_pick.f s p st a = some (v, p', st') ∧ 0 ≤ v ∧ (v < a ∨ v = 0) ∧ p ≤ p' ∧ p' ≤ p + 2 := by
  unfold spec_l1Cur_pick.f
  by_cases c : a ≤ 1
  · rw [if_pos c]; exact ⟨_, _, _, rfl, by omega, .inr rfl, by omega, by omega⟩
  · rw [if_neg c]
    obtain ⟨v, st1, e, v0, v1⟩ := spec_l1Cur_next_d hs hl p st h0 (by omega)
    rw [e, Option.bind_some]
    dsimp only
    by_cases d : a > 200
    · rw [if_pos d]
      obtain ⟨u, st2, e2, u0, u1⟩ := spec_l1Cur_next_d hs hl (p + 1) st1 (by omega) (by omega)
      rw [e2, Option.bind_some, if_neg (by omega)]
      dsimp only
      rw [w64 (by omega) (by omega) (x := v * 256), w64 (by omega) (by omega)]
      refine ⟨_, _, _, rfl, Int.tmod_nonneg _ (by omega), .inl (Int.tmod_lt_of_pos _ (by omega)), by omega, by omega⟩
    · rw [if_neg d, if_neg (by omega)]
      exact ⟨_, _, _, rfl, Int.tmod_nonneg _ v0, .inl (Int.tmod_lt_of_pos _ (by omega)), by omega, by omega⟩
theorem spec_l1Cur_among_d {s : List Int} (hs : Bytes s) (hl : s.length ≤ 1048576) (p st : Int) (l : List Int) (h0 : 0 ≤ p) (h1 : p ≤ 999999000) (hn : 1 ≤ l.length) (hn' : l.length ≤ 1000) :
    ∃ v p' st', spec_l1Cur_among.f s p st l = some (v, p', st') ∧ v ∈ l ∧ p ≤ p' ∧ p' ≤ p + 2 := by
  unfold spec_l1Cur_among.f
  obtain ⟨v, p', st', e, v0, v1, q0, q1⟩ := spec_l1Cur_pick_d hs hl p st (l.length : Int) h0 h1 (by omega)
  rw [e, Option.bind_some]
  dsimp only
  have hv : v < (l.length : Int) := by omega
  rw [if_pos v0, if_pos hv]
  refine ⟨_, _, _, rfl, ?_, q0, q1⟩
  obtain ⟨n, rfl⟩ := Int.eq_ofNat_of_zero_le v0
  have hn : n < l.length := by omega
  rw [rd_get hn]
  exact List.getElem_mem hn
theorem spec_l1Cur_one_d {s : List Int} (hs : Bytes s) (hl : s.length ≤ 1048576) (p st a : Int) (h0 : 0 ≤ p) (h1 : p ≤ 999999000) (ha : a ≤ 60000) :
    ∃ b p' st', spec_l1Cur_one.f s p st a = some (b, p', st') ∧ p ≤ p' ∧ p' ≤ p + 2 := by
  unfold spec_l1Cur_one.f
  obtain ⟨v, p', st', e, v0, v1, q0, q1⟩ := spec_l1Cur_pick_d hs hl p st a h0 h1 ha
  rw [e, Option.bind_some]
  exact ⟨_, _, _, rfl, q0, q1⟩
theorem spec_l1Cur_grid_d {s : List Int} (hs : Bytes s) (hl : s.length ≤ 1048576) (p st : Int) (h0 : 0 ≤ p) (h1 : p ≤ 999998000) :
    ∃ X Y Z p' st', spec_l1Cur_grid.f s p st = some (X, Y, Z, p', st') ∧ gridB X Y Z = true ∧ p ≤ p' ∧ p' ≤ p + 8 := by
  unfold spec_l1Cur_grid.f
  obtain ⟨b, p1, st1, e, q0, q1⟩ := spec_l1Cur_one_d hs hl p st 24 h0 (by omega) (by omega)
  rw [e, Option.bind_some]
  dsimp only
  cases b with
  | true =>
    rw [if_pos rfl, Option.bind_some]
    obtain ⟨v, p2, st2, e2, v0, v1, r0, r1⟩ := spec_l1Cur_pick_d hs hl p1 st1 4 (by omega) (by omega) (by omega)
    rw [e2, Option.bind_some]
    dsimp only
    rw [if_pos v0, if_pos (by simp only [List.length_cons, List.length_nil]; omega)]
    refine ⟨_, _, _, _, _, rfl, ?_, by omega, by omega⟩
    have : v = 0 ∨ v = 1 ∨ v = 2 ∨ v = 3 := by omega
    rcases this with rfl | rfl | rfl | rfl <;> decide
  | false =>
    rw [if_neg (by simp)]
    obtain ⟨v, p2, st2, e2, v0, v1, r0, r1⟩ := spec_l1Cur_pick_d hs hl p1 st1 4 (by omega) (by omega) (by omega)
    rw [e2, Option.bind_some]
    obtain ⟨u, p3, st3, e3, u0, u1, r2, r3⟩ := spec_l1Cur_pick_d hs hl p2 st2 3 (by omega) (by omega) (by omega)
    dsimp only
    rw [e3, Option.bind_some]
    obtain ⟨z, p4, st4, e4, z0, z1, r4, r5⟩ := spec_l1Cur_pick_d hs hl p3 st3 3 (by omega) (by omega) (by omega)
    dsimp only
    rw [e4, Option.bind_some]
    dsimp only
    rw [w64 (by omega) (by omega) (x := 1 + v), w64 (by omega) (by omega) (x := 1 + u), w64 (by omega) (by omega) (x := 1 + z)]
    refine ⟨_, _, _, _, _, rfl, ?_, by omega, by omega⟩
    have hv : v = 0 ∨ v = 1 ∨ v = 2 ∨ v = 3 := by omega
    have hu : u = 0 ∨ u = 1 ∨ u = 2 := by omega
    have hz : z = 0 ∨ z = 1 ∨ z = 2 := by omega
    rcases hv with rfl | rfl | rfl | rfl <;> rcases hu with rfl | rfl | rfl <;> rcases hz with rfl | rfl | rfl <;> decide
theorem anyGridk_d {s : List Int} (hs : Bytes s) (hl : s.length ≤ 1048576) (p st : Int) (h0 : 0 ≤ p) (h1 : p ≤ 999998000) (k : Nat) :
    ∃ X Y Z p' st', spec_l1Cur_anyGrid.f (k + 1) s p st = some (X, Y, Z, p', st') ∧ p ≤ p' ∧ p' ≤ p + 16 := by
  unfold spec_l1Cur_anyGrid.f
  obtain ⟨X, Y, Z, p1, st1, e, hg, q0, q1⟩ := spec_l1Cur_grid_d hs hl p st h0 h1
  rw [e, Option.bind_some]
  dsimp only
  obtain ⟨v, p2, st2, e2, v0, v1, r0, r1⟩ := spec_l1Cur_pick_d hs hl p1 st1 30 (by omega) (by omega) (by omega)
  rw [e2, Option.bind_some]
  dsimp only
  have am : ∀ l : List Int, 1 ≤ l.length → l.length ≤ 1000 → ∃ v p' st', spec_l1Cur_among.f s p2 st2 l = some (v, p', st') ∧ v ∈ l ∧ p2 ≤ p' ∧ p' ≤ p2 + 2 := fun l a b => spec_l1Cur_among_d hs hl p2 st2 l (by omega) (by omega) a b
  simp only [spec_l1Cur_anyGrid.j0]
  by_cases c0 : v = 0
  · obtain ⟨u, p3, st3, e3, _, r2, r3⟩ := am [0, 8, 9, (-1)] (by decide) (by decide)
    rw [if_pos c0, e3, Option.bind_some]; exact ⟨_, _, _, _, _, rfl, (by dsimp only; omega), (by dsimp only; omega)⟩
  · rw [if_neg c0]
    by_cases c1 : v = 1
    · obtain ⟨u, p3, st3, e3, _, r2, r3⟩ := am [0, 6, 7, (-1)] (by decide) (by decide)
      rw [if_pos c1, e3, Option.bind_some]; exact ⟨_, _, _, _, _, rfl, (by dsimp only; omega), (by dsimp only; omega)⟩
    · rw [if_neg c1]
      by_cases c2 : v = 2
      · obtain ⟨u, p3, st3, e3, _, r2, r3⟩ := am [0, 5, 6, (-1)] (by decide) (by decide)
        rw [if_pos c2, e3, Option.bind_some]; exact ⟨_, _, _, _, _, rfl, (by dsimp only; omega), (by dsimp only; omega)⟩
      · rw [if_neg c2]
        by_cases c3 : v = 3
        · obtain ⟨u, p3, st3, e3, _, r2, r3⟩ := am [2, 3] (by decide) (by decide)
          rw [if_pos c3, e3, Option.bind_some]; exact ⟨_, _, _, _, _, rfl, (by dsimp only; omega), (by dsimp only; omega)⟩
        · rw [if_neg c3]
          by_cases c4 : v = 4
          · rw [if_pos c4]; exact ⟨_, _, _, _, _, rfl, by omega, by omega⟩
          · rw [if_neg c4]; exact ⟨_, _, _, _, _, rfl, by omega, by omega⟩
theorem spec_l1Cur_block_d {s : List Int} (hs : Bytes s) (hl : s.length ≤ 1048576) (p st X Y Z : Int) (h0 : 0 ≤ p) (h1 : p ≤ 999998000) :
    ∃ v p' st', spec_l1Cur_block.f s p st X Y Z = some (v, p', st') ∧ -1 ≤ v ∧ v ≤ 120 ∧ p ≤ p' ∧ p' ≤ p + 4 := by
  unfold spec_l1Cur_block.f
  rw [spec_grGood_v, Option.bind_some]
  cases hg : gridB X Y Z with
  | false => rw [if_neg (by simp)]; exact ⟨_, _, _, rfl, (by first | omega | (dsimp only; omega)), (by first | omega | (dsimp only; omega)), (by first | omega | (dsimp only; omega)), (by first | omega | (dsimp only; omega))⟩
  | true =>
    have hp := grid_pos hg
    rw [if_pos rfl]
    obtain ⟨b, p1, st1, e, q0, q1⟩ := spec_l1Cur_one_d hs hl p st 24 h0 (by omega) (by omega)
    rw [e, Option.bind_some, spec_grCount_v hg]
    dsimp only
    cases b with
    | true =>
      rw [if_pos rfl, Option.bind_some]
      obtain ⟨u, p3, st3, e3, hu, r2, r3⟩ := spec_l1Cur_among_d hs hl p1 st1 [-1, X * Y * Z] (by omega) (by omega) (by simp) (by simp)
      rw [e3, Option.bind_some]
      simp only [List.mem_cons, List.not_mem_nil, or_false] at hu
      exact ⟨_, _, _, rfl, (by first | omega | (dsimp only; omega)), (by first | omega | (dsimp only; omega)), (by first | omega | (dsimp only; omega)), (by first | omega | (dsimp only; omega))⟩
    | false =>
      rw [if_neg (by simp), Option.bind_some]
      obtain ⟨u, p3, st3, e3, hu, hu', r2, r3⟩ := spec_l1Cur_pick_d hs hl p1 st1 (X * Y * Z) (by omega) (by omega) (by omega)
      rw [e3, Option.bind_some]
      exact ⟨_, _, _, rfl, (by first | omega | (dsimp only; omega)), (by first | omega | (dsimp only; omega)), (by first | omega | (dsimp only; omega)), (by first | omega | (dsimp only; omega))⟩
theorem laws_big_v (a b : List Int) (ha : a.length ≤ maxLen) (hb : b.length ≤ maxLen) : laws_big.f a b = some true ∨ (laws_big.f a b = some false ∧ a.length + b.length ≤ 1048576) := by
  unfold laws_big.f
  by_cases c : (a.length : Int) > 1048576
  · rw [if_pos c]; exact .inl rfl
  · rw [if_neg c, w64 (by omega) (by omega)]
    by_cases d : (b.length : Int) > 1048576 - (a.length : Int)
    · rw [decide_eq_true d]; exact .inl rfl
    · rw [decide_eq_false d]; exact .inr ⟨rfl, by omega⟩
theorem laws_sameInts_l (l : List Int) (hn : l.length ≤ 1048576) : ∀ (d k i : Nat), i + d = l.length → d < k → laws_sameInts.l0 k l l (l.length : Int) (i : Int) = some true := by
  intro d
  induction d with
  | zero =>
    intro k i hi hk
    obtain ⟨k, rfl⟩ := k_succ (by omega : 0 < k)
    simp only [laws_sameInts.l0]
    rw [if_neg (by omega)]
  | succ d ih =>
    intro k i hi hk
    obtain ⟨k, rfl⟩ := k_succ (by omega : 0 < k)
    simp only [laws_sameInts.l0]
    rw [if_pos (by omega), if_pos (by omega), if_pos (by omega), if_pos (by omega), if_pos trivial, w64_succ (by omega), ih k (i + 1) (by omega) (by omega)]
theorem laws_sameInts_v (l : List Int) (hn : l.length ≤ 1048576) {k : Nat} (hk : l.length < k) : laws_sameInts.f k l l = some true := by
  unfold laws_sameInts.f
  rw [if_pos rfl]
  exact laws_sameInts_l l hn l.length k 0 (by omega) hk
theorem laws_pIn_l (l : List Int) (v : Int) (hn : l.length ≤ 1048576) : ∀ (d k i : Nat), i + d = l.length → d < k → laws_pIn.l0 k v l (l.length : Int) (i : Int) = some (decide (v ∈ l.drop i)) := by
  intro d
  induction d with
  | zero =>
    intro k i hi hk
    obtain ⟨k, rfl⟩ := k_succ (by omega : 0 < k)
    simp only [laws_pIn.l0]
    rw [if_neg (by omega), List.drop_eq_nil_of_le (by omega)]; simp
  | succ d ih =>
    intro k i hi hk
    obtain ⟨k, rfl⟩ := k_succ (by omega : 0 < k)
    simp only [laws_pIn.l0]
    rw [if_pos (by omega), if_pos (by omega), if_pos (by omega), w64_succ (by omega), ih k (i + 1) (by omega) (by omega), drop_rd (by omega : i < l.length)]
    by_cases c : rd l (i : Int) = v
    · rw [if_pos c, c]; simp
    · rw [if_neg c]
      congr 1
      rw [decide_eq_decide, List.mem_cons]
      exact ⟨.inr, fun h => h.elim (fun e => absurd e.symm c) id⟩
theorem laws_pIn_v (l : List Int) (v : Int) (hn : l.length ≤ 1048576) {k : Nat} (hk : l.length < k) : laws_pIn.f k l v = some (decide (v ∈ l)) := by
  unfold laws_pIn.f
  simpa using laws_pIn_l l v hn l.length k 0 (by omega) hk
theorem W0 : wrap64 (0 + 1) = 1 := w64 (by decide) (by decide)
theorem W1 : wrap64 (1 + 1) = 2 := w64 (by decide) (by decide)
theorem W2 : wrap64 (2 + 1) = 3 := w64 (by decide) (by decide)
theorem W3 : wrap64 (3 + 1) = 4 := w64 (by decide) (by decide)
theorem spec_l1Num_d {v : Int} (h0 : 0 ≤ v) (h1 : v < 10) (k : Nat) : spec_l1Num.f (k + 1) v = some (strOfNums [48 + v]) := by
  rw [spec_l1Num.f, if_pos h1, w64 (by omega) (by omega), show (48 + v) % 256 = 48 + v by omega]
theorem digit_size {v : Int} (h0 : 0 ≤ v) (h1 : v < 10) : (strOfNums [48 + v]).size = 1 := by
  have : v = 0 ∨ v = 1 ∨ v = 2 ∨ v = 3 ∨ v = 4 ∨ v = 5 ∨ v = 6 ∨ v = 7 ∨ v = 8 ∨ v = 9 := by omega
  rcases this with rfl | rfl | rfl | rfl | rfl | rfl | rfl | rfl | rfl | rfl <;> rfl
theorem strconv_Itoa_d {v : Int} (h0 : 0 ≤ v) (h1 : v < 10) : strconv_Itoa.f v = some (strOfNums [48 + v]) := by
  have : v = 0 ∨ v = 1 ∨ v = 2 ∨ v = 3 ∨ v = 4 ∨ v = 5 ∨ v = 6 ∨ v = 7 ∨ v = 8 ∨ v = 9 := by omega
  rcases this with rfl | rfl | rfl | rfl | rfl | rfl | rfl | rfl | rfl | rfl <;> (rw [strconv_Itoa.f, if_pos (by decide), if_pos (by decide)]; congr 1; kernel_rfl)
def nameV (X Y i : Int) : ByteArray := strOfNums [48 + i % X] ++ (⟨#[44]⟩ : ByteArray) ++ strOfNums [48 + i / X % Y] ++ (⟨#[44]⟩ : ByteArray) ++ strOfNums [48 + i / X / Y]
theorem spec_grName_v {X Y Z i : Int} (h : hasB X Y Z i = true) (k : Nat) : spec_grName.f (k + 1) X Y Z i = some (nameV X Y i) := by
  obtain ⟨⟨p1, p2⟩, ⟨p3, p4⟩, ⟨p5, p6⟩, p7, p8⟩ := place_bd h
  obtain ⟨h1, h2, h3, h4, h5, h6, h7⟩ := gridB_t (hasB_t h).1
  have s1 := digit_size p1 (by omega : i % X < 10)
  have s2 := digit_size p3 (by omega : i / X % Y < 10)
  have s3 := digit_size p5 (by omega : i / X / Y < 10)
  have s0 : (⟨#[44]⟩ : ByteArray).size = 1 := rfl
  unfold spec_grName.f nameV
  rw [spec_grX_v h, Option.bind_some, spec_l1Num_d p1 (by omega), Option.bind_some, if_pos (by omega), spec_grY_v h, Option.bind_some, spec_l1Num_d p3 (by omega), Option.bind_some]
  simp only [ByteArray.size_append, s0, s1, s2, s3]
  rw [if_pos (by omega), if_pos (by omega), spec_grZ_v h, Option.bind_some, spec_l1Num_d p5 (by omega), Option.bind_some]
  simp only [s3]
  rw [if_pos (by omega)]
theorem impl_blockName_v {X Y Z i : Int} (h : hasB X Y Z i = true) : impl_blockName.f X Y Z i = some (nameV X Y i) := by
  obtain ⟨⟨p1, p2⟩, ⟨p3, p4⟩, ⟨p5, p6⟩, p7, p8⟩ := place_bd h
  obtain ⟨h1, h2, h3, h4, h5, h6, h7⟩ := gridB_t (hasB_t h).1
  have s1 := digit_size p1 (by omega : i % X < 10)
  have s2 := digit_size p3 (by omega : i / X % Y < 10)
  have s3 := digit_size p5 (by omega : i / X / Y < 10)
  have s0 : (⟨#[44]⟩ : ByteArray).size = 1 := rfl
  unfold impl_blockName.f nameV
  rw [impl_placeOf_v h, Option.bind_some]
  dsimp only
  rw [strconv_Itoa_d p1 (by omega), Option.bind_some, if_pos (by omega), strconv_Itoa_d p3 (by omega), Option.bind_some]
  simp only [ByteArray.size_append, s0, s1, s2, s3]
  rw [if_pos (by omega), if_pos (by omega), strconv_Itoa_d p5 (by omega), Option.bind_some]
  simp only [s3]
  rw [if_pos (by omega)]
def bnameR (X Y Z i : Int) : ByteArray × Bool := if hasB X Y Z i = true then (nameV X Y i, true) else (⟨#[]⟩, false)
theorem impl_BlockName_v (X Y Z i : Int) : impl_BlockName.f X Y Z i = some (bnameR X Y Z i) := by
  unfold impl_BlockName.f bnameR
  rw [impl_hasBlock_v, Option.bind_some]
  cases h : hasB X Y Z i with
  | false => simp
  | true => rw [if_pos rfl, if_pos rfl, impl_blockName_v h, Option.bind_some]
def gtextV (X Y Z : Int) : ByteArray := strOfNums [48 + X] ++ (⟨#[120]⟩ : ByteArray) ++ strOfNums [48 + Y] ++ (⟨#[120]⟩ : ByteArray) ++ strOfNums [48 + Z]
theorem spec_grText_v {X Y Z : Int} (h : gridB X Y Z = true) (k : Nat) : spec_grText.f (k + 1) X Y Z = some (gtextV X Y Z) := by
  obtain ⟨h1, h2, h3, h4, h5, h6, h7⟩ := gridB_t h
  have s1 := digit_size (by omega : 0 ≤ X) (by omega)
  have s2 := digit_size (by omega : 0 ≤ Y) (by omega)
  have s3 := digit_size (by omega : 0 ≤ Z) (by omega)
  have s0 : (⟨#[120]⟩ : ByteArray).size = 1 := rfl
  unfold spec_grText.f gtextV
  rw [spec_l1Num_d (by omega) (by omega), Option.bind_some, if_pos (by omega), spec_l1Num_d (by omega) (by omega), Option.bind_some]
  simp only [ByteArray.size_append, s0, s1, s2, s3]
  rw [if_pos (by omega), if_pos (by omega), spec_l1Num_d (by omega) (by omega), Option.bind_some]
  simp only [s3]
  rw [if_pos (by omega)]
def gtextR (X Y Z : Int) : ByteArray × Bool := if gridB X Y Z = true then (gtextV X Y Z, true) else (⟨#[]⟩, false)
theorem spec_GridText_v (X Y Z : Int) (k : Nat) : spec_GridText.f (k + 1) X Y Z = some (gtextR X Y Z) := by
  unfold spec_GridText.f gtextR
  rw [spec_grGood_v, Option.bind_some]
  cases h : gridB X Y Z with
  | false => simp
  | true => rw [if_pos rfl, if_pos rfl, spec_grText_v h, Option.bind_some]
theorem impl_GridText_v (X Y Z : Int) : impl_GridText.f X Y Z = some (gtextR X Y Z) := by
  unfold impl_GridText.f gtextR
  rw [impl_IsGrid_v, Option.bind_some]
  cases h : gridB X Y Z with
  | false => simp
  | true =>
    obtain ⟨h1, h2, h3, h4, h5, h6, h7⟩ := gridB_t h
    have s1 := digit_size (by omega : 0 ≤ X) (by omega)
    have s2 := digit_size (by omega : 0 ≤ Y) (by omega)
    have s3 := digit_size (by omega : 0 ≤ Z) (by omega)
    have s0 : (⟨#[120]⟩ : ByteArray).size = 1 := rfl
    unfold gtextV
    rw [if_pos rfl, if_pos rfl, strconv_Itoa_d (by omega) (by omega), Option.bind_some, if_pos (by omega), strconv_Itoa_d (by omega) (by omega), Option.bind_some]
    simp only [ByteArray.size_append, s0, s1, s2, s3]
    rw [if_pos (by omega), if_pos (by omega), strconv_Itoa_d (by omega) (by omega), Option.bind_some]
    simp only [s3]
    rw [if_pos (by omega)]
def toBA (l : List UInt8) : ByteArray := ⟨l.toArray⟩
theorem toBA_data (s : ByteArray) : toBA s.data.toList = s := by cases s; simp [toBA]
def spl (c : UInt8) : List UInt8 → List UInt8 → List (List UInt8)
  | cur, [] => [cur]
  | cur, x :: xs => if x = c then cur :: spl c [] xs else spl c (cur ++ [x]) xs
theorem spl_ne (c : UInt8) : ∀ (l cur : List UInt8), spl c cur l ≠ []
  | [], cur => by simp [spl]
  | x :: xs, cur => by
    unfold spl
    split
    · simp
    · exact spl_ne c xs _
def joinC (c : UInt8) : List (List UInt8) → List UInt8
  | [] => []
  | [p] => p
  | p :: q :: r => p ++ c :: joinC c (q :: r)
theorem spl_join (c : UInt8) : ∀ (l cur : List UInt8), joinC c (spl c cur l) = cur ++ l
  | [], cur => by simp [spl, joinC]
  | x :: xs, cur => by
    unfold spl
    by_cases h : x = c
    · rw [if_pos h]
      have ih := spl_join c xs []
      obtain ⟨p, r, hp⟩ : ∃ p r, spl c [] xs = p :: r := by
        cases hs : spl c [] xs with
        | nil => exact absurd hs (spl_ne c xs [])
        | cons p r => exact ⟨p, r, rfl⟩
      rw [hp] at ih ⊢
      rw [joinC, ih, h]; rfl
    · rw [if_neg h, spl_join c xs]; simp
theorem bt_list (s : ByteArray) {i : Nat} (h : i < s.data.toList.length) : bt s (i : Int) = ((s.data.toList[i]).toNat : Int) := by
  unfold bt
  simp at h ⊢
  simp [h]
  rfl
theorem extract_toBA (s : ByteArray) (a i : Nat) : s.extract a i = toBA ((s.data.toList.drop a).take (i - a)) := by
  rw [← toBA_data (s.extract a i)]
  congr 1
  rw [ByteArray.data_extract, Array.toList_extract, List.extract_eq_take_drop]
theorem size_list (s : ByteArray) : s.size = s.data.toList.length := by cases s; simp [ByteArray.size]
theorem spec_l1Split_l (s : ByteArray) (hs : s.data.toList.length ≤ 1048576) : ∀ (d k i a : Nat) (acc : List ByteArray), i + d = s.data.toList.length → d < k → a ≤ i → acc.length ≤ i →
    spec_l1Split.l0 k s 44 acc (a : Int) (i : Int) = some (acc ++ (spl 44 ((s.data.toList.drop a).take (i - a)) (s.data.toList.drop i)).map toBA) := by
  have hsz := size_list s
  intro d
  induction d with
  | zero =>
    intro k i a acc hi hk ha hl
    obtain ⟨k, rfl⟩ := k_succ (by omega : 0 < k)
    rw [spec_l1Split.l0, if_neg (by omega), if_pos (by omega), if_pos (by omega), if_pos (by omega), List.drop_eq_nil_of_le (by omega : s.data.toList.length ≤ i)]
    rw [show ((a : Int)).toNat = a by omega, extract_toBA, show s.size = i by omega]
    rfl
  | succ d ih =>
    intro k i a acc hi hk ha hl
    obtain ⟨k, rfl⟩ := k_succ (by omega : 0 < k)
    have hil : i < s.data.toList.length := by omega
    have hd : s.data.toList.drop i = s.data.toList[i] :: s.data.toList.drop (i + 1) := List.drop_eq_getElem_cons hil
    rw [spec_l1Split.l0, if_pos (by omega), if_pos (by omega), bt_list s hil, hd]
    unfold spl
    by_cases h : s.data.toList[i] = 44
    · rw [if_pos h, if_pos (by rw [h]; rfl), if_pos (by omega), if_pos (by omega), if_pos (by omega), if_pos (by omega), w64_succ (by omega), ih k (i + 1) (i + 1) _ (by omega) (by omega) (by omega) (by simp; omega)]
      rw [show ((a : Int)).toNat = a by omega, show ((i : Int)).toNat = i by omega, extract_toBA, Nat.sub_self, List.take_zero, List.map_cons, List.append_assoc]
      rfl
    · rw [if_neg h, if_neg (fun e => h (UInt8.toNat_inj.1 (by show s.data.toList[i].toNat = 44; omega))), w64_succ (by omega), ih k (i + 1) a _ (by omega) (by omega) (by omega) (by omega)]
      congr 3
      rw [show i + 1 - a = (i - a) + 1 by omega, List.take_add_one, List.getElem?_drop, show a + (i - a) = i by omega, List.getElem?_eq_getElem hil]
      rfl
theorem spec_l1Split_v (s : ByteArray) (hs : s.size ≤ 1048576) {k : Nat} (hk : 1048576 < k) : spec_l1Split.f k s 44 = some ((spl 44 [] s.data.toList).map toBA) := by
  have hsz := size_list s
  unfold spec_l1Split.f
  have := spec_l1Split_l s (by omega) s.data.toList.length k 0 0 [] (by omega) (by omega) (by omega) (by simp)
  simpa using this
theorem toBA_list (p : List UInt8) : (toBA p).data.toList = p := by simp [toBA]
theorem toBA_size (p : List UInt8) : (toBA p).size = p.length := by simp [toBA, ByteArray.size]
theorem bt_toBA (p : List UInt8) {i : Nat} (h : i < p.length) : bt (toBA p) (i : Int) = ((p[i]).toNat : Int) := by
  rw [bt_list (toBA p) (by rw [toBA_list]; exact h)]
  simp [toBA_list]
theorem pow10_6 : ∀ i : Nat, i ≤ 6 → (10 : Int) ^ i ≤ 1000000 := by decide
theorem read_l (p : List UInt8) (hp : p.length ≤ 6) : ∀ (d k i : Nat) (n : Int), i + d = p.length → d < k → 0 ≤ n → n < (10 : Int) ^ i →
    ∃ v, spec_l1Read.l0 k (toBA p) n (i : Int) = some v ∧ (v = -1 ∨ n ≤ v) := by
  have hsz := toBA_size p
  intro d
  induction d with
  | zero =>
    intro k i n hi hk h0 h1
    obtain ⟨k, rfl⟩ := k_succ (by omega : 0 < k)
    rw [spec_l1Read.l0, if_neg (by omega)]
    exact ⟨n, rfl, .inr (Int.le_refl _)⟩
  | succ d ih =>
    intro k i n hi hk h0 h1
    obtain ⟨k, rfl⟩ := k_succ (by omega : 0 < k)
    have hb := bt_toBA p (show i < p.length by omega)
    have hpw := pow10_6 i (by omega)
    rw [spec_l1Read.l0, if_pos (by omega), if_pos (by omega), hb]
    by_cases c1 : ((p[i]).toNat : Int) < 48
    · rw [if_pos c1]; exact ⟨-1, rfl, .inl rfl⟩
    · rw [if_neg c1]
      by_cases c2 : ((p[i]).toNat : Int) > 57
      · rw [if_pos c2]; exact ⟨-1, rfl, .inl rfl⟩
      · rw [if_neg c2, w64 (x := 10 * n) (by omega) (by omega), w64 (x := 10 * n + _) (by omega) (by omega), w64_succ (by omega)]
        obtain ⟨v, e, hv⟩ := ih k (i + 1) (10 * n + (((p[i]).toNat : Int) - 48) % 256) (by omega) (by omega) (by omega) (by rw [Int.pow_succ]; omega)
        exact ⟨v, e, by rcases hv with hv | hv <;> omega⟩
theorem read_v (p : List UInt8) (k : Nat) (hk : 20 < k) : ∃ v, spec_l1Read.f k (toBA p) = some v ∧ (v = -1 ∨ 10 ≤ v ∨ ∃ b, p = [b] ∧ 48 ≤ b.toNat ∧ b.toNat ≤ 57 ∧ v = (b.toNat : Int) - 48) := by
  obtain ⟨k, rfl⟩ := k_succ (by omega : 0 < k)
  have hsz := toBA_size p
  unfold spec_l1Read.f
  rw [spec_l1In_v, Option.bind_some]
  by_cases hl : 1 ≤ p.length ∧ p.length ≤ 6
  · rw [if_pos (by rw [decide_eq_true_eq]; omega), if_pos (by omega)]
    match p, hl with
    | [b], _ =>
      have hb := bt_toBA [b] (i := 0) (by simp)
      have hj : spec_l1Read.j0 (k + 1) (toBA [b]) false = spec_l1Read.l0 k (toBA [b]) 0 0 := by rw [spec_l1Read.j0, if_neg (by decide)]
      have hd : decide (((toBA [b]).size : Int) > 1) = false := by rw [decide_eq_false_iff_not, hsz]; simp
      rw [hd, hj, ite_self]
      obtain ⟨k, rfl⟩ : ∃ m, k = m + 2 := ⟨k - 2, by omega⟩
      simp only [List.getElem_cons_zero] at hb
      rw [spec_l1Read.l0, if_pos (by rw [hsz]; simp), if_pos (by omega), show (0 : Int) = ((0 : Nat) : Int) from rfl, hb]
      by_cases c1 : (b.toNat : Int) < 48
      · rw [if_pos c1]; exact ⟨-1, rfl, .inl rfl⟩
      · rw [if_neg c1]
        by_cases c2 : (b.toNat : Int) > 57
        · rw [if_pos c2]; exact ⟨-1, rfl, .inl rfl⟩
        · rw [if_neg c2, spec_l1Read.l0, if_neg (by rw [hsz, w64 (by omega) (by omega)]; simp)]
          refine ⟨_, rfl, .inr (.inr ⟨b, rfl, by omega, by omega, ?_⟩)⟩
          rw [w64 (x := 10 * _) (by omega) (by omega), w64 (by omega) (by omega)]
          omega
    | b :: c :: r, hl =>
      have hb := bt_toBA (b :: c :: r) (i := 0) (by simp)
      have hc := bt_toBA (b :: c :: r) (i := 1) (by simp)
      simp only [List.getElem_cons_zero, List.getElem_cons_succ] at hb hc
      have hlen : (b :: c :: r).length = r.length + 2 := by simp
      by_cases z : bt (toBA (b :: c :: r)) 0 = 48
      · rw [if_pos z, decide_eq_true (by omega), spec_l1Read.j0, if_pos rfl]
        exact ⟨-1, rfl, .inl rfl⟩
      · rw [if_neg z, spec_l1Read.j0, if_neg (by decide)]
        obtain ⟨k, rfl⟩ : ∃ m, k = m + 2 := ⟨k - 2, by omega⟩
        have z' : ¬ ((b.toNat : Int) = 48) := fun e => z (hb.trans e)
        rw [spec_l1Read.l0, if_pos (by omega), if_pos (by omega), show (0 : Int) = ((0 : Nat) : Int) from rfl, hb]
        by_cases c1 : (b.toNat : Int) < 48
        · rw [if_pos c1]; exact ⟨-1, rfl, .inl rfl⟩
        · rw [if_neg c1]
          by_cases c2 : (b.toNat : Int) > 57
          · rw [if_pos c2]; exact ⟨-1, rfl, .inl rfl⟩
          · rw [if_neg c2, w64_succ (by omega), spec_l1Read.l0, if_pos (by omega), if_pos (by omega), hc]
            by_cases c3 : (c.toNat : Int) < 48
            · rw [if_pos c3]; exact ⟨-1, rfl, .inl rfl⟩
            · rw [if_neg c3]
              by_cases c4 : (c.toNat : Int) > 57
              · rw [if_pos c4]; exact ⟨-1, rfl, .inl rfl⟩
              · rw [if_neg c4, w64 (x := 10 * ((0 : Nat) : Int)) (by omega) (by omega), w64 (x := 10 * ((0 : Nat) : Int) + _) (by omega) (by omega), w64 (x := 10 * (10 * ((0 : Nat) : Int) + _)) (by omega) (by omega), w64 (x := 10 * (10 * ((0 : Nat) : Int) + _) + _) (by omega) (by omega), w64_succ (by omega)]
                obtain ⟨v, e, hv⟩ := read_l (b :: c :: r) (by omega) r.length k 2 (10 * (10 * ((0 : Nat) : Int) + ((b.toNat : Int) - 48) % 256) + ((c.toNat : Int) - 48) % 256) (by omega) (by omega) (by omega) (by omega)
                exact ⟨v, e, by rcases hv with hv | hv <;> omega⟩
  · rw [if_neg (by rw [decide_eq_true_eq]; omega), spec_l1Read.j0, if_pos rfl]
    exact ⟨-1, rfl, .inl rfl⟩
def dg (v : Int) : UInt8 := UInt8.ofNat (48 + v).toNat
theorem dg_toNat {v : Int} (h0 : 0 ≤ v) (h1 : v < 10) : ((dg v).toNat : Int) = 48 + v := by
  unfold dg
  rw [UInt8.toNat_ofNat']
  omega
theorem dg_str {v : Int} (h0 : 0 ≤ v) (h1 : v < 10) : strOfNums [48 + v] = toBA [dg v] := by
  have : v = 0 ∨ v = 1 ∨ v = 2 ∨ v = 3 ∨ v = 4 ∨ v = 5 ∨ v = 6 ∨ v = 7 ∨ v = 8 ∨ v = 9 := by omega
  rcases this with rfl | rfl | rfl | rfl | rfl | rfl | rfl | rfl | rfl | rfl <;> rfl
theorem toBA_app (a b : List UInt8) : toBA a ++ toBA b = toBA (a ++ b) := by
  rw [← toBA_data (toBA a ++ toBA b)]
  congr 1
theorem name_list {X Y Z i : Int} (h : hasB X Y Z i = true) : nameV X Y i = toBA [dg (i % X), 44, dg (i / X % Y), 44, dg (i / X / Y)] := by
  obtain ⟨⟨p1, p2⟩, ⟨p3, p4⟩, ⟨p5, p6⟩, p7, p8⟩ := place_bd h
  obtain ⟨h1, h2, h3, h4, h5, h6, h7⟩ := gridB_t (hasB_t h).1
  unfold nameV
  rw [dg_str p1 (by omega), dg_str p3 (by omega), dg_str p5 (by omega), show (⟨#[44]⟩ : ByteArray) = toBA [44] from rfl, toBA_app, toBA_app, toBA_app, toBA_app]
  rfl
theorem dg_ne {v : Int} (h0 : 0 ≤ v) (h1 : v < 10) : dg v ≠ 44 := by
  intro e
  have := dg_toNat h0 h1
  rw [e] at this
  have h44 : ((44 : UInt8).toNat : Int) = 44 := rfl
  omega
theorem read_dg {v : Int} (h0 : 0 ≤ v) (h1 : v < 10) (k : Nat) (hk : 20 < k) : spec_l1Read.f k (toBA [dg v]) = some v := by
  obtain ⟨k, rfl⟩ : ∃ m, k = m + 4 := ⟨k - 4, by omega⟩
  have hd := dg_toNat h0 h1
  have hb := bt_toBA [dg v] (i := 0) (by simp)
  have hsz := toBA_size [dg v]
  simp only [List.getElem_cons_zero, List.length_singleton] at hb hsz
  unfold spec_l1Read.f
  rw [spec_l1In_v, Option.bind_some, if_pos (by rw [decide_eq_true_eq]; omega), if_pos (by omega), show decide (((toBA [dg v]).size : Int) > 1) = false by rw [decide_eq_false_iff_not]; omega, ite_self, spec_l1Read.j0, if_neg (by decide), spec_l1Read.l0, if_pos (by omega), if_pos (by omega), show (0 : Int) = ((0 : Nat) : Int) from rfl, hb, if_neg (by omega), if_neg (by omega), spec_l1Read.l0, if_neg (by rw [w64 (by omega) (by omega)]; omega), w64 (x := 10 * _) (by omega) (by omega), w64 (by omega) (by omega)]
  congr 1
  omega
theorem place_back {X Y x y z : Int} (hX : 0 < X) (hY : 0 < Y) (h0 : 0 ≤ x) (h1 : x < X) (h2 : 0 ≤ y) (h3 : y < Y) : ((z * Y + y) * X + x) % X = x ∧ ((z * Y + y) * X + x) / X % Y = y ∧ ((z * Y + y) * X + x) / X / Y = z := by
  have e1 : ((z * Y + y) * X + x) / X = z * Y + y := by
    rw [Int.add_comm, Int.add_mul_ediv_right _ _ (by omega), Int.ediv_eq_zero_of_lt h0 h1, Int.zero_add]
  refine ⟨by rw [Int.add_comm, Int.add_mul_emod_self_right, Int.emod_eq_of_lt h0 h1], ?_, ?_⟩
  · rw [e1, Int.add_comm, Int.add_mul_emod_self_right, Int.emod_eq_of_lt h2 h3]
  · rw [e1, Int.add_comm, Int.add_mul_ediv_right _ _ (by omega), Int.ediv_eq_zero_of_lt h2 h3, Int.zero_add]
theorem place_fwd (X Y i : Int) : (i / X / Y * Y + i / X % Y) * X + i % X = i := by
  have a := Int.mul_ediv_add_emod (i / X) Y
  have b := Int.mul_ediv_add_emod i X
  rw [Int.mul_comm (i / X / Y) Y, a, Int.mul_comm (i / X) X, b]
theorem spec_parse_name {X Y Z j : Int} (h : hasB X Y Z j = true) (k : Nat) (hk : 1048600 < k) : spec_ParseBlock.f k X Y Z (nameV X Y j) = some (j, true) := by
  obtain ⟨⟨p1, p2⟩, ⟨p3, p4⟩, ⟨p5, p6⟩, p7, p8⟩ := place_bd h
  obtain ⟨hg, hi, hi'⟩ := hasB_t h
  obtain ⟨h1, h2, h3, h4, h5, h6, h7⟩ := gridB_t hg
  obtain ⟨k, rfl⟩ := k_succ (by omega : 0 < k)
  unfold spec_ParseBlock.f
  rw [name_list h, spec_l1Split_v _ (by rw [toBA_size]; simp) (by omega), toBA_list, Option.bind_some, spec_grGood_v, hg, Option.bind_some, if_pos rfl]
  have e : spl 44 [] [dg (j % X), 44, dg (j / X % Y), 44, dg (j / X / Y)] = [[dg (j % X)], [dg (j / X % Y)], [dg (j / X / Y)]] := by
    simp [spl, dg_ne p1 (by omega), dg_ne p3 (by omega), dg_ne p5 (by omega)]
  rw [e, spec_ParseBlock.j0, if_neg (by simp), if_pos (by simp)]
  simp only [rdOf, List.map_cons, List.map_nil]
  show ((spec_l1Read.f k (toBA [dg (j % X)])).bind _) = _
  rw [read_dg p1 (by omega) k (by omega), Option.bind_some, if_pos (by simp)]
  show ((spec_l1Read.f k (toBA [dg (j / X % Y)])).bind _) = _
  rw [read_dg p3 (by omega) k (by omega), Option.bind_some, if_pos (by simp)]
  show ((spec_l1Read.f k (toBA [dg (j / X / Y)])).bind _) = _
  rw [read_dg p5 (by omega) k (by omega), Option.bind_some, spec_grAt_v h1 h2 h3 h4 h5 h6, Option.bind_some, if_pos (show inB X Y Z (j % X) (j / X % Y) (j / X / Y) = true from decide_eq_true ⟨p1, p2, p3, p4, p5, p6⟩), place_fwd, if_neg (by omega)]
theorem spec_parse_back {X Y Z : Int} (hg : gridB X Y Z = true) (s : ByteArray) (hs : s.size ≤ 1048576) (k : Nat) (hk : 1048600 < k) :
    spec_ParseBlock.f k X Y Z s = some (0, false) ∨ ∃ j, hasB X Y Z j = true ∧ nameV X Y j = s := by
  obtain ⟨h1, h2, h3, h4, h5, h6, h7⟩ := gridB_t hg
  obtain ⟨k, rfl⟩ := k_succ (by omega : 0 < k)
  unfold spec_ParseBlock.f
  rw [spec_l1Split_v _ hs (by omega), Option.bind_some, spec_grGood_v, hg, Option.bind_some, if_pos rfl, spec_ParseBlock.j0]
  have hj := spl_join 44 s.data.toList []
  by_cases h3' : (spl 44 [] s.data.toList).length = 3
  · rw [if_neg (by simp [h3'])]
    match hp : spl 44 [] s.data.toList, h3' with
    | [p0, p1, p2], _ =>
      rw [hp] at hj
      obtain ⟨v0, e0, c0⟩ := read_v p0 k (by omega)
      obtain ⟨v1, e1, c1⟩ := read_v p1 k (by omega)
      obtain ⟨v2, e2, c2⟩ := read_v p2 k (by omega)
      simp only [rdOf, List.map_cons, List.map_nil]
      rw [if_pos (by simp)]
      show ((spec_l1Read.f k (toBA p0)).bind _) = _ ∨ _
      rw [e0, Option.bind_some, if_pos (by simp)]
      show ((spec_l1Read.f k (toBA p1)).bind _) = _ ∨ _
      rw [e1, Option.bind_some, if_pos (by simp)]
      show ((spec_l1Read.f k (toBA p2)).bind _) = _ ∨ _
      rw [e2, Option.bind_some, spec_grAt_v h1 h2 h3 h4 h5 h6, Option.bind_some]
      by_cases hin : inB X Y Z v0 v1 v2 = true
      · have hi : 0 ≤ v0 ∧ v0 < X ∧ 0 ≤ v1 ∧ v1 < Y ∧ 0 ≤ v2 ∧ v2 < Z := of_decide_eq_true hin
        right
        have q0 : p0 = [dg v0] := by
          rcases c0 with c | c | ⟨b, rfl, b1, b2, hb⟩
          · omega
          · omega
          · congr 1; apply UInt8.toNat_inj.1; have := dg_toNat (v := v0) (by omega) (by omega); omega
        have q1 : p1 = [dg v1] := by
          rcases c1 with c | c | ⟨b, rfl, b1, b2, hb⟩
          · omega
          · omega
          · congr 1; apply UInt8.toNat_inj.1; have := dg_toNat (v := v1) (by omega) (by omega); omega
        have q2 : p2 = [dg v2] := by
          rcases c2 with c | c | ⟨b, rfl, b1, b2, hb⟩
          · omega
          · omega
          · congr 1; apply UInt8.toNat_inj.1; have := dg_toNat (v := v2) (by omega) (by omega); omega
        obtain ⟨r0, r1, r2⟩ := place_back (z := v2) (by omega : 0 < X) (by omega : 0 < Y) hi.1 hi.2.1 hi.2.2.1 hi.2.2.2.1
        have hb : hasB X Y Z ((v2 * Y + v1) * X + v0) = true := by
          refine hasB_of hg ((at_w (by omega) h2 (by omega) h4 hi.1 (by omega) hi.2.2.1 (by omega) hi.2.2.2.2.1 (by omega)).2) ?_
          have f1 : (v2 * Y + v1) ≤ Z * Y - 1 := by
            have : v2 * Y ≤ (Z - 1) * Y := Int.mul_le_mul_of_nonneg_right (by omega) (by omega)
            rw [Int.sub_mul, Int.one_mul] at this; omega
          have f2 : (v2 * Y + v1) * X ≤ (Z * Y - 1) * X := Int.mul_le_mul_of_nonneg_right f1 (by omega)
          rw [Int.sub_mul, Int.one_mul] at f2
          have f3 : X * Y * Z = Z * Y * X := by rw [Int.mul_comm (X * Y) Z, Int.mul_comm X Y, Int.mul_assoc]
          omega
        refine ⟨_, hb, ?_⟩
        rw [name_list hb, r0, r1, r2, ← toBA_data s]
        congr 1
        rw [q0, q1, q2] at hj
        simpa [joinC] using hj
      · left
        rw [if_neg hin, if_pos (by decide)]
  · left
    rw [if_pos]
    simp only [List.length_map, bne_iff_ne, ne_eq]
    omega
theorem impl_parse_l {X Y Z : Int} (hg : gridB X Y Z = true) (s : ByteArray) (n : Nat) (hn : X * Y * Z = (n : Int)) : ∀ (d k i : Nat), i + d = n → d < k →
    (∃ j : Int, (i : Int) ≤ j ∧ hasB X Y Z j = true ∧ nameV X Y j = s ∧ impl_ParseBlock.l0 k s (i : Int) X Y Z = some (j, true)) ∨ ((∀ j : Int, (i : Int) ≤ j → hasB X Y Z j = true → nameV X Y j ≠ s) ∧ impl_ParseBlock.l0 k s (i : Int) X Y Z = some (0, false)) := by
  have hg' := grid_pos hg
  intro d
  induction d with
  | zero =>
    intro k i hi hk
    obtain ⟨k, rfl⟩ := k_succ (by omega : 0 < k)
    right
    refine ⟨fun j hj hb => ?_, ?_⟩
    · have := hasB_t hb; omega
    · rw [impl_ParseBlock.l0, impl_blocksOf_v hg, Option.bind_some, if_neg (by omega)]
  | succ d ih =>
    intro k i hi hk
    obtain ⟨k, rfl⟩ := k_succ (by omega : 0 < k)
    have hb := hasB_of hg (by omega : 0 ≤ (i : Int)) (by omega)
    rw [impl_ParseBlock.l0, impl_blocksOf_v hg, Option.bind_some, if_pos (by omega), impl_blockName_v hb, Option.bind_some, w64_succ (by omega), ByteArray.toList_eq, ByteArray.toList_eq]
    by_cases c : nameV X Y (i : Int) = s
    · left
      exact ⟨(i : Int), Int.le_refl _, hb, c, by rw [c, if_pos rfl]⟩
    · have c' : ¬ (nameV X Y (i : Int)).data.toList = s.data.toList := fun e => c (by rw [← toBA_data (nameV X Y (i : Int)), e, toBA_data])
      rw [if_neg c']
      rcases ih k (i + 1) (by omega) (by omega) with ⟨j, hj, r⟩ | ⟨hno, r⟩
      · exact .inl ⟨j, by omega, r⟩
      · refine .inr ⟨fun j hj hbj => ?_, r⟩
        by_cases e : j = (i : Int)
        · rw [e]; exact c
        · exact hno j (by omega) hbj
theorem parse_v (X Y Z : Int) (s : ByteArray) (hs : s.size ≤ 1048576) (k : Nat) (hk : 1048600 < k) : ∃ r, spec_ParseBlock.f k X Y Z s = some r ∧ impl_ParseBlock.f k X Y Z s = some r := by
  cases hg : gridB X Y Z with
  | false =>
    obtain ⟨k, rfl⟩ := k_succ (by omega : 0 < k)
    refine ⟨(0, false), ?_, ?_⟩
    · unfold spec_ParseBlock.f
      rw [spec_l1Split_v _ hs (by omega), Option.bind_some, spec_grGood_v, hg, Option.bind_some, if_neg (by decide), spec_ParseBlock.j0, if_pos rfl]
    · unfold impl_ParseBlock.f
      rw [impl_IsGrid_v, hg, Option.bind_some, if_neg (by decide)]
  | true =>
    have hg' := grid_pos hg
    have hi : impl_ParseBlock.f k X Y Z s = impl_ParseBlock.l0 k s ((0 : Nat) : Int) X Y Z := by
      unfold impl_ParseBlock.f
      rw [impl_IsGrid_v, hg, Option.bind_some, if_pos rfl]; rfl
    rcases impl_parse_l hg s (X * Y * Z).toNat (by omega) (X * Y * Z).toNat k 0 (by omega) (by omega) with ⟨j, _, hb, hn, e⟩ | ⟨hno, e⟩
    · exact ⟨(j, true), by rw [← hn]; exact spec_parse_name hb k hk, by rw [hi, e]⟩
    · refine ⟨(0, false), ?_, by rw [hi, e]⟩
      rcases spec_parse_back hg s hs k hk with h | ⟨j, hb, hn⟩
      · exact h
      · exact absurd hn (hno j (by have := hasB_t hb; omega) hb)
theorem impl_PlaceOf_v {X Y Z i : Int} : impl_PlaceOf.f X Y Z i = some (if hasB X Y Z i = true then (i % X, i / X % Y, i / X / Y, true) else (0, 0, 0, false)) := by
  unfold impl_PlaceOf.f
  rw [impl_hasBlock_v, Option.bind_some]
  cases h : hasB X Y Z i with
  | false => simp
  | true => simp [impl_placeOf_v h]
theorem spec_PlaceOf_v {X Y Z i : Int} : spec_PlaceOf.f X Y Z i = some (if hasB X Y Z i = true then (i % X, i / X % Y, i / X / Y, true) else (0, 0, 0, false)) := by
  unfold spec_PlaceOf.f
  rw [spec_grHas_v, Option.bind_some]
  cases h : hasB X Y Z i with
  | false => simp
  | true => simp [spec_grX_v h, spec_grY_v h, spec_grZ_v h]
theorem impl_BlockCount_v {X Y Z : Int} (h : gridB X Y Z = true) : impl_BlockCount.f X Y Z = some (X * Y * Z, true) := by
  unfold impl_BlockCount.f
  rw [impl_IsGrid_v, h, Option.bind_some, if_pos rfl, impl_blocksOf_v h, Option.bind_some]
theorem lev_lt {X Y Z i : Int} (h : hasB X Y Z i = true) : i / X / Y * X * Y + (i / X % Y * X + i % X) = i ∧ 0 ≤ i / X % Y * X + i % X ∧ i / X % Y * X + i % X < X * Y := by
  obtain ⟨⟨p1, p2⟩, ⟨p3, p4⟩, ⟨p5, p6⟩, p7, p8⟩ := place_bd h
  have f := place_fwd X Y i
  rw [Int.add_mul, Int.mul_right_comm, Int.add_assoc] at f
  have a : i / X % Y * X ≤ (Y - 1) * X := Int.mul_le_mul_of_nonneg_right (by omega) (by omega)
  have b : 0 ≤ i / X % Y * X := Int.mul_nonneg p3 (by omega)
  rw [Int.sub_mul, Int.one_mul, Int.mul_comm Y X] at a
  exact ⟨f, by omega, by omega⟩
theorem mem_level {X Y Z i : Int} (h : hasB X Y Z i = true) : i ∈ levelV X Y (i / X / Y) := by
  obtain ⟨f, a, b⟩ := lev_lt h
  unfold levelV
  rw [List.mem_map]
  exact ⟨(i / X % Y * X + i % X).toNat, List.mem_range.2 (by omega), by omega⟩
theorem mem_col {X Y Z i : Int} (h : hasB X Y Z i = true) : i ∈ colV X Y Z (i % X) (i / X % Y) := by
  obtain ⟨⟨p1, p2⟩, ⟨p3, p4⟩, ⟨p5, p6⟩, p7, p8⟩ := place_bd h
  unfold colV
  rw [List.mem_map]
  refine ⟨(i / X / Y).toNat, List.mem_range.2 (by omega), ?_⟩
  rw [show (((i / X / Y).toNat : Nat) : Int) = i / X / Y by omega]
  exact place_fwd X Y i
theorem in_place {X Y Z i : Int} (h : hasB X Y Z i = true) : inB X Y Z (i % X) (i / X % Y) (i / X / Y) = true := by
  obtain ⟨⟨p1, p2⟩, ⟨p3, p4⟩, ⟨p5, p6⟩, p7, p8⟩ := place_bd h
  exact decide_eq_true ⟨p1, p2, p3, p4, p5, p6⟩
theorem DrawPlaceOfk_d {s : List Int} (hs : Bytes s) (hl : s.length ≤ 1048576) (k : Nat) : ∃ X Y Z i, spec_DrawPlaceOf.f (k + 1) s = some (X, Y, Z, i) ∧ -1 ≤ i ∧ i ≤ 120 := by
  unfold spec_DrawPlaceOf.f
  obtain ⟨X, Y, Z, p1, st1, e1, q0, q1⟩ := anyGridk_d hs hl 0 0 (by omega) (by omega) k
  rw [e1, Option.bind_some]
  dsimp only
  obtain ⟨v, p2, st2, e2, v0, v1, _, _⟩ := spec_l1Cur_block_d hs hl p1 st1 X Y Z (by omega) (by omega)
  rw [e2, Option.bind_some]
  exact ⟨X, Y, Z, v, rfl, v0, v1⟩
theorem DrawBlockAtk_d {s : List Int} (hs : Bytes s) (hl : s.length ≤ 1048576) (k : Nat) : ∃ r, spec_DrawBlockAt.f (k + 1) s = some r := by
  unfold spec_DrawBlockAt.f
  obtain ⟨X, Y, Z, p1, st1, e1, q0, q1⟩ := anyGridk_d hs hl 0 0 (by omega) (by omega) k
  rw [e1, Option.bind_some]
  dsimp only
  obtain ⟨v2, p2, st2, e2, _, _, r2, r2'⟩ := spec_l1Cur_pick_d hs hl p1 st1 5 (by omega) (by omega) (by omega)
  rw [e2, Option.bind_some]
  dsimp only
  obtain ⟨v3, p3, st3, e3, _, _, r3, r3'⟩ := spec_l1Cur_pick_d hs hl p2 st2 16 (by omega) (by omega) (by omega)
  rw [e3, Option.bind_some]
  dsimp only
  obtain ⟨v4, p4, st4, e4, _, _, r4, r4'⟩ := spec_l1Cur_pick_d hs hl p3 st3 4 (by omega) (by omega) (by omega)
  rw [e4, Option.bind_some]
  dsimp only
  obtain ⟨v5, p5, st5, e5, _, _, r5, r5'⟩ := spec_l1Cur_pick_d hs hl p4 st4 16 (by omega) (by omega) (by omega)
  rw [e5, Option.bind_some]
  dsimp only
  obtain ⟨v6, p6, st6, e6, _, _, r6, r6'⟩ := spec_l1Cur_pick_d hs hl p5 st5 4 (by omega) (by omega) (by omega)
  rw [e6, Option.bind_some]
  dsimp only
  obtain ⟨v7, p7, st7, e7, _, _, _, _⟩ := spec_l1Cur_pick_d hs hl p6 st6 16 (by omega) (by omega) (by omega)
  rw [e7, Option.bind_some]
  exact ⟨_, rfl⟩
theorem DrawIsGridk_d {s : List Int} (hs : Bytes s) (hl : s.length ≤ 1048576) (k : Nat) : ∃ r, spec_DrawIsGrid.f (k + 1) s = some r := by
  unfold spec_DrawIsGrid.f
  obtain ⟨X, Y, Z, p1, st1, e1, q0, q1⟩ := anyGridk_d hs hl 0 0 (by omega) (by omega) k
  rw [e1, Option.bind_some]
  exact ⟨_, rfl⟩
theorem DrawGridTextk_d {s : List Int} (hs : Bytes s) (hl : s.length ≤ 1048576) (k : Nat) : ∃ r, spec_DrawGridText.f (k + 1) s = some r := by
  unfold spec_DrawGridText.f
  obtain ⟨r, e⟩ := DrawIsGridk_d hs hl k
  rw [e, Option.bind_some]
  exact ⟨_, rfl⟩
theorem DrawLevelBlocksk_d {s : List Int} (hs : Bytes s) (hl : s.length ≤ 1048576) (k : Nat) : ∃ r, spec_DrawLevelBlocks.f (k + 1) s = some r := by
  unfold spec_DrawLevelBlocks.f
  obtain ⟨X, Y, Z, p1, st1, e1, q0, q1⟩ := anyGridk_d hs hl 0 0 (by omega) (by omega) k
  rw [e1, Option.bind_some]
  dsimp only
  obtain ⟨v2, p2, st2, e2, _, _, r2, r2'⟩ := spec_l1Cur_pick_d hs hl p1 st1 5 (by omega) (by omega) (by omega)
  rw [e2, Option.bind_some]
  dsimp only
  obtain ⟨v3, p3, st3, e3, _, _, r3, r3'⟩ := spec_l1Cur_pick_d hs hl p2 st2 16 (by omega) (by omega) (by omega)
  rw [e3, Option.bind_some]
  exact ⟨_, rfl⟩
theorem DrawColumnBlocksk_d {s : List Int} (hs : Bytes s) (hl : s.length ≤ 1048576) (k : Nat) : ∃ r, spec_DrawColumnBlocks.f (k + 1) s = some r := by
  unfold spec_DrawColumnBlocks.f
  obtain ⟨X, Y, Z, p1, st1, e1, q0, q1⟩ := anyGridk_d hs hl 0 0 (by omega) (by omega) k
  rw [e1, Option.bind_some]
  dsimp only
  obtain ⟨v2, p2, st2, e2, _, _, r2, r2'⟩ := spec_l1Cur_pick_d hs hl p1 st1 5 (by omega) (by omega) (by omega)
  rw [e2, Option.bind_some]
  dsimp only
  obtain ⟨v3, p3, st3, e3, _, _, r3, r3'⟩ := spec_l1Cur_pick_d hs hl p2 st2 16 (by omega) (by omega) (by omega)
  rw [e3, Option.bind_some]
  dsimp only
  obtain ⟨v4, p4, st4, e4, _, _, r4, r4'⟩ := spec_l1Cur_pick_d hs hl p3 st3 4 (by omega) (by omega) (by omega)
  rw [e4, Option.bind_some]
  dsimp only
  obtain ⟨v5, p5, st5, e5, _, _, r5, r5'⟩ := spec_l1Cur_pick_d hs hl p4 st4 16 (by omega) (by omega) (by omega)
  rw [e5, Option.bind_some]
  exact ⟨_, rfl⟩
theorem one_size (v : Int) : (strOfNums [v]).size = 1 := rfl
theorem spoilt_l {s : List Int} (hs : Bytes s) (hl : s.length ≤ 1048576) (w : ByteArray) (hw : 1 ≤ w.size) (hw' : w.size ≤ 100) : ∀ (n k : Nat) (t : ByteArray) (p st : Int), 2 * n + 2 ≤ k → n ≤ 2 → t.size + n ≤ 50010 → 0 ≤ p → p + 6 * n ≤ 999990000 →
    ∃ r p' st', spec_l1Cur_spoilt.l0 k t w (n : Int) s p st = some (r, p', st') ∧ r.size ≤ t.size + n ∧ p ≤ p' ∧ p' ≤ p + 6 * n := by
  intro n
  induction n with
  | zero =>
    intro k t p st hk _ ht h0 h1
    obtain ⟨k, rfl⟩ : ∃ m, k = m + 2 := ⟨k - 2, by omega⟩
    rw [spec_l1Cur_spoilt.l0, if_neg (by omega), spec_l1Cur_spoilt.j1, if_neg (by decide)]
    exact ⟨_, _, _, rfl, by omega, by omega, by omega⟩
  | succ n ih =>
    intro k t p st hk hn ht h0 h1
    obtain ⟨k, rfl⟩ : ∃ m, k = m + 2 := ⟨k - 2, by omega⟩
    rw [spec_l1Cur_spoilt.l0, if_pos (by omega), spec_l1Cur_spoilt.j1]
    by_cases c : (t.size : Int) > 0
    · rw [if_pos (decide_eq_true c)]
      obtain ⟨v, p1, st1, e1, v0, v1, r0, r1⟩ := spec_l1Cur_pick_d hs hl p st (t.size : Int) h0 (by omega) (by omega)
      rw [e1, Option.bind_some]
      dsimp only
      obtain ⟨u, p2, st2, e2, u0, u1, r2, r3⟩ := spec_l1Cur_pick_d hs hl p1 st1 (w.size : Int) (by omega) (by omega) (by omega)
      rw [e2, Option.bind_some]
      dsimp only
      rw [if_pos u0, if_pos (by omega), Option.bind_some]
      obtain ⟨z, p3, st3, e3, z0, z1, r4, r5⟩ := spec_l1Cur_pick_d hs hl p2 st2 3 (by omega) (by omega) (by omega)
      rw [e3, Option.bind_some]
      dsimp only
      have hv : v < (t.size : Int) := by omega
      rw [w64 (x := v + 1) (by omega) (by omega), w64 (by omega) (by omega), show ((n + 1 : Nat) : Int) - 1 = (n : Int) by omega]
      have a1 : (t.extract 0 v.toNat).size = v.toNat := by rw [ByteArray.size_extract]; omega
      have a2 : (t.extract v.toNat t.size).size = t.size - v.toNat := by rw [ByteArray.size_extract]; omega
      have a3 : (t.extract (v + 1).toNat t.size).size = t.size - (v.toNat + 1) := by rw [ByteArray.size_extract]; omega
      have a4 := one_size (bt w u)
      by_cases c0 : z = 0
      · rw [if_pos c0, if_pos v0, if_pos (by omega), if_pos (by omega), if_pos (by rw [ByteArray.size_append]; omega)]
        obtain ⟨r, p', st', e, q1, q2, q3⟩ := ih k (((t.extract 0 v.toNat) ++ (strOfNums [bt w u])) ++ (t.extract v.toNat t.size)) p3 st3 (by omega) (by omega) (by rw [ByteArray.size_append, ByteArray.size_append]; omega) (by omega) (by omega)
        rw [ByteArray.size_append, ByteArray.size_append] at q1
        exact ⟨r, p', st', e, by omega, by omega, by omega⟩
      · rw [if_neg c0]
        by_cases c1 : z = 1
        · rw [if_pos c1, if_pos v0, if_pos (by omega), if_pos (by omega), if_pos (by omega), if_pos (by omega), if_pos (by rw [ByteArray.size_append]; omega)]
          obtain ⟨r, p', st', e, q1, q2, q3⟩ := ih k (((t.extract 0 v.toNat) ++ (strOfNums [bt w u])) ++ (t.extract (v + 1).toNat t.size)) p3 st3 (by omega) (by omega) (by rw [ByteArray.size_append, ByteArray.size_append]; omega) (by omega) (by omega)
          rw [ByteArray.size_append, ByteArray.size_append] at q1
          exact ⟨r, p', st', e, by omega, by omega, by omega⟩
        · rw [if_neg c1, if_pos v0, if_pos (by omega), if_pos (by omega), if_pos (by omega), if_pos (by omega)]
          obtain ⟨r, p', st', e, q1, q2, q3⟩ := ih k ((t.extract 0 v.toNat) ++ (t.extract (v + 1).toNat t.size)) p3 st3 (by omega) (by omega) (by rw [ByteArray.size_append]; omega) (by omega) (by omega)
          rw [ByteArray.size_append] at q1
          exact ⟨r, p', st', e, by omega, by omega, by omega⟩
    · rw [if_neg (by rw [decide_eq_true_eq]; exact c)]
      exact ⟨_, _, _, rfl, by omega, by omega, by omega⟩
theorem spoilt_d {s : List Int} (hs : Bytes s) (hl : s.length ≤ 1048576) (w : ByteArray) (hw : 1 ≤ w.size) (hw' : w.size ≤ 100) (k : Nat) (hk : 6 ≤ k) (t : ByteArray) (p st : Int) (ht : t.size ≤ 50000) (h0 : 0 ≤ p) (h1 : p ≤ 999980000) :
    ∃ r p' st', spec_l1Cur_spoilt.f k s p st t w = some (r, p', st') ∧ r.size ≤ t.size + 2 := by
  unfold spec_l1Cur_spoilt.f
  obtain ⟨v, p1, st1, e1, v0, v1, r0, r1⟩ := spec_l1Cur_pick_d hs hl p st 2 h0 (by omega) (by omega)
  rw [e1, Option.bind_some]
  dsimp only
  rw [w64 (by omega) (by omega)]
  have : v = 0 ∨ v = 1 := by omega
  rcases this with rfl | rfl
  · obtain ⟨r, p', st', e, q, _, _⟩ := spoilt_l hs hl w hw hw' 1 k t p1 st1 (by omega) (by omega) (by omega) (by omega) (by omega)
    exact ⟨r, p', st', e, by omega⟩
  · obtain ⟨r, p', st', e, q, _, _⟩ := spoilt_l hs hl w hw hw' 2 k t p1 st1 (by omega) (by omega) (by omega) (by omega) (by omega)
    exact ⟨r, p', st', e, by omega⟩
theorem DrawParseBlockk_d {s : List Int} (hs : Bytes s) (hl : s.length ≤ 1048576) (k : Nat) (hk : 8 ≤ k) : ∃ X Y Z t, spec_DrawParseBlock.f k s = some (X, Y, Z, t) ∧ t.size ≤ 100 := by
  obtain ⟨k, rfl⟩ := k_succ (by omega : 0 < k)
  unfold spec_DrawParseBlock.f
  obtain ⟨X, Y, Z, p1, st1, e1, q0, q1⟩ := anyGridk_d hs hl 0 0 (by omega) (by omega) k
  rw [e1, Option.bind_some]
  dsimp only
  rw [spec_grGood_v, Option.bind_some]
  cases hg : gridB X Y Z with
  | false => rw [if_neg (by decide)]; exact ⟨_, _, _, _, rfl, by decide⟩
  | true =>
    have hp := grid_pos hg
    rw [if_pos rfl, spec_grCount_v hg, Option.bind_some]
    obtain ⟨v, p2, st2, e2, v0, v1, r2, r2'⟩ := spec_l1Cur_pick_d hs hl p1 st1 (X * Y * Z) (by omega) (by omega) (by omega)
    rw [e2, Option.bind_some]
    dsimp only
    have hb := hasB_of hg v0 (by omega)
    rw [spec_grName_v hb, Option.bind_some]
    have hn : (nameV X Y v).size = 5 := by rw [name_list hb, toBA_size]; rfl
    obtain ⟨b, p3, st3, e3, r3, r3'⟩ := spec_l1Cur_one_d hs hl p2 st2 3 (by omega) (by omega) (by omega)
    rw [e3, Option.bind_some]
    dsimp only
    cases b with
    | false => rw [if_neg (by decide)]; exact ⟨_, _, _, _, rfl, by omega⟩
    | true =>
      rw [if_pos rfl]
      obtain ⟨r, p', st', e, q⟩ := spoilt_d hs hl (⟨#[44, 48, 49, 50, 57]⟩ : ByteArray) (by decide) (by decide) (k + 1) (by omega) (nameV X Y v) p3 st3 (by omega) (by omega) (by omega)
      rw [e, Option.bind_some]
      exact ⟨_, _, _, _, rfl, by dsimp only; omega⟩
theorem impl_parse_name {X Y Z j : Int} (h : hasB X Y Z j = true) (k : Nat) (hk : 1048600 < k) : impl_ParseBlock.f k X Y Z (nameV X Y j) = some (j, true) := by
  obtain ⟨r, e1, e2⟩ := parse_v X Y Z (nameV X Y j) (by rw [name_list h, toBA_size]; simp) k hk
  rw [spec_parse_name h k hk] at e1
  rw [e2, ← e1]
theorem grids_j2 {s : List Int} (hs : Bytes s) (hl : s.length ≤ 1048576) (k : Nat) (hk : 1048700 < k) : laws_FnGrids.j2 k s = some true := by
  obtain ⟨k, rfl⟩ := k_succ (by omega : 0 < k)
  rw [laws_FnGrids.j2]
  obtain ⟨k', rfl⟩ := k_succ (by omega : 0 < k)
  obtain ⟨⟨g1, g2, g3, g4, g5, g6⟩, e1⟩ := DrawBlockAtk_d hs hl k'
  rw [e1, Option.bind_some]
  dsimp only
  rw [impl_BlockAt_v, Option.bind_some, spec_BlockAt_v, Option.bind_some]
  obtain ⟨X, Y, Z, t, e2, ht⟩ := DrawParseBlockk_d hs hl (k' + 1) (by omega)
  rw [e2, Option.bind_some]
  dsimp only
  obtain ⟨r, e3, e4⟩ := parse_v X Y Z t (by omega) (k' + 1) (by omega)
  rw [e4, Option.bind_some, e3, Option.bind_some]
  obtain ⟨⟨u1, u2, u3⟩, e5⟩ := DrawGridTextk_d hs hl k'
  rw [e5, Option.bind_some]
  dsimp only
  rw [impl_GridText_v, Option.bind_some, spec_GridText_v, Option.bind_some]
  obtain ⟨⟨v1, v2, v3, v4⟩, e6⟩ := DrawLevelBlocksk_d hs hl k'
  rw [e6, Option.bind_some]
  dsimp only
  rw [impl_LevelBlocks_v _ _ _ _ (by omega), Option.bind_some, spec_LevelBlocks_v _ _ _ _ (by omega), Option.bind_some]
  obtain ⟨⟨x1, x2, x3, x4, x5⟩, e7⟩ := DrawColumnBlocksk_d hs hl k'
  rw [e7, Option.bind_some]
  dsimp only
  rw [impl_ColumnBlocks_v _ _ _ _ _ (by omega), Option.bind_some, spec_ColumnBlocks_v _ _ _ _ _ (by omega), Option.bind_some]
  have h1 := levelR_len v1 v2 v3 v4
  have h2 := colR_len x1 x2 x3 x4 x5
  rw [laws_sameInts_v _ (by omega) (by omega), laws_sameInts_v _ (by omega) (by omega)]
  simp
theorem grids_j1 {s : List Int} (hs : Bytes s) (hl : s.length ≤ 1048576) {X Y Z i : Int} (h : hasB X Y Z i = true) (k : Nat) (hk : 1048800 < k) : laws_FnGrids.j1 k s i (i % X) (i / X % Y) (i / X / Y) false X Y Z = some true := by
  obtain ⟨k, rfl⟩ := k_succ (by omega : 0 < k)
  obtain ⟨⟨p1, p2⟩, ⟨p3, p4⟩, ⟨p5, p6⟩, p7, p8⟩ := place_bd h
  have hg := (hasB_t h).1
  obtain ⟨h1, h2, h3, h4, h5, h6, h7⟩ := gridB_t hg
  obtain ⟨m1, m2, m3, m4, m5, m6⟩ := lev_w hg p5 p6
  rw [laws_FnGrids.j1, if_neg (by decide), impl_LevelBlocks_v _ _ _ _ (by omega), Option.bind_some, impl_ColumnBlocks_v _ _ _ _ _ (by omega), Option.bind_some]
  rw [show levelR X Y Z (i / X / Y) = (levelV X Y (i / X / Y), true) from if_pos ⟨hg, p5, p6⟩, show colR X Y Z (i % X) (i / X % Y) = (colV X Y Z (i % X) (i / X % Y), true) from if_pos ⟨hg, ⟨p1, p2⟩, p3, p4⟩]
  dsimp only
  have n1 := levelV_len X Y (i / X / Y)
  have n2 := colV_len X Y Z (i % X) (i / X % Y)
  rw [if_pos rfl, if_pos rfl, if_pos (by rw [n1, m4]; omega), if_pos (by rw [n2]; omega), laws_pIn_v _ _ (by omega) (by omega), Option.bind_some, decide_eq_true (mem_level h), if_pos rfl, laws_pIn_v _ _ (by omega) (by omega), Option.bind_some, decide_eq_true (mem_col h), if_pos rfl]
  exact grids_j2 hs hl k (by omega)
theorem pure_FnGrids (l0 l1 : List Int) (hm0 : l0.length ≤ maxLen) (hw0 : ∀ x ∈ l0, (Lit.int .u8 x).wf = true) (hm1 : l1.length ≤ maxLen) (hw1 : ∀ x ∈ l1, (Lit.int .u8 x).wf = true) : ∃ k, laws_FnGrids.f k l0 l1 = some true := by
  obtain ⟨K, hK⟩ : ∃ K : Nat, 1049000 < K := ⟨_, Nat.lt_succ_self _⟩
  refine ⟨K, ?_⟩
  have hs0 := bytes_of_wf hw0
  have hs1 := bytes_of_wf hw1
  unfold laws_FnGrids.f
  rcases laws_big_v l0 l1 hm0 hm1 with e | ⟨e, hle⟩
  · rw [e, Option.bind_some, if_pos rfl]
  · rw [e, Option.bind_some, if_neg (by decide)]
    obtain ⟨K', rfl⟩ := k_succ (by omega : 0 < K)
    obtain ⟨X, Y, Z, i, e1, _, _⟩ := DrawPlaceOfk_d hs0 (by omega) K'
    rw [e1, Option.bind_some]
    dsimp only
    rw [impl_PlaceOf_v, Option.bind_some, spec_PlaceOf_v, Option.bind_some, impl_IsGrid_v, Option.bind_some, spec_IsGrid_v, Option.bind_some]
    simp only [bne_self_eq_false, if_true, if_false, Bool.false_eq_true]
    rw [laws_FnGrids.j0, if_neg (by decide)]
    cases h : hasB X Y Z i with
    | false =>
      rw [if_neg (by simp)]
      exact grids_j2 hs1 (by omega) K' (by omega)
    | true =>
      simp only [if_true]
      have hg := (hasB_t h).1
      obtain ⟨h1, h2, h3, h4, h5, h6, h7⟩ := gridB_t hg
      rw [impl_BlockAt_v, Option.bind_some, impl_BlockName_v, Option.bind_some]
      rw [show bnameR X Y Z i = (nameV X Y i, true) from if_pos h, show atR X Y Z (i % X) (i / X % Y) (i / X / Y) = ((i / X / Y * Y + i / X % Y) * X + i % X, true) from if_pos ⟨hg, in_place h⟩]
      dsimp only
      rw [impl_parse_name h K' (by omega), Option.bind_some, impl_BlockCount_v hg, Option.bind_some]
      dsimp only
      rw [place_fwd, if_pos rfl, if_pos rfl, if_pos rfl, if_pos rfl, if_pos rfl, if_pos rfl, wrapXYZ h1 h2 h3 h4 h5 h6, bne_self_eq_false]
      exact grids_j1 hs1 (by omega) h K' (by omega)

end Go.Proofs.YtgeoecfphklcmaaDoor.Pure
